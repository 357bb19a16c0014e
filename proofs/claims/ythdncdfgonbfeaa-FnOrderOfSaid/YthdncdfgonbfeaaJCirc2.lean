/- Two rows of a list of rows are exchanged; the order of rows as the program compares them, and the insertion sort as plain functions; no condition. -/
import Derived.Test.YthdncdfgonbfeaaJCirc0
namespace Go.Proofs.Ythdncdfgonbfeaa.Circ
open Go.RowKit Go.Proofs.Ythdncdfgonbfeaa.QWalk Go.Proofs.YthdncdfgonbfeaaW.PrintWords Go.Proofs.YthdncdfgonbfeaaW.PrintLast Go.Proofs.YthdncdfgonbfeaaW.PrintMore
set_option linter.unusedVariables false
set_option linter.unusedSimpArgs false
/-- Rows i and j change their places. -/
def swp {α : Type} (xs : List α) (i j : Nat) (z : α) : List α := (xs.set i (xs.getD j z)).set j (xs.getD i z)
theorem swp_len {α : Type} (xs : List α) (i j : Nat) (z : α) : (swp xs i j z).length = xs.length := by simp [swp]
/-- The lesser number at the first difference first. -/
def lexI : List Int → List Int → Bool
 | x :: xs, y :: ys => if x = y then lexI xs ys else decide (x < y)
 | _, _ => false
/-- Shorter rows first, then by their numbers. -/
def befI (a b : List Int) : Bool := if a.length = b.length then lexI a b else decide (a.length < b.length)
/-- The row at j goes down to its place. -/
def sinkI : Nat → List (List Int) → List (List Int)
 | 0, xs => xs
 | j + 1, xs => if befI (xs.getD (j + 1) []) (xs.getD j []) = true then sinkI j (swp xs (j + 1) j []) else xs
/-- The insertion sort, from k on; m rows are left. -/
def sortI : Nat → Nat → List (List Int) → List (List Int)
 | 0, _, xs => xs
 | m + 1, k, xs => sortI m (k + 1) (sinkI k xs)
theorem sinkI_len : ∀ j xs, (sinkI j xs).length = xs.length
 | 0, xs => rfl
 | j + 1, xs => by
  rw [sinkI]
  split
  ·rw [sinkI_len, swp_len]
  ·rfl
theorem lexI_drop (a b : List Int) (i : Nat) (ha : i < a.length) (hb : i < b.length) : lexI (a.drop i) (b.drop i) = if a.getD i 0 = b.getD i 0 then lexI (a.drop (i + 1)) (b.drop (i + 1)) else decide (a.getD i 0 < b.getD i 0) := by
 rw [List.drop_eq_getElem_cons ha, List.drop_eq_getElem_cons hb, lexI, List.getD_eq_getElem?_getD, List.getD_eq_getElem?_getD, List.getElem?_eq_getElem ha, List.getElem?_eq_getElem hb]; rfl
end Go.Proofs.Ythdncdfgonbfeaa.Circ
