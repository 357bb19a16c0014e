/- slices.SortStableFunc over a list of at most twenty rows, with the program's comparison: the insertion sort's order; no other condition than that bound. -/
import Derived.Test.YthdncdfgonbfeaaJCirc2
import Derived.WalkMore
import Derived.Outline
namespace Go.Proofs.Ythdncdfgonbfeaa.Circ
open Go.RowKit Go.Proofs.Ythdncdfgonbfeaa.QWalk Go.Proofs.YthdncdfgonbfeaaW.PrintWords Go.Proofs.YthdncdfgonbfeaaW.PrintLast Go.Proofs.YthdncdfgonbfeaaW.PrintMore
attribute [local go_sem] max2_int min2_int max_two min_two max_three min_three max_four min_four   -- for this text's walks alone
set_option linter.unusedVariables false
set_option linter.unusedSimpArgs false
/-- Between the sort's steps: the rows, and all but their own list as it was. -/
structure InvS (w W : World) (v : Value) (wr : World) (ys : List (List Int)) : Prop where
 rows : Kd.S (Kd.slice 3 (Kd.int .i64)) 23 wr w.heap.size (fun _ => True) v ys
 below : Below w.heap.size w wr
 kept : Kept W wr (fun k => some k = v.ownBlock)
def PostS (w W : World) (v : Value) (r : List (List Int)) (e : Ending) (w' : World) : Prop := e = .returned (.tuple #[]) ∧ InvS w W v w' r
section
variable {w W wr w1 : World} {v : Value} {ys : List (List Int)}
end
theorem swp_mem {ys : List (List Int)} {i j : Nat} (hi : i < ys.length) (hj : j < ys.length) {P : List Int → Prop} (h : ∀ y ∈ ys, P y) : ∀ y ∈ swp ys i j [], P y := by
 intro y hy
 have gi : ys.getD i [] ∈ ys := by rw [List.getD_eq_getElem?_getD, List.getElem?_eq_getElem hi]; exact List.getElem_mem hi
 have gj : ys.getD j [] ∈ ys := by rw [List.getD_eq_getElem?_getD, List.getElem?_eq_getElem hj]; exact List.getElem_mem hj
 rcases List.mem_or_eq_of_mem_set hy with hy | rfl
 ·rcases List.mem_or_eq_of_mem_set hy with hy | rfl
  ·exact h y hy
  ·exact h _ gj
 ·exact h _ gi
theorem getD_in {ys : List (List Int)} {i : Nat} (hi : i < ys.length) {P : List Int → Prop} (h : ∀ y ∈ ys, P y) : P (ys.getD i []) := h _ (by rw [List.getD_eq_getElem?_getD, List.getElem?_eq_getElem hi]; exact List.getElem_mem hi)
end Go.Proofs.Ythdncdfgonbfeaa.Circ
