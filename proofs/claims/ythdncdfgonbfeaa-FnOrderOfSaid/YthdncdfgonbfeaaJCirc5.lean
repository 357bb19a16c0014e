/- impl.circles: what the plain functions tell, as a list of rows of its own; no condition. -/
import Derived.Test.YthdncdfgonbfeaaJCirc4
import Derived.Test.YthdncdfgonbfeaaJCirc1
import Derived.WalkMore
import Derived.Outline
import Derived.Laws.EntriesVeiled
namespace Go.Proofs.Ythdncdfgonbfeaa.Circ
open Go.RowKit Go.Proofs.Ythdncdfgonbfeaa.QWalk Go.Proofs.YthdncdfgonbfeaaW.PrintWords Go.Proofs.YthdncdfgonbfeaaW.PrintLast Go.Proofs.YthdncdfgonbfeaaW.PrintMore
attribute [local go_sem] max2_int min2_int max_two min_two max_three min_three max_four min_four   -- for this text's walks alone
set_option linter.unusedVariables false
set_option linter.unusedSimpArgs false
/-- The walks from the banks i, i + 1, ..: m are left. -/
def startsF (k : Nat) (d : List (List Int)) : Nat → Nat → List (List Int) → Option (List (List Int))
 | 0, _, o => some o
 | m + 1, i, o => (walkF d k [(i : Int)] o).bind fun o1 => startsF k d m (i + 1) o1
/-- impl.circles as a plain function. -/
def circF (k : Nat) (c : List Int) (d : List (List Int)) : Option (List (List Int)) := (startsF k d c.length 0 []).bind fun o => if o.length ≤ 20 ∧ (∀ x ∈ o, x.length ≤ 1000) then some (sortI (o.length - 1) 1 o) else none
/-- What a call leaves. -/
def PostC (w : World) (r : List (List Int)) (e : Ending) (w' : World) : Prop := ∃ v0_ : Value, e = .returned (v0_) ∧ Kd.S (Kd.slice 3 (Kd.int .i64)) 23 w' w.heap.size (fun _ => True) v0_ r ∧ Below w.heap.size w w'
end Go.Proofs.Ythdncdfgonbfeaa.Circ
