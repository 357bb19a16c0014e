/- slices.SortStableFunc over a list of at most twenty rows, with the program's comparison: the insertion sort's order; no other condition than that bound. -/
import Derived.Test.YthdncdfgonbfeaaJCirc3
import Derived.WalkMore
import Derived.Outline
namespace Go.Proofs.Ythdncdfgonbfeaa.Circ
open Go.RowKit Go.Proofs.Ythdncdfgonbfeaa.QWalk Go.Proofs.YthdncdfgonbfeaaW.PrintWords Go.Proofs.YthdncdfgonbfeaaW.PrintLast Go.Proofs.YthdncdfgonbfeaaW.PrintMore
attribute [local go_sem] max2_int min2_int max_two min_two max_three min_three max_four min_four   -- for this text's walks alone
set_option linter.unusedVariables false
set_option linter.unusedSimpArgs false
end Go.Proofs.Ythdncdfgonbfeaa.Circ
