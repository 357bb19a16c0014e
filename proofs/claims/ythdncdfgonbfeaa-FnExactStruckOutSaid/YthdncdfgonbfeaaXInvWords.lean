import Derived.Test.YthdncdfgonbfeaaXInv
import Derived.Test.YthdncdfgonbfeaaXFootNe
namespace Go.Proofs.YthdncdfgonbfeaaW.PrintWords
open Go.RowKit
end Go.Proofs.YthdncdfgonbfeaaW.PrintWords
namespace Go.Proofs.YthdncdfgonbfeaaW.PrintLast
section
variable {ops : Array Oper} {a : Act} {o og : Oper} {g : Nat} {t : Tmp} {u : Bool}
end
end Go.Proofs.YthdncdfgonbfeaaW.PrintLast
