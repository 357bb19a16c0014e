/- Constants of the program and of the reference are the same; no condition. -/
import Derived.Test.YtofcigjigflnlaaPFnExactConstantsx1
namespace Go.Proofs.Ytofcigjigflnlaa.Pure
open Go.RowKit Go.Proofs.Ytofcigjigflnlaa.PFnExactConstants Go.Proofs.YtofcigjigflnlaaW.PrintWords Go.Proofs.YtofcigjigflnlaaW.PrintLast Go.Proofs.YtofcigjigflnlaaW.PrintMore
set_option linter.unusedVariables false
set_option linter.unusedSimpArgs false


theorem FnExactConstants : laws_FnExactConstants.Pure := by
  unfold laws_FnExactConstants.Pure laws_FnExactConstants.f
  decide

end Go.Proofs.Ytofcigjigflnlaa.Pure
