/- FracText of the program and of the reference write the same, for every fraction of two whole numbers of 64 bits; no condition. -/
import Derived.Test.YtfpohibbmcfnkaaDoorTxRead
namespace Go.Proofs.YtfpohibbmcfnkaaDoor.Tx
open Go Go.RowKit Go.Proofs.YtfpohibbmcfnkaaDoor.QText Go.Proofs.YtfpohibbmcfnkaaDoorW.PrintWords Go.Proofs.YtfpohibbmcfnkaaDoorW.PrintLast Go.Proofs.YtfpohibbmcfnkaaDoorW.PrintMore
set_option linter.unusedVariables false
set_option linter.unusedSimpArgs false
theorem FnExactFracText (a b : Int) : ∃ k, laws_FnExactFracText.f k a b = some true := by
  refine Ev.rounds ?_
  have h1 := specText_f a b
  have h2 := implFracText_f a b
  refine Ev.congr (f := fun k => (spec_FracText.f k a b).bind fun t => (impl_FracText.f k a b).bind fun u => if u.toList = t.toList then some true else some false) (fun k => by unfold laws_FnExactFracText.f laws_toFrac.f; rfl) ?_
  exact Ev.bind h1 (Ev.bind h2 (evPos rfl (Ev.now true)))
end Go.Proofs.YtfpohibbmcfnkaaDoor.Tx
