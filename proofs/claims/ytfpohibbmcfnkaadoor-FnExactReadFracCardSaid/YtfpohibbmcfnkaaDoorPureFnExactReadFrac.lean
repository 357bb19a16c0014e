/- ReadFrac of the program and of the reference read the same, for every text that can lie in memory; no condition. -/
import Derived.Test.YtfpohibbmcfnkaaDoorTxRead
namespace Go.Proofs.YtfpohibbmcfnkaaDoor.Tx
open Go Go.RowKit Go.Proofs.YtfpohibbmcfnkaaDoor.QText Go.Proofs.YtfpohibbmcfnkaaDoorW.PrintWords Go.Proofs.YtfpohibbmcfnkaaDoorW.PrintLast Go.Proofs.YtfpohibbmcfnkaaDoorW.PrintMore
set_option linter.unusedVariables false
set_option linter.unusedSimpArgs false
theorem eqFrac_f (a b : Int) : laws_eqFrac.f a b a b = some true := by unfold laws_eqFrac.f; rw [if_pos rfl, if_pos rfl]
theorem FnExactReadFrac : laws_FnExactReadFrac.Pure := by
  intro s _
  rw [T_of s]
  generalize s.data.toList = l
  refine Ev.rounds ?_
  by_cases h : ((T l).size : Int) > 1048576
  · exact Ev.congr (fun k => by unfold laws_FnExactReadFrac.f; rfl) (evPos h (Ev.now true))
  · have hl : l.length ≤ 2000000 := by rw [T_size] at h; omega
    obtain ⟨r, e1, e2, _⟩ := read_same l hl
    refine Ev.congr (fun k => by unfold laws_FnExactReadFrac.f; rfl) (evNeg h (Ev.bind e1 (Ev.bind e2 ?_)))
    rw [eqFrac_f]
    simp only [Option.bind_some]
    exact evPos trivial (evNeg (by simp) (Ev.now true))
end Go.Proofs.YtfpohibbmcfnkaaDoor.Tx
