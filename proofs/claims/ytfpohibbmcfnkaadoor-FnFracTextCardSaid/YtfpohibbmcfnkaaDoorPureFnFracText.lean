/- The text of every drawn fraction is read as that fraction; for every list of bytes; no condition. -/
import Derived.Test.YtfpohibbmcfnkaaDoorTxDraw
namespace Go.Proofs.YtfpohibbmcfnkaaDoor.Tx
open Go Go.RowKit Go.Proofs.YtfpohibbmcfnkaaDoor.QText Go.Proofs.YtfpohibbmcfnkaaDoorW.PrintWords Go.Proofs.YtfpohibbmcfnkaaDoorW.PrintLast Go.Proofs.YtfpohibbmcfnkaaDoorW.PrintMore
set_option linter.unusedVariables false
set_option linter.unusedSimpArgs false
theorem FnFracText : laws_FnFracText.Pure := by
  intro l _ _ hs
  obtain ⟨a, b, hd⟩ := drawFracText_f l hs
  have h1 := specText_f a b
  have h2 := implFracText_f a b
  refine Ev.rounds (Ev.congr (fun k => by unfold laws_FnFracText.f; rfl) (evIte (fun _ => Ev.now true) (fun _ => Ev.bind hd (Ev.bind h2 (Ev.bind h1 (evPos rfl ?_))))))
  rw [T_toList]
  by_cases h : okF a b = true
  · rw [show txo a b = tx a b from if_pos h]
    refine evNeg (tx_ne a b) (Ev.bind (implRead_ok h) (evPos rfl ?_))
    simp only [beq_self_eq_true, Bool.and_self]
    exact Ev.now true
  · rw [show txo a b = [] from if_neg h]
    have ho : Ev (fun k => impl_FracOk.f k a b) false := ⟨9000000000000000001, fun k hk => (implFracOk_f k a b hk).trans (congrArg some (Bool.eq_false_iff.2 h))⟩
    have al : Ev (fun k => laws_alive.f k) true := ⟨9000000000000000001, fun k hk => alive_f k hk⟩
    exact evPos rfl (Ev.bind ho (evNeg (show ¬ (false = true) by decide) (Ev.bind al (Ev.now true))))
end Go.Proofs.YtfpohibbmcfnkaaDoor.Tx
