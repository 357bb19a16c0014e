/- A drawn text is read alike by the program and the reference; where it is read, FracText of what was read is the text, and with a slash behind it it is refused; for every list of bytes; no condition. -/
import Derived.Test.YtfpohibbmcfnkaaDoorTxDraw
namespace Go.Proofs.YtfpohibbmcfnkaaDoor.Tx
open Go Go.RowKit Go.Proofs.YtfpohibbmcfnkaaDoor.QText Go.Proofs.YtfpohibbmcfnkaaDoorW.PrintWords Go.Proofs.YtfpohibbmcfnkaaDoorW.PrintLast Go.Proofs.YtfpohibbmcfnkaaDoorW.PrintMore
set_option linter.unusedVariables false
set_option linter.unusedSimpArgs false
theorem FnReadFrac : laws_FnReadFrac.Pure := by
  intro l _ _ hs
  obtain ⟨t, ht, hd⟩ := drawReadFrac_f l hs
  obtain ⟨r, e1, e2, hr⟩ := read_same t (by omega)
  obtain ⟨r2, _, f2, hr2⟩ := read_same (t ++ [47]) (by simp; omega)
  have al : Ev (fun k => laws_alive.f k) true := ⟨9000000000000000001, fun k hk => alive_f k hk⟩
  have no2 : r2 = (0, 0, false) := by
    rcases hr2 with ⟨h, _⟩ | ⟨p, q, _, _, h⟩
    · exact h
    · exact absurd h.symm (tx_slash t p q)
  subst no2
  refine Ev.rounds (Ev.congr (fun k => by unfold laws_FnReadFrac.f; rfl) (evIte (fun _ => Ev.now true) (fun _ => Ev.bind hd (Ev.bind e2 (Ev.bind e1 ?_)))))
  refine evNeg (by simp) ?_
  rw [bne_self_eq_false]
  refine Ev.step (fun k => by rw [laws_FnReadFrac.j0]) ?_
  refine evNeg (by decide) ?_
  rcases hr with ⟨rfl, _⟩ | ⟨p, q, rfl, hok, hx⟩
  · refine evNeg (show ¬ (false = true) by decide) (evPos rfl (Ev.bind al (Ev.now true)))
  · refine evPos rfl (evPos (by rw [T_size]; omega) ?_)
    rw [slash, T_append]
    refine Ev.bind f2 ?_
    have h2 := implFracText_f p q
    rw [show txo p q = t from (if_pos hok).trans hx] at h2
    exact Ev.bind h2 (evPos rfl (Ev.now true))
end Go.Proofs.YtfpohibbmcfnkaaDoor.Tx
