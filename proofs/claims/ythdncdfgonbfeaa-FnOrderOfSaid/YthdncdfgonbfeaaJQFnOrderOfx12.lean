/- FnOrderOf's walk on the ways on which it answers true (printed, then trimmed). -/
import Derived.Test.YthdncdfgonbfeaaJQFnOrderOfx0
import Derived.Test.YthdncdfgonbfeaaJQFnOrderOfx7
import Derived.Test.YthdncdfgonbfeaaJQFnOrderOfx9
import Derived.Test.YthdncdfgonbfeaaJQFnOrderOfx10
import Derived.Test.YthdncdfgonbfeaaJQFnOrderOfx11
namespace Go.Proofs.Ythdncdfgonbfeaa.QFnOrderOf
open Go.RowKit Go.Proofs.YthdncdfgonbfeaaW.PrintWords Go.Proofs.YthdncdfgonbfeaaW.PrintLast Go.Proofs.YthdncdfgonbfeaaW.PrintMore
attribute [local go_sem] max2_int min2_int max_two min_two max_three min_three max_four min_four   -- for this text's walks alone
set_option linter.unusedVariables false
set_option linter.unusedSimpArgs false

/-! ### laws_FnOrderOf: function 3 -/
mutual
def laws_FnOrderOf.j0 : Nat → List Int → Bool → Bool → List Int → List (List Int) → Option (Bool)
 | 0, _, _, _, _, _ => none
 | k + 1, x4, x5, x33, x327000, x327001 => if x33 = true then (some false) else (if x5 = true then (laws_FnOrderOf.l0 k x4 0 x327000 x327001) else (if (x4.length : Int) = 0 then ((laws_alive.f k).bind fun t336 => (some t336)) else (some false)))
def laws_FnOrderOf.l0 : Nat → List Int → Int → List Int → List (List Int) → Option (Bool)
 | 0, _, _, _, _ => none
 | k + 1, x4, x8, x327000, x327001 => if x8 < (x4.length : Int) then (laws_FnOrderOf.l1 k x4 x8 0 x327000 x327001) else (some ((x4.length : Int) == (x327000.length : Int)))
def laws_FnOrderOf.l1 : Nat → List Int → Int → Int → List Int → List (List Int) → Option (Bool)
 | 0, _, _, _, _, _ => none
 | k + 1, x4, x8, x9, x327000, x327001 => if x9 < x8 then (if 0 ≤ x9 then (if x9 < (x4.length : Int) then (if 0 ≤ x8 then (if x8 < (x4.length : Int) then (if (rd x4 x9) = (rd x4 x8) then (some false) else (if (rd x4 x8) < 0 then (some false) else (if (rd x4 x8) ≥ (x327000.length : Int) then (some false) else (if 0 ≤ (rd x4 x8) then (if (rd x4 x8) < (x327001.length : Int) then (if 0 ≤ (rd x4 x9) then (if (rd x4 x9) < ((rd_L1 x327001 (rd x4 x8)).length : Int) then (if (rd (rd_L1 x327001 (rd x4 x8)) (rd x4 x9)) > 0 then (some false) else (laws_FnOrderOf.l1 k x4 x8 (wrap64 (x9 + 1)) x327000 x327001)) else (none)) else (none)) else (none)) else (none))))) else (none)) else (none)) else (none)) else (none)) else (laws_FnOrderOf.l0 k x4 (wrap64 (x8 + 1)) x327000 x327001)
end
def laws_FnOrderOf.f (k : Nat) (l0 : List Int) : Option (Bool) := if (l0.length : Int) > 1048576 then (some true) else ((spec_DrawOrderOf.f k l0).bind fun bt320 => ((impl_OrderOf.f k bt320.1 bt320.2).bind fun bt327 => ((spec_OrderOf.f k bt320.1 bt320.2).bind fun bt331 => ((laws_sameInts.f k bt327.1 bt331.1).bind fun t335 => (if t335 = true then (laws_FnOrderOf.j0 k bt327.1 bt327.2 (bt327.2 != bt331.2) bt320.1 bt320.2) else (laws_FnOrderOf.j0 k bt327.1 bt327.2 true bt320.1 bt320.2))))))
set_option maxHeartbeats 8000000 in
set_option maxRecDepth 100000 in
theorem laws_FnOrderOf.calls_true (k : Nat) (A0 : Option Addr) (c0 : Nat) (l0 : List Int) (r : Bool) (w : World) (hr0 : Kd.C (Kd.int .u8) w A0 l0.length l0) (hc0 : l0.length ≤ c0) (h : laws_FnOrderOf.f k l0 = some r) (hr : r = true) :
  Calls Try.prog 3 #[.slice A0 l0.length c0] w fun e w' => e = .returned (.bool r) ∧ Below w.heap.size w w' := by
 have hu26 := Try.underlying26
 have HR0 := Aside0.mk hr0
 have HC0 := Aside0.mk hc0
 clear hr0 hc0
 have HB := Aside0.mk (Below.refl w.heap.size w)
 have H : (if (l0.length : Int) > 1048576 then (some true) else ((spec_DrawOrderOf.f k l0).bind fun bt320 => ((impl_OrderOf.f k bt320.1 bt320.2).bind fun bt327 => ((spec_OrderOf.f k bt320.1 bt320.2).bind fun bt331 => ((laws_sameInts.f k bt327.1 bt331.1).bind fun t335 => (if t335 = true then (laws_FnOrderOf.j0 k bt327.1 bt327.2 (bt327.2 != bt331.2) bt320.1 bt320.2) else (laws_FnOrderOf.j0 k bt327.1 bt327.2 true bt320.1 bt320.2))))))) = some r := h
 clear h
 by_cases c2 : (l0.length : Int) > 1048576
 ·rw [if_pos c2] at H
  have c2b0 : decide (1048576 < (l0.length : Int)) = true := decide_eq_true c2
  have c2b1 : decide (1048576 < l0.length) = true := decide_eq_true (by omega)
  clear c2
  obtain rfl := Option.some.inj H; clear hr
  go_enter Try.func3, Try.ntmps3
  go_wp2
  repeat (go_quiet (fail); try go_wp2)
  go_ret
  exact ⟨by first | rfl | (simp [errW_none, errW_some] <;> rfl) | (simp [*, errW_none, errW_some] <;> rfl), by repeat (first | (with_reducible first | exact HB.out | apply below_alloc | apply pw_below_drewN | apply below_drew1) | exact HB.out)⟩
 ·rw [if_neg c2] at H
  have c2b0 : decide (1048576 < (l0.length : Int)) = false := decide_eq_false c2
  have c2b1 : decide (1048576 < l0.length) = false := decide_eq_false (by omega)
  clear c2
  replace H := Option.bind_eq_some_iff.mp H
  obtain ⟨⟨t320, t323⟩, A30, H⟩ := H
  replace H : ((impl_OrderOf.f k t320 t323).bind fun bt327 => ((spec_OrderOf.f k t320 t323).bind fun bt331 => ((laws_sameInts.f k bt327.1 bt331.1).bind fun t335 => (if t335 = true then (laws_FnOrderOf.j0 k bt327.1 bt327.2 (bt327.2 != bt331.2) t320 t323) else (laws_FnOrderOf.j0 k bt327.1 bt327.2 true t320 t323))))) = some r := H
  have A3 := Aside0.mk A30
  clear A30
  replace H := Option.bind_eq_some_iff.mp H
  obtain ⟨⟨t327, t330⟩, A40, H⟩ := H
  replace H : ((spec_OrderOf.f k t320 t323).bind fun bt331 => ((laws_sameInts.f k t327 bt331.1).bind fun t335 => (if t335 = true then (laws_FnOrderOf.j0 k t327 t330 (t330 != bt331.2) t320 t323) else (laws_FnOrderOf.j0 k t327 t330 true t320 t323)))) = some r := H
  have A4 := Aside0.mk A40
  clear A40
  replace H := Option.bind_eq_some_iff.mp H
  obtain ⟨⟨t331, t334⟩, A50, H⟩ := H
  replace H : ((laws_sameInts.f k t327 t331).bind fun t335 => (if t335 = true then (laws_FnOrderOf.j0 k t327 t330 (t330 != t334) t320 t323) else (laws_FnOrderOf.j0 k t327 t330 true t320 t323))) = some r := H
  have A5 := Aside0.mk A50
  clear A50
  have HC6 := Aside0.mk H
  clear H
  go_enter Try.func3, Try.ntmps3
  go_upto_region 6 with (first | (go_at_call 8; (with_reducible refine (spec_DrawOrderOf.calls k _ _ l0 t320 t323 _ ?side1 ?side2 A3.out).mono ?_); (case side1 => repeat (first | exact HR0.out | (with_reducible refine Kd.C_alloc ?_ _) | (with_reducible refine Kd.C_drewN ?_ _) | (with_reducible refine Kd.C_drew ?_))); (case side2 => exact HC0.out); rintro e w7 ⟨v321, v324, rfl, ho0, ho1, hb⟩; have n0_ := Aside0.mk (Kd.V_lower (Kd.V_mono (ok' := fun k_ => True) ho0 (fun k_ hk_ => trivial)) (below_size (by repeat (first | (with_reducible first | exact HB.out | apply below_alloc | apply pw_below_drewN | apply below_drew1) | exact HB.out)))); have n1_ := Aside0.mk (Kd.V_lower (Kd.V_mono (ok' := fun k_ => True) ho1 (fun k_ hk_ => trivial)) (below_size (by repeat (first | (with_reducible first | exact HB.out | apply below_alloc | apply pw_below_drewN | apply below_drew1) | exact HB.out)))); have n2_ := Aside0.mk (below_step (by repeat (first | (with_reducible first | exact HB.out | apply below_alloc | apply pw_below_drewN | apply below_drew1) | exact HB.out)) hb); clear HB; have HO322 := n0_; have HO325 := n1_; have HB := n2_; clear n0_ n1_ n2_; (try clear hb); (try clear hb2); (try clear hk); (try clear hi); (try clear ho0); (try clear ho1)) | ((with_reducible refine gate_dst (N := 3) rfl ?_); (try (refine gate_guard (by rfl) ?_; dsimp only)); refine box_event ?hg (N := 3) ?hd (cs := #[.slice none 0 0, .slice none 0 0]) (t := 26) ?hr ?_; (case hd => rfl); (case hg => rfl); (case hr => first | (go_simp; done) | (go_simp; rfl)); intro gb326 hg w8 hbox hb; have n0_ := Aside0.mk (Kd.V_below (Kd.V_elderB (by (with_reducible repeat (first | apply Kd.V_alloc | apply Kd.V_drewN | apply Kd.V_drew)); exact HO322.out) gb326 (Nat.le_of_eq hg.symm)) hb); have n1_ := Aside0.mk (Kd.V_below (Kd.V_elderB (by (with_reducible repeat (first | apply Kd.V_alloc | apply Kd.V_drewN | apply Kd.V_drew)); exact HO325.out) gb326 (Nat.le_of_eq hg.symm)) hb); have n2_ := Aside0.mk (below_step (by repeat (first | (with_reducible first | exact HB.out | apply below_alloc | apply pw_below_drewN | apply below_drew1) | exact HB.out)) hb); have n3_ := Aside0.mk (hbox); have n4_ := Aside0.mk ((by rw [hg]; exact (below_size (by repeat (first | (with_reducible first | exact HB.out | apply below_alloc | apply pw_below_drewN | apply below_drew1) | exact HB.out))) : w.heap.size ≤ gb326)); have n5_ := Aside0.mk ((by rw [hg]; exact (below_size (by repeat (first | (with_reducible first | exact HB.out | apply below_alloc | apply pw_below_drewN | apply below_drew1) | exact HB.out))) : w.heap.size ≤ gb326)); clear HO322; clear HO325; clear HB; have HO322 := n0_; have HO325 := n1_; have HB := n2_; have BK326 := n3_; have GW326 := n4_; have GE326 := n5_; clear n0_ n1_ n2_ n3_ n4_ n5_; clear hb hbox hg; obtain ⟨Ao9, co9, eo9⟩ := Kd.V_slice HO322.out; subst eo9; have hcz10_0 : w8.cell? ⟨gb326, 0, none⟩ = some (.slice none 0 0) := (blk_cell BK326.out 0).trans rfl; have hcz10_1 : w8.cell? ⟨gb326, 1, none⟩ = some (.slice none 0 0) := (blk_cell BK326.out 1).trans rfl; have hfz10_0 := blk_frozen BK326.out 0; have hfz10_1 := blk_frozen BK326.out 1; obtain ⟨Ao11, co11, eo11⟩ := Kd.V_slice HO325.out; subst eo11) | (go_at_call 9; (with_reducible refine (impl_OrderOf.calls k _ _ t320 _ _ t323 t327 t330 _ ?side1 ?side2 ?side3 ?side4 A4.out).mono ?_); (case side1 => refine (Kd.V_reads' (e := 3) (base := w.heap.size) (ok := fun k_ => (True ∧ k_ ≠ gb326)) (n := t320.length) (c := co9) ?_).2.2; exact (by (with_reducible repeat (first | apply Kd.V_alloc | apply Kd.V_drewN | apply Kd.V_drew)); exact (Kd.V_mono (Kd.V_far (p := ⟨gb326, 1, none⟩) (Kd.V_far (p := ⟨gb326, 0, none⟩) (Kd.V_mono HO322.out (fun k_ hk => (⟨hk, hk.2⟩ : _ ∧ k_ ≠ gb326))) (fun _ hk => hk.2) (.slice Ao9 t320.length co9)) (fun _ hk => hk.2) (.slice Ao11 t323.length co11)) (fun _ h_ => h_.1)))); (case side2 => exact (Kd.V_reads' HO322.out).2.1); (case side3 => refine (Kd.V_reads' (e := 23) (base := w.heap.size) (ok := fun k_ => (True ∧ k_ ≠ gb326)) (n := t323.length) (c := co11) ?_).2.2; exact (by (with_reducible repeat (first | apply Kd.V_alloc | apply Kd.V_drewN | apply Kd.V_drew)); exact (Kd.V_mono (Kd.V_far (p := ⟨gb326, 1, none⟩) (Kd.V_far (p := ⟨gb326, 0, none⟩) (Kd.V_mono HO325.out (fun k_ hk => (⟨hk, hk.2⟩ : _ ∧ k_ ≠ gb326))) (fun _ hk => hk.2) (.slice Ao9 t320.length co9)) (fun _ hk => hk.2) (.slice Ao11 t323.length co11)) (fun _ h_ => h_.1)))); (case side4 => exact (Kd.V_reads' HO325.out).2.1); rintro e w12 ⟨v328, rfl, ho0, hb⟩; have n0_ := Aside0.mk (Kd.V_elder' (by (with_reducible repeat (first | apply Kd.V_alloc | apply Kd.V_drewN | apply Kd.V_drew)); exact (Kd.V_mono (Kd.V_far (p := ⟨gb326, 1, none⟩) (Kd.V_far (p := ⟨gb326, 0, none⟩) (Kd.V_mono HO322.out (fun k_ hk => (⟨hk, hk.2⟩ : _ ∧ k_ ≠ gb326))) (fun _ hk => hk.2) (.slice Ao9 t320.length co9)) (fun _ hk => hk.2) (.slice Ao11 t323.length co11)) (fun _ h_ => h_.1))) (Kd.R_base ho0) hb); have n1_ := Aside0.mk (Kd.V_elder' (by (with_reducible repeat (first | apply Kd.V_alloc | apply Kd.V_drewN | apply Kd.V_drew)); exact (Kd.V_mono (Kd.V_far (p := ⟨gb326, 1, none⟩) (Kd.V_far (p := ⟨gb326, 0, none⟩) (Kd.V_mono HO325.out (fun k_ hk => (⟨hk, hk.2⟩ : _ ∧ k_ ≠ gb326))) (fun _ hk => hk.2) (.slice Ao9 t320.length co9)) (fun _ hk => hk.2) (.slice Ao11 t323.length co11)) (fun _ h_ => h_.1))) (Kd.R_base ho0) hb); have n2_ := Aside0.mk (Kd.R_lower ho0 (below_size (by repeat (first | (with_reducible first | exact HB.out | apply below_alloc | apply pw_below_drewN | apply below_drew1 | refine below_set ?_ GE326.out) | exact HB.out)))); have n3_ := Aside0.mk (blk_below (g := gb326) (o := .cells #[.slice Ao9 t320.length co9, .slice Ao11 t323.length co11] 26 (0, 0)) (by (with_reducible repeat (first | refine blk_drewN ?_ _ | refine blk_drew ?_ | refine blk_alloc ?_ _)); refine blk_put (cs := #[.slice Ao9 t320.length co9, .slice none 0 0]) ?_ 1 _ rfl; (with_reducible repeat (first | refine blk_drewN ?_ _ | refine blk_drew ?_ | refine blk_alloc ?_ _)); refine blk_put (cs := #[.slice none 0 0, .slice none 0 0]) ?_ 0 _ rfl; (with_reducible repeat (first | refine blk_drewN ?_ _ | refine blk_drew ?_ | refine blk_alloc ?_ _)); exact BK326.out) hb); have n4_ := Aside0.mk (below_step (by repeat (first | (with_reducible first | exact HB.out | apply below_alloc | apply pw_below_drewN | apply below_drew1 | refine below_set ?_ GE326.out) | exact HB.out)) hb); clear HO322; clear HO325; clear BK326; clear HB; have HO322 := n0_; have HO325 := n1_; have HO329 := n2_; have BK326 := n3_; have HB := n4_; clear n0_ n1_ n2_ n3_ n4_; (try clear hb); (try clear hb2); (try clear hk); (try clear hi); (try clear ho0); have hcz13_0 : w12.cell? ⟨gb326, 0, none⟩ = some (.slice Ao9 t320.length co9) := (blk_cell BK326.out 0).trans rfl; have hcz13_1 : w12.cell? ⟨gb326, 1, none⟩ = some (.slice Ao11 t323.length co11) := (blk_cell BK326.out 1).trans rfl; have hfz13_0 := blk_frozen BK326.out 0; have hfz13_1 := blk_frozen BK326.out 1) | (go_at_call 10; (with_reducible refine (spec_OrderOf.calls k _ _ t320 _ _ t323 t331 t334 _ ?side1 ?side2 ?side3 ?side4 A5.out).mono ?_); (case side1 => repeat (first | exact (Kd.V_reads' HO322.out).2.2 | (with_reducible refine Kd.C_alloc ?_ _) | (with_reducible refine Kd.C_drewN ?_ _) | (with_reducible refine Kd.C_drew ?_))); (case side2 => exact (Kd.V_reads' HO322.out).2.1); (case side3 => repeat (first | exact (Kd.V_reads' HO325.out).2.2 | (with_reducible refine Kd.C_alloc ?_ _) | (with_reducible refine Kd.C_drewN ?_ _) | (with_reducible refine Kd.C_drew ?_))); (case side4 => exact (Kd.V_reads' HO325.out).2.1); rintro e w14 ⟨v332, rfl, ho0, hb⟩; have n0_ := Aside0.mk (Kd.V_elder' (by (with_reducible repeat (first | apply Kd.V_alloc | apply Kd.V_drewN | apply Kd.V_drew)); exact HO322.out) (Kd.R_base ho0) hb); have n1_ := Aside0.mk (Kd.V_elder' (by (with_reducible repeat (first | apply Kd.V_alloc | apply Kd.V_drewN | apply Kd.V_drew)); exact HO325.out) (Kd.R_base ho0) hb); have n2_ := Aside0.mk (Kd.R_elder' (by (with_reducible repeat (first | apply Kd.R_alloc | apply Kd.R_drewN | apply Kd.R_drew)); exact HO329.out) (Kd.R_base ho0) hb); have n3_ := Aside0.mk (Kd.R_lower (Kd.R_new' ho0 (Kd.R_lt (by (with_reducible repeat (first | apply Kd.R_alloc | apply Kd.R_drewN | apply Kd.R_drew)); exact HO329.out))) (below_size (by repeat (first | (with_reducible first | exact HB.out | apply below_alloc | apply pw_below_drewN | apply below_drew1 | refine below_set ?_ GE326.out) | exact HB.out)))); have n4_ := Aside0.mk (blk_below (g := gb326) (o := .cells #[.slice Ao9 t320.length co9, .slice Ao11 t323.length co11] 26 (0, 0)) (by (with_reducible repeat (first | refine blk_drewN ?_ _ | refine blk_drew ?_ | refine blk_alloc ?_ _)); exact BK326.out) hb); have n5_ := Aside0.mk (below_step (by repeat (first | (with_reducible first | exact HB.out | apply below_alloc | apply pw_below_drewN | apply below_drew1 | refine below_set ?_ GE326.out) | exact HB.out)) hb); clear HO322; clear HO325; clear HO329; clear BK326; clear HB; have HO322 := n0_; have HO325 := n1_; have HO329 := n2_; have HO333 := n3_; have BK326 := n4_; have HB := n5_; clear n0_ n1_ n2_ n3_ n4_ n5_; (try clear hb); (try clear hb2); (try clear hk); (try clear hi); (try clear ho0)))
  repeat (go_quiet (first | (go_at_call 8; (with_reducible refine (spec_DrawOrderOf.calls k _ _ l0 t320 t323 _ ?side1 ?side2 A3.out).mono ?_); (case side1 => repeat (first | exact HR0.out | (with_reducible refine Kd.C_alloc ?_ _) | (with_reducible refine Kd.C_drewN ?_ _) | (with_reducible refine Kd.C_drew ?_))); (case side2 => exact HC0.out); rintro e w7 ⟨v321, v324, rfl, ho0, ho1, hb⟩; have n0_ := Aside0.mk (Kd.V_lower (Kd.V_mono (ok' := fun k_ => True) ho0 (fun k_ hk_ => trivial)) (below_size (by repeat (first | (with_reducible first | exact HB.out | apply below_alloc | apply pw_below_drewN | apply below_drew1) | exact HB.out)))); have n1_ := Aside0.mk (Kd.V_lower (Kd.V_mono (ok' := fun k_ => True) ho1 (fun k_ hk_ => trivial)) (below_size (by repeat (first | (with_reducible first | exact HB.out | apply below_alloc | apply pw_below_drewN | apply below_drew1) | exact HB.out)))); have n2_ := Aside0.mk (below_step (by repeat (first | (with_reducible first | exact HB.out | apply below_alloc | apply pw_below_drewN | apply below_drew1) | exact HB.out)) hb); clear HB; have HO322 := n0_; have HO325 := n1_; have HB := n2_; clear n0_ n1_ n2_; (try clear hb); (try clear hb2); (try clear hk); (try clear hi); (try clear ho0); (try clear ho1)) | ((with_reducible refine gate_dst (N := 3) rfl ?_); (try (refine gate_guard (by rfl) ?_; dsimp only)); refine box_event ?hg (N := 3) ?hd (cs := #[.slice none 0 0, .slice none 0 0]) (t := 26) ?hr ?_; (case hd => rfl); (case hg => rfl); (case hr => first | (go_simp; done) | (go_simp; rfl)); intro gb326 hg w8 hbox hb; have n0_ := Aside0.mk (Kd.V_below (Kd.V_elderB (by (with_reducible repeat (first | apply Kd.V_alloc | apply Kd.V_drewN | apply Kd.V_drew)); exact HO322.out) gb326 (Nat.le_of_eq hg.symm)) hb); have n1_ := Aside0.mk (Kd.V_below (Kd.V_elderB (by (with_reducible repeat (first | apply Kd.V_alloc | apply Kd.V_drewN | apply Kd.V_drew)); exact HO325.out) gb326 (Nat.le_of_eq hg.symm)) hb); have n2_ := Aside0.mk (below_step (by repeat (first | (with_reducible first | exact HB.out | apply below_alloc | apply pw_below_drewN | apply below_drew1) | exact HB.out)) hb); have n3_ := Aside0.mk (hbox); have n4_ := Aside0.mk ((by rw [hg]; exact (below_size (by repeat (first | (with_reducible first | exact HB.out | apply below_alloc | apply pw_below_drewN | apply below_drew1) | exact HB.out))) : w.heap.size ≤ gb326)); have n5_ := Aside0.mk ((by rw [hg]; exact (below_size (by repeat (first | (with_reducible first | exact HB.out | apply below_alloc | apply pw_below_drewN | apply below_drew1) | exact HB.out))) : w.heap.size ≤ gb326)); clear HO322; clear HO325; clear HB; have HO322 := n0_; have HO325 := n1_; have HB := n2_; have BK326 := n3_; have GW326 := n4_; have GE326 := n5_; clear n0_ n1_ n2_ n3_ n4_ n5_; clear hb hbox hg; obtain ⟨Ao9, co9, eo9⟩ := Kd.V_slice HO322.out; subst eo9; have hcz10_0 : w8.cell? ⟨gb326, 0, none⟩ = some (.slice none 0 0) := (blk_cell BK326.out 0).trans rfl; have hcz10_1 : w8.cell? ⟨gb326, 1, none⟩ = some (.slice none 0 0) := (blk_cell BK326.out 1).trans rfl; have hfz10_0 := blk_frozen BK326.out 0; have hfz10_1 := blk_frozen BK326.out 1; obtain ⟨Ao11, co11, eo11⟩ := Kd.V_slice HO325.out; subst eo11) | (go_at_call 9; (with_reducible refine (impl_OrderOf.calls k _ _ t320 _ _ t323 t327 t330 _ ?side1 ?side2 ?side3 ?side4 A4.out).mono ?_); (case side1 => refine (Kd.V_reads' (e := 3) (base := w.heap.size) (ok := fun k_ => (True ∧ k_ ≠ gb326)) (n := t320.length) (c := co9) ?_).2.2; exact (by (with_reducible repeat (first | apply Kd.V_alloc | apply Kd.V_drewN | apply Kd.V_drew)); exact (Kd.V_mono (Kd.V_far (p := ⟨gb326, 1, none⟩) (Kd.V_far (p := ⟨gb326, 0, none⟩) (Kd.V_mono HO322.out (fun k_ hk => (⟨hk, hk.2⟩ : _ ∧ k_ ≠ gb326))) (fun _ hk => hk.2) (.slice Ao9 t320.length co9)) (fun _ hk => hk.2) (.slice Ao11 t323.length co11)) (fun _ h_ => h_.1)))); (case side2 => exact (Kd.V_reads' HO322.out).2.1); (case side3 => refine (Kd.V_reads' (e := 23) (base := w.heap.size) (ok := fun k_ => (True ∧ k_ ≠ gb326)) (n := t323.length) (c := co11) ?_).2.2; exact (by (with_reducible repeat (first | apply Kd.V_alloc | apply Kd.V_drewN | apply Kd.V_drew)); exact (Kd.V_mono (Kd.V_far (p := ⟨gb326, 1, none⟩) (Kd.V_far (p := ⟨gb326, 0, none⟩) (Kd.V_mono HO325.out (fun k_ hk => (⟨hk, hk.2⟩ : _ ∧ k_ ≠ gb326))) (fun _ hk => hk.2) (.slice Ao9 t320.length co9)) (fun _ hk => hk.2) (.slice Ao11 t323.length co11)) (fun _ h_ => h_.1)))); (case side4 => exact (Kd.V_reads' HO325.out).2.1); rintro e w12 ⟨v328, rfl, ho0, hb⟩; have n0_ := Aside0.mk (Kd.V_elder' (by (with_reducible repeat (first | apply Kd.V_alloc | apply Kd.V_drewN | apply Kd.V_drew)); exact (Kd.V_mono (Kd.V_far (p := ⟨gb326, 1, none⟩) (Kd.V_far (p := ⟨gb326, 0, none⟩) (Kd.V_mono HO322.out (fun k_ hk => (⟨hk, hk.2⟩ : _ ∧ k_ ≠ gb326))) (fun _ hk => hk.2) (.slice Ao9 t320.length co9)) (fun _ hk => hk.2) (.slice Ao11 t323.length co11)) (fun _ h_ => h_.1))) (Kd.R_base ho0) hb); have n1_ := Aside0.mk (Kd.V_elder' (by (with_reducible repeat (first | apply Kd.V_alloc | apply Kd.V_drewN | apply Kd.V_drew)); exact (Kd.V_mono (Kd.V_far (p := ⟨gb326, 1, none⟩) (Kd.V_far (p := ⟨gb326, 0, none⟩) (Kd.V_mono HO325.out (fun k_ hk => (⟨hk, hk.2⟩ : _ ∧ k_ ≠ gb326))) (fun _ hk => hk.2) (.slice Ao9 t320.length co9)) (fun _ hk => hk.2) (.slice Ao11 t323.length co11)) (fun _ h_ => h_.1))) (Kd.R_base ho0) hb); have n2_ := Aside0.mk (Kd.R_lower ho0 (below_size (by repeat (first | (with_reducible first | exact HB.out | apply below_alloc | apply pw_below_drewN | apply below_drew1 | refine below_set ?_ GE326.out) | exact HB.out)))); have n3_ := Aside0.mk (blk_below (g := gb326) (o := .cells #[.slice Ao9 t320.length co9, .slice Ao11 t323.length co11] 26 (0, 0)) (by (with_reducible repeat (first | refine blk_drewN ?_ _ | refine blk_drew ?_ | refine blk_alloc ?_ _)); refine blk_put (cs := #[.slice Ao9 t320.length co9, .slice none 0 0]) ?_ 1 _ rfl; (with_reducible repeat (first | refine blk_drewN ?_ _ | refine blk_drew ?_ | refine blk_alloc ?_ _)); refine blk_put (cs := #[.slice none 0 0, .slice none 0 0]) ?_ 0 _ rfl; (with_reducible repeat (first | refine blk_drewN ?_ _ | refine blk_drew ?_ | refine blk_alloc ?_ _)); exact BK326.out) hb); have n4_ := Aside0.mk (below_step (by repeat (first | (with_reducible first | exact HB.out | apply below_alloc | apply pw_below_drewN | apply below_drew1 | refine below_set ?_ GE326.out) | exact HB.out)) hb); clear HO322; clear HO325; clear BK326; clear HB; have HO322 := n0_; have HO325 := n1_; have HO329 := n2_; have BK326 := n3_; have HB := n4_; clear n0_ n1_ n2_ n3_ n4_; (try clear hb); (try clear hb2); (try clear hk); (try clear hi); (try clear ho0); have hcz13_0 : w12.cell? ⟨gb326, 0, none⟩ = some (.slice Ao9 t320.length co9) := (blk_cell BK326.out 0).trans rfl; have hcz13_1 : w12.cell? ⟨gb326, 1, none⟩ = some (.slice Ao11 t323.length co11) := (blk_cell BK326.out 1).trans rfl; have hfz13_0 := blk_frozen BK326.out 0; have hfz13_1 := blk_frozen BK326.out 1) | (go_at_call 10; (with_reducible refine (spec_OrderOf.calls k _ _ t320 _ _ t323 t331 t334 _ ?side1 ?side2 ?side3 ?side4 A5.out).mono ?_); (case side1 => repeat (first | exact (Kd.V_reads' HO322.out).2.2 | (with_reducible refine Kd.C_alloc ?_ _) | (with_reducible refine Kd.C_drewN ?_ _) | (with_reducible refine Kd.C_drew ?_))); (case side2 => exact (Kd.V_reads' HO322.out).2.1); (case side3 => repeat (first | exact (Kd.V_reads' HO325.out).2.2 | (with_reducible refine Kd.C_alloc ?_ _) | (with_reducible refine Kd.C_drewN ?_ _) | (with_reducible refine Kd.C_drew ?_))); (case side4 => exact (Kd.V_reads' HO325.out).2.1); rintro e w14 ⟨v332, rfl, ho0, hb⟩; have n0_ := Aside0.mk (Kd.V_elder' (by (with_reducible repeat (first | apply Kd.V_alloc | apply Kd.V_drewN | apply Kd.V_drew)); exact HO322.out) (Kd.R_base ho0) hb); have n1_ := Aside0.mk (Kd.V_elder' (by (with_reducible repeat (first | apply Kd.V_alloc | apply Kd.V_drewN | apply Kd.V_drew)); exact HO325.out) (Kd.R_base ho0) hb); have n2_ := Aside0.mk (Kd.R_elder' (by (with_reducible repeat (first | apply Kd.R_alloc | apply Kd.R_drewN | apply Kd.R_drew)); exact HO329.out) (Kd.R_base ho0) hb); have n3_ := Aside0.mk (Kd.R_lower (Kd.R_new' ho0 (Kd.R_lt (by (with_reducible repeat (first | apply Kd.R_alloc | apply Kd.R_drewN | apply Kd.R_drew)); exact HO329.out))) (below_size (by repeat (first | (with_reducible first | exact HB.out | apply below_alloc | apply pw_below_drewN | apply below_drew1 | refine below_set ?_ GE326.out) | exact HB.out)))); have n4_ := Aside0.mk (blk_below (g := gb326) (o := .cells #[.slice Ao9 t320.length co9, .slice Ao11 t323.length co11] 26 (0, 0)) (by (with_reducible repeat (first | refine blk_drewN ?_ _ | refine blk_drew ?_ | refine blk_alloc ?_ _)); exact BK326.out) hb); have n5_ := Aside0.mk (below_step (by repeat (first | (with_reducible first | exact HB.out | apply below_alloc | apply pw_below_drewN | apply below_drew1 | refine below_set ?_ GE326.out) | exact HB.out)) hb); clear HO322; clear HO325; clear HO329; clear BK326; clear HB; have HO322 := n0_; have HO325 := n1_; have HO329 := n2_; have HO333 := n3_; have BK326 := n4_; have HB := n5_; clear n0_ n1_ n2_ n3_ n4_ n5_; (try clear hb); (try clear hb2); (try clear hk); (try clear hi); (try clear ho0))); go_upto_region 6 with (first | (go_at_call 8; (with_reducible refine (spec_DrawOrderOf.calls k _ _ l0 t320 t323 _ ?side1 ?side2 A3.out).mono ?_); (case side1 => repeat (first | exact HR0.out | (with_reducible refine Kd.C_alloc ?_ _) | (with_reducible refine Kd.C_drewN ?_ _) | (with_reducible refine Kd.C_drew ?_))); (case side2 => exact HC0.out); rintro e w7 ⟨v321, v324, rfl, ho0, ho1, hb⟩; have n0_ := Aside0.mk (Kd.V_lower (Kd.V_mono (ok' := fun k_ => True) ho0 (fun k_ hk_ => trivial)) (below_size (by repeat (first | (with_reducible first | exact HB.out | apply below_alloc | apply pw_below_drewN | apply below_drew1) | exact HB.out)))); have n1_ := Aside0.mk (Kd.V_lower (Kd.V_mono (ok' := fun k_ => True) ho1 (fun k_ hk_ => trivial)) (below_size (by repeat (first | (with_reducible first | exact HB.out | apply below_alloc | apply pw_below_drewN | apply below_drew1) | exact HB.out)))); have n2_ := Aside0.mk (below_step (by repeat (first | (with_reducible first | exact HB.out | apply below_alloc | apply pw_below_drewN | apply below_drew1) | exact HB.out)) hb); clear HB; have HO322 := n0_; have HO325 := n1_; have HB := n2_; clear n0_ n1_ n2_; (try clear hb); (try clear hb2); (try clear hk); (try clear hi); (try clear ho0); (try clear ho1)) | ((with_reducible refine gate_dst (N := 3) rfl ?_); (try (refine gate_guard (by rfl) ?_; dsimp only)); refine box_event ?hg (N := 3) ?hd (cs := #[.slice none 0 0, .slice none 0 0]) (t := 26) ?hr ?_; (case hd => rfl); (case hg => rfl); (case hr => first | (go_simp; done) | (go_simp; rfl)); intro gb326 hg w8 hbox hb; have n0_ := Aside0.mk (Kd.V_below (Kd.V_elderB (by (with_reducible repeat (first | apply Kd.V_alloc | apply Kd.V_drewN | apply Kd.V_drew)); exact HO322.out) gb326 (Nat.le_of_eq hg.symm)) hb); have n1_ := Aside0.mk (Kd.V_below (Kd.V_elderB (by (with_reducible repeat (first | apply Kd.V_alloc | apply Kd.V_drewN | apply Kd.V_drew)); exact HO325.out) gb326 (Nat.le_of_eq hg.symm)) hb); have n2_ := Aside0.mk (below_step (by repeat (first | (with_reducible first | exact HB.out | apply below_alloc | apply pw_below_drewN | apply below_drew1) | exact HB.out)) hb); have n3_ := Aside0.mk (hbox); have n4_ := Aside0.mk ((by rw [hg]; exact (below_size (by repeat (first | (with_reducible first | exact HB.out | apply below_alloc | apply pw_below_drewN | apply below_drew1) | exact HB.out))) : w.heap.size ≤ gb326)); have n5_ := Aside0.mk ((by rw [hg]; exact (below_size (by repeat (first | (with_reducible first | exact HB.out | apply below_alloc | apply pw_below_drewN | apply below_drew1) | exact HB.out))) : w.heap.size ≤ gb326)); clear HO322; clear HO325; clear HB; have HO322 := n0_; have HO325 := n1_; have HB := n2_; have BK326 := n3_; have GW326 := n4_; have GE326 := n5_; clear n0_ n1_ n2_ n3_ n4_ n5_; clear hb hbox hg; obtain ⟨Ao9, co9, eo9⟩ := Kd.V_slice HO322.out; subst eo9; have hcz10_0 : w8.cell? ⟨gb326, 0, none⟩ = some (.slice none 0 0) := (blk_cell BK326.out 0).trans rfl; have hcz10_1 : w8.cell? ⟨gb326, 1, none⟩ = some (.slice none 0 0) := (blk_cell BK326.out 1).trans rfl; have hfz10_0 := blk_frozen BK326.out 0; have hfz10_1 := blk_frozen BK326.out 1; obtain ⟨Ao11, co11, eo11⟩ := Kd.V_slice HO325.out; subst eo11) | (go_at_call 9; (with_reducible refine (impl_OrderOf.calls k _ _ t320 _ _ t323 t327 t330 _ ?side1 ?side2 ?side3 ?side4 A4.out).mono ?_); (case side1 => refine (Kd.V_reads' (e := 3) (base := w.heap.size) (ok := fun k_ => (True ∧ k_ ≠ gb326)) (n := t320.length) (c := co9) ?_).2.2; exact (by (with_reducible repeat (first | apply Kd.V_alloc | apply Kd.V_drewN | apply Kd.V_drew)); exact (Kd.V_mono (Kd.V_far (p := ⟨gb326, 1, none⟩) (Kd.V_far (p := ⟨gb326, 0, none⟩) (Kd.V_mono HO322.out (fun k_ hk => (⟨hk, hk.2⟩ : _ ∧ k_ ≠ gb326))) (fun _ hk => hk.2) (.slice Ao9 t320.length co9)) (fun _ hk => hk.2) (.slice Ao11 t323.length co11)) (fun _ h_ => h_.1)))); (case side2 => exact (Kd.V_reads' HO322.out).2.1); (case side3 => refine (Kd.V_reads' (e := 23) (base := w.heap.size) (ok := fun k_ => (True ∧ k_ ≠ gb326)) (n := t323.length) (c := co11) ?_).2.2; exact (by (with_reducible repeat (first | apply Kd.V_alloc | apply Kd.V_drewN | apply Kd.V_drew)); exact (Kd.V_mono (Kd.V_far (p := ⟨gb326, 1, none⟩) (Kd.V_far (p := ⟨gb326, 0, none⟩) (Kd.V_mono HO325.out (fun k_ hk => (⟨hk, hk.2⟩ : _ ∧ k_ ≠ gb326))) (fun _ hk => hk.2) (.slice Ao9 t320.length co9)) (fun _ hk => hk.2) (.slice Ao11 t323.length co11)) (fun _ h_ => h_.1)))); (case side4 => exact (Kd.V_reads' HO325.out).2.1); rintro e w12 ⟨v328, rfl, ho0, hb⟩; have n0_ := Aside0.mk (Kd.V_elder' (by (with_reducible repeat (first | apply Kd.V_alloc | apply Kd.V_drewN | apply Kd.V_drew)); exact (Kd.V_mono (Kd.V_far (p := ⟨gb326, 1, none⟩) (Kd.V_far (p := ⟨gb326, 0, none⟩) (Kd.V_mono HO322.out (fun k_ hk => (⟨hk, hk.2⟩ : _ ∧ k_ ≠ gb326))) (fun _ hk => hk.2) (.slice Ao9 t320.length co9)) (fun _ hk => hk.2) (.slice Ao11 t323.length co11)) (fun _ h_ => h_.1))) (Kd.R_base ho0) hb); have n1_ := Aside0.mk (Kd.V_elder' (by (with_reducible repeat (first | apply Kd.V_alloc | apply Kd.V_drewN | apply Kd.V_drew)); exact (Kd.V_mono (Kd.V_far (p := ⟨gb326, 1, none⟩) (Kd.V_far (p := ⟨gb326, 0, none⟩) (Kd.V_mono HO325.out (fun k_ hk => (⟨hk, hk.2⟩ : _ ∧ k_ ≠ gb326))) (fun _ hk => hk.2) (.slice Ao9 t320.length co9)) (fun _ hk => hk.2) (.slice Ao11 t323.length co11)) (fun _ h_ => h_.1))) (Kd.R_base ho0) hb); have n2_ := Aside0.mk (Kd.R_lower ho0 (below_size (by repeat (first | (with_reducible first | exact HB.out | apply below_alloc | apply pw_below_drewN | apply below_drew1 | refine below_set ?_ GE326.out) | exact HB.out)))); have n3_ := Aside0.mk (blk_below (g := gb326) (o := .cells #[.slice Ao9 t320.length co9, .slice Ao11 t323.length co11] 26 (0, 0)) (by (with_reducible repeat (first | refine blk_drewN ?_ _ | refine blk_drew ?_ | refine blk_alloc ?_ _)); refine blk_put (cs := #[.slice Ao9 t320.length co9, .slice none 0 0]) ?_ 1 _ rfl; (with_reducible repeat (first | refine blk_drewN ?_ _ | refine blk_drew ?_ | refine blk_alloc ?_ _)); refine blk_put (cs := #[.slice none 0 0, .slice none 0 0]) ?_ 0 _ rfl; (with_reducible repeat (first | refine blk_drewN ?_ _ | refine blk_drew ?_ | refine blk_alloc ?_ _)); exact BK326.out) hb); have n4_ := Aside0.mk (below_step (by repeat (first | (with_reducible first | exact HB.out | apply below_alloc | apply pw_below_drewN | apply below_drew1 | refine below_set ?_ GE326.out) | exact HB.out)) hb); clear HO322; clear HO325; clear BK326; clear HB; have HO322 := n0_; have HO325 := n1_; have HO329 := n2_; have BK326 := n3_; have HB := n4_; clear n0_ n1_ n2_ n3_ n4_; (try clear hb); (try clear hb2); (try clear hk); (try clear hi); (try clear ho0); have hcz13_0 : w12.cell? ⟨gb326, 0, none⟩ = some (.slice Ao9 t320.length co9) := (blk_cell BK326.out 0).trans rfl; have hcz13_1 : w12.cell? ⟨gb326, 1, none⟩ = some (.slice Ao11 t323.length co11) := (blk_cell BK326.out 1).trans rfl; have hfz13_0 := blk_frozen BK326.out 0; have hfz13_1 := blk_frozen BK326.out 1) | (go_at_call 10; (with_reducible refine (spec_OrderOf.calls k _ _ t320 _ _ t323 t331 t334 _ ?side1 ?side2 ?side3 ?side4 A5.out).mono ?_); (case side1 => repeat (first | exact (Kd.V_reads' HO322.out).2.2 | (with_reducible refine Kd.C_alloc ?_ _) | (with_reducible refine Kd.C_drewN ?_ _) | (with_reducible refine Kd.C_drew ?_))); (case side2 => exact (Kd.V_reads' HO322.out).2.1); (case side3 => repeat (first | exact (Kd.V_reads' HO325.out).2.2 | (with_reducible refine Kd.C_alloc ?_ _) | (with_reducible refine Kd.C_drewN ?_ _) | (with_reducible refine Kd.C_drew ?_))); (case side4 => exact (Kd.V_reads' HO325.out).2.1); rintro e w14 ⟨v332, rfl, ho0, hb⟩; have n0_ := Aside0.mk (Kd.V_elder' (by (with_reducible repeat (first | apply Kd.V_alloc | apply Kd.V_drewN | apply Kd.V_drew)); exact HO322.out) (Kd.R_base ho0) hb); have n1_ := Aside0.mk (Kd.V_elder' (by (with_reducible repeat (first | apply Kd.V_alloc | apply Kd.V_drewN | apply Kd.V_drew)); exact HO325.out) (Kd.R_base ho0) hb); have n2_ := Aside0.mk (Kd.R_elder' (by (with_reducible repeat (first | apply Kd.R_alloc | apply Kd.R_drewN | apply Kd.R_drew)); exact HO329.out) (Kd.R_base ho0) hb); have n3_ := Aside0.mk (Kd.R_lower (Kd.R_new' ho0 (Kd.R_lt (by (with_reducible repeat (first | apply Kd.R_alloc | apply Kd.R_drewN | apply Kd.R_drew)); exact HO329.out))) (below_size (by repeat (first | (with_reducible first | exact HB.out | apply below_alloc | apply pw_below_drewN | apply below_drew1 | refine below_set ?_ GE326.out) | exact HB.out)))); have n4_ := Aside0.mk (blk_below (g := gb326) (o := .cells #[.slice Ao9 t320.length co9, .slice Ao11 t323.length co11] 26 (0, 0)) (by (with_reducible repeat (first | refine blk_drewN ?_ _ | refine blk_drew ?_ | refine blk_alloc ?_ _)); exact BK326.out) hb); have n5_ := Aside0.mk (below_step (by repeat (first | (with_reducible first | exact HB.out | apply below_alloc | apply pw_below_drewN | apply below_drew1 | refine below_set ?_ GE326.out) | exact HB.out)) hb); clear HO322; clear HO325; clear HO329; clear BK326; clear HB; have HO322 := n0_; have HO325 := n1_; have HO329 := n2_; have HO333 := n3_; have BK326 := n4_; have HB := n5_; clear n0_ n1_ n2_ n3_ n4_ n5_; (try clear hb); (try clear hb2); (try clear hk); (try clear hi); (try clear ho0))))
  (try simp only [Act.put, List.setIfInBounds_toArray, List.set_cons_zero, List.set_cons_succ])
  go_cut [33] (fun v33 wc => ∃ (kq : Nat) (x33_5 : Bool), v33 = .bool x33_5 ∧ Aside0 (laws_FnOrderOf.j0 kq t327 t330 x33_5 t320 t323 = some r) ∧ Aside0 (kq ≤ k) ∧ Aside0 (Kd.R (Kd.int .i64) 3 wc w.heap.size (fun _ => True) v328 t327) ∧ Aside0 (Kd.V (Kd.int .i64) 3 wc w.heap.size (fun k_ => some k_ ≠ (v328 : Value).ownBlock ∧ k_ ≠ gb326) (.slice Ao9 t320.length co9) t320) ∧ Aside0 (Kd.V (Kd.slice 3 (Kd.int .i64)) 23 wc w.heap.size (fun k_ => some k_ ≠ (v328 : Value).ownBlock ∧ k_ ≠ gb326) (.slice Ao11 t323.length co11) t323) ∧ Aside0 (wc.heap[gb326]? = some (.cells #[(.slice Ao9 t320.length co9), (.slice Ao11 t323.length co11)] 26 (0, 0))) ∧ Aside0 (Below w.heap.size w wc))
  case first =>
   have H := HC6.out
   clear HC6
   replace H := Option.bind_eq_some_iff.mp H
   obtain ⟨t335, A150, H⟩ := H
   replace H : (if t335 = true then (laws_FnOrderOf.j0 k t327 t330 (t330 != t334) t320 t323) else (laws_FnOrderOf.j0 k t327 t330 true t320 t323)) = some r := H
   have A15 := Aside0.mk A150
   clear A150
   by_cases c16 : t335 = true
   ·subst c16
    have H1 : (laws_FnOrderOf.j0 k t327 t330 (t330 != t334) t320 t323) = some r := by rw [if_pos rfl] at H; exact H
    clear H
    have H := H1
    clear H1
    have H' := Aside0.mk H
    clear H
    obtain ⟨Ao17, co17, eo17⟩ := Kd.R_slice HO329.out
    subst eo17
    obtain ⟨Ao18, co18, eo18⟩ := Kd.R_slice HO333.out
    subst eo18
    go_wp2_with (first | (go_at_call 11; (with_reducible refine (laws_sameInts.calls k _ _ t327 _ _ t331 true _ ?side1 ?side2 ?side3 ?side4 A15.out).mono ?_); (case side1 => repeat (first | exact (Kd.R_reads' HO329.out).2.2 | (with_reducible refine Kd.C_alloc ?_ _) | (with_reducible refine Kd.C_drewN ?_ _) | (with_reducible refine Kd.C_drew ?_))); (case side2 => exact (Kd.R_reads' HO329.out).2.1); (case side3 => repeat (first | exact (Kd.R_reads' HO333.out).2.2 | (with_reducible refine Kd.C_alloc ?_ _) | (with_reducible refine Kd.C_drewN ?_ _) | (with_reducible refine Kd.C_drew ?_))); (case side4 => exact (Kd.R_reads' HO333.out).2.1); rintro e w' ⟨rfl, ⟨nd, rfl⟩⟩; (try first | exact ⟨rfl, _, World.drewN_drewN _ _ _⟩ | exact ⟨rfl, _, Eq.trans (World.drewN_drewN _ _ _) (congrArg (World.drewN _) (Nat.add_assoc _ _ _))⟩)))
    repeat (go_quiet (first | (go_at_call 11; (with_reducible refine (laws_sameInts.calls k _ _ t327 _ _ t331 true _ ?side1 ?side2 ?side3 ?side4 A15.out).mono ?_); (case side1 => repeat (first | exact (Kd.R_reads' HO329.out).2.2 | (with_reducible refine Kd.C_alloc ?_ _) | (with_reducible refine Kd.C_drewN ?_ _) | (with_reducible refine Kd.C_drew ?_))); (case side2 => exact (Kd.R_reads' HO329.out).2.1); (case side3 => repeat (first | exact (Kd.R_reads' HO333.out).2.2 | (with_reducible refine Kd.C_alloc ?_ _) | (with_reducible refine Kd.C_drewN ?_ _) | (with_reducible refine Kd.C_drew ?_))); (case side4 => exact (Kd.R_reads' HO333.out).2.1); rintro e w' ⟨rfl, ⟨nd, rfl⟩⟩; (try first | exact ⟨rfl, _, World.drewN_drewN _ _ _⟩ | exact ⟨rfl, _, Eq.trans (World.drewN_drewN _ _ _) (congrArg (World.drewN _) (Nat.add_assoc _ _ _))⟩))); try go_wp2_with (first | (go_at_call 11; (with_reducible refine (laws_sameInts.calls k _ _ t327 _ _ t331 true _ ?side1 ?side2 ?side3 ?side4 A15.out).mono ?_); (case side1 => repeat (first | exact (Kd.R_reads' HO329.out).2.2 | (with_reducible refine Kd.C_alloc ?_ _) | (with_reducible refine Kd.C_drewN ?_ _) | (with_reducible refine Kd.C_drew ?_))); (case side2 => exact (Kd.R_reads' HO329.out).2.1); (case side3 => repeat (first | exact (Kd.R_reads' HO333.out).2.2 | (with_reducible refine Kd.C_alloc ?_ _) | (with_reducible refine Kd.C_drewN ?_ _) | (with_reducible refine Kd.C_drew ?_))); (case side4 => exact (Kd.R_reads' HO333.out).2.1); rintro e w' ⟨rfl, ⟨nd, rfl⟩⟩; (try first | exact ⟨rfl, _, World.drewN_drewN _ _ _⟩ | exact ⟨rfl, _, Eq.trans (World.drewN_drewN _ _ _) (congrArg (World.drewN _) (Nat.add_assoc _ _ _))⟩))))
    go_meet
    case rel => exact ⟨_, ((t330 != t334)), (by first | rfl | (simp; done) | (simp [*]; done)), H', ⟨by first | omega | exact Nat.le_refl _⟩, ⟨by (with_reducible repeat (first | apply Kd.R_alloc | apply Kd.R_drewN | apply Kd.R_drew)); exact Kd.R_mono HO329.out (fun _ hk => trivial)⟩, ⟨by (with_reducible repeat (first | apply Kd.V_alloc | apply Kd.V_drewN | apply Kd.V_drew)); exact Kd.V_mono HO322.out (fun _ hk => ⟨hk.1.2, hk.1.1.2⟩)⟩, ⟨by (with_reducible repeat (first | apply Kd.V_alloc | apply Kd.V_drewN | apply Kd.V_drew)); exact Kd.V_mono HO325.out (fun _ hk => ⟨hk.1.2, hk.1.1.2⟩)⟩, ⟨by (with_reducible repeat (first | refine blk_drewN ?_ _ | refine blk_drew ?_ | refine blk_alloc ?_ _)); exact BK326.out⟩, ⟨by repeat (first | (with_reducible first | exact HB.out | apply below_alloc | apply pw_below_drewN | apply below_drew1 | refine below_set ?_ GE326.out) | exact HB.out)⟩⟩
   ·replace c16 := Bool.eq_false_iff.mpr c16
    subst c16
    have H1 : (laws_FnOrderOf.j0 k t327 t330 true t320 t323) = some r := by rw [if_neg (show ¬ (false = true) by decide)] at H; exact H
    clear H
    have H := H1
    clear H1
    have H' := Aside0.mk H
    clear H
    obtain ⟨Ao19, co19, eo19⟩ := Kd.R_slice HO329.out
    subst eo19
    obtain ⟨Ao20, co20, eo20⟩ := Kd.R_slice HO333.out
    subst eo20
    go_wp2_with (first | (go_at_call 11; (with_reducible refine (laws_sameInts.calls k _ _ t327 _ _ t331 false _ ?side1 ?side2 ?side3 ?side4 A15.out).mono ?_); (case side1 => repeat (first | exact (Kd.R_reads' HO329.out).2.2 | (with_reducible refine Kd.C_alloc ?_ _) | (with_reducible refine Kd.C_drewN ?_ _) | (with_reducible refine Kd.C_drew ?_))); (case side2 => exact (Kd.R_reads' HO329.out).2.1); (case side3 => repeat (first | exact (Kd.R_reads' HO333.out).2.2 | (with_reducible refine Kd.C_alloc ?_ _) | (with_reducible refine Kd.C_drewN ?_ _) | (with_reducible refine Kd.C_drew ?_))); (case side4 => exact (Kd.R_reads' HO333.out).2.1); rintro e w' ⟨rfl, ⟨nd, rfl⟩⟩; (try first | exact ⟨rfl, _, World.drewN_drewN _ _ _⟩ | exact ⟨rfl, _, Eq.trans (World.drewN_drewN _ _ _) (congrArg (World.drewN _) (Nat.add_assoc _ _ _))⟩)))
    repeat (go_quiet (first | (go_at_call 11; (with_reducible refine (laws_sameInts.calls k _ _ t327 _ _ t331 false _ ?side1 ?side2 ?side3 ?side4 A15.out).mono ?_); (case side1 => repeat (first | exact (Kd.R_reads' HO329.out).2.2 | (with_reducible refine Kd.C_alloc ?_ _) | (with_reducible refine Kd.C_drewN ?_ _) | (with_reducible refine Kd.C_drew ?_))); (case side2 => exact (Kd.R_reads' HO329.out).2.1); (case side3 => repeat (first | exact (Kd.R_reads' HO333.out).2.2 | (with_reducible refine Kd.C_alloc ?_ _) | (with_reducible refine Kd.C_drewN ?_ _) | (with_reducible refine Kd.C_drew ?_))); (case side4 => exact (Kd.R_reads' HO333.out).2.1); rintro e w' ⟨rfl, ⟨nd, rfl⟩⟩; (try first | exact ⟨rfl, _, World.drewN_drewN _ _ _⟩ | exact ⟨rfl, _, Eq.trans (World.drewN_drewN _ _ _) (congrArg (World.drewN _) (Nat.add_assoc _ _ _))⟩))); try go_wp2_with (first | (go_at_call 11; (with_reducible refine (laws_sameInts.calls k _ _ t327 _ _ t331 false _ ?side1 ?side2 ?side3 ?side4 A15.out).mono ?_); (case side1 => repeat (first | exact (Kd.R_reads' HO329.out).2.2 | (with_reducible refine Kd.C_alloc ?_ _) | (with_reducible refine Kd.C_drewN ?_ _) | (with_reducible refine Kd.C_drew ?_))); (case side2 => exact (Kd.R_reads' HO329.out).2.1); (case side3 => repeat (first | exact (Kd.R_reads' HO333.out).2.2 | (with_reducible refine Kd.C_alloc ?_ _) | (with_reducible refine Kd.C_drewN ?_ _) | (with_reducible refine Kd.C_drew ?_))); (case side4 => exact (Kd.R_reads' HO333.out).2.1); rintro e w' ⟨rfl, ⟨nd, rfl⟩⟩; (try first | exact ⟨rfl, _, World.drewN_drewN _ _ _⟩ | exact ⟨rfl, _, Eq.trans (World.drewN_drewN _ _ _) (congrArg (World.drewN _) (Nat.add_assoc _ _ _))⟩))))
    go_meet
    case rel => exact ⟨_, (true), (by first | rfl | (simp; done) | (simp [*]; done)), H', ⟨by first | omega | exact Nat.le_refl _⟩, ⟨by (with_reducible repeat (first | apply Kd.R_alloc | apply Kd.R_drewN | apply Kd.R_drew)); exact Kd.R_mono HO329.out (fun _ hk => trivial)⟩, ⟨by (with_reducible repeat (first | apply Kd.V_alloc | apply Kd.V_drewN | apply Kd.V_drew)); exact Kd.V_mono HO322.out (fun _ hk => ⟨hk.1.2, hk.1.1.2⟩)⟩, ⟨by (with_reducible repeat (first | apply Kd.V_alloc | apply Kd.V_drewN | apply Kd.V_drew)); exact Kd.V_mono HO325.out (fun _ hk => ⟨hk.1.2, hk.1.1.2⟩)⟩, ⟨by (with_reducible repeat (first | refine blk_drewN ?_ _ | refine blk_drew ?_ | refine blk_alloc ?_ _)); exact BK326.out⟩, ⟨by repeat (first | (with_reducible first | exact HB.out | apply below_alloc | apply pw_below_drewN | apply below_drew1 | refine below_set ?_ GE326.out) | exact HB.out)⟩⟩
  case rest =>
   clear HC6
   try clear c1
   try clear c2
   try clear c2b0
   try clear c2b1
   try clear p2
   try clear c3
   try clear c16
   try clear hcz10_0
   try clear hcz10_1
   try clear hcz13_0
   try clear hcz13_1
   try clear hfz10_0
   try clear hfz10_1
   try clear hfz13_0
   try clear hfz13_1
   obtain ⟨kq, x33_5, rfl, HA, HJ5, HO_4, HO_327000, HO_327001, BK326, HB⟩ := hcut
   cases kq with
   | zero => exact absurd HA.out (by simp [laws_FnOrderOf.j0])
   | succ kj5 =>
    have H := HA.out
    clear HA
    simp only [laws_FnOrderOf.j0] at H
    by_cases c21 : x33_5 = true
    ·subst c21
     have H1 : (some false) = some r := by rw [if_pos rfl] at H; exact H
     clear H
     have H := H1
     clear H1
     exact absurd ((Option.some.inj H).trans hr) (by decide)
    ·replace c21 := Bool.eq_false_iff.mpr c21
     subst c21
     have H1 : (if t330 = true then (laws_FnOrderOf.l0 kj5 t327 0 t320 t323) else (if (t327.length : Int) = 0 then ((laws_alive.f kj5).bind fun t336 => (some t336)) else (some false))) = some r := by rw [if_neg (show ¬ (false = true) by decide)] at H; exact H
     clear H
     have H := H1
     clear H1
     by_cases c22 : t330 = true
     ·subst c22
      have H1 : (laws_FnOrderOf.l0 kj5 t327 0 t320 t323) = some r := by rw [if_pos rfl] at H; exact H
      clear H
      have H := H1
      clear H1
      have H' := Aside0.mk H
      clear H
      go_wp2
      repeat (go_quiet (fail); try go_wp2)
      go_loopg [8] kj5 (fun kq v8 w' => ∃ (x8_2 : Int), v8 = .int .i64 x8_2 ∧ Aside0 (laws_FnOrderOf.l0 kq t327 x8_2 t320 t323 = some r) ∧ Aside0 (kq ≤ kj5) ∧ Aside0 (Kd.R (Kd.int .i64) 3 w' w.heap.size (fun _ => True) v328 t327) ∧ Aside0 (Kd.V (Kd.int .i64) 3 w' w.heap.size (fun k_ => some k_ ≠ (v328 : Value).ownBlock ∧ k_ ≠ gb326) (.slice Ao9 t320.length co9) t320) ∧ Aside0 (Kd.V (Kd.slice 3 (Kd.int .i64)) 23 w' w.heap.size (fun k_ => some k_ ≠ (v328 : Value).ownBlock ∧ k_ ≠ gb326) (.slice Ao11 t323.length co11) t323) ∧ Aside0 (w'.heap[gb326]? = some (.cells #[(.slice Ao9 t320.length co9), (.slice Ao11 t323.length co11)] 26 (0, 0))) ∧ Aside0 (Below w.heap.size w w'))
      case atStart => exact ⟨(0), (by first | rfl | (simp; done) | (simp [*]; done)), H', ⟨Nat.le_refl _⟩, ⟨by (with_reducible repeat (first | apply Kd.R_alloc | apply Kd.R_drewN | apply Kd.R_drew)); exact HO_4.out⟩, ⟨by (with_reducible repeat (first | apply Kd.V_alloc | apply Kd.V_drewN | apply Kd.V_drew)); exact HO_327000.out⟩, ⟨by (with_reducible repeat (first | apply Kd.V_alloc | apply Kd.V_drewN | apply Kd.V_drew)); exact HO_327001.out⟩, ⟨by (with_reducible repeat (first | refine blk_drewN ?_ _ | refine blk_drew ?_ | refine blk_alloc ?_ _)); exact BK326.out⟩, ⟨by repeat (first | (with_reducible first | exact HB.out | apply below_alloc | apply pw_below_drewN | apply below_drew1 | refine below_set ?_ GE326.out) | exact HB.out)⟩⟩
      case round =>
       clear H'
       try clear c1
       try clear c2
       try clear c2b0
       try clear c2b1
       try clear p2
       try clear c3
       try clear c16
       try clear c21
       try clear c22
       try clear hcz10_0
       try clear hcz10_1
       try clear hcz13_0
       try clear hcz13_1
       try clear hfz10_0
       try clear hfz10_1
       try clear hfz13_0
       try clear hfz13_1
       try clear p2
       obtain ⟨x8_2, rfl, HA, HK2, HO_4, HO_327000, HO_327001, BK326, HB⟩ := hrel
       cases gk with
       | zero => exact absurd HA.out (by simp [laws_FnOrderOf.l0])
       | succ k2 =>
        have H := HA.out
        clear HA
        simp only [laws_FnOrderOf.l0] at H
        by_cases c23 : x8_2 < (t327.length : Int)
        ·rw [if_pos c23] at H
         have c23b0 : decide (x8_2 < (t327.length : Int)) = true := decide_eq_true c23
         clear c23
         have H' := Aside0.mk H
         clear H
         obtain ⟨Ao24, co24, eo24⟩ := Kd.R_slice HO_4.out
         subst eo24
         go_wp2
         repeat (go_quiet (fail); try go_wp2)
         go_loopg [9] k2 (fun kq v9 w' => ∃ (x9_3 : Int), v9 = .int .i64 x9_3 ∧ Aside0 (laws_FnOrderOf.l1 kq t327 x8_2 x9_3 t320 t323 = some r) ∧ Aside0 (kq ≤ k2) ∧ Aside0 (Kd.R (Kd.int .i64) 3 w' w.heap.size (fun _ => True) (.slice Ao24 t327.length co24) t327) ∧ Aside0 (Kd.V (Kd.int .i64) 3 w' w.heap.size (fun k_ => some k_ ≠ ((.slice Ao24 t327.length co24) : Value).ownBlock ∧ k_ ≠ gb326) (.slice Ao9 t320.length co9) t320) ∧ Aside0 (Kd.V (Kd.slice 3 (Kd.int .i64)) 23 w' w.heap.size (fun k_ => some k_ ≠ ((.slice Ao24 t327.length co24) : Value).ownBlock ∧ k_ ≠ gb326) (.slice Ao11 t323.length co11) t323) ∧ Aside0 (w'.heap[gb326]? = some (.cells #[(.slice Ao9 t320.length co9), (.slice Ao11 t323.length co11)] 26 (0, 0))) ∧ Aside0 (Below w.heap.size w w'))
         case atStart => exact ⟨(0), (by first | rfl | (simp; done) | (simp [*]; done)), H', ⟨Nat.le_refl _⟩, ⟨by (with_reducible repeat (first | apply Kd.R_alloc | apply Kd.R_drewN | apply Kd.R_drew)); exact HO_4.out⟩, ⟨by (with_reducible repeat (first | apply Kd.V_alloc | apply Kd.V_drewN | apply Kd.V_drew)); exact HO_327000.out⟩, ⟨by (with_reducible repeat (first | apply Kd.V_alloc | apply Kd.V_drewN | apply Kd.V_drew)); exact HO_327001.out⟩, ⟨by (with_reducible repeat (first | refine blk_drewN ?_ _ | refine blk_drew ?_ | refine blk_alloc ?_ _)); exact BK326.out⟩, ⟨by repeat (first | (with_reducible first | exact HB.out | apply below_alloc | apply pw_below_drewN | apply below_drew1 | refine below_set ?_ GE326.out) | exact HB.out)⟩⟩
         case round =>
          clear H'
          try clear c1
          try clear c2
          try clear c2b0
          try clear c2b1
          try clear p2
          try clear c3
          try clear c16
          try clear c21
          try clear c22
          try clear c23
          try clear c23b0
          try clear hcz10_0
          try clear hcz10_1
          try clear hcz13_0
          try clear hcz13_1
          try clear hfz10_0
          try clear hfz10_1
          try clear hfz13_0
          try clear hfz13_1
          try clear p2
          obtain ⟨x9_3, rfl, HA, HK3, HO_4, HO_327000, HO_327001, BK326, HB⟩ := hrel
          cases gk with
          | zero => exact absurd HA.out (by simp [laws_FnOrderOf.l1])
          | succ k3 =>
           have H := HA.out
           clear HA
           simp only [laws_FnOrderOf.l1] at H
           by_cases c25 : x9_3 < x8_2
           ·rw [if_pos c25] at H
            have c25b0 : decide (x9_3 < x8_2) = true := decide_eq_true c25
            clear c25
            by_cases c26 : 0 ≤ x9_3
            ·rw [if_pos c26] at H
             have c26b0 : decide (0 ≤ x9_3) = true := decide_eq_true c26
             clear c26
             by_cases c27 : x9_3 < (t327.length : Int)
             ·rw [if_pos c27] at H
              have c27b0 : decide (x9_3 < (t327.length : Int)) = true := decide_eq_true c27
              clear c27
              by_cases c28 : 0 ≤ x8_2
              ·rw [if_pos c28] at H
               have c28b0 : decide (0 ≤ x8_2) = true := decide_eq_true c28
               clear c28
               by_cases c29 : x8_2 < (t327.length : Int)
               ·rw [if_pos c29] at H
                have c29b0 : decide (x8_2 < (t327.length : Int)) = true := decide_eq_true c29
                clear c29
                by_cases c30 : (rd t327 x9_3) = (rd t327 x8_2)
                ·rw [if_pos c30] at H
                 have c30b0 : ((rd t327 x9_3) == (rd t327 x8_2)) = true := beq_iff_eq.mpr c30
                 have c30b1 : ((rd t327 x9_3) != (rd t327 x8_2)) = false := bne_eq_false_iff_eq.mpr c30
                 clear c30
                 obtain rfl := Option.some.inj H; clear hr
                 have p337 : 0 ≤ (x9_3 : Int) := of_decide_eq_true (by first | (with_reducible assumption) | assumption)
                 have q337 : x9_3 < (t327.length : Int) := of_decide_eq_true (by first | (with_reducible assumption) | assumption)
                 obtain ⟨ad337, e337, hx337_0⟩ := Kd.at_int (Kd.R_reads' HO_4.out).2.2 x9_3 p337 q337
                 cases e337
                 replace p337 := eq_true p337
                 replace q337 := eq_true q337
                 have p338 : 0 ≤ (x8_2 : Int) := of_decide_eq_true (by first | (with_reducible assumption) | assumption)
                 have q338 : x8_2 < (t327.length : Int) := of_decide_eq_true (by first | (with_reducible assumption) | assumption)
                 obtain ⟨ad338, e338, hx338_0⟩ := Kd.at_int (Kd.R_reads' HO_4.out).2.2 x8_2 p338 q338
                 obtain rfl : ad337 = ad338 := (by injection e338)
                 replace p338 := eq_true p338
                 replace q338 := eq_true q338
                 go_wp2
                 repeat (go_quiet (fail); try go_wp2)
                 go_ret
                 exact ⟨by first | rfl | (simp [errW_none, errW_some] <;> rfl) | (simp [*, errW_none, errW_some] <;> rfl), by repeat (first | (with_reducible first | exact HB.out | apply below_alloc | apply pw_below_drewN | apply below_drew1 | refine below_set ?_ GE326.out) | exact HB.out)⟩
                ·rw [if_neg c30] at H
                 have c30b0 : ((rd t327 x9_3) == (rd t327 x8_2)) = false := beq_eq_false_iff_ne.mpr c30
                 have c30b1 : ((rd t327 x9_3) != (rd t327 x8_2)) = true := bne_iff_ne.mpr c30
                 by_cases c31 : (rd t327 x8_2) < 0
                 ·rw [if_pos c31] at H
                  have c31b0 : decide ((rd t327 x8_2) < 0) = true := decide_eq_true c31
                  clear c31
                  obtain rfl := Option.some.inj H; clear hr
                  have p337 : 0 ≤ (x9_3 : Int) := of_decide_eq_true (by first | (with_reducible assumption) | assumption)
                  have q337 : x9_3 < (t327.length : Int) := of_decide_eq_true (by first | (with_reducible assumption) | assumption)
                  obtain ⟨ad337, e337, hx337_0⟩ := Kd.at_int (Kd.R_reads' HO_4.out).2.2 x9_3 p337 q337
                  cases e337
                  replace p337 := eq_true p337
                  replace q337 := eq_true q337
                  have p338 : 0 ≤ (x8_2 : Int) := of_decide_eq_true (by first | (with_reducible assumption) | assumption)
                  have q338 : x8_2 < (t327.length : Int) := of_decide_eq_true (by first | (with_reducible assumption) | assumption)
                  obtain ⟨ad338, e338, hx338_0⟩ := Kd.at_int (Kd.R_reads' HO_4.out).2.2 x8_2 p338 q338
                  obtain rfl : ad337 = ad338 := (by injection e338)
                  replace p338 := eq_true p338
                  replace q338 := eq_true q338
                  have p339 : 0 ≤ (x8_2 : Int) := of_decide_eq_true (by first | (with_reducible assumption) | assumption)
                  have q339 : x8_2 < (t327.length : Int) := of_decide_eq_true (by first | (with_reducible assumption) | assumption)
                  obtain ⟨ad339, e339, hx339_0⟩ := Kd.at_int (Kd.R_reads' HO_4.out).2.2 x8_2 p339 q339
                  obtain rfl : ad337 = ad339 := (by injection e339)
                  replace p339 := eq_true p339
                  replace q339 := eq_true q339
                  go_wp2
                  repeat (go_quiet (fail); try go_wp2)
                  go_ret
                  exact ⟨by first | rfl | (simp [errW_none, errW_some] <;> rfl) | (simp [*, errW_none, errW_some] <;> rfl), by repeat (first | (with_reducible first | exact HB.out | apply below_alloc | apply pw_below_drewN | apply below_drew1 | refine below_set ?_ GE326.out) | exact HB.out)⟩
                 ·rw [if_neg c31] at H
                  have c31b0 : decide ((rd t327 x8_2) < 0) = false := decide_eq_false c31
                  clear c31
                  by_cases c32 : (rd t327 x8_2) ≥ (t320.length : Int)
                  ·rw [if_pos c32] at H
                   have c32b0 : decide ((t320.length : Int) ≤ (rd t327 x8_2)) = true := decide_eq_true c32
                   clear c32
                   obtain rfl := Option.some.inj H; clear hr
                   have p337 : 0 ≤ (x9_3 : Int) := of_decide_eq_true (by first | (with_reducible assumption) | assumption)
                   have q337 : x9_3 < (t327.length : Int) := of_decide_eq_true (by first | (with_reducible assumption) | assumption)
                   obtain ⟨ad337, e337, hx337_0⟩ := Kd.at_int (Kd.R_reads' HO_4.out).2.2 x9_3 p337 q337
                   cases e337
                   replace p337 := eq_true p337
                   replace q337 := eq_true q337
                   have p338 : 0 ≤ (x8_2 : Int) := of_decide_eq_true (by first | (with_reducible assumption) | assumption)
                   have q338 : x8_2 < (t327.length : Int) := of_decide_eq_true (by first | (with_reducible assumption) | assumption)
                   obtain ⟨ad338, e338, hx338_0⟩ := Kd.at_int (Kd.R_reads' HO_4.out).2.2 x8_2 p338 q338
                   obtain rfl : ad337 = ad338 := (by injection e338)
                   replace p338 := eq_true p338
                   replace q338 := eq_true q338
                   have p339 : 0 ≤ (x8_2 : Int) := of_decide_eq_true (by first | (with_reducible assumption) | assumption)
                   have q339 : x8_2 < (t327.length : Int) := of_decide_eq_true (by first | (with_reducible assumption) | assumption)
                   obtain ⟨ad339, e339, hx339_0⟩ := Kd.at_int (Kd.R_reads' HO_4.out).2.2 x8_2 p339 q339
                   obtain rfl : ad337 = ad339 := (by injection e339)
                   replace p339 := eq_true p339
                   replace q339 := eq_true q339
                   have p340 : 0 ≤ (x8_2 : Int) := of_decide_eq_true (by first | (with_reducible assumption) | assumption)
                   have q340 : x8_2 < (t327.length : Int) := of_decide_eq_true (by first | (with_reducible assumption) | assumption)
                   obtain ⟨ad340, e340, hx340_0⟩ := Kd.at_int (Kd.R_reads' HO_4.out).2.2 x8_2 p340 q340
                   obtain rfl : ad337 = ad340 := (by injection e340)
                   replace p340 := eq_true p340
                   replace q340 := eq_true q340
                   have hcz33_0 : wr.cell? ⟨gb326, 0, none⟩ = some (.slice Ao9 t320.length co9) := (blk_cell BK326.out 0).trans rfl
                   have hcz33_1 : wr.cell? ⟨gb326, 1, none⟩ = some (.slice Ao11 t323.length co11) := (blk_cell BK326.out 1).trans rfl
                   have hfz33_0 := blk_frozen BK326.out 0
                   have hfz33_1 := blk_frozen BK326.out 1
                   go_wp2
                   repeat (go_quiet (fail); try go_wp2)
                   go_ret
                   exact ⟨by first | rfl | (simp [errW_none, errW_some] <;> rfl) | (simp [*, errW_none, errW_some] <;> rfl), by repeat (first | (with_reducible first | exact HB.out | apply below_alloc | apply pw_below_drewN | apply below_drew1 | refine below_set ?_ GE326.out) | exact HB.out)⟩
                  ·rw [if_neg c32] at H
                   have c32b0 : decide ((t320.length : Int) ≤ (rd t327 x8_2)) = false := decide_eq_false c32
                   clear c32
                   by_cases c34 : 0 ≤ (rd t327 x8_2)
                   ·rw [if_pos c34] at H
                    have c34b0 : decide (0 ≤ (rd t327 x8_2)) = true := decide_eq_true c34
                    clear c34
                    by_cases c35 : (rd t327 x8_2) < (t323.length : Int)
                    ·rw [if_pos c35] at H
                     have c35b0 : decide ((rd t327 x8_2) < (t323.length : Int)) = true := decide_eq_true c35
                     clear c35
                     by_cases c36 : 0 ≤ (rd t327 x9_3)
                     ·rw [if_pos c36] at H
                      have c36b0 : decide (0 ≤ (rd t327 x9_3)) = true := decide_eq_true c36
                      clear c36
                      by_cases c37 : (rd t327 x9_3) < ((rd_L1 t323 (rd t327 x8_2)).length : Int)
                      ·rw [if_pos c37] at H
                       have c37b0 : decide ((rd t327 x9_3) < ((rd_L1 t323 (rd t327 x8_2)).length : Int)) = true := decide_eq_true c37
                       clear c37
                       by_cases c38 : (rd (rd_L1 t323 (rd t327 x8_2)) (rd t327 x9_3)) > 0
                       ·rw [if_pos c38] at H
                        have c38b0 : decide (0 < (rd (rd_L1 t323 (rd t327 x8_2)) (rd t327 x9_3))) = true := decide_eq_true c38
                        clear c38
                        obtain rfl := Option.some.inj H; clear hr
                        have p337 : 0 ≤ (x9_3 : Int) := of_decide_eq_true (by first | (with_reducible assumption) | assumption)
                        have q337 : x9_3 < (t327.length : Int) := of_decide_eq_true (by first | (with_reducible assumption) | assumption)
                        obtain ⟨ad337, e337, hx337_0⟩ := Kd.at_int (Kd.R_reads' HO_4.out).2.2 x9_3 p337 q337
                        cases e337
                        replace p337 := eq_true p337
                        replace q337 := eq_true q337
                        have p338 : 0 ≤ (x8_2 : Int) := of_decide_eq_true (by first | (with_reducible assumption) | assumption)
                        have q338 : x8_2 < (t327.length : Int) := of_decide_eq_true (by first | (with_reducible assumption) | assumption)
                        obtain ⟨ad338, e338, hx338_0⟩ := Kd.at_int (Kd.R_reads' HO_4.out).2.2 x8_2 p338 q338
                        obtain rfl : ad337 = ad338 := (by injection e338)
                        replace p338 := eq_true p338
                        replace q338 := eq_true q338
                        have p339 : 0 ≤ (x8_2 : Int) := of_decide_eq_true (by first | (with_reducible assumption) | assumption)
                        have q339 : x8_2 < (t327.length : Int) := of_decide_eq_true (by first | (with_reducible assumption) | assumption)
                        obtain ⟨ad339, e339, hx339_0⟩ := Kd.at_int (Kd.R_reads' HO_4.out).2.2 x8_2 p339 q339
                        obtain rfl : ad337 = ad339 := (by injection e339)
                        replace p339 := eq_true p339
                        replace q339 := eq_true q339
                        have p340 : 0 ≤ (x8_2 : Int) := of_decide_eq_true (by first | (with_reducible assumption) | assumption)
                        have q340 : x8_2 < (t327.length : Int) := of_decide_eq_true (by first | (with_reducible assumption) | assumption)
                        obtain ⟨ad340, e340, hx340_0⟩ := Kd.at_int (Kd.R_reads' HO_4.out).2.2 x8_2 p340 q340
                        obtain rfl : ad337 = ad340 := (by injection e340)
                        replace p340 := eq_true p340
                        replace q340 := eq_true q340
                        have hcz39_0 : wr.cell? ⟨gb326, 0, none⟩ = some (.slice Ao9 t320.length co9) := (blk_cell BK326.out 0).trans rfl
                        have hcz39_1 : wr.cell? ⟨gb326, 1, none⟩ = some (.slice Ao11 t323.length co11) := (blk_cell BK326.out 1).trans rfl
                        have hfz39_0 := blk_frozen BK326.out 0
                        have hfz39_1 := blk_frozen BK326.out 1
                        have p341 : 0 ≤ (x8_2 : Int) := of_decide_eq_true (by first | (with_reducible assumption) | assumption)
                        have q341 : x8_2 < (t327.length : Int) := of_decide_eq_true (by first | (with_reducible assumption) | assumption)
                        obtain ⟨ad341, e341, hx341_0⟩ := Kd.at_int (Kd.R_reads' HO_4.out).2.2 x8_2 p341 q341
                        obtain rfl : ad337 = ad341 := (by injection e341)
                        replace p341 := eq_true p341
                        replace q341 := eq_true q341
                        have p342 : 0 ≤ ((rd t327 x8_2) : Int) := of_decide_eq_true (by first | (with_reducible assumption) | assumption)
                        have q342 : (rd t327 x8_2) < (t323.length : Int) := of_decide_eq_true (by first | (with_reducible assumption) | assumption)
                        obtain ⟨ad342, A342_0, c342_0, e342, hx342_0, hl342_0, hi342_0⟩ := at_L1 (Kd.V_reads' HO_327001.out).2.2 (rd t327 x8_2) p342 q342
                        cases e342
                        obtain ⟨ce342, hce342, hMe342, hcc342⟩ := Kd.V_get HO_327001.out [] (rd t327 x8_2) p342 (by first | exact q342 | exact of_decide_eq_true (by first | (with_reducible assumption) | assumption) | (have e_ := (Kd.V_reads' HO_327001.out).1; omega))
                        obtain ⟨ua342_0, uc342_0, rfl, ul342_0, ge342_0⟩ := Kd.FK_slice_open hMe342
                        have hv342_0 := hcc342 0 _ rfl
                        rw [Nat.add_zero, show ((Kd.slice 3 (Kd.int .i64))).sz = 1 from rfl, Nat.mul_one] at hv342_0
                        replace hv342_0 := Option.some.inj (hv342_0.symm.trans hx342_0)
                        injection hv342_0 with hva_ hvn_ hvc_
                        rw [hva_] at ge342_0
                        rw [hvc_] at ul342_0
                        have HL342_0 := Aside0.mk (show Kd.V (Kd.int .i64) 3 _ w.heap.size _ _ (rd_L1 t323 (rd t327 x8_2)) from Kd.V_mk ul342_0 ge342_0)
                        clear hva_ hvn_ hvc_ ge342_0 ul342_0
                        clear hcc342 hce342
                        have HR342_0 := Aside0.mk hi342_0
                        have HC342_0 := Aside0.mk hl342_0
                        clear hi342_0 hl342_0
                        replace p342 := eq_true p342
                        replace q342 := eq_true q342
                        have p343 : 0 ≤ (x9_3 : Int) := of_decide_eq_true (by first | (with_reducible assumption) | assumption)
                        have q343 : x9_3 < (t327.length : Int) := of_decide_eq_true (by first | (with_reducible assumption) | assumption)
                        obtain ⟨ad343, e343, hx343_0⟩ := Kd.at_int (Kd.R_reads' HO_4.out).2.2 x9_3 p343 q343
                        obtain rfl : ad337 = ad343 := (by injection e343)
                        replace p343 := eq_true p343
                        replace q343 := eq_true q343
                        have p344 : 0 ≤ ((rd t327 x9_3) : Int) := of_decide_eq_true (by first | (with_reducible assumption) | assumption)
                        have q344 : (rd t327 x9_3) < ((rd_L1 t323 (rd t327 x8_2)).length : Int) := of_decide_eq_true (by first | (with_reducible assumption) | assumption)
                        obtain ⟨ad344, e344, hx344_0⟩ := Kd.at_int (by repeat (first | (with_reducible exact HR342_0.out) | (with_reducible refine Kd.C_alloc ?_ _) | (with_reducible refine Kd.C_drewN ?_ _) | (with_reducible refine Kd.C_drew ?_) | exact HR342_0.out)) (rd t327 x9_3) p344 q344
                        cases e344
                        replace p344 := eq_true p344
                        replace q344 := eq_true q344
                        go_wp2
                        repeat (go_quiet (fail); try go_wp2)
                        go_ret
                        exact ⟨by first | rfl | (simp [errW_none, errW_some] <;> rfl) | (simp [*, errW_none, errW_some] <;> rfl), by repeat (first | (with_reducible first | exact HB.out | apply below_alloc | apply pw_below_drewN | apply below_drew1 | refine below_set ?_ GE326.out) | exact HB.out)⟩
                       ·rw [if_neg c38] at H
                        have c38b0 : decide (0 < (rd (rd_L1 t323 (rd t327 x8_2)) (rd t327 x9_3))) = false := decide_eq_false c38
                        clear c38
                        have H' := Aside0.mk H
                        clear H
                        have p337 : 0 ≤ (x9_3 : Int) := of_decide_eq_true (by first | (with_reducible assumption) | assumption)
                        have q337 : x9_3 < (t327.length : Int) := of_decide_eq_true (by first | (with_reducible assumption) | assumption)
                        obtain ⟨ad337, e337, hx337_0⟩ := Kd.at_int (Kd.R_reads' HO_4.out).2.2 x9_3 p337 q337
                        cases e337
                        replace p337 := eq_true p337
                        replace q337 := eq_true q337
                        have p338 : 0 ≤ (x8_2 : Int) := of_decide_eq_true (by first | (with_reducible assumption) | assumption)
                        have q338 : x8_2 < (t327.length : Int) := of_decide_eq_true (by first | (with_reducible assumption) | assumption)
                        obtain ⟨ad338, e338, hx338_0⟩ := Kd.at_int (Kd.R_reads' HO_4.out).2.2 x8_2 p338 q338
                        obtain rfl : ad337 = ad338 := (by injection e338)
                        replace p338 := eq_true p338
                        replace q338 := eq_true q338
                        have p339 : 0 ≤ (x8_2 : Int) := of_decide_eq_true (by first | (with_reducible assumption) | assumption)
                        have q339 : x8_2 < (t327.length : Int) := of_decide_eq_true (by first | (with_reducible assumption) | assumption)
                        obtain ⟨ad339, e339, hx339_0⟩ := Kd.at_int (Kd.R_reads' HO_4.out).2.2 x8_2 p339 q339
                        obtain rfl : ad337 = ad339 := (by injection e339)
                        replace p339 := eq_true p339
                        replace q339 := eq_true q339
                        have p340 : 0 ≤ (x8_2 : Int) := of_decide_eq_true (by first | (with_reducible assumption) | assumption)
                        have q340 : x8_2 < (t327.length : Int) := of_decide_eq_true (by first | (with_reducible assumption) | assumption)
                        obtain ⟨ad340, e340, hx340_0⟩ := Kd.at_int (Kd.R_reads' HO_4.out).2.2 x8_2 p340 q340
                        obtain rfl : ad337 = ad340 := (by injection e340)
                        replace p340 := eq_true p340
                        replace q340 := eq_true q340
                        have hcz40_0 : wr.cell? ⟨gb326, 0, none⟩ = some (.slice Ao9 t320.length co9) := (blk_cell BK326.out 0).trans rfl
                        have hcz40_1 : wr.cell? ⟨gb326, 1, none⟩ = some (.slice Ao11 t323.length co11) := (blk_cell BK326.out 1).trans rfl
                        have hfz40_0 := blk_frozen BK326.out 0
                        have hfz40_1 := blk_frozen BK326.out 1
                        have p341 : 0 ≤ (x8_2 : Int) := of_decide_eq_true (by first | (with_reducible assumption) | assumption)
                        have q341 : x8_2 < (t327.length : Int) := of_decide_eq_true (by first | (with_reducible assumption) | assumption)
                        obtain ⟨ad341, e341, hx341_0⟩ := Kd.at_int (Kd.R_reads' HO_4.out).2.2 x8_2 p341 q341
                        obtain rfl : ad337 = ad341 := (by injection e341)
                        replace p341 := eq_true p341
                        replace q341 := eq_true q341
                        have p342 : 0 ≤ ((rd t327 x8_2) : Int) := of_decide_eq_true (by first | (with_reducible assumption) | assumption)
                        have q342 : (rd t327 x8_2) < (t323.length : Int) := of_decide_eq_true (by first | (with_reducible assumption) | assumption)
                        obtain ⟨ad342, A342_0, c342_0, e342, hx342_0, hl342_0, hi342_0⟩ := at_L1 (Kd.V_reads' HO_327001.out).2.2 (rd t327 x8_2) p342 q342
                        cases e342
                        obtain ⟨ce342, hce342, hMe342, hcc342⟩ := Kd.V_get HO_327001.out [] (rd t327 x8_2) p342 (by first | exact q342 | exact of_decide_eq_true (by first | (with_reducible assumption) | assumption) | (have e_ := (Kd.V_reads' HO_327001.out).1; omega))
                        obtain ⟨ua342_0, uc342_0, rfl, ul342_0, ge342_0⟩ := Kd.FK_slice_open hMe342
                        have hv342_0 := hcc342 0 _ rfl
                        rw [Nat.add_zero, show ((Kd.slice 3 (Kd.int .i64))).sz = 1 from rfl, Nat.mul_one] at hv342_0
                        replace hv342_0 := Option.some.inj (hv342_0.symm.trans hx342_0)
                        injection hv342_0 with hva_ hvn_ hvc_
                        rw [hva_] at ge342_0
                        rw [hvc_] at ul342_0
                        have HL342_0 := Aside0.mk (show Kd.V (Kd.int .i64) 3 _ w.heap.size _ _ (rd_L1 t323 (rd t327 x8_2)) from Kd.V_mk ul342_0 ge342_0)
                        clear hva_ hvn_ hvc_ ge342_0 ul342_0
                        clear hcc342 hce342
                        have HR342_0 := Aside0.mk hi342_0
                        have HC342_0 := Aside0.mk hl342_0
                        clear hi342_0 hl342_0
                        replace p342 := eq_true p342
                        replace q342 := eq_true q342
                        have p343 : 0 ≤ (x9_3 : Int) := of_decide_eq_true (by first | (with_reducible assumption) | assumption)
                        have q343 : x9_3 < (t327.length : Int) := of_decide_eq_true (by first | (with_reducible assumption) | assumption)
                        obtain ⟨ad343, e343, hx343_0⟩ := Kd.at_int (Kd.R_reads' HO_4.out).2.2 x9_3 p343 q343
                        obtain rfl : ad337 = ad343 := (by injection e343)
                        replace p343 := eq_true p343
                        replace q343 := eq_true q343
                        have p344 : 0 ≤ ((rd t327 x9_3) : Int) := of_decide_eq_true (by first | (with_reducible assumption) | assumption)
                        have q344 : (rd t327 x9_3) < ((rd_L1 t323 (rd t327 x8_2)).length : Int) := of_decide_eq_true (by first | (with_reducible assumption) | assumption)
                        obtain ⟨ad344, e344, hx344_0⟩ := Kd.at_int (by repeat (first | (with_reducible exact HR342_0.out) | (with_reducible refine Kd.C_alloc ?_ _) | (with_reducible refine Kd.C_drewN ?_ _) | (with_reducible refine Kd.C_drew ?_) | exact HR342_0.out)) (rd t327 x9_3) p344 q344
                        cases e344
                        replace p344 := eq_true p344
                        replace q344 := eq_true q344
                        go_wp2
                        repeat (go_quiet (fail); try go_wp2)
                        go_roundg k3
                        case measure => have := HJ5.out; have := HK2.out; have := HK3.out; omega
                        case rel => exact ⟨(wrap64 (x9_3 + 1)), (by first | rfl | (simp; done) | (simp [*]; done)), H', ⟨by have := HJ5.out; have := HK2.out; have := HK3.out; omega⟩, ⟨by (with_reducible repeat (first | apply Kd.R_alloc | apply Kd.R_drewN | apply Kd.R_drew)); exact HO_4.out⟩, ⟨by (with_reducible repeat (first | apply Kd.V_alloc | apply Kd.V_drewN | apply Kd.V_drew)); exact HO_327000.out⟩, ⟨by (with_reducible repeat (first | apply Kd.V_alloc | apply Kd.V_drewN | apply Kd.V_drew)); exact HO_327001.out⟩, ⟨by (with_reducible repeat (first | refine blk_drewN ?_ _ | refine blk_drew ?_ | refine blk_alloc ?_ _)); exact BK326.out⟩, ⟨by repeat (first | (with_reducible first | exact HB.out | apply below_alloc | apply pw_below_drewN | apply below_drew1 | refine below_set ?_ GE326.out) | exact HB.out)⟩⟩
                      ·rw [if_neg c37] at H
                       exact absurd H (by simp)
                     ·rw [if_neg c36] at H
                      exact absurd H (by simp)
                    ·rw [if_neg c35] at H
                     exact absurd H (by simp)
                   ·rw [if_neg c34] at H
                    exact absurd H (by simp)
               ·rw [if_neg c29] at H
                exact absurd H (by simp)
              ·rw [if_neg c28] at H
               exact absurd H (by simp)
             ·rw [if_neg c27] at H
              exact absurd H (by simp)
            ·rw [if_neg c26] at H
             exact absurd H (by simp)
           ·rw [if_neg c25] at H
            have c25b0 : decide (x9_3 < x8_2) = false := decide_eq_false c25
            clear c25
            have H' := Aside0.mk H
            clear H
            go_wp2
            repeat (go_quiet (fail); try go_wp2)
            go_roundg k3
            case measure => have := HJ5.out; have := HK2.out; have := HK3.out; omega
            case rel => exact ⟨(wrap64 (x8_2 + 1)), (by first | rfl | (simp; done) | (simp [*]; done)), H', ⟨by have := HJ5.out; have := HK2.out; have := HK3.out; omega⟩, ⟨by (with_reducible repeat (first | apply Kd.R_alloc | apply Kd.R_drewN | apply Kd.R_drew)); exact HO_4.out⟩, ⟨by (with_reducible repeat (first | apply Kd.V_alloc | apply Kd.V_drewN | apply Kd.V_drew)); exact HO_327000.out⟩, ⟨by (with_reducible repeat (first | apply Kd.V_alloc | apply Kd.V_drewN | apply Kd.V_drew)); exact HO_327001.out⟩, ⟨by (with_reducible repeat (first | refine blk_drewN ?_ _ | refine blk_drew ?_ | refine blk_alloc ?_ _)); exact BK326.out⟩, ⟨by repeat (first | (with_reducible first | exact HB.out | apply below_alloc | apply pw_below_drewN | apply below_drew1 | refine below_set ?_ GE326.out) | exact HB.out)⟩⟩
        ·rw [if_neg c23] at H
         have c23b0 : decide (x8_2 < (t327.length : Int)) = false := decide_eq_false c23
         clear c23
         obtain rfl := Option.some.inj H; clear hr
         obtain ⟨Ao41, co41, eo41⟩ := Kd.R_slice HO_4.out
         subst eo41
         have hcz42_0 : wr.cell? ⟨gb326, 0, none⟩ = some (.slice Ao9 t320.length co9) := (blk_cell BK326.out 0).trans rfl
         have hcz42_1 : wr.cell? ⟨gb326, 1, none⟩ = some (.slice Ao11 t323.length co11) := (blk_cell BK326.out 1).trans rfl
         have hfz42_0 := blk_frozen BK326.out 0
         have hfz42_1 := blk_frozen BK326.out 1
         go_wp2
         repeat (go_quiet (fail); try go_wp2)
         go_ret
         exact ⟨by first | rfl | (simp [errW_none, errW_some] <;> rfl) | (simp [*, errW_none, errW_some] <;> rfl), by repeat (first | (with_reducible first | exact HB.out | apply below_alloc | apply pw_below_drewN | apply below_drew1 | refine below_set ?_ GE326.out) | exact HB.out)⟩
     ·replace c22 := Bool.eq_false_iff.mpr c22
      subst c22
      have H1 : (if (t327.length : Int) = 0 then ((laws_alive.f kj5).bind fun t336 => (some t336)) else (some false)) = some r := by rw [if_neg (show ¬ (false = true) by decide)] at H; exact H
      clear H
      have H := H1
      clear H1
      by_cases c43 : (t327.length : Int) = 0
      ·rw [if_pos c43] at H
       have c43b0 : ((t327.length : Int) == 0) = true := beq_iff_eq.mpr c43
       have c43b1 : ((t327.length : Int) != 0) = false := bne_eq_false_iff_eq.mpr c43
       clear c43
       replace H := Option.bind_eq_some_iff.mp H
       obtain ⟨t336, A440, H⟩ := H
       replace H : (some t336) = some r := H
       have A44 := Aside0.mk A440
       clear A440
       obtain rfl := Option.some.inj H; clear hr
       obtain ⟨Ao45, co45, eo45⟩ := Kd.R_slice HO_4.out
       subst eo45
       go_wp2_with (first | (go_at_call 12; (with_reducible refine (laws_alive.calls kj5  t336 _ A44.out).mono ?_); rintro e w46 ⟨rfl, hb⟩; have n0_ := Aside0.mk (Kd.R_below (by (with_reducible repeat (first | apply Kd.R_alloc | apply Kd.R_drewN | apply Kd.R_drew)); exact HO_4.out) hb); have n1_ := Aside0.mk (Kd.V_below (by (with_reducible repeat (first | apply Kd.V_alloc | apply Kd.V_drewN | apply Kd.V_drew)); exact HO_327000.out) hb); have n2_ := Aside0.mk (Kd.V_below (by (with_reducible repeat (first | apply Kd.V_alloc | apply Kd.V_drewN | apply Kd.V_drew)); exact HO_327001.out) hb); have n3_ := Aside0.mk (blk_below (g := gb326) (o := .cells #[.slice Ao9 t320.length co9, .slice Ao11 t323.length co11] 26 (0, 0)) (by (with_reducible repeat (first | refine blk_drewN ?_ _ | refine blk_drew ?_ | refine blk_alloc ?_ _)); exact BK326.out) hb); have n4_ := Aside0.mk (below_step (by repeat (first | (with_reducible first | exact HB.out | apply below_alloc | apply pw_below_drewN | apply below_drew1 | refine below_set ?_ GE326.out) | exact HB.out)) hb); clear HO_4; clear HO_327000; clear HO_327001; clear BK326; clear HB; have HO_4 := n0_; have HO_327000 := n1_; have HO_327001 := n2_; have BK326 := n3_; have HB := n4_; clear n0_ n1_ n2_ n3_ n4_; (try clear hb); (try clear hb2); (try clear hk); (try clear hi)))
       repeat (go_quiet (first | (go_at_call 12; (with_reducible refine (laws_alive.calls kj5  t336 _ A44.out).mono ?_); rintro e w46 ⟨rfl, hb⟩; have n0_ := Aside0.mk (Kd.R_below (by (with_reducible repeat (first | apply Kd.R_alloc | apply Kd.R_drewN | apply Kd.R_drew)); exact HO_4.out) hb); have n1_ := Aside0.mk (Kd.V_below (by (with_reducible repeat (first | apply Kd.V_alloc | apply Kd.V_drewN | apply Kd.V_drew)); exact HO_327000.out) hb); have n2_ := Aside0.mk (Kd.V_below (by (with_reducible repeat (first | apply Kd.V_alloc | apply Kd.V_drewN | apply Kd.V_drew)); exact HO_327001.out) hb); have n3_ := Aside0.mk (blk_below (g := gb326) (o := .cells #[.slice Ao9 t320.length co9, .slice Ao11 t323.length co11] 26 (0, 0)) (by (with_reducible repeat (first | refine blk_drewN ?_ _ | refine blk_drew ?_ | refine blk_alloc ?_ _)); exact BK326.out) hb); have n4_ := Aside0.mk (below_step (by repeat (first | (with_reducible first | exact HB.out | apply below_alloc | apply pw_below_drewN | apply below_drew1 | refine below_set ?_ GE326.out) | exact HB.out)) hb); clear HO_4; clear HO_327000; clear HO_327001; clear BK326; clear HB; have HO_4 := n0_; have HO_327000 := n1_; have HO_327001 := n2_; have BK326 := n3_; have HB := n4_; clear n0_ n1_ n2_ n3_ n4_; (try clear hb); (try clear hb2); (try clear hk); (try clear hi))); try go_wp2_with (first | (go_at_call 12; (with_reducible refine (laws_alive.calls kj5  t336 _ A44.out).mono ?_); rintro e w46 ⟨rfl, hb⟩; have n0_ := Aside0.mk (Kd.R_below (by (with_reducible repeat (first | apply Kd.R_alloc | apply Kd.R_drewN | apply Kd.R_drew)); exact HO_4.out) hb); have n1_ := Aside0.mk (Kd.V_below (by (with_reducible repeat (first | apply Kd.V_alloc | apply Kd.V_drewN | apply Kd.V_drew)); exact HO_327000.out) hb); have n2_ := Aside0.mk (Kd.V_below (by (with_reducible repeat (first | apply Kd.V_alloc | apply Kd.V_drewN | apply Kd.V_drew)); exact HO_327001.out) hb); have n3_ := Aside0.mk (blk_below (g := gb326) (o := .cells #[.slice Ao9 t320.length co9, .slice Ao11 t323.length co11] 26 (0, 0)) (by (with_reducible repeat (first | refine blk_drewN ?_ _ | refine blk_drew ?_ | refine blk_alloc ?_ _)); exact BK326.out) hb); have n4_ := Aside0.mk (below_step (by repeat (first | (with_reducible first | exact HB.out | apply below_alloc | apply pw_below_drewN | apply below_drew1 | refine below_set ?_ GE326.out) | exact HB.out)) hb); clear HO_4; clear HO_327000; clear HO_327001; clear BK326; clear HB; have HO_4 := n0_; have HO_327000 := n1_; have HO_327001 := n2_; have BK326 := n3_; have HB := n4_; clear n0_ n1_ n2_ n3_ n4_; (try clear hb); (try clear hb2); (try clear hk); (try clear hi))))
       go_ret
       exact ⟨by first | rfl | (simp [errW_none, errW_some] <;> rfl) | (simp [*, errW_none, errW_some] <;> rfl), by repeat (first | (with_reducible first | exact HB.out | apply below_alloc | apply pw_below_drewN | apply below_drew1 | refine below_set ?_ GE326.out) | exact HB.out)⟩
      ·rw [if_neg c43] at H
       have c43b0 : ((t327.length : Int) == 0) = false := beq_eq_false_iff_ne.mpr c43
       have c43b1 : ((t327.length : Int) != 0) = true := bne_iff_ne.mpr c43
       have c43b2 : ¬ (t327 = []) := fun h_ => c43 (by rw [h_]; rfl)
       obtain rfl := Option.some.inj H; clear hr
       obtain ⟨Ao47, co47, eo47⟩ := Kd.R_slice HO_4.out
       subst eo47
       go_wp2
       repeat (go_quiet (fail); try go_wp2)
       go_ret
       exact ⟨by first | rfl | (simp [errW_none, errW_some] <;> rfl) | (simp [*, errW_none, errW_some] <;> rfl), by repeat (first | (with_reducible first | exact HB.out | apply below_alloc | apply pw_below_drewN | apply below_drew1 | refine below_set ?_ GE326.out) | exact HB.out)⟩

/-- THE ONE PURE STATEMENT of laws_FnOrderOf: yours. -/
def laws_FnOrderOf.Pure : Prop := ∀ (l0 : List Int), l0.length ≤ maxLen → l0.length * 1 ≤ 140737488351232 → (∀ x ∈ l0, (Lit.int .u8 x).wf = true) → ∃ k, laws_FnOrderOf.f k l0 = some true
theorem laws_FnOrderOf.walk (P : laws_FnOrderOf.Pure) (a0 : Option Addr) (len0 cap0 : Nat) (z0 : List Int) (w : World) (w0 : (a0 = none ∧ len0 = 0 ∧ cap0 = 0 ∧ z0 = []) ∨ ∃ x, a0 = some x ∧ len0 ≤ cap0 ∧ cap0 ≤ maxLen ∧ z0.length = cap0 ∧ (∀ i, i < z0.length → w.cell? (x.add i) = some (.int .u8 (z0.getD i 0))) ∧ ∀ n ∈ z0, (Lit.int .u8 n).wf = true) (y0 : len0 * 1 ≤ 140737488351232) :
  Calls Try.prog 3 #[.slice a0 len0 cap0] w fun e w' => e = .returned (.bool true) ∧ Below w.heap.size w w' := by
 obtain ⟨l0, rfl, hr0, hm0, hw0, hc0⟩ := ReadsInt.ofRowC w0
 obtain ⟨k, h⟩ := P l0 hm0 y0 hw0
 refine (laws_FnOrderOf.calls_true k _ _ l0 true w (Kd.C_of_reads (d := (0 : Int)) (h1 := fun _ => rfl) hr0) hc0 h rfl).mono ?_
 rintro e w' ⟨rfl, hd⟩
 exact ⟨rfl, hd⟩

end Go.Proofs.Ythdncdfgonbfeaa.QFnOrderOf
