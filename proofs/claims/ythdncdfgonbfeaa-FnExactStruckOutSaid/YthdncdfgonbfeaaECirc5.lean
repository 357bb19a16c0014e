/- impl.circles: what the plain functions tell, as a list of rows of its own; no condition. -/
import Derived.Test.YthdncdfgonbfeaaECirc4
import Derived.Test.YthdncdfgonbfeaaECirc1
import Derived.WalkMore
import Derived.Outline
import Derived.Laws.EntriesVeiled
namespace Go.Proofs.Ythdncdfgonbfeaa.Circ
open Go.RowKit Go.Proofs.Ythdncdfgonbfeaa.QWalk Go.Proofs.YthdncdfgonbfeaaW.PrintWords Go.Proofs.YthdncdfgonbfeaaW.PrintLast Go.Proofs.YthdncdfgonbfeaaW.PrintMore
attribute [local go_sem] max2_int min2_int max_two min_two max_three min_three max_four min_four   -- for this text's walks alone
set_option linter.unusedVariables false
set_option linter.unusedSimpArgs false
/-- The walks from the banks i, i + 1, ..: m are left. -/
def startsF (k : Nat) (d : List (List Int)) : Nat → Nat → List (List Int) → Option (List (List Int))
 | 0, _, o => some o
 | m + 1, i, o => (walkF d k [(i : Int)] o).bind fun o1 => startsF k d m (i + 1) o1
/-- impl.circles as a plain function. -/
def circF (k : Nat) (c : List Int) (d : List (List Int)) : Option (List (List Int)) := (startsF k d c.length 0 []).bind fun o => if o.length ≤ 20 ∧ (∀ x ∈ o, x.length ≤ 1000) then some (sortI (o.length - 1) 1 o) else none
/-- What a call leaves. -/
def PostC (w : World) (r : List (List Int)) (e : Ending) (w' : World) : Prop := ∃ v0_ : Value, e = .returned (v0_) ∧ Kd.S (Kd.slice 3 (Kd.int .i64)) 23 w' w.heap.size (fun _ => True) v0_ r ∧ Below w.heap.size w w'
set_option maxHeartbeats 8000000 in
set_option maxRecDepth 100000 in
theorem circles_post (k : Nat) (A0_0 : Option Addr) (c0_0 : Nat) (l0_0 : List Int) (A0_1 : Option Addr) (c0_1 : Nat) (l0_1 : List (List Int)) (r : List (List Int)) (w : World) (hr0_0 : Kd.C (Kd.int .i64) w A0_0 l0_0.length l0_0) (hc0_0 : l0_0.length ≤ c0_0) (hr0_1 : Kd.C (Kd.slice 3 (Kd.int .i64)) w A0_1 l0_1.length l0_1) (hc0_1 : l0_1.length ≤ c0_1) (h : circF k l0_0 l0_1 = some r) :
  Calls Try.prog 36 #[.agg #[.slice A0_0 l0_0.length c0_0, .slice A0_1 l0_1.length c0_1]] w (PostC w r) := by
 have hu26 := Try.underlying26
 obtain ⟨o, h1, h2⟩ := Option.bind_eq_some_iff.mp h
 have H1 := Aside0.mk h1
 have H2 := Aside0.mk h2
 have HR0 := Aside0.mk hr0_0
 have HR1 := Aside0.mk hr0_1
 clear h h1 h2 hr0_0 hr0_1
 go_enter Try.func36, Try.ntmps36
 go_upto_region 4 with (first
  | ((with_reducible refine gate_dst (N := 1) rfl ?_); refine box_event ?hg (N := 1) ?hd (cs := #[.slice A0_0 l0_0.length c0_0, .slice A0_1 l0_1.length c0_1]) (t := 26) ?hr ?_; (case hd => rfl); (case hg => rfl); (case hr => first | (go_simp; done) | (go_simp; rfl)); intro gb hgb w1 hbox1 hb1; have HB1 := Aside0.mk hb1; have BK1 := Aside0.mk hbox1; have GB1 := Aside0.mk hgb; clear hb1 hbox1 hgb)
  | ((with_reducible refine gate_dst (N := 6) rfl ?_); refine Kd.S_lit (Kd.slice 3 (Kd.int .i64)) _ 23 ?hg (N := 6) ?hd (xs := ([] : List (List Int))) (inner := []) (ok := fun _ => True) (okp := fun _ => True) ?hr ?hp (fun _ hk => hk) trivial (Below.refl _ _) (Nat.le_refl _) (by simp) ?_; (case hd => rfl); (case hg => rfl); (case hr => first | (go_simp; done) | (go_simp; rfl)); (case hp => exact (Reps.none _ _)); intro v6 w2 ho6 hb6 hg_ hnew_; clear hg_ hnew_; obtain ⟨A6, c6, e6⟩ := Kd.S_slice ho6; subst e6; have HO6 := Aside0.mk ho6; have HB2 := Aside0.mk hb6; clear ho6 hb6)
  | ((with_reducible refine gate_dst (N := 3) rfl ?_); refine box_event ?hg (N := 3) ?hd (cs := #[.slice none 0 0]) (t := 24) ?hr ?_; (case hd => rfl); (case hg => rfl); (case hr => first | (go_simp; done) | (go_simp; rfl)); intro go hgo w3 hbox3 hb3; have HB3 := Aside0.mk hb3; have BK3 := Aside0.mk hbox3; have GO3 := Aside0.mk hgo; have k3 := blk_cell hbox3 0; have f3 := blk_frozen hbox3 0; clear hb3 hbox3 hgo)
  | ((with_reducible refine gate_dst (N := 4) rfl ?_); clear k3 f3; refine box_event ?hg (N := 4) ?hd (cs := #[.nilFunc]) (t := 67) ?hr ?_; (case hd => rfl); (case hg => rfl); (case hr => first | (go_simp; done) | (go_simp; rfl)); intro gw hgw w4 hbox4 hb4; have HB4 := Aside0.mk hb4; have BK4 := Aside0.mk hbox4; have GW4 := Aside0.mk hgw; have k4 := blk_cell hbox4 0; have f4 := blk_frozen hbox4 0; clear hb4 hbox4 hgw))
 have HE := Aside0.mk (Env.made HB1.out BK1.out GB1.out HB2.out HO6.out HB3.out BK3.out GO3.out HB4.out BK4.out GW4.out)
 unfold fv at HE
 clear k4 f4 HB1 BK1 GB1 HB2 HO6 HB3 BK3 GO3 HB4 BK4 GW4
 generalize w4.setCell _ _ = w5 at HE ⊢
 have hb0 : w5.cell? ⟨gb, 0, none⟩ = some (.slice A0_0 l0_0.length c0_0) := (blk_cell HE.out.bk 0).trans rfl
 go_wp2
 clear hb0
 go_loopg [11] l0_0.length (fun m v11 wr => ∃ (i : Nat) (o1 : List (List Int)) (vo : Value), v11 = .int .i64 (i : Int) ∧ Aside0 (i + m = l0_0.length) ∧ Aside0 (startsF k l0_1 m i o1 = some o) ∧ Aside0 (Env w gb go gw (.slice A0_0 l0_0.length c0_0) (.slice A0_1 l0_1.length c0_1) wr vo o1))
 case atStart => exact ⟨0, [], _, by first | rfl | go_num, ⟨by omega⟩, H1, HE⟩
 case round =>
  clear HE H1
  obtain ⟨i, o1, vo, rfl, HM, H, HE⟩ := hrel
  have hcl : l0_0.length ≤ 9223372036854775807 := HR0.out.2.1
  cases gk with
  | zero =>
   have hi : ¬ ((i : Int) < (l0_0.length : Int)) := by have := HM.out; omega
   have hid := decide_eq_false hi
   have hid2 : decide (i < l0_0.length) = false := decide_eq_false (by omega)
   obtain rfl : o1 = o := Option.some.inj H.out
   have h2 := H2.out
   split at h2
   ·rename_i hg
    obtain rfl := Option.some.inj h2
    have HC := Aside0.mk (sort_calls (w := w) (W := wr) (v := vo) (xs := o1) ⟨HE.out.rows, HE.out.below, Kept.refl _ _⟩ hg.1 hg.2)
    have ko : wr.cell? ⟨go, 0, none⟩ = some vo := (blk_cell HE.out.ok 0).trans rfl
    clear h2 hg H2
    go_wp2_with (go_at_call 55; refine HC.out.mono ?_; rintro e w6 ⟨rfl, hI⟩; have HI := Aside0.mk hI; have ko2 : w6.cell? ⟨go, 0, none⟩ = some vo := (blk_cell (blk_kept HE.out.ok hI.kept (fun h_ => Kd.S_ne HE.out.rows HE.out.ok (by decide) h_)) 0).trans rfl; clear hI ko)
    go_ret
    exact ⟨_, rfl, HI.out.rows, HI.out.below⟩
   ·exact absurd h2 (by simp)
  | succ m =>
   have hi : i < l0_0.length := by have := HM.out; omega
   have hid : decide ((i : Int) < (l0_0.length : Int)) = true := decide_eq_true (by omega)
   have hid2 : decide (i < l0_0.length) = true := decide_eq_true hi
   have h := H.out
   rw [startsF] at h
   obtain ⟨o2, h1, h2⟩ := Option.bind_eq_some_iff.mp h
   have H1 := Aside0.mk h1
   have H := Aside0.mk h2
   clear h h1 h2
   have kw : wr.cell? ⟨gw, 0, none⟩ = some (fv gb go gw) := (blk_cell HE.out.wk 0).trans rfl
   unfold fv at kw
   go_wp2_with (first
    | ((with_reducible refine gate_dst (N := 16) rfl ?_); refine Kd.R_lit (Kd.int .i64) _ 3 ?hg (N := 16) ?hd (xs := ([(i : Int)] : List Int)) (inner := [.int .i64 (i : Int)]) (ok := fun _ => True) (okp := fun _ => True) ?hr ?hp (fun _ hk => hk) trivial (Below.refl _ _) (Nat.le_refl _) (by simp) ?_; (case hd => rfl); (case hg => rfl); (case hr => first | (go_simp; done) | (go_simp; rfl)); (case hp => exact (Reps.one (show Kd.M (Kd.int .i64) _ _ _ (i : Int) [.int .i64 (i : Int)] from rfl) (Reps.none _ _))); intro v16 w6 ho6 hb6 hg_ hnew_; clear hg_ hnew_ kw; have HO6 := Aside0.mk ho6; have HB6 := Aside0.mk hb6; clear ho6 hb6)
    | (go_at_call 54; refine (walk_calls HR1.out hc0_1 k [(i : Int)] o1 o2 v16 vo _ (HE.out.step HB6.out) (row_lower HE.out HB6.out HO6.out) H1.out).mono ?_; rintro e w7 ⟨rfl, vo2, hE2, hF2⟩; have HE2 := Aside0.mk hE2; clear hE2 hF2))
   go_roundg m
   case measure => omega
   case rel => exact ⟨i + 1, o2, vo2, by go_num, ⟨by have := HM.out; omega⟩, H, HE2⟩
theorem circles_calls (k : Nat) (A0_0 : Option Addr) (c0_0 : Nat) (l0_0 : List Int) (A0_1 : Option Addr) (c0_1 : Nat) (l0_1 : List (List Int)) (r : List (List Int)) (w : World) (hr0_0 : Kd.C (Kd.int .i64) w A0_0 l0_0.length l0_0) (hc0_0 : l0_0.length ≤ c0_0) (hr0_1 : Kd.C (Kd.slice 3 (Kd.int .i64)) w A0_1 l0_1.length l0_1) (hc0_1 : l0_1.length ≤ c0_1) (h : circF k l0_0 l0_1 = some r) :
  Calls Try.prog 36 #[.agg #[.slice A0_0 l0_0.length c0_0, .slice A0_1 l0_1.length c0_1]] w fun e w' => ∃ v0_ : Value, e = .returned (v0_) ∧ Kd.S (Kd.slice 3 (Kd.int .i64)) 23 w' w.heap.size (fun _ => True) v0_ r ∧ Below w.heap.size w w' :=
 circles_post k A0_0 c0_0 l0_0 A0_1 c0_1 l0_1 r w hr0_0 hc0_0 hr0_1 hc0_1 h
end Go.Proofs.Ythdncdfgonbfeaa.Circ
