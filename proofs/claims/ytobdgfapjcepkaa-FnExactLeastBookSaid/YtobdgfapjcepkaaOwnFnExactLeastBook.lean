/- The law FnExactLeastBook: its walk, each condition known ahead, and what marks write; no condition (the form of each step is that of the kit's printer, turned; the rest is mine). -/
import Derived.Test.YtobdgfapjcepkaaQFnExactLeastBookx0
import Derived.Test.YtobdgfapjcepkaaQFnExactLeastBookx1
import Derived.Test.YtobdgfapjcepkaaQFnExactLeastBookx2
import Derived.Test.YtobdgfapjcepkaaQFnExactLeastBookx3
import Derived.Test.YtobdgfapjcepkaaQFnExactLeastBookx4
import Derived.Test.YtobdgfapjcepkaaQFnExactLeastBookx5
import Derived.Test.YtobdgfapjcepkaaQFnExactLeastBookx6
import Derived.Test.YtobdgfapjcepkaaQFnExactLeastBookx7
import Derived.Test.YtobdgfapjcepkaaQFnExactLeastBookx8
namespace Go.Proofs.Ytobdgfapjcepkaa.QFnExactLeastBook
open Go.RowKit Go.Proofs.YtobdgfapjcepkaaW.PrintWords Go.Proofs.YtobdgfapjcepkaaW.PrintLast Go.Proofs.YtobdgfapjcepkaaW.PrintMore
attribute [local go_sem] max2_int min2_int max_two min_two max_three min_three max_four min_four   -- for this text's walks alone
set_option linter.unusedVariables false
set_option linter.unusedSimpArgs false

/-! ### What a book's marks leave as it was (my own words; the marks write cells of whole numbers alone) -/
/-- A block of whole numbers. -/
def Ty3 (w : World) (k : Nat) : Prop := ∃ cells, w.heap[k]? = some (.cells cells 3 (0, 0))
theorem Mark.kept_same {α : Type} {d : Kd α} {e base : Nat} {ok P T : Nat → Prop} {w w1 : World} {v : Value} {xs : List α} (h : d.R e w base ok v xs) (hE : d.E = []) (hk : Kept w w1 (fun k => P k ∧ T k)) (hn : ∀ k, some k = v.ownBlock → P k → False) : d.R e w1 base ok v xs :=
  Kd.R_mono (Kd.R_kept (Kd.R_tight2 hE h) hk (fun k h1 h2 => hn k h1.1 h2.1)) (fun _ hk => hk.2)
theorem Mark.kept_other {α : Type} {d : Kd α} {e base : Nat} {ok P : Nat → Prop} {w w1 : World} {v : Value} {xs : List α} (h : d.R e w base ok v xs) (hE : d.E = []) (hk : Kept w w1 (fun k => P k ∧ Ty3 w k)) (he : e ≠ 3) : d.R e w1 base ok v xs :=
  Kd.R_mono (Kd.R_kept (Kd.R_tight2 hE h) hk (fun k h1 h2 => by
    obtain ⟨c1, hc1⟩ := Kd.R_typed h k h1.1.symm
    obtain ⟨c2, hc2⟩ := h2.2
    rw [hc1] at hc2
    injection hc2 with hc2
    injection hc2 with _ hc2
    exact he hc2)) (fun _ hk => hk.2)
theorem Mark.kept_blk {w w1 : World} {g t : Nat} {cs : Array Value} {fr : Nat × Nat} {P : Nat → Prop} (hb : w.heap[g]? = some (.cells cs t fr)) (hk : Kept w w1 (fun k => P k ∧ Ty3 w k)) (ht : t ≠ 3) : w1.heap[g]? = some (.cells cs t fr) :=
  blk_kept hb hk (fun h2 => by
    obtain ⟨c2, hc2⟩ := h2.2
    rw [hb] at hc2
    injection hc2 with hc2
    injection hc2 with _ hc2
    exact ht hc2)
theorem Mark.then_ {w W W2 : World} {S S2 : Nat → Prop} (h : Kept w W (fun k => S k ∧ Ty3 w k)) (hk : Kept W W2 S2) (hs : ∀ k, S2 k → Ty3 W k ∧ (S k ∨ w.heap.size ≤ k)) : Kept w W2 (fun k => S k ∧ Ty3 w k) :=
  Kept.then_ h hk (fun k h2 => by
    obtain ⟨ht, hs⟩ := hs k h2
    by_cases hl : w.heap.size ≤ k
    · exact .inr hl
    · refine .inl ?_
      rcases hs with hs | hs
      · refine ⟨hs, ?_⟩
        by_cases hn : S k ∧ Ty3 w k
        · exact hn.2
        · have he := h.2 k (by omega) hn
          obtain ⟨c, hc⟩ := ht
          exact ⟨c, he ▸ hc⟩
      · exact absurd hs hl)
theorem Mark.ty {α : Type} {d : Kd α} {base : Nat} {ok : Nat → Prop} {w : World} {v : Value} {xs : List α} (h : d.R 3 w base ok v xs) : ∀ k, some k = v.ownBlock → Ty3 w k := fun k hk => Kd.R_typed h k hk.symm

/-! ### laws_markIntSS: function 47 -/
def laws_markIntSS.l0 : Nat → List (List Int) → Int → Int → Option (Int × List (List Int))
  | 0, _, _, _ => none
  | k + 1, x0, x1, x5 => if x5 < (x0.length : Int) then (if 0 ≤ x5 then ((laws_markIntS.f k (rd_L1 x0 x5) x1).bind fun bt => (laws_markIntSS.l0 k (x0.set x5.toNat bt.2) bt.1 (wrap64 (x5 + 1)))) else (none)) else (some (x1, x0))
def laws_markIntSS.f (k : Nat) (l0 : List (List Int)) (a1 : Int) : Option (Int × List (List Int)) := laws_markIntSS.l0 k l0 a1 0
theorem laws_markIntSS.mono_l : ∀ k, (∀ y0 y1 y2, LeO (laws_markIntSS.l0 k y0 y1 y2) (laws_markIntSS.l0 (k + 1) y0 y1 y2))
  | 0 => fun _ _ _ r h => by simp [laws_markIntSS.l0] at h
  | k + 1 => by
    have ih0 := laws_markIntSS.mono_l k
    intro y0 y1 y2
    unfold laws_markIntSS.l0
    repeat' first
      | (with_reducible exact ih0 _ _ _)
      | (with_reducible exact laws_markIntS.mono _ _ _)
      | (with_reducible exact LeO.refl _)
      | (with_reducible exact LeO.none _)
      | (with_reducible refine LeO.ite ?_ ?_)
      | (with_reducible refine LeO.bind ?_ (fun _ => ?_))
theorem laws_markIntSS.mono : ∀ a0 a1 k, LeO (laws_markIntSS.f k a0 a1) (laws_markIntSS.f (k + 1) a0 a1) := fun a0 a1 k => laws_markIntSS.mono_l k a0 a1 0
set_option maxHeartbeats 8000000 in
set_option maxRecDepth 100000 in
theorem laws_markIntSS.calls (k : Nat) (P0_ : Nat → Prop) (u9000_ : Value) (l0 : List (List Int)) (a1 : Int) (r1 : Int) (r2 : List (List Int)) (w0 w : World) (hB : Below w0.heap.size w0 w) (ho0 : Kd.S (Kd.slice 3 (Kd.int .i64)) 23 w w0.heap.size P0_ u9000_ l0) (h : laws_markIntSS.f k l0 a1 = some (r1, r2)) :
    Calls Try.prog 47 #[u9000_, .int .i64 a1] w fun e w' => e = .returned (.int .i64 r1) ∧ Kd.S (Kd.slice 3 (Kd.int .i64)) 23 w' w0.heap.size (fun k_ => (P0_ k_ ∨ w.heap.size ≤ k_)) u9000_ r2 ∧ Below w0.heap.size w0 w' ∧ Kept w w' (fun k_ => P0_ k_ ∧ Ty3 w k_) := by
  have HO0 := Aside0.mk (show Kd.S (Kd.slice 3 (Kd.int .i64)) 23 w w0.heap.size (fun k_ => (P0_ k_ ∨ w.heap.size ≤ k_)) u9000_ l0 from Kd.S_mono ho0 (fun k_ hk => (.inl hk)))
  have HK := Aside0.mk (Kept.refl w (fun k_ => P0_ k_ ∧ Ty3 w k_))
  have HB := Aside0.mk hB
  clear hB ho0
  have H' := Aside0.mk (show laws_markIntSS.l0 k l0 a1 0 = some (r1, r2) from h)
  clear h
  go_enter Try.func47, Try.ntmps47
  go_wp2
  go_loopg [1, 5] k (fun kq v1 v5 w' => ∃ (x0_1 : List (List Int)) (x1_1 : Int) (x5_1 : Int), v1 = .int .i64 x1_1 ∧ v5 = .int .i64 x5_1 ∧ Aside0 (laws_markIntSS.l0 kq x0_1 x1_1 x5_1 = some (r1, r2)) ∧ Aside0 (kq ≤ k) ∧ Aside0 (Kd.S (Kd.slice 3 (Kd.int .i64)) 23 w' w0.heap.size (fun k_ => (P0_ k_ ∨ w.heap.size ≤ k_)) u9000_ x0_1) ∧ Aside0 (Kept w w' (fun k_ => P0_ k_ ∧ Ty3 w k_)) ∧ Aside0 (Below w0.heap.size w0 w'))
  case atStart => exact ⟨l0, a1, 0, (by first | rfl | (simp; done) | (simp [*]; done)), (by first | rfl | (simp; done) | (simp [*]; done)), H', ⟨Nat.le_refl _⟩, HO0, HK, HB⟩
  case round =>
    clear H' HO0 HK HB
    obtain ⟨x0_1, x1_1, x5_1, rfl, rfl, HA, HK1, HO_0, HK, HB⟩ := hrel
    cases gk with
    | zero => exact absurd HA.out (by simp [laws_markIntSS.l0])
    | succ k1 =>
      have H := HA.out
      clear HA
      simp only [laws_markIntSS.l0] at H
      by_cases c3 : x5_1 < (x0_1.length : Int)
      · rw [if_pos c3] at H
        have c3b0 : decide (x5_1 < (x0_1.length : Int)) = true := decide_eq_true c3
        by_cases c4 : 0 ≤ x5_1
        · rw [if_pos c4] at H
          have c4b0 : decide (0 ≤ x5_1) = true := decide_eq_true c4
          replace H := Option.bind_eq_some_iff.mp H
          obtain ⟨⟨t1, t2⟩, A50, H⟩ := H
          replace H : laws_markIntSS.l0 k1 (x0_1.set x5_1.toNat t2) t1 (wrap64 (x5_1 + 1)) = some (r1, r2) := H
          have A5 := Aside0.mk A50
          clear A50
          have H' := Aside0.mk H
          clear H
          obtain ⟨Ao6, co6, eo6⟩ := Kd.S_slice HO_0.out
          subst eo6
          obtain ⟨go5, co5, eo5, gb5, gl5, cl5, HG5⟩ := Kd.S_form HO_0.out (by omega)
          (first | cases eo5 | (injection eo5 with ea_ en_ ec_; (first | subst ea_ | (injection ea_ with ea_; subst ea_)); subst ec_; clear en_))
          clear gb5 gl5 HG5
          obtain ⟨oki, cs6, hcl6, hM6, hcc6, hok6, hH6⟩ := Kd.S_lend HO_0.out [] x5_1 c4 c3
          obtain ⟨v6, rfl, hR6⟩ := hM6
          have hx5 : wr.cell? ⟨go5, x5_1.toNat, none⟩ = some v6 := by
            have := hcc6 0 v6 rfl
            simpa [Kd.slice] using this
          clear hcc6 hcl6
          have hrow : x0_1.getD x5_1.toNat [] = rd_L1 x0_1 x5_1 := rfl
          rw [hrow] at hR6
          obtain ⟨A6, c6, e6⟩ := Kd.R_slice hR6
          subst e6
          have HR6 := Aside0.mk hR6
          have HH6 := Aside0.mk hH6
          have HOK6 := Aside0.mk hok6
          clear hR6 hH6 hok6 hrow
          have p5 : (0 ≤ x5_1) = True := eq_true c4
          have q5 : (x5_1 < (x0_1.length : Int)) = True := eq_true c3
          clear c3 c4
          go_wp2_with (first | ((with_reducible refine gate_callee (f := 29) rfl ?_); refine goesL_ (some 17) rfl rfl Try.func29 (by kernel_rfl) rfl #[.slice A6 (rd_L1 x0_1 x5_1).length c6, .int .i64 x1_1] rfl (by (try simp only [List.map_toArray, List.map_cons, List.map_nil]); first | done | rfl | (simp only [List.length_drop, List.length_take]; rfl)) ?_; (with_reducible refine (laws_markIntS.calls k1 (fun k_ => some k_ = (.slice A6 (rd_L1 x0_1 x5_1).length c6 : Value).ownBlock) (.slice A6 (rd_L1 x0_1 x5_1).length c6) (rd_L1 x0_1 x5_1) x1_1 t1 t2 w0 _ ?side1 ?side2 A5.out).mono ?_); (case side1 => exact HB.out); (case side2 => exact Kd.R_tight rfl HR6.out); rintro e w7 ⟨rfl, hy, hb, hkp⟩; refine ⟨_, rfl, ?_⟩; have n0_ := Aside0.mk (Kd.H_back (Kd.H_kept HH6.out hkp (fun k_ _ hn_ hs_ => hn_ (HR6.out.1 k_ hs_.symm))) (x' := t2) (okp := oki) ⟨_, rfl, Kd.R_reok rfl hy (fun k_ e_ => HR6.out.1 k_ e_)⟩ (fun _ h_ => h_)); have n1_ := Aside0.mk hb; have n2_ := Aside0.mk (Mark.then_ HK.out hkp (fun k_ hs_ => ⟨Mark.ty HR6.out k_ hs_, (HOK6.out k_ (HR6.out.1 k_ hs_.symm)).1⟩)); clear HO_0 HB HK HH6 HR6 HOK6; have HO_0 := n0_; have HB := n1_; have HK := n2_; clear n0_ n1_ n2_; clear hy hb hkp))
          go_roundg k1
          case measure => have := HK1.out; omega
          case rel => exact ⟨x0_1.set x5_1.toNat t2, t1, wrap64 (x5_1 + 1), (by first | rfl | (simp; done) | (simp [*]; done)), (by first | rfl | (simp; done) | (simp [*]; done)), H', ⟨by have := HK1.out; omega⟩, HO_0, HK, HB⟩
        · rw [if_neg c4] at H
          exact absurd H (by simp)
      · rw [if_neg c3] at H
        have c3b0 : decide (x5_1 < (x0_1.length : Int)) = false := decide_eq_false c3
        clear c3
        simp only [Option.some.injEq, Prod.mk.injEq] at H
        obtain ⟨rfl, rfl⟩ := H
        obtain ⟨Ao9, co9, eo9⟩ := Kd.S_slice HO_0.out
        subst eo9
        go_wp2
        go_ret
        exact ⟨by first | rfl | (simp; done), HO_0.out, HB.out, HK.out⟩

/-! ### laws_markBook: function 25 -/
def laws_markBook.f (k : Nat) (l0_0 : List Int) (l0_1 : List (List Int)) (a1 : Int) : Option Int := (laws_markIntS.f k l0_0 a1).bind fun bt1 => ((laws_markIntSS.f k l0_1 bt1.1).bind fun bt2 => (some bt2.1))
theorem laws_markBook.mono : ∀ a0 a1 a2 k, LeO (laws_markBook.f k a0 a1 a2) (laws_markBook.f (k + 1) a0 a1 a2) := by
  intro a0 a1 a2 k
  unfold laws_markBook.f
  repeat' first
      | (with_reducible exact laws_markIntS.mono _ _ _)
      | (with_reducible exact laws_markIntSS.mono _ _ _)
      | (with_reducible exact LeO.refl _)
      | (with_reducible exact LeO.none _)
      | (with_reducible refine LeO.ite ?_ ?_)
      | (with_reducible refine LeO.bind ?_ (fun _ => ?_))
set_option maxHeartbeats 8000000 in
set_option maxRecDepth 100000 in
theorem laws_markBook.calls (k : Nat) (P0_0_ : Nat → Prop) (u9000_ : Value) (l0_0 : List Int) (P0_1_ : Nat → Prop) (u9001_ : Value) (l0_1 : List (List Int)) (a1 : Int) (r : Int) (w0 w : World) (hB : Below w0.heap.size w0 w) (ho0_0 : Kd.R (Kd.int .i64) 3 w w0.heap.size P0_0_ u9000_ l0_0) (ho0_1 : Kd.S (Kd.slice 3 (Kd.int .i64)) 23 w w0.heap.size P0_1_ u9001_ l0_1) (hp0 : ∀ k_, P0_0_ k_ → P0_1_ k_ → False) (h : laws_markBook.f k l0_0 l0_1 a1 = some r) :
    Calls Try.prog 25 #[.agg #[u9000_, u9001_], .int .i64 a1] w fun e w' => e = .returned (.int .i64 r) ∧ Below w0.heap.size w0 w' ∧ Kept w w' (fun k_ => (P0_0_ k_ ∨ P0_1_ k_) ∧ Ty3 w k_) := by
  have hu26 := Try.underlying26
  have HO0 := Aside0.mk ho0_0
  have HO1 := Aside0.mk ho0_1
  have HB := Aside0.mk hB
  have HW := Aside0.mk hB.size
  have HP := Aside0.mk hp0
  clear hB ho0_0 ho0_1 hp0
  have H : ((laws_markIntS.f k l0_0 a1).bind fun bt1 => ((laws_markIntSS.f k l0_1 bt1.1).bind fun bt2 => (some bt2.1))) = some r := h
  clear h
  replace H := Option.bind_eq_some_iff.mp H
  obtain ⟨⟨t1, t2⟩, A10, H⟩ := H
  replace H : ((laws_markIntSS.f k l0_1 t1).bind fun bt2 => (some bt2.1)) = some r := H
  have A1 := Aside0.mk A10
  clear A10
  replace H := Option.bind_eq_some_iff.mp H
  obtain ⟨⟨t3, t4⟩, A20, H⟩ := H
  have A2 := Aside0.mk A20
  clear A20
  obtain rfl : t3 = r := Option.some.inj H
  clear H
  obtain ⟨Ao1, co1, eo1⟩ := Kd.R_slice HO0.out
  subst eo1
  obtain ⟨Ao2, co2, eo2⟩ := Kd.S_slice HO1.out
  subst eo2
  have HKs := Aside0.mk (Kept.refl w (fun k_ => (P0_0_ k_ ∨ P0_1_ k_) ∧ Ty3 w k_))
  go_enter Try.func25, Try.ntmps25
  go_wp2_with (first | ((with_reducible refine gate_dst (N := 2) rfl ?_); refine box_event ?hg (N := 2) ?hd (cs := #[.slice Ao1 l0_0.length co1, .slice Ao2 l0_1.length co2]) (t := 26) ?hr ?_; (case hd => rfl); (case hg => rfl); (case hr => first | (go_simp; done) | (go_simp; rfl)); intro gb hg w5 hbox hb; have n0_ := Aside0.mk (Kd.R_below HO0.out hb); have n1_ := Aside0.mk (Kd.S_below HO1.out hb); have n2_ := Aside0.mk (below_then HB.out HW.out hb); have n3_ := Aside0.mk (Kept.below HKs.out hb); have n4_ := Aside0.mk hbox; clear HO0 HO1 HB HKs; have HO0 := n0_; have HO1 := n1_; have HB := n2_; have HKs := n3_; have BK := n4_; clear n0_ n1_ n2_ n3_ n4_; clear hb hbox hg; have hcz0 : w5.cell? ⟨gb, 0, none⟩ = some (.slice Ao1 l0_0.length co1) := (blk_cell BK.out 0).trans rfl; have hcz1 : w5.cell? ⟨gb, 1, none⟩ = some (.slice Ao2 l0_1.length co2) := (blk_cell BK.out 1).trans rfl; have hfz0 := blk_frozen BK.out 0; have hfz1 := blk_frozen BK.out 1) | ((with_reducible refine gate_callee (f := 29) rfl ?_); refine goesL_ (some 8) rfl rfl Try.func29 (by kernel_rfl) rfl #[.slice Ao1 l0_0.length co1, .int .i64 a1] rfl (by (try simp only [List.map_toArray, List.map_cons, List.map_nil]); first | done | rfl | (simp only [List.length_drop, List.length_take]; rfl)) ?_; (with_reducible refine (laws_markIntS.calls k (fun k_ => some k_ = (.slice Ao1 l0_0.length co1 : Value).ownBlock) (.slice Ao1 l0_0.length co1) l0_0 a1 t1 t2 w0 _ ?side1 ?side2 A1.out).mono ?_); (case side1 => exact HB.out); (case side2 => exact Kd.R_tight rfl HO0.out); rintro e w6 ⟨rfl, hy, hb, hkp⟩; refine ⟨_, rfl, ?_⟩; have n1_ := Aside0.mk (Kd.S_kept HO1.out hkp (fun k_ h1_ h2_ => HP.out k_ (HO0.out.1 k_ h2_.symm) h1_)); have n2_ := Aside0.mk hb; have n3_ := Aside0.mk (Mark.then_ HKs.out hkp (fun k_ hs_ => ⟨Mark.ty HO0.out k_ hs_, .inl (.inl (HO0.out.1 k_ hs_.symm))⟩)); have n4_ := Aside0.mk (blk_kept BK.out hkp (fun hs_ => Kd.R_ne HO0.out BK.out (by decide) hs_)); clear HO0 HO1 HB HKs BK hcz0 hcz1 hfz0 hfz1; have HO1 := n1_; have HB := n2_; have HKs := n3_; have BK := n4_; clear n1_ n2_ n3_ n4_; clear hy hb hkp; have hcz1 : w6.cell? ⟨gb, 1, none⟩ = some (.slice Ao2 l0_1.length co2) := (blk_cell BK.out 1).trans rfl; have hfz1 := blk_frozen BK.out 1) | ((with_reducible refine gate_callee (f := 47) rfl ?_); refine goesL_ (some 12) rfl rfl Try.func47 (by kernel_rfl) rfl #[.slice Ao2 l0_1.length co2, .int .i64 t1] rfl (by (try simp only [List.map_toArray, List.map_cons, List.map_nil]); first | done | rfl | (simp only [List.length_drop, List.length_take]; rfl)) ?_; (with_reducible refine (laws_markIntSS.calls k P0_1_ (.slice Ao2 l0_1.length co2) l0_1 t1 t3 t4 w0 _ ?side1 ?side2 A2.out).mono ?_); (case side1 => exact HB.out); (case side2 => exact HO1.out); rintro e w7 ⟨rfl, hy, hb, hkp⟩; refine ⟨_, rfl, ?_⟩; have n2_ := Aside0.mk hb; have n3_ := Aside0.mk (Mark.then_ HKs.out hkp (fun k_ hs_ => ⟨hs_.2, .inl (.inr hs_.1)⟩)); clear HO1 HB HKs BK hcz1 hfz1; have HB := n2_; have HKs := n3_; clear n2_ n3_; clear hy hb hkp))
  go_ret
  exact ⟨by first | rfl | (simp; done), HB.out, HKs.out⟩

/-- Blocks from a on, below b. -/
def J (a b k : Nat) : Prop := a ≤ k ∧ k < b
theorem R_at {α : Type} {d : Kd α} {e : Nat} {w0 W w1 : World} {ok : Nat → Prop} {v : Value} {xs : List α} {z : Nat} (h0 : w0.heap.size ≤ z) (hz : z ≤ W.heap.size) (ho : Kd.R d e w1 W.heap.size ok v xs) (hb : Below W.heap.size W w1) :
    ∃ a b, z ≤ a ∧ a ≤ b ∧ b ≤ w1.heap.size ∧ Kd.R d e w1 w0.heap.size (fun k => J a b k ∧ ok k) v xs :=
  ⟨W.heap.size, w1.heap.size, hz, hb.size, Nat.le_refl _, Kd.R_lower (Kd.R_mono (Kd.R_bound ho) (fun _ hk => ⟨⟨hk.2.1, hk.2.2.1⟩, hk.1⟩)) (Nat.le_trans h0 hz)⟩
theorem S_at {α : Type} {d : Kd α} {e : Nat} {w0 W w1 : World} {ok : Nat → Prop} {v : Value} {xs : List α} {z : Nat} (h0 : w0.heap.size ≤ z) (hz : z ≤ W.heap.size) (ho : Kd.S d e w1 W.heap.size ok v xs) (hb : Below W.heap.size W w1) :
    ∃ a b, z ≤ a ∧ a ≤ b ∧ b ≤ w1.heap.size ∧ Kd.S d e w1 w0.heap.size (fun k => J a b k ∧ ok k) v xs :=
  ⟨W.heap.size, w1.heap.size, hz, hb.size, Nat.le_refl _, Kd.S_lower (Kd.S_mono (Kd.S_bound ho) (fun _ hk => ⟨⟨hk.2.1, hk.2.2.1⟩, hk.1⟩)) (Nat.le_trans h0 hz)⟩
theorem N_at {α : Type} {d : Kd α} {e : Nat} {w0 W w1 : World} {v : Value} {xs : List α} {z : Nat} (h0 : w0.heap.size ≤ z) (hz : z ≤ W.heap.size) (ho : Kd.N d e w1 W.heap.size (fun k => W.heap.size ≤ k) v xs) (hb : Below W.heap.size W w1) :
    ∃ a b, z ≤ a ∧ a ≤ b ∧ b ≤ w1.heap.size ∧ Kd.N d e w1 w0.heap.size (fun k => J a b k) v xs :=
  ⟨W.heap.size, w1.heap.size, hz, hb.size, Nat.le_refl _, Kd.N_lower (Kd.N_mono (Kd.N_bound ho) (fun _ hk => ⟨hk.1, hk.2⟩)) (Nat.le_trans h0 hz)⟩
/-- A book of the call's own: the creditors' row and the debts' rows lie apart. -/
theorem Bk_at {w0 W w1 : World} {v0 v1 : Value} {r1 : List Int} {r2 : List (List Int)} {z : Nat} (h0 : w0.heap.size ≤ z) (hz : z ≤ W.heap.size) (ho0 : Kd.R (Kd.int .i64) 3 w1 W.heap.size (fun _ => True) v0 r1) (ho1 : Kd.S (Kd.slice 3 (Kd.int .i64)) 23 w1 W.heap.size (fun k_ => some k_ ≠ (v0 : Value).ownBlock) v1 r2) (hb : Below W.heap.size W w1) :
    ∃ a b, z ≤ a ∧ a ≤ b ∧ b ≤ w1.heap.size ∧ Kd.R (Kd.int .i64) 3 w1 w0.heap.size (fun k => J a b k ∧ some k = v0.ownBlock) v0 r1 ∧ Kd.S (Kd.slice 3 (Kd.int .i64)) 23 w1 w0.heap.size (fun k => J a b k ∧ some k ≠ (v0 : Value).ownBlock) v1 r2 :=
  ⟨W.heap.size, w1.heap.size, hz, hb.size, Nat.le_refl _,
    Kd.R_lower (Kd.R_mono (Kd.R_tight2 rfl (Kd.R_bound ho0)) (fun _ hk => ⟨⟨hk.2.2.1, hk.2.2.2.1⟩, hk.1⟩)) (Nat.le_trans h0 hz),
    Kd.S_lower (Kd.S_mono (Kd.S_bound ho1) (fun _ hk => ⟨⟨hk.2.1, hk.2.2.1⟩, hk.1⟩)) (Nat.le_trans h0 hz)⟩
theorem J_apart {a b c d k : Nat} (h : J a b k) (h' : J c d k) (hl : b ≤ c ∨ d ≤ a) : False := by unfold J at *; omega
theorem held_calls (k : Nat) (A0 : Option Addr) (n c0 : Nat) (l0 : List (List Int)) (a1 : Int) (r : Int) (w : World) (hn : n = l0.length) (hr0 : Kd.C (Kd.slice 3 (Kd.int .i64)) w A0 l0.length l0) (hc0 : n ≤ c0) (h : laws_heldIntSS.f k l0 a1 = some r) :
    Calls Try.prog 48 #[.slice A0 n c0, .int .i64 a1] w fun e w' => e = .returned (.int .i64 r) ∧ Drawn0 w w' := by
  subst hn; exact laws_heldIntSS.calls k A0 c0 l0 a1 r w hr0 hc0 h

set_option maxHeartbeats 8000000 in
set_option maxRecDepth 100000 in
theorem law_true (k : Nat) (A0_0 : Option Addr) (c0_0 : Nat) (l0_0 : List Int) (A0_1 : Option Addr) (c0_1 : Nat) (l0_1 : List (List Int)) (s m1 m : Int) (g g2 : List (List Int)) (w : World) (hr0_0 : Kd.C (Kd.int .i64) w A0_0 l0_0.length l0_0) (hc0_0 : l0_0.length ≤ c0_0) (hr0_1 : Kd.C (Kd.slice 3 (Kd.int .i64)) w A0_1 l0_1.length l0_1) (hc0_1 : l0_1.length ≤ c0_1)
    (hsz : laws_szBook.f k l0_0 l0_1 1048576 = some s) (hs : ¬ s < 0) (hto : laws_toBook.f k l0_0 l0_1 = some (l0_0, l0_1)) (hsp : spec_LeastBook.f k l0_0 l0_1 = some g) (him : impl_LeastBook.f k l0_0 l0_1 = some g) (heq : laws_eqIntSS.f k g g = some true) (heb : laws_eqBook.f k l0_0 l0_1 l0_0 l0_1 = some true) (hmb : laws_markBook.f k l0_0 l0_1 1 = some m1) (hm1 : ¬ m1 < 0) (hmg : laws_markIntSS.f k g 1 = some (m, g2)) (hhe : laws_heldIntSS.f k g2 1 = some m) (hm : ¬ m < 0) :
    Calls Try.prog 11 #[.agg #[.slice A0_0 l0_0.length c0_0, .slice A0_1 l0_1.length c0_1]] w fun e w' => e = .returned (.bool true) ∧ Below w.heap.size w w' := by
  have hu36 := Try.underlying34
  have hu26 := Try.underlying26
  have HR0_0 := Aside0.mk hr0_0
  have HC0_0 := Aside0.mk hc0_0
  have HR0_1 := Aside0.mk hr0_1
  have HC0_1 := Aside0.mk hc0_1
  have HB := Aside0.mk (Below.refl w.heap.size w)
  have HZ := Aside0.mk (Nat.le_refl w.heap.size)
  have H0 := Aside0.mk (Nat.le_refl w.heap.size)
  have ASZ := Aside0.mk hsz
  have ATO := Aside0.mk hto
  have ASP := Aside0.mk hsp
  have AIM := Aside0.mk him
  have AEQ := Aside0.mk heq
  have AEB := Aside0.mk heb
  have AMB := Aside0.mk hmb
  have AMG := Aside0.mk hmg
  have AHE := Aside0.mk hhe
  have ds : decide (s < 0) = false := decide_eq_false hs
  have dm1 : decide (m1 < 0) = false := decide_eq_false hm1
  have dm : decide (m < 0) = false := decide_eq_false hm
  clear hr0_0 hc0_0 hr0_1 hc0_1 hsz hto hsp him heq heb hmb hmg hhe hs hm1 hm
  go_enter Try.func11, Try.ntmps11
  go_upto_region 6 with (first
    | ((with_reducible refine gate_dst (N := 1) rfl ?_); refine box_event ?hg (N := 1) ?hd (cs := #[.slice A0_0 l0_0.length c0_0, .slice A0_1 l0_1.length c0_1]) (t := 34) ?hr ?_; (case hd => rfl); (case hg => rfl); (case hr => first | (go_simp; done) | (go_simp; rfl)); intro gB hg wB hbox hb; have n_HB := Aside0.mk hb; have n_HZ := Aside0.mk hb.size; have BKB := Aside0.mk hbox; clear HB HZ; have HB := n_HB; have HZ := n_HZ; clear n_HB n_HZ hb hbox hg; have hcBKB_0 : (wB).cell? ⟨gB, 0, none⟩ = some (.slice A0_0 l0_0.length c0_0) := (blk_cell BKB.out 0).trans rfl; have hfBKB_0 := blk_frozen BKB.out 0; have hcBKB_1 : (wB).cell? ⟨gB, 1, none⟩ = some (.slice A0_1 l0_1.length c0_1) := (blk_cell BKB.out 1).trans rfl; have hfBKB_1 := blk_frozen BKB.out 1; have TK1 := Aside0.mk trivial)
    | (clear TK1; go_at_call 19; (with_reducible refine (laws_szBook.calls k _ _ l0_0 _ _ l0_1 1048576 s _ ?side1 ?side2 ?side3 ?side4 ASZ.out).mono ?_); (case side1 => repeat (first | exact (Kd.C_below HR0_0.out HB.out) | (with_reducible refine Kd.C_alloc ?_ _) | (with_reducible refine Kd.C_drewN ?_ _) | (with_reducible refine Kd.C_drew ?_))); (case side2 => exact HC0_0.out); (case side3 => repeat (first | exact (Kd.C_below HR0_1.out HB.out) | (with_reducible refine Kd.C_alloc ?_ _) | (with_reducible refine Kd.C_drewN ?_ _) | (with_reducible refine Kd.C_drew ?_))); (case side4 => exact HC0_1.out); rintro e wsz ⟨rfl, hb⟩; (try clear hcBKB_0 hfBKB_0); (try clear hcBKB_1 hfBKB_1); have n_BKB := Aside0.mk (blk_below (g := gB) (o := (.cells #[.slice A0_0 l0_0.length c0_0, .slice A0_1 l0_1.length c0_1] 34 (0, 0))) (by (with_reducible repeat (first | refine blk_drewN ?_ _ | refine blk_drew ?_ | refine blk_alloc ?_ _)); exact BKB.out) hb); have n_HB := Aside0.mk (below_step (by repeat (first | (with_reducible first | exact HB.out | apply below_alloc | apply pw_below_drewN | apply below_drew1) | exact HB.out)) hb); have n_HZ := Aside0.mk (Nat.le_trans HZ.out hb.size); clear BKB HB HZ; have BKB := n_BKB; have HB := n_HB; have HZ := n_HZ; clear n_BKB n_HB n_HZ; clear hb; have hcBKB_0 : (wsz).cell? ⟨gB, 0, none⟩ = some (.slice A0_0 l0_0.length c0_0) := (blk_cell BKB.out 0).trans rfl; have hfBKB_0 := blk_frozen BKB.out 0; have hcBKB_1 : (wsz).cell? ⟨gB, 1, none⟩ = some (.slice A0_1 l0_1.length c0_1) := (blk_cell BKB.out 1).trans rfl; have hfBKB_1 := blk_frozen BKB.out 1; have TK2 := Aside0.mk trivial)
    | (clear TK2; go_at_call 21; (with_reducible refine (laws_toBook.calls k _ _ l0_0 _ _ l0_1 l0_0 l0_1 _ ?side1 ?side2 ?side3 ?side4 ATO.out).mono ?_); (case side1 => repeat (first | exact (Kd.C_below HR0_0.out HB.out) | (with_reducible refine Kd.C_alloc ?_ _) | (with_reducible refine Kd.C_drewN ?_ _) | (with_reducible refine Kd.C_drew ?_))); (case side2 => exact HC0_0.out); (case side3 => repeat (first | exact (Kd.C_below HR0_1.out HB.out) | (with_reducible refine Kd.C_alloc ?_ _) | (with_reducible refine Kd.C_drewN ?_ _) | (with_reducible refine Kd.C_drew ?_))); (case side4 => exact HC0_1.out); rintro e wto1 ⟨v0, v1, rfl, ho0, ho1, hb⟩; (try clear hcBKB_0 hfBKB_0); (try clear hcBKB_1 hfBKB_1); have n_BKB := Aside0.mk (blk_below (g := gB) (o := (.cells #[.slice A0_0 l0_0.length c0_0, .slice A0_1 l0_1.length c0_1] 34 (0, 0))) (by (with_reducible repeat (first | refine blk_drewN ?_ _ | refine blk_drew ?_ | refine blk_alloc ?_ _)); exact BKB.out) hb); have n_HB := Aside0.mk (below_step (by repeat (first | (with_reducible first | exact HB.out | apply below_alloc | apply pw_below_drewN | apply below_drew1) | exact HB.out)) hb); have n_HZ := Aside0.mk (Nat.le_trans HZ.out hb.size); have T0 := Aside0.mk ho0; have T1 := Aside0.mk ho1; clear BKB HB HZ; have BKB := n_BKB; have HB := n_HB; have HZ := n_HZ; clear n_BKB n_HB n_HZ; clear hb ho0 ho1; obtain ⟨AT0, cT0, e_⟩ := Kd.R_slice T0.out; subst e_; obtain ⟨AT1, cT1, e_⟩ := Kd.S_slice T1.out; subst e_; have hcBKB_0 : (wto1).cell? ⟨gB, 0, none⟩ = some (.slice A0_0 l0_0.length c0_0) := (blk_cell BKB.out 0).trans rfl; have hfBKB_0 := blk_frozen BKB.out 0; have hcBKB_1 : (wto1).cell? ⟨gB, 1, none⟩ = some (.slice A0_1 l0_1.length c0_1) := (blk_cell BKB.out 1).trans rfl; have hfBKB_1 := blk_frozen BKB.out 1; have TK3 := Aside0.mk trivial)
    | (clear TK3; go_at_call 44; (with_reducible refine (spec_LeastBook.calls k _ _ l0_0 _ _ l0_1 g _ ?side1 ?side2 ?side3 ?side4 ASP.out).mono ?_); (case side1 => repeat (first | exact (Kd.R_reads' T0.out).2.2 | (with_reducible refine Kd.C_alloc ?_ _) | (with_reducible refine Kd.C_drewN ?_ _) | (with_reducible refine Kd.C_drew ?_))); (case side2 => exact (Kd.R_reads' T0.out).2.1); (case side3 => repeat (first | exact (Kd.S_reads' T1.out).2.2 | (with_reducible refine Kd.C_alloc ?_ _) | (with_reducible refine Kd.C_drewN ?_ _) | (with_reducible refine Kd.C_drew ?_))); (case side4 => exact (Kd.S_reads' T1.out).2.1); rintro e wsp ⟨v0, rfl, ho0, hb⟩; (try clear hcBKB_0 hfBKB_0); (try clear hcBKB_1 hfBKB_1); have n_BKB := Aside0.mk (blk_below (g := gB) (o := (.cells #[.slice A0_0 l0_0.length c0_0, .slice A0_1 l0_1.length c0_1] 34 (0, 0))) (by (with_reducible repeat (first | refine blk_drewN ?_ _ | refine blk_drew ?_ | refine blk_alloc ?_ _)); exact BKB.out) hb); have n_T0 := Aside0.mk (Kd.R_below (by (with_reducible repeat (first | apply Kd.R_alloc | apply Kd.R_drewN | apply Kd.R_drew)); exact T0.out) hb); have n_T1 := Aside0.mk (Kd.S_below (by (with_reducible repeat (first | apply Kd.S_alloc | apply Kd.S_drewN | apply Kd.S_drew)); exact T1.out) hb); have n_HB := Aside0.mk (below_step (by repeat (first | (with_reducible first | exact HB.out | apply below_alloc | apply pw_below_drewN | apply below_drew1) | exact HB.out)) hb); have n_HZ := Aside0.mk (Nat.le_trans HZ.out hb.size); obtain ⟨a1, b1, za_, ab_, zb_, nn_⟩ := S_at (w0 := w) H0.out HZ.out ho0 hb; have W0 := Aside0.mk nn_; have Za1 := Aside0.mk (And.intro za_ ab_); have n_ZB := Aside0.mk zb_; clear BKB T0 T1 HB HZ; have BKB := n_BKB; have T0 := n_T0; have T1 := n_T1; have HB := n_HB; have HZ := n_HZ; clear n_BKB n_T0 n_T1 n_HB n_HZ; have H0_ := Aside0.mk (Nat.le_trans H0.out (Nat.le_trans Za1.out.1 Za1.out.2)); clear HZ H0; have HZ := n_ZB; have H0 := H0_; clear n_ZB H0_ za_ ab_ zb_ nn_ hb ho0; clear T0 T1; obtain ⟨AW0, cW0, e_⟩ := Kd.S_slice W0.out; subst e_; have hcBKB_0 : (wsp).cell? ⟨gB, 0, none⟩ = some (.slice A0_0 l0_0.length c0_0) := (blk_cell BKB.out 0).trans rfl; have hfBKB_0 := blk_frozen BKB.out 0; have hcBKB_1 : (wsp).cell? ⟨gB, 1, none⟩ = some (.slice A0_1 l0_1.length c0_1) := (blk_cell BKB.out 1).trans rfl; have hfBKB_1 := blk_frozen BKB.out 1; have TK4 := Aside0.mk trivial))
  go_upto_region 7 with (first
    | (clear TK4; go_at_call 21; (with_reducible refine (laws_toBook.calls k _ _ l0_0 _ _ l0_1 l0_0 l0_1 _ ?side1 ?side2 ?side3 ?side4 ATO.out).mono ?_); (case side1 => repeat (first | exact (Kd.C_below HR0_0.out HB.out) | (with_reducible refine Kd.C_alloc ?_ _) | (with_reducible refine Kd.C_drewN ?_ _) | (with_reducible refine Kd.C_drew ?_))); (case side2 => exact HC0_0.out); (case side3 => repeat (first | exact (Kd.C_below HR0_1.out HB.out) | (with_reducible refine Kd.C_alloc ?_ _) | (with_reducible refine Kd.C_drewN ?_ _) | (with_reducible refine Kd.C_drew ?_))); (case side4 => exact HC0_1.out); rintro e wto2 ⟨v0, v1, rfl, ho0, ho1, hb⟩; (try clear hcBKB_0 hfBKB_0); (try clear hcBKB_1 hfBKB_1); have n_BKB := Aside0.mk (blk_below (g := gB) (o := (.cells #[.slice A0_0 l0_0.length c0_0, .slice A0_1 l0_1.length c0_1] 34 (0, 0))) (by (with_reducible repeat (first | refine blk_drewN ?_ _ | refine blk_drew ?_ | refine blk_alloc ?_ _)); exact BKB.out) hb); have n_W0 := Aside0.mk (Kd.S_below (by (with_reducible repeat (first | apply Kd.S_alloc | apply Kd.S_drewN | apply Kd.S_drew)); exact W0.out) hb); have n_HB := Aside0.mk (below_step (by repeat (first | (with_reducible first | exact HB.out | apply below_alloc | apply pw_below_drewN | apply below_drew1) | exact HB.out)) hb); have n_HZ := Aside0.mk (Nat.le_trans HZ.out hb.size); obtain ⟨a2, b2, za_, ab_, zb_, nr_, ns_⟩ := Bk_at (w0 := w) H0.out HZ.out ho0 ho1 hb; have X0 := Aside0.mk nr_; have X1 := Aside0.mk ns_; have Za2 := Aside0.mk (And.intro za_ ab_); have n_ZB := Aside0.mk zb_; clear BKB W0 HB HZ; have BKB := n_BKB; have W0 := n_W0; have HB := n_HB; have HZ := n_HZ; clear n_BKB n_W0 n_HB n_HZ; have H0_ := Aside0.mk (Nat.le_trans H0.out (Nat.le_trans Za2.out.1 Za2.out.2)); clear HZ H0; have HZ := n_ZB; have H0 := H0_; clear n_ZB H0_ za_ ab_ zb_ nr_ ns_; clear hb ho0 ho1; obtain ⟨AX0, cX0, e_⟩ := Kd.R_slice X0.out; subst e_; obtain ⟨AX1, cX1, e_⟩ := Kd.S_slice X1.out; subst e_; have hcBKB_0 : (wto2).cell? ⟨gB, 0, none⟩ = some (.slice A0_0 l0_0.length c0_0) := (blk_cell BKB.out 0).trans rfl; have hfBKB_0 := blk_frozen BKB.out 0; have hcBKB_1 : (wto2).cell? ⟨gB, 1, none⟩ = some (.slice A0_1 l0_1.length c0_1) := (blk_cell BKB.out 1).trans rfl; have hfBKB_1 := blk_frozen BKB.out 1; have TK5 := Aside0.mk trivial)
    | ((with_reducible refine gate_dst (N := 5) rfl ?_); refine box_event ?hg (N := 5) ?hd (cs := #[.slice none 0 0, .slice none 0 0]) (t := 26) ?hr ?_; (case hd => rfl); (case hg => rfl); (case hr => first | (go_simp; done) | (go_simp; rfl)); intro gx hg wbx hbox hb; have HBX := Aside0.mk hb; have BKX := Aside0.mk hbox; have GX := Aside0.mk hg; clear hb hbox hg; have hcx_0 : wbx.cell? ⟨gx, 0, none⟩ = some (.slice none 0 0) := (blk_cell BKX.out 0).trans rfl; have hfx_0 := blk_frozen BKX.out 0; have hcx_1 : wbx.cell? ⟨gx, 1, none⟩ = some (.slice none 0 0) := (blk_cell BKX.out 1).trans rfl; have hfx_1 := blk_frozen BKX.out 1))
  have hb := below_set (j := 1) (v := .slice AX1 l0_1.length cX1) (below_set (j := 0) (v := .slice AX0 l0_0.length cX0) HBX.out (Nat.le_of_eq GX.out.symm)) (Nat.le_of_eq GX.out.symm)
  have n_BKB := Aside0.mk (blk_below (g := gB) (o := (.cells #[.slice A0_0 l0_0.length c0_0, .slice A0_1 l0_1.length c0_1] 34 (0, 0))) (by (with_reducible repeat (first | refine blk_drewN ?_ _ | refine blk_drew ?_ | refine blk_alloc ?_ _)); exact BKB.out) hb)
  have n_W0 := Aside0.mk (Kd.S_below (by (with_reducible repeat (first | apply Kd.S_alloc | apply Kd.S_drewN | apply Kd.S_drew)); exact W0.out) hb)
  have n_X0 := Aside0.mk (Kd.R_below (by (with_reducible repeat (first | apply Kd.R_alloc | apply Kd.R_drewN | apply Kd.R_drew)); exact X0.out) hb)
  have n_X1 := Aside0.mk (Kd.S_below (by (with_reducible repeat (first | apply Kd.S_alloc | apply Kd.S_drewN | apply Kd.S_drew)); exact X1.out) hb)
  have n_HB := Aside0.mk (below_step (by repeat (first | (with_reducible first | exact HB.out | apply below_alloc | apply pw_below_drewN | apply below_drew1) | exact HB.out)) hb)
  have n_HZ := Aside0.mk (Nat.le_trans HZ.out hb.size)
  have n_BKY := Aside0.mk (blk_put (cs' := #[.slice AX0 l0_0.length cX0, .slice AX1 l0_1.length cX1]) (blk_put (cs' := #[.slice AX0 l0_0.length cX0, .slice none 0 0]) BKX.out 0 (.slice AX0 l0_0.length cX0) rfl) 1 (.slice AX1 l0_1.length cX1) rfl)
  (try clear hcBKB_0 hfBKB_0)
  (try clear hcBKB_1 hfBKB_1)
  (try clear hcx_0 hcx_1 hfx_0 hfx_1)
  clear BKB W0 X0 X1 HB HZ HBX BKX GX
  have BKB := n_BKB
  have W0 := n_W0
  have X0 := n_X0
  have X1 := n_X1
  have HB := n_HB
  have HZ := n_HZ
  have BKY := n_BKY
  clear hb n_BKB n_W0 n_X0 n_X1 n_HB n_HZ n_BKY
  generalize ((wbx).setCell _ _).setCell _ _ = wx at BKB W0 X0 X1 HB HZ BKY ⊢
  have hcBKB_0 : (wx).cell? ⟨gB, 0, none⟩ = some (.slice A0_0 l0_0.length c0_0) := (blk_cell BKB.out 0).trans rfl
  have hfBKB_0 := blk_frozen BKB.out 0
  have hcBKB_1 : (wx).cell? ⟨gB, 1, none⟩ = some (.slice A0_1 l0_1.length c0_1) := (blk_cell BKB.out 1).trans rfl
  have hfBKB_1 := blk_frozen BKB.out 1
  have hcBKY_0 : (wx).cell? ⟨gx, 0, none⟩ = some (.slice AX0 l0_0.length cX0) := (blk_cell BKY.out 0).trans rfl
  have hfBKY_0 := blk_frozen BKY.out 0
  have hcBKY_1 : (wx).cell? ⟨gx, 1, none⟩ = some (.slice AX1 l0_1.length cX1) := (blk_cell BKY.out 1).trans rfl
  have hfBKY_1 := blk_frozen BKY.out 1
  go_upto_region 10 with (first
    | (clear TK5; go_at_call 42; (with_reducible refine (impl_LeastBook.calls k _ _ l0_0 _ _ l0_1 g _ ?side1 ?side2 ?side3 ?side4 AIM.out).mono ?_); (case side1 => repeat (first | exact (Kd.R_reads' X0.out).2.2 | (with_reducible refine Kd.C_alloc ?_ _) | (with_reducible refine Kd.C_drewN ?_ _) | (with_reducible refine Kd.C_drew ?_))); (case side2 => exact (Kd.R_reads' X0.out).2.1); (case side3 => repeat (first | exact (Kd.S_reads' X1.out).2.2 | (with_reducible refine Kd.C_alloc ?_ _) | (with_reducible refine Kd.C_drewN ?_ _) | (with_reducible refine Kd.C_drew ?_))); (case side4 => exact (Kd.S_reads' X1.out).2.1); rintro e wim ⟨v0, rfl, ho0, hb⟩; (try clear hcBKB_0 hfBKB_0); (try clear hcBKB_1 hfBKB_1); (try clear hcBKY_0 hfBKY_0); (try clear hcBKY_1 hfBKY_1); have n_BKB := Aside0.mk (blk_below (g := gB) (o := (.cells #[.slice A0_0 l0_0.length c0_0, .slice A0_1 l0_1.length c0_1] 34 (0, 0))) (by (with_reducible repeat (first | refine blk_drewN ?_ _ | refine blk_drew ?_ | refine blk_alloc ?_ _)); exact BKB.out) hb); have n_W0 := Aside0.mk (Kd.S_below (by (with_reducible repeat (first | apply Kd.S_alloc | apply Kd.S_drewN | apply Kd.S_drew)); exact W0.out) hb); have n_X0 := Aside0.mk (Kd.R_below (by (with_reducible repeat (first | apply Kd.R_alloc | apply Kd.R_drewN | apply Kd.R_drew)); exact X0.out) hb); have n_X1 := Aside0.mk (Kd.S_below (by (with_reducible repeat (first | apply Kd.S_alloc | apply Kd.S_drewN | apply Kd.S_drew)); exact X1.out) hb); have n_BKY := Aside0.mk (blk_below (g := gx) (o := (.cells #[.slice AX0 l0_0.length cX0, .slice AX1 l0_1.length cX1] 26 (0, 0))) (by (with_reducible repeat (first | refine blk_drewN ?_ _ | refine blk_drew ?_ | refine blk_alloc ?_ _)); exact BKY.out) hb); have n_HB := Aside0.mk (below_step (by repeat (first | (with_reducible first | exact HB.out | apply below_alloc | apply pw_below_drewN | apply below_drew1) | exact HB.out)) hb); have n_HZ := Aside0.mk (Nat.le_trans HZ.out hb.size); obtain ⟨a3, b3, za_, ab_, zb_, nn_⟩ := S_at (w0 := w) H0.out HZ.out ho0 hb; have G0 := Aside0.mk nn_; have Za3 := Aside0.mk (And.intro za_ ab_); have n_ZB := Aside0.mk zb_; clear BKB W0 X0 X1 BKY HB HZ; have BKB := n_BKB; have W0 := n_W0; have X0 := n_X0; have X1 := n_X1; have BKY := n_BKY; have HB := n_HB; have HZ := n_HZ; clear n_BKB n_W0 n_X0 n_X1 n_BKY n_HB n_HZ; have H0_ := Aside0.mk (Nat.le_trans H0.out (Nat.le_trans Za3.out.1 Za3.out.2)); clear HZ H0; have HZ := n_ZB; have H0 := H0_; clear n_ZB H0_ za_ ab_ zb_ nn_ hb ho0; obtain ⟨AG0, cG0, e_⟩ := Kd.S_slice G0.out; subst e_; have hcBKB_0 : (wim).cell? ⟨gB, 0, none⟩ = some (.slice A0_0 l0_0.length c0_0) := (blk_cell BKB.out 0).trans rfl; have hfBKB_0 := blk_frozen BKB.out 0; have hcBKB_1 : (wim).cell? ⟨gB, 1, none⟩ = some (.slice A0_1 l0_1.length c0_1) := (blk_cell BKB.out 1).trans rfl; have hfBKB_1 := blk_frozen BKB.out 1; have hcBKY_0 : (wim).cell? ⟨gx, 0, none⟩ = some (.slice AX0 l0_0.length cX0) := (blk_cell BKY.out 0).trans rfl; have hfBKY_0 := blk_frozen BKY.out 0; have hcBKY_1 : (wim).cell? ⟨gx, 1, none⟩ = some (.slice AX1 l0_1.length cX1) := (blk_cell BKY.out 1).trans rfl; have hfBKY_1 := blk_frozen BKY.out 1; have TK6 := Aside0.mk trivial)
    | (clear TK6; go_at_call 46; (with_reducible refine (laws_eqIntSS.calls k _ _ _ _ _ _ true _ ?side1 ?side2 ?side3 ?side4 AEQ.out).mono ?_); (case side1 => repeat (first | exact (Kd.S_reads' G0.out).2.2 | (with_reducible refine Kd.C_alloc ?_ _) | (with_reducible refine Kd.C_drewN ?_ _) | (with_reducible refine Kd.C_drew ?_))); (case side2 => exact (Kd.S_reads' G0.out).2.1); (case side3 => repeat (first | exact (Kd.S_reads' W0.out).2.2 | (with_reducible refine Kd.C_alloc ?_ _) | (with_reducible refine Kd.C_drewN ?_ _) | (with_reducible refine Kd.C_drew ?_))); (case side4 => exact (Kd.S_reads' W0.out).2.1); rintro e weq ⟨rfl, hdr_⟩; (try clear hcBKB_0 hfBKB_0); (try clear hcBKB_1 hfBKB_1); (try clear hcBKY_0 hfBKY_0); (try clear hcBKY_1 hfBKY_1); have hb := hdr_.below; clear hdr_; have n_BKB := Aside0.mk (blk_below (g := gB) (o := (.cells #[.slice A0_0 l0_0.length c0_0, .slice A0_1 l0_1.length c0_1] 34 (0, 0))) (by (with_reducible repeat (first | refine blk_drewN ?_ _ | refine blk_drew ?_ | refine blk_alloc ?_ _)); exact BKB.out) hb); have n_W0 := Aside0.mk (Kd.S_below (by (with_reducible repeat (first | apply Kd.S_alloc | apply Kd.S_drewN | apply Kd.S_drew)); exact W0.out) hb); have n_X0 := Aside0.mk (Kd.R_below (by (with_reducible repeat (first | apply Kd.R_alloc | apply Kd.R_drewN | apply Kd.R_drew)); exact X0.out) hb); have n_X1 := Aside0.mk (Kd.S_below (by (with_reducible repeat (first | apply Kd.S_alloc | apply Kd.S_drewN | apply Kd.S_drew)); exact X1.out) hb); have n_BKY := Aside0.mk (blk_below (g := gx) (o := (.cells #[.slice AX0 l0_0.length cX0, .slice AX1 l0_1.length cX1] 26 (0, 0))) (by (with_reducible repeat (first | refine blk_drewN ?_ _ | refine blk_drew ?_ | refine blk_alloc ?_ _)); exact BKY.out) hb); have n_G0 := Aside0.mk (Kd.S_below (by (with_reducible repeat (first | apply Kd.S_alloc | apply Kd.S_drewN | apply Kd.S_drew)); exact G0.out) hb); have n_HB := Aside0.mk (below_step (by repeat (first | (with_reducible first | exact HB.out | apply below_alloc | apply pw_below_drewN | apply below_drew1) | exact HB.out)) hb); have n_HZ := Aside0.mk (Nat.le_trans HZ.out hb.size); clear BKB W0 X0 X1 BKY G0 HB HZ; have BKB := n_BKB; have W0 := n_W0; have X0 := n_X0; have X1 := n_X1; have BKY := n_BKY; have G0 := n_G0; have HB := n_HB; have HZ := n_HZ; clear n_BKB n_W0 n_X0 n_X1 n_BKY n_G0 n_HB n_HZ; clear hb; have hcBKB_0 : (weq).cell? ⟨gB, 0, none⟩ = some (.slice A0_0 l0_0.length c0_0) := (blk_cell BKB.out 0).trans rfl; have hfBKB_0 := blk_frozen BKB.out 0; have hcBKB_1 : (weq).cell? ⟨gB, 1, none⟩ = some (.slice A0_1 l0_1.length c0_1) := (blk_cell BKB.out 1).trans rfl; have hfBKB_1 := blk_frozen BKB.out 1; have hcBKY_0 : (weq).cell? ⟨gx, 0, none⟩ = some (.slice AX0 l0_0.length cX0) := (blk_cell BKY.out 0).trans rfl; have hfBKY_0 := blk_frozen BKY.out 0; have hcBKY_1 : (weq).cell? ⟨gx, 1, none⟩ = some (.slice AX1 l0_1.length cX1) := (blk_cell BKY.out 1).trans rfl; have hfBKY_1 := blk_frozen BKY.out 1; have TK7 := Aside0.mk trivial))
  try go_wp2
  have n_BKB := Aside0.mk (blk_drew BKB.out)
  have n_W0 := Aside0.mk (Kd.S_drew W0.out)
  have n_X0 := Aside0.mk (Kd.R_drew X0.out)
  have n_X1 := Aside0.mk (Kd.S_drew X1.out)
  have n_BKY := Aside0.mk (blk_drew BKY.out)
  have n_G0 := Aside0.mk (Kd.S_drew G0.out)
  have n_HB := Aside0.mk (below_drew1 HB.out)
  have n_HZ := Aside0.mk (show _ ≤ (weq).drew.heap.size from HZ.out)
  (try clear hcBKB_0 hfBKB_0)
  (try clear hcBKB_1 hfBKB_1)
  (try clear hcBKY_0 hfBKY_0)
  (try clear hcBKY_1 hfBKY_1)
  clear BKB W0 X0 X1 BKY G0 HB HZ
  have BKB := n_BKB
  have W0 := n_W0
  have X0 := n_X0
  have X1 := n_X1
  have BKY := n_BKY
  have G0 := n_G0
  have HB := n_HB
  have HZ := n_HZ
  clear n_BKB n_W0 n_X0 n_X1 n_BKY n_G0 n_HB n_HZ
  refine start_ (n := 5) (S := fun w' => w'.cell? ⟨gx, 0, none⟩ = some (.slice AX0 l0_0.length cX0) ∧ w'.cell? ⟨gx, 1, none⟩ = some (.slice AX1 l0_1.length cX1) ∧ w'.cell? ⟨gB, 0, none⟩ = some (.slice A0_0 l0_0.length c0_0) ∧ w'.cell? ⟨gB, 1, none⟩ = some (.slice A0_1 l0_1.length c0_1)) (ds := []) #[false, false, false, false, false] (by kernel_rfl) rfl rfl ⟨(blk_cell BKY.out 0).trans rfl, (blk_cell BKY.out 1).trans rfl, (blk_cell BKB.out 0).trans rfl, (blk_cell BKB.out 1).trans rfl⟩ (fun hHeld => ?_)
  generalize (weq).drew = wr1 at BKB W0 X0 X1 BKY G0 HB HZ hHeld ⊢
  refine take_ (i := 0) (N := some 27) (v := ?_) (a' := ?_) #[true, false, false, false, false] rfl rfl (by kernel_rfl) (fun _ _ _ h => h) (Or.inl ⟨by rfl, ?_⟩) hHeld ?_ ?_
  rotate_left
  · rintro w' ⟨s0, s1, s2, s3⟩
    go_simp
    with_reducible rfl
  rotate_left
  · simp only [Act.put, List.setIfInBounds_toArray, List.set_cons_zero, List.set_cons_succ, i64_w, i32_w]
    rfl
  refine take_ (i := 1) (N := some 28) (v := ?_) (a' := ?_) #[true, true, false, false, false] rfl rfl (by kernel_rfl) (fun _ _ _ h => h) (Or.inl ⟨by rfl, ?_⟩) hHeld ?_ ?_
  rotate_left
  · rintro w' ⟨s0, s1, s2, s3⟩
    go_simp
    with_reducible rfl
  rotate_left
  · simp only [Act.put, List.setIfInBounds_toArray, List.set_cons_zero, List.set_cons_succ, i64_w, i32_w]
    rfl
  refine one_ (i := 2) (N := some 29) #[true, true, true, false, false] rfl rfl (by kernel_rfl) (by decide) (fun K hK => ?_)
  refine goes_ Try.func21 (by kernel_rfl) rfl #[.agg #[.slice A0_0 l0_0.length c0_0, .slice A0_1 l0_1.length c0_1]] (by rfl) rfl rfl (by (try simp only [List.map_toArray, List.map_cons, List.map_nil]); first | done | rfl | (simp only [List.length_drop, List.length_take]; rfl)) ?_
  with_reducible refine (laws_toBook.calls k _ _ l0_0 _ _ l0_1 l0_0 l0_1 _ ?side1 ?side2 ?side3 ?side4 ATO.out).mono ?_
  (case side1 => repeat (first | exact (Kd.C_below HR0_0.out HB.out) | (with_reducible refine Kd.C_alloc ?_ _) | (with_reducible refine Kd.C_drewN ?_ _) | (with_reducible refine Kd.C_drew ?_)))
  (case side2 => exact HC0_0.out)
  (case side3 => repeat (first | exact (Kd.C_below HR0_1.out HB.out) | (with_reducible refine Kd.C_alloc ?_ _) | (with_reducible refine Kd.C_drewN ?_ _) | (with_reducible refine Kd.C_drew ?_)))
  (case side4 => exact HC0_1.out)
  rintro e wr2 ⟨v0, v1, rfl, ho0, ho1, hb⟩
  refine ⟨_, rfl, ?_⟩
  have n_BKB := Aside0.mk (blk_below (g := gB) (o := (.cells #[.slice A0_0 l0_0.length c0_0, .slice A0_1 l0_1.length c0_1] 34 (0, 0))) (by (with_reducible repeat (first | refine blk_drewN ?_ _ | refine blk_drew ?_ | refine blk_alloc ?_ _)); exact BKB.out) hb)
  have n_W0 := Aside0.mk (Kd.S_below (by (with_reducible repeat (first | apply Kd.S_alloc | apply Kd.S_drewN | apply Kd.S_drew)); exact W0.out) hb)
  have n_X0 := Aside0.mk (Kd.R_below (by (with_reducible repeat (first | apply Kd.R_alloc | apply Kd.R_drewN | apply Kd.R_drew)); exact X0.out) hb)
  have n_X1 := Aside0.mk (Kd.S_below (by (with_reducible repeat (first | apply Kd.S_alloc | apply Kd.S_drewN | apply Kd.S_drew)); exact X1.out) hb)
  have n_BKY := Aside0.mk (blk_below (g := gx) (o := (.cells #[.slice AX0 l0_0.length cX0, .slice AX1 l0_1.length cX1] 26 (0, 0))) (by (with_reducible repeat (first | refine blk_drewN ?_ _ | refine blk_drew ?_ | refine blk_alloc ?_ _)); exact BKY.out) hb)
  have n_G0 := Aside0.mk (Kd.S_below (by (with_reducible repeat (first | apply Kd.S_alloc | apply Kd.S_drewN | apply Kd.S_drew)); exact G0.out) hb)
  have n_HB := Aside0.mk (below_step (by repeat (first | (with_reducible first | exact HB.out | apply below_alloc | apply pw_below_drewN | apply below_drew1) | exact HB.out)) hb)
  have n_HZ := Aside0.mk (Nat.le_trans HZ.out hb.size)
  have T0 := Aside0.mk ho0
  have T1 := Aside0.mk ho1
  clear BKB W0 X0 X1 BKY G0 HB HZ
  have BKB := n_BKB
  have W0 := n_W0
  have X0 := n_X0
  have X1 := n_X1
  have BKY := n_BKY
  have G0 := n_G0
  have HB := n_HB
  have HZ := n_HZ
  clear n_BKB n_W0 n_X0 n_X1 n_BKY n_G0 n_HB n_HZ
  clear hb ho0 ho1
  obtain ⟨AT2, cT2, e_⟩ := Kd.R_slice T0.out
  subst e_
  obtain ⟨AT3, cT3, e_⟩ := Kd.S_slice T1.out
  subst e_
  refine hK.out _ _ ⟨(blk_cell BKY.out 0).trans rfl, (blk_cell BKY.out 1).trans rfl, (blk_cell BKB.out 0).trans rfl, (blk_cell BKB.out 1).trans rfl⟩ (fun hHeld => ?_)
  clear hK K
  refine norm_ (a' := ?_) ?_ ?_
  rotate_left
  · show Act.put _ (some 29) _ = _
    simp only [Act.put, List.setIfInBounds_toArray, List.set_cons_zero, List.set_cons_succ, i64_w, i32_w]
    rfl
  refine one_ (i := 3) (N := some 30) #[true, true, true, true, false] rfl rfl (by kernel_rfl) (by decide) (fun K hK => ?_)
  refine goes_ Try.func24 (by kernel_rfl) rfl #[.agg #[.slice AX0 l0_0.length cX0, .slice AX1 l0_1.length cX1], .agg #[.slice AT2 l0_0.length cT2, .slice AT3 l0_1.length cT3]] (by rfl) rfl rfl (by (try simp only [List.map_toArray, List.map_cons, List.map_nil]); first | done | rfl | (simp only [List.length_drop, List.length_take]; rfl)) ?_
  with_reducible refine (laws_eqBook.calls k _ _ l0_0 _ _ l0_1 _ _ l0_0 _ _ l0_1 true _ ?side1 ?side2 ?side3 ?side4 ?side5 ?side6 ?side7 ?side8 AEB.out).mono ?_
  (case side1 => repeat (first | exact (Kd.R_reads' X0.out).2.2 | (with_reducible refine Kd.C_alloc ?_ _) | (with_reducible refine Kd.C_drewN ?_ _) | (with_reducible refine Kd.C_drew ?_)))
  (case side2 => exact (Kd.R_reads' X0.out).2.1)
  (case side3 => repeat (first | exact (Kd.S_reads' X1.out).2.2 | (with_reducible refine Kd.C_alloc ?_ _) | (with_reducible refine Kd.C_drewN ?_ _) | (with_reducible refine Kd.C_drew ?_)))
  (case side4 => exact (Kd.S_reads' X1.out).2.1)
  (case side5 => repeat (first | exact (Kd.R_reads' T0.out).2.2 | (with_reducible refine Kd.C_alloc ?_ _) | (with_reducible refine Kd.C_drewN ?_ _) | (with_reducible refine Kd.C_drew ?_)))
  (case side6 => exact (Kd.R_reads' T0.out).2.1)
  (case side7 => repeat (first | exact (Kd.S_reads' T1.out).2.2 | (with_reducible refine Kd.C_alloc ?_ _) | (with_reducible refine Kd.C_drewN ?_ _) | (with_reducible refine Kd.C_drew ?_)))
  (case side8 => exact (Kd.S_reads' T1.out).2.1)
  rintro e wr3 ⟨rfl, hb⟩
  refine ⟨_, rfl, ?_⟩
  have n_BKB := Aside0.mk (blk_below (g := gB) (o := (.cells #[.slice A0_0 l0_0.length c0_0, .slice A0_1 l0_1.length c0_1] 34 (0, 0))) (by (with_reducible repeat (first | refine blk_drewN ?_ _ | refine blk_drew ?_ | refine blk_alloc ?_ _)); exact BKB.out) hb)
  have n_W0 := Aside0.mk (Kd.S_below (by (with_reducible repeat (first | apply Kd.S_alloc | apply Kd.S_drewN | apply Kd.S_drew)); exact W0.out) hb)
  have n_X0 := Aside0.mk (Kd.R_below (by (with_reducible repeat (first | apply Kd.R_alloc | apply Kd.R_drewN | apply Kd.R_drew)); exact X0.out) hb)
  have n_X1 := Aside0.mk (Kd.S_below (by (with_reducible repeat (first | apply Kd.S_alloc | apply Kd.S_drewN | apply Kd.S_drew)); exact X1.out) hb)
  have n_BKY := Aside0.mk (blk_below (g := gx) (o := (.cells #[.slice AX0 l0_0.length cX0, .slice AX1 l0_1.length cX1] 26 (0, 0))) (by (with_reducible repeat (first | refine blk_drewN ?_ _ | refine blk_drew ?_ | refine blk_alloc ?_ _)); exact BKY.out) hb)
  have n_G0 := Aside0.mk (Kd.S_below (by (with_reducible repeat (first | apply Kd.S_alloc | apply Kd.S_drewN | apply Kd.S_drew)); exact G0.out) hb)
  have n_HB := Aside0.mk (below_step (by repeat (first | (with_reducible first | exact HB.out | apply below_alloc | apply pw_below_drewN | apply below_drew1) | exact HB.out)) hb)
  have n_HZ := Aside0.mk (Nat.le_trans HZ.out hb.size)
  clear BKB W0 X0 X1 BKY G0 HB HZ
  have BKB := n_BKB
  have W0 := n_W0
  have X0 := n_X0
  have X1 := n_X1
  have BKY := n_BKY
  have G0 := n_G0
  have HB := n_HB
  have HZ := n_HZ
  clear n_BKB n_W0 n_X0 n_X1 n_BKY n_G0 n_HB n_HZ
  clear hb T0 T1
  refine hK.out _ _ ⟨(blk_cell BKY.out 0).trans rfl, (blk_cell BKY.out 1).trans rfl, (blk_cell BKB.out 0).trans rfl, (blk_cell BKB.out 1).trans rfl⟩ (fun hHeld => ?_)
  clear hK K
  refine norm_ (a' := ?_) ?_ ?_
  rotate_left
  · show Act.put _ (some 30) _ = _
    simp only [Act.put, List.setIfInBounds_toArray, List.set_cons_zero, List.set_cons_succ, i64_w, i32_w]
    rfl
  refine pure_ (i := 4) (N := some 31) (v := ?_) (a' := ?_) #[true, true, true, true, true] rfl rfl (by kernel_rfl) (fun _ _ _ h => h) (Or.inl ⟨by rfl, ?_⟩) ?_ ?_
  rotate_left
  · intro w'
    go_simp
    with_reducible rfl
  rotate_left
  · simp only [Act.put, List.setIfInBounds_toArray, List.set_cons_zero, List.set_cons_succ, i64_w, i32_w]
    rfl
  refine done_ (by kernel_rfl) ?_
  have hcBKB_0 : (wr3).cell? ⟨gB, 0, none⟩ = some (.slice A0_0 l0_0.length c0_0) := (blk_cell BKB.out 0).trans rfl
  have hfBKB_0 := blk_frozen BKB.out 0
  have hcBKB_1 : (wr3).cell? ⟨gB, 1, none⟩ = some (.slice A0_1 l0_1.length c0_1) := (blk_cell BKB.out 1).trans rfl
  have hfBKB_1 := blk_frozen BKB.out 1
  have hcBKY_0 : (wr3).cell? ⟨gx, 0, none⟩ = some (.slice AX0 l0_0.length cX0) := (blk_cell BKY.out 0).trans rfl
  have hfBKY_0 := blk_frozen BKY.out 0
  have hcBKY_1 : (wr3).cell? ⟨gx, 1, none⟩ = some (.slice AX1 l0_1.length cX1) := (blk_cell BKY.out 1).trans rfl
  have hfBKY_1 := blk_frozen BKY.out 1
  have Z12 := Aside0.mk Za2.out.1
  have Z23 := Aside0.mk Za3.out.1
  have Z13 := Aside0.mk (Nat.le_trans Za2.out.1 (Nat.le_trans Za2.out.2 Za3.out.1))
  go_upto_region 14 with (first
    | (clear TK7; go_at_call 25; (with_reducible refine (laws_markBook.calls k (fun k_ => J a2 b2 k_ ∧ some k_ = (.slice AX0 l0_0.length cX0 : Value).ownBlock) _ l0_0 (fun k_ => J a2 b2 k_ ∧ some k_ ≠ (.slice AX0 l0_0.length cX0 : Value).ownBlock) _ l0_1 1 m1 w _ ?side1 ?side2 ?side3 ?side4 AMB.out).mono ?_); (case side1 => repeat (first | (with_reducible first | exact HB.out | apply below_alloc | apply pw_below_drewN | apply below_drew1) | exact HB.out)); (case side2 => (with_reducible repeat (first | apply Kd.R_alloc | apply Kd.R_drewN | apply Kd.R_drew)); exact X0.out); (case side3 => (with_reducible repeat (first | apply Kd.S_alloc | apply Kd.S_drewN | apply Kd.S_drew)); exact X1.out); (case side4 => exact fun k_ h1_ h2_ => h2_.2 h1_.2); rintro e wmb ⟨rfl, hb, hkp⟩; (try clear hcBKB_0 hfBKB_0); (try clear hcBKB_1 hfBKB_1); (try clear hcBKY_0 hfBKY_0); (try clear hcBKY_1 hfBKY_1); have n_BKB := Aside0.mk (Mark.kept_blk (g := gB) (by (with_reducible repeat (first | refine blk_drewN ?_ _ | refine blk_drew ?_ | refine blk_alloc ?_ _)); exact BKB.out) hkp (by decide)); have n_W0 := Aside0.mk (Kd.S_kept (by (with_reducible repeat (first | apply Kd.S_alloc | apply Kd.S_drewN | apply Kd.S_drew)); exact W0.out) hkp (by intro k_ h1_ h2_; exact h2_.1.elim (fun q_ => J_apart h1_.1 q_.1 (.inl Z12.out)) (fun q_ => J_apart h1_.1 q_.1 (.inl Z12.out)))); have n_G0 := Aside0.mk (Kd.S_kept (by (with_reducible repeat (first | apply Kd.S_alloc | apply Kd.S_drewN | apply Kd.S_drew)); exact G0.out) hkp (by intro k_ h1_ h2_; exact h2_.1.elim (fun q_ => J_apart h1_.1 q_.1 (.inr Z23.out)) (fun q_ => J_apart h1_.1 q_.1 (.inr Z23.out)))); have n_HB := Aside0.mk hb; have n_HZ := Aside0.mk (Nat.le_trans HZ.out hkp.1); clear X0 X1 BKY; clear BKB W0 G0 HB HZ; have BKB := n_BKB; have W0 := n_W0; have G0 := n_G0; have HB := n_HB; have HZ := n_HZ; clear n_BKB n_W0 n_G0 n_HB n_HZ; clear hb hkp; have hcBKB_0 : (wmb).cell? ⟨gB, 0, none⟩ = some (.slice A0_0 l0_0.length c0_0) := (blk_cell BKB.out 0).trans rfl; have hfBKB_0 := blk_frozen BKB.out 0; have hcBKB_1 : (wmb).cell? ⟨gB, 1, none⟩ = some (.slice A0_1 l0_1.length c0_1) := (blk_cell BKB.out 1).trans rfl; have hfBKB_1 := blk_frozen BKB.out 1; have TK8 := Aside0.mk trivial))
  go_wp2_with (first
    | (clear TK8; go_at_call 46; (with_reducible refine (laws_eqIntSS.calls k _ _ _ _ _ _ true _ ?side1 ?side2 ?side3 ?side4 AEQ.out).mono ?_); (case side1 => repeat (first | exact (Kd.S_reads' G0.out).2.2 | (with_reducible refine Kd.C_alloc ?_ _) | (with_reducible refine Kd.C_drewN ?_ _) | (with_reducible refine Kd.C_drew ?_))); (case side2 => exact (Kd.S_reads' G0.out).2.1); (case side3 => repeat (first | exact (Kd.S_reads' W0.out).2.2 | (with_reducible refine Kd.C_alloc ?_ _) | (with_reducible refine Kd.C_drewN ?_ _) | (with_reducible refine Kd.C_drew ?_))); (case side4 => exact (Kd.S_reads' W0.out).2.1); rintro e weq2 ⟨rfl, hdr_⟩; (try clear hcBKB_0 hfBKB_0); (try clear hcBKB_1 hfBKB_1); have hb := hdr_.below; clear hdr_; have n_BKB := Aside0.mk (blk_below (g := gB) (o := (.cells #[.slice A0_0 l0_0.length c0_0, .slice A0_1 l0_1.length c0_1] 34 (0, 0))) (by (with_reducible repeat (first | refine blk_drewN ?_ _ | refine blk_drew ?_ | refine blk_alloc ?_ _)); exact BKB.out) hb); have n_W0 := Aside0.mk (Kd.S_below (by (with_reducible repeat (first | apply Kd.S_alloc | apply Kd.S_drewN | apply Kd.S_drew)); exact W0.out) hb); have n_G0 := Aside0.mk (Kd.S_below (by (with_reducible repeat (first | apply Kd.S_alloc | apply Kd.S_drewN | apply Kd.S_drew)); exact G0.out) hb); have n_HB := Aside0.mk (below_step (by repeat (first | (with_reducible first | exact HB.out | apply below_alloc | apply pw_below_drewN | apply below_drew1) | exact HB.out)) hb); have n_HZ := Aside0.mk (Nat.le_trans HZ.out hb.size); clear BKB W0 G0 HB HZ; have BKB := n_BKB; have W0 := n_W0; have G0 := n_G0; have HB := n_HB; have HZ := n_HZ; clear n_BKB n_W0 n_G0 n_HB n_HZ; clear hb; have hcBKB_0 : (weq2).cell? ⟨gB, 0, none⟩ = some (.slice A0_0 l0_0.length c0_0) := (blk_cell BKB.out 0).trans rfl; have hfBKB_0 := blk_frozen BKB.out 0; have hcBKB_1 : (weq2).cell? ⟨gB, 1, none⟩ = some (.slice A0_1 l0_1.length c0_1) := (blk_cell BKB.out 1).trans rfl; have hfBKB_1 := blk_frozen BKB.out 1; have TK9 := Aside0.mk trivial)
    | (clear TK9; go_at_call 47; (with_reducible refine (laws_markIntSS.calls k (fun k_ => J a3 b3 k_ ∧ True) _ g 1 m g2 w _ ?side1 ?side2 AMG.out).mono ?_); (case side1 => repeat (first | (with_reducible first | exact HB.out | apply below_alloc | apply pw_below_drewN | apply below_drew1) | exact HB.out)); (case side2 => (with_reducible repeat (first | apply Kd.S_alloc | apply Kd.S_drewN | apply Kd.S_drew)); exact G0.out); rintro e wms ⟨rfl, hs, hb, hkp⟩; (try clear hcBKB_0 hfBKB_0); (try clear hcBKB_1 hfBKB_1); have n_BKB := Aside0.mk (Mark.kept_blk (g := gB) (by (with_reducible repeat (first | refine blk_drewN ?_ _ | refine blk_drew ?_ | refine blk_alloc ?_ _)); exact BKB.out) hkp (by decide)); have n_W0 := Aside0.mk (Kd.S_kept (by (with_reducible repeat (first | apply Kd.S_alloc | apply Kd.S_drewN | apply Kd.S_drew)); exact W0.out) hkp (by intro k_ h1_ h2_; exact J_apart h1_.1 h2_.1.1 (.inl Z13.out))); have n_HB := Aside0.mk hb; have n_HZ := Aside0.mk (Nat.le_trans HZ.out hkp.1); have n_G0 := Aside0.mk hs; clear BKB W0 G0 HB HZ; have BKB := n_BKB; have W0 := n_W0; have G0 := n_G0; have HB := n_HB; have HZ := n_HZ; clear n_BKB n_W0 n_G0 n_HB n_HZ; clear hs hb hkp; have hcBKB_0 : (wms).cell? ⟨gB, 0, none⟩ = some (.slice A0_0 l0_0.length c0_0) := (blk_cell BKB.out 0).trans rfl; have hfBKB_0 := blk_frozen BKB.out 0; have hcBKB_1 : (wms).cell? ⟨gB, 1, none⟩ = some (.slice A0_1 l0_1.length c0_1) := (blk_cell BKB.out 1).trans rfl; have hfBKB_1 := blk_frozen BKB.out 1; have TK10 := Aside0.mk trivial)
    | (clear TK10; go_at_call 48; (with_reducible refine (held_calls k _ _ _ g2 1 m _ ?side1 ?side2 ?side3 AHE.out).mono ?_); (case side1 => exact (Kd.S_reads' G0.out).1); (case side2 => repeat (first | exact (Kd.S_reads' G0.out).2.2 | (with_reducible refine Kd.C_alloc ?_ _) | (with_reducible refine Kd.C_drewN ?_ _) | (with_reducible refine Kd.C_drew ?_))); (case side3 => exact (Kd.S_reads' G0.out).2.1); rintro e whs ⟨rfl, hdr_⟩; (try clear hcBKB_0 hfBKB_0); (try clear hcBKB_1 hfBKB_1); have hb := hdr_.below; clear hdr_; have n_BKB := Aside0.mk (blk_below (g := gB) (o := (.cells #[.slice A0_0 l0_0.length c0_0, .slice A0_1 l0_1.length c0_1] 34 (0, 0))) (by (with_reducible repeat (first | refine blk_drewN ?_ _ | refine blk_drew ?_ | refine blk_alloc ?_ _)); exact BKB.out) hb); have n_W0 := Aside0.mk (Kd.S_below (by (with_reducible repeat (first | apply Kd.S_alloc | apply Kd.S_drewN | apply Kd.S_drew)); exact W0.out) hb); have n_G0 := Aside0.mk (Kd.S_below (by (with_reducible repeat (first | apply Kd.S_alloc | apply Kd.S_drewN | apply Kd.S_drew)); exact G0.out) hb); have n_HB := Aside0.mk (below_step (by repeat (first | (with_reducible first | exact HB.out | apply below_alloc | apply pw_below_drewN | apply below_drew1) | exact HB.out)) hb); have n_HZ := Aside0.mk (Nat.le_trans HZ.out hb.size); clear BKB W0 G0 HB HZ; have BKB := n_BKB; have W0 := n_W0; have G0 := n_G0; have HB := n_HB; have HZ := n_HZ; clear n_BKB n_W0 n_G0 n_HB n_HZ; clear hb; have hcBKB_0 : (whs).cell? ⟨gB, 0, none⟩ = some (.slice A0_0 l0_0.length c0_0) := (blk_cell BKB.out 0).trans rfl; have hfBKB_0 := blk_frozen BKB.out 0; have hcBKB_1 : (whs).cell? ⟨gB, 1, none⟩ = some (.slice A0_1 l0_1.length c0_1) := (blk_cell BKB.out 1).trans rfl; have hfBKB_1 := blk_frozen BKB.out 1; have TK11 := Aside0.mk trivial)
    | (clear TK11; go_at_call 21; (with_reducible refine (laws_toBook.calls k _ _ l0_0 _ _ l0_1 l0_0 l0_1 _ ?side1 ?side2 ?side3 ?side4 ATO.out).mono ?_); (case side1 => repeat (first | exact (Kd.C_below HR0_0.out HB.out) | (with_reducible refine Kd.C_alloc ?_ _) | (with_reducible refine Kd.C_drewN ?_ _) | (with_reducible refine Kd.C_drew ?_))); (case side2 => exact HC0_0.out); (case side3 => repeat (first | exact (Kd.C_below HR0_1.out HB.out) | (with_reducible refine Kd.C_alloc ?_ _) | (with_reducible refine Kd.C_drewN ?_ _) | (with_reducible refine Kd.C_drew ?_))); (case side4 => exact HC0_1.out); rintro e wto3 ⟨v0, v1, rfl, ho0, ho1, hb⟩; (try clear hcBKB_0 hfBKB_0); (try clear hcBKB_1 hfBKB_1); have n_BKB := Aside0.mk (blk_below (g := gB) (o := (.cells #[.slice A0_0 l0_0.length c0_0, .slice A0_1 l0_1.length c0_1] 34 (0, 0))) (by (with_reducible repeat (first | refine blk_drewN ?_ _ | refine blk_drew ?_ | refine blk_alloc ?_ _)); exact BKB.out) hb); have n_W0 := Aside0.mk (Kd.S_below (by (with_reducible repeat (first | apply Kd.S_alloc | apply Kd.S_drewN | apply Kd.S_drew)); exact W0.out) hb); have n_G0 := Aside0.mk (Kd.S_below (by (with_reducible repeat (first | apply Kd.S_alloc | apply Kd.S_drewN | apply Kd.S_drew)); exact G0.out) hb); have n_HB := Aside0.mk (below_step (by repeat (first | (with_reducible first | exact HB.out | apply below_alloc | apply pw_below_drewN | apply below_drew1) | exact HB.out)) hb); have n_HZ := Aside0.mk (Nat.le_trans HZ.out hb.size); have T0 := Aside0.mk ho0; have T1 := Aside0.mk ho1; clear BKB W0 G0 HB HZ; have BKB := n_BKB; have W0 := n_W0; have G0 := n_G0; have HB := n_HB; have HZ := n_HZ; clear n_BKB n_W0 n_G0 n_HB n_HZ; clear hb ho0 ho1; obtain ⟨AT0, cT0, e_⟩ := Kd.R_slice T0.out; subst e_; obtain ⟨AT1, cT1, e_⟩ := Kd.S_slice T1.out; subst e_; have hcBKB_0 : (wto3).cell? ⟨gB, 0, none⟩ = some (.slice A0_0 l0_0.length c0_0) := (blk_cell BKB.out 0).trans rfl; have hfBKB_0 := blk_frozen BKB.out 0; have hcBKB_1 : (wto3).cell? ⟨gB, 1, none⟩ = some (.slice A0_1 l0_1.length c0_1) := (blk_cell BKB.out 1).trans rfl; have hfBKB_1 := blk_frozen BKB.out 1; have TK12 := Aside0.mk trivial)
    | (clear TK12; go_at_call 42; (with_reducible refine (impl_LeastBook.calls k _ _ l0_0 _ _ l0_1 g _ ?side1 ?side2 ?side3 ?side4 AIM.out).mono ?_); (case side1 => repeat (first | exact (Kd.R_reads' T0.out).2.2 | (with_reducible refine Kd.C_alloc ?_ _) | (with_reducible refine Kd.C_drewN ?_ _) | (with_reducible refine Kd.C_drew ?_))); (case side2 => exact (Kd.R_reads' T0.out).2.1); (case side3 => repeat (first | exact (Kd.S_reads' T1.out).2.2 | (with_reducible refine Kd.C_alloc ?_ _) | (with_reducible refine Kd.C_drewN ?_ _) | (with_reducible refine Kd.C_drew ?_))); (case side4 => exact (Kd.S_reads' T1.out).2.1); rintro e wim2 ⟨v0, rfl, ho0, hb⟩; (try clear hcBKB_0 hfBKB_0); (try clear hcBKB_1 hfBKB_1); have n_BKB := Aside0.mk (blk_below (g := gB) (o := (.cells #[.slice A0_0 l0_0.length c0_0, .slice A0_1 l0_1.length c0_1] 34 (0, 0))) (by (with_reducible repeat (first | refine blk_drewN ?_ _ | refine blk_drew ?_ | refine blk_alloc ?_ _)); exact BKB.out) hb); have n_W0 := Aside0.mk (Kd.S_below (by (with_reducible repeat (first | apply Kd.S_alloc | apply Kd.S_drewN | apply Kd.S_drew)); exact W0.out) hb); have n_G0 := Aside0.mk (Kd.S_below (by (with_reducible repeat (first | apply Kd.S_alloc | apply Kd.S_drewN | apply Kd.S_drew)); exact G0.out) hb); have n_T0 := Aside0.mk (Kd.R_below (by (with_reducible repeat (first | apply Kd.R_alloc | apply Kd.R_drewN | apply Kd.R_drew)); exact T0.out) hb); have n_T1 := Aside0.mk (Kd.S_below (by (with_reducible repeat (first | apply Kd.S_alloc | apply Kd.S_drewN | apply Kd.S_drew)); exact T1.out) hb); have n_HB := Aside0.mk (below_step (by repeat (first | (with_reducible first | exact HB.out | apply below_alloc | apply pw_below_drewN | apply below_drew1) | exact HB.out)) hb); have n_HZ := Aside0.mk (Nat.le_trans HZ.out hb.size); have G1 := Aside0.mk ho0; clear BKB W0 G0 T0 T1 HB HZ; have BKB := n_BKB; have W0 := n_W0; have G0 := n_G0; have T0 := n_T0; have T1 := n_T1; have HB := n_HB; have HZ := n_HZ; clear n_BKB n_W0 n_G0 n_T0 n_T1 n_HB n_HZ; clear hb ho0; clear T0 T1; obtain ⟨AG1, cG1, e_⟩ := Kd.S_slice G1.out; subst e_; have hcBKB_0 : (wim2).cell? ⟨gB, 0, none⟩ = some (.slice A0_0 l0_0.length c0_0) := (blk_cell BKB.out 0).trans rfl; have hfBKB_0 := blk_frozen BKB.out 0; have hcBKB_1 : (wim2).cell? ⟨gB, 1, none⟩ = some (.slice A0_1 l0_1.length c0_1) := (blk_cell BKB.out 1).trans rfl; have hfBKB_1 := blk_frozen BKB.out 1; have TK13 := Aside0.mk trivial)
    | (clear TK13; go_at_call 46; (with_reducible refine (laws_eqIntSS.calls k _ _ _ _ _ _ true _ ?side1 ?side2 ?side3 ?side4 AEQ.out).mono ?_); (case side1 => repeat (first | exact (Kd.S_reads' G1.out).2.2 | (with_reducible refine Kd.C_alloc ?_ _) | (with_reducible refine Kd.C_drewN ?_ _) | (with_reducible refine Kd.C_drew ?_))); (case side2 => exact (Kd.S_reads' G1.out).2.1); (case side3 => repeat (first | exact (Kd.S_reads' W0.out).2.2 | (with_reducible refine Kd.C_alloc ?_ _) | (with_reducible refine Kd.C_drewN ?_ _) | (with_reducible refine Kd.C_drew ?_))); (case side4 => exact (Kd.S_reads' W0.out).2.1); rintro e weq3 ⟨rfl, hdr_⟩; (try clear hcBKB_0 hfBKB_0); (try clear hcBKB_1 hfBKB_1); have hb := hdr_.below; clear hdr_; have n_BKB := Aside0.mk (blk_below (g := gB) (o := (.cells #[.slice A0_0 l0_0.length c0_0, .slice A0_1 l0_1.length c0_1] 34 (0, 0))) (by (with_reducible repeat (first | refine blk_drewN ?_ _ | refine blk_drew ?_ | refine blk_alloc ?_ _)); exact BKB.out) hb); have n_W0 := Aside0.mk (Kd.S_below (by (with_reducible repeat (first | apply Kd.S_alloc | apply Kd.S_drewN | apply Kd.S_drew)); exact W0.out) hb); have n_G0 := Aside0.mk (Kd.S_below (by (with_reducible repeat (first | apply Kd.S_alloc | apply Kd.S_drewN | apply Kd.S_drew)); exact G0.out) hb); have n_G1 := Aside0.mk (Kd.S_below (by (with_reducible repeat (first | apply Kd.S_alloc | apply Kd.S_drewN | apply Kd.S_drew)); exact G1.out) hb); have n_HB := Aside0.mk (below_step (by repeat (first | (with_reducible first | exact HB.out | apply below_alloc | apply pw_below_drewN | apply below_drew1) | exact HB.out)) hb); have n_HZ := Aside0.mk (Nat.le_trans HZ.out hb.size); clear BKB W0 G0 G1 HB HZ; have BKB := n_BKB; have W0 := n_W0; have G0 := n_G0; have G1 := n_G1; have HB := n_HB; have HZ := n_HZ; clear n_BKB n_W0 n_G0 n_G1 n_HB n_HZ; clear hb; have hcBKB_0 : (weq3).cell? ⟨gB, 0, none⟩ = some (.slice A0_0 l0_0.length c0_0) := (blk_cell BKB.out 0).trans rfl; have hfBKB_0 := blk_frozen BKB.out 0; have hcBKB_1 : (weq3).cell? ⟨gB, 1, none⟩ = some (.slice A0_1 l0_1.length c0_1) := (blk_cell BKB.out 1).trans rfl; have hfBKB_1 := blk_frozen BKB.out 1; have TK14 := Aside0.mk trivial)
    | (clear TK14; go_at_call 48; (with_reducible refine (held_calls k _ _ _ g2 1 m _ ?side1 ?side2 ?side3 AHE.out).mono ?_); (case side1 => exact (Kd.S_reads' G0.out).1); (case side2 => repeat (first | exact (Kd.S_reads' G0.out).2.2 | (with_reducible refine Kd.C_alloc ?_ _) | (with_reducible refine Kd.C_drewN ?_ _) | (with_reducible refine Kd.C_drew ?_))); (case side3 => exact (Kd.S_reads' G0.out).2.1); rintro e whs2 ⟨rfl, hdr_⟩; (try clear hcBKB_0 hfBKB_0); (try clear hcBKB_1 hfBKB_1); have hb := hdr_.below; clear hdr_; have n_BKB := Aside0.mk (blk_below (g := gB) (o := (.cells #[.slice A0_0 l0_0.length c0_0, .slice A0_1 l0_1.length c0_1] 34 (0, 0))) (by (with_reducible repeat (first | refine blk_drewN ?_ _ | refine blk_drew ?_ | refine blk_alloc ?_ _)); exact BKB.out) hb); have n_W0 := Aside0.mk (Kd.S_below (by (with_reducible repeat (first | apply Kd.S_alloc | apply Kd.S_drewN | apply Kd.S_drew)); exact W0.out) hb); have n_G0 := Aside0.mk (Kd.S_below (by (with_reducible repeat (first | apply Kd.S_alloc | apply Kd.S_drewN | apply Kd.S_drew)); exact G0.out) hb); have n_G1 := Aside0.mk (Kd.S_below (by (with_reducible repeat (first | apply Kd.S_alloc | apply Kd.S_drewN | apply Kd.S_drew)); exact G1.out) hb); have n_HB := Aside0.mk (below_step (by repeat (first | (with_reducible first | exact HB.out | apply below_alloc | apply pw_below_drewN | apply below_drew1) | exact HB.out)) hb); have n_HZ := Aside0.mk (Nat.le_trans HZ.out hb.size); clear BKB W0 G0 G1 HB HZ; have BKB := n_BKB; have W0 := n_W0; have G0 := n_G0; have G1 := n_G1; have HB := n_HB; have HZ := n_HZ; clear n_BKB n_W0 n_G0 n_G1 n_HB n_HZ; clear hb; have hcBKB_0 : (whs2).cell? ⟨gB, 0, none⟩ = some (.slice A0_0 l0_0.length c0_0) := (blk_cell BKB.out 0).trans rfl; have hfBKB_0 := blk_frozen BKB.out 0; have hcBKB_1 : (whs2).cell? ⟨gB, 1, none⟩ = some (.slice A0_1 l0_1.length c0_1) := (blk_cell BKB.out 1).trans rfl; have hfBKB_1 := blk_frozen BKB.out 1; have TK15 := Aside0.mk trivial))
  go_ret
  exact ⟨rfl, HB.out⟩
set_option maxHeartbeats 8000000 in
set_option maxRecDepth 100000 in
theorem law_small (k : Nat) (A0_0 : Option Addr) (c0_0 : Nat) (l0_0 : List Int) (A0_1 : Option Addr) (c0_1 : Nat) (l0_1 : List (List Int)) (s : Int) (w : World) (hr0_0 : Kd.C (Kd.int .i64) w A0_0 l0_0.length l0_0) (hc0_0 : l0_0.length ≤ c0_0) (hr0_1 : Kd.C (Kd.slice 3 (Kd.int .i64)) w A0_1 l0_1.length l0_1) (hc0_1 : l0_1.length ≤ c0_1) (hsz : laws_szBook.f k l0_0 l0_1 1048576 = some s) (hs : s < 0) :
    Calls Try.prog 11 #[.agg #[.slice A0_0 l0_0.length c0_0, .slice A0_1 l0_1.length c0_1]] w fun e w' => e = .returned (.bool true) ∧ Below w.heap.size w w' := by
  have hu36 := Try.underlying34
  have hu26 := Try.underlying26
  have HR0_0 := Aside0.mk hr0_0
  have HC0_0 := Aside0.mk hc0_0
  have HR0_1 := Aside0.mk hr0_1
  have HC0_1 := Aside0.mk hc0_1
  have HB := Aside0.mk (Below.refl w.heap.size w)
  have HZ := Aside0.mk (Nat.le_refl w.heap.size)
  have H0 := Aside0.mk (Nat.le_refl w.heap.size)
  have ASZ := Aside0.mk hsz
  have ds : decide (s < 0) = true := decide_eq_true hs
  clear hr0_0 hc0_0 hr0_1 hc0_1 hsz hs
  go_enter Try.func11, Try.ntmps11
  go_wp2_with (first
    | ((with_reducible refine gate_dst (N := 1) rfl ?_); refine box_event ?hg (N := 1) ?hd (cs := #[.slice A0_0 l0_0.length c0_0, .slice A0_1 l0_1.length c0_1]) (t := 34) ?hr ?_; (case hd => rfl); (case hg => rfl); (case hr => first | (go_simp; done) | (go_simp; rfl)); intro gB hg wB hbox hb; have n_HB := Aside0.mk hb; have n_HZ := Aside0.mk hb.size; have BKB := Aside0.mk hbox; clear HB HZ; have HB := n_HB; have HZ := n_HZ; clear n_HB n_HZ hb hbox hg; have hcBKB_0 : (wB).cell? ⟨gB, 0, none⟩ = some (.slice A0_0 l0_0.length c0_0) := (blk_cell BKB.out 0).trans rfl; have hfBKB_0 := blk_frozen BKB.out 0; have hcBKB_1 : (wB).cell? ⟨gB, 1, none⟩ = some (.slice A0_1 l0_1.length c0_1) := (blk_cell BKB.out 1).trans rfl; have hfBKB_1 := blk_frozen BKB.out 1; have TK1 := Aside0.mk trivial)
    | (clear TK1; go_at_call 19; (with_reducible refine (laws_szBook.calls k _ _ l0_0 _ _ l0_1 1048576 s _ ?side1 ?side2 ?side3 ?side4 ASZ.out).mono ?_); (case side1 => repeat (first | exact (Kd.C_below HR0_0.out HB.out) | (with_reducible refine Kd.C_alloc ?_ _) | (with_reducible refine Kd.C_drewN ?_ _) | (with_reducible refine Kd.C_drew ?_))); (case side2 => exact HC0_0.out); (case side3 => repeat (first | exact (Kd.C_below HR0_1.out HB.out) | (with_reducible refine Kd.C_alloc ?_ _) | (with_reducible refine Kd.C_drewN ?_ _) | (with_reducible refine Kd.C_drew ?_))); (case side4 => exact HC0_1.out); rintro e wsz ⟨rfl, hb⟩; (try clear hcBKB_0 hfBKB_0); (try clear hcBKB_1 hfBKB_1); have n_BKB := Aside0.mk (blk_below (g := gB) (o := (.cells #[.slice A0_0 l0_0.length c0_0, .slice A0_1 l0_1.length c0_1] 34 (0, 0))) (by (with_reducible repeat (first | refine blk_drewN ?_ _ | refine blk_drew ?_ | refine blk_alloc ?_ _)); exact BKB.out) hb); have n_HB := Aside0.mk (below_step (by repeat (first | (with_reducible first | exact HB.out | apply below_alloc | apply pw_below_drewN | apply below_drew1) | exact HB.out)) hb); have n_HZ := Aside0.mk (Nat.le_trans HZ.out hb.size); clear BKB HB HZ; have BKB := n_BKB; have HB := n_HB; have HZ := n_HZ; clear n_BKB n_HB n_HZ; clear hb; have hcBKB_0 : (wsz).cell? ⟨gB, 0, none⟩ = some (.slice A0_0 l0_0.length c0_0) := (blk_cell BKB.out 0).trans rfl; have hfBKB_0 := blk_frozen BKB.out 0; have hcBKB_1 : (wsz).cell? ⟨gB, 1, none⟩ = some (.slice A0_1 l0_1.length c0_1) := (blk_cell BKB.out 1).trans rfl; have hfBKB_1 := blk_frozen BKB.out 1; have TK2 := Aside0.mk trivial))
  go_ret
  exact ⟨rfl, HB.out⟩
/-- All that the law's functions are to tell, with one count of rounds. -/
def laws_FnExactLeastBook.ok (k : Nat) (l0_0 : List Int) (l0_1 : List (List Int)) : Prop := ∃ s, laws_szBook.f k l0_0 l0_1 1048576 = some s ∧ (s < 0 ∨ (¬ s < 0 ∧ laws_toBook.f k l0_0 l0_1 = some (l0_0, l0_1) ∧ laws_eqBook.f k l0_0 l0_1 l0_0 l0_1 = some true ∧ ∃ m1 m g g2, laws_markBook.f k l0_0 l0_1 1 = some m1 ∧ ¬ m1 < 0 ∧
  spec_LeastBook.f k l0_0 l0_1 = some g ∧ impl_LeastBook.f k l0_0 l0_1 = some g ∧ laws_eqIntSS.f k g g = some true ∧ laws_markIntSS.f k g 1 = some (m, g2) ∧ laws_heldIntSS.f k g2 1 = some m ∧ ¬ m < 0))
theorem laws_FnExactLeastBook.xcalls (k : Nat) (A0_0 : Option Addr) (c0_0 : Nat) (l0_0 : List Int) (A0_1 : Option Addr) (c0_1 : Nat) (l0_1 : List (List Int)) (r : Bool) (w : World) (hr0_0 : Kd.C (Kd.int .i64) w A0_0 l0_0.length l0_0) (hc0_0 : l0_0.length ≤ c0_0) (hr0_1 : Kd.C (Kd.slice 3 (Kd.int .i64)) w A0_1 l0_1.length l0_1) (hc0_1 : l0_1.length ≤ c0_1) (h : laws_FnExactLeastBook.ok k l0_0 l0_1) :
    Calls Try.prog 11 #[.agg #[.slice A0_0 l0_0.length c0_0, .slice A0_1 l0_1.length c0_1]] w fun e w' => e = .returned (.bool true) ∧ Below w.heap.size w w' := by
  obtain ⟨s, h1, h2 | ⟨h2, h3, h4, m1, m, g, g2, h5, h6, h7, h8, h9, h10, h11, h12⟩⟩ := h
  · exact law_small k A0_0 c0_0 l0_0 A0_1 c0_1 l0_1 s w hr0_0 hc0_0 hr0_1 hc0_1 h1 h2
  · exact law_true k A0_0 c0_0 l0_0 A0_1 c0_1 l0_1 s m1 m g g2 w hr0_0 hc0_0 hr0_1 hc0_1 h1 h2 h3 h7 h8 h9 h4 h5 h6 h10 h11 h12
end Go.Proofs.Ytobdgfapjcepkaa.QFnExactLeastBook
