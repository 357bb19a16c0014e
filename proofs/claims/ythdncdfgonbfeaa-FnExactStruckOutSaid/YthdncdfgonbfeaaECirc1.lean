/- The closure that walks in impl.circles: called with a path it tells, behind the rows told so far, just those that the plain function tells; no condition. -/
import Derived.Test.YthdncdfgonbfeaaECirc0
import Derived.WalkMore
import Derived.Outline
namespace Go.Proofs.Ythdncdfgonbfeaa.Circ
open Go.RowKit Go.Proofs.Ythdncdfgonbfeaa.QWalk Go.Proofs.YthdncdfgonbfeaaW.PrintWords Go.Proofs.YthdncdfgonbfeaaW.PrintLast Go.Proofs.YthdncdfgonbfeaaW.PrintMore
attribute [local go_sem] max2_int min2_int max_two min_two max_three min_three max_four min_four   -- for this text's walks alone
set_option linter.unusedVariables false
set_option linter.unusedSimpArgs false
theorem at_rows {w : World} {A : Option Addr} {n : Nat} {xs : List (List Int)} (h : Kd.C (Kd.slice 3 (Kd.int .i64)) w A n xs) (i : Int) (h0 : 0 ≤ i) (h1 : i < n) : ∃ ad A0 c0, A = some ad ∧ w.cell? (ad.add i.toNat) = some (.slice A0 (xs.getD i.toNat []).length c0) ∧ (xs.getD i.toNat []).length ≤ c0 ∧ (Kd.int .i64).C w A0 (xs.getD i.toNat []).length (xs.getD i.toNat []) := by
 obtain ⟨ad, c, e, _, hK, hc0⟩ := Kd.C_get h ([] : List Int) i h0 h1
 have hc : ∀ j u, c[j]? = some u → w.cell? (ad.add (i.toNat * 1 + j)) = some u := hc0
 obtain ⟨A0, c0, rfl, l0, g0⟩ := hK
 exact ⟨ad, A0, c0, e, by have hq := hc 0 _ rfl; rwa [Nat.mul_one, Nat.add_zero] at hq, l0, g0⟩
set_option maxHeartbeats 8000000 in
set_option maxRecDepth 100000 in
theorem walk_calls {w : World} {gb go gw : Nat} {s0 : Value} {A1 : Option Addr} {c1 : Nat} {d : List (List Int)} (hd : Kd.C (Kd.slice 3 (Kd.int .i64)) w A1 d.length d) (hc1 : d.length ≤ c1) (k : Nat) :
  ∀ (path : List Int) (o r : List (List Int)) (vp vo : Value) (W : World), Env w gb go gw s0 (.slice A1 d.length c1) W vo o → Kd.R (Kd.int .i64) 3 W w.heap.size (fun k => some k = vp.ownBlock) vp path → walkF d k path o = some r →
  Calls Try.prog 54 #[vp, .pointer (some ⟨gb, 0, none⟩), .pointer (some ⟨go, 0, none⟩), .pointer (some ⟨gw, 0, none⟩)] W (Post w gb go gw s0 (.slice A1 d.length c1) W r) := by
 induction k with
 | zero => intro path o r vp vo W _ _ h; exact absurd h (by simp [walkF])
 | succ k ih =>
  intro path o r vp vo W hE hP h
  rw [walkF] at h
  split at h
  ·rename_i hg
   obtain ⟨g1, g2, g3, g4⟩ := hg
   obtain ⟨last, hlast⟩ : ∃ q, q = path.getD (path.length - 1) 0 := ⟨_, rfl⟩
   rw [← hlast] at h g3 g4
   obtain ⟨row, hrow⟩ : ∃ q, q = d.getD last.toNat [] := ⟨_, rfl⟩
   rw [← hrow] at h
   obtain ⟨Ap, cp, rfl, hlp, hCp⟩ := Kd.R_reads hP
   obtain ⟨ji, hji⟩ : ∃ q : Int, (path.length : Int) - 1 = q := ⟨_, rfl⟩
   have hjw : IntKind.i64.wrap ((path.length : Int) - 1) = ji := by rw [hji, IntKind.wrap_i64]; omega
   have hjn : ji.toNat = path.length - 1 := by omega
   obtain ⟨adp, ep, hxl⟩ := Kd.at_int hCp ji (by omega) (by omega)
   cases ep
   obtain ⟨ad1, A0, c0, e1, hx1, hl1, hi1⟩ := at_rows hd last g3 (by omega)
   cases e1
   rw [← hrow] at hx1 hl1 hi1
   have HL := Aside0.mk hlast
   have HR := Aside0.mk hrow
   have HE := Aside0.mk hE
   have HP := Aside0.mk hP
   have HC := Aside0.mk hCp
   have H := Aside0.mk h
   have HI := Aside0.mk (show (Kd.int .i64).C w A0 row.length row from hi1)
   have hw1 : W.cell? (ad1.add last.toNat) = some (.slice A0 row.length c0) := (hE.below.cell (World.block_lt_of_cell? w _ hx1)).trans hx1
   have hb0 : W.cell? ⟨gb, 1, none⟩ = some (.slice (some ad1) d.length c1) := (blk_cell hE.bk 1).trans rfl
   have hlv : rd path ji = last := by
    rw [hlast]; unfold rd; rw [hjn]
   rw [hlv] at hxl
   have z0 : (0 ≤ ji) = True := eq_true (by omega)
   have z1 : (ji < (path.length : Int)) = True := eq_true (by omega)
   have z2 : (0 ≤ last) = True := eq_true g3
   have z3 : (last < (d.length : Int)) = True := eq_true g4
   clear hlv hlast hrow hE hP hCp h hi1 hx1 hd hjn hji g3 g4
   go_enter Try.func54, Try.ntmps54
   go_wp2
   clear hw1 hb0 hxl z0 z1 z2 z3 hjw
   go_loopg [20] row.length (fun g v20 wr => ∃ (x : Nat) (o1 : List (List Int)) (vo1 : Value), v20 = .int .i64 (x : Int) ∧ Aside0 (x + g = row.length) ∧ Aside0 (loopF (walkF d k) row path g x o1 = some r) ∧ Aside0 (Env w gb go gw s0 (.slice (some ad1) d.length c1) wr vo1 o1) ∧ Aside0 (Fr W wr))
   case atStart => exact ⟨0, o, vo, rfl, ⟨by omega⟩, H, HE, ⟨Fr.refl _⟩⟩
   case round =>
    clear H HE
    obtain ⟨x, o1, vo1, rfl, HX, H, HE, HF⟩ := hrel
    have hrl : row.length ≤ 9223372036854775807 := HI.out.2.1
    cases gk with
    | zero =>
     have hx : ¬ ((x : Int) < (row.length : Int)) := by have := HX.out; omega
     have hxd := decide_eq_false hx
     have hxd2 : decide (x < row.length) = false := decide_eq_false (by omega)
     obtain rfl : o1 = r := Option.some.inj H.out
     go_wp2
     go_end0
     exact ⟨rfl, vo1, HE.out, HF.out⟩
    | succ g =>
     have hx : x < row.length := by have := HX.out; omega
     have hxd : decide ((x : Int) < (row.length : Int)) = true := decide_eq_true (by omega)
     obtain ⟨adr, er, hxr⟩ := Kd.at_int HI.out (x : Int) (by omega) (by omega)
     cases er
     rw [Int.toNat_natCast] at hxr
     replace hxr := (HE.out.below.cell (World.block_lt_of_cell? w _ hxr)).trans hxr
     rw [rd_nat] at hxr
     have hP1 := row_fr HP.out HF.out
     obtain ⟨_, _, hC1⟩ := Kd.R_reads' hP1
     obtain ⟨adp1, ep, hxp⟩ := Kd.at_int hC1 0 (by omega) (by omega)
     obtain rfl : adp = adp1 := by injection ep
     have HP1 := Aside0.mk hP1
     have HC1 := Aside0.mk hC1
     have h := H.out
     rw [loopF] at h
     clear hP1 hC1 ep H
     obtain ⟨v, hv⟩ : ∃ q, q = row.getD x 0 := ⟨_, rfl⟩
     obtain ⟨p0, hp0⟩ : ∃ q, q = path.getD 0 0 := ⟨_, rfl⟩
     rw [← hv] at h hxr
     rw [← hp0] at h
     rw [show rd path 0 = p0 from hp0.symm] at hxp
     rw [show (0 : Int).toNat = 0 from rfl, Addr.add_zero'] at hxp
     have hxz : (0 ≤ (x : Int)) = True := eq_true (by omega)
     have hxq : ((x : Int) < (row.length : Int)) = True := eq_true (by omega)
     have hxq2 : (x < row.length) = True := eq_true hx
     have hxd2 : decide (x < row.length) = true := decide_eq_true hx
     have hpz : (0 < (path.length : Int)) = True := eq_true (by omega)
     have hpz2 : (0 < path.length) = True := eq_true g1
     clear hv hp0
     by_cases c1 : v = 0
     ·rw [if_pos c1] at h
      have c1b : (v == 0) = true := beq_iff_eq.2 c1
      have H := Aside0.mk h
      clear h c1
      go_wp2
      go_roundg g
      case measure => omega
      case rel => exact ⟨x + 1, o1, vo1, by go_num, ⟨by have := HX.out; omega⟩, ⟨by have := H.out; exact this⟩, HE, HF⟩
     ·rw [if_neg c1] at h
      have c1b : (v == 0) = false := beq_eq_false_iff_ne.2 c1
      clear c1
      by_cases c2 : (x : Int) < p0
      ·rw [if_pos c2] at h
       have c2b : decide ((x : Int) < p0) = true := decide_eq_true c2
       have H := Aside0.mk h
       clear h c2
       go_wp2
       go_roundg g
       case measure => omega
       case rel => exact ⟨x + 1, o1, vo1, by go_num, ⟨by have := HX.out; omega⟩, ⟨by have := H.out; exact this⟩, HE, HF⟩
      ·rw [if_neg c2] at h
       have c2b : decide ((x : Int) < p0) = false := decide_eq_false c2
       clear c2
       by_cases c3 : (x : Int) = p0
       ·rw [if_pos c3] at h
        have c3b : ((x : Int) == p0) = true := beq_iff_eq.2 c3
        clear c3
        by_cases c4 : o1.length < 1000
        ·rw [if_pos c4] at h
         have H := Aside0.mk h
         clear h
         go_wp2
         have hE1 := Aside0.mk (show Env w gb go gw s0 (.slice (some ad1) d.length c1) wr.drew vo1 o1 from HE.out.step (below_drew (Below.refl _ _)))
         have hF1 := Aside0.mk (show Fr W wr.drew from HF.out.trans (Fr.below (below_drew (Below.refl _ _))))
         have hR1 := Aside0.mk (Kd.R_drew HP1.out)
         clear HE HF HP1 HC1 hxr hxp
         have HE1 := hE1
         have HF1 := hF1
         have HR1 := hR1
         clear hE1 hF1 hR1
         refine start_ (n := 7) (S := fun w' => w'.cell? ⟨go, 0, none⟩ = some vo1) (ds := [6]) #[false, false, false, false, false, false, false] (by kernel_rfl) rfl rfl ((blk_cell HE1.out.ok 0).trans rfl) (fun hHeld => ?_)
         generalize wr.drew = w22 at HE1 HF1 HR1 hHeld ⊢
         refine pure_ (i := 2) (N := some 43) (v := ?_) (a' := ?_) #[false, false, true, false, false, false, false] rfl rfl (by kernel_rfl) (fun _ _ _ h => h) (Or.inl ⟨by rfl, ?_⟩) ?_ ?_
         rotate_left
         ·intro w'
          go_simp
          with_reducible rfl
         rotate_left
         ·simp only [Act.put, List.setIfInBounds_toArray, List.set_cons_zero, List.set_cons_succ, i64_w, i32_w]
          rfl
         refine take_ (i := 0) (N := some 41) (v := ?_) (a' := ?_) #[true, false, true, false, false, false, false] rfl rfl (by kernel_rfl) (fun _ _ _ h => h) (Or.inl ⟨by rfl, ?_⟩) hHeld ?_ ?_
         rotate_left
         ·intro w' s0
          go_simp
          with_reducible rfl
         rotate_left
         ·simp only [Act.put, List.setIfInBounds_toArray, List.set_cons_zero, List.set_cons_succ, i64_w, i32_w]
          rfl
         refine one_ (i := 1) (N := some 42) #[true, true, true, false, false, false, false] rfl rfl (by kernel_rfl) (by decide) (fun K hK => ?_)
         refine Kd.R_lit_step (Kd.int .i64) _ 3 ?hg (N := 42) ?hd (xs := ([] : List Int)) (inner := []) (ok := fun _ => True) (okp := fun _ => True) ?hr ?hp (fun _ hk => hk) trivial (Below.refl _ _) (Nat.le_refl _) (by simp) ?_; (case hd => rfl); (case hg => rfl); (case hr => first | (go_simp; done) | (go_simp; rfl)); (case hp => exact (Reps.none _ _))
         intro v42 w23 ho42 hb23 hg_ hnew_
         clear hg_ hnew_
         have HO42 := Aside0.mk ho42
         have HB23 := Aside0.mk hb23
         clear ho42 hb23
         refine hK.out _ _ ((blk_cell (blk_below HE1.out.ok HB23.out) 0).trans rfl) (fun hHeld => ?_)
         clear hK K
         refine norm_ (a' := ?_) ?_ ?_
         rotate_left
         ·show Act.put _ (some 42) _ = _
          simp only [Act.put, List.setIfInBounds_toArray, List.set_cons_zero, List.set_cons_succ, i64_w, i32_w]
          rfl
         refine one_ (i := 3) (N := some 44) #[true, true, true, true, false, false, false] rfl rfl (by kernel_rfl) (by decide) (fun K hK => ?_)
         refine Kd.R_append_rows_step (Kd.int .i64) (w0 := w22) w22.heap.size (by rfl) (.tmp 42) (.tmp 43) 23 3 (.int .i64 0) 8 rfl Try.underlying23 info3 rfl (by decide) (by omega) v42 [] path _ _ _ (fun _ => True) (fun _ => False) rfl rfl ?aO ?aR (fun _ _ h => h) (fun _ h => h.elim) ?aF ?aB ?aS ?aL ?_
         (case aR => exact (Kd.R_reads' (Kd.R_below HR1.out HB23.out)).2.2)
         (case aB => exact HB23.out)
         (case aF => exact fun _ _ => trivial)
         (case aO => exact HO42.out)
         (case aS => exact HB23.out.size)
         (case aL => simp only [List.length_nil]; omega)
         intro v44 w24 ho44 hb24 hg_ hat_
         clear hg_ hat_
         rw [List.nil_append] at ho44
         obtain ⟨Ao, co, eo⟩ := Kd.R_slice ho44
         (first | subst eo | (injection eo with f1_ f2_ f3_; have f4_ := f1_.symm; have f5_ := f3_.symm; clear f1_ f2_ f3_; subst f4_; subst f5_))
         have HO44 := Aside0.mk ho44
         have HB24 := Aside0.mk hb24
         clear ho44 hb24 HO42 HB23
         refine hK.out _ _ ((blk_cell (blk_below HE1.out.ok HB24.out) 0).trans rfl) (fun hHeld => ?_)
         clear hK K
         refine norm_ (a' := ?_) ?_ ?_
         rotate_left
         ·show Act.put _ (some 44) _ = _
          simp only [Act.put, List.setIfInBounds_toArray, List.set_cons_zero, List.set_cons_succ, i64_w, i32_w]
          rfl
         refine one_ (i := 4) (N := some 45) #[true, true, true, true, true, false, false] rfl rfl (by kernel_rfl) (by decide) (fun K hK => ?_)
         refine value_ (w1 := ?_) (v := ?_) (by rfl) rfl ?_ ?_
         rotate_left 2
         ·go_simp
          constructor
          ·rfl
          ·rfl
         refine hK.out _ _ ((blk_cell (blk_alloc (blk_below HE1.out.ok HB24.out) _) 0).trans rfl) (fun hHeld => ?_)
         clear hK K
         refine norm_ (a' := ?_) ?_ ?_
         rotate_left
         ·show Act.put _ (some 45) _ = _
          simp only [Act.put, List.setIfInBounds_toArray, List.set_cons_zero, List.set_cons_succ, i64_w, i32_w]
          rfl
         refine one_ (i := 5) (N := some 46) #[true, true, true, true, true, true, false] rfl rfl (by kernel_rfl) (by decide) (fun K hK => ?_)
         have HT_ := Aside0.mk (told_parts HE1.out HB24.out HO44.out)
         refine Kd.S_append_step (Kd.slice 3 (Kd.int .i64)) (w0 := w) w.heap.size (by rfl) (.tmp 41) (.tmp 45) 24 23 (.slice none 0 0) 24 rfl Try.underlying24 info23 rfl (by decide) (by omega) vo1 o1 path [.slice Ao path.length co] (fun _ => True) (fun k_ => some k_ = (.slice Ao path.length co : Value).ownBlock) rfl rfl HT_.out.1 HT_.out.2.1 (fun _ _ => trivial) HT_.out.2.2.1 HT_.out.2.2.2.1 HT_.out.2.2.2.2 (by omega) ?_
         intro v46 w26 ho46 hb26 hg26 hat_
         clear hat_
         obtain ⟨A46, c46, e46⟩ := Kd.S_slice ho46
         subst e46
         have HN := Aside0.mk (HE1.out.told HB24.out ho46 hb26 hg26)
         have hs26 : w26.cell? ⟨go, 0, none⟩ = some vo1 := (blk_cell (told_blk HE1.out HB24.out hg26) 0).trans rfl
         have hfs26 := blk_frozen (told_blk HE1.out HB24.out hg26) 0
         clear ho46 hb26 hg26 HT_ HO44 HB24
         refine hK.out _ _ (hs26) (fun hHeld => ?_)
         clear hK K
         refine norm_ (a' := ?_) ?_ ?_
         rotate_left
         ·show Act.put _ (some 46) _ = _
          simp only [Act.put, List.setIfInBounds_toArray, List.set_cons_zero, List.set_cons_succ, i64_w, i32_w]
          rfl
         refine last_ (i := 6) (N := none) #[true, true, true, true, true, true, true] rfl rfl (by kernel_rfl) (by decide) (fun K hK => ?_)
         refine skip_ (w1 := ?_) (by rfl) rfl ?_ ?_
         rotate_left
         ·go_simp
          rfl
         refine hK.out _ _ ?_
         clear hK K
         refine done_ (by kernel_rfl) ?_
         go_wp2
         simp only [List.length_append, List.length_cons, List.length_nil, Nat.zero_add] at HN
         go_roundg g
         case measure => omega
         case rel => exact ⟨x + 1, o1 ++ [path], _, by go_num, ⟨by have := HX.out; omega⟩, ⟨by have := H.out; exact this⟩, ⟨HN.out.1⟩, ⟨HF1.out.trans HN.out.2⟩⟩
        ·rw [if_neg c4] at h; exact absurd h (by simp)
       ·rw [if_neg c3] at h
        have c3b : ((x : Int) == p0) = false := beq_eq_false_iff_ne.2 c3
        clear c3
        by_cases c5 : (x : Int) ∈ path
        ·rw [if_pos c5] at h
         have H := Aside0.mk h
         have c5b := decide_eq_true c5
         clear h c5
         go_wp2_with (go_at_call 34; refine (contains_calls HC1.out (by assumption) (by omega) _ true c5b).mono ?_; rintro e w' ⟨rfl, ⟨nd, rfl⟩⟩)
         go_roundg g
         case measure => omega
         case rel => exact ⟨x + 1, o1, vo1, by go_num, ⟨by have := HX.out; omega⟩, ⟨by have := H.out; exact this⟩, ⟨HE.out.drewN _⟩, ⟨HF.out.trans (Fr.below (pw_below_drewN (Below.refl _ _) _))⟩⟩
        ·rw [if_neg c5] at h
         have c5b := decide_eq_false c5
         clear c5
         replace h := Option.bind_eq_some_iff.mp h
         obtain ⟨o2, h1, h2⟩ := h
         have H1 := Aside0.mk h1
         have H := Aside0.mk h2
         clear h1 h2
         go_wp2_with (go_at_call 34; refine (contains_calls HC1.out (by assumption) (by omega) _ false c5b).mono ?_; rintro e w' ⟨rfl, ⟨nd, rfl⟩⟩)
         have hE1 := Aside0.mk (HE.out.step (below_drew (pw_below_drewN (Below.refl _ _) nd)))
         have hF1 := Aside0.mk (HF.out.trans (Fr.below (below_drew (pw_below_drewN (Below.refl _ _) nd))))
         have hR1 := Aside0.mk (Kd.R_below HP1.out (below_drew (pw_below_drewN (Below.refl _ _) nd)))
         clear HE HF HP1 HC1 hxr hxp
         have HE1 := hE1
         have HF1 := hF1
         have HR1 := hR1
         clear hE1 hF1 hR1
         refine start_ (n := 8) (S := fun w' => w'.cell? ⟨gw, 0, none⟩ = some (fv gb go gw)) (ds := []) #[false, false, false, false, false, false, false, false] (by kernel_rfl) rfl rfl ((blk_cell HE1.out.wk 0).trans rfl) (fun hHeld => ?_)
         generalize (wr.drewN nd).drew = w22 at HE1 HF1 HR1 hHeld ⊢
         have HB : Aside0 (Below w22.heap.size w22 w22) := ⟨Below.refl _ _⟩
         refine pure_ (i := 2) (N := some 54) (v := ?_) (a' := ?_) #[false, false, true, false, false, false, false, false] rfl rfl (by kernel_rfl) (fun _ _ _ h => h) (Or.inl ⟨by rfl, ?_⟩) ?_ ?_
         rotate_left
         ·intro w'
          go_simp
          with_reducible rfl
         rotate_left
         ·simp only [Act.put, List.setIfInBounds_toArray, List.set_cons_zero, List.set_cons_succ, i64_w, i32_w]
          rfl
         refine pure_ (i := 4) (N := some 56) (v := ?_) (a' := ?_) #[false, false, true, false, true, false, false, false] rfl rfl (by kernel_rfl) (fun _ _ _ h => h) (Or.inl ⟨by rfl, ?_⟩) ?_ ?_
         rotate_left
         ·intro w'
          go_simp
          with_reducible rfl
         rotate_left
         ·simp only [Act.put, List.setIfInBounds_toArray, List.set_cons_zero, List.set_cons_succ, i64_w, i32_w]
          rfl
         refine take_ (i := 0) (N := some 52) (v := ?_) (a' := ?_) #[true, false, true, false, true, false, false, false] rfl rfl (by kernel_rfl) (fun _ _ _ h => h) (Or.inl ⟨by rfl, ?_⟩) hHeld ?_ ?_
         rotate_left
         ·intro w' s0
          go_simp
          with_reducible rfl
         rotate_left
         ·simp only [Act.put, List.setIfInBounds_toArray, List.set_cons_zero, List.set_cons_succ, i64_w, i32_w]
          rfl
         refine join_ (σ := Value × Value × Value) 2 #[true, true, true, true, true, true, false, false] (fun s_ => [(53, s_.1), (55, s_.2.1), (57, s_.2.2)]) (fun s_ w' => (w'.cell? ⟨gw, 0, none⟩ = some (fv gb go gw)) ∧ Kd.R (Kd.int .i64) 3 w' w22.heap.size (fun _ => True) s_.2.1 path ∧ Kd.R (Kd.int .i64) 3 w' w22.heap.size (fun k_ => True ∧ some k_ ≠ s_.2.1.ownBlock) s_.2.2 [(x : Int)] ∧ Below w22.heap.size w22 w') ?_ ?_
         rotate_left
         ·intro hCont
          refine two_ (i := 1) (j := 5) (Ni := some 53) (Nj := some 57) #[true, true, true, false, true, false, false, false] #[true, false, true, false, true, true, false, false] rfl rfl rfl rfl (by kernel_rfl) (by decide) (by decide) (fun K hK => ?_) (fun K hK => ?_)
          ·skip
           refine Kd.R_lit_step (Kd.int .i64) _ 3 ?hg (N := 53) ?hd (xs := ([] : List Int)) (inner := []) (ok := fun _ => True) (okp := fun _ => True) ?hr ?hp (fun _ hk => hk) trivial (Below.refl _ _) (Nat.le_refl _) (by simp) ?_; (case hd => rfl); (case hg => rfl); (case hr => first | (go_simp; done) | (go_simp; rfl)); (case hp => exact (Reps.none _ _))
           intro v53 wq1 ho hb hg_ hnew_
           clear hg_ hnew_
           have n0_ := Aside0.mk (Kd.R_lower ho HB.out.size)
           have n1_ := Aside0.mk (below_then HB.out HB.out.size hb)
           clear HB ho hb
           have HO53 := n0_
           have HB := n1_
           clear n0_ n1_
           refine hK.out _ _ ((blk_cell (blk_below HE1.out.wk HB.out) 0).trans rfl) (fun hHeld => ?_)
           clear hK K
           refine norm_ (a' := ?_) ?_ ?_
           rotate_left
           ·show Act.put _ (some 53) _ = _
            simp only [Act.put, List.setIfInBounds_toArray, List.set_cons_zero, List.set_cons_succ, i64_w, i32_w]
            rfl
           refine two_ (i := 3) (j := 5) (Ni := some 55) (Nj := some 57) #[true, true, true, true, true, false, false, false] #[true, true, true, false, true, true, false, false] rfl rfl rfl rfl (by kernel_rfl) (by decide) (by decide) (fun K hK => ?_) (fun K hK => ?_)
           ·skip
            refine Kd.R_append_rows_step (Kd.int .i64) (w0 := w22) w22.heap.size (by rfl) (.tmp 53) (.tmp 54) 23 3 (.int .i64 0) 8 rfl Try.underlying23 info3 rfl (by decide) (by omega) v53 [] path _ _ _ (fun _ => True) (fun _ => False) rfl rfl ?aO ?aR (fun _ _ h => h) (fun _ h => h.elim) ?aF ?aB ?aS ?aL ?_
            (case aR => exact (Kd.R_reads' (Kd.R_below HR1.out HB.out)).2.2)
            (case aB => exact HB.out)
            (case aF => exact fun _ _ => trivial)
            (case aO => exact HO53.out)
            (case aS => exact HB.out.size)
            (case aL => simp only [List.length_nil]; omega)
            intro v55 wq13 ho hb hg hat
            rw [List.nil_append] at ho
            have n0_ := Aside0.mk ho
            have n1_ := Aside0.mk hb
            clear HB HO53 ho hb hg hat
            have HO55 := n0_
            have HB := n1_
            clear n0_ n1_
            refine hK.out _ _ ((blk_cell (blk_below HE1.out.wk HB.out) 0).trans rfl) (fun hHeld => ?_)
            clear hK K
            refine norm_ (a' := ?_) ?_ ?_
            rotate_left
            ·show Act.put _ (some 55) _ = _
             simp only [Act.put, List.setIfInBounds_toArray, List.set_cons_zero, List.set_cons_succ, i64_w, i32_w]
             rfl
            refine one_ (i := 5) (N := some 57) #[true, true, true, true, true, true, false, false] rfl rfl (by kernel_rfl) (by decide) (fun K hK => ?_)
            refine Kd.R_lit_step (Kd.int .i64) _ 3 ?hg (N := 57) ?hd (xs := ([(x : Int)] : List Int)) (inner := [.int .i64 (x : Int)]) (ok := fun _ => True) (okp := fun _ => True) ?hr ?hp (fun _ hk => hk) trivial (Below.refl _ _) (Nat.le_refl _) (by simp) ?_; (case hd => rfl); (case hg => rfl); (case hr => first | (go_simp; done) | (go_simp; rfl)); (case hp => exact (Reps.one (show Kd.M (Kd.int .i64) _ _ _ (x : Int) [.int .i64 (x : Int)] from rfl) (Reps.none _ _)))
            intro v57 wq135 ho hb hg_ hnew_
            clear hg_ hnew_
            have n1_ := Aside0.mk (below_then HB.out HB.out.size hb)
            have n0_ : Aside0 (Kd.R (Kd.int .i64) 3 wq135 w22.heap.size (fun k_ => True ∧ some k_ ≠ v55.ownBlock) v57 [(x : Int)]) := ⟨Kd.R_lower (Kd.R_new' ho (Kd.R_lt HO55.out)) HB.out.size⟩
            have n2_ := Aside0.mk (Kd.R_below HO55.out hb)
            clear HO55
            have HO55 := n2_
            clear n2_
            clear HB ho hb
            have HO57 := n0_
            have HB := n1_
            clear n0_ n1_
            refine hK.out _ _ ((blk_cell (blk_below HE1.out.wk HB.out) 0).trans rfl) (fun hHeld => ?_)
            clear hK K
            refine norm_ (a' := ?_) ?_ ?_
            rotate_left
            ·show Act.put _ (some 57) _ = _
             simp only [Act.put, List.setIfInBounds_toArray, List.set_cons_zero, List.set_cons_succ, i64_w, i32_w]
             rfl
            exact norm_ (by simp only [putAll, Act.put, List.setIfInBounds_toArray, List.set_cons_zero, List.set_cons_succ]) (hCont (v53, v55, v57) _ ⟨hHeld, HO55.out, HO57.out, HB.out⟩)
           ·skip
            refine Kd.R_lit_step (Kd.int .i64) _ 3 ?hg (N := 57) ?hd (xs := ([(x : Int)] : List Int)) (inner := [.int .i64 (x : Int)]) (ok := fun _ => True) (okp := fun _ => True) ?hr ?hp (fun _ hk => hk) trivial (Below.refl _ _) (Nat.le_refl _) (by simp) ?_; (case hd => rfl); (case hg => rfl); (case hr => first | (go_simp; done) | (go_simp; rfl)); (case hp => exact (Reps.one (show Kd.M (Kd.int .i64) _ _ _ (x : Int) [.int .i64 (x : Int)] from rfl) (Reps.none _ _)))
            intro v57 wq15 ho hb hg_ hnew_
            clear hg_ hnew_
            have n1_ := Aside0.mk (below_then HB.out HB.out.size hb)
            have n0_ : Aside0 (Kd.R (Kd.int .i64) 3 wq15 w22.heap.size (fun k_ => True ∧ some k_ ≠ v53.ownBlock) v57 [(x : Int)]) := ⟨Kd.R_lower (Kd.R_new' ho (Kd.R_lt HO53.out)) HB.out.size⟩
            have n2_ := Aside0.mk (Kd.R_below HO53.out hb)
            clear HO53
            have HO53 := n2_
            clear n2_
            clear HB ho hb
            have HO57 := n0_
            have HB := n1_
            clear n0_ n1_
            refine hK.out _ _ ((blk_cell (blk_below HE1.out.wk HB.out) 0).trans rfl) (fun hHeld => ?_)
            clear hK K
            refine norm_ (a' := ?_) ?_ ?_
            rotate_left
            ·show Act.put _ (some 57) _ = _
             simp only [Act.put, List.setIfInBounds_toArray, List.set_cons_zero, List.set_cons_succ, i64_w, i32_w]
             rfl
            refine one_ (i := 3) (N := some 55) #[true, true, true, true, true, true, false, false] rfl rfl (by kernel_rfl) (by decide) (fun K hK => ?_)
            refine Kd.R_append_rows_step (Kd.int .i64) (w0 := w22) w22.heap.size (by rfl) (.tmp 53) (.tmp 54) 23 3 (.int .i64 0) 8 rfl Try.underlying23 info3 rfl (by decide) (by omega) v53 [] path _ _ _ (fun _ => True) (fun _ => False) rfl rfl ?aO ?aR (fun _ _ h => h) (fun _ h => h.elim) ?aF ?aB ?aS ?aL ?_
            (case aR => exact (Kd.R_reads' (Kd.R_below HR1.out HB.out)).2.2)
            (case aB => exact HB.out)
            (case aF => exact fun _ _ => trivial)
            (case aO => exact HO53.out)
            (case aS => exact HB.out.size)
            (case aL => simp only [List.length_nil]; omega)
            intro v55 wq153 ho hb hg hat
            rw [List.nil_append] at ho
            have n0_ := Aside0.mk ho
            have n1_ := Aside0.mk hb
            have n2_ := Aside0.mk (Kd.R_after HO57.out hg hat)
            clear HO57
            have HO57 := n2_
            clear n2_
            clear HB HO53 ho hb hg hat
            have HO55 := n0_
            have HB := n1_
            clear n0_ n1_
            refine hK.out _ _ ((blk_cell (blk_below HE1.out.wk HB.out) 0).trans rfl) (fun hHeld => ?_)
            clear hK K
            refine norm_ (a' := ?_) ?_ ?_
            rotate_left
            ·show Act.put _ (some 55) _ = _
             simp only [Act.put, List.setIfInBounds_toArray, List.set_cons_zero, List.set_cons_succ, i64_w, i32_w]
             rfl
            exact norm_ (by simp only [putAll, Act.put, List.setIfInBounds_toArray, List.set_cons_zero, List.set_cons_succ]) (hCont (v53, v55, v57) _ ⟨hHeld, HO55.out, HO57.out, HB.out⟩)
          ·skip
           refine Kd.R_lit_step (Kd.int .i64) _ 3 ?hg (N := 57) ?hd (xs := ([(x : Int)] : List Int)) (inner := [.int .i64 (x : Int)]) (ok := fun _ => True) (okp := fun _ => True) ?hr ?hp (fun _ hk => hk) trivial (Below.refl _ _) (Nat.le_refl _) (by simp) ?_; (case hd => rfl); (case hg => rfl); (case hr => first | (go_simp; done) | (go_simp; rfl)); (case hp => exact (Reps.one (show Kd.M (Kd.int .i64) _ _ _ (x : Int) [.int .i64 (x : Int)] from rfl) (Reps.none _ _)))
           intro v57 wq5 ho hb hg_ hnew_
           clear hg_ hnew_
           have n1_ := Aside0.mk (below_then HB.out HB.out.size hb)
           have n0_ := Aside0.mk (Kd.R_lower ho HB.out.size)
           clear HB ho hb
           have HO57 := n0_
           have HB := n1_
           clear n0_ n1_
           refine hK.out _ _ ((blk_cell (blk_below HE1.out.wk HB.out) 0).trans rfl) (fun hHeld => ?_)
           clear hK K
           refine norm_ (a' := ?_) ?_ ?_
           rotate_left
           ·show Act.put _ (some 57) _ = _
            simp only [Act.put, List.setIfInBounds_toArray, List.set_cons_zero, List.set_cons_succ, i64_w, i32_w]
            rfl
           refine one_ (i := 1) (N := some 53) #[true, true, true, false, true, true, false, false] rfl rfl (by kernel_rfl) (by decide) (fun K hK => ?_)
           refine Kd.R_lit_step (Kd.int .i64) _ 3 ?hg (N := 53) ?hd (xs := ([] : List Int)) (inner := []) (ok := fun _ => True) (okp := fun _ => True) ?hr ?hp (fun _ hk => hk) trivial (Below.refl _ _) (Nat.le_refl _) (by simp) ?_; (case hd => rfl); (case hg => rfl); (case hr => first | (go_simp; done) | (go_simp; rfl)); (case hp => exact (Reps.none _ _))
           intro v53 wq51 ho hb hg_ hnew_
           clear hg_ hnew_
           have n0_ := Aside0.mk (Kd.R_lower ho HB.out.size)
           have n1_ := Aside0.mk (below_then HB.out HB.out.size hb)
           have n2_ : Aside0 (Kd.R (Kd.int .i64) 3 wq51 w22.heap.size (fun k_ => True ∧ some k_ ≠ v53.ownBlock) v57 [(x : Int)]) := ⟨Kd.R_mono (Kd.R_elder' HO57.out (Kd.R_base ho) hb) (fun _ hk => ⟨trivial, hk.2⟩)⟩
           clear HO57
           have HO57 := n2_
           clear n2_
           clear HB ho hb
           have HO53 := n0_
           have HB := n1_
           clear n0_ n1_
           refine hK.out _ _ ((blk_cell (blk_below HE1.out.wk HB.out) 0).trans rfl) (fun hHeld => ?_)
           clear hK K
           refine norm_ (a' := ?_) ?_ ?_
           rotate_left
           ·show Act.put _ (some 53) _ = _
            simp only [Act.put, List.setIfInBounds_toArray, List.set_cons_zero, List.set_cons_succ, i64_w, i32_w]
            rfl
           refine one_ (i := 3) (N := some 55) #[true, true, true, true, true, true, false, false] rfl rfl (by kernel_rfl) (by decide) (fun K hK => ?_)
           refine Kd.R_append_rows_step (Kd.int .i64) (w0 := w22) w22.heap.size (by rfl) (.tmp 53) (.tmp 54) 23 3 (.int .i64 0) 8 rfl Try.underlying23 info3 rfl (by decide) (by omega) v53 [] path _ _ _ (fun _ => True) (fun _ => False) rfl rfl ?aO ?aR (fun _ _ h => h) (fun _ h => h.elim) ?aF ?aB ?aS ?aL ?_
           (case aR => exact (Kd.R_reads' (Kd.R_below HR1.out HB.out)).2.2)
           (case aB => exact HB.out)
           (case aF => exact fun _ _ => trivial)
           (case aO => exact HO53.out)
           (case aS => exact HB.out.size)
           (case aL => simp only [List.length_nil]; omega)
           intro v55 wq513 ho hb hg hat
           rw [List.nil_append] at ho
           have n0_ := Aside0.mk ho
           have n1_ := Aside0.mk hb
           have n2_ := Aside0.mk (Kd.R_after HO57.out hg hat)
           clear HO57
           have HO57 := n2_
           clear n2_
           clear HB HO53 ho hb hg hat
           have HO55 := n0_
           have HB := n1_
           clear n0_ n1_
           refine hK.out _ _ ((blk_cell (blk_below HE1.out.wk HB.out) 0).trans rfl) (fun hHeld => ?_)
           clear hK K
           refine norm_ (a' := ?_) ?_ ?_
           rotate_left
           ·show Act.put _ (some 55) _ = _
            simp only [Act.put, List.setIfInBounds_toArray, List.set_cons_zero, List.set_cons_succ, i64_w, i32_w]
            rfl
           exact norm_ (by simp only [putAll, Act.put, List.setIfInBounds_toArray, List.set_cons_zero, List.set_cons_succ]) (hCont (v53, v55, v57) _ ⟨hHeld, HO55.out, HO57.out, HB.out⟩)
         rintro ⟨v53, v55, v57⟩ w28 ⟨hS_, h0_, h1_, h2_⟩
         have HO55 : Aside0 (Kd.R (Kd.int .i64) 3 w28 w22.heap.size (fun _ => True) v55 path) := ⟨h0_⟩
         have HO57 : Aside0 (Kd.R (Kd.int .i64) 3 w28 w22.heap.size (fun k_ => True ∧ some k_ ≠ v55.ownBlock) v57 [(x : Int)]) := ⟨h1_⟩
         clear HB
         have HB : Aside0 (Below w22.heap.size w22 w28) := ⟨h2_⟩
         have hHeld : w28.cell? ⟨gw, 0, none⟩ = some (fv gb go gw) := hS_
         clear h0_ h1_ h2_ hS_
         obtain ⟨A57, c57, e57⟩ := Kd.R_slice HO57.out
         subst e57
         refine norm_ (a' := ?_) ?_ ?_
         rotate_left
         ·simp only [putAll, Act.put, List.setIfInBounds_toArray, List.set_cons_zero, List.set_cons_succ]
          rfl
         refine one_ (i := 6) (N := some 58) #[true, true, true, true, true, true, true, false] rfl rfl (by kernel_rfl) (by decide) (fun K hK => ?_)
         refine Kd.R_append_rows_step (Kd.int .i64) (w0 := w22) w22.heap.size (by rfl) (.tmp 55) (.tmp 57) 23 3 (.int .i64 0) 8 rfl Try.underlying23 info3 rfl (by decide) (by omega) v55 path [(x : Int)] _ _ _ (fun _ => True) (fun _ => False) rfl rfl ?aO ?aR (fun _ _ h => h) (fun _ h => h.elim) ?aF ?aB ?aS ?aL ?_
         (case aR => exact (Kd.R_reads' HO57.out).2.2)
         (case aB => exact HB.out)
         (case aF => exact fun _ _ => trivial)
         (case aO => exact HO55.out)
         (case aS => exact HB.out.size)
         (case aL => simp only [List.length_cons, List.length_nil]; omega)
         intro v58 w29 ho hb hg_ hat_
         clear hg_ hat_ HB HO55 HO57
         have HO58 := Aside0.mk ho
         have HB := Aside0.mk hb
         clear ho hb
         refine hK.out _ _ ((blk_cell (blk_below HE1.out.wk HB.out) 0).trans rfl) (fun hHeld => ?_)
         clear hK K
         refine norm_ (a' := ?_) ?_ ?_
         rotate_left
         ·show Act.put _ (some 58) _ = _
          simp only [Act.put, List.setIfInBounds_toArray, List.set_cons_zero, List.set_cons_succ, i64_w, i32_w]
          rfl
         refine one_ (i := 7) (N := some 59) #[true, true, true, true, true, true, true, true] rfl rfl (by kernel_rfl) (by decide) (fun K hK => ?_)
         refine goesV_ Try.func54 (by kernel_rfl) rfl #[v58, .pointer (some ⟨gb, 0, none⟩), .pointer (some ⟨go, 0, none⟩), .pointer (some ⟨gw, 0, none⟩)] (by rfl) rfl rfl rfl (by (try simp only [List.map_toArray, List.map_cons, List.map_nil]); first | done | rfl) ?_
         with_reducible refine (ih (path ++ [(x : Int)]) o1 o2 v58 vo1 _ (HE1.out.step HB.out) (row_lower HE1.out HB.out HO58.out) H1.out).mono ?_
         rintro e w30 ⟨rfl, vo2, hE2, hF2⟩
         refine ⟨_, rfl, ?_⟩
         have HE2 := Aside0.mk hE2
         have HF2 := Aside0.mk (HF1.out.trans ((Fr.below HB.out).trans hF2))
         clear hE2 hF2 HE1 HB HO58
         refine hK.out _ _ ((blk_cell HE2.out.wk 0).trans rfl) (fun hHeld => ?_)
         clear hK K
         refine norm_ (a' := ?_) ?_ ?_
         rotate_left
         ·show Act.put _ (some 59) _ = _
          simp only [Act.put, List.setIfInBounds_toArray, List.set_cons_zero, List.set_cons_succ, i64_w, i32_w]
          rfl
         refine done_ (by kernel_rfl) ?_
         go_wp2
         go_roundg g
         case measure => omega
         case rel => exact ⟨x + 1, o2, vo2, by go_num, ⟨by have := HX.out; omega⟩, H, HE2, HF2⟩
  ·exact absurd h (by simp)
end Go.Proofs.Ythdncdfgonbfeaa.Circ
