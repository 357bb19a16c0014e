/- Two rows of a list of rows are exchanged; the order of rows as the program compares them, and the insertion sort as plain functions; no condition. -/
import Derived.Test.YthdncdfgonbfeaaECirc0
namespace Go.Proofs.Ythdncdfgonbfeaa.Circ
open Go.RowKit Go.Proofs.Ythdncdfgonbfeaa.QWalk Go.Proofs.YthdncdfgonbfeaaW.PrintWords Go.Proofs.YthdncdfgonbfeaaW.PrintLast Go.Proofs.YthdncdfgonbfeaaW.PrintMore
set_option linter.unusedVariables false
set_option linter.unusedSimpArgs false
theorem set_getD {α : Type} (xs : List α) (i q : Nat) (a z : α) (hi : i < xs.length) : (xs.set i a).getD q z = if q = i then a else xs.getD q z := by
 rw [List.getD_eq_getElem?_getD, List.getD_eq_getElem?_getD, List.getElem?_set]
 by_cases h : i = q
 ·subst h; rw [if_pos rfl, if_pos rfl, if_pos hi]; rfl
 ·rw [if_neg h, if_neg (fun e => h e.symm)]
theorem one_cell {cs : List Value} {j : Nat} (h : j < cs.length) : (cs.drop (j * 1)).take 1 = [cs.getD j undef] := by
 rw [Nat.mul_one, List.drop_eq_getElem_cons h, List.getD_eq_getElem?_getD, List.getElem?_eq_getElem h]; rfl
/-- Rows i and j change their places. -/
def swp {α : Type} (xs : List α) (i j : Nat) (z : α) : List α := (xs.set i (xs.getD j z)).set j (xs.getD i z)
theorem swp_len {α : Type} (xs : List α) (i j : Nat) (z : α) : (swp xs i j z).length = xs.length := by simp [swp]
theorem swp_get {α : Type} (xs : List α) (i j q : Nat) (z y : α) (hi : i < xs.length) (hj : j < xs.length) : (swp xs i j z).getD q y = if q = j then xs.getD i z else if q = i then xs.getD j z else xs.getD q y := by
 unfold swp
 rw [set_getD _ _ _ _ _ (by simpa using hj), set_getD _ _ _ _ _ hi]
theorem S_swap {α : Type} {d : Kd α} (hsz : d.sz = 1) (z : α) {e base g n cap : Nat} {ok : Nat → Prop} {W : World} {xs : List α} (h : Kd.S d e W base ok (.slice (some ⟨g, 0, none⟩) n cap) xs) {i j : Nat} (hi : i < n) (hj : j < n) (hij : i ≠ j) :
  ∃ ui uj : Value, W.cell? ⟨g, i, none⟩ = some ui ∧ W.cell? ⟨g, j, none⟩ = some uj ∧ W.frozen? ⟨g, i, none⟩ = false ∧ W.frozen? ⟨g, j, none⟩ = false ∧ d.K W (xs.getD i z) [ui] ∧ d.K W (xs.getD j z) [uj] ∧
   Kd.S d e ((W.setCell ⟨g, i, none⟩ uj).setCell ⟨g, j, none⟩ ui) base ok (.slice (some ⟨g, 0, none⟩) n cap) (swp xs i j z) ∧ W.grownBy ((W.setCell ⟨g, i, none⟩ uj).setCell ⟨g, j, none⟩ ui) (some g) := by
 have hn := (Kd.S_reads' h).1
 obtain ⟨f, h0, inner, ho, hr⟩ := h
 have hr' : Reps ((Kd.tag f d).M W base (fun k => ok k ∧ some k ≠ (Value.slice (some ⟨g, 0, none⟩) n cap).ownBlock)) d.sz xs.zipIdx inner := hr
 have ho' : W.ownsRow base e d.sz (.slice (some ⟨g, 0, none⟩) n cap) n inner := by rw [List.length_zipIdx, ← hn] at ho; exact ho
 rw [hsz] at hr' ho'
 have hl : inner.length = xs.length := by have := hr'.1; rw [List.length_zipIdx, Nat.mul_one] at this; exact this
 have at_ : ∀ q (hq : q < xs.length), (Kd.tag f d).M W base (fun k => ok k ∧ some k ≠ (Value.slice (some ⟨g, 0, none⟩) n cap).ownBlock) (xs.getD q z, q) [inner.getD q undef] := fun q hq => by
  have := hr'.2 q (xs.getD q z, q) (Kd.zip_at (by rw [List.getD_eq_getElem?_getD, List.getElem?_eq_getElem hq]; rfl))
  rw [one_cell (by omega)] at this
  exact this
 have ci : W.cell? ⟨g, i, none⟩ = some (inner.getD i undef) := by
  have := ho'.cells (g := g) rfl i (inner.getD i undef) (by rw [List.getD_eq_getElem?_getD, List.getElem?_eq_getElem (by omega)]; rfl)
  rw [add_plain] at this; exact this
 have cj : W.cell? ⟨g, j, none⟩ = some (inner.getD j undef) := by
  have := ho'.cells (g := g) rfl j (inner.getD j undef) (by rw [List.getD_eq_getElem?_getD, List.getElem?_eq_getElem (by omega)]; rfl)
  rw [add_plain] at this; exact this
 obtain ⟨o1, g1⟩ := ho'.stored i (inner.getD j undef)
 obtain ⟨o2, g2⟩ := o1.stored j (inner.getD i undef)
 have hg := World.grownBy.trans g1 g2
 refine ⟨inner.getD i undef, inner.getD j undef, ci, cj, ho'.frozenAt i, ho'.frozenAt j, d.K_of_M (at_ i (by omega)), d.K_of_M (at_ j (by omega)), ⟨fun k => if f k = i then j else if f k = j then i else f k, h0, swp inner i j undef, ?_, ?_⟩, hg⟩
 ·rw [List.length_zipIdx, swp_len, ← hn, show (Kd.tag _ d).sz = 1 from hsz]
  exact o2
 ·have hmove : ∀ k, some k ≠ (Value.slice (some (⟨g, 0, none⟩ : Addr)) n cap).ownBlock → k < W.heap.size → ((W.setCell ⟨g, i, none⟩ (inner.getD j undef)).setCell ⟨g, j, none⟩ (inner.getD i undef)).heap[k]? = W.heap[k]? := fun k hk hlt => hg.block k hlt (fun e_ => hk (by rw [e_]; rfl))
  refine ⟨by rw [List.length_zipIdx, swp_len, swp_len, show (Kd.tag _ d).sz = 1 from hsz]; omega, fun q p hq => ?_⟩
  rw [List.getElem?_zipIdx, Nat.zero_add] at hq
  obtain ⟨x, hx, rfl⟩ := Option.map_eq_some_iff.1 hq
  have hql : q < xs.length := by have := (List.getElem?_eq_some_iff.1 hx).1; rw [swp_len] at this; exact this
  have hx' : x = (swp xs i j z).getD q z := by rw [List.getD_eq_getElem?_getD, hx]; rfl
  show (Kd.tag _ d).M _ _ _ (x, q) (((swp inner i j undef).drop (q * d.sz)).take d.sz)
  rw [hsz, one_cell (by rw [swp_len]; omega), hx', swp_get _ _ _ _ _ _ (by omega) (by omega), swp_get _ _ _ _ _ _ (by omega) (by omega)]
  have fin : ∀ p0, p0 < xs.length → (∀ k, f k = p0 → (if f k = i then j else if f k = j then i else f k) = q) → (Kd.tag (fun k => if f k = i then j else if f k = j then i else f k) d).M ((W.setCell ⟨g, i, none⟩ (inner.getD j undef)).setCell ⟨g, j, none⟩ (inner.getD i undef)) base (fun k => ok k ∧ some k ≠ (Value.slice (some (⟨g, 0, none⟩ : Addr)) n cap).ownBlock) (xs.getD p0 z, q) [inner.getD p0 undef] := fun p0 hp0 hf => by
   have h1 := d.M_bound (at_ p0 hp0)
   refine d.M_mono (fun k hk => ?_) (d.M_move (fun k hk => hmove k hk.1.1.2 hk.2.2.1) h1)
   exact ⟨hk.1.1, hf k hk.1.2⟩
  by_cases e1 : q = j
  ·rw [if_pos e1, if_pos e1]
   exact fin i (by omega) (fun k hk => by rw [if_pos hk, e1])
  ·rw [if_neg e1, if_neg e1]
   by_cases e2 : q = i
   ·rw [if_pos e2, if_pos e2]
    exact fin j (by omega) (fun k hk => by rw [if_neg (by omega), if_pos hk, e2])
   ·rw [if_neg e2, if_neg e2]
    exact fin q hql (fun k hk => by rw [if_neg (by omega), if_neg (by omega), hk])
/-- The lesser number at the first difference first. -/
def lexI : List Int → List Int → Bool
 | x :: xs, y :: ys => if x = y then lexI xs ys else decide (x < y)
 | _, _ => false
/-- Shorter rows first, then by their numbers. -/
def befI (a b : List Int) : Bool := if a.length = b.length then lexI a b else decide (a.length < b.length)
/-- The row at j goes down to its place. -/
def sinkI : Nat → List (List Int) → List (List Int)
 | 0, xs => xs
 | j + 1, xs => if befI (xs.getD (j + 1) []) (xs.getD j []) = true then sinkI j (swp xs (j + 1) j []) else xs
/-- The insertion sort, from k on; m rows are left. -/
def sortI : Nat → Nat → List (List Int) → List (List Int)
 | 0, _, xs => xs
 | m + 1, k, xs => sortI m (k + 1) (sinkI k xs)
theorem sinkI_len : ∀ j xs, (sinkI j xs).length = xs.length
 | 0, xs => rfl
 | j + 1, xs => by
  rw [sinkI]
  split
  ·rw [sinkI_len, swp_len]
  ·rfl
theorem cmpc (a b : Int) : QCmp.cmp_Compare_int.f a b = some (if a < b then -1 else if a > b then 1 else 0) := by
 unfold QCmp.cmp_Compare_int.f QCmp.cmp_isNaN_int.f
 simp only [Option.bind_some, bne_self_eq_false, Bool.false_eq_true, if_false]
 split
 ·rfl
 ·split <;> rfl
theorem lexI_drop (a b : List Int) (i : Nat) (ha : i < a.length) (hb : i < b.length) : lexI (a.drop i) (b.drop i) = if a.getD i 0 = b.getD i 0 then lexI (a.drop (i + 1)) (b.drop (i + 1)) else decide (a.getD i 0 < b.getD i 0) := by
 rw [List.drop_eq_getElem_cons ha, List.drop_eq_getElem_cons hb, lexI, List.getD_eq_getElem?_getD, List.getD_eq_getElem?_getD, List.getElem?_eq_getElem ha, List.getElem?_eq_getElem hb]; rfl
theorem cmpRow_l0 (a b : List Int) (hl : a.length ≤ 1000) (he : a.length = b.length) : ∀ (m i : Nat), i + m = a.length → ∃ r : Int, Ev (fun k => QCmp.slices_Compare_int_int.l0 k a b a (a.length : Int) (i : Int)) r ∧ decide (r < 0) = lexI (a.drop i) (b.drop i)
 | 0, i, h => by
  refine ⟨0, Ev.step (fun k => by rw [QCmp.slices_Compare_int_int.l0]) (evNeg (by omega) (evNeg (by omega) (Ev.now _))), ?_⟩
  rw [List.drop_eq_nil_of_le (by omega)]; rfl
 | m + 1, i, h => by
  have hd := lexI_drop a b i (by omega) (by omega)
  have hc : Ev (fun _ : Nat => QCmp.cmp_Compare_int.f (rd a (i : Int)) (rd b (i : Int))) (if a.getD i 0 < b.getD i 0 then -1 else if a.getD i 0 > b.getD i 0 then 1 else 0) := by
   rw [rd_nat, rd_nat]; exact Ev.congr (fun _ => cmpc _ _) (Ev.now _)
  have st : ∀ r : Int, Ev (fun k => if (if a.getD i 0 < b.getD i 0 then (-1 : Int) else if a.getD i 0 > b.getD i 0 then 1 else 0) = 0 then QCmp.slices_Compare_int_int.l0 k a b a (a.length : Int) (wrap64 ((i : Int) + 1)) else some (if a.getD i 0 < b.getD i 0 then (-1 : Int) else if a.getD i 0 > b.getD i 0 then 1 else 0)) r → Ev (fun k => QCmp.slices_Compare_int_int.l0 k a b a (a.length : Int) (i : Int)) r := fun r hr =>
   Ev.step (fun k => by rw [QCmp.slices_Compare_int_int.l0]) (evPos (by omega) (evPos (by omega) (evPos (by omega) (evNeg (by omega) (evPos (by omega) (Ev.bind hc hr))))))
  by_cases e : a.getD i 0 = b.getD i 0
  ·obtain ⟨r, hr, hi⟩ := cmpRow_l0 a b hl he m (i + 1) (by omega)
   refine ⟨r, st r ?_, ?_⟩
   ·rw [if_neg (show ¬ a.getD i 0 < b.getD i 0 by omega), if_neg (show ¬ a.getD i 0 > b.getD i 0 by omega), w64 (show i < a.length by omega) (by omega)]
    exact evPos rfl hr
   ·rw [hd, if_pos e]; exact hi
  ·rw [hd, if_neg e]
   by_cases e2 : a.getD i 0 < b.getD i 0
   ·refine ⟨-1, st _ ?_, by rw [decide_eq_true e2]; rfl⟩
    rw [if_pos e2]; exact evNeg (by decide) (Ev.now _)
   ·refine ⟨1, st _ ?_, by rw [decide_eq_false e2]; rfl⟩
    rw [if_neg e2, if_pos (show a.getD i 0 > b.getD i 0 by omega)]; exact evNeg (by decide) (Ev.now _)
theorem cmpAny (a b : List Int) (ha : a.length ≤ 1000) (hb : b.length ≤ 1000) : ∀ (m i : Nat), i + m = a.length → ∃ r : Int, Ev (fun k => QCmp.slices_Compare_int_int.l0 k a b a (a.length : Int) (i : Int)) r
 | 0, i, h => by
  by_cases e : a.length < b.length
  ·exact ⟨-1, Ev.step (fun k => by rw [QCmp.slices_Compare_int_int.l0]) (evNeg (by omega) (evPos (by omega) (Ev.now _)))⟩
  ·exact ⟨0, Ev.step (fun k => by rw [QCmp.slices_Compare_int_int.l0]) (evNeg (by omega) (evNeg (by omega) (Ev.now _)))⟩
 | m + 1, i, h => by
  by_cases e0 : (i : Int) ≥ (b.length : Int)
  ·exact ⟨1, Ev.step (fun k => by rw [QCmp.slices_Compare_int_int.l0]) (evPos (by omega) (evPos (by omega) (evPos (by omega) (evPos e0 (Ev.now _)))))⟩
  ·obtain ⟨r, hr⟩ := cmpAny a b ha hb m (i + 1) (by omega)
   obtain ⟨q, hq⟩ : ∃ q, QCmp.cmp_Compare_int.f (rd a (i : Int)) (rd b (i : Int)) = some q := ⟨_, cmpc _ _⟩
   have hc : Ev (fun _ : Nat => QCmp.cmp_Compare_int.f (rd a (i : Int)) (rd b (i : Int))) q := Ev.congr (fun _ => hq) (Ev.now _)
   by_cases e : q = 0
   ·refine ⟨r, Ev.step (fun k => by rw [QCmp.slices_Compare_int_int.l0]) (evPos (by omega) (evPos (by omega) (evPos (by omega) (evNeg e0 (evPos (by omega) (Ev.bind hc (evPos e ?_)))))))⟩
    rw [w64 (show i < a.length by omega) (by omega)]; exact hr
   ·exact ⟨q, Ev.step (fun k => by rw [QCmp.slices_Compare_int_int.l0]) (evPos (by omega) (evPos (by omega) (evPos (by omega) (evNeg e0 (evPos (by omega) (Ev.bind hc (evNeg e (Ev.now _))))))))⟩
theorem or_l0 (l : List Int) (x y : Int) (hl : l = [x, y]) : ∃ r : Int, Ev (fun k => QCmp.cmp_Or_int.f k l) r ∧ r = if x = 0 then y else x := by
 subst hl
 refine ⟨_, ?_, rfl⟩
 refine Ev.congr (fun k => by unfold QCmp.cmp_Or_int.f; rfl) ?_
 have hl2 : (([x, y] : List Int).length : Int) = 2 := rfl
 have w1 : wrap64 (0 + 1) = 1 := by unfold wrap64; omega
 have w2 : wrap64 (1 + 1) = 2 := by unfold wrap64; omega
 have r0 : rd [x, y] 0 = x := rfl
 have r1 : rd [x, y] 1 = y := rfl
 refine Ev.step (fun k => by rw [QCmp.cmp_Or_int.l0]) (evPos (by omega) (evPos (by omega) (evPos (by omega) ?_)))
 rw [w1, r0]
 by_cases h : x = 0
 ·rw [if_pos h]
  refine evPos h ?_
  refine Ev.step (fun k => by rw [QCmp.cmp_Or_int.l0]) (evPos (by omega) (evPos (by omega) (evPos (by omega) ?_)))
  rw [w2, r1]
  by_cases h2 : y = 0
  ·refine evPos h2 ?_
   refine Ev.step (fun k => by rw [QCmp.cmp_Or_int.l0]) (evNeg (by omega) (evIs (Ev.now _) h2.symm))
  ·exact evNeg h2 (Ev.now _)
 ·rw [if_neg h]
  exact evNeg h (Ev.now _)
theorem cmp_ev (a b : List Int) (ha : a.length ≤ 1000) (hb : b.length ≤ 1000) : ∃ r : Int, Ev (fun k => QCmp.impl_circlesCmp.f k a b) r ∧ decide (r < 0) = befI a b := by
 obtain ⟨r1, h1, e1⟩ : ∃ r1 : Int, Ev (fun k => QCmp.slices_Compare_int_int.f k a b) r1 ∧ (a.length = b.length → decide (r1 < 0) = lexI a b) := by
  by_cases h : a.length = b.length
  ·obtain ⟨r, hr, hi⟩ := cmpRow_l0 a b ha h a.length 0 (by omega)
   exact ⟨r, Ev.congr (fun k => by unfold QCmp.slices_Compare_int_int.f; rfl) hr, fun _ => hi⟩
  ·obtain ⟨r, hr⟩ := cmpAny a b ha hb a.length 0 (by omega)
   exact ⟨r, Ev.congr (fun k => by unfold QCmp.slices_Compare_int_int.f; rfl) hr, fun e => absurd e h⟩
 obtain ⟨r2, h2, e2⟩ := or_l0 [if (a.length : Int) < (b.length : Int) then -1 else if (a.length : Int) > (b.length : Int) then 1 else 0, r1] _ _ rfl
 refine ⟨r2, ?_, ?_⟩
 ·unfold QCmp.impl_circlesCmp.f
  exact Ev.bind (Ev.congr (fun _ => cmpc _ _) (Ev.now _)) (Ev.bind h1 (Ev.bind h2 (Ev.now _)))
 ·rw [e2]
  unfold befI
  by_cases h : a.length = b.length
  ·rw [if_pos h, ← e1 h, if_neg (show ¬ (a.length : Int) < (b.length : Int) by omega), if_neg (show ¬ (a.length : Int) > (b.length : Int) by omega), if_pos rfl]
  ·rw [if_neg h]
   by_cases h3 : a.length < b.length
   ·rw [if_pos (show (a.length : Int) < (b.length : Int) by omega), if_neg (by decide), decide_eq_true h3]; rfl
   ·rw [if_neg (show ¬ (a.length : Int) < (b.length : Int) by omega), if_pos (show (a.length : Int) > (b.length : Int) by omega), if_neg (by decide), decide_eq_false h3]; rfl
/-- The closure that compares. -/
theorem cmp_calls {w : World} {A B : Option Addr} {c c' : Nat} {a b : List Int} (ha : Kd.C (Kd.int .i64) w A a.length a) (hca : a.length ≤ c) (hb : Kd.C (Kd.int .i64) w B b.length b) (hcb : b.length ≤ c') (la : a.length ≤ 1000) (lb : b.length ≤ 1000) (t : Bool) (ht : befI a b = t) :
  Calls Try.prog 56 #[.slice A a.length c, .slice B b.length c'] w fun e w' => ∃ r : Int, e = .returned (.int .i64 r) ∧ decide (r < 0) = t ∧ Below w.heap.size w w' := by
 obtain ⟨r, hr, hi⟩ := cmp_ev a b la lb
 obtain ⟨k, hk⟩ := Ev.rounds hr
 exact (QCmp.impl_circlesCmp.calls k A c a B c' b r w ha hca hb hcb hk).mono fun e w' ⟨he, hw⟩ => ⟨r, he, by rw [hi, ht], hw⟩
end Go.Proofs.Ythdncdfgonbfeaa.Circ
