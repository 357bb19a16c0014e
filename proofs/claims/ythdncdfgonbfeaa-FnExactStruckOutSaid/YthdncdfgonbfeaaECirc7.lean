/- The circles of at most four banks: how many, of what form, none exactly where no banks owe each other in a ring; no condition. -/
import Derived.Test.YthdncdfgonbfeaaECirc6
namespace Go.Proofs.Ythdncdfgonbfeaa.Circ
set_option linter.unusedVariables false
set_option linter.unusedSimpArgs false
theorem fl_congr {α : Type} {f g : Nat → List α} : ∀ m j, (∀ i, j ≤ i → i < j + m → f i = g i) → fl f m j = fl g m j
 | 0, j, h => rfl
 | m + 1, j, h => by rw [fl, fl, h j (Nat.le_refl _) (by omega), fl_congr m (j + 1) (fun i h1 h2 => h i (by omega) (by omega))]
theorem fl_skip {α : Type} {f : Nat → List α} : ∀ q m j, (∀ i, j ≤ i → i < j + q → f i = []) → fl f (q + m) j = fl f m (j + q)
 | 0, m, j, h => by rw [Nat.zero_add]; rfl
 | q + 1, m, j, h => by
  rw [show q + 1 + m = (q + m) + 1 by omega, fl, h j (Nat.le_refl _) (by omega), List.nil_append, fl_skip q m (j + 1) (fun i h1 h2 => h i (by omega) (by omega)), show j + 1 + q = j + (q + 1) by omega]
theorem fl_mem {α : Type} {f : Nat → List α} {x : α} : ∀ m j, x ∈ fl f m j → ∃ i, j ≤ i ∧ i < j + m ∧ x ∈ f i
 | 0, j, h => by cases h
 | m + 1, j, h => by
  rw [fl, List.mem_append] at h
  rcases h with h | h
  ·exact ⟨j, Nat.le_refl _, by omega, h⟩
  ·obtain ⟨i, h1, h2, h3⟩ := fl_mem m (j + 1) h
   exact ⟨i, by omega, by omega, h3⟩
theorem getD_n {p : List Nat} {i : Nat} (h : i < p.length) : p.getD i 0 ∈ p := by
 rw [List.getD_eq_getElem?_getD, List.getElem?_eq_getElem h]; exact List.getElem_mem h
theorem pN_congr {E F : Nat → Nat → Bool} {n : Nat} (h : ∀ i j, i < n → j < n → E i j = F i j) : ∀ m p, p ≠ [] → (∀ x ∈ p, x < n) → pN E n m p = pN F n m p
 | 0, p, _, _ => rfl
 | m + 1, p, hp, hx => by
  have hl : 0 < p.length := List.length_pos_iff.2 hp
  have a := hx _ (getD_n (p := p) (i := p.length - 1) (by omega))
  have b := hx _ (getD_n (p := p) (i := 0) (by omega))
  rw [pN, pN, h _ _ a b]
  congr 1
  refine fl_congr _ _ (fun j _ hj => ?_)
  have hj : j < n := by omega
  rw [h _ _ a hj]
  split
  ·exact pN_congr h m (p ++ [j]) (by simp) (fun x hx' => by
    rcases List.mem_append.1 hx' with h1 | h1
    ·exact hx x h1
    ·rw [List.mem_singleton.1 h1]; exact hj)
  ·rfl
theorem cN_congr {E F : Nat → Nat → Bool} {n : Nat} (h : ∀ i j, i < n → j < n → E i j = F i j) : cN E n = cN F n :=
 fl_congr _ _ (fun j _ hj => pN_congr h n [j] (by simp) (fun x hx => by rw [List.mem_singleton.1 hx]; omega))
theorem circN_congr {E F : Nat → Nat → Bool} {n : Nat} (h : ∀ i j, i < n → j < n → E i j = F i j) : circN E n = circN F n := by
 unfold circN; rw [cN_congr h]
/-- Bits as a number. -/
def numB : List Bool → Nat
 | [] => 0
 | b :: bs => b.toNat + 2 * numB bs
theorem numB_lt : ∀ l : List Bool, numB l < 2 ^ l.length
 | [] => by simp [numB]
 | b :: bs => by
  have := numB_lt bs
  rw [numB, List.length_cons, Nat.pow_succ]
  cases b <;> simp only [Bool.toNat_false, Bool.toNat_true] <;> omega
theorem numB_bit : ∀ (l : List Bool) (i : Nat), (numB l).testBit i = l.getD i false
 | [], i => by simp [numB]
 | b :: bs, 0 => by
  rw [numB, Nat.testBit_zero]
  cases b <;> simp <;> omega
 | b :: bs, i + 1 => by
  rw [numB, Nat.testBit_succ, show (b.toNat + 2 * numB bs) / 2 = numB bs by cases b <;> simp only [Bool.toNat_false, Bool.toNat_true] <;> omega, numB_bit bs i]
  rfl
/-- The table's number. -/
def tabN (E : Nat → Nat → Bool) (n : Nat) : Nat := numB ((List.range (n * (n - 1))).map fun t => E (t / (n - 1)) (if t % (n - 1) < t / (n - 1) then t % (n - 1) else t % (n - 1) + 1))
theorem tabN_lt (E : Nat → Nat → Bool) (n : Nat) : tabN E n < 2 ^ (n * (n - 1)) := by
 have := numB_lt ((List.range (n * (n - 1))).map fun t => E (t / (n - 1)) (if t % (n - 1) < t / (n - 1) then t % (n - 1) else t % (n - 1) + 1))
 rw [List.length_map, List.length_range] at this
 exact this
theorem tabN_edge (E : Nat → Nat → Bool) (n : Nat) (hz : ∀ i, i < n → E i i = false) (i j : Nat) (hi : i < n) (hj : j < n) : edge n (tabN E n) i j = E i j := by
 unfold edge
 by_cases e : i = j
 ·subst e
  rw [Nat.beq_refl, hz i hi]; rfl
 ·have hb : Nat.beq i j = false := by
   cases h : Nat.beq i j with
   | false => rfl
   | true => exact absurd (Nat.eq_of_beq_eq_true h) e
  rw [hb, Bool.not_false, Bool.true_and]
  unfold tabN
  rw [numB_bit]
  obtain ⟨r, hr⟩ : ∃ r, r = if Nat.blt j i = true then j else j - 1 := ⟨_, rfl⟩
  rw [← hr]
  have hblt : (Nat.blt j i = true) ↔ j < i := by rw [Nat.blt_eq]
  have hrn : r < n - 1 := by
   rw [hr]
   by_cases h : j < i
   ·rw [if_pos (hblt.2 h)]; omega
   ·rw [if_neg (fun h2 => h (hblt.1 h2))]; omega
  have hlt : (n - 1) * i + r < n * (n - 1) := by
   have h1 : (n - 1) * i + (n - 1) = (n - 1) * (i + 1) := by rw [Nat.mul_succ]
   have h2 : (n - 1) * (i + 1) ≤ (n - 1) * n := Nat.mul_le_mul_left _ hi
   rw [Nat.mul_comm n]; omega
  have hd : ((n - 1) * i + r) / (n - 1) = i := by rw [Nat.mul_add_div (by omega), Nat.div_eq_of_lt hrn, Nat.add_zero]
  have hm : ((n - 1) * i + r) % (n - 1) = r := by rw [Nat.mul_add_mod, Nat.mod_eq_of_lt hrn]
  rw [List.getD_eq_getElem?_getD, List.getElem?_map, List.getElem?_range hlt]
  show E (((n - 1) * i + r) / (n - 1)) _ = _
  rw [hd, hm]
  congr 1
  rw [hr]
  by_cases h : j < i
  ·rw [if_pos (hblt.2 h), if_pos h]
  ·rw [if_neg (fun h2 => h (hblt.1 h2)), if_neg (by omega)]; omega
theorem chk_all (n m : Nat) (h1 : 1 ≤ n) (h4 : n ≤ 4) (hm : m < 2 ^ (n * (n - 1))) : chk n m = true := by
 have : n = 1 ∨ n = 2 ∨ n = 3 ∨ n = 4 := by omega
 rcases this with rfl | rfl | rfl | rfl
 ·exact allB_at _ _ chk1 m (by omega) hm
 ·exact allB_at _ _ chk2 m (by omega) hm
 ·exact allB_at _ _ chk3 m (by omega) hm
 ·have hm : m < 4096 := hm
  by_cases a : m < 1024
  ·exact allB_at _ _ chk4a m (by omega) (by omega)
  ·by_cases b : m < 2048
   ·exact allB_at _ _ chk4b m (by omega) (by omega)
   ·by_cases c : m < 3072
    ·exact allB_at _ _ chk4c m (by omega) (by omega)
    ·exact allB_at _ _ chk4d m (by omega) (by omega)
theorem al_iff {f : Nat → Bool} : ∀ n, al f n = true ↔ ∀ i, i < n → f i = true
 | 0 => ⟨fun _ i h => absurd h (by omega), fun _ => rfl⟩
 | n + 1 => by
  rw [al, Bool.and_eq_true, al_iff n]
  exact ⟨fun h i hi => by
   by_cases e : i = n
   ·rw [e]; exact h.1
   ·exact h.2 i (by omega), fun h => ⟨h n (by omega), fun i hi => h i (by omega)⟩⟩
theorem an_iff {f : Nat → Bool} : ∀ n, an f n = true ↔ ∃ i, i < n ∧ f i = true
 | 0 => ⟨fun h => absurd h (by simp [an]), fun ⟨i, h, _⟩ => absurd h (by omega)⟩
 | n + 1 => by
  rw [an, Bool.or_eq_true, an_iff n]
  refine ⟨fun h => ?_, fun ⟨i, hi, h⟩ => ?_⟩
  ·rcases h with h | ⟨i, hi, h⟩
   ·exact ⟨n, by omega, h⟩
   ·exact ⟨i, by omega, h⟩
  ·by_cases e : i = n
   ·exact .inl (e ▸ h)
   ·exact .inr ⟨i, by omega, h⟩
/-- One circle's form. -/
structure IsCirc (E : Nat → Nat → Bool) (n : Nat) (c : List Nat) : Prop where
 two : 2 ≤ c.length
 four : c.length ≤ 4
 lt : ∀ k, k < c.length → c.getD k 0 < n
 first : ∀ k, k < c.length → c.getD 0 0 ≤ c.getD k 0
 owe : ∀ k, k < c.length → E (c.getD k 0) (c.getD ((k + 1) % c.length) 0) = true
 apart : ∀ k q, k < c.length → q < k → c.getD q 0 ≠ c.getD k 0
theorem IsCirc.of {E : Nat → Nat → Bool} {n : Nat} {c : List Nat} (h : cOk E n c = true) : IsCirc E n c := by
 unfold cOk at h
 simp only [Bool.and_eq_true, al_iff, Nat.ble_eq, Nat.blt_eq, Bool.not_eq_true'] at h
 obtain ⟨⟨h1, h2⟩, h3⟩ := h
 exact ⟨h1, h2, fun k hk => (h3 k hk).1.1.1, fun k hk => (h3 k hk).1.1.2, fun k hk => (h3 k hk).1.2, fun k q hk hq e => by
  have := (h3 k hk).2 q hq
  rw [e, Nat.beq_refl] at this
  cases this⟩
/-- Banks each of which is owed something by another one of them. -/
structure Ring (E : Nat → Nat → Bool) (n : Nat) (P : Nat → Prop) : Prop where
 some_ : ∃ i, i < n ∧ P i
 each : ∀ i, i < n → P i → ∃ j, j < n ∧ P j ∧ E j i = true
theorem stuck_of {E : Nat → Nat → Bool} {n S : Nat} (h : stuck E n S = true) : Ring E n (fun i => S.testBit i = true) := by
 unfold stuck at h
 rw [Bool.and_eq_true, an_iff, al_iff] at h
 refine ⟨h.1, fun i hi hp => ?_⟩
 have := h.2 i hi
 rw [hp, Bool.not_true, Bool.false_or, an_iff] at this
 obtain ⟨j, hj, e⟩ := this
 rw [Bool.and_eq_true] at e
 exact ⟨j, hj, e.1, e.2⟩
open Classical in
theorem stuck_mk {E : Nat → Nat → Bool} {n : Nat} {P : Nat → Prop} (h : Ring E n P) : ∃ S, S < 2 ^ n ∧ stuck E n S = true := by
 have hb : ∀ i, i < n → (numB ((List.range n).map fun i => decide (P i))).testBit i = decide (P i) := fun i hi => by
  rw [numB_bit, List.getD_eq_getElem?_getD, List.getElem?_map, List.getElem?_range hi]; rfl
 refine ⟨numB ((List.range n).map fun i => decide (P i)), ?_, ?_⟩
 ·have := numB_lt ((List.range n).map fun i => decide (P i))
  rwa [List.length_map, List.length_range] at this
 ·unfold stuck
  rw [Bool.and_eq_true, an_iff, al_iff]
  obtain ⟨i, hi, hp⟩ := h.some_
  refine ⟨⟨i, hi, by rw [hb i hi]; exact decide_eq_true hp⟩, fun i hi => ?_⟩
  rw [hb i hi]
  by_cases hp : P i
  ·obtain ⟨j, hj, hq, e⟩ := h.each i hi hp
   rw [decide_eq_true hp, Bool.not_true, Bool.false_or, an_iff]
   exact ⟨j, hj, by rw [hb j hj, decide_eq_true hq, e]; rfl⟩
  ·rw [decide_eq_false hp]; rfl
/-- All that is told of the circles. -/
structure CircsOk (E : Nat → Nat → Bool) (n : Nat) : Prop where
 few : (cN E n).length ≤ 20
 form : ∀ c ∈ circN E n, IsCirc E n c
 next : nex (circN E n) = true
 none_ : circN E n = [] → ∀ P, ¬ Ring E n P
 some_ : circN E n ≠ [] → ∃ P, Ring E n P
theorem circs_ok (E : Nat → Nat → Bool) (n : Nat) (h1 : 1 ≤ n) (h4 : n ≤ 4) (hz : ∀ i, i < n → E i i = false) : CircsOk E n := by
 have hE := tabN_edge E n hz
 have hc := chk_all n (tabN E n) h1 h4 (tabN_lt E n)
 have e1 := cN_congr hE
 have e2 := circN_congr hE
 unfold chk at hc
 rw [e1, e2] at hc
 rw [Bool.and_eq_true, Bool.and_eq_true, Bool.and_eq_true] at hc
 obtain ⟨⟨⟨a1, a2⟩, a3⟩, a4⟩ := hc
 refine ⟨Nat.le_of_ble_eq_true a1, fun c hcm => ?_, a3, fun he P hP => ?_, fun hne => ?_⟩
 ·have h := IsCirc.of (List.all_eq_true.1 a2 c hcm)
  refine ⟨h.two, h.four, h.lt, h.first, fun k hk => ?_, h.apart⟩
  rw [← hE _ _ (h.lt k hk) (h.lt _ (Nat.mod_lt _ (by omega)))]
  exact h.owe k hk
 ·rw [he] at a4
  have hP' : Ring (edge n (tabN E n)) n P := ⟨hP.some_, fun i hi hp => by
   obtain ⟨j, hj, hq, e⟩ := hP.each i hi hp
   exact ⟨j, hj, hq, by rw [hE j i hj hi]; exact e⟩⟩
  obtain ⟨S, hS, hs⟩ := stuck_mk hP'
  have := (al_iff _).1 a4 S hS
  rw [hs] at this
  cases this
 ·cases hl : circN E n with
  | nil => exact absurd hl hne
  | cons c l =>
   rw [hl] at a4
   have h := stuck_of a4
   exact ⟨_, h.some_, fun i hi hp => by
    obtain ⟨j, hj, hq, e⟩ := h.each i hi hp
    exact ⟨j, hj, hq, by rw [← hE j i hj hi]; exact e⟩⟩
end Go.Proofs.Ythdncdfgonbfeaa.Circ
