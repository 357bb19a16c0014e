/- Fractions in lowest terms, as the program and the reference tell them; no condition. -/
import Derived.Test.YtfpohibbmcfnkaaDoorTxMath
import Derived.Test.YtfpohibbmcfnkaaDoorQTextx10
namespace Go.Proofs.YtfpohibbmcfnkaaDoor.Tx
open Go Go.RowKit Go.Proofs.YtfpohibbmcfnkaaDoor.QText Go.Proofs.YtfpohibbmcfnkaaDoorW.PrintWords Go.Proofs.YtfpohibbmcfnkaaDoorW.PrintLast Go.Proofs.YtfpohibbmcfnkaaDoorW.PrintMore
set_option linter.unusedVariables false
set_option linter.unusedSimpArgs false
theorem evPos {α : Type} {c : Prop} [Decidable c] {f g : Nat → Option α} {r : α} (h : c) (e : Ev f r) : Ev (fun k => if c then f k else g k) r := by
  simp only [if_pos h]; exact e
theorem evNeg {α : Type} {c : Prop} [Decidable c] {f g : Nat → Option α} {r : α} (h : ¬ c) (e : Ev g r) : Ev (fun k => if c then f k else g k) r := by
  simp only [if_neg h]; exact e
theorem evIs {α : Type} {g : Nat → Option α} {r r' : α} (e : Ev g r) (h : r = r') : Ev g r' := h ▸ e
theorem evIte {α : Type} {c : Prop} [Decidable c] {f g : Nat → Option α} {r : α} (e1 : c → Ev f r) (e2 : ¬ c → Ev g r) : Ev (fun k => if c then f k else g k) r := by
  by_cases h : c
  · exact evPos h (e1 h)
  · exact evNeg h (e2 h)
/-- What a number does, it does in one step more. -/
theorem w64 {j n : Nat} (h : j < n) (hn : n ≤ 9223372036854775807) : wrap64 ((j : Int) + 1) = ((j + 1 : Nat) : Int) := by unfold wrap64; omega
/-- A fraction in lowest terms: what FracOk asks. -/
def okF (u d : Int) : Bool := decide (-1000000000 ≤ u ∧ u ≤ 1000000000 ∧ 1 ≤ d ∧ d ≤ 1000000000 ∧ Int.gcd u d = 1)

/-- The fraction of a number over another one, brought to lowest terms, and whether it is one. -/
def lowF (u d : Int) : Int × Int × Bool :=
  if okF (u.tdiv (if d < 0 then -(Int.gcd u d : Int) else (Int.gcd u d : Int))) (d.tdiv (if d < 0 then -(Int.gcd u d : Int) else (Int.gcd u d : Int))) = true then
    (u.tdiv (if d < 0 then -(Int.gcd u d : Int) else (Int.gcd u d : Int)), d.tdiv (if d < 0 then -(Int.gcd u d : Int) else (Int.gcd u d : Int)), true)
  else (0, 0, false)

theorem okF_iff (u d : Int) : okF u d = true ↔ -1000000000 ≤ u ∧ u ≤ 1000000000 ∧ 1 ≤ d ∧ d ≤ 1000000000 ∧ Int.gcd u d = 1 := by
  unfold okF; exact decide_eq_true_iff

theorem gcd_step (x y : Int) : Int.gcd y (x.tmod y) = Int.gcd x y := by
  simp only [Int.gcd, Int.natAbs_tmod]
  rw [Nat.gcd_comm y.natAbs, ← Nat.gcd_rec, Nat.gcd_comm]

theorem tmod_lt (x y : Int) (h : y ≠ 0) : (x.tmod y).natAbs < y.natAbs := by
  rw [Int.natAbs_tmod]; exact Nat.mod_lt _ (by omega)

theorem tdiv_bound (u g : Int) (hu : -9000000000000000000 ≤ u ∧ u ≤ 9000000000000000000) : -9000000000000000000 ≤ u.tdiv g ∧ u.tdiv g ≤ 9000000000000000000 := by
  have h := Int.natAbs_tdiv_le_natAbs u g
  omega

theorem gcd_ne {u d : Int} (hd : d ≠ 0) : (Int.gcd u d : Int) ≠ 0 := by
  have : 0 < Int.gcd u d := Int.gcd_pos_of_ne_zero_right u hd
  omega

theorem gcd_bound (u d : Int) (hd : d ≠ 0) (h : -9000000000000000000 ≤ d ∧ d ≤ 9000000000000000000) : 1 ≤ (Int.gcd u d : Int) ∧ (Int.gcd u d : Int) ≤ 9000000000000000000 := by
  have h1 : 0 < Int.gcd u d := Int.gcd_pos_of_ne_zero_right u hd
  have h2 : Int.gcd u d ≤ d.natAbs := Nat.le_of_dvd (by omega) (Nat.gcd_dvd_right _ _)
  omega

theorem lowF_cases (u d : Int) : (∃ p q, lowF u d = (p, q, true) ∧ okF p q = true) ∨ lowF u d = (0, 0, false) := by
  unfold lowF
  generalize (if d < 0 then -(Int.gcd u d : Int) else (Int.gcd u d : Int)) = G
  by_cases h : okF (u.tdiv G) (d.tdiv G) = true
  · rw [if_pos h]; exact .inl ⟨_, _, rfl, h⟩
  · rw [if_neg h]; exact .inr rfl

theorem mul_left_cancel0 {a b c : Int} (ha : a ≠ 0) (h : a * b = a * c) : b = c := Int.eq_of_mul_eq_mul_left ha h

/-- What lowF tells, if it tells a fraction: the only one in lowest terms of this value. -/
theorem lowF_true {u d p q : Int} (hd : d ≠ 0) : lowF u d = (p, q, true) ↔ okF p q = true ∧ p * d = u * q := by
  have hg := gcd_ne (u := u) hd
  generalize hG : (if d < 0 then -(Int.gcd u d : Int) else (Int.gcd u d : Int)) = G
  have hG0 : G ≠ 0 := by rw [← hG]; split <;> omega
  have hGu : G ∣ u := by
    rw [← hG]; split
    · exact Int.neg_dvd.2 (Int.gcd_dvd_left ..)
    · exact Int.gcd_dvd_left ..
  have hGd : G ∣ d := by
    rw [← hG]; split
    · exact Int.neg_dvd.2 (Int.gcd_dvd_right ..)
    · exact Int.gcd_dvd_right ..
  have hlow : lowF u d = if okF (u.tdiv G) (d.tdiv G) = true then (u.tdiv G, d.tdiv G, true) else (0, 0, false) := by
    unfold lowF; rw [hG]
  rw [hlow]
  obtain ⟨a, ha⟩ := hGu
  obtain ⟨b, hb⟩ := hGd
  have hua : u.tdiv G = a := by rw [ha]; exact Int.mul_tdiv_cancel_left a hG0
  have hdb : d.tdiv G = b := by rw [hb]; exact Int.mul_tdiv_cancel_left b hG0
  rw [hua, hdb]
  constructor
  · intro h
    split at h
    · rename_i hok
      simp only [Prod.mk.injEq, and_true] at h
      obtain ⟨rfl, rfl⟩ := h
      refine ⟨hok, ?_⟩
      rw [ha, hb]; grind
    · simp at h
  · rintro ⟨hok, he⟩
    have hk := (okF_iff p q).1 hok
    have hcop : Nat.Coprime q.natAbs p.natAbs := by
      have := hk.2.2.2.2
      unfold Int.gcd at this
      exact (Nat.coprime_comm).1 this
    have hqd : q ∣ d := by
      have h1 : q.natAbs ∣ p.natAbs * d.natAbs := by
        rw [← Int.natAbs_mul, he, Int.natAbs_mul]; exact Nat.dvd_mul_left ..
      exact Int.natAbs_dvd_natAbs.1 (Nat.Coprime.dvd_of_dvd_mul_left hcop h1)
    obtain ⟨m, hm⟩ := hqd
    have hq0 : q ≠ 0 := by omega
    have hum : u = p * m := by
      refine mul_left_cancel0 hq0 ?_
      rw [hm] at he; grind
    have hgm : (Int.gcd u d) = m.natAbs := by
      rw [hum, hm, Int.mul_comm p m, Int.mul_comm q m, Int.gcd_mul_left, hk.2.2.2.2, Nat.mul_one]
    have hsg : d < 0 ↔ m < 0 := by
      rw [hm]; constructor
      · intro h
        refine Int.not_le.1 fun h0 => ?_
        have := Int.mul_nonneg (show 0 ≤ q by omega) h0
        omega
      · intro h
        exact Int.mul_neg_of_pos_of_neg (by omega) h
    have hGm : G = m := by
      rw [← hG, hgm]; split <;> omega
    have hm0 : m ≠ 0 := by rw [← hGm]; exact hG0
    have hpa : a = p := by
      refine mul_left_cancel0 hm0 ?_
      rw [hGm] at ha; grind
    have hqb : b = q := by
      refine mul_left_cancel0 hm0 ?_
      rw [hGm] at hb; grind
    rw [hpa, hqb, if_pos hok]

/-- Not told: no fraction in lowest terms is of this value. -/
theorem lowF_false {u d : Int} (hd : d ≠ 0) : lowF u d = (0, 0, false) ↔ ∀ p q, okF p q = true → p * d ≠ u * q := by
  constructor
  · intro h p q hok he
    have := (lowF_true hd).2 ⟨hok, he⟩
    rw [h] at this; simp at this
  · intro h
    rcases lowF_cases u d with ⟨p, q, he, hok⟩ | he
    · exact absurd ((lowF_true hd).1 he).2 (h p q hok)
    · exact he

/-- Equal values are brought to the same. -/
theorem lowF_congr {u d u' d' : Int} (hd : d ≠ 0) (hd' : d' ≠ 0) (h : u * d' = u' * d) : lowF u d = lowF u' d' := by
  rcases lowF_cases u d with ⟨p, q, he, hok⟩ | he
  · have h1 := ((lowF_true hd).1 he).2
    rw [he]; symm
    refine (lowF_true hd').2 ⟨hok, ?_⟩
    refine mul_left_cancel0 hd ?_
    grind
  · rw [he]; symm
    refine (lowF_false hd').2 fun p q hok h2 => ?_
    refine (lowF_false hd).1 he p q hok ?_
    refine mul_left_cancel0 hd' ?_
    grind

theorem lowF_of_ok {u d : Int} (h : okF u d = true) : lowF u d = (u, d, true) := by
  have := (okF_iff u d).1 h
  exact (lowF_true (by omega)).2 ⟨h, rfl⟩

theorem lowF_neg {u d p q : Int} (hd : d ≠ 0) (h : lowF u d = (p, q, true)) : lowF (-u) d = (-p, q, true) := by
  have h1 := (lowF_true hd).1 h
  have h2 := (okF_iff p q).1 h1.1
  refine (lowF_true hd).2 ⟨(okF_iff _ _).2 ⟨by omega, by omega, by omega, by omega, by rw [Int.neg_gcd]; exact h2.2.2.2.2⟩, ?_⟩
  have := h1.2
  grind

theorem okF_neg (u d : Int) : okF (-u) d = okF u d := by
  rw [Bool.eq_iff_iff, okF_iff, okF_iff, Int.neg_gcd]
  omega

def fracOfV (u d : Int) : Int × Int × Bool := if (-1000000000 ≤ u ∧ u ≤ 1000000000) ∧ (-1000000000 ≤ d ∧ d ≤ 1000000000) ∧ d ≠ 0 then lowF u d else (0, 0, false)
def plusV (a b c d : Int) : Int × Int × Bool := if okF a b = true ∧ okF c d = true then lowF (a * d + c * b) (b * d) else (0, 0, false)
def lessV (a b c d : Int) : Int × Int × Bool := if okF a b = true ∧ okF c d = true then lowF (a * d - c * b) (b * d) else (0, 0, false)
def timesV (a b c d : Int) : Int × Int × Bool := if okF a b = true ∧ okF c d = true then lowF (a * c) (b * d) else (0, 0, false)
def overV (a b c d : Int) : Int × Int × Bool := if okF a b = true ∧ okF c d = true ∧ c ≠ 0 then lowF (a * d) (b * c) else (0, 0, false)
def beforeV (a b c d : Int) : Int := if okF a b = true ∧ okF c d = true then (if a * d < c * b then -1 else if a * d > c * b then 1 else 0) else -2

theorem mul_bound {a b : Int} (ha : -1000000000 ≤ a ∧ a ≤ 1000000000) (hb : -1000000000 ≤ b ∧ b ≤ 1000000000) : -1000000000000000000 ≤ a * b ∧ a * b ≤ 1000000000000000000 := by
  have h1 : a.natAbs ≤ 1000000000 := by omega
  have h2 : b.natAbs ≤ 1000000000 := by omega
  have h3 := Nat.mul_le_mul h1 h2
  rw [← Int.natAbs_mul] at h3
  omega
theorem mul_ne {a b : Int} (ha : a ≠ 0) (hb : b ≠ 0) : a * b ≠ 0 := Int.mul_ne_zero ha hb

theorem int64_of_wf {n : Int} (h : (Lit.int .i64 n).wf = true) : -9223372036854775808 ≤ n ∧ n ≤ 9223372036854775807 := by
  unfold Lit.wf at h
  have h1 := Bool.and_eq_true_iff.1 h
  exact ⟨of_decide_eq_true h1.1, of_decide_eq_true h1.2⟩
theorem byte_of_wf {n : Int} (h : (Lit.int .u8 n).wf = true) : 0 ≤ n ∧ n ≤ 255 := by
  unfold Lit.wf at h
  have h1 := Bool.and_eq_true_iff.1 h
  exact ⟨of_decide_eq_true h1.1, of_decide_eq_true h1.2⟩

theorem gcd_l0 : ∀ (k : Nat) (x y : Int), -9000000000000000000 ≤ x → x ≤ 9000000000000000000 → -9000000000000000000 ≤ y → y ≤ 9000000000000000000 → y.natAbs < k → impl_gcd.l0 k x y = some (Int.gcd x y : Int)
  | 0, _, _ => by omega
  | k + 1, x, y => by
    intro h1 h2 h3 h4 hk
    simp only [impl_gcd.l0]
    by_cases hy : y = 0
    · rw [if_pos hy, hy]
      have hw : wrap64 (-x) = -x := by unfold wrap64; omega
      rw [hw, Int.gcd_zero_right]
      unfold mx; split <;> (congr 1; omega)
    · rw [if_neg hy]
      have ht := tmod_lt x y hy
      rw [gcd_l0 k y (x.tmod y) h3 h4 (by omega) (by omega) (by omega), gcd_step]
theorem gcd_f (k : Nat) (x y : Int) (h1 : -9000000000000000000 ≤ x ∧ x ≤ 9000000000000000000) (h2 : -9000000000000000000 ≤ y ∧ y ≤ 9000000000000000000) (hk : 9000000000000000001 ≤ k) : impl_gcd.f k x y = some (Int.gcd x y : Int) := by
  unfold impl_gcd.f
  exact gcd_l0 k x y h1.1 h1.2 h2.1 h2.2 (by omega)
theorem isNumber_f (n : Int) : impl_isNumber.f n = some (decide (-1000000000 ≤ n ∧ n ≤ 1000000000)) := by
  unfold impl_isNumber.f
  by_cases h : n ≥ -1000000000
  · rw [if_pos h]; congr 1; rw [Bool.eq_iff_iff, decide_eq_true_iff, decide_eq_true_iff]; omega
  · rw [if_neg h]; congr 1; symm; exact decide_eq_false (by omega)
theorem isFrac_f (k : Nat) (u d : Int) (hk : 9000000000000000001 ≤ k) : impl_isFrac.f k u d = some (okF u d) := by
  unfold impl_isFrac.f
  rw [isNumber_f]; simp only [Option.bind_some, decide_eq_true_iff]
  by_cases h1 : -1000000000 ≤ u ∧ u ≤ 1000000000
  · rw [if_pos h1]
    by_cases h2 : d ≥ 1
    · rw [if_pos h2]
      by_cases h3 : d ≤ 1000000000
      · rw [if_pos h3, gcd_f k u d (by omega) (by omega) hk]
        simp only [Option.bind_some]; congr 1
        rw [Bool.eq_iff_iff, okF_iff, beq_iff_eq]; omega
      · rw [if_neg h3]; congr 1; symm; rw [Bool.eq_false_iff, Ne, okF_iff]; omega
    · rw [if_neg h2]; congr 1; symm; rw [Bool.eq_false_iff, Ne, okF_iff]; omega
  · rw [if_neg h1]; congr 1; symm; rw [Bool.eq_false_iff, Ne, okF_iff]; omega

theorem l1Abs_f (n : Int) (h : -9000000000000000000 ≤ n ∧ n ≤ 9000000000000000000) : spec_l1Abs.f n = some (n.natAbs : Int) := by
  unfold spec_l1Abs.f
  split
  · have hw : wrap64 (-n) = -n := by unfold wrap64; omega
    rw [hw]; congr 1; omega
  · congr 1; omega
theorem l1Divisor_l0 : ∀ (k : Nat) (x y : Int), 0 ≤ x → 0 ≤ y → y.natAbs < k → spec_l1Divisor.l0 k x y = some (Int.gcd x y : Int)
  | 0, _, _ => by omega
  | k + 1, x, y => by
    intro h1 h3 hk
    simp only [spec_l1Divisor.l0]
    by_cases hy : y > 0
    · rw [if_pos hy, if_neg (by omega)]
      have ht := tmod_lt x y (by omega)
      rw [l1Divisor_l0 k y (x.tmod y) h3 (Int.tmod_nonneg y h1) (by omega), gcd_step]
    · rw [if_neg hy]
      obtain rfl : y = 0 := by omega
      rw [Int.gcd_zero_right]; congr 1; omega
theorem l1Divisor_f (k : Nat) (x y : Int) (h1 : -9000000000000000000 ≤ x ∧ x ≤ 9000000000000000000) (h2 : -9000000000000000000 ≤ y ∧ y ≤ 9000000000000000000) (hk : 9000000000000000001 ≤ k) : spec_l1Divisor.f k x y = some (Int.gcd x y : Int) := by
  unfold spec_l1Divisor.f
  rw [l1Abs_f x h1, l1Abs_f y h2]
  simp only [Option.bind_some]
  rw [l1Divisor_l0 k _ _ (by omega) (by omega) (by omega)]
  simp [Int.gcd]
theorem l1In_f (n a b : Int) : spec_l1In.f n a b = some (decide (a ≤ n ∧ n ≤ b)) := by
  unfold spec_l1In.f
  by_cases h : n ≥ a
  · rw [if_pos h]; congr 1; rw [Bool.eq_iff_iff, decide_eq_true_iff, decide_eq_true_iff]; omega
  · rw [if_neg h]; congr 1; symm; exact decide_eq_false (by omega)
theorem specFracOk_f (k : Nat) (u d : Int) (hk : 9000000000000000001 ≤ k) : spec_FracOk.f k u d = some (okF u d) := by
  unfold spec_FracOk.f
  rw [l1In_f, l1In_f]; simp only [Option.bind_some, decide_eq_true_iff]
  by_cases h1 : 1 ≤ d ∧ d ≤ 1000000000
  · rw [if_pos h1]
    by_cases h2 : -1000000000 ≤ u ∧ u ≤ 1000000000
    · rw [if_pos h2, l1Divisor_f k u d (by omega) (by omega) hk]
      simp only [Option.bind_some]; congr 1
      rw [Bool.eq_iff_iff, okF_iff, beq_iff_eq]; omega
    · rw [if_neg h2]; congr 1; symm; rw [Bool.eq_false_iff, Ne, okF_iff]; omega
  · rw [if_neg h1]; congr 1; symm; rw [Bool.eq_false_iff, Ne, okF_iff]; omega

theorem implFracOk_f (k : Nat) (u d : Int) (hk : 9000000000000000001 ≤ k) : impl_FracOk.f k u d = some (okF u d) := by
  unfold impl_FracOk.f; rw [isFrac_f k u d hk]; rfl

theorem alive_f (k : Nat) (hk : 9000000000000000001 ≤ k) : laws_alive.f k = some true := by
  unfold laws_alive.f
  have h1 : okF 1 2 = true := by decide
  have h2 : okF 2 4 = false := by decide
  rw [implFracOk_f k 1 2 hk, implFracOk_f k 2 4 hk, h1, h2]; rfl


end Go.Proofs.YtfpohibbmcfnkaaDoor.Tx
