/- LessOf of the program agrees with the reference's at all drawn fractions; of a fraction and itself it is 0, and for both exchanged it is the negative; for every list of bytes, no condition. -/
import Derived.Test.YtopojgonnjldpaaPFnLessOfx5
import Derived.Test.YtopojgonnjldpaaWSized
namespace Go.Proofs.Ytopojgonnjldpaa.PrintWords
open Go.ChangeShapes Go.WideShapes
theorem sized_ints {H : Type} {enc : TypeId × Value → H} {P : Program} {W : World} {base : Nat} {spare : Nat → Bool} {held : Bool} {t e : TypeId} {k : IntKind} {a : Option Addr} {len cap : Nat} {d : DataW H} {ps : List MemPlace} {ts : List TypeId} {ds : List (DataW H)} {j : Nat}
    (hsz : (DataW.weightsEach P ts ds).all (· ≤ reachBytes) = true) (ht : ts[j]? = some t) (hd : ds[j]? = some d) (hu : P.underlying t = some (.slice e)) (he : P.underlying e = some (.int k)) (hc : P.cellsOf e = 1) {B : Nat} (hB : P.bytesOf e = B)
    (h : DataW.Trod enc P W base spare held t (.slice a len cap) d ps) : len * B ≤ 140737488351232 := Go.Proofs.YtopojgonnjldpaaW.PrintWords.sized_ints hsz ht hd hu he hc hB h
end Go.Proofs.Ytopojgonnjldpaa.PrintWords
namespace Go.Proofs.Ytopojgonnjldpaa.Pure
open Go.RowKit Go.Proofs.Ytopojgonnjldpaa.PFnLessOf Go.Proofs.YtopojgonnjldpaaW.PrintWords Go.Proofs.YtopojgonnjldpaaW.PrintLast Go.Proofs.YtopojgonnjldpaaW.PrintMore
set_option linter.unusedVariables false
set_option linter.unusedSimpArgs false

/-- A fraction in lowest terms: what FracOk asks. -/
def okF (u d : Int) : Bool := decide (-1000000000 ≤ u ∧ u ≤ 1000000000 ∧ 1 ≤ d ∧ d ≤ 1000000000 ∧ Int.gcd u d = 1)

/-- The fraction of a number over another one, brought to lowest terms, and whether it is one. -/
def lowF (u d : Int) : Int × Int × Bool :=
  if okF (u.tdiv (if d < 0 then -(Int.gcd u d : Int) else (Int.gcd u d : Int))) (d.tdiv (if d < 0 then -(Int.gcd u d : Int) else (Int.gcd u d : Int))) = true then
    (u.tdiv (if d < 0 then -(Int.gcd u d : Int) else (Int.gcd u d : Int)), d.tdiv (if d < 0 then -(Int.gcd u d : Int) else (Int.gcd u d : Int)), true)
  else (0, 0, false)

theorem okF_iff (u d : Int) : okF u d = true ↔ -1000000000 ≤ u ∧ u ≤ 1000000000 ∧ 1 ≤ d ∧ d ≤ 1000000000 ∧ Int.gcd u d = 1 := by
  unfold okF; exact decide_eq_true_iff

theorem gcd_step (x y : Int) : Int.gcd y (x.tmod y) = Int.gcd x y := by
  simp only [Int.gcd, Int.natAbs_tmod]
  rw [Nat.gcd_comm y.natAbs, ← Nat.gcd_rec, Nat.gcd_comm]

theorem tmod_lt (x y : Int) (h : y ≠ 0) : (x.tmod y).natAbs < y.natAbs := by
  rw [Int.natAbs_tmod]; exact Nat.mod_lt _ (by omega)

theorem tdiv_bound (u g : Int) (hu : -9000000000000000000 ≤ u ∧ u ≤ 9000000000000000000) : -9000000000000000000 ≤ u.tdiv g ∧ u.tdiv g ≤ 9000000000000000000 := by
  have h := Int.natAbs_tdiv_le_natAbs u g
  omega

theorem gcd_ne {u d : Int} (hd : d ≠ 0) : (Int.gcd u d : Int) ≠ 0 := by
  have : 0 < Int.gcd u d := Int.gcd_pos_of_ne_zero_right u hd
  omega

theorem gcd_bound (u d : Int) (hd : d ≠ 0) (h : -9000000000000000000 ≤ d ∧ d ≤ 9000000000000000000) : 1 ≤ (Int.gcd u d : Int) ∧ (Int.gcd u d : Int) ≤ 9000000000000000000 := by
  have h1 : 0 < Int.gcd u d := Int.gcd_pos_of_ne_zero_right u hd
  have h2 : Int.gcd u d ≤ d.natAbs := Nat.le_of_dvd (by omega) (Nat.gcd_dvd_right _ _)
  omega

theorem lowF_cases (u d : Int) : (∃ p q, lowF u d = (p, q, true) ∧ okF p q = true) ∨ lowF u d = (0, 0, false) := by
  unfold lowF
  generalize (if d < 0 then -(Int.gcd u d : Int) else (Int.gcd u d : Int)) = G
  by_cases h : okF (u.tdiv G) (d.tdiv G) = true
  · rw [if_pos h]; exact .inl ⟨_, _, rfl, h⟩
  · rw [if_neg h]; exact .inr rfl

theorem mul_left_cancel0 {a b c : Int} (ha : a ≠ 0) (h : a * b = a * c) : b = c := Int.eq_of_mul_eq_mul_left ha h

/-- What lowF tells, if it tells a fraction: the only one in lowest terms of this value. -/
theorem lowF_true {u d p q : Int} (hd : d ≠ 0) : lowF u d = (p, q, true) ↔ okF p q = true ∧ p * d = u * q := by
  have hg := gcd_ne (u := u) hd
  generalize hG : (if d < 0 then -(Int.gcd u d : Int) else (Int.gcd u d : Int)) = G
  have hG0 : G ≠ 0 := by rw [← hG]; split <;> omega
  have hGu : G ∣ u := by
    rw [← hG]; split
    · exact Int.neg_dvd.2 (Int.gcd_dvd_left ..)
    · exact Int.gcd_dvd_left ..
  have hGd : G ∣ d := by
    rw [← hG]; split
    · exact Int.neg_dvd.2 (Int.gcd_dvd_right ..)
    · exact Int.gcd_dvd_right ..
  have hlow : lowF u d = if okF (u.tdiv G) (d.tdiv G) = true then (u.tdiv G, d.tdiv G, true) else (0, 0, false) := by
    unfold lowF; rw [hG]
  rw [hlow]
  obtain ⟨a, ha⟩ := hGu
  obtain ⟨b, hb⟩ := hGd
  have hua : u.tdiv G = a := by rw [ha]; exact Int.mul_tdiv_cancel_left a hG0
  have hdb : d.tdiv G = b := by rw [hb]; exact Int.mul_tdiv_cancel_left b hG0
  rw [hua, hdb]
  constructor
  · intro h
    split at h
    · rename_i hok
      simp only [Prod.mk.injEq, and_true] at h
      obtain ⟨rfl, rfl⟩ := h
      refine ⟨hok, ?_⟩
      rw [ha, hb]; grind
    · simp at h
  · rintro ⟨hok, he⟩
    have hk := (okF_iff p q).1 hok
    have hcop : Nat.Coprime q.natAbs p.natAbs := by
      have := hk.2.2.2.2
      unfold Int.gcd at this
      exact (Nat.coprime_comm).1 this
    have hqd : q ∣ d := by
      have h1 : q.natAbs ∣ p.natAbs * d.natAbs := by
        rw [← Int.natAbs_mul, he, Int.natAbs_mul]; exact Nat.dvd_mul_left ..
      exact Int.natAbs_dvd_natAbs.1 (Nat.Coprime.dvd_of_dvd_mul_left hcop h1)
    obtain ⟨m, hm⟩ := hqd
    have hq0 : q ≠ 0 := by omega
    have hum : u = p * m := by
      refine mul_left_cancel0 hq0 ?_
      rw [hm] at he; grind
    have hgm : (Int.gcd u d) = m.natAbs := by
      rw [hum, hm, Int.mul_comm p m, Int.mul_comm q m, Int.gcd_mul_left, hk.2.2.2.2, Nat.mul_one]
    have hsg : d < 0 ↔ m < 0 := by
      rw [hm]; constructor
      · intro h
        refine Int.not_le.1 fun h0 => ?_
        have := Int.mul_nonneg (show 0 ≤ q by omega) h0
        omega
      · intro h
        exact Int.mul_neg_of_pos_of_neg (by omega) h
    have hGm : G = m := by
      rw [← hG, hgm]; split <;> omega
    have hm0 : m ≠ 0 := by rw [← hGm]; exact hG0
    have hpa : a = p := by
      refine mul_left_cancel0 hm0 ?_
      rw [hGm] at ha; grind
    have hqb : b = q := by
      refine mul_left_cancel0 hm0 ?_
      rw [hGm] at hb; grind
    rw [hpa, hqb, if_pos hok]

/-- Not told: no fraction in lowest terms is of this value. -/
theorem lowF_false {u d : Int} (hd : d ≠ 0) : lowF u d = (0, 0, false) ↔ ∀ p q, okF p q = true → p * d ≠ u * q := by
  constructor
  · intro h p q hok he
    have := (lowF_true hd).2 ⟨hok, he⟩
    rw [h] at this; simp at this
  · intro h
    rcases lowF_cases u d with ⟨p, q, he, hok⟩ | he
    · exact absurd ((lowF_true hd).1 he).2 (h p q hok)
    · exact he

/-- Equal values are brought to the same. -/
theorem lowF_congr {u d u' d' : Int} (hd : d ≠ 0) (hd' : d' ≠ 0) (h : u * d' = u' * d) : lowF u d = lowF u' d' := by
  rcases lowF_cases u d with ⟨p, q, he, hok⟩ | he
  · have h1 := ((lowF_true hd).1 he).2
    rw [he]; symm
    refine (lowF_true hd').2 ⟨hok, ?_⟩
    refine mul_left_cancel0 hd ?_
    grind
  · rw [he]; symm
    refine (lowF_false hd').2 fun p q hok h2 => ?_
    refine (lowF_false hd).1 he p q hok ?_
    refine mul_left_cancel0 hd' ?_
    grind

theorem lowF_of_ok {u d : Int} (h : okF u d = true) : lowF u d = (u, d, true) := by
  have := (okF_iff u d).1 h
  exact (lowF_true (by omega)).2 ⟨h, rfl⟩

theorem lowF_neg {u d p q : Int} (hd : d ≠ 0) (h : lowF u d = (p, q, true)) : lowF (-u) d = (-p, q, true) := by
  have h1 := (lowF_true hd).1 h
  have h2 := (okF_iff p q).1 h1.1
  refine (lowF_true hd).2 ⟨(okF_iff _ _).2 ⟨by omega, by omega, by omega, by omega, by rw [Int.neg_gcd]; exact h2.2.2.2.2⟩, ?_⟩
  have := h1.2
  grind

theorem okF_neg (u d : Int) : okF (-u) d = okF u d := by
  rw [Bool.eq_iff_iff, okF_iff, okF_iff, Int.neg_gcd]
  omega

def fracOfV (u d : Int) : Int × Int × Bool := if (-1000000000 ≤ u ∧ u ≤ 1000000000) ∧ (-1000000000 ≤ d ∧ d ≤ 1000000000) ∧ d ≠ 0 then lowF u d else (0, 0, false)
def plusV (a b c d : Int) : Int × Int × Bool := if okF a b = true ∧ okF c d = true then lowF (a * d + c * b) (b * d) else (0, 0, false)
def lessV (a b c d : Int) : Int × Int × Bool := if okF a b = true ∧ okF c d = true then lowF (a * d - c * b) (b * d) else (0, 0, false)
def timesV (a b c d : Int) : Int × Int × Bool := if okF a b = true ∧ okF c d = true then lowF (a * c) (b * d) else (0, 0, false)
def overV (a b c d : Int) : Int × Int × Bool := if okF a b = true ∧ okF c d = true ∧ c ≠ 0 then lowF (a * d) (b * c) else (0, 0, false)
def beforeV (a b c d : Int) : Int := if okF a b = true ∧ okF c d = true then (if a * d < c * b then -1 else if a * d > c * b then 1 else 0) else -2

theorem mul_bound {a b : Int} (ha : -1000000000 ≤ a ∧ a ≤ 1000000000) (hb : -1000000000 ≤ b ∧ b ≤ 1000000000) : -1000000000000000000 ≤ a * b ∧ a * b ≤ 1000000000000000000 := by
  have h1 : a.natAbs ≤ 1000000000 := by omega
  have h2 : b.natAbs ≤ 1000000000 := by omega
  have h3 := Nat.mul_le_mul h1 h2
  rw [← Int.natAbs_mul] at h3
  omega
theorem mul_ne {a b : Int} (ha : a ≠ 0) (hb : b ≠ 0) : a * b ≠ 0 := Int.mul_ne_zero ha hb

theorem int64_of_wf {n : Int} (h : (Lit.int .i64 n).wf = true) : -9223372036854775808 ≤ n ∧ n ≤ 9223372036854775807 := by
  unfold Lit.wf at h
  have h1 := Bool.and_eq_true_iff.1 h
  exact ⟨of_decide_eq_true h1.1, of_decide_eq_true h1.2⟩
theorem byte_of_wf {n : Int} (h : (Lit.int .u8 n).wf = true) : 0 ≤ n ∧ n ≤ 255 := by
  unfold Lit.wf at h
  have h1 := Bool.and_eq_true_iff.1 h
  exact ⟨of_decide_eq_true h1.1, of_decide_eq_true h1.2⟩

theorem ok_ne {a b : Int} (h : okF a b = true) : b ≠ 0 := by have := (okF_iff a b).1 h; omega
theorem plusV_cases (a b c d : Int) : (∃ p q, plusV a b c d = (p, q, true) ∧ okF p q = true ∧ okF a b = true ∧ okF c d = true ∧ p * (b * d) = (a * d + c * b) * q) ∨ plusV a b c d = (0, 0, false) := by
  unfold plusV
  by_cases h : okF a b = true ∧ okF c d = true
  · rw [if_pos h]
    rcases lowF_cases (a * d + c * b) (b * d) with ⟨p, q, he, hok⟩ | he
    · exact .inl ⟨p, q, he, hok, h.1, h.2, ((lowF_true (mul_ne (ok_ne h.1) (ok_ne h.2))).1 he).2⟩
    · exact .inr he
  · rw [if_neg h]; exact .inr rfl
theorem lessV_cases (a b c d : Int) : (∃ p q, lessV a b c d = (p, q, true) ∧ okF p q = true ∧ okF a b = true ∧ okF c d = true ∧ p * (b * d) = (a * d - c * b) * q) ∨ lessV a b c d = (0, 0, false) := by
  unfold lessV
  by_cases h : okF a b = true ∧ okF c d = true
  · rw [if_pos h]
    rcases lowF_cases (a * d - c * b) (b * d) with ⟨p, q, he, hok⟩ | he
    · exact .inl ⟨p, q, he, hok, h.1, h.2, ((lowF_true (mul_ne (ok_ne h.1) (ok_ne h.2))).1 he).2⟩
    · exact .inr he
  · rw [if_neg h]; exact .inr rfl
theorem timesV_cases (a b c d : Int) : (∃ p q, timesV a b c d = (p, q, true) ∧ okF p q = true ∧ okF a b = true ∧ okF c d = true ∧ p * (b * d) = (a * c) * q) ∨ timesV a b c d = (0, 0, false) := by
  unfold timesV
  by_cases h : okF a b = true ∧ okF c d = true
  · rw [if_pos h]
    rcases lowF_cases (a * c) (b * d) with ⟨p, q, he, hok⟩ | he
    · exact .inl ⟨p, q, he, hok, h.1, h.2, ((lowF_true (mul_ne (ok_ne h.1) (ok_ne h.2))).1 he).2⟩
    · exact .inr he
  · rw [if_neg h]; exact .inr rfl
theorem overV_cases (a b c d : Int) : (∃ p q, overV a b c d = (p, q, true) ∧ okF p q = true ∧ okF a b = true ∧ okF c d = true ∧ c ≠ 0 ∧ p * (b * c) = (a * d) * q) ∨ overV a b c d = (0, 0, false) := by
  unfold overV
  by_cases h : okF a b = true ∧ okF c d = true ∧ c ≠ 0
  · rw [if_pos h]
    rcases lowF_cases (a * d) (b * c) with ⟨p, q, he, hok⟩ | he
    · exact .inl ⟨p, q, he, hok, h.1, h.2.1, h.2.2, ((lowF_true (mul_ne (ok_ne h.1) h.2.2)).1 he).2⟩
    · exact .inr he
  · rw [if_neg h]; exact .inr rfl
theorem plusV_of {a b c d p q : Int} (h1 : okF a b = true) (h2 : okF c d = true) (h3 : okF p q = true) (h : p * (b * d) = (a * d + c * b) * q) : plusV a b c d = (p, q, true) := by
  unfold plusV; rw [if_pos ⟨h1, h2⟩]
  exact (lowF_true (mul_ne (ok_ne h1) (ok_ne h2))).2 ⟨h3, h⟩
theorem lessV_of {a b c d p q : Int} (h1 : okF a b = true) (h2 : okF c d = true) (h3 : okF p q = true) (h : p * (b * d) = (a * d - c * b) * q) : lessV a b c d = (p, q, true) := by
  unfold lessV; rw [if_pos ⟨h1, h2⟩]
  exact (lowF_true (mul_ne (ok_ne h1) (ok_ne h2))).2 ⟨h3, h⟩
theorem timesV_of {a b c d p q : Int} (h1 : okF a b = true) (h2 : okF c d = true) (h3 : okF p q = true) (h : p * (b * d) = (a * c) * q) : timesV a b c d = (p, q, true) := by
  unfold timesV; rw [if_pos ⟨h1, h2⟩]
  exact (lowF_true (mul_ne (ok_ne h1) (ok_ne h2))).2 ⟨h3, h⟩
theorem overV_of {a b c d p q : Int} (h1 : okF a b = true) (h2 : okF c d = true) (hc : c ≠ 0) (h3 : okF p q = true) (h : p * (b * c) = (a * d) * q) : overV a b c d = (p, q, true) := by
  unfold overV; rw [if_pos ⟨h1, h2, hc⟩]
  exact (lowF_true (mul_ne (ok_ne h1) hc)).2 ⟨h3, h⟩
theorem ok_unique {a b c d : Int} (h1 : okF a b = true) (h2 : okF c d = true) (h : a * d = c * b) : a = c ∧ b = d := by
  have x := lowF_of_ok h1
  have y := (lowF_true (ok_ne h1)).2 ⟨h2, h.symm⟩
  rw [x] at y
  simp only [Prod.mk.injEq, and_true] at y
  exact y
theorem sign_same {p X Y q : Int} (hX : 0 < X) (hq : 0 < q) (h : p * X = Y * q) : 0 < p ↔ 0 < Y := by
  constructor
  · intro hp
    refine Int.not_le.1 fun h0 => ?_
    have h1 := Int.mul_pos hp hX
    have h2 := Int.mul_nonneg (show 0 ≤ -Y by omega) (show 0 ≤ q by omega)
    rw [Int.neg_mul] at h2
    omega
  · intro hY
    refine Int.not_le.1 fun h0 => ?_
    have h1 := Int.mul_pos hY hq
    have h2 := Int.mul_nonneg (show 0 ≤ -p by omega) (show 0 ≤ X by omega)
    rw [Int.neg_mul] at h2
    omega

theorem gcd_l0 : ∀ (k : Nat) (x y : Int), -9000000000000000000 ≤ x → x ≤ 9000000000000000000 → -9000000000000000000 ≤ y → y ≤ 9000000000000000000 → y.natAbs < k → impl_gcd.l0 k x y = some (Int.gcd x y : Int)
  | 0, _, _ => by omega
  | k + 1, x, y => by
    intro h1 h2 h3 h4 hk
    simp only [impl_gcd.l0]
    by_cases hy : y = 0
    · rw [if_pos hy, hy]
      have hw : wrap64 (-x) = -x := by unfold wrap64; omega
      rw [hw, Int.gcd_zero_right]
      unfold mx; split <;> (congr 1; omega)
    · rw [if_neg hy]
      have ht := tmod_lt x y hy
      rw [gcd_l0 k y (x.tmod y) h3 h4 (by omega) (by omega) (by omega), gcd_step]
theorem gcd_f (k : Nat) (x y : Int) (h1 : -9000000000000000000 ≤ x ∧ x ≤ 9000000000000000000) (h2 : -9000000000000000000 ≤ y ∧ y ≤ 9000000000000000000) (hk : 9000000000000000001 ≤ k) : impl_gcd.f k x y = some (Int.gcd x y : Int) := by
  unfold impl_gcd.f
  exact gcd_l0 k x y h1.1 h1.2 h2.1 h2.2 (by omega)
theorem isNumber_f (n : Int) : impl_isNumber.f n = some (decide (-1000000000 ≤ n ∧ n ≤ 1000000000)) := by
  unfold impl_isNumber.f
  by_cases h : n ≥ -1000000000
  · rw [if_pos h]; congr 1; rw [Bool.eq_iff_iff, decide_eq_true_iff, decide_eq_true_iff]; omega
  · rw [if_neg h]; congr 1; symm; exact decide_eq_false (by omega)
theorem isFrac_f (k : Nat) (u d : Int) (hk : 9000000000000000001 ≤ k) : impl_isFrac.f k u d = some (okF u d) := by
  unfold impl_isFrac.f
  rw [isNumber_f]; simp only [Option.bind_some, decide_eq_true_iff]
  by_cases h1 : -1000000000 ≤ u ∧ u ≤ 1000000000
  · rw [if_pos h1]
    by_cases h2 : d ≥ 1
    · rw [if_pos h2]
      by_cases h3 : d ≤ 1000000000
      · rw [if_pos h3, gcd_f k u d (by omega) (by omega) hk]
        simp only [Option.bind_some]; congr 1
        rw [Bool.eq_iff_iff, okF_iff, beq_iff_eq]; omega
      · rw [if_neg h3]; congr 1; symm; rw [Bool.eq_false_iff, Ne, okF_iff]; omega
    · rw [if_neg h2]; congr 1; symm; rw [Bool.eq_false_iff, Ne, okF_iff]; omega
  · rw [if_neg h1]; congr 1; symm; rw [Bool.eq_false_iff, Ne, okF_iff]; omega

theorem l1Abs_f (n : Int) (h : -9000000000000000000 ≤ n ∧ n ≤ 9000000000000000000) : spec_l1Abs.f n = some (n.natAbs : Int) := by
  unfold spec_l1Abs.f
  split
  · have hw : wrap64 (-n) = -n := by unfold wrap64; omega
    rw [hw]; congr 1; omega
  · congr 1; omega
theorem l1Divisor_l0 : ∀ (k : Nat) (x y : Int), 0 ≤ x → 0 ≤ y → y.natAbs < k → spec_l1Divisor.l0 k x y = some (Int.gcd x y : Int)
  | 0, _, _ => by omega
  | k + 1, x, y => by
    intro h1 h3 hk
    simp only [spec_l1Divisor.l0]
    by_cases hy : y > 0
    · rw [if_pos hy, if_neg (by omega)]
      have ht := tmod_lt x y (by omega)
      rw [l1Divisor_l0 k y (x.tmod y) h3 (Int.tmod_nonneg y h1) (by omega), gcd_step]
    · rw [if_neg hy]
      obtain rfl : y = 0 := by omega
      rw [Int.gcd_zero_right]; congr 1; omega
theorem l1Divisor_f (k : Nat) (x y : Int) (h1 : -9000000000000000000 ≤ x ∧ x ≤ 9000000000000000000) (h2 : -9000000000000000000 ≤ y ∧ y ≤ 9000000000000000000) (hk : 9000000000000000001 ≤ k) : spec_l1Divisor.f k x y = some (Int.gcd x y : Int) := by
  unfold spec_l1Divisor.f
  rw [l1Abs_f x h1, l1Abs_f y h2]
  simp only [Option.bind_some]
  rw [l1Divisor_l0 k _ _ (by omega) (by omega) (by omega)]
  simp [Int.gcd]
theorem l1In_f (n a b : Int) : spec_l1In.f n a b = some (decide (a ≤ n ∧ n ≤ b)) := by
  unfold spec_l1In.f
  by_cases h : n ≥ a
  · rw [if_pos h]; congr 1; rw [Bool.eq_iff_iff, decide_eq_true_iff, decide_eq_true_iff]; omega
  · rw [if_neg h]; congr 1; symm; exact decide_eq_false (by omega)
theorem specFracOk_f (k : Nat) (u d : Int) (hk : 9000000000000000001 ≤ k) : spec_FracOk.f k u d = some (okF u d) := by
  unfold spec_FracOk.f
  rw [l1In_f, l1In_f]; simp only [Option.bind_some, decide_eq_true_iff]
  by_cases h1 : 1 ≤ d ∧ d ≤ 1000000000
  · rw [if_pos h1]
    by_cases h2 : -1000000000 ≤ u ∧ u ≤ 1000000000
    · rw [if_pos h2, l1Divisor_f k u d (by omega) (by omega) hk]
      simp only [Option.bind_some]; congr 1
      rw [Bool.eq_iff_iff, okF_iff, beq_iff_eq]; omega
    · rw [if_neg h2]; congr 1; symm; rw [Bool.eq_false_iff, Ne, okF_iff]; omega
  · rw [if_neg h1]; congr 1; symm; rw [Bool.eq_false_iff, Ne, okF_iff]; omega

theorem implFracOk_f (k : Nat) (u d : Int) (hk : 9000000000000000001 ≤ k) : impl_FracOk.f k u d = some (okF u d) := by
  unfold impl_FracOk.f; rw [isFrac_f k u d hk]; rfl

theorem lowest_f (k : Nat) (u d : Int) (hd : d ≠ 0) (h1 : -9000000000000000000 ≤ u ∧ u ≤ 9000000000000000000) (h2 : -9000000000000000000 ≤ d ∧ d ≤ 9000000000000000000) (hk : 9000000000000000001 ≤ k) : impl_lowest.f k u d = some (lowF u d) := by
  unfold impl_lowest.f lowF
  rw [gcd_f k u d h1 h2 hk]
  simp only [Option.bind_some]
  have hg := gcd_bound u d hd h2
  by_cases h : d < 0
  · have hw : wrap64 (-(Int.gcd u d : Int)) = -(Int.gcd u d : Int) := by unfold wrap64; omega
    have hb1 := tdiv_bound u (-(Int.gcd u d : Int)) h1
    have hb2 := tdiv_bound d (-(Int.gcd u d : Int)) h2
    rw [if_pos h, hw, if_neg (by omega), isFrac_f k _ _ hk]
    have e1 : wrap64 (u.tdiv (-(Int.gcd u d : Int))) = u.tdiv (-(Int.gcd u d : Int)) := by unfold wrap64; omega
    have e2 : wrap64 (d.tdiv (-(Int.gcd u d : Int))) = d.tdiv (-(Int.gcd u d : Int)) := by unfold wrap64; omega
    simp only [Option.bind_some, e1, e2, if_pos h]
    split <;> rfl
  · have hb1 := tdiv_bound u (Int.gcd u d : Int) h1
    have hb2 := tdiv_bound d (Int.gcd u d : Int) h2
    rw [if_neg h, if_neg (by omega), isFrac_f k _ _ hk]
    have e1 : wrap64 (u.tdiv (Int.gcd u d : Int)) = u.tdiv (Int.gcd u d : Int) := by unfold wrap64; omega
    have e2 : wrap64 (d.tdiv (Int.gcd u d : Int)) = d.tdiv (Int.gcd u d : Int) := by unfold wrap64; omega
    simp only [Option.bind_some, e1, e2, if_neg h]
    split <;> rfl

theorem l1Low_j0 (k : Nat) (u d : Int) (hd : 0 < d) (h1 : -9000000000000000000 ≤ u ∧ u ≤ 9000000000000000000) (h2 : -9000000000000000000 ≤ d ∧ d ≤ 9000000000000000000) (hk : 9000000000000000002 ≤ k) : spec_l1Low.j0 k u d = some (lowF u d) := by
  obtain ⟨k, rfl⟩ : ∃ m, k = m + 1 := ⟨k - 1, by omega⟩
  simp only [spec_l1Low.j0]
  unfold lowF
  rw [l1Divisor_f k u d h1 h2 (by omega)]
  have hg := gcd_bound u d (by omega) h2
  have hb1 := tdiv_bound u (Int.gcd u d : Int) h1
  have hb2 := tdiv_bound d (Int.gcd u d : Int) h2
  have e1 : wrap64 (u.tdiv (Int.gcd u d : Int)) = u.tdiv (Int.gcd u d : Int) := by unfold wrap64; omega
  have e2 : wrap64 (d.tdiv (Int.gcd u d : Int)) = d.tdiv (Int.gcd u d : Int) := by unfold wrap64; omega
  simp only [Option.bind_some, e1, e2, if_neg (show ¬ d < 0 by omega), if_neg (show ¬ (Int.gcd u d : Int) = 0 by omega)]
  rw [specFracOk_f k _ _ (by omega)]
  simp only [Option.bind_some]
  split <;> rfl
theorem l1Low_f (k : Nat) (u d : Int) (hd : d ≠ 0) (h1 : -9000000000000000000 ≤ u ∧ u ≤ 9000000000000000000) (h2 : -9000000000000000000 ≤ d ∧ d ≤ 9000000000000000000) (hk : 9000000000000000002 ≤ k) : spec_l1Low.f k u d = some (lowF u d) := by
  unfold spec_l1Low.f
  by_cases h : d < 0
  · have hw1 : wrap64 (-u) = -u := by unfold wrap64; omega
    have hw2 : wrap64 (-d) = -d := by unfold wrap64; omega
    rw [if_pos h, hw1, hw2, l1Low_j0 k (-u) (-d) (by omega) (by omega) (by omega) hk]
    congr 1
    exact lowF_congr (by omega) hd (by rw [Int.neg_mul, Int.mul_neg])
  · rw [if_neg h]
    exact l1Low_j0 k u d (by omega) h1 h2 hk

theorem xor_i64 (a b : Nat) (ha : a < 4611686018427387904) (hb : b < 4611686018427387904) : Go.bits .xor .i64 (a : Int) (b : Int) = ((a ^^^ b : Nat) : Int) ∧ a ^^^ b < 4611686018427387904 := by
  have hx : a ^^^ b < 2 ^ 62 := Nat.xor_lt_two_pow (by simpa using ha) (by simpa using hb)
  have hx' : a ^^^ b < 4611686018427387904 := by simpa using hx
  refine ⟨?_, hx'⟩
  simp only [Go.bits, BitVec.ofInt_natCast, BitVec.toNat_xor, BitVec.toNat_ofNat]
  rw [Nat.mod_eq_of_lt (a := a) (by simp [IntKind.bits]; omega), Nat.mod_eq_of_lt (a := b) (by simp [IntKind.bits]; omega), IntKind.wrap_i64]
  omega

theorem rd_range (s : List Int) (hs : ∀ x ∈ s, 0 ≤ x ∧ x ≤ 255) (i : Int) : 0 ≤ rd s i ∧ rd s i ≤ 255 := by
  unfold rd
  by_cases h : i.toNat < s.length
  · rw [List.getD_eq_getElem?_getD, List.getElem?_eq_getElem h]
    exact hs _ (List.getElem_mem h)
  · rw [List.getD_eq_getElem?_getD, List.getElem?_eq_none (by omega)]
    exact ⟨Int.le_refl 0, by decide⟩
theorem xor_nonneg (S : Int) (h0 : 0 ≤ S) (h1 : S ≤ 4000000000000000000) : 0 ≤ Go.bits .xor .i64 S (S.tdiv 64) := by
  obtain ⟨a, rfl⟩ := Int.eq_ofNat_of_zero_le h0
  have hd : (a : Int).tdiv 64 = ((a / 64 : Nat) : Int) := by rw [Int.tdiv_eq_ediv_of_nonneg (by omega)]; omega
  rw [hd, (xor_i64 a (a / 64) (by omega) (by omega)).1]
  omega
theorem pick_f (k : Nat) (s : List Int) (p n : Int) (hs : ∀ x ∈ s, 0 ≤ x ∧ x ≤ 255) (hl : s.length ≤ 2000) (hp : 0 ≤ p ∧ p ≤ 1000000) (hk : 1 ≤ k) :
    ∃ v, spec_l20Rd_pick.f k s p n = some (v, p + 1) ∧ 0 ≤ v ∧ (1 ≤ n → v < n) ∧ (n < 1 → v = 0) := by
  obtain ⟨k, rfl⟩ : ∃ m, k = m + 1 := ⟨k - 1, by omega⟩
  unfold spec_l20Rd_pick.f
  have w0 : wrap64 (p + 1) = p + 1 := by unfold wrap64; omega
  have w1 : wrap64 (p + 1 - 1) = p := by unfold wrap64; omega
  rw [w0]
  by_cases hn : n < 1
  · rw [if_pos hn]
    refine ⟨0, ?_, by omega, by omega, fun _ => rfl⟩
    simp [spec_l20Rd_pick.j0]
  · rw [if_neg hn]
    by_cases hz : (s.length : Int) = 0
    · refine ⟨0, ?_, by omega, by omega, by omega⟩
      simp [spec_l20Rd_pick.j0, hz]
    · have hb : ((s.length : Int) == 0) = false := by simpa using hz
      rw [hb]
      simp only [spec_l20Rd_pick.j0, w1, Bool.false_eq_true, if_false]
      by_cases hlt : p < (s.length : Int)
      · have hr := rd_range s hs p
        have w2 : wrap64 (rd s p) = rd s p := by unfold wrap64; omega
        rw [if_pos hlt, if_pos hp.1, if_neg (by omega), w2]
        exact ⟨_, rfl, Int.tmod_nonneg n hr.1, fun _ => Int.tmod_lt_of_pos _ (by omega), by omega⟩
      · have a0 := Int.tmod_nonneg (s.length : Int) hp.1
        have a1 := Int.tmod_lt_of_pos p (show 0 < (s.length : Int) by omega)
        have w3 : wrap64 (p * 7) = p * 7 := by unfold wrap64; omega
        have w4 : wrap64 (p * 7 + 3) = p * 7 + 3 := by unfold wrap64; omega
        have b0 := Int.tmod_nonneg (s.length : Int) (show 0 ≤ p * 7 + 3 by omega)
        have b1 := Int.tmod_lt_of_pos (p * 7 + 3) (show 0 < (s.length : Int) by omega)
        have c0 : 0 ≤ p.tdiv (s.length : Int) := Int.tdiv_nonneg hp.1 (by omega)
        have c1 : p.tdiv (s.length : Int) ≤ p := by have := Int.natAbs_tdiv_le_natAbs p (s.length : Int); omega
        rw [w3, w4]
        rw [if_neg hlt, if_neg hz, if_pos a0, if_pos a1, if_pos b0, if_pos b1, if_neg (by omega)]
        have rA := rd_range s hs (p.tmod (s.length : Int))
        have rB := rd_range s hs ((p * 7 + 3).tmod (s.length : Int))
        generalize rd s (p.tmod (s.length : Int)) = A at rA ⊢
        generalize rd s ((p * 7 + 3).tmod (s.length : Int)) = B at rB ⊢
        generalize p.tdiv (s.length : Int) = C at c0 c1 ⊢
        have e1 : wrap64 A = A := by unfold wrap64; omega
        have e2 : wrap64 B = B := by unfold wrap64; omega
        have e3 : wrap64 C = C := by unfold wrap64; omega
        rw [e1, e2, e3]
        have e4 : wrap64 (A * 131) = A * 131 := by unfold wrap64; omega
        have e5 : wrap64 (B * 1117) = B * 1117 := by unfold wrap64; omega
        have e6 : wrap64 (p * 29) = p * 29 := by unfold wrap64; omega
        have e7 : wrap64 (C * 53) = C * 53 := by unfold wrap64; omega
        rw [e4, e5, e6, e7]
        have e8 : wrap64 (A * 131 + B * 1117) = A * 131 + B * 1117 := by unfold wrap64; omega
        rw [e8]
        have e9 : wrap64 (A * 131 + B * 1117 + p * 29) = A * 131 + B * 1117 + p * 29 := by unfold wrap64; omega
        rw [e9]
        have e10 : wrap64 (A * 131 + B * 1117 + p * 29 + C * 53) = A * 131 + B * 1117 + p * 29 + C * 53 := by unfold wrap64; omega
        rw [e10]
        have hS0 : 0 ≤ A * 131 + B * 1117 + p * 29 + C * 53 := by omega
        have hS1 : A * 131 + B * 1117 + p * 29 + C * 53 ≤ 4000000000000 := by omega
        generalize A * 131 + B * 1117 + p * 29 + C * 53 = S at hS0 hS1 ⊢
        have hd : -9000000000000000000 ≤ S.tdiv 64 ∧ S.tdiv 64 ≤ 9000000000000000000 := by have := Int.natAbs_tdiv_le_natAbs S 64; omega
        have e11 : wrap64 (S.tdiv 64) = S.tdiv 64 := by unfold wrap64; omega
        rw [e11]
        have hx := xor_nonneg S hS0 (by omega)
        exact ⟨_, rfl, Int.tmod_nonneg n hx, fun _ => Int.tmod_lt_of_pos _ (by omega), by omega⟩
theorem pick_pos (k : Nat) (s : List Int) (p n : Int) (hs : ∀ x ∈ s, 0 ≤ x ∧ x ≤ 255) (hl : s.length ≤ 2000) (hp : 0 ≤ p ∧ p ≤ 1000000) (hn : 1 ≤ n) (hk : 1 ≤ k) :
    ∃ v, spec_l20Rd_pick.f k s p n = some (v, p + 1) ∧ 0 ≤ v ∧ v < n := by
  obtain ⟨v, h1, h2, h3, _⟩ := pick_f k s p n hs hl hp hk
  exact ⟨v, h1, h2, h3 hn⟩
theorem open_f (l : List Int) (hs : ∀ x ∈ l, (Lit.int .u8 x).wf = true) : ∃ s, spec_l20Open.f l = some (s, 0) ∧ s.length ≤ 2000 ∧ ∀ x ∈ s, 0 ≤ x ∧ x ≤ 255 := by
  unfold spec_l20Open.f
  by_cases h : (l.length : Int) > 2000
  · rw [if_pos h, if_pos (by omega)]
    exact ⟨_, rfl, by simp; omega, fun x hx => byte_of_wf (hs x (List.mem_of_mem_take hx))⟩
  · rw [if_neg h]
    exact ⟨_, rfl, by omega, fun x hx => byte_of_wf (hs x hx)⟩

theorem odd_f (k : Nat) (s : List Int) (p n : Int) (hs : ∀ x ∈ s, 0 ≤ x ∧ x ≤ 255) (hl : s.length ≤ 2000) (hp : 0 ≤ p ∧ p ≤ 1000000) (hk : 1 ≤ k) :
    ∃ b p', spec_l20Rd_odd.f k s p n = some (b, p') ∧ 0 ≤ p' ∧ p' ≤ p + 1 ∧ (n ≤ 0 → b = false) := by
  unfold spec_l20Rd_odd.f
  by_cases h : n > 0
  · rw [if_pos h]
    obtain ⟨v, hv, _⟩ := pick_f k s p n hs hl hp hk
    rw [hv]
    exact ⟨_, _, rfl, by omega, by omega, by omega⟩
  · rw [if_neg h]
    exact ⟨_, _, rfl, by omega, by omega, fun _ => rfl⟩

/-- What a drawn fraction is like. -/
def drawnF (u d : Int) : Prop := okF u d = true ∨ (u, d) ∈ [((0 : Int), (0 : Int)), (2, 4), (1, -2), (1000000001, 1)]
theorem drawnF_bound {u d : Int} (h : drawnF u d) : -1000000001 ≤ u ∧ u ≤ 1000000001 ∧ -1000000000 ≤ d ∧ d ≤ 1000000000 := by
  rcases h with h | h
  · have := (okF_iff u d).1 h; omega
  · simp only [List.mem_cons, Prod.mk.injEq, List.not_mem_nil, or_false] at h; omega
theorem l20Frac_j0 (k : Nat) (n : Int) (s : List Int) (p u d : Int) (hs : ∀ x ∈ s, 0 ≤ x ∧ x ≤ 255) (hl : s.length ≤ 2000) (hp : 0 ≤ p ∧ p ≤ 1000) (hk : 2 ≤ k) (hf : okF u d = true) :
    ∃ u' d' p', spec_l20Frac.j0 k n s p u d = some (u', d', p') ∧ drawnF u' d' ∧ 0 ≤ p' ∧ p' ≤ p + 2 ∧ (n ≤ 0 → okF u' d' = true) := by
  obtain ⟨k, rfl⟩ : ∃ m, k = m + 1 := ⟨k - 1, by omega⟩
  simp only [spec_l20Frac.j0]
  obtain ⟨b, p1, h1, h2, h3, h5⟩ := odd_f k s p n hs hl (by omega) (by omega)
  rw [h1]; simp only [Option.bind_some]
  cases b with
  | false => exact ⟨u, d, p1, by simp, .inl hf, by omega, by omega, fun _ => hf⟩
  | true =>
    have hn : ¬ n ≤ 0 := fun h => by have := h5 h; simp at this
    obtain ⟨v, h4, v0, v1⟩ := pick_pos k s p1 4 hs hl (by omega) (by omega) (by omega)
    rw [h4]; simp only [Option.bind_some, if_true]
    rw [if_pos v0, if_pos (by simp; omega)]
    have hv : v = 0 ∨ v = 1 ∨ v = 2 ∨ v = 3 := by omega
    rcases hv with rfl | rfl | rfl | rfl
    · exact ⟨_, _, _, rfl, .inr (by simp [rd_T32]), by omega, by omega, fun h => absurd h hn⟩
    · exact ⟨_, _, _, rfl, .inr (by simp [rd_T32]), by omega, by omega, fun h => absurd h hn⟩
    · exact ⟨_, _, _, rfl, .inr (by simp [rd_T32]), by omega, by omega, fun h => absurd h hn⟩
    · exact ⟨_, _, _, rfl, .inr (by simp [rd_T32]), by omega, by omega, fun h => absurd h hn⟩
/-- A value whose lowest terms are small enough is brought to them. -/
theorem lowF_small {u d : Int} (hu : -1000000000 ≤ u ∧ u ≤ 1000000000) (hd : 1 ≤ d ∧ d ≤ 1000000000) : ∃ p q, lowF u d = (p, q, true) ∧ okF p q = true := by
  rcases lowF_cases u d with h | h
  · exact h
  · exfalso
    have hd0 : d ≠ 0 := by omega
    have hg := gcd_bound u d hd0 (by omega)
    have hu1 : (Int.gcd u d : Int) ∣ u := Int.gcd_dvd_left ..
    have hd1 : (Int.gcd u d : Int) ∣ d := Int.gcd_dvd_right ..
    obtain ⟨a, ha⟩ := hu1
    obtain ⟨b, hb⟩ := hd1
    have hab : Int.gcd a b = 1 := by
      have h2 : Int.gcd u d * Int.gcd a b = Int.gcd u d * 1 := by
        have h3 := Int.gcd_mul_left (Int.gcd u d : Int) a b
        rw [← ha, ← hb] at h3
        simp only [Int.natAbs_natCast] at h3
        omega
      exact Nat.eq_of_mul_eq_mul_left (by omega) h2
    have hb1 : 1 ≤ b := by
      refine Int.not_lt.1 fun h0 => ?_
      have := Int.mul_nonneg (show 0 ≤ (Int.gcd u d : Int) by omega) (show 0 ≤ -b by omega)
      rw [Int.mul_neg] at this
      omega
    have hb2 : b ≤ d := by
      have := Int.mul_le_mul_of_nonneg_right hg.1 (show 0 ≤ b by omega)
      omega
    have ha2 : a.natAbs ≤ u.natAbs := by
      have h2 : u.natAbs = Int.gcd u d * a.natAbs := by
        have := congrArg Int.natAbs ha
        rw [Int.natAbs_mul] at this
        simpa using this
      rw [h2]
      exact Nat.le_mul_of_pos_left _ (by omega)
    refine (lowF_false hd0).1 h a b ((okF_iff a b).2 ⟨by omega, by omega, hb1, by omega, hab⟩) ?_
    have : a * ((Int.gcd u d : Int) * b) = ((Int.gcd u d : Int) * a) * b := by grind
    rw [← ha, ← hb] at this
    exact this
theorem l20Frac_f (k : Nat) (s : List Int) (p n : Int) (hs : ∀ x ∈ s, 0 ≤ x ∧ x ≤ 255) (hl : s.length ≤ 2000) (hp : 0 ≤ p ∧ p ≤ 900) (hk : 9000000000000000003 ≤ k) :
    ∃ u d p', spec_l20Frac.f k s p n = some (u, d, p') ∧ drawnF u d ∧ 0 ≤ p' ∧ p' ≤ p + 7 ∧ (n ≤ 0 → okF u d = true) := by
  unfold spec_l20Frac.f
  obtain ⟨v1, h1, a1, b1⟩ := pick_pos k s p 41 hs hl (by omega) (by omega) (by omega)
  rw [h1]; simp only [Option.bind_some]
  obtain ⟨v2, h2, a2, b2⟩ := pick_pos k s (p + 1) 12 hs hl (by omega) (by omega) (by omega)
  rw [h2]; simp only [Option.bind_some]
  have w1 : wrap64 (v1 - 20) = v1 - 20 := by unfold wrap64; omega
  have w2 : wrap64 (1 + v2) = 1 + v2 := by unfold wrap64; omega
  rw [w1, w2, l1Low_f k _ _ (by omega) (by omega) (by omega) (by omega)]
  simp only [Option.bind_some]
  obtain ⟨x, y, e1, o1⟩ := lowF_small (u := v1 - 20) (d := 1 + v2) (by omega) (by omega)
  rw [e1]
  obtain ⟨v3, h3, a3, b3⟩ := pick_pos k s (p + 1 + 1) 6 hs hl (by omega) (by omega) (by omega)
  rw [h3]; simp only [Option.bind_some]
  by_cases hz : v3 = 0
  · rw [if_pos hz]
    obtain ⟨v4, h4, a4, b4⟩ := pick_pos k s (p + 1 + 1 + 1) 256 hs hl (by omega) (by omega) (by omega)
    rw [h4]; simp only [Option.bind_some]
    obtain ⟨v5, h5, a5, b5⟩ := pick_pos k s (p + 1 + 1 + 1 + 1) 256 hs hl (by omega) (by omega) (by omega)
    rw [h5]; simp only [Option.bind_some]
    have w3 : wrap64 (v4 - 128) = v4 - 128 := by unfold wrap64; omega
    have w4 : wrap64 (v5 * 3000001) = v5 * 3000001 := by unfold wrap64; omega
    rw [w3, w4]
    have w5 : wrap64 ((v4 - 128) * 4000003) = (v4 - 128) * 4000003 := by unfold wrap64; omega
    have w6 : wrap64 (1 + v5 * 3000001) = 1 + v5 * 3000001 := by unfold wrap64; omega
    rw [w5, w6, l1Low_f k _ _ (by omega) (by omega) (by omega) (by omega)]
    simp only [Option.bind_some]
    obtain ⟨x2, y2, e2, o2⟩ := lowF_small (u := (v4 - 128) * 4000003) (d := 1 + v5 * 3000001) (by omega) (by omega)
    rw [e2]
    obtain ⟨u, d, q, hq, hf, q0, q1, hn⟩ := l20Frac_j0 k n s _ x2 y2 hs hl (show 0 ≤ p + 1 + 1 + 1 + 1 + 1 ∧ _ by omega) (by omega) o2
    exact ⟨u, d, q, hq, hf, q0, by omega, hn⟩
  · rw [if_neg hz]
    obtain ⟨u, d, q, hq, hf, q0, q1, hn⟩ := l20Frac_j0 k n s _ x y hs hl (show 0 ≤ p + 1 + 1 + 1 ∧ _ by omega) (by omega) o1
    exact ⟨u, d, q, hq, hf, q0, by omega, hn⟩

theorem alive_f (k : Nat) (hk : 9000000000000000001 ≤ k) : laws_alive.f k = some true := by
  unfold laws_alive.f
  have h1 : okF 1 2 = true := by decide
  have h2 : okF 2 4 = false := by decide
  rw [implFracOk_f k 1 2 hk, implFracOk_f k 2 4 hk, h1, h2]; rfl

theorem drawPlusOf_f (k : Nat) (l : List Int) (hs : ∀ x ∈ l, (Lit.int .u8 x).wf = true) (hk : 9000000000000000003 ≤ k) : ∃ a b c d, spec_DrawPlusOf.f k l = some (a, b, c, d) ∧ drawnF a b ∧ drawnF c d := by
  unfold spec_DrawPlusOf.f
  obtain ⟨s, h1, h2, h3⟩ := open_f l hs
  rw [h1]; simp only [Option.bind_some]
  obtain ⟨a, b, p, hp, hf, p0, p1, _⟩ := l20Frac_f k s 0 14 h3 h2 (by omega) hk
  rw [hp]; simp only [Option.bind_some]
  obtain ⟨c, d, q, hq, hg, q0, q1, _⟩ := l20Frac_f k s p 14 h3 h2 (by omega) hk
  rw [hq]
  exact ⟨a, b, c, d, rfl, hf, hg⟩

theorem specPlusOf_f (k : Nat) (a b c d : Int) (hk : 9000000000000000002 ≤ k) : spec_PlusOf.f k a b c d = some (plusV a b c d) := by
  unfold spec_PlusOf.f plusV
  rw [specFracOk_f k a b (by omega), specFracOk_f k c d (by omega)]; simp only [Option.bind_some]
  by_cases h1 : okF a b = true
  · by_cases h2 : okF c d = true
    · have x1 := (okF_iff a b).1 h1
      have x2 := (okF_iff c d).1 h2
      have m1 := mul_bound (a := a) (b := d) (by omega) (by omega)
      have m2 := mul_bound (a := c) (b := b) (by omega) (by omega)
      have m3 := mul_bound (a := b) (b := d) (by omega) (by omega)
      have w1 : wrap64 (a * d) = a * d := by unfold wrap64; omega
      have w2 : wrap64 (c * b) = c * b := by unfold wrap64; omega
      have w3 : wrap64 (b * d) = b * d := by unfold wrap64; omega
      have w4 : wrap64 (a * d + c * b) = a * d + c * b := by unfold wrap64; omega
      rw [if_pos h1, if_pos h2, if_pos ⟨h1, h2⟩, w1, w2, w3, w4, l1Low_f k _ _ (mul_ne (by omega) (by omega)) (by omega) (by omega) hk]; rfl
    · rw [if_pos h1, if_neg h2, if_neg (fun h => h2 h.2)]
  · rw [if_neg h1, if_neg (fun h => h1 h.1)]

theorem implLessOf_f (k : Nat) (a b c d : Int) (hk : 9000000000000000002 ≤ k) : impl_LessOf.f k a b c d = some (lessV a b c d) := by
  unfold impl_LessOf.f lessV impl_less.f
  rw [isFrac_f k a b (by omega), isFrac_f k c d (by omega)]; simp only [Option.bind_some]
  by_cases h1 : okF a b = true
  · by_cases h2 : okF c d = true
    · have x1 := (okF_iff a b).1 h1
      have x2 := (okF_iff c d).1 h2
      have m1 := mul_bound (a := a) (b := d) (by omega) (by omega)
      have m2 := mul_bound (a := c) (b := b) (by omega) (by omega)
      have m3 := mul_bound (a := b) (b := d) (by omega) (by omega)
      have w1 : wrap64 (a * d) = a * d := by unfold wrap64; omega
      have w2 : wrap64 (c * b) = c * b := by unfold wrap64; omega
      have w3 : wrap64 (b * d) = b * d := by unfold wrap64; omega
      have w4 : wrap64 (a * d - c * b) = a * d - c * b := by unfold wrap64; omega
      rw [if_pos h1, if_pos h2, if_pos ⟨h1, h2⟩, w1, w2, w3, w4, lowest_f k _ _ (mul_ne (by omega) (by omega)) (by omega) (by omega) (by omega)]; rfl
    · rw [if_pos h1, if_neg h2, if_neg (fun h => h2 h.2)]
  · rw [if_neg h1, if_neg (fun h => h1 h.1)]

theorem lessV_eq (a b c d : Int) : plusV a b (-c) d = lessV a b c d := by
  unfold plusV lessV
  rw [okF_neg, Int.neg_mul, Int.sub_eq_add_neg]
theorem specLessOf_f (k : Nat) (a b c d : Int) (hc : -9000000000000000000 ≤ c ∧ c ≤ 9000000000000000000) (hk : 9000000000000000002 ≤ k) : spec_LessOf.f k a b c d = some (lessV a b c d) := by
  unfold spec_LessOf.f
  have w : wrap64 (-c) = -c := by unfold wrap64; omega
  rw [w, specPlusOf_f k a b (-c) d hk, lessV_eq]; rfl
theorem specLessOf_far (k : Nat) (a b c d : Int) (hw : (Lit.int .i64 c).wf = true) (hk : 9000000000000000002 ≤ k) : spec_LessOf.f k a b c d = some (lessV a b c d) := by
  by_cases hc : -9000000000000000000 ≤ c ∧ c ≤ 9000000000000000000
  · exact specLessOf_f k a b c d hc hk
  · unfold spec_LessOf.f
    have hr := int64_of_wf hw
    have w : wrap64 (-c) < -1000000000 ∨ 1000000000 < wrap64 (-c) := by unfold wrap64; omega
    rw [specPlusOf_f k a b _ d hk]
    unfold plusV lessV
    rw [if_neg, if_neg]
    · rfl
    · intro h; have := (okF_iff c d).1 h.2; omega
    · intro h; have := (okF_iff _ d).1 h.2; omega


theorem FnLessOf : laws_FnLessOf.Pure := by
  intro l hl hl2 hs
  obtain ⟨k, hk⟩ : ∃ k : Nat, 9000000000000000003 ≤ k := ⟨_, Nat.le_refl _⟩
  refine ⟨k, ?_⟩
  unfold laws_FnLessOf.f spec_DrawLessOf.f
  split
  · rfl
  · obtain ⟨a, b, c, d, hq, hf, hg⟩ := drawPlusOf_f k l hs hk
    have hb := drawnF_bound hg
    rw [hq]; simp only [Option.bind_some]
    rw [implLessOf_f k _ _ _ _ (by omega), specLessOf_f k _ _ _ _ (by omega) (by omega)]
    simp only [Option.bind_some, beq_self_eq_true, bne_self_eq_false, Bool.not_true, Bool.or_self, Bool.false_eq_true, if_false]
    obtain ⟨k, rfl⟩ : ∃ m, k = m + 1 := ⟨k - 1, by omega⟩
    simp only [laws_FnLessOf.j0, Bool.false_eq_true, if_false]
    have hal := alive_f k (by omega)
    rw [implLessOf_f k _ _ _ _ (by omega), implLessOf_f k _ _ _ _ (by omega), hal]
    rcases lessV_cases a b c d with ⟨p, q, he, hok, o1, o2, hm⟩ | he
    · have e1 : lessV a b a b = (0, 1, true) := lessV_of o1 o1 (by decide) (by grind)
      have e2 : lessV c d a b = (-p, q, true) := lessV_of o2 o1 (by rw [okF_neg]; exact hok) (by grind)
      have hp := (okF_iff p q).1 hok
      have w : wrap64 (-p) = -p := by unfold wrap64; omega
      rw [he, e1, e2]
      simp [w]
    · rw [he]; simp

end Go.Proofs.Ytopojgonnjldpaa.Pure
