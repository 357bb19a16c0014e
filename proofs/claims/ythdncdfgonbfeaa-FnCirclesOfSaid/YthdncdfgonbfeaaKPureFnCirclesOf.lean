/- CirclesOf of the program and of the reference agree at all drawn books; each circle is one, no two behind each other are the same, and there are none exactly if there is an order; for every list of bytes, no condition. -/
import Derived.Test.YthdncdfgonbfeaaKQFnCirclesOfx7
import Derived.Test.YthdncdfgonbfeaaKCirc8
import Derived.Test.YthdncdfgonbfeaaVSized
namespace Go.Proofs.Ythdncdfgonbfeaa.PrintWords
open Go.ChangeShapes Go.WideShapes
theorem sized_ints {H : Type} {enc : TypeId × Value → H} {P : Program} {W : World} {base : Nat} {spare : Nat → Bool} {held : Bool} {t e : TypeId} {k : IntKind} {a : Option Addr} {len cap : Nat} {d : DataW H} {ps : List MemPlace} {ts : List TypeId} {ds : List (DataW H)} {j : Nat}
  (hsz : (DataW.weightsEach P ts ds).all (· ≤ reachBytes) = true) (ht : ts[j]? = some t) (hd : ds[j]? = some d) (hu : P.underlying t = some (.slice e)) (he : P.underlying e = some (.int k)) (hc : P.cellsOf e = 1) {B : Nat} (hB : P.bytesOf e = B)
  (h : DataW.Trod enc P W base spare held t (.slice a len cap) d ps) : len * B ≤ 140737488351232 := Go.Proofs.YthdncdfgonbfeaaW.PrintWords.sized_ints hsz ht hd hu he hc hB h
end Go.Proofs.Ythdncdfgonbfeaa.PrintWords
namespace Go.Proofs.Ythdncdfgonbfeaa.Pure
open Go.RowKit Go.Proofs.Ythdncdfgonbfeaa.QFnCirclesOf Go.Proofs.YthdncdfgonbfeaaW.PrintWords Go.Proofs.YthdncdfgonbfeaaW.PrintLast Go.Proofs.YthdncdfgonbfeaaW.PrintMore
set_option linter.unusedVariables false
set_option linter.unusedSimpArgs false

/-- A fraction in lowest terms: what FracOk asks. -/
def okF (u d : Int) : Bool := decide (-1000000000 ≤ u ∧ u ≤ 1000000000 ∧ 1 ≤ d ∧ d ≤ 1000000000 ∧ Int.gcd u d = 1)

/-- The fraction of a number over another one, brought to lowest terms, and whether it is one. -/
def lowF (u d : Int) : Int × Int × Bool :=
 if okF (u.tdiv (if d < 0 then -(Int.gcd u d : Int) else (Int.gcd u d : Int))) (d.tdiv (if d < 0 then -(Int.gcd u d : Int) else (Int.gcd u d : Int))) = true then
  (u.tdiv (if d < 0 then -(Int.gcd u d : Int) else (Int.gcd u d : Int)), d.tdiv (if d < 0 then -(Int.gcd u d : Int) else (Int.gcd u d : Int)), true)
 else (0, 0, false)

theorem okF_iff (u d : Int) : okF u d = true ↔ -1000000000 ≤ u ∧ u ≤ 1000000000 ∧ 1 ≤ d ∧ d ≤ 1000000000 ∧ Int.gcd u d = 1 := by
 unfold okF; exact decide_eq_true_iff

theorem gcd_step (x y : Int) : Int.gcd y (x.tmod y) = Int.gcd x y := by
 simp only [Int.gcd, Int.natAbs_tmod]
 rw [Nat.gcd_comm y.natAbs, ← Nat.gcd_rec, Nat.gcd_comm]

theorem tmod_lt (x y : Int) (h : y ≠ 0) : (x.tmod y).natAbs < y.natAbs := by
 rw [Int.natAbs_tmod]; exact Nat.mod_lt _ (by omega)

def fracOfV (u d : Int) : Int × Int × Bool := if (-1000000000 ≤ u ∧ u ≤ 1000000000) ∧ (-1000000000 ≤ d ∧ d ≤ 1000000000) ∧ d ≠ 0 then lowF u d else (0, 0, false)
def plusV (a b c d : Int) : Int × Int × Bool := if okF a b = true ∧ okF c d = true then lowF (a * d + c * b) (b * d) else (0, 0, false)
def lessV (a b c d : Int) : Int × Int × Bool := if okF a b = true ∧ okF c d = true then lowF (a * d - c * b) (b * d) else (0, 0, false)
def timesV (a b c d : Int) : Int × Int × Bool := if okF a b = true ∧ okF c d = true then lowF (a * c) (b * d) else (0, 0, false)
def overV (a b c d : Int) : Int × Int × Bool := if okF a b = true ∧ okF c d = true ∧ c ≠ 0 then lowF (a * d) (b * c) else (0, 0, false)
def beforeV (a b c d : Int) : Int := if okF a b = true ∧ okF c d = true then (if a * d < c * b then -1 else if a * d > c * b then 1 else 0) else -2

theorem byte_of_wf {n : Int} (h : (Lit.int .u8 n).wf = true) : 0 ≤ n ∧ n ≤ 255 := by
 unfold Lit.wf at h
 have h1 := Bool.and_eq_true_iff.1 h
 exact ⟨of_decide_eq_true h1.1, of_decide_eq_true h1.2⟩

theorem gcd_l0 : ∀ (k : Nat) (x y : Int), -9000000000000000000 ≤ x → x ≤ 9000000000000000000 → -9000000000000000000 ≤ y → y ≤ 9000000000000000000 → y.natAbs < k → impl_gcd.l0 k x y = some (Int.gcd x y : Int)
 | 0, _, _ => by omega
 | k + 1, x, y => by
  intro h1 h2 h3 h4 hk
  simp only [impl_gcd.l0]
  by_cases hy : y = 0
  ·rw [if_pos hy, hy]
   have hw : wrap64 (-x) = -x := by unfold wrap64; omega
   rw [hw, Int.gcd_zero_right]
   unfold mx; split <;> (congr 1; omega)
  ·rw [if_neg hy]
   have ht := tmod_lt x y hy
   rw [gcd_l0 k y (x.tmod y) h3 h4 (by omega) (by omega) (by omega), gcd_step]
theorem gcd_f (k : Nat) (x y : Int) (h1 : -9000000000000000000 ≤ x ∧ x ≤ 9000000000000000000) (h2 : -9000000000000000000 ≤ y ∧ y ≤ 9000000000000000000) (hk : 9000000000000000001 ≤ k) : impl_gcd.f k x y = some (Int.gcd x y : Int) := by
 unfold impl_gcd.f
 exact gcd_l0 k x y h1.1 h1.2 h2.1 h2.2 (by omega)
theorem isNumber_f (n : Int) : impl_isNumber.f n = some (decide (-1000000000 ≤ n ∧ n ≤ 1000000000)) := by
 unfold impl_isNumber.f
 by_cases h : n ≥ -1000000000
 ·rw [if_pos h]; congr 1; rw [Bool.eq_iff_iff, decide_eq_true_iff, decide_eq_true_iff]; omega
 ·rw [if_neg h]; congr 1; symm; exact decide_eq_false (by omega)
theorem isFrac_f (k : Nat) (u d : Int) (hk : 9000000000000000001 ≤ k) : impl_isFrac.f k u d = some (okF u d) := by
 unfold impl_isFrac.f
 rw [isNumber_f]; simp only [Option.bind_some, decide_eq_true_iff]
 by_cases h1 : -1000000000 ≤ u ∧ u ≤ 1000000000
 ·rw [if_pos h1]
  by_cases h2 : d ≥ 1
  ·rw [if_pos h2]
   by_cases h3 : d ≤ 1000000000
   ·rw [if_pos h3, gcd_f k u d (by omega) (by omega) hk]
    simp only [Option.bind_some]; congr 1
    rw [Bool.eq_iff_iff, okF_iff, beq_iff_eq]; omega
   ·rw [if_neg h3]; congr 1; symm; rw [Bool.eq_false_iff, Ne, okF_iff]; omega
  ·rw [if_neg h2]; congr 1; symm; rw [Bool.eq_false_iff, Ne, okF_iff]; omega
 ·rw [if_neg h1]; congr 1; symm; rw [Bool.eq_false_iff, Ne, okF_iff]; omega

theorem implFracOk_f (k : Nat) (u d : Int) (hk : 9000000000000000001 ≤ k) : impl_FracOk.f k u d = some (okF u d) := by
 unfold impl_FracOk.f; rw [isFrac_f k u d hk]; rfl

theorem xor_i64 (a b : Nat) (ha : a < 4611686018427387904) (hb : b < 4611686018427387904) : Go.bits .xor .i64 (a : Int) (b : Int) = ((a ^^^ b : Nat) : Int) ∧ a ^^^ b < 4611686018427387904 := by
 have hx : a ^^^ b < 2 ^ 62 := Nat.xor_lt_two_pow (by simpa using ha) (by simpa using hb)
 have hx' : a ^^^ b < 4611686018427387904 := by simpa using hx
 refine ⟨?_, hx'⟩
 simp only [Go.bits, BitVec.ofInt_natCast, BitVec.toNat_xor, BitVec.toNat_ofNat]
 rw [Nat.mod_eq_of_lt (a := a) (by simp [IntKind.bits]; omega), Nat.mod_eq_of_lt (a := b) (by simp [IntKind.bits]; omega), IntKind.wrap_i64]
 omega

theorem rd_range (s : List Int) (hs : ∀ x ∈ s, 0 ≤ x ∧ x ≤ 255) (i : Int) : 0 ≤ rd s i ∧ rd s i ≤ 255 := by
 unfold rd
 by_cases h : i.toNat < s.length
 ·rw [List.getD_eq_getElem?_getD, List.getElem?_eq_getElem h]
  exact hs _ (List.getElem_mem h)
 ·rw [List.getD_eq_getElem?_getD, List.getElem?_eq_none (by omega)]
  exact ⟨Int.le_refl 0, by decide⟩
theorem xor_nonneg (S : Int) (h0 : 0 ≤ S) (h1 : S ≤ 4000000000000000000) : 0 ≤ Go.bits .xor .i64 S (S.tdiv 64) := by
 obtain ⟨a, rfl⟩ := Int.eq_ofNat_of_zero_le h0
 have hd : (a : Int).tdiv 64 = ((a / 64 : Nat) : Int) := by rw [Int.tdiv_eq_ediv_of_nonneg (by omega)]; omega
 rw [hd, (xor_i64 a (a / 64) (by omega) (by omega)).1]
 omega
theorem pick_f (k : Nat) (s : List Int) (p n : Int) (hs : ∀ x ∈ s, 0 ≤ x ∧ x ≤ 255) (hl : s.length ≤ 2000) (hp : 0 ≤ p ∧ p ≤ 1000000) (hk : 1 ≤ k) :
  ∃ v, spec_l20Rd_pick.f k s p n = some (v, p + 1) ∧ 0 ≤ v ∧ (1 ≤ n → v < n) ∧ (n < 1 → v = 0) := by
 obtain ⟨k, rfl⟩ : ∃ m, k = m + 1 := ⟨k - 1, by omega⟩
 unfold spec_l20Rd_pick.f
 have w0 : wrap64 (p + 1) = p + 1 := by unfold wrap64; omega
 have w1 : wrap64 (p + 1 - 1) = p := by unfold wrap64; omega
 rw [w0]
 by_cases hn : n < 1
 ·rw [if_pos hn]
  refine ⟨0, ?_, by omega, by omega, fun _ => rfl⟩
  simp [spec_l20Rd_pick.j0]
 ·rw [if_neg hn]
  by_cases hz : (s.length : Int) = 0
  ·refine ⟨0, ?_, by omega, by omega, by omega⟩
   simp [spec_l20Rd_pick.j0, hz]
  ·have hb : ((s.length : Int) == 0) = false := by simpa using hz
   rw [hb]
   simp only [spec_l20Rd_pick.j0, w1, Bool.false_eq_true, if_false]
   by_cases hlt : p < (s.length : Int)
   ·have hr := rd_range s hs p
    have w2 : wrap64 (rd s p) = rd s p := by unfold wrap64; omega
    rw [if_pos hlt, if_pos hp.1, if_neg (by omega), w2]
    exact ⟨_, rfl, Int.tmod_nonneg n hr.1, fun _ => Int.tmod_lt_of_pos _ (by omega), by omega⟩
   ·have a0 := Int.tmod_nonneg (s.length : Int) hp.1
    have a1 := Int.tmod_lt_of_pos p (show 0 < (s.length : Int) by omega)
    have w3 : wrap64 (p * 7) = p * 7 := by unfold wrap64; omega
    have w4 : wrap64 (p * 7 + 3) = p * 7 + 3 := by unfold wrap64; omega
    have b0 := Int.tmod_nonneg (s.length : Int) (show 0 ≤ p * 7 + 3 by omega)
    have b1 := Int.tmod_lt_of_pos (p * 7 + 3) (show 0 < (s.length : Int) by omega)
    have c0 : 0 ≤ p.tdiv (s.length : Int) := Int.tdiv_nonneg hp.1 (by omega)
    have c1 : p.tdiv (s.length : Int) ≤ p := by have := Int.natAbs_tdiv_le_natAbs p (s.length : Int); omega
    rw [w3, w4]
    rw [if_neg hlt, if_neg hz, if_pos a0, if_pos a1, if_pos b0, if_pos b1, if_neg (by omega)]
    have rA := rd_range s hs (p.tmod (s.length : Int))
    have rB := rd_range s hs ((p * 7 + 3).tmod (s.length : Int))
    generalize rd s (p.tmod (s.length : Int)) = A at rA ⊢
    generalize rd s ((p * 7 + 3).tmod (s.length : Int)) = B at rB ⊢
    generalize p.tdiv (s.length : Int) = C at c0 c1 ⊢
    have e1 : wrap64 A = A := by unfold wrap64; omega
    have e2 : wrap64 B = B := by unfold wrap64; omega
    have e3 : wrap64 C = C := by unfold wrap64; omega
    rw [e1, e2, e3]
    have e4 : wrap64 (A * 131) = A * 131 := by unfold wrap64; omega
    have e5 : wrap64 (B * 1117) = B * 1117 := by unfold wrap64; omega
    have e6 : wrap64 (p * 29) = p * 29 := by unfold wrap64; omega
    have e7 : wrap64 (C * 53) = C * 53 := by unfold wrap64; omega
    rw [e4, e5, e6, e7]
    have e8 : wrap64 (A * 131 + B * 1117) = A * 131 + B * 1117 := by unfold wrap64; omega
    rw [e8]
    have e9 : wrap64 (A * 131 + B * 1117 + p * 29) = A * 131 + B * 1117 + p * 29 := by unfold wrap64; omega
    rw [e9]
    have e10 : wrap64 (A * 131 + B * 1117 + p * 29 + C * 53) = A * 131 + B * 1117 + p * 29 + C * 53 := by unfold wrap64; omega
    rw [e10]
    have hS0 : 0 ≤ A * 131 + B * 1117 + p * 29 + C * 53 := by omega
    have hS1 : A * 131 + B * 1117 + p * 29 + C * 53 ≤ 4000000000000 := by omega
    generalize A * 131 + B * 1117 + p * 29 + C * 53 = S at hS0 hS1 ⊢
    have hd : -9000000000000000000 ≤ S.tdiv 64 ∧ S.tdiv 64 ≤ 9000000000000000000 := by have := Int.natAbs_tdiv_le_natAbs S 64; omega
    have e11 : wrap64 (S.tdiv 64) = S.tdiv 64 := by unfold wrap64; omega
    rw [e11]
    have hx := xor_nonneg S hS0 (by omega)
    exact ⟨_, rfl, Int.tmod_nonneg n hx, fun _ => Int.tmod_lt_of_pos _ (by omega), by omega⟩
theorem pick_pos (k : Nat) (s : List Int) (p n : Int) (hs : ∀ x ∈ s, 0 ≤ x ∧ x ≤ 255) (hl : s.length ≤ 2000) (hp : 0 ≤ p ∧ p ≤ 1000000) (hn : 1 ≤ n) (hk : 1 ≤ k) :
  ∃ v, spec_l20Rd_pick.f k s p n = some (v, p + 1) ∧ 0 ≤ v ∧ v < n := by
 obtain ⟨v, h1, h2, h3, _⟩ := pick_f k s p n hs hl hp hk
 exact ⟨v, h1, h2, h3 hn⟩
theorem open_f (l : List Int) (hs : ∀ x ∈ l, (Lit.int .u8 x).wf = true) : ∃ s, spec_l20Open.f l = some (s, 0) ∧ s.length ≤ 2000 ∧ ∀ x ∈ s, 0 ≤ x ∧ x ≤ 255 := by
 unfold spec_l20Open.f
 by_cases h : (l.length : Int) > 2000
 ·rw [if_pos h, if_pos (by omega)]
  exact ⟨_, rfl, by simp; omega, fun x hx => byte_of_wf (hs x (List.mem_of_mem_take hx))⟩
 ·rw [if_neg h]
  exact ⟨_, rfl, by omega, fun x hx => byte_of_wf (hs x hx)⟩

theorem alive_f (k : Nat) (hk : 9000000000000000001 ≤ k) : laws_alive.f k = some true := by
 unfold laws_alive.f
 have h1 : okF 1 2 = true := by decide
 have h2 : okF 2 4 = false := by decide
 rw [implFracOk_f k 1 2 hk, implFracOk_f k 2 4 hk, h1, h2]; rfl

theorem evPos {α : Type} {c : Prop} [Decidable c] {f g : Nat → Option α} {r : α} (h : c) (e : Ev f r) : Ev (fun k => if c then f k else g k) r := by
 simp only [if_pos h]; exact e
theorem evNeg {α : Type} {c : Prop} [Decidable c] {f g : Nat → Option α} {r : α} (h : ¬ c) (e : Ev g r) : Ev (fun k => if c then f k else g k) r := by
 simp only [if_neg h]; exact e
theorem evIs {α : Type} {g : Nat → Option α} {r r' : α} (e : Ev g r) (h : r = r') : Ev g r' := h ▸ e
theorem evIte {α : Type} {c : Prop} [Decidable c] {f g : Nat → Option α} {r : α} (e1 : c → Ev f r) (e2 : ¬ c → Ev g r) : Ev (fun k => if c then f k else g k) r := by
 by_cases h : c
 ·exact evPos h (e1 h)
 ·exact evNeg h (e2 h)
/-- What a number does, it does in one step more. -/
theorem w64 {j n : Nat} (h : j < n) (hn : n ≤ 9223372036854775807) : wrap64 ((j : Int) + 1) = ((j + 1 : Nat) : Int) := by unfold wrap64; omega
theorem rd_nat (xs : List Int) (j : Nat) : rd xs (j : Int) = xs.getD j 0 := by unfold rd; rw [Int.toNat_natCast]
theorem drop_step {α : Type} (xs : List α) (j : Nat) (z : α) (h : j < xs.length) : xs.drop j = xs.getD j z :: xs.drop (j + 1) := by
 rw [List.drop_eq_getElem_cons h, List.getD_eq_getElem?_getD, List.getElem?_eq_getElem h]; rfl
theorem drop_end {α : Type} (xs : List α) (j : Nat) (h : ¬ j < xs.length) : xs.drop j = [] := List.drop_eq_nil_of_le (by omega)
def debtOk (x : Int) : Bool := decide (0 ≤ x ∧ x ≤ 9)
def rowOk (c : List Int) (d : List (List Int)) (i : Nat) : Bool :=
 decide (0 ≤ c.getD i 0 ∧ c.getD i 0 ≤ 20) && ((d.getD i []).length == c.length) && ((d.getD i []).getD i 0 == 0) && (d.getD i []).all debtOk
/-- A book: what BookOk asks. -/
def okB (c : List Int) (d : List (List Int)) : Bool := decide (1 ≤ c.length ∧ c.length ≤ 4) && (d.length == c.length) && (List.range' 0 c.length).all (rowOk c d)
theorem range_step (i n : Nat) (h : i < n) : List.range' i (n - i) = i :: List.range' (i + 1) (n - (i + 1)) := by
 have : n - i = (n - (i + 1)) + 1 := by omega
 rw [this, List.range'_succ]
theorem range_end (i n : Nat) (h : ¬ i < n) : List.range' i (n - i) = [] := by
 have : n - i = 0 := by omega
 rw [this]; rfl
theorem rowOk_of {c : List Int} {d : List (List Int)} {i : Nat} (h1 : 0 ≤ c.getD i 0 ∧ c.getD i 0 ≤ 20) (h2 : (d.getD i []).length = c.length) (h3 : (d.getD i []).getD i 0 = 0) : rowOk c d i = (d.getD i []).all debtOk := by
 unfold rowOk; rw [decide_eq_true h1, beq_iff_eq.2 h2, beq_iff_eq.2 h3]; rfl
theorem rowOk_f1 {c : List Int} {d : List (List Int)} {i : Nat} (h1 : ¬ (0 ≤ c.getD i 0 ∧ c.getD i 0 ≤ 20)) : rowOk c d i = false := by
 unfold rowOk; rw [decide_eq_false h1]; rfl
theorem rowOk_f2 {c : List Int} {d : List (List Int)} {i : Nat} (h2 : ¬ (d.getD i []).length = c.length) : rowOk c d i = false := by
 unfold rowOk; rw [beq_eq_false_iff_ne.2 h2, Bool.and_false]; rfl
theorem rowOk_f3 {c : List Int} {d : List (List Int)} {i : Nat} (h3 : ¬ (d.getD i []).getD i 0 = 0) : rowOk c d i = false := by
 unfold rowOk; rw [beq_eq_false_iff_ne.2 h3, Bool.and_false]; rfl
theorem okB_of {c : List Int} {d : List (List Int)} (h1 : 1 ≤ c.length ∧ c.length ≤ 4) (h2 : d.length = c.length) : okB c d = (List.range' 0 c.length).all (rowOk c d) := by
 unfold okB; rw [decide_eq_true h1, beq_iff_eq.2 h2]; rfl
theorem okB_f1 {c : List Int} {d : List (List Int)} (h1 : ¬ (1 ≤ c.length ∧ c.length ≤ 4)) : okB c d = false := by
 unfold okB; rw [decide_eq_false h1]; rfl
theorem okB_f2 {c : List Int} {d : List (List Int)} (h2 : ¬ d.length = c.length) : okB c d = false := by
 unfold okB; rw [beq_eq_false_iff_ne.2 h2, Bool.and_false]; rfl
/-- What a book is like, row by row. -/
theorem okB_iff (c : List Int) (d : List (List Int)) : okB c d = true ↔ (1 ≤ c.length ∧ c.length ≤ 4) ∧ d.length = c.length ∧ ∀ i, i < c.length → (0 ≤ c.getD i 0 ∧ c.getD i 0 ≤ 20) ∧ (d.getD i []).length = c.length ∧ (d.getD i []).getD i 0 = 0 ∧ ∀ x ∈ d.getD i [], 0 ≤ x ∧ x ≤ 9 := by
 unfold okB
 rw [Bool.and_eq_true, Bool.and_eq_true, decide_eq_true_iff, beq_iff_eq, List.all_eq_true, and_assoc]
 refine and_congr_right fun _ => and_congr_right fun _ => ⟨fun h i hi => ?_, fun h i hi => ?_⟩
 ·have h2 := h i (by rw [List.mem_range']; exact ⟨i, hi, by omega⟩)
  unfold rowOk at h2
  rw [Bool.and_eq_true, Bool.and_eq_true, Bool.and_eq_true, decide_eq_true_iff, beq_iff_eq, beq_iff_eq, List.all_eq_true] at h2
  exact ⟨h2.1.1.1, h2.1.1.2, h2.1.2, fun x hx => of_decide_eq_true (h2.2 x hx)⟩
 ·obtain ⟨j, hj, rfl⟩ := List.mem_range'.1 hi
  have h2 := h (0 + 1 * j) (by omega)
  unfold rowOk
  rw [Bool.and_eq_true, Bool.and_eq_true, Bool.and_eq_true, decide_eq_true_iff, beq_iff_eq, beq_iff_eq, List.all_eq_true]
  exact ⟨⟨⟨h2.1, h2.2.1⟩, h2.2.2.1⟩, fun x hx => decide_eq_true (h2.2.2.2 x hx)⟩

theorem rdR_nat (xs : List (List Int)) (j : Nat) : rd_L1 xs (j : Int) = xs.getD j [] := by unfold rd_L1; rw [Int.toNat_natCast]

/-- The sum of numbers. -/
def sm : List Int → Int
 | [] => 0
 | x :: r => x + sm r
theorem getD_mem {xs : List Int} {j : Nat} (h : j < xs.length) : xs.getD j 0 ∈ xs := by
 rw [List.getD_eq_getElem?_getD, List.getElem?_eq_getElem h]; exact List.getElem_mem h
/-- What a bank owes in all; what it is owed, by the first i banks. -/
def owesI (d : List (List Int)) (i : Nat) : Int := sm (d.getD i [])
def owedI (d : List (List Int)) (i j : Nat) : Int := sm ((d.take i).map fun r => r.getD j 0)
def owesV (d : List (List Int)) (n : Nat) : List Int := (List.range n).map (owesI d)
def owedV (d : List (List Int)) (n : Nat) : List Int := (List.range n).map (owedI d n)
def netsV (d : List (List Int)) (n : Nat) : List Int := (List.range n).map fun i => owedI d n i - owesI d i
/-- The facts of a book, as they are used. -/
structure Bk (c : List Int) (d : List (List Int)) : Prop where
 n1 : 1 ≤ c.length
 n4 : c.length ≤ 4
 hd : d.length = c.length
 hr : ∀ i, i < c.length → (d.getD i []).length = c.length
 he : ∀ i, i < c.length → ∀ x ∈ d.getD i [], 0 ≤ x ∧ x ≤ 9
 hz : ∀ i, i < c.length → (d.getD i []).getD i 0 = 0
 hc : ∀ i, i < c.length → 0 ≤ c.getD i 0 ∧ c.getD i 0 ≤ 20
theorem Bk.of {c : List Int} {d : List (List Int)} (h : okB c d = true) : Bk c d := by
 obtain ⟨⟨a1, a2⟩, a3, a4⟩ := (okB_iff c d).1 h
 exact ⟨a1, a2, a3, fun i hi => (a4 i hi).2.1, fun i hi => (a4 i hi).2.2.2, fun i hi => (a4 i hi).2.2.1, fun i hi => (a4 i hi).1⟩
theorem Bk.ent {c : List Int} {d : List (List Int)} (h : Bk c d) {i j : Nat} (hi : i < c.length) (hj : j < c.length) : 0 ≤ (d.getD i []).getD j 0 ∧ (d.getD i []).getD j 0 ≤ 9 :=
 h.he i hi _ (getD_mem (by rw [h.hr i hi]; exact hj))
theorem getD_bound {d : List (List Int)} {n : Nat} (h : ∀ r ∈ d, r.length ≤ n) (i : Nat) : (d.getD i []).length ≤ n := by
 rw [List.getD_eq_getElem?_getD]
 by_cases hi : i < d.length
 ·rw [List.getElem?_eq_getElem hi]; exact h _ (List.getElem_mem hi)
 ·rw [List.getElem?_eq_none (by omega)]; simp

theorem pick_const (k : Nat) (s : List Int) (p n : Int) : spec_l20Rd_pick.f (k + 1) s p n = spec_l20Rd_pick.f 1 s p n := by
 unfold spec_l20Rd_pick.f
 simp only [spec_l20Rd_pick.j0]
/-- A byte source that is drawn from. -/
structure Src (s : List Int) : Prop where
 b : ∀ x ∈ s, 0 ≤ x ∧ x ≤ 255
 l : s.length ≤ 2000
theorem pick_ev {s : List Int} (h : Src s) {p n : Int} (hp : 0 ≤ p ∧ p ≤ 1000) (hn : 1 ≤ n) : ∃ v, Ev (fun k => spec_l20Rd_pick.f k s p n) (v, p + 1) ∧ 0 ≤ v ∧ v < n := by
 obtain ⟨v, h1, h2, h3⟩ := pick_pos 1 s p n h.b h.l (by omega) hn (by omega)
 refine ⟨v, ⟨1, fun k hk => ?_⟩, h2, h3⟩
 obtain ⟨k, rfl⟩ : ∃ m, k = m + 1 := ⟨k - 1, by omega⟩
 show spec_l20Rd_pick.f (k + 1) s p n = _
 rw [pick_const]
 exact h1
theorem odd_ev {s : List Int} (h : Src s) {p n : Int} (hp : 0 ≤ p ∧ p ≤ 1000) : ∃ b p', Ev (fun k => spec_l20Rd_odd.f k s p n) (b, p') ∧ 0 ≤ p' ∧ p' ≤ p + 1 := by
 by_cases hn : n > 0
 ·obtain ⟨v, h1, _⟩ := pick_ev h hp (show 1 ≤ n by omega)
  refine ⟨_, p + 1, Ev.congr (fun k => by unfold spec_l20Rd_odd.f; rfl) (evPos hn (Ev.bind h1 (Ev.now _))), by omega, by omega⟩
 ·exact ⟨_, p, Ev.congr (fun k => by unfold spec_l20Rd_odd.f; rfl) (evNeg hn (Ev.now _)), by omega, by omega⟩
/-- What a drawn book is like: it is small. -/
def Small (r : List Int × List (List Int) × Int) : Prop := r.1.length ≤ 4 ∧ r.2.1.length ≤ 4 ∧ ∀ x ∈ r.2.1, x.length ≤ 4
theorem small_set {d : List (List Int)} {b : Nat} (hd : ∀ r ∈ d, r.length = b) (hb : b ≤ 4) (i : Nat) (x : List Int) (hx : x.length ≤ 4) : ∀ r ∈ d.set i x, r.length ≤ 4 := by
 intro r hr
 rcases List.mem_or_eq_of_mem_set hr with h | h
 ·have := hd r h; omega
 ·rw [h]; exact hx
theorem rows_at {d : List (List Int)} {b : Nat} (hd : ∀ r ∈ d, r.length = b) (i : Int) (h0 : 0 ≤ i) (h1 : i < (d.length : Int)) : (rd_L1 d i).length = b := by
 unfold rd_L1
 rw [List.getD_eq_getElem?_getD, List.getElem?_eq_getElem (show i.toNat < d.length by omega)]
 exact hd _ (List.getElem_mem _)
theorem bookEnd {s : List Int} (h : Src s) (n : Int) (b : Nat) (kd : Int) (hb : 1 ≤ b ∧ b ≤ 4) (c : List Int) (d : List (List Int)) (p : Int) (hc : c.length = b) (hd : d.length = b) (hr : ∀ r ∈ d, r.length = b) (hp : 0 ≤ p ∧ p ≤ 900) :
  ∃ r, Ev (fun k => spec_l20Book.l0 k n (b : Int) kd (b : Int) s p c d) r ∧ Small r := by
 obtain ⟨o, q, ho, q0, q1⟩ := odd_ev (n := n) h (show 0 ≤ p ∧ p ≤ 1000 by omega)
 have sm : Small (c, d, q) := ⟨show c.length ≤ 4 by omega, show d.length ≤ 4 by omega, fun r (h : r ∈ d) => by have := hr r h; omega⟩
 by_cases hob : o = true
 ·obtain ⟨v, hv, v0, v1⟩ := pick_ev (n := 4) h (show 0 ≤ q ∧ q ≤ 1000 by omega) (by omega)
  have go : ∀ {r}, Ev (fun k => if v = 0 then some (([] : List Int), ([] : List (List Int)), q + 1) else (if v = 1 then (if 0 < (c.length : Int) then (some ((c.set (0 : Int).toNat (-1)), d, q + 1)) else (none)) else (if v = 2 then (if 0 < (d.length : Int) then (if 0 < ((rd_L1 d 0).length : Int) then (some (c, (d.set (0 : Int).toNat ((rd_L1 d 0).set (0 : Int).toNat 1)), q + 1)) else (none)) else (none)) else (if 0 ≤ wrap64 ((b : Int) - 1) then (if wrap64 ((b : Int) - 1) < (d.length : Int) then (if 1 ≤ ((rd_L1 d (wrap64 ((b : Int) - 1))).length : Int) then (some (c, (d.set (wrap64 ((b : Int) - 1)).toNat ((rd_L1 d (wrap64 ((b : Int) - 1))).drop 1)), q + 1)) else (none)) else (none)) else (none))))) r →
    Ev (fun k => spec_l20Book.l0 k n (b : Int) kd (b : Int) s p c d) r := fun e =>
   Ev.step (fun k => by rw [spec_l20Book.l0]) (evNeg (by omega) (Ev.bind ho (evPos hob (Ev.bind hv e))))
  have r0 := rows_at hr 0 (by omega) (by omega)
  have hw : wrap64 ((b : Int) - 1) = (b : Int) - 1 := by unfold wrap64; omega
  have r1 := rows_at hr (wrap64 ((b : Int) - 1)) (by omega) (by omega)
  by_cases e0 : v = 0
  ·exact ⟨_, go (evPos e0 (Ev.now _)), by simp [Small]⟩
  by_cases e1 : v = 1
  ·exact ⟨_, go (evNeg e0 (evPos e1 (evPos (by omega) (Ev.now _)))), by simp only [Small, List.length_set]; exact ⟨by omega, by omega, fun r h => by have := hr r h; omega⟩⟩
  by_cases e2 : v = 2
  ·exact ⟨_, go (evNeg e0 (evNeg e1 (evPos e2 (evPos (by omega) (evPos (by omega) (Ev.now _)))))), by
    simp only [Small, List.length_set]; exact ⟨by omega, by omega, small_set hr (by omega) _ _ (by rw [List.length_set]; omega)⟩⟩
  ·exact ⟨_, go (evNeg e0 (evNeg e1 (evNeg e2 (evPos (by omega) (evPos (by omega) (evPos (by omega) (Ev.now _))))))), by
    simp only [Small, List.length_set]; exact ⟨by omega, by omega, small_set hr (by omega) _ _ (by rw [List.length_drop]; omega)⟩⟩
 ·exact ⟨_, Ev.step (fun k => by rw [spec_l20Book.l0]) (evNeg (by omega) (Ev.bind ho (evNeg hob (Ev.now _)))), sm⟩
/-- One row. -/
theorem bookRow {s : List Int} (h : Src s) (n : Int) (b : Nat) (kd : Int) (hb : 1 ≤ b ∧ b ≤ 4) (i : Nat) (c : List Int) (d : List (List Int)) (hi : i < b) (hd : d.length ≤ 4) (hc : c.length ≤ 4) :
  ∀ (m j : Nat) (row : List Int) (p : Int), j + m = b → row.length = j → 0 ≤ p → p + 2 * m ≤ 900 →
   (∀ (row' : List Int) (p' : Int), row'.length = b → 0 ≤ p' → p' ≤ p + 2 * m → ∃ r, Ev (fun k => spec_l20Book.l0 k n (b : Int) kd ((i + 1 : Nat) : Int) s p' c (d ++ [row'])) r ∧ Small r) →
   ∃ r, Ev (fun k => spec_l20Book.l1 k n (b : Int) kd (i : Int) row (j : Int) s p c d) r ∧ Small r
 | 0, j, row, p, hj, hr, h0, h1, go => by
  obtain ⟨r, e, sm⟩ := go row p (by omega) h0 (by omega)
  refine ⟨r, Ev.step (fun k => by rw [spec_l20Book.l1]) (evNeg (by omega) (evPos (by omega) ?_)), sm⟩
  have : wrap64 ((i : Int) + 1) = ((i + 1 : Nat) : Int) := by unfold wrap64; omega
  rw [this]
  exact e
 | m + 1, j, row, p, hj, hr, h0, h1, go => by
  have hw : wrap64 ((j : Int) + 1) = ((j + 1 : Nat) : Int) := by unfold wrap64; omega
  by_cases hij : (i : Int) = (j : Int)
  ·obtain ⟨r, e, sm⟩ := bookRow h n b kd hb i c d hi hd hc m (j + 1) (row ++ [0]) p (by omega) (by simp; omega) h0 (by omega) (fun row' p' a1 a2 a3 => go row' p' a1 a2 (by omega))
   refine ⟨r, Ev.step (fun k => by rw [spec_l20Book.l1]) (evPos (by omega) (evPos hij (evPos (by omega) ?_))), sm⟩
   rw [hw]; exact e
  ·obtain ⟨v, hv, v0, v1⟩ := pick_ev (n := 3) h (show 0 ≤ p ∧ p ≤ 1000 by omega) (by omega)
   by_cases hv0 : v > 0
   ·obtain ⟨u, hu, u0, u1⟩ := pick_ev (n := 10) h (show 0 ≤ p + 1 ∧ p + 1 ≤ 1000 by omega) (by omega)
    obtain ⟨r, e, sm⟩ := bookRow h n b kd hb i c d hi hd hc m (j + 1) (row ++ [u]) (p + 1 + 1) (by omega) (by simp; omega) (by omega) (by omega) (fun row' p' a1 a2 a3 => go row' p' a1 a2 (by omega))
    refine ⟨r, Ev.step (fun k => by rw [spec_l20Book.l1]) (evPos (by omega) (evNeg hij (Ev.bind hv (evPos hv0 (Ev.bind hu ?_))))), sm⟩
    simp only []
    refine evPos (by omega) ?_
    rw [hw]; exact e
   ·obtain ⟨r, e, sm⟩ := bookRow h n b kd hb i c d hi hd hc m (j + 1) (row ++ [0]) (p + 1) (by omega) (by simp; omega) (by omega) (by omega) (fun row' p' a1 a2 a3 => go row' p' a1 a2 (by omega))
    refine ⟨r, Ev.step (fun k => by rw [spec_l20Book.l1]) (evPos (by omega) (evNeg hij (Ev.bind hv (evNeg hv0 ?_)))), sm⟩
    simp only []
    refine evPos (by omega) ?_
    rw [hw]; exact e
theorem bookRows {s : List Int} (h : Src s) (n : Int) (b : Nat) (kd : Int) (hb : 1 ≤ b ∧ b ≤ 4) (hk : 0 ≤ kd ∧ kd < 3) :
  ∀ (m i : Nat) (c : List Int) (d : List (List Int)) (p : Int), i + m = b → c.length = i → d.length = i → (∀ r ∈ d, r.length = b) → 0 ≤ p → p + 10 * m ≤ 900 →
   ∃ r, Ev (fun k => spec_l20Book.l0 k n (b : Int) kd (i : Int) s p c d) r ∧ Small r
 | 0, i, c, d, p, hi, hc, hd, hr, h0, h1 => by
  obtain rfl : i = b := by omega
  exact bookEnd h n i kd hb c d p hc hd hr (by omega)
 | m + 1, i, c, d, p, hi, hc, hd, hr, h0, h1 => by
  obtain ⟨v, hv, v0, v1⟩ := pick_ev (n := 4) h (show 0 ≤ p ∧ p ≤ 1000 by omega) (by omega)
  obtain ⟨u, hu, u0, u1⟩ := pick_ev (n := 21) h (show 0 ≤ p + 1 ∧ p + 1 ≤ 1000 by omega) (by omega)
  obtain ⟨r, e, sm⟩ := bookRow h n b kd hb i (c ++ [rd [0, v, u] kd]) d (by omega) (by omega) (by simp; omega) b 0 [] (p + 1 + 1) (by omega) rfl (by omega) (by omega)
   (fun row' p' a1 a2 a3 => bookRows h n b kd hb hk m (i + 1) (c ++ [rd [0, v, u] kd]) (d ++ [row']) p' (by omega) (by simp; omega) (by simp; omega) (fun r hr' => by
    rcases List.mem_append.1 hr' with h2 | h2
    ·exact hr r h2
    ·rw [List.mem_singleton.1 h2]; exact a1) a2 (by omega))
  refine ⟨r, Ev.step (fun k => by rw [spec_l20Book.l0]) (evPos (by omega) (Ev.bind hv (Ev.bind hu ?_))), sm⟩
  simp only [Option.bind_some]
  exact evPos (by omega) (evPos (by simp; omega) (evPos (by omega) e))
/-- A drawn book. -/
theorem l20Book_ev {s : List Int} (h : Src s) (p n : Int) (hp : 0 ≤ p ∧ p ≤ 100) : ∃ r, Ev (fun k => spec_l20Book.f k s p n) r ∧ Small r := by
 obtain ⟨t, ht, t0, t1⟩ := pick_ev (n := 6) h (show 0 ≤ p ∧ p ≤ 1000 by omega) (by omega)
 obtain ⟨kd, hk, k0, k1⟩ := pick_ev (n := 3) h (show 0 ≤ p + 1 ∧ p + 1 ≤ 1000 by omega) (by omega)
 obtain ⟨b, hb, hb2⟩ : ∃ b : Nat, rd ([1, 2, 3, 3, 4, 4] : List Int) t = (b : Int) ∧ 1 ≤ b ∧ b ≤ 4 := by
  have : t = 0 ∨ t = 1 ∨ t = 2 ∨ t = 3 ∨ t = 4 ∨ t = 5 := by omega
  rcases this with rfl | rfl | rfl | rfl | rfl | rfl
  ·exact ⟨1, rfl, by omega⟩
  ·exact ⟨2, rfl, by omega⟩
  ·exact ⟨3, rfl, by omega⟩
  ·exact ⟨3, rfl, by omega⟩
  ·exact ⟨4, rfl, by omega⟩
  ·exact ⟨4, rfl, by omega⟩
 obtain ⟨r, e, sm⟩ := bookRows h n b kd hb2 ⟨k0, k1⟩ b 0 [] [] (p + 1 + 1) (by omega) rfl rfl (fun r hr => by cases hr) (by omega) (by omega)
 refine ⟨r, ?_, sm⟩
 unfold spec_l20Book.f
 simp only [Option.bind_some]
 refine Ev.bind ht ?_
 simp only []
 refine evPos t0 (evPos (by simp; omega) (Ev.bind hk ?_))
 simp only []
 rw [hb]; exact e
theorem src_of (l : List Int) (hs : ∀ x ∈ l, (Lit.int .u8 x).wf = true) : ∃ s, spec_l20Open.f l = some (s, 0) ∧ Src s := by
 obtain ⟨s, h1, h2, h3⟩ := open_f l hs
 exact ⟨s, h1, h3, h2⟩
theorem alive_ev : Ev (fun k => laws_alive.f k) true := ⟨9000000000000000001, fun k hk => alive_f k hk⟩
/-- The draw that all these laws make. -/
theorem drawn_ev (l : List Int) (hs : ∀ x ∈ l, (Lit.int .u8 x).wf = true) (n : Int) (D : Nat → List Int → Option (List Int × List (List Int))) (hD : ∀ k l, D k l = (spec_l20Open.f l).bind fun a => (spec_l20Book.f k a.1 a.2 n).bind fun b => some (b.1, b.2.1)) :
  ∃ c d, Ev (fun k => D k l) (c, d) ∧ c.length ≤ 4 ∧ d.length ≤ 4 ∧ ∀ i, (d.getD i []).length ≤ 4 := by
 obtain ⟨s, h1, h2⟩ := src_of l hs
 obtain ⟨⟨c, d, p⟩, e, s1, s2, s3⟩ := l20Book_ev h2 0 n (by omega)
 exact ⟨c, d, Ev.congr (f := fun k => (spec_l20Book.f k s 0 n).bind fun b => some (b.1, b.2.1)) (fun k => by rw [hD, h1]; rfl) (Ev.bind e (Ev.now _)), s1, s2, getD_bound s3⟩

theorem l1In_b (n a b : Int) : spec_l1In.f n a b = some (decide (a ≤ n ∧ n ≤ b)) := by
 unfold spec_l1In.f
 by_cases h : n ≥ a
 ·rw [if_pos h]; congr 1; rw [Bool.eq_iff_iff, decide_eq_true_iff, decide_eq_true_iff]; omega
 ·rw [if_neg h]; congr 1; symm; exact decide_eq_false (by omega)
theorem specBookOk_l1 (c : List Int) (d : List (List Int)) (i : Nat) (hi : i < d.length) (hr : (d.getD i []).length ≤ 9223372036854775807) (r : Bool) (hn : Ev (fun k => spec_BookOk.l0 k (wrap64 ((i : Int) + 1)) c d) r) :
  ∀ (m j : Nat), j + m = (d.getD i []).length → Ev (fun k => spec_BookOk.l1 k (i : Int) (j : Int) c d) (((d.getD i []).drop j).all debtOk && r)
 | 0, j => fun h => by
  rw [drop_end _ _ (by omega)]
  refine Ev.step (fun k => ?_) hn
  simp only [spec_BookOk.l1]
  rw [rdR_nat, if_pos (by omega), if_pos (by omega), if_neg (by omega)]
 | m + 1, j => fun h => by
  rw [drop_step _ j 0 (by omega), List.all_cons]
  have ih := specBookOk_l1 c d i hi hr r hn m (j + 1) (by omega)
  have hstep : ∀ k, spec_BookOk.l1 (k + 1) (i : Int) (j : Int) c d = if debtOk ((d.getD i []).getD j 0) = true then spec_BookOk.l1 k (i : Int) ((j + 1 : Nat) : Int) c d else some false := by
   intro k
   simp only [spec_BookOk.l1]
   rw [rdR_nat, if_pos (by omega), if_pos (by omega), if_pos (by omega), if_pos (by omega), rd_nat, l1In_b, w64 (show j < (d.getD i []).length by omega) hr]
   rfl
  refine Ev.step hstep ?_
  cases hb : debtOk ((d.getD i []).getD j 0) with
  | true => exact evPos rfl (by simpa using ih)
  | false => exact evNeg (by simp) (by simpa using Ev.now false)
theorem specBookOk_l0 (c : List Int) (d : List (List Int)) (hc : c.length ≤ 9223372036854775807) (hd : d.length = c.length) (hr : ∀ i, (d.getD i []).length ≤ 9223372036854775807) :
  ∀ (m i : Nat), i + m = c.length → Ev (fun k => spec_BookOk.l0 k (i : Int) c d) ((List.range' i (c.length - i)).all (rowOk c d))
 | 0, i => fun h => by
  rw [range_end _ _ (by omega)]
  refine Ev.step (f := fun _ => some true) (fun k => ?_) (Ev.now true)
  simp only [spec_BookOk.l0]
  rw [if_neg (by omega)]
 | m + 1, i => fun h => by
  rw [range_step _ _ (by omega), List.all_cons]
  have ih := specBookOk_l0 c d hc hd hr m (i + 1) (by omega)
  rw [← w64 (show i < c.length by omega) hc] at ih
  refine Ev.step (fun k => by simp only [spec_BookOk.l0]; rfl) ?_
  rw [rdR_nat]
  simp only [rd_nat, l1In_b, Option.bind_some]
  refine evPos (by omega) (evPos (by omega) ?_)
  have fin : ∀ b : Bool, b = true → Ev (fun k => spec_BookOk.j2 k (i : Int) b c d) false := fun b hb => by
   refine Ev.step (f := fun _ => some false) (fun k => ?_) (Ev.now false)
   simp only [spec_BookOk.j2]
   rw [if_pos hb]
  by_cases h1 : 0 ≤ c.getD i 0 ∧ c.getD i 0 ≤ 20
  ·refine evPos (decide_eq_true_iff.2 h1) (evPos (by omega) ?_)
   by_cases h2 : (d.getD i []).length = c.length
   ·refine evPos (by omega) (evPos (by omega) ?_)
    by_cases h3 : (d.getD i []).getD i 0 = 0
    ·have l1 := specBookOk_l1 c d i (by omega) (hr i) _ ih (d.getD i []).length 0 (by omega)
     refine Ev.step (f := fun k => spec_BookOk.l1 k (i : Int) ((0 : Nat) : Int) c d) (fun k => ?_) (evIs l1 ?_)
     ·simp only [spec_BookOk.j2]
      rw [if_neg (by simpa using h3)]; rfl
     ·rw [rowOk_of h1 h2 h3, List.drop_zero]
    ·exact evIs (fin _ (by simpa using h3)) (by rw [rowOk_f3 h3, Bool.false_and])
   ·exact evNeg (by omega) (evIs (fin _ rfl) (by rw [rowOk_f2 h2, Bool.false_and]))
  ·exact evNeg (fun h => h1 (decide_eq_true_iff.1 h)) (evIs (fin _ rfl) (by rw [rowOk_f1 h1, Bool.false_and]))
theorem specBookOk_f (c : List Int) (d : List (List Int)) (hc : c.length ≤ 9223372036854775807) (hr : ∀ i, (d.getD i []).length ≤ 9223372036854775807) : Ev (fun k => spec_BookOk.f k c d) (okB c d) := by
 refine Ev.congr (fun k => by unfold spec_BookOk.f; rw [l1In_b, Option.bind_some]) ?_
 have fin : ∀ b : Bool, b = true → Ev (fun k => spec_BookOk.j0 k b c d) false := fun b hb => by
  refine Ev.step (f := fun _ => some false) (fun k => ?_) (Ev.now false)
  simp only [spec_BookOk.j0]
  rw [if_pos hb]
 by_cases h1 : 1 ≤ c.length ∧ c.length ≤ 4
 ·refine evPos (decide_eq_true_iff.2 (by omega)) ?_
  by_cases h2 : d.length = c.length
  ·have l0 := specBookOk_l0 c d hc h2 hr c.length 0 (by omega)
   refine Ev.step (f := fun k => spec_BookOk.l0 k ((0 : Nat) : Int) c d) (fun k => ?_) (evIs l0 ?_)
   ·simp only [spec_BookOk.j0]
    rw [if_neg (by simp [h2])]; rfl
   ·rw [okB_of h1 h2]; rfl
  ·exact evIs (fin _ (by simp; omega)) (by rw [okB_f2 h2])
 ·exact evNeg (fun h => by have := decide_eq_true_iff.1 h; omega) (evIs (fin _ rfl) (by rw [okB_f1 h1]))

theorem isBook_l1 (c : List Int) (d : List (List Int)) (n D I : Int) (row : List Int) (hr : row.length ≤ 9223372036854775807) (r : Bool) (hn : Ev (fun k => impl_isBook.l0 k n d D (wrap64 (I + 1)) c d) r) :
  ∀ (m j : Nat), j + m = row.length → Ev (fun k => impl_isBook.l1 k n d D I row (row.length : Int) (j : Int) c d) ((row.drop j).all debtOk && r)
 | 0, j => fun h => by
  rw [drop_end _ _ (by omega)]
  refine Ev.step (fun k => ?_) hn
  simp only [impl_isBook.l1]
  rw [if_neg (by omega)]
 | m + 1, j => fun h => by
  rw [drop_step _ j 0 (by omega), List.all_cons]
  have ih := isBook_l1 c d n D I row hr r hn m (j + 1) (by omega)
  have hstep : ∀ k, impl_isBook.l1 (k + 1) n d D I row (row.length : Int) (j : Int) c d = if debtOk (row.getD j 0) = true then impl_isBook.l1 k n d D I row (row.length : Int) ((j + 1 : Nat) : Int) c d else some false := by
   intro k
   simp only [impl_isBook.l1]
   rw [if_pos (by omega), if_pos (by omega), if_pos (by omega), rd_nat, w64 (show j < row.length by omega) hr]
   unfold debtOk
   by_cases a : row.getD j 0 < 0
   ·rw [if_pos a, if_neg (by rw [decide_eq_true_iff]; omega)]
   ·by_cases b : row.getD j 0 > 9
    ·rw [if_neg a, if_pos b, if_neg (by rw [decide_eq_true_iff]; omega)]
    ·rw [if_neg a, if_neg b, if_pos (by rw [decide_eq_true_iff]; omega)]
  refine Ev.step hstep ?_
  cases hb : debtOk (row.getD j 0) with
  | true => exact evPos rfl (by simpa using ih)
  | false => exact evNeg (by simp) (by simpa using Ev.now false)
theorem isBook_l0 (c : List Int) (d : List (List Int)) (hc : c.length ≤ 9223372036854775807) (hd : d.length = c.length) (hr : ∀ i, (d.getD i []).length ≤ 9223372036854775807) :
  ∀ (m i : Nat), i + m = c.length → Ev (fun k => impl_isBook.l0 k (c.length : Int) d (d.length : Int) (i : Int) c d) ((List.range' i (c.length - i)).all (rowOk c d))
 | 0, i => fun h => by
  rw [range_end _ _ (by omega)]
  refine Ev.step (f := fun _ => some true) (fun k => ?_) (Ev.now true)
  simp only [impl_isBook.l0]
  rw [if_neg (by omega)]
 | m + 1, i => fun h => by
  rw [range_step _ _ (by omega), List.all_cons]
  have ih := isBook_l0 c d hc hd hr m (i + 1) (by omega)
  rw [← w64 (show i < c.length by omega) hc] at ih
  refine Ev.step (fun k => by simp only [impl_isBook.l0]; rfl) ?_
  rw [rdR_nat]
  simp only [rd_nat]
  refine evPos (by omega) (evPos (by omega) (evPos (by omega) (evPos (by omega) ?_)))
  have fin : ∀ b : Bool, b = true → Ev (fun k => impl_isBook.j2 k (c.length : Int) (d.getD i []) d (d.length : Int) (i : Int) b c d) false := fun b hb => by
   refine Ev.step (f := fun _ => some false) (fun k => ?_) (Ev.now false)
   simp only [impl_isBook.j2]
   rw [if_pos hb]
  by_cases h1 : c.getD i 0 < 0
  ·refine evPos h1 (evIs (fin _ rfl) ?_)
   rw [rowOk_f1 (by omega), Bool.false_and]
  refine evNeg h1 ?_
  by_cases h2 : c.getD i 0 > 20
  ·refine evPos h2 (evIs (fin _ rfl) ?_)
   rw [rowOk_f1 (by omega), Bool.false_and]
  refine evNeg h2 ?_
  have h12 : 0 ≤ c.getD i 0 ∧ c.getD i 0 ≤ 20 := by omega
  by_cases h3 : (d.getD i []).length = c.length
  ·refine evPos (by omega) (evPos (by omega) ?_)
   by_cases h4 : (d.getD i []).getD i 0 = 0
   ·have l1 := isBook_l1 c d (c.length : Int) (d.length : Int) (i : Int) (d.getD i []) (hr i) _ ih (d.getD i []).length 0 (by omega)
    refine Ev.step (f := fun k => impl_isBook.l1 k (c.length : Int) d (d.length : Int) (i : Int) (d.getD i []) ((d.getD i []).length : Int) ((0 : Nat) : Int) c d) (fun k => ?_) (evIs l1 ?_)
    ·simp only [impl_isBook.j2]
     rw [if_neg (by simpa using h4)]; rfl
    ·rw [rowOk_of h12 h3 h4, List.drop_zero]
   ·exact evIs (fin _ (by simpa using h4)) (by rw [rowOk_f3 h4, Bool.false_and])
  ·exact evNeg (by omega) (evIs (fin _ rfl) (by rw [rowOk_f2 h3, Bool.false_and]))
theorem isBook_f (c : List Int) (d : List (List Int)) (hc : c.length ≤ 9223372036854775807) (hr : ∀ i, (d.getD i []).length ≤ 9223372036854775807) : Ev (fun k => impl_isBook.f k c d) (okB c d) := by
 refine Ev.congr (fun k => by unfold impl_isBook.f; rfl) ?_
 have fin : ∀ b : Bool, b = true → Ev (fun k => impl_isBook.j0 k (c.length : Int) b c d) false := fun b hb => by
  refine Ev.step (f := fun _ => some false) (fun k => ?_) (Ev.now false)
  simp only [impl_isBook.j0]
  rw [if_pos hb]
 by_cases h1 : (c.length : Int) < 1
 ·exact evPos h1 (evIs (fin _ rfl) (by rw [okB_f1 (by omega)]))
 refine evNeg h1 ?_
 by_cases h2 : (c.length : Int) > 4
 ·exact evPos h2 (evIs (fin _ rfl) (by rw [okB_f1 (by omega)]))
 refine evNeg h2 ?_
 have h12 : 1 ≤ c.length ∧ c.length ≤ 4 := by omega
 by_cases h3 : d.length = c.length
 ·have l0 := isBook_l0 c d hc h3 hr c.length 0 (by omega)
  refine Ev.step (f := fun k => impl_isBook.l0 k (c.length : Int) d (d.length : Int) ((0 : Nat) : Int) c d) (fun k => ?_) (evIs l0 ?_)
  ·simp only [impl_isBook.j0]
   rw [if_neg (by simp [h3])]; rfl
  ·rw [okB_of h12 h3]; rfl
 ·exact evIs (fin _ (by simp; omega)) (by rw [okB_f2 h3])

theorem sameInts_l0 (l : List Int) (hl : l.length ≤ 1000) : ∀ (m i : Nat), i + m = l.length → Ev (fun k => laws_sameInts.l0 k l l (i : Int)) true
 | 0, i, h => Ev.step (fun k => by rw [laws_sameInts.l0]) (evNeg (by omega) (Ev.now true))
 | m + 1, i, h => Ev.step (fun k => by rw [laws_sameInts.l0]) (evPos (by omega) (evPos (by omega) (evPos (by omega) (evPos rfl (by
   rw [w64 (show i < l.length by omega) (by omega)]; exact sameInts_l0 l hl m (i + 1) (by omega))))))
theorem sameInts_f (l : List Int) (hl : l.length ≤ 1000) : Ev (fun k => laws_sameInts.f k l l) true :=
 Ev.congr (fun k => by unfold laws_sameInts.f; rfl) (evPos rfl (sameInts_l0 l hl l.length 0 (by omega)))

theorem sameRows_l0 (l : List (List Int)) (hl : l.length ≤ 1000) (hr : ∀ i, (l.getD i []).length ≤ 1000) : ∀ (m i : Nat), i + m = l.length → Ev (fun k => laws_sameRows.l0 k l l (i : Int)) true
 | 0, i, h => Ev.step (fun k => by rw [laws_sameRows.l0]) (evNeg (by omega) (Ev.now true))
 | m + 1, i, h => by
  refine Ev.step (fun k => by rw [laws_sameRows.l0]) (evPos (by omega) (evPos (by omega) (evPos (by omega) ?_)))
  rw [rdR_nat, w64 (show i < l.length by omega) (by omega)]
  exact Ev.bind (sameInts_f _ (hr i)) (evPos rfl (sameRows_l0 l hl hr m (i + 1) (by omega)))
theorem sameRows_f (l : List (List Int)) (hl : l.length ≤ 1000) (hr : ∀ i, (l.getD i []).length ≤ 1000) : Ev (fun k => laws_sameRows.f k l l) true :=
 Ev.congr (fun k => by unfold laws_sameRows.f; rfl) (evPos rfl (sameRows_l0 l hl hr l.length 0 (by omega)))
theorem diff_l0 (a b : List Int) (hl : a.length ≤ 1000) (he : a.length = b.length) : ∀ (m i : Nat), i + m = a.length → (∃ t, i ≤ t ∧ t < a.length ∧ a.getD t 0 ≠ b.getD t 0) → Ev (fun k => laws_sameInts.l0 k a b (i : Int)) false
 | 0, i, h, ⟨t, h1, h2, _⟩ => by omega
 | m + 1, i, h, ⟨t, h1, h2, h3⟩ => by
  refine Ev.step (fun k => by rw [laws_sameInts.l0]) (evPos (by omega) (evPos (by omega) (evPos (by omega) ?_)))
  rw [rd_nat, rd_nat]
  by_cases e : a.getD i 0 = b.getD i 0
  ·refine evPos e ?_
   rw [w64 (show i < a.length by omega) (by omega)]
   refine diff_l0 a b hl he m (i + 1) (by omega) ⟨t, ?_, h2, h3⟩
   by_cases e2 : t = i
   ·exact absurd e (e2 ▸ h3)
   ·omega
  ·exact evNeg e (Ev.now _)
theorem diff_f (a b : List Int) (hl : a.length ≤ 1000) (hne : a ≠ b) : Ev (fun k => laws_sameInts.f k a b) false := by
 refine Ev.congr (fun k => by unfold laws_sameInts.f; rfl) ?_
 by_cases he : a.length = b.length
 ·refine evPos (by omega) (diff_l0 a b hl he a.length 0 (by omega) (Classical.byContradiction fun hno => hne (List.ext_getElem he fun t h1 h2 => ?_)))
  have : a.getD t 0 = b.getD t 0 := Classical.byContradiction fun h => hno ⟨t, by omega, h1, h⟩
  rw [List.getD_eq_getElem?_getD, List.getD_eq_getElem?_getD, List.getElem?_eq_getElem h1, List.getElem?_eq_getElem h2] at this
  exact this
 ·exact evNeg (by omega) (Ev.now _)

/-- A bank that is left, to which no other one that is left owes anything. -/
def freeB (d : List (List Int)) (n : Nat) (out : List Int) (i : Nat) : Prop := (i : Int) ∉ out ∧ ∀ j, j < n → (j : Int) ∈ out ∨ (d.getD j []).getD i 0 = 0
theorem index_l0 (xs : List Int) (x : Int) (hl : xs.length ≤ 1000) : ∀ (m i : Nat), i + m = xs.length → (∀ j, j < i → xs.getD j 0 ≠ x) → ∃ r : Int, Ev (fun k => slices_Index_int_int.l0 k xs x (xs.length : Int) (i : Int)) r ∧ (0 ≤ r ↔ x ∈ xs)
 | 0, i, h, hn => by
  refine ⟨-1, Ev.step (fun k => by rw [slices_Index_int_int.l0]) (evNeg (by omega) (Ev.now _)), ⟨fun a => by omega, fun a => ?_⟩⟩
  obtain ⟨j, hj, e⟩ := List.mem_iff_getElem.1 a
  exact absurd (by rw [List.getD_eq_getElem?_getD, List.getElem?_eq_getElem hj]; exact e) (hn j (by omega))
 | m + 1, i, h, hn => by
  by_cases e : xs.getD i 0 = x
  ·refine ⟨(i : Int), Ev.step (fun k => by rw [slices_Index_int_int.l0]) (evPos (by omega) (evPos (by omega) (evPos (by omega) (evPos (by rw [rd_nat]; exact e.symm) (Ev.now _))))), ⟨fun _ => ?_, fun _ => by omega⟩⟩
   rw [← e]; exact getD_mem (by omega)
  ·obtain ⟨r, hr, hi⟩ := index_l0 xs x hl m (i + 1) (by omega) (fun j hj => by
    by_cases e2 : j = i
    ·subst e2; exact e
    ·exact hn j (by omega))
   refine ⟨r, Ev.step (fun k => by rw [slices_Index_int_int.l0]) (evPos (by omega) (evPos (by omega) (evPos (by omega) (evNeg (by rw [rd_nat]; exact fun a => e a.symm) ?_)))), hi⟩
   rw [w64 (show i < xs.length by omega) (by omega)]
   exact hr
theorem contains_f (xs : List Int) (x : Int) (hl : xs.length ≤ 1000) : Ev (fun k => slices_Contains_int_int.f k xs x) (decide (x ∈ xs)) := by
 obtain ⟨r, hr, hi⟩ := index_l0 xs x hl xs.length 0 (by omega) (fun j hj => by omega)
 refine Ev.congr (fun k => by unfold slices_Contains_int_int.f; rfl) (Ev.bind (Ev.congr (fun k => by unfold slices_Index_int_int.f; rfl) hr) (evIs (Ev.now _) ?_))
 exact decide_eq_decide.2 hi
theorem ordImpl_no {c : List Int} {d : List (List Int)} (B : Bk c d) {out : List Int} {i : Nat} (hi : i < c.length) {res : List Int × Bool} (e : Ev (fun k => impl_OrderOf.l1 k out (-1) (c.length : Int) ((i + 1 : Nat) : Int) c d) res) :
  ∀ m j, j + m = c.length → Ev (fun k => impl_OrderOf.l2 k out (-1) (i : Int) false (c.length : Int) (i : Int) d (d.length : Int) (j : Int) c d) res
 | 0, j, hj => by
  have hd := B.hd
  have n4 := B.n4
  exact Ev.step (fun k => by rw [impl_OrderOf.l2]) (evNeg (by omega) (evNeg (by simp) (by rw [w64 hi (by omega)]; exact e)))
 | m + 1, j, hj => by
  have hd := B.hd
  have n4 := B.n4
  refine Ev.step (fun k => by rw [impl_OrderOf.l2]) (evPos (by omega) (evPos (by omega) (evPos (by omega) (evNeg (by simp) ?_))))
  rw [w64 (show j < c.length by omega) (by omega)]
  exact ordImpl_no B hi e m (j + 1) (by omega)
theorem ordImpl_all {c : List Int} {d : List (List Int)} (B : Bk c d) {out : List Int} (ho : out.length ≤ 4) {i : Nat} (hi : i < c.length) {res : List Int × Bool} (e : Ev (fun k => impl_OrderOf.l0 k (out ++ [(i : Int)]) c d) res) :
  ∀ m j, j + m = c.length → (∀ q, j ≤ q → q < c.length → (q : Int) ∈ out ∨ (d.getD q []).getD i 0 = 0) → Ev (fun k => impl_OrderOf.l2 k out (-1) (i : Int) true (c.length : Int) (i : Int) d (d.length : Int) (j : Int) c d) res
 | 0, j, hj, hP => by
  have hd := B.hd
  exact Ev.step (fun k => by rw [impl_OrderOf.l2]) (evNeg (by omega) (evPos rfl (evNeg (by omega) (evPos (by omega) e))))
 | m + 1, j, hj, hP => by
  have hd := B.hd
  have n4 := B.n4
  have hjn : j < c.length := by omega
  have hr := B.hr j hjn
  have ih := ordImpl_all B ho hi e m (j + 1) (by omega) (fun q h1 h2 => hP q (by omega) h2)
  have rw1 : (rd_L1 d (j : Int)) = d.getD j [] := rdR_nat d j
  by_cases h0 : (d.getD j []).getD i 0 = 0
  ·refine Ev.step (fun k => by rw [impl_OrderOf.l2]) (evPos (by omega) (evPos (by omega) (evPos (by omega) (evPos rfl (evPos (by omega) (evPos (by rw [rw1]; omega) (evPos (by rw [rw1, rd_nat]; exact h0) ?_)))))))
   rw [w64 hjn (by omega)]
   exact ih
  ·have hin := (hP j (by omega) hjn).resolve_right h0
   have ct := contains_f out (j : Int) (by omega)
   rw [decide_eq_true hin] at ct
   refine Ev.step (fun k => by rw [impl_OrderOf.l2]) (evPos (by omega) (evPos (by omega) (evPos (by omega) (evPos rfl (evPos (by omega) (evPos (by rw [rw1]; omega) (evNeg (by rw [rw1, rd_nat]; exact h0) (Ev.bind ct ?_))))))))
   rw [w64 hjn (by omega)]
   exact ih
theorem ordImpl_some {c : List Int} {d : List (List Int)} (B : Bk c d) {out : List Int} (ho : out.length ≤ 4) {i : Nat} (hi : i < c.length) {res : List Int × Bool} (e : Ev (fun k => impl_OrderOf.l1 k out (-1) (c.length : Int) ((i + 1 : Nat) : Int) c d) res) :
  ∀ m j, j + m = c.length → (∃ q, j ≤ q ∧ q < c.length ∧ ¬ ((q : Int) ∈ out ∨ (d.getD q []).getD i 0 = 0)) → Ev (fun k => impl_OrderOf.l2 k out (-1) (i : Int) true (c.length : Int) (i : Int) d (d.length : Int) (j : Int) c d) res
 | 0, j, hj, hP => by
  obtain ⟨q, h1, h2, _⟩ := hP
  omega
 | m + 1, j, hj, hP => by
  have hd := B.hd
  have n4 := B.n4
  have hjn : j < c.length := by omega
  have hr := B.hr j hjn
  have rw1 : (rd_L1 d (j : Int)) = d.getD j [] := rdR_nat d j
  have up : ((j : Int) ∈ out ∨ (d.getD j []).getD i 0 = 0) → ∃ q, j + 1 ≤ q ∧ q < c.length ∧ ¬ ((q : Int) ∈ out ∨ (d.getD q []).getD i 0 = 0) := fun a => by
   obtain ⟨q, h1, h2, h3⟩ := hP
   refine ⟨q, ?_, h2, h3⟩
   by_cases e2 : q = j
   ·subst e2; exact absurd a h3
   ·omega
  by_cases h0 : (d.getD j []).getD i 0 = 0
  ·refine Ev.step (fun k => by rw [impl_OrderOf.l2]) (evPos (by omega) (evPos (by omega) (evPos (by omega) (evPos rfl (evPos (by omega) (evPos (by rw [rw1]; omega) (evPos (by rw [rw1, rd_nat]; exact h0) ?_)))))))
   rw [w64 hjn (by omega)]
   exact ordImpl_some B ho hi e m (j + 1) (by omega) (up (.inr h0))
  ·have ct := contains_f out (j : Int) (by omega)
   refine Ev.step (fun k => by rw [impl_OrderOf.l2]) (evPos (by omega) (evPos (by omega) (evPos (by omega) (evPos rfl (evPos (by omega) (evPos (by rw [rw1]; omega) (evNeg (by rw [rw1, rd_nat]; exact h0) (Ev.bind ct ?_))))))))
   rw [w64 hjn (by omega)]
   by_cases hin : (j : Int) ∈ out
   ·rw [decide_eq_true hin]
    exact ordImpl_some B ho hi e m (j + 1) (by omega) (up (.inl hin))
   ·rw [decide_eq_false hin]
    exact ordImpl_no B hi e m (j + 1) (by omega)
/-- One search for the next bank (the program's alone). Good: what is told of the answer. -/
theorem ordScanI {c : List Int} {d : List (List Int)} (B : Bk c d) {Good : List Int × Bool → Prop} {out : List Int} (ho : out.length < c.length) (hnil : (∀ i, i < c.length → ¬ freeB d c.length out i) → Good ([], false))
  (go : ∀ i, i < c.length → freeB d c.length out i → ∃ r, Ev (fun k => impl_OrderOf.l0 k (out ++ [(i : Int)]) c d) r ∧ Good r) :
  ∀ m i, i + m = c.length → (∀ q, q < i → ¬ freeB d c.length out q) → ∃ r, Ev (fun k => impl_OrderOf.l1 k out (-1) (c.length : Int) (i : Int) c d) r ∧ Good r
 | 0, i, hi, hq => ⟨([], false), Ev.step (fun k => by rw [impl_OrderOf.l1]) (evNeg (by omega) (evPos (by omega) (Ev.now _))), hnil fun q h => hq q (by omega)⟩
 | m + 1, i, hi, hq => by
  have n4 := B.n4
  have hin : i < c.length := by omega
  have ct := contains_f out (i : Int) (by omega)
  have t0 : (i : Int) < (c.length : Int) := by omega
  by_cases hin2 : (i : Int) ∈ out
  ·obtain ⟨r, e1, g⟩ := ordScanI B ho hnil go m (i + 1) (by omega) (fun q h => by
    by_cases e : q = i
    ·subst e; exact fun a => a.1 hin2
    ·exact hq q (by omega))
   rw [decide_eq_true hin2] at ct
   exact ⟨r, Ev.step (fun k => by rw [impl_OrderOf.l1]) (evPos t0 (Ev.bind ct (ordImpl_no B hin e1 c.length 0 (by omega)))), g⟩
  ·rw [decide_eq_false hin2] at ct
   by_cases hP : ∀ q, 0 ≤ q → q < c.length → (q : Int) ∈ out ∨ (d.getD q []).getD i 0 = 0
   ·obtain ⟨r, e1, g⟩ := go i hin ⟨hin2, fun q h => hP q (by omega) h⟩
    exact ⟨r, Ev.step (fun k => by rw [impl_OrderOf.l1]) (evPos t0 (Ev.bind ct (ordImpl_all B (by omega) hin e1 c.length 0 (by omega) hP))), g⟩
   ·obtain ⟨q0, h1, h2⟩ : ∃ q, q < c.length ∧ ¬ ((q : Int) ∈ out ∨ (d.getD q []).getD i 0 = 0) := by
     refine Classical.byContradiction fun a => hP fun q _ h => Classical.byContradiction fun b => a ⟨q, h, b⟩
    obtain ⟨r, e1, g⟩ := ordScanI B ho hnil go m (i + 1) (by omega) (fun q h => by
     by_cases e : q = i
     ·subst e; exact fun a => h2 (a.2 q0 h1)
     ·exact hq q (by omega))
    exact ⟨r, Ev.step (fun k => by rw [impl_OrderOf.l1]) (evPos t0 (Ev.bind ct (ordImpl_some B (by omega) hin e1 c.length 0 (by omega) ⟨q0, by omega, h1, h2⟩))), g⟩
theorem ordAllI {c : List Int} {d : List (List Int)} (B : Bk c d) {Good : List Int × Bool → Prop} {Inv : List Int → Prop} (hfull : ∀ out, Inv out → out.length = c.length → Good (out, true)) (hnil : ∀ out, Inv out → (∀ i, i < c.length → ¬ freeB d c.length out i) → out.length < c.length → Good ([], false))
  (hstep : ∀ out i, Inv out → i < c.length → freeB d c.length out i → Inv (out ++ [(i : Int)])) :
  ∀ m out, out.length + m = c.length → Inv out → ∃ r, Ev (fun k => impl_OrderOf.l0 k out c d) r ∧ Good r
 | 0, out, hm, hI => ⟨(out, true), Ev.step (fun k => by rw [impl_OrderOf.l0]) (evNeg (by omega) (Ev.now _)), hfull out hI (by omega)⟩
 | m + 1, out, hm, hI => by
  obtain ⟨r, e1, g⟩ := ordScanI B (Good := Good) (out := out) (by omega) (fun h => hnil out hI h (by omega)) (fun i hi hf => ordAllI B hfull hnil hstep m (out ++ [(i : Int)]) (by simp; omega) (hstep out i hI hi hf)) c.length 0 (by omega) (fun q h => by omega)
  have t : (out.length : Int) < (c.length : Int) := by omega
  exact ⟨r, Ev.step (f := fun k => impl_OrderOf.l1 k out (-1) (c.length : Int) 0 c d) (fun k => by rw [impl_OrderOf.l0, if_pos t]) e1, g⟩
/-- The program's OrderOf of a book. -/
theorem orderImpl_f {c : List Int} {d : List (List Int)} (B : Bk c d) (hi : Ev (fun k => impl_isBook.f k c d) true) {Good : List Int × Bool → Prop} {Inv : List Int → Prop} (h0 : Inv [])
  (hfull : ∀ out, Inv out → out.length = c.length → Good (out, true)) (hnil : ∀ out, Inv out → (∀ i, i < c.length → ¬ freeB d c.length out i) → out.length < c.length → Good ([], false)) (hstep : ∀ out i, Inv out → i < c.length → freeB d c.length out i → Inv (out ++ [(i : Int)])) :
  ∃ r, Ev (fun k => impl_OrderOf.f k c d) r ∧ Good r := by
 obtain ⟨r, e1, g⟩ := ordAllI B hfull hnil hstep c.length [] (by simp) h0
 exact ⟨r, Ev.congr (fun k => by unfold impl_OrderOf.f; rfl) (Ev.bind hi (evPos rfl e1)), g⟩

theorem pN_few (E : Nat → Nat → Bool) (n : Nat) (hn : n ≤ 4) : ∀ m p, (Circ.pN E n m p).length ≤ 5 ^ m
 | 0, p => by simp [Circ.pN]
 | m + 1, p => by
  have hf : ∀ f : Nat → List (List Nat), (∀ j, (f j).length ≤ 5 ^ m) → ∀ q j, (Circ.fl f q j).length ≤ q * 5 ^ m := fun f h q => by
   induction q with
   | zero => intro j; simp [Circ.fl]
   | succ q ih =>
    intro j
    rw [Circ.fl, List.length_append, Nat.succ_mul]
    have := h j
    have := ih (j + 1)
    omega
  have h1 := hf (fun j => if (Nat.blt (p.getD 0 0) j && E (p.getD (p.length - 1) 0) j && !p.contains j) = true then Circ.pN E n m (p ++ [j]) else []) (fun j => by
   split
   ·exact pN_few E n hn m _
   ·simp) n 0
  have h2 : n * 5 ^ m ≤ 4 * 5 ^ m := Nat.mul_le_mul_right _ hn
  have h3 : 0 < 5 ^ m := Nat.pow_pos (by decide)
  rw [Circ.pN, List.length_append, Nat.pow_succ]
  have h4 : (if (Nat.ble 2 p.length && E (p.getD (p.length - 1) 0) (p.getD 0 0)) = true then [p] else []).length ≤ 1 := by split <;> simp
  omega
theorem Bk.bt {c : List Int} {d : List (List Int)} (B : Bk c d) : Circ.Bt d c.length := ⟨B.n1, B.n4, B.hd, B.hr, B.hz⟩
theorem before_l0 (a b : List Int) (hl : a.length ≤ 1000) (he : a.length = b.length) : ∀ (m i : Nat), i + m = a.length → Ev (fun k => spec_l3Before.l0 k a b (i : Int)) (Circ.lexI (a.drop i) (b.drop i))
 | 0, i, h => by
  have e : Circ.lexI (a.drop i) (b.drop i) = false := by
   rw [List.drop_eq_nil_of_le (by omega)]
   cases b.drop i <;> rfl
  rw [e]
  exact Ev.step (fun k => by rw [spec_l3Before.l0]) (evNeg (by omega) (Ev.now _))
 | m + 1, i, h => by
  rw [Circ.lexI_drop a b i (by omega) (by omega)]
  refine Ev.step (fun k => by rw [spec_l3Before.l0]) (evPos (by omega) (evPos (by omega) (evPos (by omega) ?_)))
  rw [rd_nat, rd_nat]
  by_cases e : a.getD i 0 = b.getD i 0
  ·rw [if_pos e]
   refine evPos e ?_
   rw [w64 (show i < a.length by omega) (by omega)]
   exact before_l0 a b hl he m (i + 1) (by omega)
  ·rw [if_neg e]
   exact evNeg e (Ev.now _)
theorem before_f (a b : List Int) (ha : a.length ≤ 1000) (hb : b.length ≤ 1000) : Ev (fun k => spec_l3Before.f k a b) (Circ.befI a b) := by
 refine Ev.congr (fun k => by unfold spec_l3Before.f; rfl) ?_
 unfold Circ.befI
 by_cases e : a.length = b.length
 ·rw [if_pos e]
  exact evPos (by omega) (before_l0 a b ha e a.length 0 (by omega))
 ·rw [if_neg e]
  refine evNeg (by omega) (evIs (Ev.now _) ?_)
  rw [decide_eq_decide]; omega
theorem rowsD (xs : List (List Int)) (j : Nat) : rd_L1 xs (j : Int) = xs.getD j [] := by unfold rd_L1; rw [Int.toNat_natCast]
theorem sink_l2 {i : Nat} (hi : i ≤ 1000) {r : List (List Int)} : ∀ (j : Nat) (xs : List (List Int)), j < xs.length → (∀ x ∈ xs, x.length ≤ 1000) → xs.length ≤ 1000 → Ev (fun k => spec_CirclesOf.l1 k (Circ.sinkI j xs) ((i + 1 : Nat) : Int)) r → Ev (fun k => spec_CirclesOf.l2 k xs (i : Int) (j : Int)) r
 | 0, xs, hj, hx, hl, e => by
  refine Ev.step (fun k => by rw [spec_CirclesOf.l2]) (evNeg (by omega) ?_)
  rw [w64 (show i < i + 1 by omega) (by omega)]
  exact e
 | j + 1, xs, hj, hx, hl, e => by
  have hw : wrap64 (((j + 1 : Nat) : Int) - 1) = (j : Int) := by unfold wrap64; omega
  have h1 := Circ.getD_in (P := fun y => y.length ≤ 1000) hj hx
  have h2 := Circ.getD_in (P := fun y => y.length ≤ 1000) (show j < xs.length by omega) hx
  have hb := before_f _ _ h1 h2
  refine Ev.step (fun k => by rw [spec_CirclesOf.l2]) (evPos (by omega) (evPos (by omega) (evPos (by omega) ?_)))
  rw [hw, rowsD, rowsD]
  refine evPos (by omega) (evPos (by omega) (Ev.bind hb ?_))
  rw [Circ.sinkI] at e
  by_cases hc : Circ.befI (xs.getD (j + 1) []) (xs.getD j []) = true
  ·rw [if_pos hc] at e
   refine evPos hc ?_
   rw [Int.toNat_natCast, Int.toNat_natCast]
   show Ev (fun k => spec_CirclesOf.l2 k (Circ.swp xs (j + 1) j []) (i : Int) (j : Int)) r
   exact sink_l2 hi j _ (by rw [Circ.swp_len]; omega) (Circ.swp_mem hj (by omega) hx) (by rw [Circ.swp_len]; exact hl) e
  ·rw [if_neg hc] at e
   refine evNeg hc ?_
   rw [w64 (show i < i + 1 by omega) (by omega)]
   exact e
theorem sinkI_mem {P : List Int → Prop} : ∀ (j : Nat) (xs : List (List Int)), j < xs.length → (∀ x ∈ xs, P x) → ∀ x ∈ Circ.sinkI j xs, P x
 | 0, xs, _, h => h
 | j + 1, xs, hj, h => by
  rw [Circ.sinkI]
  split
  ·exact sinkI_mem j _ (by rw [Circ.swp_len]; omega) (Circ.swp_mem hj (by omega) h)
  ·exact h
theorem sort_l1 : ∀ (m i : Nat) (xs : List (List Int)), 1 ≤ i → m = xs.length - i → (∀ x ∈ xs, x.length ≤ 1000) → xs.length ≤ 1000 → Ev (fun k => spec_CirclesOf.l1 k xs (i : Int)) (Circ.sortI m i xs)
 | 0, i, xs, h1, hm, hx, hl => by
  show Ev (fun k => spec_CirclesOf.l1 k xs (i : Int)) xs
  exact Ev.step (fun k => by rw [spec_CirclesOf.l1]) (evNeg (by omega) (Ev.now _))
 | m + 1, i, xs, h1, hm, hx, hl => by
  refine Ev.step (fun k => by rw [spec_CirclesOf.l1]) (evPos (by omega) ?_)
  refine sink_l2 (by omega) i xs (by omega) hx hl ?_
  rw [Circ.sortI]
  exact sort_l1 m (i + 1) _ (by omega) (by rw [Circ.sinkI_len]; omega) (sinkI_mem i xs (by omega) hx) (by rw [Circ.sinkI_len]; exact hl)
/-- Of bank j, the path asked bank by bank. -/
theorem path_l1 {c : List Int} {d : List (List Int)} {p : List Nat} (hl : p.length ≤ 10) {o : List (List Int)} {last : Int} {j : Nat} {r : List (List Int)}
  (h1 : j ∈ p → Ev (fun k => spec_l3Paths.l0 k (Circ.toI p) o last (wrap64 ((j : Int) + 1)) c d) r)
  (h2 : j ∉ p → Ev (fun k => (some (([] : List Int) : List Int)).bind fun y148 => (if y148.length + (Circ.toI p).length < 17592186044416 then ((some (y148 ++ (Circ.toI p) : List Int)).bind fun y151 => ((some (([(j : Int)] : List Int) : List Int)).bind fun y154 => (if y151.length + y154.length < 17592186044416 then ((spec_l3Paths.f k c d (y151 ++ y154)).bind fun t160 => (if o.length + t160.length < 5864062014805 then (spec_l3Paths.l0 k (Circ.toI p) (o ++ t160) last (wrap64 ((j : Int) + 1)) c d) else (none))) else (none)))) else (none))) r) :
  ∀ (m i : Nat), i + m = p.length → (∀ t, t < i → p.getD t 0 ≠ j) → Ev (fun k => spec_l3Paths.l1 k (Circ.toI p) o last (j : Int) (i : Int) c d) r
 | 0, i, hi, hn => by
  have hlen := Circ.toI_len p
  have hj : j ∉ p := fun hm => by
   obtain ⟨t, ht, e⟩ := List.mem_iff_getElem.1 hm
   exact hn t (by omega) (by rw [List.getD_eq_getElem?_getD, List.getElem?_eq_getElem ht]; exact e)
  exact Ev.step (fun k => by rw [spec_l3Paths.l1]) (evNeg (by omega) (h2 hj))
 | m + 1, i, hi, hn => by
  have hlen := Circ.toI_len p
  refine Ev.step (fun k => by rw [spec_l3Paths.l1]) (evPos (by omega) (evPos (by omega) ?_))
  rw [rd_nat, Circ.toI_get]
  by_cases e : p.getD i 0 = j
  ·refine evPos (by omega) (h1 ?_)
   rw [← e]
   exact Circ.getD_n (by omega)
  ·refine evNeg (by omega) ?_
   rw [w64 (show i < p.length by omega) (by omega)]
   exact path_l1 hl h1 h2 m (i + 1) (by omega) (fun t ht => by
    by_cases e2 : t = i
    ·rw [e2]; exact e
    ·exact hn t (by omega))
theorem path_go {c : List Int} {d : List (List Int)} {p : List Int} {o t : List (List Int)} {last : Int} {j : Int} {r : List (List Int)} (l1 : ([] : List Int).length + p.length < 17592186044416) (l2 : ([] ++ p : List Int).length + ([j] : List Int).length < 17592186044416)
  (e : Ev (fun k => spec_l3Paths.f k c d (p ++ [j])) t) (l3 : o.length + t.length < 5864062014805) (h : Ev (fun k => spec_l3Paths.l0 k p (o ++ t) last (wrap64 (j + 1)) c d) r) :
  Ev (fun k => (some (([] : List Int) : List Int)).bind fun y148 => (if y148.length + p.length < 17592186044416 then ((some (y148 ++ p : List Int)).bind fun y151 => ((some (([j] : List Int) : List Int)).bind fun y154 => (if y151.length + y154.length < 17592186044416 then ((spec_l3Paths.f k c d (y151 ++ y154)).bind fun t160 => (if o.length + t160.length < 5864062014805 then (spec_l3Paths.l0 k p (o ++ t160) last (wrap64 (j + 1)) c d) else (none))) else (none)))) else (none))) r := by
 simp only [Option.bind_some]
 refine evPos l1 (evPos l2 ?_)
 rw [List.nil_append]
 exact Ev.bind e (evPos l3 h)
theorem paths_l0 {c : List Int} {d : List (List Int)} (B : Bk c d) {m : Nat} {p : List Nat} (hp : p ≠ []) (hl : p.length ≤ 4) (hx : ∀ x ∈ p, x < c.length)
  (hf : ∀ x, x < c.length → x ∉ p → Ev (fun k => spec_l3Paths.f k c d (Circ.toI (p ++ [x]))) ((Circ.pN (Circ.Ed d) c.length m (p ++ [x])).map Circ.toI)) (hm : m ≤ 4) :
  ∀ (q j : Nat) (o : List (List Int)), j + q = c.length → p.getD 0 0 < j → o.length + 1000 * q ≤ 10000 → Ev (fun k => spec_l3Paths.l0 k (Circ.toI p) o ((p.getD (p.length - 1) 0 : Nat) : Int) (j : Int) c d) (o ++ (Circ.fl (fun j => if (Nat.blt (p.getD 0 0) j && Circ.Ed d (p.getD (p.length - 1) 0) j && !p.contains j) = true then Circ.pN (Circ.Ed d) c.length m (p ++ [j]) else []) q j).map Circ.toI) := by
 intro q
 induction q with
 | zero =>
  intro j o hj hj0 ho
  rw [Circ.fl, List.map_nil, List.append_nil]
  exact Ev.step (fun k => by rw [spec_l3Paths.l0]) (evNeg (by omega) (Ev.now _))
 | succ q ihq =>
  intro j o hj hj0 ho
  have a1 : j + 1 + q = c.length := by omega
  have a2 : p.getD 0 0 < j + 1 := by omega
  have ih := fun o' (h : o'.length + 1000 * q ≤ 10000) => ihq (j + 1) o' a1 a2 h
  clear ihq
  have n4 := B.n4
  have hd := B.hd
  have h0 : 0 < p.length := List.length_pos_iff.2 hp
  have hlast := hx _ (Circ.getD_n (p := p) (i := p.length - 1) (by omega))
  have hr := B.hr _ hlast
  refine Ev.step (fun k => by rw [spec_l3Paths.l0]) (evPos (by omega) (evPos (by omega) (evPos (by omega) (evPos (by omega) ?_))))
  rw [rowsD, rd_nat, Circ.fl]
  refine evPos (by omega) ?_
  have few : (Circ.pN (Circ.Ed d) c.length m (p ++ [j])).length ≤ 625 := Nat.le_trans (pN_few (Circ.Ed d) c.length n4 m (p ++ [j])) (Nat.le_trans (Nat.pow_le_pow_right (by decide) hm) (by decide))
  have hE : Circ.Ed d (p.getD (p.length - 1) 0) j = decide ((d.getD (p.getD (p.length - 1) 0) []).getD j 0 ≠ 0) := rfl
  have hb : Nat.blt (p.getD 0 0) j = true := Nat.blt_eq.mpr hj0
  by_cases hv : (d.getD (p.getD (p.length - 1) 0) []).getD j 0 = 0
  ·refine evPos hv ?_
   rw [if_neg (by rw [hb, hE, decide_eq_false (by simpa using hv)]; simp), List.nil_append, w64 (show j < c.length by omega) (by omega)]
   exact ih o (by omega)
  ·refine evNeg hv (path_l1 (by omega) (fun hm => ?_) (fun hm => ?_) p.length 0 (by omega) (fun t h => by omega))
   ·rw [if_neg (by rw [List.contains_iff_mem.2 hm]; simp), List.nil_append, w64 (show j < c.length by omega) (by omega)]
    exact ih o (by omega)
   ·have hc : p.contains j = false := by
     cases hc : p.contains j with
     | false => rfl
     | true => exact absurd (List.contains_iff_mem.1 hc) hm
    rw [if_pos (by rw [hb, hE, decide_eq_true (by simpa using hv), hc]; rfl), List.map_append, ← List.append_assoc]
    have e := hf j (by omega) hm
    rw [Circ.toI_snoc] at e
    have hlen := Circ.toI_len p
    have l1 : ([] : List Int).length + (Circ.toI p).length < 17592186044416 := by rw [hlen, List.length_nil]; omega
    have l2 : ([] ++ Circ.toI p : List Int).length + ([(j : Int)] : List Int).length < 17592186044416 := by rw [List.nil_append, hlen, List.length_singleton]; omega
    have l3 : o.length + ((Circ.pN (Circ.Ed d) c.length m (p ++ [j])).map Circ.toI).length < 5864062014805 := by rw [List.length_map]; omega
    have l4 : (o ++ (Circ.pN (Circ.Ed d) c.length m (p ++ [j])).map Circ.toI).length + 1000 * q ≤ 10000 := by rw [List.length_append, List.length_map]; omega
    exact path_go l1 l2 e l3 (by rw [w64 (show j < c.length by omega) (by omega)]; exact ih _ l4)
/-- The circles that begin with a path. -/
theorem paths_f {c : List Int} {d : List (List Int)} (B : Bk c d) : ∀ m p, p ≠ [] → p.Nodup → (∀ x ∈ p, x < c.length) → p.length + m = c.length + 1 → Ev (fun k => spec_l3Paths.f k c d (Circ.toI p)) ((Circ.pN (Circ.Ed d) c.length m p).map Circ.toI)
 | 0, p, hp, hn, hx, hl => by
  have := Circ.nodup_le c.length p hn hx
  omega
 | m + 1, p, hp, hn, hx, hl => by
  have n4 := B.n4
  have hd := B.hd
  have h0 : 0 < p.length := List.length_pos_iff.2 hp
  have hlen := Circ.toI_len p
  have hlast := hx _ (Circ.getD_n (p := p) (i := p.length - 1) (by omega))
  have hfirst := hx _ (Circ.getD_n (p := p) (i := 0) (by omega))
  have hr := B.hr _ hlast
  have hw : wrap64 (((Circ.toI p).length : Int) - 1) = ((p.length - 1 : Nat) : Int) := by unfold wrap64; omega
  have hrl : rd (Circ.toI p) ((p.length - 1 : Nat) : Int) = ((p.getD (p.length - 1) 0 : Nat) : Int) := by rw [rd_nat, Circ.toI_get]
  have hr0 : rd (Circ.toI p) 0 = ((p.getD 0 0 : Nat) : Int) := by
   have := rd_nat (Circ.toI p) 0
   rw [Circ.toI_get] at this; exact this
  have rest : ∀ o : List (List Int), o.length ≤ 1 → Ev (fun k => spec_l3Paths.j1 k (Circ.toI p) o ((p.getD (p.length - 1) 0 : Nat) : Int) c d) (o ++ (Circ.fl (fun j => if (Nat.blt (p.getD 0 0) j && Circ.Ed d (p.getD (p.length - 1) 0) j && !p.contains j) = true then Circ.pN (Circ.Ed d) c.length m (p ++ [j]) else []) c.length 0).map Circ.toI) := fun o ho => by
   refine Ev.step (fun k => by rw [spec_l3Paths.j1]) (evPos (by omega) ?_)
   rw [hr0, w64 hfirst (by omega)]
   obtain ⟨b, hb⟩ : ∃ b, c.length = (p.getD 0 0 + 1) + b := ⟨c.length - (p.getD 0 0 + 1), by omega⟩
   have hs : ∀ f : Nat → List (List Nat), (∀ j, j < p.getD 0 0 + 1 → f j = []) → Circ.fl f c.length 0 = Circ.fl f b (p.getD 0 0 + 1) := fun f hf => by
    rw [hb, Circ.fl_skip _ _ _ (fun i _ hi => hf i (by omega)), Nat.zero_add]
   rw [hs _ (fun j hj => by rw [if_neg]; simp only [Bool.and_eq_true, Nat.blt_eq]; omega)]
   exact paths_l0 B hp (by omega) hx (fun x hxn hxp => paths_f B m (p ++ [x]) (by simp) (List.nodup_append.2 ⟨hn, by simp, fun a ha b hb => by rw [List.mem_singleton.1 hb]; exact fun e => hxp (e ▸ ha)⟩) (fun y hy => by
    rcases List.mem_append.1 hy with h | h
    ·exact hx y h
    ·rw [List.mem_singleton.1 h]; exact hxn) (by simp; omega)) (by omega) b _ o (by omega) (by omega) (by omega)
  have hE : Circ.Ed d (p.getD (p.length - 1) 0) (p.getD 0 0) = decide ((d.getD (p.getD (p.length - 1) 0) []).getD (p.getD 0 0) 0 ≠ 0) := rfl
  have hge := B.ent hlast hfirst
  refine Ev.step (fun k => by rw [spec_l3Paths.f]) ?_
  simp only [Option.bind_some]
  rw [hw, hrl]
  refine evPos (by omega) (evPos (by omega) ?_)
  rw [Circ.pN]
  by_cases h2 : 2 ≤ p.length
  ·refine evPos (by omega) (evPos (by omega) (evPos (by omega) (evPos (by omega) ?_)))
   rw [hr0, rowsD, rd_nat]
   refine evPos (by omega) (evPos (by omega) ?_)
   by_cases hv : (d.getD (p.getD (p.length - 1) 0) []).getD (p.getD 0 0) 0 = 0
   ·rw [if_neg (by rw [hE, decide_eq_false (by simpa using hv)]; simp), List.nil_append]
    refine Ev.step (f := fun k => spec_l3Paths.j1 k (Circ.toI p) [] ((p.getD (p.length - 1) 0 : Nat) : Int) c d) (fun k => by rw [spec_l3Paths.j0, if_neg (by rw [decide_eq_true_eq]; omega)]) ?_
    exact rest [] (by simp)
   ·rw [if_pos (by rw [hE, decide_eq_true (by simpa using hv), Nat.ble_eq.mpr h2]; rfl), List.map_append]
    refine Ev.step (fun k => by rw [spec_l3Paths.j0]) (evPos (decide_eq_true (by omega)) ?_)
    simp only [Option.bind_some, List.nil_append]
    refine evPos (by simp; omega) (evPos (by simp) ?_)
    exact rest [Circ.toI p] (by simp)
  ·refine evNeg (by omega) ?_
   rw [if_neg (by
    rw [Bool.and_eq_true, Nat.ble_eq]
    exact fun h => h2 h.1), List.nil_append]
   refine Ev.step (f := fun k => spec_l3Paths.j1 k (Circ.toI p) [] ((p.getD (p.length - 1) 0 : Nat) : Int) c d) (fun k => by rw [spec_l3Paths.j0, if_neg (by decide)]) ?_
   exact rest [] (by simp)
theorem circ_l0 {c : List Int} {d : List (List Int)} (B : Bk c d) (sb : Ev (fun k => spec_BookOk.f k c d) true) {r : List (List Int)} : ∀ (q i : Nat) (o : List (List Int)), i + q = c.length → o.length + 1000 * q ≤ 10000 →
  Ev (fun k => spec_CirclesOf.j1 k (o ++ (Circ.fl (fun i => Circ.pN (Circ.Ed d) c.length c.length [i]) q i).map Circ.toI)) r → Ev (fun k => spec_CirclesOf.l0 k o (i : Int) c d) r
 | 0, i, o, hi, ho, e => by
  rw [Circ.fl, List.map_nil, List.append_nil] at e
  exact Ev.step (fun k => by rw [spec_CirclesOf.l0]) (evNeg (by omega) e)
 | q + 1, i, o, hi, ho, e => by
  have n4 := B.n4
  have h1 := paths_f B c.length [i] (by simp) (by simp) (fun x hx => by rw [List.mem_singleton.1 hx]; omega) (by simp; omega)
  have few := pN_few (Circ.Ed d) c.length n4 c.length [i]
  have five : 5 ^ c.length ≤ 625 := Nat.le_trans (Nat.pow_le_pow_right (by decide) n4) (by decide)
  rw [show Circ.toI [i] = [(i : Int)] from rfl] at h1
  have hb : o.length + ((Circ.pN (Circ.Ed d) c.length c.length [i]).map Circ.toI).length < 5864062014805 := by rw [List.length_map]; omega
  refine Ev.step (fun k => by rw [spec_CirclesOf.l0]) (evPos (by omega) (Ev.bind sb (evPos rfl (Ev.bind h1 (evPos hb ?_)))))
  rw [w64 (show i < c.length by omega) (by omega)]
  refine circ_l0 B sb q (i + 1) _ (by omega) (by rw [List.length_append, List.length_map]; omega) ?_
  rw [Circ.fl, List.map_append, ← List.append_assoc] at e
  exact e
/-- The reference's circles. -/
theorem circSpec_f {c : List Int} {d : List (List Int)} (B : Bk c d) (sb : Ev (fun k => spec_BookOk.f k c d) true) : Ev (fun k => spec_CirclesOf.f k c d) (Circ.circI d c.length) := by
 have n4 := B.n4
 have F := Circ.circs_ok (Circ.Ed d) c.length B.n1 B.n4 B.bt.edz
 refine Ev.congr (fun k => by unfold spec_CirclesOf.f; rfl) (circ_l0 B sb c.length 0 [] (by omega) (by simp; omega) ?_)
 rw [List.nil_append, ← Circ.sorted_all]
 refine Ev.step (f := fun k => spec_CirclesOf.l1 k ((Circ.cN (Circ.Ed d) c.length).map Circ.toI) ((1 : Nat) : Int)) (fun k => by rw [spec_CirclesOf.j1]; rfl) (sort_l1 _ 1 _ (Nat.le_refl _) rfl (fun x hx => ?_) ?_)
 ·obtain ⟨y, hy, rfl⟩ := List.mem_map.1 hx
  obtain ⟨i, _, _, hi⟩ := Circ.fl_mem _ _ hy
  have := Circ.pN_len _ _ _ _ _ hi
  rw [Circ.toI_len]
  simp at this
  omega
 ·rw [List.length_map]
  have := F.few
  omega
theorem circSpec_no {c : List Int} {d : List (List Int)} (sb : Ev (fun k => spec_BookOk.f k c d) false) : Ev (fun k => spec_CirclesOf.f k c d) [] := by
 have e : Ev (fun k => spec_CirclesOf.j1 k []) ([] : List (List Int)) := Ev.step (f := fun k => spec_CirclesOf.l1 k [] 1) (fun k => by rw [spec_CirclesOf.j1]) (Ev.step (f := fun _ => some []) (fun k => by rw [spec_CirclesOf.l1, if_neg (by decide)]) (Ev.now _))
 refine Ev.congr (fun k => by unfold spec_CirclesOf.f; rfl) (Ev.step (fun k => by rw [spec_CirclesOf.l0]) (evIte (fun _ => Ev.bind sb (evNeg (show ¬ (false = true) by decide) e)) (fun _ => e)))

/-- The program's circles. -/
theorem circImpl_f {c : List Int} {d : List (List Int)} (B : Bk c d) (ib : Ev (fun k => impl_isBook.f k c d) true) : Ev (fun k => impl_CirclesOf.f k c d) (Circ.circI d c.length) := by
 have hc : Ev (fun k => impl_circles.f k c d) (Circ.circI d c.length) := ⟨4, fun k hk => Circ.circF_tells B.bt k hk⟩
 exact Ev.congr (fun k => by unfold impl_CirclesOf.f; rfl) (Ev.bind ib (evPos rfl (Ev.bind hc (Ev.now _))))
theorem circImpl_no {c : List Int} {d : List (List Int)} (ib : Ev (fun k => impl_isBook.f k c d) false) : Ev (fun k => impl_CirclesOf.f k c d) [] :=
 Ev.congr (fun k => by unfold impl_CirclesOf.f; rfl) (Ev.bind ib (evNeg (show ¬ (false = true) by decide) (Ev.now _)))

theorem toI_inj : ∀ {a b : List Nat}, Circ.toI a = Circ.toI b → a = b
 | [], [], _ => rfl
 | [], y :: b, h => by cases h
 | x :: a, [], h => by cases h
 | x :: a, y :: b, h => by
  have h1 : (x : Int) = (y : Int) := by injection h
  have h2 : Circ.toI a = Circ.toI b := by injection h
  rw [toI_inj h2, show x = y by omega]
theorem nodup_sub : ∀ (l q : List Nat), l.Nodup → (∀ x ∈ l, x ∈ q) → l.length ≤ q.length
 | [], q, _, _ => Nat.zero_le _
 | x :: l, q, hn, hs => by
  have hx := hs x (by simp)
  obtain ⟨h1, h2⟩ := List.nodup_cons.1 hn
  have := nodup_sub l (q.erase x) h2 (fun y hy => (List.mem_erase_of_ne (fun e : y = x => h1 (by rw [← e]; exact hy))).2 (hs y (by simp [hy])))
  rw [List.length_erase_of_mem hx] at this
  have : 0 < q.length := List.length_pos_of_mem hx
  simp only [List.length_cons]
  omega
/-- The banks in order so far: none of them is of a ring. -/
def InvO (d : List (List Int)) (n : Nat) (out : List Int) : Prop := ∃ q : List Nat, out = Circ.toI q ∧ q.Nodup ∧ (∀ x ∈ q, x < n) ∧ ∀ P, Circ.Ring (Circ.Ed d) n P → ∀ x ∈ q, ¬ P x
theorem InvO.nil (d : List (List Int)) (n : Nat) : InvO d n [] := ⟨[], rfl, by simp, by simp, by simp⟩
theorem InvO.step {d : List (List Int)} {n : Nat} {out : List Int} {i : Nat} (h : InvO d n out) (hi : i < n) (hf : freeB d n out i) : InvO d n (out ++ [(i : Int)]) := by
 obtain ⟨q, rfl, h1, h2, h3⟩ := h
 have hq : i ∉ q := fun h => hf.1 ((Circ.toI_mem q i).2 h)
 refine ⟨q ++ [i], (Circ.toI_snoc q i).symm, List.nodup_append.2 ⟨h1, by simp, fun a ha b hb => by rw [List.mem_singleton.1 hb]; exact fun e => hq (e ▸ ha)⟩, fun x hx => ?_, fun P hP x hx => ?_⟩
 ·rcases List.mem_append.1 hx with h | h
  ·exact h2 x h
  ·rw [List.mem_singleton.1 h]; exact hi
 ·rcases List.mem_append.1 hx with h | h
  ·exact h3 P hP x h
  ·rw [List.mem_singleton.1 h]
   intro hp
   obtain ⟨j, hj, hjp, e⟩ := hP.each i hi hp
   rcases hf.2 j hj with a | a
   ·exact h3 P hP j ((Circ.toI_mem q j).1 a) hjp
   ·unfold Circ.Ed at e
    rw [a] at e
    exact absurd e (by simp)
theorem InvO.full {d : List (List Int)} {n : Nat} {out : List Int} (h : InvO d n out) (hl : out.length = n) (P : Nat → Prop) : ¬ Circ.Ring (Circ.Ed d) n P := fun hP => by
 obtain ⟨q, rfl, h1, h2, h3⟩ := h
 rw [Circ.toI_len] at hl
 obtain ⟨i, hi, hp⟩ := hP.some_
 have hq : i ∉ q := fun hm => h3 P hP i hm hp
 have := Circ.nodup_le n (i :: q) (List.nodup_cons.2 ⟨hq, h1⟩) (fun x hx => by
  rcases List.mem_cons.1 hx with h | h
  ·rw [h]; exact hi
  ·exact h2 x h)
 simp only [List.length_cons] at this
 omega
theorem InvO.stuck {d : List (List Int)} {n : Nat} {out : List Int} (h : InvO d n out) (hl : out.length < n) (hf : ∀ i, i < n → ¬ freeB d n out i) : Circ.Ring (Circ.Ed d) n (fun i => (i : Int) ∉ out) := by
 refine ⟨Classical.byContradiction fun hno => ?_, fun i hi hp => ?_⟩
 ·obtain ⟨q, rfl, h1, h2, h3⟩ := h
  have := nodup_sub (List.range n) q List.nodup_range (fun x hx => Classical.byContradiction fun hq => hno ⟨x, List.mem_range.1 hx, fun hm => hq ((Circ.toI_mem q x).1 hm)⟩)
  rw [List.length_range] at this
  rw [Circ.toI_len] at hl
  omega
 ·refine Classical.byContradiction fun hno => hf i hi ⟨hp, fun j hj => ?_⟩
  by_cases hm : (j : Int) ∈ out
  ·exact .inl hm
  ·refine .inr (Classical.byContradiction fun h0 => hno ⟨j, hj, hm, ?_⟩)
   unfold Circ.Ed
   exact decide_eq_true h0
theorem nex_at : ∀ (l : List (List Nat)), Circ.nex l = true → ∀ i, i + 1 < l.length → l.getD (i + 1) [] ≠ l.getD i []
 | [], _, i, h => by simp at h
 | [x], _, i, h => by simp at h
 | x :: y :: l, hn, i, h => by
  rw [Circ.nex, Bool.and_eq_true, decide_eq_true_eq] at hn
  cases i with
  | zero => exact hn.1
  | succ i => exact nex_at (y :: l) hn.2 i (by simp only [List.length_cons] at h ⊢; omega)
theorem circI_len (d : List (List Int)) (n : Nat) : (Circ.circI d n).length = (Circ.circN (Circ.Ed d) n).length := by unfold Circ.circI; rw [List.length_map]
theorem sinkN_len : ∀ j xs, (Circ.sinkN j xs).length = xs.length
 | 0, xs => rfl
 | j + 1, xs => by
  rw [Circ.sinkN]
  split
  ·rw [sinkN_len, Circ.swp_len]
  ·rfl
theorem sortN_len : ∀ m k xs, (Circ.sortN m k xs).length = xs.length
 | 0, k, xs => rfl
 | m + 1, k, xs => by rw [Circ.sortN, sortN_len, sinkN_len]
/-- A circle in the list. -/
theorem circ_at {c : List Int} {d : List (List Int)} (B : Bk c d) {i : Nat} (hi : i < (Circ.circI d c.length).length) : ∃ p, (Circ.circI d c.length).getD i [] = Circ.toI p ∧ p = (Circ.circN (Circ.Ed d) c.length).getD i [] ∧ Circ.IsCirc (Circ.Ed d) c.length p := by
 have F := Circ.circs_ok (Circ.Ed d) c.length B.n1 B.n4 B.bt.edz
 rw [circI_len] at hi
 refine ⟨_, by unfold Circ.circI; rw [Circ.map_getD], rfl, F.form _ ?_⟩
 rw [List.getD_eq_getElem?_getD, List.getElem?_eq_getElem hi]
 exact List.getElem_mem hi
theorem circ_few {c : List Int} {d : List (List Int)} (B : Bk c d) : (Circ.circI d c.length).length ≤ 20 := by
 have F := Circ.circs_ok (Circ.Ed d) c.length B.n1 B.n4 B.bt.edz
 rw [circI_len]
 unfold Circ.circN
 rw [sortN_len]
 exact F.few
theorem circ_row {c : List Int} {d : List (List Int)} (B : Bk c d) (i : Nat) : ((Circ.circI d c.length).getD i []).length ≤ 4 := by
 by_cases hi : i < (Circ.circI d c.length).length
 ·obtain ⟨p, e, _, hp⟩ := circ_at B hi
  rw [e, Circ.toI_len]
  exact hp.four
 ·rw [List.getD_eq_getElem?_getD, List.getElem?_eq_none (by omega)]; simp


theorem circLaw_l1 {c : List Int} {d : List (List Int)} (B : Bk c d) {i : Nat} (hi : i < (Circ.circI d c.length).length) {p : List Nat} (hp : (Circ.circI d c.length).getD i [] = Circ.toI p) (C : Circ.IsCirc (Circ.Ed d) c.length p) {r : Bool}
  (go : Ev (fun k => if (i : Int) > 0 then (if 0 ≤ (wrap64 ((i : Int) - 1)) then (if (wrap64 ((i : Int) - 1)) < ((Circ.circI d c.length).length : Int) then ((laws_sameInts.f k (rd_L1 (Circ.circI d c.length) (i : Int)) (rd_L1 (Circ.circI d c.length) (wrap64 ((i : Int) - 1)))).bind fun t270 => (if t270 = true then (some false) else (if ((rd_L1 (Circ.circI d c.length) (i : Int)).length : Int) < 2 then (some false) else (laws_FnCirclesOf.l0 k (Circ.circI d c.length) (wrap64 ((i : Int) + 1)) c d)))) else (none)) else (none)) else (if ((rd_L1 (Circ.circI d c.length) (i : Int)).length : Int) < 2 then (some false) else (laws_FnCirclesOf.l0 k (Circ.circI d c.length) (wrap64 ((i : Int) + 1)) c d))) r) :
  ∀ (m j : Nat), j + m = p.length → Ev (fun k => laws_FnCirclesOf.l1 k (Circ.circI d c.length) (i : Int) (j : Int) c d) r := by
 have hr : rd_L1 (Circ.circI d c.length) (i : Int) = Circ.toI p := by rw [rdR_nat, hp]
 have hlen := Circ.toI_len p
 intro m
 induction m with
 | zero =>
  intro j hj
  refine Ev.step (fun k => by rw [laws_FnCirclesOf.l1]) (evPos (by omega) (evPos (by omega) (evNeg ?_ go)))
  rw [hr]; omega
 | succ m ih =>
  intro j hj
  have ihj := ih (j + 1) (by omega)
  clear ih
  have two := C.two
  have four := C.four
  have hd := B.hd
  have n4 := B.n4
  have hjl : j < p.length := by omega
  have lj := C.lt j hjl
  obtain ⟨q, hq⟩ : ∃ q, q = (j + 1) % p.length := ⟨_, rfl⟩
  have hql : q < p.length := by rw [hq]; exact Nat.mod_lt _ (by omega)
  have lq := C.lt q hql
  have fj := C.first j hjl
  have oj := C.owe j hjl
  rw [← hq] at oj
  have hrow := B.hr _ lj
  have hne : (d.getD (p.getD j 0) []).getD (p.getD q 0) 0 ≠ 0 := by
   unfold Circ.Ed at oj
   exact of_decide_eq_true oj
  have t1 : (i : Int) < ((Circ.circI d c.length).length : Int) := by omega
  have t2 : (j : Int) < ((Circ.toI p).length : Int) := by omega
  have t3 : ¬ (((Circ.toI p).length : Int) = 0) := by omega
  have t4 : (q : Int) < ((Circ.toI p).length : Int) := by omega
  have t5 : (0 : Int) < ((Circ.toI p).length : Int) := by omega
  have t6 : ¬ (((p.getD j 0 : Nat) : Int) < ((p.getD 0 0 : Nat) : Int)) := by omega
  have t7 : ((p.getD j 0 : Nat) : Int) < (d.length : Int) := by omega
  have t8 : ((p.getD q 0 : Nat) : Int) < ((d.getD (p.getD j 0) []).length : Int) := by omega
  have z : ∀ x : Nat, (0 : Int) ≤ (x : Int) := fun x => by omega
  have r0 : rd (Circ.toI p) 0 = ((p.getD 0 0 : Nat) : Int) := by
   have := rd_nat (Circ.toI p) 0
   rw [Circ.toI_get] at this; exact this
  have hmod : Int.tmod (wrap64 ((j : Int) + 1)) ((Circ.toI p).length : Int) = (q : Int) := by
   rw [w64 hjl (by omega), hlen, hq, Int.tmod_eq_emod_of_nonneg (by omega)]
   exact (Int.natCast_emod _ _).symm
  rw [← w64 hjl (by omega)] at ihj
  refine Ev.step (fun k => by rw [laws_FnCirclesOf.l1]) ?_
  rw [hr, hmod, r0, rd_nat, Circ.toI_get, rd_nat, Circ.toI_get, rdR_nat, rd_nat]
  exact evPos (z i) (evPos t1 (evPos t2 (evPos (z j) (evNeg t3 (evPos (z q) (evPos t4 (evPos t5 (evNeg t6 (evPos (z _) (evPos t7 (evPos (z _) (evPos t8 (evNeg hne ihj)))))))))))))
theorem circLaw_l0 {c : List Int} {d : List (List Int)} (B : Bk c d) {b : List Int × Bool} (ho : Ev (fun k => impl_OrderOf.f k c d) b) (hb : (b.2 == decide (((Circ.circI d c.length).length : Int) = 0)) = true) :
  ∀ (m i : Nat), i + m = (Circ.circI d c.length).length → Ev (fun k => laws_FnCirclesOf.l0 k (Circ.circI d c.length) (i : Int) c d) true
 | 0, i, hi => Ev.step (fun k => by rw [laws_FnCirclesOf.l0]) (evNeg (by omega) (Ev.bind ho (evIs (Ev.now _) hb)))
 | m + 1, i, hi => by
  have few := circ_few B
  have F := Circ.circs_ok (Circ.Ed d) c.length B.n1 B.n4 B.bt.edz
  have hil : i < (Circ.circI d c.length).length := by omega
  obtain ⟨p, e, ep, C⟩ := circ_at B hil
  have nx := circLaw_l0 B ho hb m (i + 1) (by omega)
  rw [← w64 hil (by omega)] at nx
  have two := C.two
  have hlen := Circ.toI_len p
  have st : Ev (fun k => laws_FnCirclesOf.l1 k (Circ.circI d c.length) (i : Int) 0 c d) true → Ev (fun k => laws_FnCirclesOf.l0 k (Circ.circI d c.length) (i : Int) c d) true := fun h => Ev.step (fun k => by rw [laws_FnCirclesOf.l0]) (evPos (by omega) h)
  refine st (circLaw_l1 B hil e C ?_ p.length 0 (by omega))
  rw [rdR_nat, e]
  have t2 : ¬ (((Circ.toI p).length : Int) < 2) := by omega
  by_cases h0 : i = 0
  ·exact evNeg (by omega) (evNeg t2 nx)
  ·obtain ⟨j, rfl⟩ : ∃ j, i = j + 1 := ⟨i - 1, by omega⟩
   have hw : wrap64 (((j + 1 : Nat) : Int) - 1) = (j : Int) := by unfold wrap64; omega
   obtain ⟨p2, e2, ep2, C2⟩ := circ_at B (i := j) (by omega)
   have hne : Circ.toI p ≠ Circ.toI p2 := fun h => nex_at _ F.next j (by rw [← circI_len]; exact hil) (by rw [← ep, ← ep2]; exact toI_inj h)
   have four := C.four
   rw [hw, rdR_nat, e2]
   exact evPos (by omega) (evPos (by omega) (evPos (by omega) (Ev.bind (diff_f _ _ (by omega) hne) (evNeg (show ¬ (false = true) by decide) (evNeg t2 nx)))))
theorem FnCirclesOf : laws_FnCirclesOf.Pure := by
 intro l hl hl2 hs
 obtain ⟨c, d, dr, s1, s2, s3⟩ := drawn_ev l hs 9 spec_DrawCirclesOf.f (fun k l => rfl)
 have hr : ∀ i, (d.getD i []).length ≤ 9223372036854775807 := fun i => by have := s3 i; omega
 have ib := isBook_f c d (by omega) hr
 have sb := specBookOk_f c d (by omega) hr
 refine Ev.rounds (Ev.congr (fun k => by unfold laws_FnCirclesOf.f; rfl) (evIte (fun _ => Ev.now true) (fun _ => Ev.bind dr ?_)))
 by_cases hb : okB c d = true
 ·have B := Bk.of hb
  have F := Circ.circs_ok (Circ.Ed d) c.length B.n1 B.n4 B.bt.edz
  rw [hb] at ib sb
  have few := circ_few B
  have cl := circI_len d c.length
  obtain ⟨b, ho, hg⟩ := orderImpl_f B ib (Good := fun b => (b.2 == decide (((Circ.circI d c.length).length : Int) = 0)) = true) (Inv := InvO d c.length) (InvO.nil d c.length)
   (fun out h hl => by
    have : (Circ.circN (Circ.Ed d) c.length) = [] := Classical.byContradiction fun hne => by
     obtain ⟨P, hP⟩ := F.some_ hne
     exact h.full hl P hP
    rw [cl, this]; rfl)
   (fun out h hf hl => by
    have : (Circ.circN (Circ.Ed d) c.length) ≠ [] := fun he => F.none_ he _ (h.stuck hl hf)
    have h0 : 0 < (Circ.circN (Circ.Ed d) c.length).length := List.length_pos_iff.2 this
    rw [cl, decide_eq_false (by omega)]; rfl)
   (fun out i h hi hf => h.step hi hf)
  have sr := sameRows_f (Circ.circI d c.length) (by omega) (fun i => by have := circ_row B i; omega)
  exact Ev.bind (circImpl_f B ib) (Ev.bind (circSpec_f B sb) (Ev.bind sr (evPos rfl (Ev.bind sb (evPos rfl (circLaw_l0 B ho hg (Circ.circI d c.length).length 0 (by omega)))))))
 ·have hf : okB c d = false := by simpa using hb
  rw [hf] at ib sb
  exact Ev.bind (circImpl_no ib) (Ev.bind (circSpec_no sb) (Ev.bind (sameRows_f [] (by decide) (fun i => by rw [List.getD_nil]; decide)) (evPos rfl (Ev.bind sb (evNeg (show ¬ (false = true) by decide) (evPos rfl (Ev.bind alive_ev (Ev.now _))))))))

end Go.Proofs.Ythdncdfgonbfeaa.Pure
