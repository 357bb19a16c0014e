/- OrderOf of the program and of the reference agree at all drawn books; where there is an order each bank stands in it once and owes nothing to one before it; for every list of bytes, no condition. -/
import Derived.Test.YthdncdfgonbfeaaJQFnOrderOfx12
import Derived.Test.YthdncdfgonbfeaaJCirc8
import Derived.Test.YthdncdfgonbfeaaUSized
namespace Go.Proofs.Ythdncdfgonbfeaa.PrintWords
open Go.ChangeShapes Go.WideShapes
theorem sized_ints {H : Type} {enc : TypeId × Value → H} {P : Program} {W : World} {base : Nat} {spare : Nat → Bool} {held : Bool} {t e : TypeId} {k : IntKind} {a : Option Addr} {len cap : Nat} {d : DataW H} {ps : List MemPlace} {ts : List TypeId} {ds : List (DataW H)} {j : Nat}
  (hsz : (DataW.weightsEach P ts ds).all (· ≤ reachBytes) = true) (ht : ts[j]? = some t) (hd : ds[j]? = some d) (hu : P.underlying t = some (.slice e)) (he : P.underlying e = some (.int k)) (hc : P.cellsOf e = 1) {B : Nat} (hB : P.bytesOf e = B)
  (h : DataW.Trod enc P W base spare held t (.slice a len cap) d ps) : len * B ≤ 140737488351232 := Go.Proofs.YthdncdfgonbfeaaW.PrintWords.sized_ints hsz ht hd hu he hc hB h
end Go.Proofs.Ythdncdfgonbfeaa.PrintWords
namespace Go.Proofs.Ythdncdfgonbfeaa.Pure
open Go.RowKit Go.Proofs.Ythdncdfgonbfeaa.QFnOrderOf Go.Proofs.YthdncdfgonbfeaaW.PrintWords Go.Proofs.YthdncdfgonbfeaaW.PrintLast Go.Proofs.YthdncdfgonbfeaaW.PrintMore
set_option linter.unusedVariables false
set_option linter.unusedSimpArgs false

/-- A fraction in lowest terms: what FracOk asks. -/
def okF (u d : Int) : Bool := decide (-1000000000 ≤ u ∧ u ≤ 1000000000 ∧ 1 ≤ d ∧ d ≤ 1000000000 ∧ Int.gcd u d = 1)

/-- The fraction of a number over another one, brought to lowest terms, and whether it is one. -/
def lowF (u d : Int) : Int × Int × Bool :=
 if okF (u.tdiv (if d < 0 then -(Int.gcd u d : Int) else (Int.gcd u d : Int))) (d.tdiv (if d < 0 then -(Int.gcd u d : Int) else (Int.gcd u d : Int))) = true then
  (u.tdiv (if d < 0 then -(Int.gcd u d : Int) else (Int.gcd u d : Int)), d.tdiv (if d < 0 then -(Int.gcd u d : Int) else (Int.gcd u d : Int)), true)
 else (0, 0, false)

theorem okF_iff (u d : Int) : okF u d = true ↔ -1000000000 ≤ u ∧ u ≤ 1000000000 ∧ 1 ≤ d ∧ d ≤ 1000000000 ∧ Int.gcd u d = 1 := by
 unfold okF; exact decide_eq_true_iff

theorem gcd_step (x y : Int) : Int.gcd y (x.tmod y) = Int.gcd x y := by
 simp only [Int.gcd, Int.natAbs_tmod]
 rw [Nat.gcd_comm y.natAbs, ← Nat.gcd_rec, Nat.gcd_comm]

theorem tmod_lt (x y : Int) (h : y ≠ 0) : (x.tmod y).natAbs < y.natAbs := by
 rw [Int.natAbs_tmod]; exact Nat.mod_lt _ (by omega)

def fracOfV (u d : Int) : Int × Int × Bool := if (-1000000000 ≤ u ∧ u ≤ 1000000000) ∧ (-1000000000 ≤ d ∧ d ≤ 1000000000) ∧ d ≠ 0 then lowF u d else (0, 0, false)
def plusV (a b c d : Int) : Int × Int × Bool := if okF a b = true ∧ okF c d = true then lowF (a * d + c * b) (b * d) else (0, 0, false)
def lessV (a b c d : Int) : Int × Int × Bool := if okF a b = true ∧ okF c d = true then lowF (a * d - c * b) (b * d) else (0, 0, false)
def timesV (a b c d : Int) : Int × Int × Bool := if okF a b = true ∧ okF c d = true then lowF (a * c) (b * d) else (0, 0, false)
def overV (a b c d : Int) : Int × Int × Bool := if okF a b = true ∧ okF c d = true ∧ c ≠ 0 then lowF (a * d) (b * c) else (0, 0, false)
def beforeV (a b c d : Int) : Int := if okF a b = true ∧ okF c d = true then (if a * d < c * b then -1 else if a * d > c * b then 1 else 0) else -2

theorem byte_of_wf {n : Int} (h : (Lit.int .u8 n).wf = true) : 0 ≤ n ∧ n ≤ 255 := by
 unfold Lit.wf at h
 have h1 := Bool.and_eq_true_iff.1 h
 exact ⟨of_decide_eq_true h1.1, of_decide_eq_true h1.2⟩

theorem gcd_l0 : ∀ (k : Nat) (x y : Int), -9000000000000000000 ≤ x → x ≤ 9000000000000000000 → -9000000000000000000 ≤ y → y ≤ 9000000000000000000 → y.natAbs < k → impl_gcd.l0 k x y = some (Int.gcd x y : Int)
 | 0, _, _ => by omega
 | k + 1, x, y => by
  intro h1 h2 h3 h4 hk
  simp only [impl_gcd.l0]
  by_cases hy : y = 0
  ·rw [if_pos hy, hy]
   have hw : wrap64 (-x) = -x := by unfold wrap64; omega
   rw [hw, Int.gcd_zero_right]
   unfold mx; split <;> (congr 1; omega)
  ·rw [if_neg hy]
   have ht := tmod_lt x y hy
   rw [gcd_l0 k y (x.tmod y) h3 h4 (by omega) (by omega) (by omega), gcd_step]
theorem gcd_f (k : Nat) (x y : Int) (h1 : -9000000000000000000 ≤ x ∧ x ≤ 9000000000000000000) (h2 : -9000000000000000000 ≤ y ∧ y ≤ 9000000000000000000) (hk : 9000000000000000001 ≤ k) : impl_gcd.f k x y = some (Int.gcd x y : Int) := by
 unfold impl_gcd.f
 exact gcd_l0 k x y h1.1 h1.2 h2.1 h2.2 (by omega)
theorem isNumber_f (n : Int) : impl_isNumber.f n = some (decide (-1000000000 ≤ n ∧ n ≤ 1000000000)) := by
 unfold impl_isNumber.f
 by_cases h : n ≥ -1000000000
 ·rw [if_pos h]; congr 1; rw [Bool.eq_iff_iff, decide_eq_true_iff, decide_eq_true_iff]; omega
 ·rw [if_neg h]; congr 1; symm; exact decide_eq_false (by omega)
theorem isFrac_f (k : Nat) (u d : Int) (hk : 9000000000000000001 ≤ k) : impl_isFrac.f k u d = some (okF u d) := by
 unfold impl_isFrac.f
 rw [isNumber_f]; simp only [Option.bind_some, decide_eq_true_iff]
 by_cases h1 : -1000000000 ≤ u ∧ u ≤ 1000000000
 ·rw [if_pos h1]
  by_cases h2 : d ≥ 1
  ·rw [if_pos h2]
   by_cases h3 : d ≤ 1000000000
   ·rw [if_pos h3, gcd_f k u d (by omega) (by omega) hk]
    simp only [Option.bind_some]; congr 1
    rw [Bool.eq_iff_iff, okF_iff, beq_iff_eq]; omega
   ·rw [if_neg h3]; congr 1; symm; rw [Bool.eq_false_iff, Ne, okF_iff]; omega
  ·rw [if_neg h2]; congr 1; symm; rw [Bool.eq_false_iff, Ne, okF_iff]; omega
 ·rw [if_neg h1]; congr 1; symm; rw [Bool.eq_false_iff, Ne, okF_iff]; omega

theorem implFracOk_f (k : Nat) (u d : Int) (hk : 9000000000000000001 ≤ k) : impl_FracOk.f k u d = some (okF u d) := by
 unfold impl_FracOk.f; rw [isFrac_f k u d hk]; rfl

theorem xor_i64 (a b : Nat) (ha : a < 4611686018427387904) (hb : b < 4611686018427387904) : Go.bits .xor .i64 (a : Int) (b : Int) = ((a ^^^ b : Nat) : Int) ∧ a ^^^ b < 4611686018427387904 := by
 have hx : a ^^^ b < 2 ^ 62 := Nat.xor_lt_two_pow (by simpa using ha) (by simpa using hb)
 have hx' : a ^^^ b < 4611686018427387904 := by simpa using hx
 refine ⟨?_, hx'⟩
 simp only [Go.bits, BitVec.ofInt_natCast, BitVec.toNat_xor, BitVec.toNat_ofNat]
 rw [Nat.mod_eq_of_lt (a := a) (by simp [IntKind.bits]; omega), Nat.mod_eq_of_lt (a := b) (by simp [IntKind.bits]; omega), IntKind.wrap_i64]
 omega

theorem rd_range (s : List Int) (hs : ∀ x ∈ s, 0 ≤ x ∧ x ≤ 255) (i : Int) : 0 ≤ rd s i ∧ rd s i ≤ 255 := by
 unfold rd
 by_cases h : i.toNat < s.length
 ·rw [List.getD_eq_getElem?_getD, List.getElem?_eq_getElem h]
  exact hs _ (List.getElem_mem h)
 ·rw [List.getD_eq_getElem?_getD, List.getElem?_eq_none (by omega)]
  exact ⟨Int.le_refl 0, by decide⟩
theorem xor_nonneg (S : Int) (h0 : 0 ≤ S) (h1 : S ≤ 4000000000000000000) : 0 ≤ Go.bits .xor .i64 S (S.tdiv 64) := by
 obtain ⟨a, rfl⟩ := Int.eq_ofNat_of_zero_le h0
 have hd : (a : Int).tdiv 64 = ((a / 64 : Nat) : Int) := by rw [Int.tdiv_eq_ediv_of_nonneg (by omega)]; omega
 rw [hd, (xor_i64 a (a / 64) (by omega) (by omega)).1]
 omega
theorem pick_f (k : Nat) (s : List Int) (p n : Int) (hs : ∀ x ∈ s, 0 ≤ x ∧ x ≤ 255) (hl : s.length ≤ 2000) (hp : 0 ≤ p ∧ p ≤ 1000000) (hk : 1 ≤ k) :
  ∃ v, spec_l20Rd_pick.f k s p n = some (v, p + 1) ∧ 0 ≤ v ∧ (1 ≤ n → v < n) ∧ (n < 1 → v = 0) := by
 obtain ⟨k, rfl⟩ : ∃ m, k = m + 1 := ⟨k - 1, by omega⟩
 unfold spec_l20Rd_pick.f
 have w0 : wrap64 (p + 1) = p + 1 := by unfold wrap64; omega
 have w1 : wrap64 (p + 1 - 1) = p := by unfold wrap64; omega
 rw [w0]
 by_cases hn : n < 1
 ·rw [if_pos hn]
  refine ⟨0, ?_, by omega, by omega, fun _ => rfl⟩
  simp [spec_l20Rd_pick.j0]
 ·rw [if_neg hn]
  by_cases hz : (s.length : Int) = 0
  ·refine ⟨0, ?_, by omega, by omega, by omega⟩
   simp [spec_l20Rd_pick.j0, hz]
  ·have hb : ((s.length : Int) == 0) = false := by simpa using hz
   rw [hb]
   simp only [spec_l20Rd_pick.j0, w1, Bool.false_eq_true, if_false]
   by_cases hlt : p < (s.length : Int)
   ·have hr := rd_range s hs p
    have w2 : wrap64 (rd s p) = rd s p := by unfold wrap64; omega
    rw [if_pos hlt, if_pos hp.1, if_neg (by omega), w2]
    exact ⟨_, rfl, Int.tmod_nonneg n hr.1, fun _ => Int.tmod_lt_of_pos _ (by omega), by omega⟩
   ·have a0 := Int.tmod_nonneg (s.length : Int) hp.1
    have a1 := Int.tmod_lt_of_pos p (show 0 < (s.length : Int) by omega)
    have w3 : wrap64 (p * 7) = p * 7 := by unfold wrap64; omega
    have w4 : wrap64 (p * 7 + 3) = p * 7 + 3 := by unfold wrap64; omega
    have b0 := Int.tmod_nonneg (s.length : Int) (show 0 ≤ p * 7 + 3 by omega)
    have b1 := Int.tmod_lt_of_pos (p * 7 + 3) (show 0 < (s.length : Int) by omega)
    have c0 : 0 ≤ p.tdiv (s.length : Int) := Int.tdiv_nonneg hp.1 (by omega)
    have c1 : p.tdiv (s.length : Int) ≤ p := by have := Int.natAbs_tdiv_le_natAbs p (s.length : Int); omega
    rw [w3, w4]
    rw [if_neg hlt, if_neg hz, if_pos a0, if_pos a1, if_pos b0, if_pos b1, if_neg (by omega)]
    have rA := rd_range s hs (p.tmod (s.length : Int))
    have rB := rd_range s hs ((p * 7 + 3).tmod (s.length : Int))
    generalize rd s (p.tmod (s.length : Int)) = A at rA ⊢
    generalize rd s ((p * 7 + 3).tmod (s.length : Int)) = B at rB ⊢
    generalize p.tdiv (s.length : Int) = C at c0 c1 ⊢
    have e1 : wrap64 A = A := by unfold wrap64; omega
    have e2 : wrap64 B = B := by unfold wrap64; omega
    have e3 : wrap64 C = C := by unfold wrap64; omega
    rw [e1, e2, e3]
    have e4 : wrap64 (A * 131) = A * 131 := by unfold wrap64; omega
    have e5 : wrap64 (B * 1117) = B * 1117 := by unfold wrap64; omega
    have e6 : wrap64 (p * 29) = p * 29 := by unfold wrap64; omega
    have e7 : wrap64 (C * 53) = C * 53 := by unfold wrap64; omega
    rw [e4, e5, e6, e7]
    have e8 : wrap64 (A * 131 + B * 1117) = A * 131 + B * 1117 := by unfold wrap64; omega
    rw [e8]
    have e9 : wrap64 (A * 131 + B * 1117 + p * 29) = A * 131 + B * 1117 + p * 29 := by unfold wrap64; omega
    rw [e9]
    have e10 : wrap64 (A * 131 + B * 1117 + p * 29 + C * 53) = A * 131 + B * 1117 + p * 29 + C * 53 := by unfold wrap64; omega
    rw [e10]
    have hS0 : 0 ≤ A * 131 + B * 1117 + p * 29 + C * 53 := by omega
    have hS1 : A * 131 + B * 1117 + p * 29 + C * 53 ≤ 4000000000000 := by omega
    generalize A * 131 + B * 1117 + p * 29 + C * 53 = S at hS0 hS1 ⊢
    have hd : -9000000000000000000 ≤ S.tdiv 64 ∧ S.tdiv 64 ≤ 9000000000000000000 := by have := Int.natAbs_tdiv_le_natAbs S 64; omega
    have e11 : wrap64 (S.tdiv 64) = S.tdiv 64 := by unfold wrap64; omega
    rw [e11]
    have hx := xor_nonneg S hS0 (by omega)
    exact ⟨_, rfl, Int.tmod_nonneg n hx, fun _ => Int.tmod_lt_of_pos _ (by omega), by omega⟩
theorem pick_pos (k : Nat) (s : List Int) (p n : Int) (hs : ∀ x ∈ s, 0 ≤ x ∧ x ≤ 255) (hl : s.length ≤ 2000) (hp : 0 ≤ p ∧ p ≤ 1000000) (hn : 1 ≤ n) (hk : 1 ≤ k) :
  ∃ v, spec_l20Rd_pick.f k s p n = some (v, p + 1) ∧ 0 ≤ v ∧ v < n := by
 obtain ⟨v, h1, h2, h3, _⟩ := pick_f k s p n hs hl hp hk
 exact ⟨v, h1, h2, h3 hn⟩
theorem open_f (l : List Int) (hs : ∀ x ∈ l, (Lit.int .u8 x).wf = true) : ∃ s, spec_l20Open.f l = some (s, 0) ∧ s.length ≤ 2000 ∧ ∀ x ∈ s, 0 ≤ x ∧ x ≤ 255 := by
 unfold spec_l20Open.f
 by_cases h : (l.length : Int) > 2000
 ·rw [if_pos h, if_pos (by omega)]
  exact ⟨_, rfl, by simp; omega, fun x hx => byte_of_wf (hs x (List.mem_of_mem_take hx))⟩
 ·rw [if_neg h]
  exact ⟨_, rfl, by omega, fun x hx => byte_of_wf (hs x hx)⟩

theorem alive_f (k : Nat) (hk : 9000000000000000001 ≤ k) : laws_alive.f k = some true := by
 unfold laws_alive.f
 have h1 : okF 1 2 = true := by decide
 have h2 : okF 2 4 = false := by decide
 rw [implFracOk_f k 1 2 hk, implFracOk_f k 2 4 hk, h1, h2]; rfl

theorem evPos {α : Type} {c : Prop} [Decidable c] {f g : Nat → Option α} {r : α} (h : c) (e : Ev f r) : Ev (fun k => if c then f k else g k) r := by
 simp only [if_pos h]; exact e
theorem evNeg {α : Type} {c : Prop} [Decidable c] {f g : Nat → Option α} {r : α} (h : ¬ c) (e : Ev g r) : Ev (fun k => if c then f k else g k) r := by
 simp only [if_neg h]; exact e
theorem evIs {α : Type} {g : Nat → Option α} {r r' : α} (e : Ev g r) (h : r = r') : Ev g r' := h ▸ e
theorem evIte {α : Type} {c : Prop} [Decidable c] {f g : Nat → Option α} {r : α} (e1 : c → Ev f r) (e2 : ¬ c → Ev g r) : Ev (fun k => if c then f k else g k) r := by
 by_cases h : c
 ·exact evPos h (e1 h)
 ·exact evNeg h (e2 h)
/-- What a number does, it does in one step more. -/
theorem w64 {j n : Nat} (h : j < n) (hn : n ≤ 9223372036854775807) : wrap64 ((j : Int) + 1) = ((j + 1 : Nat) : Int) := by unfold wrap64; omega
theorem rd_nat (xs : List Int) (j : Nat) : rd xs (j : Int) = xs.getD j 0 := by unfold rd; rw [Int.toNat_natCast]
theorem drop_step {α : Type} (xs : List α) (j : Nat) (z : α) (h : j < xs.length) : xs.drop j = xs.getD j z :: xs.drop (j + 1) := by
 rw [List.drop_eq_getElem_cons h, List.getD_eq_getElem?_getD, List.getElem?_eq_getElem h]; rfl
theorem drop_end {α : Type} (xs : List α) (j : Nat) (h : ¬ j < xs.length) : xs.drop j = [] := List.drop_eq_nil_of_le (by omega)
def debtOk (x : Int) : Bool := decide (0 ≤ x ∧ x ≤ 9)
def rowOk (c : List Int) (d : List (List Int)) (i : Nat) : Bool :=
 decide (0 ≤ c.getD i 0 ∧ c.getD i 0 ≤ 20) && ((d.getD i []).length == c.length) && ((d.getD i []).getD i 0 == 0) && (d.getD i []).all debtOk
/-- A book: what BookOk asks. -/
def okB (c : List Int) (d : List (List Int)) : Bool := decide (1 ≤ c.length ∧ c.length ≤ 4) && (d.length == c.length) && (List.range' 0 c.length).all (rowOk c d)
theorem range_step (i n : Nat) (h : i < n) : List.range' i (n - i) = i :: List.range' (i + 1) (n - (i + 1)) := by
 have : n - i = (n - (i + 1)) + 1 := by omega
 rw [this, List.range'_succ]
theorem range_end (i n : Nat) (h : ¬ i < n) : List.range' i (n - i) = [] := by
 have : n - i = 0 := by omega
 rw [this]; rfl
theorem rowOk_of {c : List Int} {d : List (List Int)} {i : Nat} (h1 : 0 ≤ c.getD i 0 ∧ c.getD i 0 ≤ 20) (h2 : (d.getD i []).length = c.length) (h3 : (d.getD i []).getD i 0 = 0) : rowOk c d i = (d.getD i []).all debtOk := by
 unfold rowOk; rw [decide_eq_true h1, beq_iff_eq.2 h2, beq_iff_eq.2 h3]; rfl
theorem rowOk_f1 {c : List Int} {d : List (List Int)} {i : Nat} (h1 : ¬ (0 ≤ c.getD i 0 ∧ c.getD i 0 ≤ 20)) : rowOk c d i = false := by
 unfold rowOk; rw [decide_eq_false h1]; rfl
theorem rowOk_f2 {c : List Int} {d : List (List Int)} {i : Nat} (h2 : ¬ (d.getD i []).length = c.length) : rowOk c d i = false := by
 unfold rowOk; rw [beq_eq_false_iff_ne.2 h2, Bool.and_false]; rfl
theorem rowOk_f3 {c : List Int} {d : List (List Int)} {i : Nat} (h3 : ¬ (d.getD i []).getD i 0 = 0) : rowOk c d i = false := by
 unfold rowOk; rw [beq_eq_false_iff_ne.2 h3, Bool.and_false]; rfl
theorem okB_of {c : List Int} {d : List (List Int)} (h1 : 1 ≤ c.length ∧ c.length ≤ 4) (h2 : d.length = c.length) : okB c d = (List.range' 0 c.length).all (rowOk c d) := by
 unfold okB; rw [decide_eq_true h1, beq_iff_eq.2 h2]; rfl
theorem okB_f1 {c : List Int} {d : List (List Int)} (h1 : ¬ (1 ≤ c.length ∧ c.length ≤ 4)) : okB c d = false := by
 unfold okB; rw [decide_eq_false h1]; rfl
theorem okB_f2 {c : List Int} {d : List (List Int)} (h2 : ¬ d.length = c.length) : okB c d = false := by
 unfold okB; rw [beq_eq_false_iff_ne.2 h2, Bool.and_false]; rfl
/-- What a book is like, row by row. -/
theorem okB_iff (c : List Int) (d : List (List Int)) : okB c d = true ↔ (1 ≤ c.length ∧ c.length ≤ 4) ∧ d.length = c.length ∧ ∀ i, i < c.length → (0 ≤ c.getD i 0 ∧ c.getD i 0 ≤ 20) ∧ (d.getD i []).length = c.length ∧ (d.getD i []).getD i 0 = 0 ∧ ∀ x ∈ d.getD i [], 0 ≤ x ∧ x ≤ 9 := by
 unfold okB
 rw [Bool.and_eq_true, Bool.and_eq_true, decide_eq_true_iff, beq_iff_eq, List.all_eq_true, and_assoc]
 refine and_congr_right fun _ => and_congr_right fun _ => ⟨fun h i hi => ?_, fun h i hi => ?_⟩
 ·have h2 := h i (by rw [List.mem_range']; exact ⟨i, hi, by omega⟩)
  unfold rowOk at h2
  rw [Bool.and_eq_true, Bool.and_eq_true, Bool.and_eq_true, decide_eq_true_iff, beq_iff_eq, beq_iff_eq, List.all_eq_true] at h2
  exact ⟨h2.1.1.1, h2.1.1.2, h2.1.2, fun x hx => of_decide_eq_true (h2.2 x hx)⟩
 ·obtain ⟨j, hj, rfl⟩ := List.mem_range'.1 hi
  have h2 := h (0 + 1 * j) (by omega)
  unfold rowOk
  rw [Bool.and_eq_true, Bool.and_eq_true, Bool.and_eq_true, decide_eq_true_iff, beq_iff_eq, beq_iff_eq, List.all_eq_true]
  exact ⟨⟨⟨h2.1, h2.2.1⟩, h2.2.2.1⟩, fun x hx => decide_eq_true (h2.2.2.2 x hx)⟩

theorem rdR_nat (xs : List (List Int)) (j : Nat) : rd_L1 xs (j : Int) = xs.getD j [] := by unfold rd_L1; rw [Int.toNat_natCast]

/-- The sum of numbers. -/
def sm : List Int → Int
 | [] => 0
 | x :: r => x + sm r
theorem sm_append (a b : List Int) : sm (a ++ b) = sm a + sm b := by
 induction a with
 | nil => simp [sm]
 | cons x r ih => simp only [List.cons_append, sm, ih]; omega
theorem take_snoc {α : Type} (xs : List α) (z : α) (j : Nat) (h : j < xs.length) : xs.take (j + 1) = xs.take j ++ [xs.getD j z] := by
 rw [List.take_add_one, List.getElem?_eq_getElem h, List.getD_eq_getElem?_getD, List.getElem?_eq_getElem h]; rfl
theorem getD_mem {xs : List Int} {j : Nat} (h : j < xs.length) : xs.getD j 0 ∈ xs := by
 rw [List.getD_eq_getElem?_getD, List.getElem?_eq_getElem h]; exact List.getElem_mem h
theorem rmap_set {α : Type} (f : Nat → α) (n i : Nat) (y : α) : ((List.range n).map f).set i y = (List.range n).map fun j => if j = i then y else f j := by
 refine List.ext_getElem (by simp) fun j h1 h2 => ?_
 simp only [List.getElem_set, List.getElem_map, List.getElem_range]
 by_cases e : i = j
 ·simp [e]
 ·rw [if_neg e, if_neg (fun h => e h.symm)]
theorem rmap_get (f : Nat → Int) (n i : Nat) (h : i < n) : ((List.range n).map f).getD i 0 = f i := by
 rw [List.getD_eq_getElem?_getD, List.getElem?_map, List.getElem?_range h]; rfl
theorem rmap_congr {α : Type} {f g : Nat → α} {n : Nat} (h : ∀ j, j < n → f j = g j) : (List.range n).map f = (List.range n).map g :=
 List.map_congr_left fun j hj => h j (List.mem_range.1 hj)
theorem rmap_succ {α : Type} (f : Nat → α) (n : Nat) : (List.range (n + 1)).map f = (List.range n).map f ++ [f n] := by
 rw [List.range_succ, List.map_append]; rfl
/-- What a bank owes in all; what it is owed, by the first i banks. -/
def owesI (d : List (List Int)) (i : Nat) : Int := sm (d.getD i [])
def owedI (d : List (List Int)) (i j : Nat) : Int := sm ((d.take i).map fun r => r.getD j 0)
def owesV (d : List (List Int)) (n : Nat) : List Int := (List.range n).map (owesI d)
def owedV (d : List (List Int)) (n : Nat) : List Int := (List.range n).map (owedI d n)
def netsV (d : List (List Int)) (n : Nat) : List Int := (List.range n).map fun i => owedI d n i - owesI d i
/-- The facts of a book, as they are used. -/
structure Bk (c : List Int) (d : List (List Int)) : Prop where
 n1 : 1 ≤ c.length
 n4 : c.length ≤ 4
 hd : d.length = c.length
 hr : ∀ i, i < c.length → (d.getD i []).length = c.length
 he : ∀ i, i < c.length → ∀ x ∈ d.getD i [], 0 ≤ x ∧ x ≤ 9
 hz : ∀ i, i < c.length → (d.getD i []).getD i 0 = 0
 hc : ∀ i, i < c.length → 0 ≤ c.getD i 0 ∧ c.getD i 0 ≤ 20
theorem Bk.of {c : List Int} {d : List (List Int)} (h : okB c d = true) : Bk c d := by
 obtain ⟨⟨a1, a2⟩, a3, a4⟩ := (okB_iff c d).1 h
 exact ⟨a1, a2, a3, fun i hi => (a4 i hi).2.1, fun i hi => (a4 i hi).2.2.2, fun i hi => (a4 i hi).2.2.1, fun i hi => (a4 i hi).1⟩
theorem Bk.ent {c : List Int} {d : List (List Int)} (h : Bk c d) {i j : Nat} (hi : i < c.length) (hj : j < c.length) : 0 ≤ (d.getD i []).getD j 0 ∧ (d.getD i []).getD j 0 ≤ 9 :=
 h.he i hi _ (getD_mem (by rw [h.hr i hi]; exact hj))
theorem getD_bound {d : List (List Int)} {n : Nat} (h : ∀ r ∈ d, r.length ≤ n) (i : Nat) : (d.getD i []).length ≤ n := by
 rw [List.getD_eq_getElem?_getD]
 by_cases hi : i < d.length
 ·rw [List.getElem?_eq_getElem hi]; exact h _ (List.getElem_mem hi)
 ·rw [List.getElem?_eq_none (by omega)]; simp

theorem pick_const (k : Nat) (s : List Int) (p n : Int) : spec_l20Rd_pick.f (k + 1) s p n = spec_l20Rd_pick.f 1 s p n := by
 unfold spec_l20Rd_pick.f
 simp only [spec_l20Rd_pick.j0]
/-- A byte source that is drawn from. -/
structure Src (s : List Int) : Prop where
 b : ∀ x ∈ s, 0 ≤ x ∧ x ≤ 255
 l : s.length ≤ 2000
theorem pick_ev {s : List Int} (h : Src s) {p n : Int} (hp : 0 ≤ p ∧ p ≤ 1000) (hn : 1 ≤ n) : ∃ v, Ev (fun k => spec_l20Rd_pick.f k s p n) (v, p + 1) ∧ 0 ≤ v ∧ v < n := by
 obtain ⟨v, h1, h2, h3⟩ := pick_pos 1 s p n h.b h.l (by omega) hn (by omega)
 refine ⟨v, ⟨1, fun k hk => ?_⟩, h2, h3⟩
 obtain ⟨k, rfl⟩ : ∃ m, k = m + 1 := ⟨k - 1, by omega⟩
 show spec_l20Rd_pick.f (k + 1) s p n = _
 rw [pick_const]
 exact h1
theorem odd_ev {s : List Int} (h : Src s) {p n : Int} (hp : 0 ≤ p ∧ p ≤ 1000) : ∃ b p', Ev (fun k => spec_l20Rd_odd.f k s p n) (b, p') ∧ 0 ≤ p' ∧ p' ≤ p + 1 := by
 by_cases hn : n > 0
 ·obtain ⟨v, h1, _⟩ := pick_ev h hp (show 1 ≤ n by omega)
  refine ⟨_, p + 1, Ev.congr (fun k => by unfold spec_l20Rd_odd.f; rfl) (evPos hn (Ev.bind h1 (Ev.now _))), by omega, by omega⟩
 ·exact ⟨_, p, Ev.congr (fun k => by unfold spec_l20Rd_odd.f; rfl) (evNeg hn (Ev.now _)), by omega, by omega⟩
/-- What a drawn book is like: it is small. -/
def Small (r : List Int × List (List Int) × Int) : Prop := r.1.length ≤ 4 ∧ r.2.1.length ≤ 4 ∧ (∀ x ∈ r.2.1, x.length ≤ 4) ∧ 0 ≤ r.2.2 ∧ r.2.2 ≤ 1000
theorem small_set {d : List (List Int)} {b : Nat} (hd : ∀ r ∈ d, r.length = b) (hb : b ≤ 4) (i : Nat) (x : List Int) (hx : x.length ≤ 4) : ∀ r ∈ d.set i x, r.length ≤ 4 := by
 intro r hr
 rcases List.mem_or_eq_of_mem_set hr with h | h
 ·have := hd r h; omega
 ·rw [h]; exact hx
theorem rows_at {d : List (List Int)} {b : Nat} (hd : ∀ r ∈ d, r.length = b) (i : Int) (h0 : 0 ≤ i) (h1 : i < (d.length : Int)) : (rd_L1 d i).length = b := by
 unfold rd_L1
 rw [List.getD_eq_getElem?_getD, List.getElem?_eq_getElem (show i.toNat < d.length by omega)]
 exact hd _ (List.getElem_mem _)
theorem bookEnd {s : List Int} (h : Src s) (n : Int) (b : Nat) (kd : Int) (hb : 1 ≤ b ∧ b ≤ 4) (c : List Int) (d : List (List Int)) (p : Int) (hc : c.length = b) (hd : d.length = b) (hr : ∀ r ∈ d, r.length = b) (hp : 0 ≤ p ∧ p ≤ 900) :
  ∃ r, Ev (fun k => spec_l20Book.l0 k n (b : Int) kd (b : Int) s p c d) r ∧ Small r := by
 obtain ⟨o, q, ho, q0, q1⟩ := odd_ev (n := n) h (show 0 ≤ p ∧ p ≤ 1000 by omega)
 have sm : Small (c, d, q) := ⟨show c.length ≤ 4 by omega, show d.length ≤ 4 by omega, fun r (h : r ∈ d) => by have := hr r h; omega, show (0 : Int) ≤ q by omega, show q ≤ 1000 by omega⟩
 by_cases hob : o = true
 ·obtain ⟨v, hv, v0, v1⟩ := pick_ev (n := 4) h (show 0 ≤ q ∧ q ≤ 1000 by omega) (by omega)
  have go : ∀ {r}, Ev (fun k => if v = 0 then some (([] : List Int), ([] : List (List Int)), q + 1) else (if v = 1 then (if 0 < (c.length : Int) then (some ((c.set (0 : Int).toNat (-1)), d, q + 1)) else (none)) else (if v = 2 then (if 0 < (d.length : Int) then (if 0 < ((rd_L1 d 0).length : Int) then (some (c, (d.set (0 : Int).toNat ((rd_L1 d 0).set (0 : Int).toNat 1)), q + 1)) else (none)) else (none)) else (if 0 ≤ wrap64 ((b : Int) - 1) then (if wrap64 ((b : Int) - 1) < (d.length : Int) then (if 1 ≤ ((rd_L1 d (wrap64 ((b : Int) - 1))).length : Int) then (some (c, (d.set (wrap64 ((b : Int) - 1)).toNat ((rd_L1 d (wrap64 ((b : Int) - 1))).drop 1)), q + 1)) else (none)) else (none)) else (none))))) r →
    Ev (fun k => spec_l20Book.l0 k n (b : Int) kd (b : Int) s p c d) r := fun e =>
   Ev.step (fun k => by rw [spec_l20Book.l0]) (evNeg (by omega) (Ev.bind ho (evPos hob (Ev.bind hv e))))
  have r0 := rows_at hr 0 (by omega) (by omega)
  have hw : wrap64 ((b : Int) - 1) = (b : Int) - 1 := by unfold wrap64; omega
  have r1 := rows_at hr (wrap64 ((b : Int) - 1)) (by omega) (by omega)
  by_cases e0 : v = 0
  ·exact ⟨_, go (evPos e0 (Ev.now _)), by simp only [Small]; exact ⟨by simp, by simp, fun r h => by simp at h, by omega, by omega⟩⟩
  by_cases e1 : v = 1
  ·exact ⟨_, go (evNeg e0 (evPos e1 (evPos (by omega) (Ev.now _)))), by simp only [Small, List.length_set]; exact ⟨by omega, by omega, fun r h => by have := hr r h; omega, by omega, by omega⟩⟩
  by_cases e2 : v = 2
  ·exact ⟨_, go (evNeg e0 (evNeg e1 (evPos e2 (evPos (by omega) (evPos (by omega) (Ev.now _)))))), by
    simp only [Small, List.length_set]; exact ⟨by omega, by omega, small_set hr (by omega) _ _ (by rw [List.length_set]; omega), by omega, by omega⟩⟩
  ·exact ⟨_, go (evNeg e0 (evNeg e1 (evNeg e2 (evPos (by omega) (evPos (by omega) (evPos (by omega) (Ev.now _))))))), by
    simp only [Small, List.length_set]; exact ⟨by omega, by omega, small_set hr (by omega) _ _ (by rw [List.length_drop]; omega), by omega, by omega⟩⟩
 ·exact ⟨_, Ev.step (fun k => by rw [spec_l20Book.l0]) (evNeg (by omega) (Ev.bind ho (evNeg hob (Ev.now _)))), sm⟩
/-- One row. -/
theorem bookRow {s : List Int} (h : Src s) (n : Int) (b : Nat) (kd : Int) (hb : 1 ≤ b ∧ b ≤ 4) (i : Nat) (c : List Int) (d : List (List Int)) (hi : i < b) (hd : d.length ≤ 4) (hc : c.length ≤ 4) :
  ∀ (m j : Nat) (row : List Int) (p : Int), j + m = b → row.length = j → 0 ≤ p → p + 2 * m ≤ 900 →
   (∀ (row' : List Int) (p' : Int), row'.length = b → 0 ≤ p' → p' ≤ p + 2 * m → ∃ r, Ev (fun k => spec_l20Book.l0 k n (b : Int) kd ((i + 1 : Nat) : Int) s p' c (d ++ [row'])) r ∧ Small r) →
   ∃ r, Ev (fun k => spec_l20Book.l1 k n (b : Int) kd (i : Int) row (j : Int) s p c d) r ∧ Small r
 | 0, j, row, p, hj, hr, h0, h1, go => by
  obtain ⟨r, e, sm⟩ := go row p (by omega) h0 (by omega)
  refine ⟨r, Ev.step (fun k => by rw [spec_l20Book.l1]) (evNeg (by omega) (evPos (by omega) ?_)), sm⟩
  have : wrap64 ((i : Int) + 1) = ((i + 1 : Nat) : Int) := by unfold wrap64; omega
  rw [this]
  exact e
 | m + 1, j, row, p, hj, hr, h0, h1, go => by
  have hw : wrap64 ((j : Int) + 1) = ((j + 1 : Nat) : Int) := by unfold wrap64; omega
  by_cases hij : (i : Int) = (j : Int)
  ·obtain ⟨r, e, sm⟩ := bookRow h n b kd hb i c d hi hd hc m (j + 1) (row ++ [0]) p (by omega) (by simp; omega) h0 (by omega) (fun row' p' a1 a2 a3 => go row' p' a1 a2 (by omega))
   refine ⟨r, Ev.step (fun k => by rw [spec_l20Book.l1]) (evPos (by omega) (evPos hij (evPos (by omega) ?_))), sm⟩
   rw [hw]; exact e
  ·obtain ⟨v, hv, v0, v1⟩ := pick_ev (n := 3) h (show 0 ≤ p ∧ p ≤ 1000 by omega) (by omega)
   by_cases hv0 : v > 0
   ·obtain ⟨u, hu, u0, u1⟩ := pick_ev (n := 10) h (show 0 ≤ p + 1 ∧ p + 1 ≤ 1000 by omega) (by omega)
    obtain ⟨r, e, sm⟩ := bookRow h n b kd hb i c d hi hd hc m (j + 1) (row ++ [u]) (p + 1 + 1) (by omega) (by simp; omega) (by omega) (by omega) (fun row' p' a1 a2 a3 => go row' p' a1 a2 (by omega))
    refine ⟨r, Ev.step (fun k => by rw [spec_l20Book.l1]) (evPos (by omega) (evNeg hij (Ev.bind hv (evPos hv0 (Ev.bind hu ?_))))), sm⟩
    simp only []
    refine evPos (by omega) ?_
    rw [hw]; exact e
   ·obtain ⟨r, e, sm⟩ := bookRow h n b kd hb i c d hi hd hc m (j + 1) (row ++ [0]) (p + 1) (by omega) (by simp; omega) (by omega) (by omega) (fun row' p' a1 a2 a3 => go row' p' a1 a2 (by omega))
    refine ⟨r, Ev.step (fun k => by rw [spec_l20Book.l1]) (evPos (by omega) (evNeg hij (Ev.bind hv (evNeg hv0 ?_)))), sm⟩
    simp only []
    refine evPos (by omega) ?_
    rw [hw]; exact e
theorem bookRows {s : List Int} (h : Src s) (n : Int) (b : Nat) (kd : Int) (hb : 1 ≤ b ∧ b ≤ 4) (hk : 0 ≤ kd ∧ kd < 3) :
  ∀ (m i : Nat) (c : List Int) (d : List (List Int)) (p : Int), i + m = b → c.length = i → d.length = i → (∀ r ∈ d, r.length = b) → 0 ≤ p → p + 10 * m ≤ 900 →
   ∃ r, Ev (fun k => spec_l20Book.l0 k n (b : Int) kd (i : Int) s p c d) r ∧ Small r
 | 0, i, c, d, p, hi, hc, hd, hr, h0, h1 => by
  obtain rfl : i = b := by omega
  exact bookEnd h n i kd hb c d p hc hd hr (by omega)
 | m + 1, i, c, d, p, hi, hc, hd, hr, h0, h1 => by
  obtain ⟨v, hv, v0, v1⟩ := pick_ev (n := 4) h (show 0 ≤ p ∧ p ≤ 1000 by omega) (by omega)
  obtain ⟨u, hu, u0, u1⟩ := pick_ev (n := 21) h (show 0 ≤ p + 1 ∧ p + 1 ≤ 1000 by omega) (by omega)
  obtain ⟨r, e, sm⟩ := bookRow h n b kd hb i (c ++ [rd [0, v, u] kd]) d (by omega) (by omega) (by simp; omega) b 0 [] (p + 1 + 1) (by omega) rfl (by omega) (by omega)
   (fun row' p' a1 a2 a3 => bookRows h n b kd hb hk m (i + 1) (c ++ [rd [0, v, u] kd]) (d ++ [row']) p' (by omega) (by simp; omega) (by simp; omega) (fun r hr' => by
    rcases List.mem_append.1 hr' with h2 | h2
    ·exact hr r h2
    ·rw [List.mem_singleton.1 h2]; exact a1) a2 (by omega))
  refine ⟨r, Ev.step (fun k => by rw [spec_l20Book.l0]) (evPos (by omega) (Ev.bind hv (Ev.bind hu ?_))), sm⟩
  simp only [Option.bind_some]
  exact evPos (by omega) (evPos (by simp; omega) (evPos (by omega) e))
/-- A drawn book. -/
theorem l20Book_ev {s : List Int} (h : Src s) (p n : Int) (hp : 0 ≤ p ∧ p ≤ 100) : ∃ r, Ev (fun k => spec_l20Book.f k s p n) r ∧ Small r := by
 obtain ⟨t, ht, t0, t1⟩ := pick_ev (n := 6) h (show 0 ≤ p ∧ p ≤ 1000 by omega) (by omega)
 obtain ⟨kd, hk, k0, k1⟩ := pick_ev (n := 3) h (show 0 ≤ p + 1 ∧ p + 1 ≤ 1000 by omega) (by omega)
 obtain ⟨b, hb, hb2⟩ : ∃ b : Nat, rd ([1, 2, 3, 3, 4, 4] : List Int) t = (b : Int) ∧ 1 ≤ b ∧ b ≤ 4 := by
  have : t = 0 ∨ t = 1 ∨ t = 2 ∨ t = 3 ∨ t = 4 ∨ t = 5 := by omega
  rcases this with rfl | rfl | rfl | rfl | rfl | rfl
  ·exact ⟨1, rfl, by omega⟩
  ·exact ⟨2, rfl, by omega⟩
  ·exact ⟨3, rfl, by omega⟩
  ·exact ⟨3, rfl, by omega⟩
  ·exact ⟨4, rfl, by omega⟩
  ·exact ⟨4, rfl, by omega⟩
 obtain ⟨r, e, sm⟩ := bookRows h n b kd hb2 ⟨k0, k1⟩ b 0 [] [] (p + 1 + 1) (by omega) rfl rfl (fun r hr => by cases hr) (by omega) (by omega)
 refine ⟨r, ?_, sm⟩
 unfold spec_l20Book.f
 simp only [Option.bind_some]
 refine Ev.bind ht ?_
 simp only []
 refine evPos t0 (evPos (by simp; omega) (Ev.bind hk ?_))
 simp only []
 rw [hb]; exact e
theorem src_of (l : List Int) (hs : ∀ x ∈ l, (Lit.int .u8 x).wf = true) : ∃ s, spec_l20Open.f l = some (s, 0) ∧ Src s := by
 obtain ⟨s, h1, h2, h3⟩ := open_f l hs
 exact ⟨s, h1, h3, h2⟩
theorem alive_ev : Ev (fun k => laws_alive.f k) true := ⟨9000000000000000001, fun k hk => alive_f k hk⟩
/-- The draw that all these laws make. -/
theorem drawn_ev (l : List Int) (hs : ∀ x ∈ l, (Lit.int .u8 x).wf = true) (n : Int) (D : Nat → List Int → Option (List Int × List (List Int))) (hD : ∀ k l, D k l = (spec_l20Open.f l).bind fun a => (spec_l20Book.f k a.1 a.2 n).bind fun b => some (b.1, b.2.1)) :
  ∃ c d, Ev (fun k => D k l) (c, d) ∧ c.length ≤ 4 ∧ d.length ≤ 4 ∧ ∀ i, (d.getD i []).length ≤ 4 := by
 obtain ⟨s, h1, h2⟩ := src_of l hs
 obtain ⟨⟨c, d, p⟩, e, s1, s2, s3, _⟩ := l20Book_ev h2 0 n (by omega)
 exact ⟨c, d, Ev.congr (f := fun k => (spec_l20Book.f k s 0 n).bind fun b => some (b.1, b.2.1)) (fun k => by rw [hD, h1]; rfl) (Ev.bind e (Ev.now _)), s1, s2, getD_bound s3⟩

theorem l1In_b (n a b : Int) : spec_l1In.f n a b = some (decide (a ≤ n ∧ n ≤ b)) := by
 unfold spec_l1In.f
 by_cases h : n ≥ a
 ·rw [if_pos h]; congr 1; rw [Bool.eq_iff_iff, decide_eq_true_iff, decide_eq_true_iff]; omega
 ·rw [if_neg h]; congr 1; symm; exact decide_eq_false (by omega)
theorem specBookOk_l1 (c : List Int) (d : List (List Int)) (i : Nat) (hi : i < d.length) (hr : (d.getD i []).length ≤ 9223372036854775807) (r : Bool) (hn : Ev (fun k => spec_BookOk.l0 k (wrap64 ((i : Int) + 1)) c d) r) :
  ∀ (m j : Nat), j + m = (d.getD i []).length → Ev (fun k => spec_BookOk.l1 k (i : Int) (j : Int) c d) (((d.getD i []).drop j).all debtOk && r)
 | 0, j => fun h => by
  rw [drop_end _ _ (by omega)]
  refine Ev.step (fun k => ?_) hn
  simp only [spec_BookOk.l1]
  rw [rdR_nat, if_pos (by omega), if_pos (by omega), if_neg (by omega)]
 | m + 1, j => fun h => by
  rw [drop_step _ j 0 (by omega), List.all_cons]
  have ih := specBookOk_l1 c d i hi hr r hn m (j + 1) (by omega)
  have hstep : ∀ k, spec_BookOk.l1 (k + 1) (i : Int) (j : Int) c d = if debtOk ((d.getD i []).getD j 0) = true then spec_BookOk.l1 k (i : Int) ((j + 1 : Nat) : Int) c d else some false := by
   intro k
   simp only [spec_BookOk.l1]
   rw [rdR_nat, if_pos (by omega), if_pos (by omega), if_pos (by omega), if_pos (by omega), rd_nat, l1In_b, w64 (show j < (d.getD i []).length by omega) hr]
   rfl
  refine Ev.step hstep ?_
  cases hb : debtOk ((d.getD i []).getD j 0) with
  | true => exact evPos rfl (by simpa using ih)
  | false => exact evNeg (by simp) (by simpa using Ev.now false)
theorem specBookOk_l0 (c : List Int) (d : List (List Int)) (hc : c.length ≤ 9223372036854775807) (hd : d.length = c.length) (hr : ∀ i, (d.getD i []).length ≤ 9223372036854775807) :
  ∀ (m i : Nat), i + m = c.length → Ev (fun k => spec_BookOk.l0 k (i : Int) c d) ((List.range' i (c.length - i)).all (rowOk c d))
 | 0, i => fun h => by
  rw [range_end _ _ (by omega)]
  refine Ev.step (f := fun _ => some true) (fun k => ?_) (Ev.now true)
  simp only [spec_BookOk.l0]
  rw [if_neg (by omega)]
 | m + 1, i => fun h => by
  rw [range_step _ _ (by omega), List.all_cons]
  have ih := specBookOk_l0 c d hc hd hr m (i + 1) (by omega)
  rw [← w64 (show i < c.length by omega) hc] at ih
  refine Ev.step (fun k => by simp only [spec_BookOk.l0]; rfl) ?_
  rw [rdR_nat]
  simp only [rd_nat, l1In_b, Option.bind_some]
  refine evPos (by omega) (evPos (by omega) ?_)
  have fin : ∀ b : Bool, b = true → Ev (fun k => spec_BookOk.j2 k (i : Int) b c d) false := fun b hb => by
   refine Ev.step (f := fun _ => some false) (fun k => ?_) (Ev.now false)
   simp only [spec_BookOk.j2]
   rw [if_pos hb]
  by_cases h1 : 0 ≤ c.getD i 0 ∧ c.getD i 0 ≤ 20
  ·refine evPos (decide_eq_true_iff.2 h1) (evPos (by omega) ?_)
   by_cases h2 : (d.getD i []).length = c.length
   ·refine evPos (by omega) (evPos (by omega) ?_)
    by_cases h3 : (d.getD i []).getD i 0 = 0
    ·have l1 := specBookOk_l1 c d i (by omega) (hr i) _ ih (d.getD i []).length 0 (by omega)
     refine Ev.step (f := fun k => spec_BookOk.l1 k (i : Int) ((0 : Nat) : Int) c d) (fun k => ?_) (evIs l1 ?_)
     ·simp only [spec_BookOk.j2]
      rw [if_neg (by simpa using h3)]; rfl
     ·rw [rowOk_of h1 h2 h3, List.drop_zero]
    ·exact evIs (fin _ (by simpa using h3)) (by rw [rowOk_f3 h3, Bool.false_and])
   ·exact evNeg (by omega) (evIs (fin _ rfl) (by rw [rowOk_f2 h2, Bool.false_and]))
  ·exact evNeg (fun h => h1 (decide_eq_true_iff.1 h)) (evIs (fin _ rfl) (by rw [rowOk_f1 h1, Bool.false_and]))
theorem specBookOk_f (c : List Int) (d : List (List Int)) (hc : c.length ≤ 9223372036854775807) (hr : ∀ i, (d.getD i []).length ≤ 9223372036854775807) : Ev (fun k => spec_BookOk.f k c d) (okB c d) := by
 refine Ev.congr (fun k => by unfold spec_BookOk.f; rw [l1In_b, Option.bind_some]) ?_
 have fin : ∀ b : Bool, b = true → Ev (fun k => spec_BookOk.j0 k b c d) false := fun b hb => by
  refine Ev.step (f := fun _ => some false) (fun k => ?_) (Ev.now false)
  simp only [spec_BookOk.j0]
  rw [if_pos hb]
 by_cases h1 : 1 ≤ c.length ∧ c.length ≤ 4
 ·refine evPos (decide_eq_true_iff.2 (by omega)) ?_
  by_cases h2 : d.length = c.length
  ·have l0 := specBookOk_l0 c d hc h2 hr c.length 0 (by omega)
   refine Ev.step (f := fun k => spec_BookOk.l0 k ((0 : Nat) : Int) c d) (fun k => ?_) (evIs l0 ?_)
   ·simp only [spec_BookOk.j0]
    rw [if_neg (by simp [h2])]; rfl
   ·rw [okB_of h1 h2]; rfl
  ·exact evIs (fin _ (by simp; omega)) (by rw [okB_f2 h2])
 ·exact evNeg (fun h => by have := decide_eq_true_iff.1 h; omega) (evIs (fin _ rfl) (by rw [okB_f1 h1]))

theorem isBook_l1 (c : List Int) (d : List (List Int)) (n D I : Int) (row : List Int) (hr : row.length ≤ 9223372036854775807) (r : Bool) (hn : Ev (fun k => impl_isBook.l0 k n d D (wrap64 (I + 1)) c d) r) :
  ∀ (m j : Nat), j + m = row.length → Ev (fun k => impl_isBook.l1 k n d D I row (row.length : Int) (j : Int) c d) ((row.drop j).all debtOk && r)
 | 0, j => fun h => by
  rw [drop_end _ _ (by omega)]
  refine Ev.step (fun k => ?_) hn
  simp only [impl_isBook.l1]
  rw [if_neg (by omega)]
 | m + 1, j => fun h => by
  rw [drop_step _ j 0 (by omega), List.all_cons]
  have ih := isBook_l1 c d n D I row hr r hn m (j + 1) (by omega)
  have hstep : ∀ k, impl_isBook.l1 (k + 1) n d D I row (row.length : Int) (j : Int) c d = if debtOk (row.getD j 0) = true then impl_isBook.l1 k n d D I row (row.length : Int) ((j + 1 : Nat) : Int) c d else some false := by
   intro k
   simp only [impl_isBook.l1]
   rw [if_pos (by omega), if_pos (by omega), if_pos (by omega), rd_nat, w64 (show j < row.length by omega) hr]
   unfold debtOk
   by_cases a : row.getD j 0 < 0
   ·rw [if_pos a, if_neg (by rw [decide_eq_true_iff]; omega)]
   ·by_cases b : row.getD j 0 > 9
    ·rw [if_neg a, if_pos b, if_neg (by rw [decide_eq_true_iff]; omega)]
    ·rw [if_neg a, if_neg b, if_pos (by rw [decide_eq_true_iff]; omega)]
  refine Ev.step hstep ?_
  cases hb : debtOk (row.getD j 0) with
  | true => exact evPos rfl (by simpa using ih)
  | false => exact evNeg (by simp) (by simpa using Ev.now false)
theorem isBook_l0 (c : List Int) (d : List (List Int)) (hc : c.length ≤ 9223372036854775807) (hd : d.length = c.length) (hr : ∀ i, (d.getD i []).length ≤ 9223372036854775807) :
  ∀ (m i : Nat), i + m = c.length → Ev (fun k => impl_isBook.l0 k (c.length : Int) d (d.length : Int) (i : Int) c d) ((List.range' i (c.length - i)).all (rowOk c d))
 | 0, i => fun h => by
  rw [range_end _ _ (by omega)]
  refine Ev.step (f := fun _ => some true) (fun k => ?_) (Ev.now true)
  simp only [impl_isBook.l0]
  rw [if_neg (by omega)]
 | m + 1, i => fun h => by
  rw [range_step _ _ (by omega), List.all_cons]
  have ih := isBook_l0 c d hc hd hr m (i + 1) (by omega)
  rw [← w64 (show i < c.length by omega) hc] at ih
  refine Ev.step (fun k => by simp only [impl_isBook.l0]; rfl) ?_
  rw [rdR_nat]
  simp only [rd_nat]
  refine evPos (by omega) (evPos (by omega) (evPos (by omega) (evPos (by omega) ?_)))
  have fin : ∀ b : Bool, b = true → Ev (fun k => impl_isBook.j2 k (c.length : Int) (d.getD i []) d (d.length : Int) (i : Int) b c d) false := fun b hb => by
   refine Ev.step (f := fun _ => some false) (fun k => ?_) (Ev.now false)
   simp only [impl_isBook.j2]
   rw [if_pos hb]
  by_cases h1 : c.getD i 0 < 0
  ·refine evPos h1 (evIs (fin _ rfl) ?_)
   rw [rowOk_f1 (by omega), Bool.false_and]
  refine evNeg h1 ?_
  by_cases h2 : c.getD i 0 > 20
  ·refine evPos h2 (evIs (fin _ rfl) ?_)
   rw [rowOk_f1 (by omega), Bool.false_and]
  refine evNeg h2 ?_
  have h12 : 0 ≤ c.getD i 0 ∧ c.getD i 0 ≤ 20 := by omega
  by_cases h3 : (d.getD i []).length = c.length
  ·refine evPos (by omega) (evPos (by omega) ?_)
   by_cases h4 : (d.getD i []).getD i 0 = 0
   ·have l1 := isBook_l1 c d (c.length : Int) (d.length : Int) (i : Int) (d.getD i []) (hr i) _ ih (d.getD i []).length 0 (by omega)
    refine Ev.step (f := fun k => impl_isBook.l1 k (c.length : Int) d (d.length : Int) (i : Int) (d.getD i []) ((d.getD i []).length : Int) ((0 : Nat) : Int) c d) (fun k => ?_) (evIs l1 ?_)
    ·simp only [impl_isBook.j2]
     rw [if_neg (by simpa using h4)]; rfl
    ·rw [rowOk_of h12 h3 h4, List.drop_zero]
   ·exact evIs (fin _ (by simpa using h4)) (by rw [rowOk_f3 h4, Bool.false_and])
  ·exact evNeg (by omega) (evIs (fin _ rfl) (by rw [rowOk_f2 h3, Bool.false_and]))
theorem isBook_f (c : List Int) (d : List (List Int)) (hc : c.length ≤ 9223372036854775807) (hr : ∀ i, (d.getD i []).length ≤ 9223372036854775807) : Ev (fun k => impl_isBook.f k c d) (okB c d) := by
 refine Ev.congr (fun k => by unfold impl_isBook.f; rfl) ?_
 have fin : ∀ b : Bool, b = true → Ev (fun k => impl_isBook.j0 k (c.length : Int) b c d) false := fun b hb => by
  refine Ev.step (f := fun _ => some false) (fun k => ?_) (Ev.now false)
  simp only [impl_isBook.j0]
  rw [if_pos hb]
 by_cases h1 : (c.length : Int) < 1
 ·exact evPos h1 (evIs (fin _ rfl) (by rw [okB_f1 (by omega)]))
 refine evNeg h1 ?_
 by_cases h2 : (c.length : Int) > 4
 ·exact evPos h2 (evIs (fin _ rfl) (by rw [okB_f1 (by omega)]))
 refine evNeg h2 ?_
 have h12 : 1 ≤ c.length ∧ c.length ≤ 4 := by omega
 by_cases h3 : d.length = c.length
 ·have l0 := isBook_l0 c d hc h3 hr c.length 0 (by omega)
  refine Ev.step (f := fun k => impl_isBook.l0 k (c.length : Int) d (d.length : Int) ((0 : Nat) : Int) c d) (fun k => ?_) (evIs l0 ?_)
  ·simp only [impl_isBook.j0]
   rw [if_neg (by simp [h3])]; rfl
  ·rw [okB_of h12 h3]; rfl
 ·exact evIs (fin _ (by simp; omega)) (by rw [okB_f2 h3])

theorem sameInts_l0 (l : List Int) (hl : l.length ≤ 1000) : ∀ (m i : Nat), i + m = l.length → Ev (fun k => laws_sameInts.l0 k l l (i : Int)) true
 | 0, i, h => Ev.step (fun k => by rw [laws_sameInts.l0]) (evNeg (by omega) (Ev.now true))
 | m + 1, i, h => Ev.step (fun k => by rw [laws_sameInts.l0]) (evPos (by omega) (evPos (by omega) (evPos (by omega) (evPos rfl (by
   rw [w64 (show i < l.length by omega) (by omega)]; exact sameInts_l0 l hl m (i + 1) (by omega))))))
theorem sameInts_f (l : List Int) (hl : l.length ≤ 1000) : Ev (fun k => laws_sameInts.f k l l) true :=
 Ev.congr (fun k => by unfold laws_sameInts.f; rfl) (evPos rfl (sameInts_l0 l hl l.length 0 (by omega)))

/-- A bank that is left, to which no other one that is left owes anything. -/
def freeB (d : List (List Int)) (n : Nat) (out : List Int) (i : Nat) : Prop := (i : Int) ∉ out ∧ ∀ j, j < n → (j : Int) ∈ out ∨ (d.getD j []).getD i 0 = 0
theorem index_l0 (xs : List Int) (x : Int) (hl : xs.length ≤ 1000) : ∀ (m i : Nat), i + m = xs.length → (∀ j, j < i → xs.getD j 0 ≠ x) → ∃ r : Int, Ev (fun k => slices_Index_int_int.l0 k xs x (xs.length : Int) (i : Int)) r ∧ (0 ≤ r ↔ x ∈ xs)
 | 0, i, h, hn => by
  refine ⟨-1, Ev.step (fun k => by rw [slices_Index_int_int.l0]) (evNeg (by omega) (Ev.now _)), ⟨fun a => by omega, fun a => ?_⟩⟩
  obtain ⟨j, hj, e⟩ := List.mem_iff_getElem.1 a
  exact absurd (by rw [List.getD_eq_getElem?_getD, List.getElem?_eq_getElem hj]; exact e) (hn j (by omega))
 | m + 1, i, h, hn => by
  by_cases e : xs.getD i 0 = x
  ·refine ⟨(i : Int), Ev.step (fun k => by rw [slices_Index_int_int.l0]) (evPos (by omega) (evPos (by omega) (evPos (by omega) (evPos (by rw [rd_nat]; exact e.symm) (Ev.now _))))), ⟨fun _ => ?_, fun _ => by omega⟩⟩
   rw [← e]; exact getD_mem (by omega)
  ·obtain ⟨r, hr, hi⟩ := index_l0 xs x hl m (i + 1) (by omega) (fun j hj => by
    by_cases e2 : j = i
    ·subst e2; exact e
    ·exact hn j (by omega))
   refine ⟨r, Ev.step (fun k => by rw [slices_Index_int_int.l0]) (evPos (by omega) (evPos (by omega) (evPos (by omega) (evNeg (by rw [rd_nat]; exact fun a => e a.symm) ?_)))), hi⟩
   rw [w64 (show i < xs.length by omega) (by omega)]
   exact hr
theorem contains_f (xs : List Int) (x : Int) (hl : xs.length ≤ 1000) : Ev (fun k => slices_Contains_int_int.f k xs x) (decide (x ∈ xs)) := by
 obtain ⟨r, hr, hi⟩ := index_l0 xs x hl xs.length 0 (by omega) (fun j hj => by omega)
 refine Ev.congr (fun k => by unfold slices_Contains_int_int.f; rfl) (Ev.bind (Ev.congr (fun k => by unfold slices_Index_int_int.f; rfl) hr) (evIs (Ev.now _) ?_))
 exact decide_eq_decide.2 hi
theorem ordImpl_no {c : List Int} {d : List (List Int)} (B : Bk c d) {out : List Int} {i : Nat} (hi : i < c.length) {res : List Int × Bool} (e : Ev (fun k => impl_OrderOf.l1 k out (-1) (c.length : Int) ((i + 1 : Nat) : Int) c d) res) :
  ∀ m j, j + m = c.length → Ev (fun k => impl_OrderOf.l2 k out (-1) (i : Int) false (c.length : Int) (i : Int) d (d.length : Int) (j : Int) c d) res
 | 0, j, hj => by
  have hd := B.hd
  have n4 := B.n4
  exact Ev.step (fun k => by rw [impl_OrderOf.l2]) (evNeg (by omega) (evNeg (by simp) (by rw [w64 hi (by omega)]; exact e)))
 | m + 1, j, hj => by
  have hd := B.hd
  have n4 := B.n4
  refine Ev.step (fun k => by rw [impl_OrderOf.l2]) (evPos (by omega) (evPos (by omega) (evPos (by omega) (evNeg (by simp) ?_))))
  rw [w64 (show j < c.length by omega) (by omega)]
  exact ordImpl_no B hi e m (j + 1) (by omega)
theorem ordImpl_all {c : List Int} {d : List (List Int)} (B : Bk c d) {out : List Int} (ho : out.length ≤ 4) {i : Nat} (hi : i < c.length) {res : List Int × Bool} (e : Ev (fun k => impl_OrderOf.l0 k (out ++ [(i : Int)]) c d) res) :
  ∀ m j, j + m = c.length → (∀ q, j ≤ q → q < c.length → (q : Int) ∈ out ∨ (d.getD q []).getD i 0 = 0) → Ev (fun k => impl_OrderOf.l2 k out (-1) (i : Int) true (c.length : Int) (i : Int) d (d.length : Int) (j : Int) c d) res
 | 0, j, hj, hP => by
  have hd := B.hd
  exact Ev.step (fun k => by rw [impl_OrderOf.l2]) (evNeg (by omega) (evPos rfl (evNeg (by omega) (evPos (by omega) e))))
 | m + 1, j, hj, hP => by
  have hd := B.hd
  have n4 := B.n4
  have hjn : j < c.length := by omega
  have hr := B.hr j hjn
  have ih := ordImpl_all B ho hi e m (j + 1) (by omega) (fun q h1 h2 => hP q (by omega) h2)
  have rw1 : (rd_L1 d (j : Int)) = d.getD j [] := rdR_nat d j
  by_cases h0 : (d.getD j []).getD i 0 = 0
  ·refine Ev.step (fun k => by rw [impl_OrderOf.l2]) (evPos (by omega) (evPos (by omega) (evPos (by omega) (evPos rfl (evPos (by omega) (evPos (by rw [rw1]; omega) (evPos (by rw [rw1, rd_nat]; exact h0) ?_)))))))
   rw [w64 hjn (by omega)]
   exact ih
  ·have hin := (hP j (by omega) hjn).resolve_right h0
   have ct := contains_f out (j : Int) (by omega)
   rw [decide_eq_true hin] at ct
   refine Ev.step (fun k => by rw [impl_OrderOf.l2]) (evPos (by omega) (evPos (by omega) (evPos (by omega) (evPos rfl (evPos (by omega) (evPos (by rw [rw1]; omega) (evNeg (by rw [rw1, rd_nat]; exact h0) (Ev.bind ct ?_))))))))
   rw [w64 hjn (by omega)]
   exact ih
theorem ordImpl_some {c : List Int} {d : List (List Int)} (B : Bk c d) {out : List Int} (ho : out.length ≤ 4) {i : Nat} (hi : i < c.length) {res : List Int × Bool} (e : Ev (fun k => impl_OrderOf.l1 k out (-1) (c.length : Int) ((i + 1 : Nat) : Int) c d) res) :
  ∀ m j, j + m = c.length → (∃ q, j ≤ q ∧ q < c.length ∧ ¬ ((q : Int) ∈ out ∨ (d.getD q []).getD i 0 = 0)) → Ev (fun k => impl_OrderOf.l2 k out (-1) (i : Int) true (c.length : Int) (i : Int) d (d.length : Int) (j : Int) c d) res
 | 0, j, hj, hP => by
  obtain ⟨q, h1, h2, _⟩ := hP
  omega
 | m + 1, j, hj, hP => by
  have hd := B.hd
  have n4 := B.n4
  have hjn : j < c.length := by omega
  have hr := B.hr j hjn
  have rw1 : (rd_L1 d (j : Int)) = d.getD j [] := rdR_nat d j
  have up : ((j : Int) ∈ out ∨ (d.getD j []).getD i 0 = 0) → ∃ q, j + 1 ≤ q ∧ q < c.length ∧ ¬ ((q : Int) ∈ out ∨ (d.getD q []).getD i 0 = 0) := fun a => by
   obtain ⟨q, h1, h2, h3⟩ := hP
   refine ⟨q, ?_, h2, h3⟩
   by_cases e2 : q = j
   ·subst e2; exact absurd a h3
   ·omega
  by_cases h0 : (d.getD j []).getD i 0 = 0
  ·refine Ev.step (fun k => by rw [impl_OrderOf.l2]) (evPos (by omega) (evPos (by omega) (evPos (by omega) (evPos rfl (evPos (by omega) (evPos (by rw [rw1]; omega) (evPos (by rw [rw1, rd_nat]; exact h0) ?_)))))))
   rw [w64 hjn (by omega)]
   exact ordImpl_some B ho hi e m (j + 1) (by omega) (up (.inr h0))
  ·have ct := contains_f out (j : Int) (by omega)
   refine Ev.step (fun k => by rw [impl_OrderOf.l2]) (evPos (by omega) (evPos (by omega) (evPos (by omega) (evPos rfl (evPos (by omega) (evPos (by rw [rw1]; omega) (evNeg (by rw [rw1, rd_nat]; exact h0) (Ev.bind ct ?_))))))))
   rw [w64 hjn (by omega)]
   by_cases hin : (j : Int) ∈ out
   ·rw [decide_eq_true hin]
    exact ordImpl_some B ho hi e m (j + 1) (by omega) (up (.inl hin))
   ·rw [decide_eq_false hin]
    exact ordImpl_no B hi e m (j + 1) (by omega)
def tk (n : Nat) (out : List Int) : List Bool := (List.range n).map fun p : Nat => decide ((p : Int) ∈ out)
theorem tk_len (n : Nat) (out : List Int) : (tk n out).length = n := by simp [tk]
theorem tk_at (n : Nat) (out : List Int) (i : Nat) (h : i < n) : rdOf false (tk n out) (i : Int) = decide ((i : Int) ∈ out) := by
 unfold rdOf tk; rw [Int.toNat_natCast, List.getD_eq_getElem?_getD, List.getElem?_map, List.getElem?_range h]; rfl
theorem tk_set (n : Nat) (out : List Int) (i : Nat) : (tk n out).set i true = tk n (out ++ [(i : Int)]) := by
 unfold tk
 rw [rmap_set]
 refine rmap_congr fun j _ => ?_
 by_cases e : j = i
 ·subst e; rw [if_pos rfl]; simp
 ·rw [if_neg e, decide_eq_decide, List.mem_append, List.mem_singleton]
  exact ⟨fun h => .inl h, fun h => h.resolve_right (fun a => e (by omega))⟩
theorem ordSpec_end {c : List Int} {d : List (List Int)} (n4 : c.length ≤ 4) {out : List Int} (ho : out.length ≤ 4) {f : Nat} (hf : f < c.length) {res : List Int × Bool} (e : Ev (fun k => spec_OrderOf.l0 k (out ++ [(f : Int)]) (tk c.length (out ++ [(f : Int)])) c d) res) :
  ∀ m i, i + m = c.length → Ev (fun k => spec_OrderOf.l1 k out (tk c.length out) (f : Int) (i : Int) c d) res
 | 0, i, hi => by
  have lt := tk_len c.length out
  refine Ev.step (fun k => by rw [spec_OrderOf.l1]) (evNeg (by omega) (evNeg (by omega) (evPos (by omega) (evPos (by omega) (evPos (by omega) ?_)))))
  rw [Int.toNat_natCast, tk_set]
  exact e
 | m + 1, i, hi => by
  have lt := tk_len c.length out
  have ih := ordSpec_end n4 ho hf e m (i + 1) (by omega)
  have w := w64 (show i < c.length by omega) (by omega)
  have t0 : (i : Int) < (c.length : Int) := by omega
  have t1 : (i : Int) < ((tk c.length out).length : Int) := by omega
  have z : (0 : Int) ≤ (i : Int) := by omega
  have dz : decide ((f : Int) ≥ 0) = true := decide_eq_true (by omega)
  have j2 : Ev (fun k => spec_OrderOf.j2 k out (tk c.length out) (f : Int) (i : Int) true c d) res := Ev.step (fun k => by rw [spec_OrderOf.j2]) (evPos rfl (by rw [w]; exact ih))
  refine Ev.step (fun k => by rw [spec_OrderOf.l1]) (evPos t0 (evPos z (evPos t1 (evIte (fun _ => j2) (fun _ => ?_)))))
  rw [dz]; exact j2
theorem ordSpec_all {c : List Int} {d : List (List Int)} (B : Bk c d) {out : List Int} {i : Nat} (hi : i < c.length) {res : List Int × Bool} (e : Ev (fun k => spec_OrderOf.l1 k out (tk c.length out) (i : Int) ((i + 1 : Nat) : Int) c d) res) :
  ∀ m j, j + m = c.length → (∀ q, j ≤ q → q < c.length → (q : Int) ∈ out ∨ (d.getD q []).getD i 0 = 0) → Ev (fun k => spec_OrderOf.l2 k out (tk c.length out) (-1) (i : Int) (j : Int) c d) res
 | 0, j, hj, hP => Ev.step (fun k => by rw [spec_OrderOf.l2]) (evNeg (by omega) (by rw [w64 hi (by have := B.n4; omega)]; exact e))
 | m + 1, j, hj, hP => by
  have lt := tk_len c.length out
  have hd := B.hd
  have n4 := B.n4
  have hjn : j < c.length := by omega
  have hr := B.hr j hjn
  have ih := ordSpec_all B hi e m (j + 1) (by omega) (fun q h1 h2 => hP q (by omega) h2)
  have rw1 : (rd_L1 d (j : Int)) = d.getD j [] := rdR_nat d j
  have w := w64 hjn (by omega)
  refine Ev.step (fun k => by rw [spec_OrderOf.l2]) (evPos (by omega) (evPos (by omega) (evPos (by omega) (evIte (fun _ => by rw [w]; exact ih) (fun hn => ?_)))))
  rw [tk_at c.length out j hjn, decide_eq_true_iff] at hn
  have h0 := (hP j (by omega) hjn).resolve_left hn
  exact evPos (by omega) (evPos (by omega) (evPos (by rw [rw1]; omega) (evNeg (by rw [rw1, rd_nat, h0]; omega) (by rw [w]; exact ih))))
theorem ordSpec_some {c : List Int} {d : List (List Int)} (B : Bk c d) {out : List Int} {i : Nat} (hi : i < c.length) {res : List Int × Bool} (e : Ev (fun k => spec_OrderOf.l1 k out (tk c.length out) (-1) ((i + 1 : Nat) : Int) c d) res) :
  ∀ m j, j + m = c.length → (∃ q, j ≤ q ∧ q < c.length ∧ ¬ ((q : Int) ∈ out ∨ (d.getD q []).getD i 0 = 0)) → Ev (fun k => spec_OrderOf.l2 k out (tk c.length out) (-1) (i : Int) (j : Int) c d) res
 | 0, j, hj, hP => by
  obtain ⟨q, h1, h2, _⟩ := hP
  omega
 | m + 1, j, hj, hP => by
  have lt := tk_len c.length out
  have hd := B.hd
  have n4 := B.n4
  have hjn : j < c.length := by omega
  have hr := B.hr j hjn
  have hx := B.ent hjn hi
  have rw1 : (rd_L1 d (j : Int)) = d.getD j [] := rdR_nat d j
  have w := w64 hjn (by omega)
  have up : ((j : Int) ∈ out ∨ (d.getD j []).getD i 0 = 0) → ∃ q, j + 1 ≤ q ∧ q < c.length ∧ ¬ ((q : Int) ∈ out ∨ (d.getD q []).getD i 0 = 0) := fun a => by
   obtain ⟨q, h1, h2, h3⟩ := hP
   refine ⟨q, ?_, h2, h3⟩
   by_cases e2 : q = j
   ·subst e2; exact absurd a h3
   ·omega
  refine Ev.step (fun k => by rw [spec_OrderOf.l2]) (evPos (by omega) (evPos (by omega) (evPos (by omega) (evIte (fun hy => ?_) (fun hn => ?_)))))
  ·rw [tk_at c.length out j hjn, decide_eq_true_iff] at hy
   rw [w]
   exact ordSpec_some B hi e m (j + 1) (by omega) (up (.inl hy))
  ·refine evPos (by omega) (evPos (by omega) (evPos (by rw [rw1]; omega) ?_))
   by_cases h0 : (d.getD j []).getD i 0 = 0
   ·exact evNeg (by rw [rw1, rd_nat, h0]; omega) (by rw [w]; exact ordSpec_some B hi e m (j + 1) (by omega) (up (.inr h0)))
   ·exact evPos (by rw [rw1, rd_nat]; omega) (by rw [w64 hi (by omega)]; exact e)
/-- One search for the next bank. Good: what is told of the answer. -/
theorem ordScan {c : List Int} {d : List (List Int)} (B : Bk c d) {Good : List Int × Bool → Prop} {out : List Int} (ho : out.length < c.length) (hnil : (∀ i, i < c.length → ¬ freeB d c.length out i) → Good ([], false))
  (go : ∀ i, i < c.length → freeB d c.length out i → ∃ r, Ev (fun k => impl_OrderOf.l0 k (out ++ [(i : Int)]) c d) r ∧ Ev (fun k => spec_OrderOf.l0 k (out ++ [(i : Int)]) (tk c.length (out ++ [(i : Int)])) c d) r ∧ Good r) :
  ∀ m i, i + m = c.length → (∀ q, q < i → ¬ freeB d c.length out q) → ∃ r, Ev (fun k => impl_OrderOf.l1 k out (-1) (c.length : Int) (i : Int) c d) r ∧ Ev (fun k => spec_OrderOf.l1 k out (tk c.length out) (-1) (i : Int) c d) r ∧ Good r
 | 0, i, hi, hq => by
  have lt := tk_len c.length out
  refine ⟨([], false), Ev.step (fun k => by rw [impl_OrderOf.l1]) (evNeg (by omega) (evPos (by omega) (Ev.now _))), Ev.step (fun k => by rw [spec_OrderOf.l1]) (evNeg (by omega) (evPos (by omega) (Ev.now _))), hnil fun q h => hq q (by omega)⟩
 | m + 1, i, hi, hq => by
  have lt := tk_len c.length out
  have n4 := B.n4
  have hin : i < c.length := by omega
  have ct := contains_f out (i : Int) (by omega)
  have t0 : (i : Int) < (c.length : Int) := by omega
  have t1 : (i : Int) < ((tk c.length out).length : Int) := by omega
  have z : (0 : Int) ≤ (i : Int) := by omega
  have rt := tk_at c.length out i hin
  have w := w64 hin (by omega)
  have dz : decide ((-1 : Int) ≥ 0) = false := by decide
  by_cases hin2 : (i : Int) ∈ out
  ·obtain ⟨r, e1, e2, g⟩ := ordScan B ho hnil go m (i + 1) (by omega) (fun q h => by
    by_cases e : q = i
    ·subst e; exact fun a => a.1 hin2
    ·exact hq q (by omega))
   rw [decide_eq_true hin2] at ct rt
   refine ⟨r, Ev.step (fun k => by rw [impl_OrderOf.l1]) (evPos t0 (Ev.bind ct (ordImpl_no B hin e1 c.length 0 (by omega)))), Ev.step (fun k => by rw [spec_OrderOf.l1]) (evPos t0 (evPos z (evPos t1 (evPos rt ?_)))), g⟩
   exact Ev.step (fun k => by rw [spec_OrderOf.j2]) (evPos rfl (by rw [w]; exact e2))
  ·rw [decide_eq_false hin2] at ct rt
   by_cases hP : ∀ q, 0 ≤ q → q < c.length → (q : Int) ∈ out ∨ (d.getD q []).getD i 0 = 0
   ·obtain ⟨r, e1, e2, g⟩ := go i hin ⟨hin2, fun q h => hP q (by omega) h⟩
    refine ⟨r, Ev.step (fun k => by rw [impl_OrderOf.l1]) (evPos t0 (Ev.bind ct (ordImpl_all B (by omega) hin e1 c.length 0 (by omega) hP))), Ev.step (fun k => by rw [spec_OrderOf.l1]) (evPos t0 (evPos z (evPos t1 (evNeg (by rw [rt]; decide) ?_)))), g⟩
    rw [dz]
    exact Ev.step (f := fun k => spec_OrderOf.l2 k out (tk c.length out) (-1) (i : Int) 0 c d) (fun k => by rw [spec_OrderOf.j2, if_neg (by decide)]) (ordSpec_all B hin (ordSpec_end n4 (by omega) hin e2 m (i + 1) (by omega)) c.length 0 (by omega) hP)
   ·obtain ⟨q0, h1, h2⟩ : ∃ q, q < c.length ∧ ¬ ((q : Int) ∈ out ∨ (d.getD q []).getD i 0 = 0) := by
     refine Classical.byContradiction fun a => hP fun q _ h => Classical.byContradiction fun b => a ⟨q, h, b⟩
    obtain ⟨r, e1, e2, g⟩ := ordScan B ho hnil go m (i + 1) (by omega) (fun q h => by
     by_cases e : q = i
     ·subst e; exact fun a => h2 (a.2 q0 h1)
     ·exact hq q (by omega))
    refine ⟨r, Ev.step (fun k => by rw [impl_OrderOf.l1]) (evPos t0 (Ev.bind ct (ordImpl_some B (by omega) hin e1 c.length 0 (by omega) ⟨q0, by omega, h1, h2⟩))), Ev.step (fun k => by rw [spec_OrderOf.l1]) (evPos t0 (evPos z (evPos t1 (evNeg (by rw [rt]; decide) ?_)))), g⟩
    rw [dz]
    exact Ev.step (f := fun k => spec_OrderOf.l2 k out (tk c.length out) (-1) (i : Int) 0 c d) (fun k => by rw [spec_OrderOf.j2, if_neg (by decide)]) (ordSpec_some B hin e2 c.length 0 (by omega) ⟨q0, by omega, h1, h2⟩)
/-- The banks in order: what both tell, and what is told of it (Inv of the banks so far). -/
theorem ordAll {c : List Int} {d : List (List Int)} (B : Bk c d) {Good : List Int × Bool → Prop} {Inv : List Int → Prop} (hfull : ∀ out, Inv out → out.length = c.length → Good (out, true)) (hnil : ∀ out, Inv out → (∀ i, i < c.length → ¬ freeB d c.length out i) → out.length < c.length → Good ([], false))
  (hstep : ∀ out i, Inv out → i < c.length → freeB d c.length out i → Inv (out ++ [(i : Int)])) :
  ∀ m out, out.length + m = c.length → Inv out → ∃ r, Ev (fun k => impl_OrderOf.l0 k out c d) r ∧ Ev (fun k => spec_OrderOf.l0 k out (tk c.length out) c d) r ∧ Good r
 | 0, out, hm, hI => ⟨(out, true), Ev.step (fun k => by rw [impl_OrderOf.l0]) (evNeg (by omega) (Ev.now _)), Ev.step (fun k => by rw [spec_OrderOf.l0]) (evNeg (by omega) (Ev.now _)), hfull out hI (by omega)⟩
 | m + 1, out, hm, hI => by
  obtain ⟨r, e1, e2, g⟩ := ordScan B (Good := Good) (out := out) (by omega) (fun h => hnil out hI h (by omega)) (fun i hi hf => ordAll B hfull hnil hstep m (out ++ [(i : Int)]) (by simp; omega) (hstep out i hI hi hf)) c.length 0 (by omega) (fun q h => by omega)
  have t : (out.length : Int) < (c.length : Int) := by omega
  exact ⟨r, Ev.step (f := fun k => impl_OrderOf.l1 k out (-1) (c.length : Int) 0 c d) (fun k => by rw [impl_OrderOf.l0, if_pos t]) e1, Ev.step (f := fun k => spec_OrderOf.l1 k out (tk c.length out) (-1) 0 c d) (fun k => by rw [spec_OrderOf.l0, if_pos t]) e2, g⟩
theorem tk_nil (n : Nat) : List.replicate n false = tk n [] := by unfold tk; simp [List.map_const']
/-- Both OrderOfs tell the same of every book. -/
theorem orderOf_f {c : List Int} {d : List (List Int)} (hi : Ev (fun k => impl_isBook.f k c d) (okB c d)) (hs : Ev (fun k => spec_BookOk.f k c d) (okB c d)) {Good : List Int × Bool → Prop} {Inv : List Int → Prop} (h0 : Inv []) (hbad : okB c d = false → Good ([], false))
  (hfull : okB c d = true → ∀ out, Inv out → out.length = c.length → Good (out, true)) (hnil : okB c d = true → ∀ out, Inv out → (∀ i, i < c.length → ¬ freeB d c.length out i) → out.length < c.length → Good ([], false)) (hstep : ∀ out i, Inv out → i < c.length → freeB d c.length out i → Inv (out ++ [(i : Int)])) :
  ∃ r, Ev (fun k => impl_OrderOf.f k c d) r ∧ Ev (fun k => spec_OrderOf.f k c d) r ∧ Good r := by
 by_cases hb : okB c d = true
 ·have B := Bk.of hb
  have n4 := B.n4
  rw [hb] at hi hs
  obtain ⟨r, e1, e2, g⟩ := ordAll B (hfull hb) (hnil hb) hstep c.length [] (by simp) h0
  refine ⟨r, Ev.congr (fun k => by unfold impl_OrderOf.f; rfl) (Ev.bind hi (evPos rfl e1)), ?_, g⟩
  unfold spec_OrderOf.f
  simp only [Option.bind_some]
  refine Ev.bind hs (evPos rfl (evPos (by omega) (evPos (by omega) ?_)))
  rw [Int.toNat_natCast, tk_nil]
  exact e2
 ·have hf : okB c d = false := by simpa using hb
  rw [hf] at hi hs
  refine ⟨([], false), Ev.congr (fun k => by unfold impl_OrderOf.f; rfl) (Ev.bind hi (evNeg (show ¬ (false = true) by decide) (Ev.now _))), ?_, hbad hf⟩
  unfold spec_OrderOf.f
  simp only [Option.bind_some]
  exact Ev.bind hs (evNeg (show ¬ (false = true) by decide) (Ev.now _))

theorem pN_few (E : Nat → Nat → Bool) (n : Nat) (hn : n ≤ 4) : ∀ m p, (Circ.pN E n m p).length ≤ 5 ^ m
 | 0, p => by simp [Circ.pN]
 | m + 1, p => by
  have hf : ∀ f : Nat → List (List Nat), (∀ j, (f j).length ≤ 5 ^ m) → ∀ q j, (Circ.fl f q j).length ≤ q * 5 ^ m := fun f h q => by
   induction q with
   | zero => intro j; simp [Circ.fl]
   | succ q ih =>
    intro j
    rw [Circ.fl, List.length_append, Nat.succ_mul]
    have := h j
    have := ih (j + 1)
    omega
  have h1 := hf (fun j => if (Nat.blt (p.getD 0 0) j && E (p.getD (p.length - 1) 0) j && !p.contains j) = true then Circ.pN E n m (p ++ [j]) else []) (fun j => by
   split
   ·exact pN_few E n hn m _
   ·simp) n 0
  have h2 : n * 5 ^ m ≤ 4 * 5 ^ m := Nat.mul_le_mul_right _ hn
  have h3 : 0 < 5 ^ m := Nat.pow_pos (by decide)
  rw [Circ.pN, List.length_append, Nat.pow_succ]
  have h4 : (if (Nat.ble 2 p.length && E (p.getD (p.length - 1) 0) (p.getD 0 0)) = true then [p] else []).length ≤ 1 := by split <;> simp
  omega
theorem Bk.bt {c : List Int} {d : List (List Int)} (B : Bk c d) : Circ.Bt d c.length := ⟨B.n1, B.n4, B.hd, B.hr, B.hz⟩
theorem before_l0 (a b : List Int) (hl : a.length ≤ 1000) (he : a.length = b.length) : ∀ (m i : Nat), i + m = a.length → Ev (fun k => spec_l3Before.l0 k a b (i : Int)) (Circ.lexI (a.drop i) (b.drop i))
 | 0, i, h => by
  have e : Circ.lexI (a.drop i) (b.drop i) = false := by
   rw [List.drop_eq_nil_of_le (by omega)]
   cases b.drop i <;> rfl
  rw [e]
  exact Ev.step (fun k => by rw [spec_l3Before.l0]) (evNeg (by omega) (Ev.now _))
 | m + 1, i, h => by
  rw [Circ.lexI_drop a b i (by omega) (by omega)]
  refine Ev.step (fun k => by rw [spec_l3Before.l0]) (evPos (by omega) (evPos (by omega) (evPos (by omega) ?_)))
  rw [rd_nat, rd_nat]
  by_cases e : a.getD i 0 = b.getD i 0
  ·rw [if_pos e]
   refine evPos e ?_
   rw [w64 (show i < a.length by omega) (by omega)]
   exact before_l0 a b hl he m (i + 1) (by omega)
  ·rw [if_neg e]
   exact evNeg e (Ev.now _)
theorem before_f (a b : List Int) (ha : a.length ≤ 1000) (hb : b.length ≤ 1000) : Ev (fun k => spec_l3Before.f k a b) (Circ.befI a b) := by
 refine Ev.congr (fun k => by unfold spec_l3Before.f; rfl) ?_
 unfold Circ.befI
 by_cases e : a.length = b.length
 ·rw [if_pos e]
  exact evPos (by omega) (before_l0 a b ha e a.length 0 (by omega))
 ·rw [if_neg e]
  refine evNeg (by omega) (evIs (Ev.now _) ?_)
  rw [decide_eq_decide]; omega
theorem rowsD (xs : List (List Int)) (j : Nat) : rd_L1 xs (j : Int) = xs.getD j [] := by unfold rd_L1; rw [Int.toNat_natCast]
theorem sink_l2 {i : Nat} (hi : i ≤ 1000) {r : List (List Int)} : ∀ (j : Nat) (xs : List (List Int)), j < xs.length → (∀ x ∈ xs, x.length ≤ 1000) → xs.length ≤ 1000 → Ev (fun k => spec_CirclesOf.l1 k (Circ.sinkI j xs) ((i + 1 : Nat) : Int)) r → Ev (fun k => spec_CirclesOf.l2 k xs (i : Int) (j : Int)) r
 | 0, xs, hj, hx, hl, e => by
  refine Ev.step (fun k => by rw [spec_CirclesOf.l2]) (evNeg (by omega) ?_)
  rw [w64 (show i < i + 1 by omega) (by omega)]
  exact e
 | j + 1, xs, hj, hx, hl, e => by
  have hw : wrap64 (((j + 1 : Nat) : Int) - 1) = (j : Int) := by unfold wrap64; omega
  have h1 := Circ.getD_in (P := fun y => y.length ≤ 1000) hj hx
  have h2 := Circ.getD_in (P := fun y => y.length ≤ 1000) (show j < xs.length by omega) hx
  have hb := before_f _ _ h1 h2
  refine Ev.step (fun k => by rw [spec_CirclesOf.l2]) (evPos (by omega) (evPos (by omega) (evPos (by omega) ?_)))
  rw [hw, rowsD, rowsD]
  refine evPos (by omega) (evPos (by omega) (Ev.bind hb ?_))
  rw [Circ.sinkI] at e
  by_cases hc : Circ.befI (xs.getD (j + 1) []) (xs.getD j []) = true
  ·rw [if_pos hc] at e
   refine evPos hc ?_
   rw [Int.toNat_natCast, Int.toNat_natCast]
   show Ev (fun k => spec_CirclesOf.l2 k (Circ.swp xs (j + 1) j []) (i : Int) (j : Int)) r
   exact sink_l2 hi j _ (by rw [Circ.swp_len]; omega) (Circ.swp_mem hj (by omega) hx) (by rw [Circ.swp_len]; exact hl) e
  ·rw [if_neg hc] at e
   refine evNeg hc ?_
   rw [w64 (show i < i + 1 by omega) (by omega)]
   exact e
theorem sinkI_mem {P : List Int → Prop} : ∀ (j : Nat) (xs : List (List Int)), j < xs.length → (∀ x ∈ xs, P x) → ∀ x ∈ Circ.sinkI j xs, P x
 | 0, xs, _, h => h
 | j + 1, xs, hj, h => by
  rw [Circ.sinkI]
  split
  ·exact sinkI_mem j _ (by rw [Circ.swp_len]; omega) (Circ.swp_mem hj (by omega) h)
  ·exact h
theorem sort_l1 : ∀ (m i : Nat) (xs : List (List Int)), 1 ≤ i → m = xs.length - i → (∀ x ∈ xs, x.length ≤ 1000) → xs.length ≤ 1000 → Ev (fun k => spec_CirclesOf.l1 k xs (i : Int)) (Circ.sortI m i xs)
 | 0, i, xs, h1, hm, hx, hl => by
  show Ev (fun k => spec_CirclesOf.l1 k xs (i : Int)) xs
  exact Ev.step (fun k => by rw [spec_CirclesOf.l1]) (evNeg (by omega) (Ev.now _))
 | m + 1, i, xs, h1, hm, hx, hl => by
  refine Ev.step (fun k => by rw [spec_CirclesOf.l1]) (evPos (by omega) ?_)
  refine sink_l2 (by omega) i xs (by omega) hx hl ?_
  rw [Circ.sortI]
  exact sort_l1 m (i + 1) _ (by omega) (by rw [Circ.sinkI_len]; omega) (sinkI_mem i xs (by omega) hx) (by rw [Circ.sinkI_len]; exact hl)
/-- Of bank j, the path asked bank by bank. -/
theorem path_l1 {c : List Int} {d : List (List Int)} {p : List Nat} (hl : p.length ≤ 10) {o : List (List Int)} {last : Int} {j : Nat} {r : List (List Int)}
  (h1 : j ∈ p → Ev (fun k => spec_l3Paths.l0 k (Circ.toI p) o last (wrap64 ((j : Int) + 1)) c d) r)
  (h2 : j ∉ p → Ev (fun k => (some (([] : List Int) : List Int)).bind fun y148 => (if y148.length + (Circ.toI p).length < 17592186044416 then ((some (y148 ++ (Circ.toI p) : List Int)).bind fun y151 => ((some (([(j : Int)] : List Int) : List Int)).bind fun y154 => (if y151.length + y154.length < 17592186044416 then ((spec_l3Paths.f k c d (y151 ++ y154)).bind fun t160 => (if o.length + t160.length < 5864062014805 then (spec_l3Paths.l0 k (Circ.toI p) (o ++ t160) last (wrap64 ((j : Int) + 1)) c d) else (none))) else (none)))) else (none))) r) :
  ∀ (m i : Nat), i + m = p.length → (∀ t, t < i → p.getD t 0 ≠ j) → Ev (fun k => spec_l3Paths.l1 k (Circ.toI p) o last (j : Int) (i : Int) c d) r
 | 0, i, hi, hn => by
  have hlen := Circ.toI_len p
  have hj : j ∉ p := fun hm => by
   obtain ⟨t, ht, e⟩ := List.mem_iff_getElem.1 hm
   exact hn t (by omega) (by rw [List.getD_eq_getElem?_getD, List.getElem?_eq_getElem ht]; exact e)
  exact Ev.step (fun k => by rw [spec_l3Paths.l1]) (evNeg (by omega) (h2 hj))
 | m + 1, i, hi, hn => by
  have hlen := Circ.toI_len p
  refine Ev.step (fun k => by rw [spec_l3Paths.l1]) (evPos (by omega) (evPos (by omega) ?_))
  rw [rd_nat, Circ.toI_get]
  by_cases e : p.getD i 0 = j
  ·refine evPos (by omega) (h1 ?_)
   rw [← e]
   exact Circ.getD_n (by omega)
  ·refine evNeg (by omega) ?_
   rw [w64 (show i < p.length by omega) (by omega)]
   exact path_l1 hl h1 h2 m (i + 1) (by omega) (fun t ht => by
    by_cases e2 : t = i
    ·rw [e2]; exact e
    ·exact hn t (by omega))
theorem path_go {c : List Int} {d : List (List Int)} {p : List Int} {o t : List (List Int)} {last : Int} {j : Int} {r : List (List Int)} (l1 : ([] : List Int).length + p.length < 17592186044416) (l2 : ([] ++ p : List Int).length + ([j] : List Int).length < 17592186044416)
  (e : Ev (fun k => spec_l3Paths.f k c d (p ++ [j])) t) (l3 : o.length + t.length < 5864062014805) (h : Ev (fun k => spec_l3Paths.l0 k p (o ++ t) last (wrap64 (j + 1)) c d) r) :
  Ev (fun k => (some (([] : List Int) : List Int)).bind fun y148 => (if y148.length + p.length < 17592186044416 then ((some (y148 ++ p : List Int)).bind fun y151 => ((some (([j] : List Int) : List Int)).bind fun y154 => (if y151.length + y154.length < 17592186044416 then ((spec_l3Paths.f k c d (y151 ++ y154)).bind fun t160 => (if o.length + t160.length < 5864062014805 then (spec_l3Paths.l0 k p (o ++ t160) last (wrap64 (j + 1)) c d) else (none))) else (none)))) else (none))) r := by
 simp only [Option.bind_some]
 refine evPos l1 (evPos l2 ?_)
 rw [List.nil_append]
 exact Ev.bind e (evPos l3 h)
theorem paths_l0 {c : List Int} {d : List (List Int)} (B : Bk c d) {m : Nat} {p : List Nat} (hp : p ≠ []) (hl : p.length ≤ 4) (hx : ∀ x ∈ p, x < c.length)
  (hf : ∀ x, x < c.length → x ∉ p → Ev (fun k => spec_l3Paths.f k c d (Circ.toI (p ++ [x]))) ((Circ.pN (Circ.Ed d) c.length m (p ++ [x])).map Circ.toI)) (hm : m ≤ 4) :
  ∀ (q j : Nat) (o : List (List Int)), j + q = c.length → p.getD 0 0 < j → o.length + 1000 * q ≤ 10000 → Ev (fun k => spec_l3Paths.l0 k (Circ.toI p) o ((p.getD (p.length - 1) 0 : Nat) : Int) (j : Int) c d) (o ++ (Circ.fl (fun j => if (Nat.blt (p.getD 0 0) j && Circ.Ed d (p.getD (p.length - 1) 0) j && !p.contains j) = true then Circ.pN (Circ.Ed d) c.length m (p ++ [j]) else []) q j).map Circ.toI) := by
 intro q
 induction q with
 | zero =>
  intro j o hj hj0 ho
  rw [Circ.fl, List.map_nil, List.append_nil]
  exact Ev.step (fun k => by rw [spec_l3Paths.l0]) (evNeg (by omega) (Ev.now _))
 | succ q ihq =>
  intro j o hj hj0 ho
  have a1 : j + 1 + q = c.length := by omega
  have a2 : p.getD 0 0 < j + 1 := by omega
  have ih := fun o' (h : o'.length + 1000 * q ≤ 10000) => ihq (j + 1) o' a1 a2 h
  clear ihq
  have n4 := B.n4
  have hd := B.hd
  have h0 : 0 < p.length := List.length_pos_iff.2 hp
  have hlast := hx _ (Circ.getD_n (p := p) (i := p.length - 1) (by omega))
  have hr := B.hr _ hlast
  refine Ev.step (fun k => by rw [spec_l3Paths.l0]) (evPos (by omega) (evPos (by omega) (evPos (by omega) (evPos (by omega) ?_))))
  rw [rowsD, rd_nat, Circ.fl]
  refine evPos (by omega) ?_
  have few : (Circ.pN (Circ.Ed d) c.length m (p ++ [j])).length ≤ 625 := Nat.le_trans (pN_few (Circ.Ed d) c.length n4 m (p ++ [j])) (Nat.le_trans (Nat.pow_le_pow_right (by decide) hm) (by decide))
  have hE : Circ.Ed d (p.getD (p.length - 1) 0) j = decide ((d.getD (p.getD (p.length - 1) 0) []).getD j 0 ≠ 0) := rfl
  have hb : Nat.blt (p.getD 0 0) j = true := Nat.blt_eq.mpr hj0
  by_cases hv : (d.getD (p.getD (p.length - 1) 0) []).getD j 0 = 0
  ·refine evPos hv ?_
   rw [if_neg (by rw [hb, hE, decide_eq_false (by simpa using hv)]; simp), List.nil_append, w64 (show j < c.length by omega) (by omega)]
   exact ih o (by omega)
  ·refine evNeg hv (path_l1 (by omega) (fun hm => ?_) (fun hm => ?_) p.length 0 (by omega) (fun t h => by omega))
   ·rw [if_neg (by rw [List.contains_iff_mem.2 hm]; simp), List.nil_append, w64 (show j < c.length by omega) (by omega)]
    exact ih o (by omega)
   ·have hc : p.contains j = false := by
     cases hc : p.contains j with
     | false => rfl
     | true => exact absurd (List.contains_iff_mem.1 hc) hm
    rw [if_pos (by rw [hb, hE, decide_eq_true (by simpa using hv), hc]; rfl), List.map_append, ← List.append_assoc]
    have e := hf j (by omega) hm
    rw [Circ.toI_snoc] at e
    have hlen := Circ.toI_len p
    have l1 : ([] : List Int).length + (Circ.toI p).length < 17592186044416 := by rw [hlen, List.length_nil]; omega
    have l2 : ([] ++ Circ.toI p : List Int).length + ([(j : Int)] : List Int).length < 17592186044416 := by rw [List.nil_append, hlen, List.length_singleton]; omega
    have l3 : o.length + ((Circ.pN (Circ.Ed d) c.length m (p ++ [j])).map Circ.toI).length < 5864062014805 := by rw [List.length_map]; omega
    have l4 : (o ++ (Circ.pN (Circ.Ed d) c.length m (p ++ [j])).map Circ.toI).length + 1000 * q ≤ 10000 := by rw [List.length_append, List.length_map]; omega
    exact path_go l1 l2 e l3 (by rw [w64 (show j < c.length by omega) (by omega)]; exact ih _ l4)
/-- The circles that begin with a path. -/
theorem paths_f {c : List Int} {d : List (List Int)} (B : Bk c d) : ∀ m p, p ≠ [] → p.Nodup → (∀ x ∈ p, x < c.length) → p.length + m = c.length + 1 → Ev (fun k => spec_l3Paths.f k c d (Circ.toI p)) ((Circ.pN (Circ.Ed d) c.length m p).map Circ.toI)
 | 0, p, hp, hn, hx, hl => by
  have := Circ.nodup_le c.length p hn hx
  omega
 | m + 1, p, hp, hn, hx, hl => by
  have n4 := B.n4
  have hd := B.hd
  have h0 : 0 < p.length := List.length_pos_iff.2 hp
  have hlen := Circ.toI_len p
  have hlast := hx _ (Circ.getD_n (p := p) (i := p.length - 1) (by omega))
  have hfirst := hx _ (Circ.getD_n (p := p) (i := 0) (by omega))
  have hr := B.hr _ hlast
  have hw : wrap64 (((Circ.toI p).length : Int) - 1) = ((p.length - 1 : Nat) : Int) := by unfold wrap64; omega
  have hrl : rd (Circ.toI p) ((p.length - 1 : Nat) : Int) = ((p.getD (p.length - 1) 0 : Nat) : Int) := by rw [rd_nat, Circ.toI_get]
  have hr0 : rd (Circ.toI p) 0 = ((p.getD 0 0 : Nat) : Int) := by
   have := rd_nat (Circ.toI p) 0
   rw [Circ.toI_get] at this; exact this
  have rest : ∀ o : List (List Int), o.length ≤ 1 → Ev (fun k => spec_l3Paths.j1 k (Circ.toI p) o ((p.getD (p.length - 1) 0 : Nat) : Int) c d) (o ++ (Circ.fl (fun j => if (Nat.blt (p.getD 0 0) j && Circ.Ed d (p.getD (p.length - 1) 0) j && !p.contains j) = true then Circ.pN (Circ.Ed d) c.length m (p ++ [j]) else []) c.length 0).map Circ.toI) := fun o ho => by
   refine Ev.step (fun k => by rw [spec_l3Paths.j1]) (evPos (by omega) ?_)
   rw [hr0, w64 hfirst (by omega)]
   obtain ⟨b, hb⟩ : ∃ b, c.length = (p.getD 0 0 + 1) + b := ⟨c.length - (p.getD 0 0 + 1), by omega⟩
   have hs : ∀ f : Nat → List (List Nat), (∀ j, j < p.getD 0 0 + 1 → f j = []) → Circ.fl f c.length 0 = Circ.fl f b (p.getD 0 0 + 1) := fun f hf => by
    rw [hb, Circ.fl_skip _ _ _ (fun i _ hi => hf i (by omega)), Nat.zero_add]
   rw [hs _ (fun j hj => by rw [if_neg]; simp only [Bool.and_eq_true, Nat.blt_eq]; omega)]
   exact paths_l0 B hp (by omega) hx (fun x hxn hxp => paths_f B m (p ++ [x]) (by simp) (List.nodup_append.2 ⟨hn, by simp, fun a ha b hb => by rw [List.mem_singleton.1 hb]; exact fun e => hxp (e ▸ ha)⟩) (fun y hy => by
    rcases List.mem_append.1 hy with h | h
    ·exact hx y h
    ·rw [List.mem_singleton.1 h]; exact hxn) (by simp; omega)) (by omega) b _ o (by omega) (by omega) (by omega)
  have hE : Circ.Ed d (p.getD (p.length - 1) 0) (p.getD 0 0) = decide ((d.getD (p.getD (p.length - 1) 0) []).getD (p.getD 0 0) 0 ≠ 0) := rfl
  have hge := B.ent hlast hfirst
  refine Ev.step (fun k => by rw [spec_l3Paths.f]) ?_
  simp only [Option.bind_some]
  rw [hw, hrl]
  refine evPos (by omega) (evPos (by omega) ?_)
  rw [Circ.pN]
  by_cases h2 : 2 ≤ p.length
  ·refine evPos (by omega) (evPos (by omega) (evPos (by omega) (evPos (by omega) ?_)))
   rw [hr0, rowsD, rd_nat]
   refine evPos (by omega) (evPos (by omega) ?_)
   by_cases hv : (d.getD (p.getD (p.length - 1) 0) []).getD (p.getD 0 0) 0 = 0
   ·rw [if_neg (by rw [hE, decide_eq_false (by simpa using hv)]; simp), List.nil_append]
    refine Ev.step (f := fun k => spec_l3Paths.j1 k (Circ.toI p) [] ((p.getD (p.length - 1) 0 : Nat) : Int) c d) (fun k => by rw [spec_l3Paths.j0, if_neg (by rw [decide_eq_true_eq]; omega)]) ?_
    exact rest [] (by simp)
   ·rw [if_pos (by rw [hE, decide_eq_true (by simpa using hv), Nat.ble_eq.mpr h2]; rfl), List.map_append]
    refine Ev.step (fun k => by rw [spec_l3Paths.j0]) (evPos (decide_eq_true (by omega)) ?_)
    simp only [Option.bind_some, List.nil_append]
    refine evPos (by simp; omega) (evPos (by simp) ?_)
    exact rest [Circ.toI p] (by simp)
  ·refine evNeg (by omega) ?_
   rw [if_neg (by
    rw [Bool.and_eq_true, Nat.ble_eq]
    exact fun h => h2 h.1), List.nil_append]
   refine Ev.step (f := fun k => spec_l3Paths.j1 k (Circ.toI p) [] ((p.getD (p.length - 1) 0 : Nat) : Int) c d) (fun k => by rw [spec_l3Paths.j0, if_neg (by decide)]) ?_
   exact rest [] (by simp)
theorem circ_l0 {c : List Int} {d : List (List Int)} (B : Bk c d) (sb : Ev (fun k => spec_BookOk.f k c d) true) {r : List (List Int)} : ∀ (q i : Nat) (o : List (List Int)), i + q = c.length → o.length + 1000 * q ≤ 10000 →
  Ev (fun k => spec_CirclesOf.j1 k (o ++ (Circ.fl (fun i => Circ.pN (Circ.Ed d) c.length c.length [i]) q i).map Circ.toI)) r → Ev (fun k => spec_CirclesOf.l0 k o (i : Int) c d) r
 | 0, i, o, hi, ho, e => by
  rw [Circ.fl, List.map_nil, List.append_nil] at e
  exact Ev.step (fun k => by rw [spec_CirclesOf.l0]) (evNeg (by omega) e)
 | q + 1, i, o, hi, ho, e => by
  have n4 := B.n4
  have h1 := paths_f B c.length [i] (by simp) (by simp) (fun x hx => by rw [List.mem_singleton.1 hx]; omega) (by simp; omega)
  have few := pN_few (Circ.Ed d) c.length n4 c.length [i]
  have five : 5 ^ c.length ≤ 625 := Nat.le_trans (Nat.pow_le_pow_right (by decide) n4) (by decide)
  rw [show Circ.toI [i] = [(i : Int)] from rfl] at h1
  have hb : o.length + ((Circ.pN (Circ.Ed d) c.length c.length [i]).map Circ.toI).length < 5864062014805 := by rw [List.length_map]; omega
  refine Ev.step (fun k => by rw [spec_CirclesOf.l0]) (evPos (by omega) (Ev.bind sb (evPos rfl (Ev.bind h1 (evPos hb ?_)))))
  rw [w64 (show i < c.length by omega) (by omega)]
  refine circ_l0 B sb q (i + 1) _ (by omega) (by rw [List.length_append, List.length_map]; omega) ?_
  rw [Circ.fl, List.map_append, ← List.append_assoc] at e
  exact e
/-- The reference's circles. -/
theorem circSpec_f {c : List Int} {d : List (List Int)} (B : Bk c d) (sb : Ev (fun k => spec_BookOk.f k c d) true) : Ev (fun k => spec_CirclesOf.f k c d) (Circ.circI d c.length) := by
 have n4 := B.n4
 have F := Circ.circs_ok (Circ.Ed d) c.length B.n1 B.n4 B.bt.edz
 refine Ev.congr (fun k => by unfold spec_CirclesOf.f; rfl) (circ_l0 B sb c.length 0 [] (by omega) (by simp; omega) ?_)
 rw [List.nil_append, ← Circ.sorted_all]
 refine Ev.step (f := fun k => spec_CirclesOf.l1 k ((Circ.cN (Circ.Ed d) c.length).map Circ.toI) ((1 : Nat) : Int)) (fun k => by rw [spec_CirclesOf.j1]; rfl) (sort_l1 _ 1 _ (Nat.le_refl _) rfl (fun x hx => ?_) ?_)
 ·obtain ⟨y, hy, rfl⟩ := List.mem_map.1 hx
  obtain ⟨i, _, _, hi⟩ := Circ.fl_mem _ _ hy
  have := Circ.pN_len _ _ _ _ _ hi
  rw [Circ.toI_len]
  simp at this
  omega
 ·rw [List.length_map]
  have := F.few
  omega
def vec (n : Nat) (f : Nat → Int) : List Int := (List.range n).map f
def mat (n : Nat) (R : Nat → Nat → Int) : List (List Int) := (List.range n).map fun p => vec n (R p)
def upd (f : Nat → Int) (i : Nat) (y : Int) : Nat → Int := fun p => if p = i then y else f p
def upd2 (R : Nat → Nat → Int) (i k : Nat) (y : Int) : Nat → Nat → Int := fun p => if p = i then upd (R p) k y else R p
theorem vec_len (n : Nat) (f : Nat → Int) : (vec n f).length = n := by simp [vec]
theorem mat_len (n : Nat) (R : Nat → Nat → Int) : (mat n R).length = n := by simp [mat]
theorem vec_set (n : Nat) (f : Nat → Int) (i : Nat) (y : Int) : (vec n f).set i y = vec n (upd f i y) := rmap_set f n i y
theorem vec_get (n : Nat) (f : Nat → Int) (i : Nat) (h : i < n) : (vec n f).getD i 0 = f i := rmap_get f n i h
theorem mat_get (n : Nat) (R : Nat → Nat → Int) (i : Nat) (h : i < n) : (mat n R).getD i [] = vec n (R i) := by
 unfold mat; rw [List.getD_eq_getElem?_getD, List.getElem?_map, List.getElem?_range h]; rfl
theorem mat_set (n : Nat) (R : Nat → Nat → Int) (i k : Nat) (y : Int) : (mat n R).set i (vec n (upd (R i) k y)) = mat n (upd2 R i k y) := by
 unfold mat
 rw [rmap_set]
 refine rmap_congr fun j _ => ?_
 unfold upd2
 by_cases e : j = i
 ·subst e; rw [if_pos rfl, if_pos rfl]
 ·rw [if_neg e, if_neg e]
/-- The sum of n numbers. -/
def S (n : Nat) (f : Nat → Int) : Int := sm (vec n f)
theorem S_zero (f : Nat → Int) : S 0 f = 0 := by simp [S, vec, sm]
theorem S_succ (n : Nat) (f : Nat → Int) : S (n + 1) f = S n f + f n := by unfold S vec; rw [rmap_succ, sm_append]; simp [sm]
theorem rd_vec' (n : Nat) (f : Nat → Int) (i : Nat) (h : i < n) : rd (vec n f) (i : Int) = f i := by rw [rd_nat, vec_get n f i h]
theorem rd_mat' (n : Nat) (R : Nat → Nat → Int) (i : Nat) (h : i < n) : rd_L1 (mat n R) (i : Int) = vec n (R i) := by
 unfold rd_L1; rw [Int.toNat_natCast, mat_get n R i h]
/-- A book by its table. -/
structure BkR (c : List Int) (R : Nat → Nat → Int) : Prop where
 n1 : 1 ≤ c.length
 n4 : c.length ≤ 4
 ent : ∀ i j, i < c.length → j < c.length → 0 ≤ R i j ∧ R i j ≤ 9
 hz : ∀ i, i < c.length → R i i = 0
 hc : ∀ i, i < c.length → 0 ≤ c.getD i 0 ∧ c.getD i 0 ≤ 20
theorem BkR.ok {c : List Int} {R : Nat → Nat → Int} (h : BkR c R) : okB c (mat c.length R) = true := by
 refine (okB_iff c _).2 ⟨⟨h.n1, h.n4⟩, mat_len _ _, fun i hi => ⟨h.hc i hi, by rw [mat_get _ _ _ hi, vec_len], by rw [mat_get _ _ _ hi, vec_get _ _ _ hi, h.hz i hi], fun x hx => ?_⟩⟩
 rw [mat_get _ _ _ hi] at hx
 obtain ⟨j, hj, rfl⟩ := List.mem_map.1 hx
 exact h.ent i j hi (List.mem_range.1 hj)
theorem BkR.bk {c : List Int} {R : Nat → Nat → Int} (h : BkR c R) : Bk c (mat c.length R) := Bk.of h.ok
theorem vec_of (xs : List Int) (n : Nat) (h : xs.length = n) : xs = vec n (fun j => xs.getD j 0) := by
 unfold vec
 refine List.ext_getElem (by simp [h]) fun j h1 h2 => ?_
 rw [List.getElem_map, List.getElem_range, List.getD_eq_getElem?_getD, List.getElem?_eq_getElem h1]; rfl
theorem mat_of (d : List (List Int)) (n : Nat) (h : d.length = n) (hr : ∀ i, i < n → (d.getD i []).length = n) : d = mat n (fun i j => (d.getD i []).getD j 0) := by
 unfold mat
 refine List.ext_getElem (by simp [h]) fun i h1 h2 => ?_
 rw [List.getElem_map, List.getElem_range, ← vec_of _ _ (hr i (by omega)), List.getD_eq_getElem?_getD, List.getElem?_eq_getElem h1]; rfl
theorem Bk.tab {c : List Int} {d : List (List Int)} (B : Bk c d) : ∃ R, d = mat c.length R ∧ BkR c R :=
 ⟨fun i j => (d.getD i []).getD j 0, mat_of d c.length B.hd B.hr, B.n1, B.n4, fun i j hi hj => B.ent hi hj, B.hz, B.hc⟩
/-- Who comes behind bank k of a circle. -/
def nxt (p : List Nat) (k : Nat) : Nat := p.getD ((k + 1) % p.length) 0
open Classical in
/-- The table behind the circle's first j banks have been struck. -/
noncomputable def strk (R : Nat → Nat → Int) (p : List Nat) (low : Int) (j : Nat) : Nat → Nat → Int := fun a b => if ∃ k, k < j ∧ p.getD k 0 = a ∧ nxt p k = b then R a b - low else R a b
theorem strk_zero (R : Nat → Nat → Int) (p : List Nat) (low : Int) : strk R p low 0 = R := by
 funext a b
 unfold strk
 rw [if_neg (fun ⟨k, h, _⟩ => by omega)]
theorem strk_succ (R : Nat → Nat → Int) (p : List Nat) (low : Int) (j : Nat) : upd2 (strk R p low j) (p.getD j 0) (nxt p j) (R (p.getD j 0) (nxt p j) - low) = strk R p low (j + 1) := by
 funext a b
 unfold upd2 upd
 by_cases e : a = p.getD j 0
 ·rw [if_pos e]
  by_cases e2 : b = nxt p j
  ·rw [if_pos e2]
   unfold strk
   rw [if_pos ⟨j, by omega, e.symm, e2.symm⟩, e, e2]
  ·rw [if_neg e2]
   unfold strk
   by_cases h : ∃ k, k < j ∧ p.getD k 0 = a ∧ nxt p k = b
   ·obtain ⟨k, h1, h2, h3⟩ := h
    rw [if_pos ⟨k, h1, h2, h3⟩, if_pos ⟨k, by omega, h2, h3⟩]
   ·rw [if_neg h, if_neg (fun ⟨k, h1, h2, h3⟩ => h ⟨k, by
     rcases Nat.lt_or_ge k j with h4 | h4
     ·exact h4
     ·exact absurd h3.symm (by rw [show k = j by omega]; exact e2), h2, h3⟩)]
 ·rw [if_neg e]
  unfold strk
  by_cases h : ∃ k, k < j ∧ p.getD k 0 = a ∧ nxt p k = b
  ·obtain ⟨k, h1, h2, h3⟩ := h
   rw [if_pos ⟨k, h1, h2, h3⟩, if_pos ⟨k, by omega, h2, h3⟩]
  ·rw [if_neg h, if_neg (fun ⟨k, h1, h2, h3⟩ => h ⟨k, by
    rcases Nat.lt_or_ge k j with h4 | h4
    ·exact h4
    ·exact absurd h2.symm (by rw [show k = j by omega]; exact e), h2, h3⟩)]
/-- The least debt of a circle, so far. -/
def lowI (R : Nat → Nat → Int) (p : List Nat) : Nat → Nat → Int → Int
 | 0, _, x => x
 | m + 1, j, x => lowI R p m (j + 1) (mn x (R (p.getD j 0) (nxt p j)))
theorem lowI_le (R : Nat → Nat → Int) (p : List Nat) : ∀ m j x, lowI R p m j x ≤ x ∧ ∀ k, j ≤ k → k < j + m → lowI R p m j x ≤ R (p.getD k 0) (nxt p k)
 | 0, j, x => ⟨Int.le_refl _, fun k h1 h2 => by omega⟩
 | m + 1, j, x => by
  have h := lowI_le R p m (j + 1) (mn x (R (p.getD j 0) (nxt p j)))
  rw [lowI]
  have h1 : mn x (R (p.getD j 0) (nxt p j)) ≤ x ∧ mn x (R (p.getD j 0) (nxt p j)) ≤ R (p.getD j 0) (nxt p j) := by unfold mn; split <;> omega
  refine ⟨by omega, fun k a b => ?_⟩
  by_cases e : k = j
  ·subst e; omega
  ·exact h.2 k (by omega) (by omega)
theorem lowI_pos (R : Nat → Nat → Int) (p : List Nat) : ∀ m j x, 1 ≤ x → (∀ k, j ≤ k → k < j + m → 1 ≤ R (p.getD k 0) (nxt p k)) → 1 ≤ lowI R p m j x
 | 0, j, x, hx, _ => hx
 | m + 1, j, x, hx, h => by
  rw [lowI]
  refine lowI_pos R p m (j + 1) _ ?_ (fun k a b => h k (by omega) (by omega))
  have := h j (Nat.le_refl _) (by omega)
  unfold mn
  split <;> omega
/-- A book with a circle struck out. -/
noncomputable def struckR (R : Nat → Nat → Int) (p : List Nat) : Nat → Nat → Int := strk R p (lowI R p p.length 0 9) p.length
theorem nxt_lt {E : Nat → Nat → Bool} {n : Nat} {p : List Nat} (C : Circ.IsCirc E n p) {k : Nat} (hk : k < p.length) : nxt p k < n := C.lt _ (Nat.mod_lt _ (by omega))
theorem nxt_ne {E : Nat → Nat → Bool} {n : Nat} {p : List Nat} (C : Circ.IsCirc E n p) {k : Nat} (hk : k < p.length) : p.getD k 0 ≠ nxt p k := by
 have two := C.two
 unfold nxt
 by_cases h : k + 1 < p.length
 ·rw [Nat.mod_eq_of_lt h]
  exact C.apart (k + 1) k h (by omega)
 ·rw [show k + 1 = p.length by omega, Nat.mod_self]
  exact fun e => C.apart k 0 hk (by omega) e.symm
theorem owe_R {c : List Int} {R : Nat → Nat → Int} {p : List Nat} (B : BkR c R) (C : Circ.IsCirc (Circ.Ed (mat c.length R)) c.length p) {k : Nat} (hk : k < p.length) : 1 ≤ R (p.getD k 0) (nxt p k) := by
 have h := C.owe k hk
 have h1 := C.lt k hk
 have h2 := nxt_lt C hk
 have h3 := B.ent _ _ h1 h2
 unfold Circ.Ed at h
 rw [mat_get _ _ _ h1] at h
 have h4 := of_decide_eq_true h
 rw [vec_get _ _ _ (show p.getD ((k + 1) % p.length) 0 < c.length from h2)] at h4
 have h5 : R (p.getD k 0) (nxt p k) ≠ 0 := h4
 omega
theorem low_in {c : List Int} {R : Nat → Nat → Int} {p : List Nat} (B : BkR c R) (C : Circ.IsCirc (Circ.Ed (mat c.length R)) c.length p) : 1 ≤ lowI R p p.length 0 9 ∧ lowI R p p.length 0 9 ≤ 9 ∧ ∀ k, k < p.length → lowI R p p.length 0 9 ≤ R (p.getD k 0) (nxt p k) := by
 have h := lowI_le R p p.length 0 9
 exact ⟨lowI_pos R p p.length 0 9 (by omega) (fun k _ hk => owe_R B C (by omega)), h.1, fun k hk => h.2 k (by omega) (by omega)⟩
theorem struckR_ok {c : List Int} {R : Nat → Nat → Int} {p : List Nat} (B : BkR c R) (C : Circ.IsCirc (Circ.Ed (mat c.length R)) c.length p) : BkR c (struckR R p) := by
 have hl := low_in B C
 refine ⟨B.n1, B.n4, fun i j hi hj => ?_, fun i hi => ?_, B.hc⟩
 ·have := B.ent i j hi hj
  unfold struckR strk
  split
  ·rename_i h
   obtain ⟨k, hk, rfl, rfl⟩ := h
   have := hl.2.2 k hk
   omega
  ·exact this
 ·unfold struckR strk
  rw [if_neg, B.hz i hi]
  rintro ⟨k, hk, h1, h2⟩
  exact nxt_ne C hk (h1.trans h2.symm)
/-- All that is owed. -/
def tot (n : Nat) (R : Nat → Nat → Int) : Int := S n (fun i => S n (R i))
theorem S_mono {n : Nat} {f g : Nat → Int} : ∀ m, m ≤ n → (∀ p, p < n → f p ≤ g p) → S m f ≤ S m g
 | 0, _, _ => by rw [S_zero, S_zero]; exact Int.le_refl _
 | m + 1, hm, h => by
  have := S_mono m (by omega) h
  have := h m (by omega)
  rw [S_succ, S_succ]; omega
theorem S_less {n : Nat} {f g : Nat → Int} (h : ∀ p, p < n → f p ≤ g p) : ∀ m, m ≤ n → (∃ p, p < m ∧ f p < g p) → S m f < S m g
 | 0, _, ⟨p, h1, _⟩ => by omega
 | m + 1, hm, ⟨p, h1, h2⟩ => by
  rw [S_succ, S_succ]
  by_cases e : p = m
  ·subst e
   have := S_mono (n := n) p (by omega) h
   omega
  ·have := S_less h m (by omega) ⟨p, by omega, h2⟩
   have := h m (by omega)
   omega
theorem struckR_le {c : List Int} {R : Nat → Nat → Int} {p : List Nat} (B : BkR c R) (C : Circ.IsCirc (Circ.Ed (mat c.length R)) c.length p) (a b : Nat) : struckR R p a b ≤ R a b := by
 have hl := low_in B C
 unfold struckR strk
 split <;> omega
theorem tot_less {c : List Int} {R : Nat → Nat → Int} {p : List Nat} (B : BkR c R) (C : Circ.IsCirc (Circ.Ed (mat c.length R)) c.length p) : tot c.length (struckR R p) < tot c.length R := by
 have two := C.two
 have h0 := C.lt 0 (by omega)
 have h1 := nxt_lt C (k := 0) (by omega)
 have hl := low_in B C
 refine S_less (fun i _ => S_mono (n := c.length) _ (Nat.le_refl _) (fun j _ => struckR_le B C i j)) _ (Nat.le_refl _) ⟨p.getD 0 0, h0, S_less (fun j _ => struckR_le B C _ j) _ (Nat.le_refl _) ⟨nxt p 0, h1, ?_⟩⟩
 unfold struckR strk
 rw [if_pos ⟨0, by omega, rfl, rfl⟩]
 omega
theorem tot_nn {c : List Int} {R : Nat → Nat → Int} (B : BkR c R) : 0 ≤ tot c.length R ∧ tot c.length R ≤ 144 := by
 have n4 := B.n4
 have b : ∀ (f : Nat → Int) (x : Int), (∀ i, i < c.length → 0 ≤ f i ∧ f i ≤ x) → ∀ m, m ≤ c.length → 0 ≤ S m f ∧ S m f ≤ x * (m : Int) := fun f x hf m => by
  induction m with
  | zero => intro _; rw [S_zero]; simp
  | succ m ih =>
   intro hm
   have h1 := ih (by omega)
   have h2 := hf m (by omega)
   rw [S_succ, show x * ((m + 1 : Nat) : Int) = x * (m : Int) + x by grind]
   omega
 have h1 := fun i hi => b (R i) 9 (fun j hj => B.ent i j hi hj) c.length (Nat.le_refl _)
 have h2 := b (fun i => S c.length (R i)) 36 (fun i hi => by have := h1 i hi; omega) c.length (Nat.le_refl _)
 unfold tot
 omega
/-- Circles struck out, one after the other. -/
noncomputable def woc (n : Nat) : Nat → (Nat → Nat → Int) → Int → (Nat → Nat → Int) × Int
 | 0, R, x => (R, x)
 | t + 1, R, x => match Circ.circN (Circ.Ed (mat n R)) n with
  | [] => (R, x)
  | p :: _ => woc n t (struckR R p) (x + 1)
theorem first_circ {c : List Int} {R : Nat → Nat → Int} (B : BkR c R) {p : List Nat} {l : List (List Nat)} (h : Circ.circN (Circ.Ed (mat c.length R)) c.length = p :: l) : Circ.IsCirc (Circ.Ed (mat c.length R)) c.length p := by
 have F := Circ.circs_ok (Circ.Ed (mat c.length R)) c.length B.n1 B.n4 B.bk.bt.edz
 exact F.form p (by rw [h]; simp)
theorem woc_ok {c : List Int} : ∀ (t : Nat) (R : Nat → Nat → Int) (x : Int), BkR c R → BkR c (woc c.length t R x).1
 | 0, R, x, B => B
 | t + 1, R, x, B => by
  rw [woc]
  split
  ·exact B
  ·rename_i p l h
   exact woc_ok t _ _ (struckR_ok B (first_circ B h))
theorem circI_nil {d : List (List Int)} {n : Nat} (h : Circ.circN (Circ.Ed d) n = []) : Circ.circI d n = [] := by unfold Circ.circI; rw [h]; rfl
theorem circI_cons {d : List (List Int)} {n : Nat} {p : List Nat} {l : List (List Nat)} (h : Circ.circN (Circ.Ed d) n = p :: l) : Circ.circI d n = Circ.toI p :: l.map Circ.toI := by unfold Circ.circI; rw [h]; rfl
/-- What both loops over a circle meet at bank j. -/
structure CircAt (n : Nat) (p : List Nat) (j : Nat) : Prop where
 len : ((Circ.toI p).length : Int) = (p.length : Int)
 at_ : rd (Circ.toI p) (j : Int) = ((p.getD j 0 : Nat) : Int)
 mod_ : Int.tmod (wrap64 ((j : Int) + 1)) ((Circ.toI p).length : Int) = (((j + 1) % p.length : Nat) : Int)
 nx : rd (Circ.toI p) (((j + 1) % p.length : Nat) : Int) = ((nxt p j : Nat) : Int)
 ml : (j + 1) % p.length < p.length
 a : p.getD j 0 < n
 b : nxt p j < n
theorem circAt {E : Nat → Nat → Bool} {n : Nat} {p : List Nat} (C : Circ.IsCirc E n p) {j : Nat} (hj : j < p.length) : CircAt n p j := by
 have hlen := Circ.toI_len p
 have four := C.four
 refine ⟨by rw [hlen], by rw [rd_nat, Circ.toI_get], ?_, by rw [rd_nat, Circ.toI_get]; rfl, Nat.mod_lt _ (by omega), C.lt j hj, nxt_lt C hj⟩
 rw [w64 hj (by omega), hlen, Int.tmod_eq_emod_of_nonneg (by omega)]
 exact (Int.natCast_emod _ _).symm

theorem copy_l0 (d : List (List Int)) (hd : d.length ≤ 1000) (hr : ∀ i, (d.getD i []).length ≤ 1000) (c0 c : List Int) : ∀ (m i : Nat), i + m = d.length → Ev (fun k => spec_l2Copy.l0 k (i : Int) c0 d c (d.take i)) (c, d)
 | 0, i, hi => by
  rw [List.take_of_length_le (by omega)]
  exact Ev.step (fun k => by rw [spec_l2Copy.l0]) (evNeg (by omega) (Ev.now _))
 | m + 1, i, hi => by
  have h1 := hr i
  have h2 : (d.take i).length ≤ 1000 := by rw [List.length_take]; omega
  refine Ev.step (fun k => by rw [spec_l2Copy.l0]) (evPos (by omega) ?_)
  simp only [Option.bind_some]
  rw [rdR_nat, List.nil_append, w64 (show i < d.length by omega) (by omega)]
  refine evPos (by omega) (evPos (by simp only [List.length_nil]; omega) (evPos (by omega) ?_))
  have := copy_l0 d hd hr c0 c m (i + 1) (by omega)
  rw [take_snoc d [] i (by omega)] at this
  exact this
theorem copySpec_f (c : List Int) (d : List (List Int)) (hc : c.length ≤ 1000) (hd : d.length ≤ 1000) (hr : ∀ i, (d.getD i []).length ≤ 1000) : Ev (fun k => spec_l2Copy.f k c d) (c, d) := by
 have h := copy_l0 d hd hr c c d.length 0 (by omega)
 unfold spec_l2Copy.f
 simp only [Option.bind_some, List.nil_append]
 exact evPos (by simp only [List.length_nil]; omega) h
theorem strikeSpec_l1 {c : List Int} {R : Nat → Nat → Int} {p : List Nat} (B : BkR c R) (C : Circ.IsCirc (Circ.Ed (mat c.length R)) c.length p) {low : Int} (hl : 1 ≤ low ∧ low ≤ 9) :
  ∀ (m j : Nat), j + m = p.length → Ev (fun k => spec_l3Struck.l1 k (Circ.toI p) low (j : Int) c (mat c.length R) c (mat c.length (strk R p low j))) (c, mat c.length (strk R p low p.length))
 | 0, j, hj => by
  have hlen := Circ.toI_len p
  obtain rfl : j = p.length := by omega
  exact Ev.step (fun k => by rw [spec_l3Struck.l1]) (evNeg (by omega) (Ev.now _))
 | m + 1, j, hj => by
  have ih := strikeSpec_l1 B C hl m (j + 1) (by omega)
  have hjl : j < p.length := by omega
  have A := circAt C hjl
  have l1 := mat_len c.length R
  have l2 := mat_len c.length (strk R p low j)
  have l3 := vec_len c.length (R (p.getD j 0))
  have l4 := vec_len c.length (strk R p low j (p.getD j 0))
  have ea := B.ent _ _ A.a A.b
  rw [← w64 hjl (by have := C.four; omega)] at ih
  have hw : wrap64 (R (p.getD j 0) (nxt p j) - low) = R (p.getD j 0) (nxt p j) - low := by unfold wrap64; omega
  have z : ∀ x : Nat, (0 : Int) ≤ (x : Int) := fun x => by omega
  have alen := A.len
  have aml := A.ml
  have aa := A.a
  have ab := A.b
  have t1 : (j : Int) < ((Circ.toI p).length : Int) := by omega
  have t2 : ¬ (((Circ.toI p).length : Int) = 0) := by omega
  have t3 : (((j + 1) % p.length : Nat) : Int) < ((Circ.toI p).length : Int) := by rw [alen]; exact_mod_cast aml
  have t4 : ((p.getD j 0 : Nat) : Int) < ((mat c.length (strk R p low j)).length : Int) := by rw [l2]; exact_mod_cast aa
  have t5 : ((p.getD j 0 : Nat) : Int) < ((mat c.length R).length : Int) := by rw [l1]; exact_mod_cast aa
  have t6 : ((nxt p j : Nat) : Int) < ((vec c.length (R (p.getD j 0))).length : Int) := by rw [l3]; exact_mod_cast ab
  have t7 : ((nxt p j : Nat) : Int) < ((vec c.length (strk R p low j (p.getD j 0))).length : Int) := by rw [l4]; exact_mod_cast ab
  refine Ev.step (fun k => by rw [spec_l3Struck.l1]) ?_
  rw [A.mod_, A.at_, A.nx, rd_mat' _ _ _ A.a, rd_mat' _ _ _ A.a, rd_vec' _ _ _ A.b, hw, Int.toNat_natCast, Int.toNat_natCast, vec_set, mat_set, strk_succ]
  exact evPos t1 (evPos (z j) (evNeg t2 (evPos (z _) (evPos t3 (evPos (z _) (evPos t4 (evPos t5 (evPos (z _) (evPos t6 (evPos t7 ih))))))))))
theorem strikeSpec_l0 {c : List Int} {R : Nat → Nat → Int} {p : List Nat} (B : BkR c R) (C : Circ.IsCirc (Circ.Ed (mat c.length R)) c.length p) {r : List Int × List (List Int)} {g : List (List Int)} :
  ∀ (m j : Nat) (x : Int), j + m = p.length → Ev (fun k => spec_l3Struck.l1 k (Circ.toI p) (lowI R p m j x) 0 c (mat c.length R) c g) r → Ev (fun k => spec_l3Struck.l0 k (Circ.toI p) x (j : Int) c (mat c.length R) c g) r
 | 0, j, x, hj, e => by
  have hlen := Circ.toI_len p
  replace e : Ev (fun k => spec_l3Struck.l1 k (Circ.toI p) x 0 c (mat c.length R) c g) r := e
  exact Ev.step (fun k => by rw [spec_l3Struck.l0]) (evNeg (by omega) e)
 | m + 1, j, x, hj, e => by
  have hjl : j < p.length := by omega
  have A := circAt C hjl
  have l1 := mat_len c.length R
  have l3 := vec_len c.length (R (p.getD j 0))
  rw [lowI] at e
  have ih := strikeSpec_l0 B C m (j + 1) _ (by omega) e
  rw [← w64 hjl (by have := C.four; omega)] at ih
  have z : ∀ x : Nat, (0 : Int) ≤ (x : Int) := fun x => by omega
  have alen := A.len
  have aml := A.ml
  have aa := A.a
  have ab := A.b
  have t1 : (j : Int) < ((Circ.toI p).length : Int) := by omega
  have t2 : ¬ (((Circ.toI p).length : Int) = 0) := by omega
  have t3 : (((j + 1) % p.length : Nat) : Int) < ((Circ.toI p).length : Int) := by rw [alen]; exact_mod_cast aml
  have t5 : ((p.getD j 0 : Nat) : Int) < ((mat c.length R).length : Int) := by rw [l1]; exact_mod_cast aa
  have t6 : ((nxt p j : Nat) : Int) < ((vec c.length (R (p.getD j 0))).length : Int) := by rw [l3]; exact_mod_cast ab
  refine Ev.step (fun k => by rw [spec_l3Struck.l0]) ?_
  rw [A.mod_, A.at_, A.nx, rd_mat' _ _ _ A.a, rd_vec' _ _ _ A.b]
  exact evPos t1 (evPos (z j) (evPos (z _) (evPos t5 (evNeg t2 (evPos (z _) (evPos t3 (evPos (z _) (evPos t6 ih))))))))
theorem strikeSpec_f {c : List Int} {R : Nat → Nat → Int} {p : List Nat} (B : BkR c R) (C : Circ.IsCirc (Circ.Ed (mat c.length R)) c.length p) : Ev (fun k => spec_l3Struck.f k c (mat c.length R) (Circ.toI p)) (c, mat c.length (struckR R p)) := by
 have n4 := B.n4
 have hl := low_in B C
 have h1 := strikeSpec_l1 B C (low := lowI R p p.length 0 9) ⟨hl.1, hl.2.1⟩ p.length 0 (by omega)
 rw [strk_zero] at h1
 have h0 := strikeSpec_l0 B C (g := mat c.length R) p.length 0 9 (by omega) h1
 have hc := copySpec_f c (mat c.length R) (by omega) (by rw [mat_len]; omega) (fun i => by
  by_cases hi : i < c.length
  ·rw [mat_get _ _ _ hi, vec_len]; omega
  ·rw [List.getD_eq_getElem?_getD, List.getElem?_eq_none (by rw [mat_len]; omega)]; simp)
 exact Ev.congr (fun k => by unfold spec_l3Struck.f; rfl) (Ev.bind hc h0)
theorem wocSpec_l0 {c : List Int} : ∀ (t : Nat) (R : Nat → Nat → Int) (x : Int), BkR c R → tot c.length R ≤ t → 0 ≤ x → x + t ≤ 1000 → (∀ R, BkR c R → Ev (fun k => spec_BookOk.f k c (mat c.length R)) true) →
  Ev (fun k => spec_WithoutCircles.l0 k x c (mat c.length R)) (c, mat c.length (woc c.length t R x).1, (woc c.length t R x).2)
 | t, R, x, B, ht, hx, hxt, sb => by
  have cs := circSpec_f B.bk (sb R B)
  have hnn := tot_nn B
  cases hl : Circ.circN (Circ.Ed (mat c.length R)) c.length with
  | nil =>
   rw [circI_nil hl] at cs
   have e : woc c.length t R x = (R, x) := by
    cases t with
    | zero => rfl
    | succ t => rw [woc, hl]
   rw [e]
   exact Ev.step (fun k => by rw [spec_WithoutCircles.l0]) (Ev.bind cs (evPos rfl (Ev.now _)))
  | cons p l =>
   have C := first_circ B hl
   have less := tot_less B C
   have B2 := struckR_ok B C
   have nn2 := tot_nn B2
   rw [circI_cons hl] at cs
   cases t with
   | zero => omega
   | succ t =>
    have ih := wocSpec_l0 t (struckR R p) (x + 1) B2 (by omega) (by omega) (by omega) sb
    have hw : wrap64 (x + 1) = x + 1 := by unfold wrap64; omega
    rw [woc, hl]
    have n0 : ¬ (((Circ.toI p :: l.map Circ.toI).length : Int) = 0) := by rw [List.length_cons]; omega
    have n1 : (0 : Int) < ((Circ.toI p :: l.map Circ.toI).length : Int) := by rw [List.length_cons]; omega
    refine Ev.step (fun k => by rw [spec_WithoutCircles.l0]) (Ev.bind cs (evNeg n0 (evPos n1 (Ev.bind (strikeSpec_f B C) ?_))))
    rw [hw]
    exact ih
theorem withoutSpec_f {c : List Int} {R : Nat → Nat → Int} (B : BkR c R) (sb : ∀ R, BkR c R → Ev (fun k => spec_BookOk.f k c (mat c.length R)) true) : Ev (fun k => spec_WithoutCircles.f k c (mat c.length R)) (c, mat c.length (woc c.length 144 R 0).1, (woc c.length 144 R 0).2) := by
 have n4 := B.n4
 have hc := copySpec_f c (mat c.length R) (by omega) (by rw [mat_len]; omega) (fun i => by
  by_cases hi : i < c.length
  ·rw [mat_get _ _ _ hi, vec_len]; omega
  ·rw [List.getD_eq_getElem?_getD, List.getElem?_eq_none (by rw [mat_len]; omega)]; simp)
 have h := wocSpec_l0 144 R 0 B (tot_nn B).2 (by omega) (by omega) sb
 exact Ev.congr (fun k => by unfold spec_WithoutCircles.f; rfl) (Ev.bind (sb R B) (evPos rfl (Ev.bind hc h)))
theorem withoutSpec_no {c : List Int} {d : List (List Int)} (sb : Ev (fun k => spec_BookOk.f k c d) false) : Ev (fun k => spec_WithoutCircles.f k c d) ([], [], -1) :=
 Ev.congr (fun k => by unfold spec_WithoutCircles.f; rfl) (Ev.bind sb (evNeg (show ¬ (false = true) by decide) (Ev.now _)))


theorem bookOk_tab {c : List Int} (R : Nat → Nat → Int) (B : BkR c R) : Ev (fun k => spec_BookOk.f k c (mat c.length R)) true := by
 have n4 := B.n4
 have h := specBookOk_f c (mat c.length R) (by omega) (fun i => by
  by_cases hi : i < c.length
  ·rw [mat_get _ _ _ hi, vec_len]; omega
  ·rw [List.getD_eq_getElem?_getD, List.getElem?_eq_none (by rw [mat_len]; omega)]; simp)
 rw [B.ok] at h
 exact h
/-- The book that OrderOf's law draws is small. -/
theorem drawnOrder_ev (l : List Int) (hs : ∀ x ∈ l, (Lit.int .u8 x).wf = true) : ∃ c d, Ev (fun k => spec_DrawOrderOf.f k l) (c, d) ∧ c.length ≤ 4 ∧ d.length ≤ 4 ∧ ∀ i, (d.getD i []).length ≤ 4 := by
 obtain ⟨s, h1, h2⟩ := src_of l hs
 obtain ⟨⟨c, d, p⟩, e, s1, s2, s3, p0, p1⟩ := l20Book_ev h2 0 12 (by omega)
 have s1 : c.length ≤ 4 := s1
 have s2 : d.length ≤ 4 := s2
 have s3 : ∀ i, (d.getD i []).length ≤ 4 := getD_bound s3
 obtain ⟨pb, hpb⟩ : ∃ v, Ev (fun k => spec_l20Rd_pick.f k s p 2) v := ⟨_, (pick_ev h2 (n := 2) ⟨p0, p1⟩ (by omega)).choose_spec.1⟩
 have sb := specBookOk_f c d (by omega) (fun i => by have := s3 i; omega)
 have go : ∀ r : List Int × List (List Int), Ev (fun k => if pb.1 = 0 then ((spec_WithoutCircles.f k c d).bind fun bt261 => (some (bt261.1, bt261.2.1))) else (some (c, d))) r → Ev (fun k => spec_DrawOrderOf.f k l) r := fun r hr =>
  Ev.congr (f := fun k => (spec_l20Book.f k s 0 12).bind fun bt251 => ((spec_l20Rd_pick.f k s bt251.2.2 2).bind fun bt259 => (if bt259.1 = 0 then ((spec_WithoutCircles.f k bt251.1 bt251.2.1).bind fun bt261 => (some (bt261.1, bt261.2.1))) else (some (bt251.1, bt251.2.1))))) (fun k => by unfold spec_DrawOrderOf.f; rw [h1]; rfl) (Ev.bind e (Ev.bind hpb hr))
 by_cases h0 : pb.1 = 0
 ·by_cases hb : okB c d = true
  ·obtain ⟨R, rfl, B⟩ := (Bk.of hb).tab
   have W := withoutSpec_f B bookOk_tab
   have B2 := woc_ok 144 R 0 B
   refine ⟨_, _, go _ (evPos h0 (Ev.bind W (Ev.now _))), s1, by rw [mat_len]; exact s1, fun i => ?_⟩
   by_cases hi : i < c.length
   ·rw [mat_get _ _ _ hi, vec_len]; exact s1
   ·rw [List.getD_eq_getElem?_getD, List.getElem?_eq_none (by rw [mat_len]; omega)]; simp
  ·have hf : okB c d = false := by simpa using hb
   rw [hf] at sb
   exact ⟨_, _, go _ (evPos h0 (Ev.bind (withoutSpec_no sb) (Ev.now _))), by simp, by simp, by simp⟩
 ·exact ⟨_, _, go _ (evNeg h0 (Ev.now _)), s1, s2, s3⟩
/-- Each bank once, and none owes anything to one before it. -/
structure InvP (d : List (List Int)) (n : Nat) (out : List Int) : Prop where
 rng : ∀ j, j < out.length → 0 ≤ out.getD j 0 ∧ out.getD j 0 < n
 once : ∀ j k, j < k → k < out.length → out.getD j 0 ≠ out.getD k 0
 later : ∀ j, j < out.length → ∀ y : Nat, y < n → (∀ t, t ≤ j → out.getD t 0 ≠ (y : Int)) → (d.getD y []).getD (out.getD j 0).toNat 0 = 0
theorem snoc_get (out : List Int) (x : Int) (j : Nat) : (out ++ [x]).getD j 0 = if j < out.length then out.getD j 0 else if j = out.length then x else 0 := by
 rw [List.getD_eq_getElem?_getD, List.getD_eq_getElem?_getD]
 by_cases h : j < out.length
 ·rw [if_pos h, List.getElem?_append_left h]
 ·rw [if_neg h, List.getElem?_append_right (by omega)]
  by_cases h2 : j = out.length
  ·rw [if_pos h2, h2, Nat.sub_self]; rfl
  ·rw [if_neg h2, List.getElem?_eq_none (by simp; omega)]; rfl
theorem InvP.step {d : List (List Int)} {n : Nat} {out : List Int} {i : Nat} (h : InvP d n out) (hi : i < n) (hf : freeB d n out i) : InvP d n (out ++ [(i : Int)]) := by
 have hl : (out ++ [(i : Int)]).length = out.length + 1 := by simp
 refine ⟨fun j hj => ?_, fun j k hjk hk => ?_, fun j hj y hy hn => ?_⟩
 ·rw [snoc_get]
  by_cases h1 : j < out.length
  ·rw [if_pos h1]; exact h.rng j h1
  ·rw [if_neg h1, if_pos (by omega)]; omega
 ·rw [snoc_get, snoc_get, if_pos (by omega)]
  by_cases h1 : k < out.length
  ·rw [if_pos h1]; exact h.once j k hjk h1
  ·rw [if_neg h1, if_pos (by omega)]
   intro e
   exact hf.1 (e ▸ getD_mem (by omega))
 ·rw [snoc_get]
  by_cases h1 : j < out.length
  ·rw [if_pos h1]
   refine h.later j h1 y hy (fun t ht => ?_)
   have := hn t ht
   rw [snoc_get, if_pos (by omega)] at this
   exact this
  ·rw [if_neg h1, if_pos (by omega), Int.toNat_natCast]
   rcases hf.2 y hy with a | a
   ·obtain ⟨t, ht, e⟩ := List.mem_iff_getElem.1 a
    have := hn t (by omega)
    rw [snoc_get, if_pos ht, List.getD_eq_getElem?_getD, List.getElem?_eq_getElem ht] at this
    exact absurd e this
   ·exact a
theorem ordLaw_l1 {c : List Int} {d : List (List Int)} (B : Bk c d) {out : List Int} (I : InvP d c.length out) (hl : out.length = c.length) {i : Nat} (hi : i < out.length) {r : Bool} (go : Ev (fun k => laws_FnOrderOf.l0 k out (wrap64 ((i : Int) + 1)) c d) r) :
  ∀ m j, j + m = i → Ev (fun k => laws_FnOrderOf.l1 k out (i : Int) (j : Int) c d) r := by
 intro m
 induction m with
 | zero =>
  intro j hj
  exact Ev.step (fun k => by rw [laws_FnOrderOf.l1]) (evNeg (by omega) go)
 | succ m ih =>
  intro j hj
  have n4 := B.n4
  have hd := B.hd
  have ihj := ih (j + 1) (by omega)
  rw [← w64 (show j < c.length by omega) (by omega)] at ihj
  clear ih
  have ri := I.rng i hi
  have rj := I.rng j (by omega)
  have ne := I.once j i (by omega) hi
  obtain ⟨a, ha⟩ : ∃ a : Nat, out.getD i 0 = (a : Int) := ⟨(out.getD i 0).toNat, by omega⟩
  have hlat := I.later j (by omega) a (by omega) (fun t ht e => I.once t i (by omega) hi (by rw [e, ha]))
  obtain ⟨b, hb⟩ : ∃ b : Nat, out.getD j 0 = (b : Int) := ⟨(out.getD j 0).toNat, by omega⟩
  rw [hb, Int.toNat_natCast] at hlat
  have hra := B.hr a (by omega)
  have t1 : (j : Int) < (i : Int) := by omega
  have t2 : (j : Int) < (out.length : Int) := by omega
  have t3 : (i : Int) < (out.length : Int) := by omega
  have t4 : ¬ ((b : Int) = (a : Int)) := by rw [← ha, ← hb]; exact ne
  have t5 : ¬ ((a : Int) < 0) := by omega
  have t6 : ¬ ((a : Int) ≥ (c.length : Int)) := by omega
  have t7 : (a : Int) < (d.length : Int) := by omega
  have t8 : (b : Int) < ((d.getD a []).length : Int) := by omega
  have t9 : ¬ ((0 : Int) > 0) := by omega
  have z : ∀ x : Nat, (0 : Int) ≤ (x : Int) := fun x => by omega
  refine Ev.step (fun k => by rw [laws_FnOrderOf.l1]) ?_
  rw [rd_nat, rd_nat, ha, hb, rdR_nat, rd_nat, hlat]
  exact evPos t1 (evPos (z j) (evPos t2 (evPos (z i) (evPos t3 (evNeg t4 (evNeg t5 (evNeg t6 (evPos (z a) (evPos t7 (evPos (z b) (evPos t8 (evNeg t9 ihj))))))))))))
theorem ordLaw_l0 {c : List Int} {d : List (List Int)} (B : Bk c d) {out : List Int} (I : InvP d c.length out) (hl : out.length = c.length) : ∀ m i, i + m = out.length → Ev (fun k => laws_FnOrderOf.l0 k out (i : Int) c d) true
 | 0, i, hi => Ev.step (fun k => by rw [laws_FnOrderOf.l0]) (evNeg (by omega) (evIs (Ev.now _) (by rw [hl]; exact beq_self_eq_true _)))
 | m + 1, i, hi => by
  have n4 := B.n4
  have nx := ordLaw_l0 B I hl m (i + 1) (by omega)
  rw [← w64 (show i < out.length by omega) (by omega)] at nx
  have st : Ev (fun k => laws_FnOrderOf.l1 k out (i : Int) 0 c d) true → Ev (fun k => laws_FnOrderOf.l0 k out (i : Int) c d) true := fun h => Ev.step (fun k => by rw [laws_FnOrderOf.l0]) (evPos (by omega) h)
  exact st (ordLaw_l1 B I hl (by omega) nx i 0 (by omega))
theorem FnOrderOf : laws_FnOrderOf.Pure := by
 intro l hl hl2 hs
 obtain ⟨c, d, dr, s1, s2, s3⟩ := drawnOrder_ev l hs
 have hr : ∀ i, (d.getD i []).length ≤ 9223372036854775807 := fun i => by have := s3 i; omega
 have ib := isBook_f c d (by omega) hr
 have sb := specBookOk_f c d (by omega) hr
 refine Ev.rounds (Ev.congr (fun k => by unfold laws_FnOrderOf.f; rfl) (evIte (fun _ => Ev.now true) (fun _ => Ev.bind dr ?_)))
 obtain ⟨r, e1, e2, hg⟩ := orderOf_f ib sb (Good := fun r => (r.2 = true → okB c d = true ∧ InvP d c.length r.1 ∧ r.1.length = c.length) ∧ (r.2 = false → r.1 = [])) (Inv := InvP d c.length)
  ⟨fun j hj => by simp at hj, fun j k _ hk => by simp at hk, fun j hj => by simp at hj⟩ (fun _ => ⟨fun h => by simp at h, fun _ => rfl⟩) (fun hb out h hl => ⟨fun _ => ⟨hb, h, hl⟩, fun h => by simp at h⟩) (fun hb out h hf hl => ⟨fun h => by simp at h, fun _ => rfl⟩) (fun out i h hi hf => h.step hi hf)
 obtain ⟨out, ok⟩ := r
 have hx : (ok != ok) = false := by cases ok <;> rfl
 cases ok with
 | true =>
  obtain ⟨hb, I, hl⟩ := hg.1 rfl
  have B := Bk.of hb
  have n4 := B.n4
  have hl : out.length = c.length := hl
  have ss := sameInts_f out (by omega)
  refine Ev.bind e1 (Ev.bind e2 (Ev.bind ss (evPos rfl ?_)))
  exact Ev.step (f := fun k => laws_FnOrderOf.l0 k out 0 c d) (fun k => by show laws_FnOrderOf.j0 (k + 1) out true (true != true) c d = _; rw [laws_FnOrderOf.j0, if_neg (by decide), if_pos rfl]) (ordLaw_l0 B I hl out.length 0 (by omega))
 | false =>
  obtain rfl : out = [] := hg.2 rfl
  have ss := sameInts_f [] (by decide)
  refine Ev.bind e1 (Ev.bind e2 (Ev.bind ss (evPos rfl ?_)))
  exact Ev.step (fun k => by rw [laws_FnOrderOf.j0]) (evNeg (show ¬ ((false != false) = true) by decide) (evNeg (show ¬ (false = true) by decide) (evPos (by decide) (Ev.bind alive_ev (Ev.now _)))))

end Go.Proofs.Ythdncdfgonbfeaa.Pure
