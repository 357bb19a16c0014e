/- The fraction and the text that the laws draw; no condition. -/
import Derived.Test.YtfpohibbmcfnkaaDoorTxRead
namespace Go.Proofs.YtfpohibbmcfnkaaDoor.Tx
open Go Go.RowKit Go.Proofs.YtfpohibbmcfnkaaDoor.QText Go.Proofs.YtfpohibbmcfnkaaDoorW.PrintWords Go.Proofs.YtfpohibbmcfnkaaDoorW.PrintLast Go.Proofs.YtfpohibbmcfnkaaDoorW.PrintMore
set_option linter.unusedVariables false
set_option linter.unusedSimpArgs false
theorem l1Low_j0 (k : Nat) (u d : Int) (hd : 0 < d) (h1 : -9000000000000000000 ≤ u ∧ u ≤ 9000000000000000000) (h2 : -9000000000000000000 ≤ d ∧ d ≤ 9000000000000000000) (hk : 9000000000000000002 ≤ k) : spec_l1Low.j0 k u d = some (lowF u d) := by
  obtain ⟨k, rfl⟩ : ∃ m, k = m + 1 := ⟨k - 1, by omega⟩
  simp only [spec_l1Low.j0]
  unfold lowF
  rw [l1Divisor_f k u d h1 h2 (by omega)]
  have hg := gcd_bound u d (by omega) h2
  have hb1 := tdiv_bound u (Int.gcd u d : Int) h1
  have hb2 := tdiv_bound d (Int.gcd u d : Int) h2
  have e1 : wrap64 (u.tdiv (Int.gcd u d : Int)) = u.tdiv (Int.gcd u d : Int) := by unfold wrap64; omega
  have e2 : wrap64 (d.tdiv (Int.gcd u d : Int)) = d.tdiv (Int.gcd u d : Int) := by unfold wrap64; omega
  simp only [Option.bind_some, e1, e2, if_neg (show ¬ d < 0 by omega), if_neg (show ¬ (Int.gcd u d : Int) = 0 by omega)]
  rw [specFracOk_f k _ _ (by omega)]
  simp only [Option.bind_some]
  split <;> rfl
theorem l1Low_f (k : Nat) (u d : Int) (hd : d ≠ 0) (h1 : -9000000000000000000 ≤ u ∧ u ≤ 9000000000000000000) (h2 : -9000000000000000000 ≤ d ∧ d ≤ 9000000000000000000) (hk : 9000000000000000002 ≤ k) : spec_l1Low.f k u d = some (lowF u d) := by
  unfold spec_l1Low.f
  by_cases h : d < 0
  · have hw1 : wrap64 (-u) = -u := by unfold wrap64; omega
    have hw2 : wrap64 (-d) = -d := by unfold wrap64; omega
    rw [if_pos h, hw1, hw2, l1Low_j0 k (-u) (-d) (by omega) (by omega) (by omega) hk]
    congr 1
    exact lowF_congr (by omega) hd (by rw [Int.neg_mul, Int.mul_neg])
  · rw [if_neg h]
    exact l1Low_j0 k u d (by omega) h1 h2 hk

theorem xor_i64 (a b : Nat) (ha : a < 4611686018427387904) (hb : b < 4611686018427387904) : Go.bits .xor .i64 (a : Int) (b : Int) = ((a ^^^ b : Nat) : Int) ∧ a ^^^ b < 4611686018427387904 := by
  have hx : a ^^^ b < 2 ^ 62 := Nat.xor_lt_two_pow (by simpa using ha) (by simpa using hb)
  have hx' : a ^^^ b < 4611686018427387904 := by simpa using hx
  refine ⟨?_, hx'⟩
  simp only [Go.bits, BitVec.ofInt_natCast, BitVec.toNat_xor, BitVec.toNat_ofNat]
  rw [Nat.mod_eq_of_lt (a := a) (by simp [IntKind.bits]; omega), Nat.mod_eq_of_lt (a := b) (by simp [IntKind.bits]; omega), IntKind.wrap_i64]
  omega

theorem rd_range (s : List Int) (hs : ∀ x ∈ s, 0 ≤ x ∧ x ≤ 255) (i : Int) : 0 ≤ rd s i ∧ rd s i ≤ 255 := by
  unfold rd
  by_cases h : i.toNat < s.length
  · rw [List.getD_eq_getElem?_getD, List.getElem?_eq_getElem h]
    exact hs _ (List.getElem_mem h)
  · rw [List.getD_eq_getElem?_getD, List.getElem?_eq_none (by omega)]
    exact ⟨Int.le_refl 0, by decide⟩
theorem xor_nonneg (S : Int) (h0 : 0 ≤ S) (h1 : S ≤ 4000000000000000000) : 0 ≤ Go.bits .xor .i64 S (S.tdiv 64) := by
  obtain ⟨a, rfl⟩ := Int.eq_ofNat_of_zero_le h0
  have hd : (a : Int).tdiv 64 = ((a / 64 : Nat) : Int) := by rw [Int.tdiv_eq_ediv_of_nonneg (by omega)]; omega
  rw [hd, (xor_i64 a (a / 64) (by omega) (by omega)).1]
  omega
theorem pick_f (k : Nat) (s : List Int) (p n : Int) (hs : ∀ x ∈ s, 0 ≤ x ∧ x ≤ 255) (hl : s.length ≤ 2000) (hp : 0 ≤ p ∧ p ≤ 1000000) (hk : 1 ≤ k) :
    ∃ v, spec_l20Rd_pick.f k s p n = some (v, p + 1) ∧ 0 ≤ v ∧ (1 ≤ n → v < n) ∧ (n < 1 → v = 0) := by
  obtain ⟨k, rfl⟩ : ∃ m, k = m + 1 := ⟨k - 1, by omega⟩
  unfold spec_l20Rd_pick.f
  have w0 : wrap64 (p + 1) = p + 1 := by unfold wrap64; omega
  have w1 : wrap64 (p + 1 - 1) = p := by unfold wrap64; omega
  rw [w0]
  by_cases hn : n < 1
  · rw [if_pos hn]
    refine ⟨0, ?_, by omega, by omega, fun _ => rfl⟩
    simp [spec_l20Rd_pick.j0]
  · rw [if_neg hn]
    by_cases hz : (s.length : Int) = 0
    · refine ⟨0, ?_, by omega, by omega, by omega⟩
      simp [spec_l20Rd_pick.j0, hz]
    · have hb : ((s.length : Int) == 0) = false := by simpa using hz
      rw [hb]
      simp only [spec_l20Rd_pick.j0, w1, Bool.false_eq_true, if_false]
      by_cases hlt : p < (s.length : Int)
      · have hr := rd_range s hs p
        have w2 : wrap64 (rd s p) = rd s p := by unfold wrap64; omega
        rw [if_pos hlt, if_pos hp.1, if_neg (by omega), w2]
        exact ⟨_, rfl, Int.tmod_nonneg n hr.1, fun _ => Int.tmod_lt_of_pos _ (by omega), by omega⟩
      · have a0 := Int.tmod_nonneg (s.length : Int) hp.1
        have a1 := Int.tmod_lt_of_pos p (show 0 < (s.length : Int) by omega)
        have w3 : wrap64 (p * 7) = p * 7 := by unfold wrap64; omega
        have w4 : wrap64 (p * 7 + 3) = p * 7 + 3 := by unfold wrap64; omega
        have b0 := Int.tmod_nonneg (s.length : Int) (show 0 ≤ p * 7 + 3 by omega)
        have b1 := Int.tmod_lt_of_pos (p * 7 + 3) (show 0 < (s.length : Int) by omega)
        have c0 : 0 ≤ p.tdiv (s.length : Int) := Int.tdiv_nonneg hp.1 (by omega)
        have c1 : p.tdiv (s.length : Int) ≤ p := by have := Int.natAbs_tdiv_le_natAbs p (s.length : Int); omega
        rw [w3, w4]
        rw [if_neg hlt, if_neg hz, if_pos a0, if_pos a1, if_pos b0, if_pos b1, if_neg (by omega)]
        have rA := rd_range s hs (p.tmod (s.length : Int))
        have rB := rd_range s hs ((p * 7 + 3).tmod (s.length : Int))
        generalize rd s (p.tmod (s.length : Int)) = A at rA ⊢
        generalize rd s ((p * 7 + 3).tmod (s.length : Int)) = B at rB ⊢
        generalize p.tdiv (s.length : Int) = C at c0 c1 ⊢
        have e1 : wrap64 A = A := by unfold wrap64; omega
        have e2 : wrap64 B = B := by unfold wrap64; omega
        have e3 : wrap64 C = C := by unfold wrap64; omega
        rw [e1, e2, e3]
        have e4 : wrap64 (A * 131) = A * 131 := by unfold wrap64; omega
        have e5 : wrap64 (B * 1117) = B * 1117 := by unfold wrap64; omega
        have e6 : wrap64 (p * 29) = p * 29 := by unfold wrap64; omega
        have e7 : wrap64 (C * 53) = C * 53 := by unfold wrap64; omega
        rw [e4, e5, e6, e7]
        have e8 : wrap64 (A * 131 + B * 1117) = A * 131 + B * 1117 := by unfold wrap64; omega
        rw [e8]
        have e9 : wrap64 (A * 131 + B * 1117 + p * 29) = A * 131 + B * 1117 + p * 29 := by unfold wrap64; omega
        rw [e9]
        have e10 : wrap64 (A * 131 + B * 1117 + p * 29 + C * 53) = A * 131 + B * 1117 + p * 29 + C * 53 := by unfold wrap64; omega
        rw [e10]
        have hS0 : 0 ≤ A * 131 + B * 1117 + p * 29 + C * 53 := by omega
        have hS1 : A * 131 + B * 1117 + p * 29 + C * 53 ≤ 4000000000000 := by omega
        generalize A * 131 + B * 1117 + p * 29 + C * 53 = S at hS0 hS1 ⊢
        have hd : -9000000000000000000 ≤ S.tdiv 64 ∧ S.tdiv 64 ≤ 9000000000000000000 := by have := Int.natAbs_tdiv_le_natAbs S 64; omega
        have e11 : wrap64 (S.tdiv 64) = S.tdiv 64 := by unfold wrap64; omega
        rw [e11]
        have hx := xor_nonneg S hS0 (by omega)
        exact ⟨_, rfl, Int.tmod_nonneg n hx, fun _ => Int.tmod_lt_of_pos _ (by omega), by omega⟩
theorem pick_pos (k : Nat) (s : List Int) (p n : Int) (hs : ∀ x ∈ s, 0 ≤ x ∧ x ≤ 255) (hl : s.length ≤ 2000) (hp : 0 ≤ p ∧ p ≤ 1000000) (hn : 1 ≤ n) (hk : 1 ≤ k) :
    ∃ v, spec_l20Rd_pick.f k s p n = some (v, p + 1) ∧ 0 ≤ v ∧ v < n := by
  obtain ⟨v, h1, h2, h3, _⟩ := pick_f k s p n hs hl hp hk
  exact ⟨v, h1, h2, h3 hn⟩
theorem open_f (l : List Int) (hs : ∀ x ∈ l, (Lit.int .u8 x).wf = true) : ∃ s, spec_l20Open.f l = some (s, 0) ∧ s.length ≤ 2000 ∧ ∀ x ∈ s, 0 ≤ x ∧ x ≤ 255 := by
  unfold spec_l20Open.f
  by_cases h : (l.length : Int) > 2000
  · rw [if_pos h, if_pos (by omega)]
    exact ⟨_, rfl, by simp; omega, fun x hx => byte_of_wf (hs x (List.mem_of_mem_take hx))⟩
  · rw [if_neg h]
    exact ⟨_, rfl, by omega, fun x hx => byte_of_wf (hs x hx)⟩

theorem odd_f (k : Nat) (s : List Int) (p n : Int) (hs : ∀ x ∈ s, 0 ≤ x ∧ x ≤ 255) (hl : s.length ≤ 2000) (hp : 0 ≤ p ∧ p ≤ 1000000) (hk : 1 ≤ k) :
    ∃ b p', spec_l20Rd_odd.f k s p n = some (b, p') ∧ 0 ≤ p' ∧ p' ≤ p + 1 ∧ (n ≤ 0 → b = false) := by
  unfold spec_l20Rd_odd.f
  by_cases h : n > 0
  · rw [if_pos h]
    obtain ⟨v, hv, _⟩ := pick_f k s p n hs hl hp hk
    rw [hv]
    exact ⟨_, _, rfl, by omega, by omega, by omega⟩
  · rw [if_neg h]
    exact ⟨_, _, rfl, by omega, by omega, fun _ => rfl⟩

/-- What a drawn fraction is like. -/
def drawnF (u d : Int) : Prop := okF u d = true ∨ (u, d) ∈ [((0 : Int), (0 : Int)), (2, 4), (1, -2), (1000000001, 1)]
theorem drawnF_bound {u d : Int} (h : drawnF u d) : -1000000001 ≤ u ∧ u ≤ 1000000001 ∧ -1000000000 ≤ d ∧ d ≤ 1000000000 := by
  rcases h with h | h
  · have := (okF_iff u d).1 h; omega
  · simp only [List.mem_cons, Prod.mk.injEq, List.not_mem_nil, or_false] at h; omega
theorem l20Frac_j0 (k : Nat) (n : Int) (s : List Int) (p u d : Int) (hs : ∀ x ∈ s, 0 ≤ x ∧ x ≤ 255) (hl : s.length ≤ 2000) (hp : 0 ≤ p ∧ p ≤ 1000) (hk : 2 ≤ k) (hf : okF u d = true) :
    ∃ u' d' p', spec_l20Frac.j0 k n s p u d = some (u', d', p') ∧ drawnF u' d' ∧ 0 ≤ p' ∧ p' ≤ p + 2 ∧ (n ≤ 0 → okF u' d' = true) := by
  obtain ⟨k, rfl⟩ : ∃ m, k = m + 1 := ⟨k - 1, by omega⟩
  simp only [spec_l20Frac.j0]
  obtain ⟨b, p1, h1, h2, h3, h5⟩ := odd_f k s p n hs hl (by omega) (by omega)
  rw [h1]; simp only [Option.bind_some]
  cases b with
  | false => exact ⟨u, d, p1, by simp, .inl hf, by omega, by omega, fun _ => hf⟩
  | true =>
    have hn : ¬ n ≤ 0 := fun h => by have := h5 h; simp at this
    obtain ⟨v, h4, v0, v1⟩ := pick_pos k s p1 4 hs hl (by omega) (by omega) (by omega)
    rw [h4]; simp only [Option.bind_some, if_true]
    rw [if_pos v0, if_pos (by simp; omega)]
    have hv : v = 0 ∨ v = 1 ∨ v = 2 ∨ v = 3 := by omega
    rcases hv with rfl | rfl | rfl | rfl
    · exact ⟨_, _, _, rfl, .inr (by simp [rd_T23]), by omega, by omega, fun h => absurd h hn⟩
    · exact ⟨_, _, _, rfl, .inr (by simp [rd_T23]), by omega, by omega, fun h => absurd h hn⟩
    · exact ⟨_, _, _, rfl, .inr (by simp [rd_T23]), by omega, by omega, fun h => absurd h hn⟩
    · exact ⟨_, _, _, rfl, .inr (by simp [rd_T23]), by omega, by omega, fun h => absurd h hn⟩
/-- A value whose lowest terms are small enough is brought to them. -/
theorem lowF_small {u d : Int} (hu : -1000000000 ≤ u ∧ u ≤ 1000000000) (hd : 1 ≤ d ∧ d ≤ 1000000000) : ∃ p q, lowF u d = (p, q, true) ∧ okF p q = true := by
  rcases lowF_cases u d with h | h
  · exact h
  · exfalso
    have hd0 : d ≠ 0 := by omega
    have hg := gcd_bound u d hd0 (by omega)
    have hu1 : (Int.gcd u d : Int) ∣ u := Int.gcd_dvd_left ..
    have hd1 : (Int.gcd u d : Int) ∣ d := Int.gcd_dvd_right ..
    obtain ⟨a, ha⟩ := hu1
    obtain ⟨b, hb⟩ := hd1
    have hab : Int.gcd a b = 1 := by
      have h2 : Int.gcd u d * Int.gcd a b = Int.gcd u d * 1 := by
        have h3 := Int.gcd_mul_left (Int.gcd u d : Int) a b
        rw [← ha, ← hb] at h3
        simp only [Int.natAbs_natCast] at h3
        omega
      exact Nat.eq_of_mul_eq_mul_left (by omega) h2
    have hb1 : 1 ≤ b := by
      refine Int.not_lt.1 fun h0 => ?_
      have := Int.mul_nonneg (show 0 ≤ (Int.gcd u d : Int) by omega) (show 0 ≤ -b by omega)
      rw [Int.mul_neg] at this
      omega
    have hb2 : b ≤ d := by
      have := Int.mul_le_mul_of_nonneg_right hg.1 (show 0 ≤ b by omega)
      omega
    have ha2 : a.natAbs ≤ u.natAbs := by
      have h2 : u.natAbs = Int.gcd u d * a.natAbs := by
        have := congrArg Int.natAbs ha
        rw [Int.natAbs_mul] at this
        simpa using this
      rw [h2]
      exact Nat.le_mul_of_pos_left _ (by omega)
    refine (lowF_false hd0).1 h a b ((okF_iff a b).2 ⟨by omega, by omega, hb1, by omega, hab⟩) ?_
    have : a * ((Int.gcd u d : Int) * b) = ((Int.gcd u d : Int) * a) * b := by grind
    rw [← ha, ← hb] at this
    exact this
theorem l20Frac_f (k : Nat) (s : List Int) (p n : Int) (hs : ∀ x ∈ s, 0 ≤ x ∧ x ≤ 255) (hl : s.length ≤ 2000) (hp : 0 ≤ p ∧ p ≤ 900) (hk : 9000000000000000003 ≤ k) :
    ∃ u d p', spec_l20Frac.f k s p n = some (u, d, p') ∧ drawnF u d ∧ 0 ≤ p' ∧ p' ≤ p + 7 ∧ (n ≤ 0 → okF u d = true) := by
  unfold spec_l20Frac.f
  obtain ⟨v1, h1, a1, b1⟩ := pick_pos k s p 41 hs hl (by omega) (by omega) (by omega)
  rw [h1]; simp only [Option.bind_some]
  obtain ⟨v2, h2, a2, b2⟩ := pick_pos k s (p + 1) 12 hs hl (by omega) (by omega) (by omega)
  rw [h2]; simp only [Option.bind_some]
  have w1 : wrap64 (v1 - 20) = v1 - 20 := by unfold wrap64; omega
  have w2 : wrap64 (1 + v2) = 1 + v2 := by unfold wrap64; omega
  rw [w1, w2, l1Low_f k _ _ (by omega) (by omega) (by omega) (by omega)]
  simp only [Option.bind_some]
  obtain ⟨x, y, e1, o1⟩ := lowF_small (u := v1 - 20) (d := 1 + v2) (by omega) (by omega)
  rw [e1]
  obtain ⟨v3, h3, a3, b3⟩ := pick_pos k s (p + 1 + 1) 6 hs hl (by omega) (by omega) (by omega)
  rw [h3]; simp only [Option.bind_some]
  by_cases hz : v3 = 0
  · rw [if_pos hz]
    obtain ⟨v4, h4, a4, b4⟩ := pick_pos k s (p + 1 + 1 + 1) 256 hs hl (by omega) (by omega) (by omega)
    rw [h4]; simp only [Option.bind_some]
    obtain ⟨v5, h5, a5, b5⟩ := pick_pos k s (p + 1 + 1 + 1 + 1) 256 hs hl (by omega) (by omega) (by omega)
    rw [h5]; simp only [Option.bind_some]
    have w3 : wrap64 (v4 - 128) = v4 - 128 := by unfold wrap64; omega
    have w4 : wrap64 (v5 * 3000001) = v5 * 3000001 := by unfold wrap64; omega
    rw [w3, w4]
    have w5 : wrap64 ((v4 - 128) * 4000003) = (v4 - 128) * 4000003 := by unfold wrap64; omega
    have w6 : wrap64 (1 + v5 * 3000001) = 1 + v5 * 3000001 := by unfold wrap64; omega
    rw [w5, w6, l1Low_f k _ _ (by omega) (by omega) (by omega) (by omega)]
    simp only [Option.bind_some]
    obtain ⟨x2, y2, e2, o2⟩ := lowF_small (u := (v4 - 128) * 4000003) (d := 1 + v5 * 3000001) (by omega) (by omega)
    rw [e2]
    obtain ⟨u, d, q, hq, hf, q0, q1, hn⟩ := l20Frac_j0 k n s _ x2 y2 hs hl (show 0 ≤ p + 1 + 1 + 1 + 1 + 1 ∧ _ by omega) (by omega) o2
    exact ⟨u, d, q, hq, hf, q0, by omega, hn⟩
  · rw [if_neg hz]
    obtain ⟨u, d, q, hq, hf, q0, q1, hn⟩ := l20Frac_j0 k n s _ x y hs hl (show 0 ≤ p + 1 + 1 + 1 ∧ _ by omega) (by omega) o1
    exact ⟨u, d, q, hq, hf, q0, by omega, hn⟩


theorem drawFracText_f (l : List Int) (hs : ∀ x ∈ l, (Lit.int .u8 x).wf = true) : ∃ a b, Ev (fun k => spec_DrawFracText.f k l) (a, b) := by
  obtain ⟨s, h1, h2, h3⟩ := open_f l hs
  obtain ⟨K, hK⟩ : ∃ K : Nat, 9000000000000000003 ≤ K := ⟨_, Nat.le_refl _⟩
  obtain ⟨a, b, p, hp, hf, p0, p1, _⟩ := l20Frac_f K s 0 6 h3 h2 (by omega) hK
  refine ⟨a, b, Ev.of (spec_DrawFracText.mono l) (k := K) ?_⟩
  unfold spec_DrawFracText.f
  rw [h1]; simp only [Option.bind_some]
  rw [hp]; simp only [Option.bind_some]
theorem drawReadFrac_f (l : List Int) (hs : ∀ x ∈ l, (Lit.int .u8 x).wf = true) : ∃ t : List UInt8, t.length ≤ 100 ∧ Ev (fun k => spec_DrawReadFrac.f k l) (T t) := by
  obtain ⟨s, h1, h2, h3⟩ := open_f l hs
  obtain ⟨K0, hK0⟩ : ∃ K : Nat, 9000000000000000003 ≤ K := ⟨_, Nat.le_refl _⟩
  obtain ⟨a, b, p, hp0, hf, p0, p1, hok⟩ := l20Frac_f K0 s 0 0 h3 h2 (by omega) hK0
  have ok := hok (by omega)
  obtain ⟨ha, hb⟩ := okF_in ok
  have hl := tx_len ha hb
  have hne : 0 < (tx a b).length := List.length_pos_iff.2 (tx_ne a b)
  have ht := specText_f a b
  rw [show txo a b = tx a b from if_pos ok] at ht
  have hp : Ev (fun k => spec_l20Frac.f k s 0 0) (a, b, p) := Ev.of (spec_l20Frac.mono s 0 0) hp0
  have pk : ∀ (q n : Int), 0 ≤ q ∧ q ≤ 100 → 1 ≤ n → ∃ v, Ev (fun k => spec_l20Rd_pick.f k s q n) (v, q + 1) ∧ 0 ≤ v ∧ v < n := fun q n hq hn => by
    obtain ⟨v, e1, e2, e3⟩ := pick_pos 1 s q n h3 h2 (by omega) hn (by omega)
    exact ⟨v, Ev.of (spec_l20Rd_pick.mono s q n) e1, e2, e3⟩
  obtain ⟨v1, g1, a1, b1⟩ := pk p 3 (by omega) (by omega)
  have ho : Ev (fun _ => spec_l20Open.f l) (s, 0) := ⟨0, fun _ _ => h1⟩
  by_cases hz : v1 = 0
  · have hsz : ((T (tx a b)).size : Int) = ((tx a b).length : Int) := by rw [T_size]
    obtain ⟨v2, g2, a2, b2⟩ := pk (p + 1) ((tx a b).length : Int) (by omega) (by omega)
    obtain ⟨v3, g3, a3, b3⟩ := pk (p + 1 + 1) 5 (by omega) (by omega)
    obtain ⟨j, rfl⟩ : ∃ j : Nat, v2 = (j : Int) := ⟨v2.toNat, by omega⟩
    obtain ⟨x, hx⟩ : ∃ x : List UInt8, rdOf ByteArray.empty ([(⟨#[]⟩ : ByteArray), (⟨#[48]⟩ : ByteArray), (⟨#[47]⟩ : ByteArray), (⟨#[45]⟩ : ByteArray), (⟨#[49]⟩ : ByteArray)] : List ByteArray) v3 = T x := ⟨_, T_of _⟩
    have hxl : x.length ≤ 1 := by
      have hv : v3 = 0 ∨ v3 = 1 ∨ v3 = 2 ∨ v3 = 3 ∨ v3 = 4 := by omega
      have hz : (rdOf ByteArray.empty ([(⟨#[]⟩ : ByteArray), (⟨#[48]⟩ : ByteArray), (⟨#[47]⟩ : ByteArray), (⟨#[45]⟩ : ByteArray), (⟨#[49]⟩ : ByteArray)] : List ByteArray) v3).size ≤ 1 := by
        rcases hv with rfl | rfl | rfl | rfl | rfl <;> decide
      rw [hx, T_size] at hz; exact hz
    have hj : j < (tx a b).length := by omega
    refine ⟨((tx a b).take j ++ x) ++ (tx a b).drop (j + 1), by simp only [List.length_append, List.length_take, List.length_drop]; omega, ?_⟩
    refine Ev.congr (fun k => by unfold spec_DrawReadFrac.f; rfl) ?_
    refine Ev.bind ho (Ev.bind hp (Ev.bind ht (Ev.bind g1 ?_)))
    rw [hsz]
    refine evPos hz (Ev.bind g2 (evPos (by omega) (evPos (by omega) ?_)))
    simp only [Option.bind_some]
    refine Ev.bind g3 (evPos a3 (evPos (by exact b3) ?_))
    rw [hx, w64i hj (by omega), Int.toNat_natCast, Int.toNat_natCast]
    simp only [T_size, T_extract, T_append, List.length_append, List.length_take, List.length_drop]
    refine evPos (by omega) (evPos (by omega) (evPos (by omega) (evPos (by omega) ?_)))
    rw [List.drop_zero, Nat.sub_zero, List.take_of_length_le (l := (tx a b).drop (j + 1)) (by simp)]
    exact Ev.now _
  · refine ⟨tx a b, by omega, ?_⟩
    refine Ev.congr (fun k => by unfold spec_DrawReadFrac.f; rfl) ?_
    exact Ev.bind ho (Ev.bind hp (Ev.bind ht (Ev.bind g1 (evNeg hz (Ev.now _)))))
end Go.Proofs.YtfpohibbmcfnkaaDoor.Tx
