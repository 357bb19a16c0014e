/- The texts of fractions that the program and the reference write, and what they read; no condition. -/
import Derived.Test.YtfpohibbmcfnkaaDoorTxFrac
namespace Go.Proofs.YtfpohibbmcfnkaaDoor.Tx
open Go Go.RowKit Go.Proofs.YtfpohibbmcfnkaaDoor.QText Go.Proofs.YtfpohibbmcfnkaaDoorW.PrintWords Go.Proofs.YtfpohibbmcfnkaaDoorW.PrintLast Go.Proofs.YtfpohibbmcfnkaaDoorW.PrintMore
set_option linter.unusedVariables false
set_option linter.unusedSimpArgs false
theorem isFrac_ev (p q : Int) : Ev (fun k => impl_isFrac.f k p q) (okF p q) := ⟨9000000000000000001, fun k hk => isFrac_f k p q hk⟩
theorem specOk_ev (p q : Int) : Ev (fun k => spec_FracOk.f k p q) (okF p q) := ⟨9000000000000000001, fun k hk => specFracOk_f k p q hk⟩
theorem slash : (⟨#[47]⟩ : ByteArray) = T [47] := rfl
theorem empty : (⟨#[]⟩ : ByteArray) = T [] := rfl
theorem okF_in {a b : Int} (h : okF a b = true) : (-1000000000 ≤ a ∧ a ≤ 1000000000) ∧ (1 ≤ b ∧ b ≤ 1000000000) := by
  have := (okF_iff a b).1 h
  omega
/-- impl.fracText. -/
theorem implText_f {a b : Int} (ha : -1000000000 ≤ a ∧ a ≤ 1000000000) (hb : 1 ≤ b ∧ b ≤ 1000000000) : Ev (fun k => impl_fracText.f k a b) (T (tx a b)) := by
  have e1 : ∀ k, strconv_Itoa_34.f k a = some (T (Lib.itoa a)) := fun k => by unfold strconv_Itoa_34.f; rw [if_pos (by omega)]; rfl
  have e2 : ∀ k, strconv_Itoa_34.f k b = some (T (Lib.itoa b)) := fun k => by unfold strconv_Itoa_34.f; rw [if_pos (by omega)]; rfl
  have h1 := itoa_len ha
  have h2 := itoa_len (a := b) (by omega)
  refine Ev.congr (fun k => by unfold impl_fracText.f; rw [e1, e2]) ?_
  simp only [Option.bind_some]
  rw [slash, T_append, T_append, T_size, T_size, T_size]
  by_cases h : b = 1
  · rw [tx_one h]; exact evPos h (Ev.now _)
  · rw [tx_two h]
    refine evNeg h (evPos (by omega) (evPos (by rw [List.length_append]; simp; omega) ?_))
    rw [List.append_assoc]
    exact Ev.now _
/-- The text that FracText tells. -/
def txo (a b : Int) : List UInt8 := if okF a b = true then tx a b else []
theorem implFracText_f (a b : Int) : Ev (fun k => impl_FracText.f k a b) (T (txo a b)) := by
  refine Ev.congr (fun k => by unfold impl_FracText.f; rfl) (Ev.bind (isFrac_ev a b) ?_)
  unfold txo
  by_cases h : okF a b = true
  · rw [if_pos h]
    exact evPos h (Ev.bind (implText_f (okF_in h).1 (okF_in h).2) (Ev.now _))
  · rw [if_neg h]
    exact evNeg h (Ev.now _)
theorem strOf (r : Nat) (h : r < 10) (x : Int) (hx : x = 48 + r) : strOfNums [(wrap64 x) % 256] = T [UInt8.ofNat (48 + r)] := by
  have hd := (dig_of r h).2
  have e : (wrap64 x) % 256 = 48 + (r : Int) := by subst hx; unfold wrap64; omega
  have e2 : (48 + (r : Int)).toNat = 48 + r := by omega
  unfold strOfNums
  rw [e, List.map_cons, List.map_nil, e2]; rfl
/-- spec.l1Number. -/
theorem num_pos (u : Nat) : u ≤ 9223372036854775807 → Ev (fun k => spec_l1Number.f k (u : Int)) (T (Lib.decDigits u)) := by
  induction u using Nat.strongRecOn with
  | ind u ih =>
    intro hu
    refine Ev.step (fun k => by rw [spec_l1Number.f]) (evNeg (by omega) (Ev.step (fun k => by rw [spec_l1Number.j0]) (evNeg (by decide) (evNeg (by omega) ?_))))
    by_cases h : u < 10
    · rw [dec_small h, strOf u h _ rfl]
      exact evPos (by omega) (Ev.now _)
    · have e1 : wrap64 (Int.tdiv (u : Int) 10) = ((u / 10 : Nat) : Int) := by rw [Int.tdiv_eq_ediv_of_nonneg (by omega)]; unfold wrap64; omega
      have e2 : Int.tmod (u : Int) 10 = ((u % 10 : Nat) : Int) := by rw [Int.tmod_eq_emod_of_nonneg (by omega)]; omega
      have hl := dec_len 18 (u / 10) (by omega)
      rw [e1, e2, dec_big h]
      refine evNeg (by omega) (Ev.bind (ih (u / 10) (by omega) (by omega)) ?_)
      simp only [Option.bind_some]
      rw [strOf (u % 10) (by omega) _ rfl, T_append, T_size, T_size]
      exact evPos (by simp; omega) (Ev.now _)
theorem num_f (a : Int) (h : -1000000000 ≤ a ∧ a ≤ 1000000000) : Ev (fun k => spec_l1Number.f k a) (T (Lib.itoa a)) := by
  by_cases ha : a < 0
  · have e1 : wrap64 (-a) = ((a.natAbs : Nat) : Int) := by unfold wrap64; omega
    have e2 : (a == ((a.natAbs : Nat) : Int)) = false := by rw [beq_eq_false_iff_ne]; omega
    have hl := dec_len 9 a.natAbs (by omega)
    refine Ev.step (fun k => by rw [spec_l1Number.f]) ?_
    rw [e1, e2]
    refine evPos ha (Ev.step (fun k => by rw [spec_l1Number.j0]) ?_)
    rw [e1, itoa_neg ha]
    refine evNeg (by decide) (evPos ha (Ev.bind (num_pos a.natAbs (by omega)) ?_))
    rw [T_size]
    refine evPos (by omega) ?_
    rw [show (⟨#[45]⟩ : ByteArray) = T [45] from rfl, T_append]
    exact Ev.now _
  · rw [itoa_nonneg (by omega)]
    have := num_pos a.toNat (by omega)
    rwa [Int.toNat_of_nonneg (by omega)] at this
/-- spec.FracText. -/
theorem specText_f (a b : Int) : Ev (fun k => spec_FracText.f k a b) (T (txo a b)) := by
  refine Ev.congr (fun k => by unfold spec_FracText.f; rfl) (Ev.bind (specOk_ev a b) ?_)
  unfold txo
  by_cases h : okF a b = true
  · obtain ⟨ha, hb⟩ := okF_in h
    have h1 := itoa_len ha
    have h2 := itoa_len (a := b) (by omega)
    rw [if_pos h]
    refine evPos h ?_
    by_cases h' : b = 1
    · rw [tx_one h']
      exact evPos h' (Ev.bind (num_f a ha) (Ev.now _))
    · rw [tx_two h', slash]
      refine evNeg h' (Ev.bind (num_f a ha) (evPos (by rw [T_size]; omega) (Ev.bind (num_f b (by omega)) ?_)))
      rw [T_append, T_append]
      refine evPos (by rw [T_size, T_size]; simp; omega) ?_
      rw [List.append_assoc]
      exact Ev.now _
  · rw [if_neg h]
    exact evNeg h (Ev.now _)
/-- What a reading may tell. -/
def Told (l : List UInt8) (r : Int × Int × Bool) : Prop := r = (0, 0, false) ∨ ∃ p q, r = (p, q, true) ∧ okF p q = true ∧ tx p q = l
theorem implRead_j0 (l : List UInt8) (p q : Int) (e : Option Int) : Ev (fun k => impl_ReadFrac.j0 k (T l) p e q) (if e = none ∧ okF p q = true ∧ tx p q = l then (p, q, true) else (0, 0, false)) := by
  refine Ev.step (fun k => by rw [impl_ReadFrac.j0]) ?_
  cases e with
  | some c =>
    rw [if_neg (by simp)]
    exact evNeg (by simp) (Ev.now _)
  | none =>
    refine evPos rfl (Ev.bind (isFrac_ev p q) ?_)
    by_cases h : okF p q = true
    · refine evPos h (Ev.bind (implText_f (okF_in h).1 (okF_in h).2) ?_)
      by_cases h2 : tx p q = l
      · rw [if_pos (show (none : Option Int) = none ∧ okF p q = true ∧ tx p q = l from ⟨rfl, h, h2⟩)]
        exact evPos (by rw [T_toList, T_toList]; exact h2) (Ev.now _)
      · rw [if_neg (show ¬ ((none : Option Int) = none ∧ okF p q = true ∧ tx p q = l) from fun x => h2 x.2.2)]
        exact evNeg (by rw [T_toList, T_toList]; exact h2) (Ev.now _)
    · rw [if_neg (show ¬ ((none : Option Int) = none ∧ okF p q = true ∧ tx p q = l) from fun x => h x.2.1)]
      exact evNeg h (Ev.now _)
/-- strconv.Atoi's answer. -/
def atoiR (u : List UInt8) : Int × Option Int := match Lib.atoiAll u with | .ok v => (v, none) | .range => (Lib.atoiSat u, some 0) | _ => (0, some 0)
theorem atoi_f (k : Nat) (u : List UInt8) (h : u.length ≤ 2000000) : strconv_Atoi_20.f k (T u) = some (atoiR u) := by
  unfold strconv_Atoi_20.f atoiR
  rw [if_pos (by rw [T_size]; omega), T_data]
  cases Lib.atoiAll u <;> rfl
theorem atoiR_ok {u : List UInt8} {v : Int} (h : Lib.atoiAll u = .ok v) : atoiR u = (v, none) := by unfold atoiR; rw [h]
theorem cut_f (k : Nat) (l : List UInt8) (h : l.length ≤ 2000000) : strings_Cut.f k (T l) (⟨#[47]⟩ : ByteArray) = some (T (Lib.cut l [47]).1, T (Lib.cut l [47]).2.1, (Lib.cut l [47]).2.2) := by
  unfold strings_Cut.f
  rw [if_pos (by rw [T_size]; omega), T_data]; rfl
theorem cut_len (l : List UInt8) : (Lib.cut l [47]).1.length ≤ l.length ∧ (Lib.cut l [47]).2.1.length ≤ l.length := by
  unfold Lib.cut
  split
  · simp only [List.length_take, List.length_drop]; omega
  · simp
theorem told_if (l : List UInt8) (p q : Int) (e : Option Int) : Told l (if e = none ∧ okF p q = true ∧ tx p q = l then (p, q, true) else (0, 0, false)) := by
  by_cases h : e = none ∧ okF p q = true ∧ tx p q = l
  · rw [if_pos h]; exact .inr ⟨p, q, rfl, h.2⟩
  · rw [if_neg h]; exact .inl rfl
/-- impl.ReadFrac. -/
theorem implRead_any (l : List UInt8) (h : l.length ≤ 2000000) : ∃ r, Ev (fun k => impl_ReadFrac.f k (T l)) r ∧ Told l r := by
  have hc := cut_len l
  have e0 : ∀ k, impl_ReadFrac.f k (T l) = if (Lib.cut l [47]).2.2 = true then (if (atoiR (Lib.cut l [47]).2.1).2.isNone = true then impl_ReadFrac.j0 k (T l) (atoiR (Lib.cut l [47]).1).1 (atoiR (Lib.cut l [47]).1).2 (atoiR (Lib.cut l [47]).2.1).1 else some (0, 0, false)) else impl_ReadFrac.j0 k (T l) (atoiR (Lib.cut l [47]).1).1 (atoiR (Lib.cut l [47]).1).2 1 := fun k => by
    unfold impl_ReadFrac.f
    rw [cut_f k l h]
    simp only [Option.bind_some]
    rw [atoi_f k _ (by omega), atoi_f k _ (by omega)]
    simp only [Option.bind_some]
  by_cases h1 : (Lib.cut l [47]).2.2 = true
  · by_cases h2 : (atoiR (Lib.cut l [47]).2.1).2.isNone = true
    · exact ⟨_, Ev.congr e0 (evPos h1 (evPos h2 (implRead_j0 l _ _ _))), told_if l _ _ _⟩
    · exact ⟨_, Ev.congr e0 (evPos h1 (evNeg h2 (Ev.now _))), .inl rfl⟩
  · exact ⟨_, Ev.congr e0 (evNeg h1 (implRead_j0 l _ _ _)), told_if l _ _ _⟩
theorem implRead_ok {a b : Int} (h : okF a b = true) : Ev (fun k => impl_ReadFrac.f k (T (tx a b))) (a, b, true) := by
  obtain ⟨ha, hb⟩ := okF_in h
  have hl := tx_len ha hb
  have hj := implRead_j0 (tx a b) a b none
  rw [if_pos ⟨rfl, h, rfl⟩] at hj
  have ra := atoiR_ok (atoi_itoa ha)
  have rb := atoiR_ok (atoi_itoa (a := b) (by omega))
  have la := itoa_len ha
  have lb := itoa_len (a := b) (by omega)
  by_cases h1 : b = 1
  · have hc : Lib.cut (tx a b) [47] = (Lib.itoa a, [], false) := by rw [tx_one h1]; exact cut_none (itoa_slash a)
    refine Ev.congr (fun k => ?_) hj
    unfold impl_ReadFrac.f
    rw [cut_f k _ (by omega), hc]
    simp only [Option.bind_some]
    rw [atoi_f k _ (by omega), ra]
    simp only [Option.bind_some]
    rw [if_neg (by decide), h1]
  · have hc : Lib.cut (tx a b) [47] = (Lib.itoa a, Lib.itoa b, true) := by rw [tx_two h1]; exact cut_at _ _ (itoa_slash a)
    refine Ev.congr (fun k => ?_) hj
    unfold impl_ReadFrac.f
    rw [cut_f k _ (by omega), hc]
    simp only [Option.bind_some]
    rw [atoi_f k _ (by omega), atoi_f k _ (by omega), ra, rb]
    simp only [Option.bind_some]
    rw [if_pos trivial]
    exact if_pos rfl
theorem w64i {j n : Nat} (h : j < n) (hn : n ≤ 9223372036854775807) : wrap64 ((j : Int) + 1) = ((j + 1 : Nat) : Int) := by unfold wrap64; omega
/-- What stands between the slashes. -/
def parts (l : List UInt8) : Nat → Nat → Nat → List ByteArray
  | f, i, 0 => [T ((l.drop f).take (l.length - f))]
  | f, i, m + 1 => if (l.getD i 0).toNat = 47 then T ((l.drop f).take (i - f)) :: parts l (i + 1) (i + 1) m else parts l f (i + 1) m
theorem parts_pos (l : List UInt8) : ∀ m f i, 1 ≤ (parts l f i m).length
  | 0, f, i => by simp [parts]
  | m + 1, f, i => by
    unfold parts
    split
    · simp
    · exact parts_pos l m f (i + 1)
theorem l1Cut_l0 (l : List UInt8) (hl : l.length ≤ 2000000) : ∀ (m i f : Nat) (acc : List ByteArray), i + m = l.length → f ≤ i → acc.length ≤ i → Ev (fun k => spec_l1Cut.l0 k (T l) 47 acc (f : Int) (i : Int)) (acc ++ parts l f i m)
  | 0, i, f, acc, hi, hf, ha => by
    refine Ev.step (fun k => by rw [spec_l1Cut.l0]) ?_
    simp only [T_size, T_extract, Int.toNat_natCast]
    exact evNeg (by omega) (evPos (by omega) (evPos (by omega) (evPos (by omega) (Ev.now _))))
  | m + 1, i, f, acc, hi, hf, ha => by
    have hil : i < l.length := by omega
    refine Ev.step (fun k => by rw [spec_l1Cut.l0]) ?_
    simp only [T_size, T_extract, Int.toNat_natCast]
    rw [T_bt l i hil, w64i hil (by omega)]
    refine evPos (by omega) (evPos (by omega) ?_)
    unfold parts
    by_cases h : (l.getD i 0).toNat = 47
    · rw [if_pos h]
      have ih := l1Cut_l0 l hl m (i + 1) (i + 1) (acc ++ [T ((l.drop f).take (i - f))]) (by omega) (by omega) (by simp; omega)
      rw [List.append_assoc] at ih
      exact evPos (by omega) (evPos (by omega) (evPos (by omega) (evPos (by omega) (evPos (by omega) ih))))
    · rw [if_neg h]
      exact evNeg (by omega) (l1Cut_l0 l hl m (i + 1) f acc (by omega) (by omega) (by omega))
theorem l1Cut_f (l : List UInt8) (hl : l.length ≤ 2000000) : Ev (fun k => spec_l1Cut.f k (T l) 47) (parts l 0 0 l.length) := by
  have h := l1Cut_l0 l hl l.length 0 0 [] (by omega) (by omega) (by simp)
  unfold spec_l1Cut.f
  exact h
theorem no_slash {c : UInt8} (h : c ≠ 47) : ¬ c.toNat = 47 := fun e => h (UInt8.toNat_inj.1 (by rw [e]; rfl))
theorem parts_none (l : List UInt8) (f : Nat) : ∀ m i, i + m = l.length → (47 : UInt8) ∉ l.drop i → parts l f i m = [T (l.drop f)]
  | 0, i, hi, h => by
    unfold parts
    rw [List.take_of_length_le (by simp)]
  | m + 1, i, hi, h => by
    have hil : i < l.length := by omega
    have e : l.drop i = l.getD i 0 :: l.drop (i + 1) := by rw [List.drop_eq_getElem_cons hil, List.getD_eq_getElem?_getD, List.getElem?_eq_getElem hil]; rfl
    rw [e] at h
    unfold parts
    rw [if_neg (no_slash fun x => h (by rw [x]; simp)), parts_none l f m (i + 1) (by omega) (fun x => h (by simp [x]))]
theorem parts_at (a b : List UInt8) : ∀ m i, i + m = a.length → (47 : UInt8) ∉ a.drop i → parts (a ++ 47 :: b) 0 i (m + (1 + b.length)) = T a :: parts (a ++ 47 :: b) (a.length + 1) (a.length + 1) b.length
  | 0, i, hi, h => by
    obtain rfl : i = a.length := by omega
    rw [Nat.zero_add, Nat.add_comm 1]
    conv => lhs; unfold parts
    rw [if_pos (by simp [List.getD_eq_getElem?_getD])]
    congr 1
    simp
  | m + 1, i, hi, h => by
    have hil : i < a.length := by omega
    have e : a.drop i = a.getD i 0 :: a.drop (i + 1) := by rw [List.drop_eq_getElem_cons hil, List.getD_eq_getElem?_getD, List.getElem?_eq_getElem hil]; rfl
    have e2 : (a ++ 47 :: b).getD i 0 = a.getD i 0 := by rw [List.getD_eq_getElem?_getD, List.getD_eq_getElem?_getD, List.getElem?_append_left hil]
    rw [e] at h
    rw [show m + 1 + (1 + b.length) = (m + (1 + b.length)) + 1 by omega]
    conv => lhs; unfold parts
    rw [e2, if_neg (no_slash fun x => h (by rw [x]; simp)), parts_at a b m (i + 1) (by omega) (fun x => h (by simp [x]))]
theorem parts_one {l : List UInt8} (h : (47 : UInt8) ∉ l) : parts l 0 0 l.length = [T l] := by rw [parts_none l 0 l.length 0 (by omega) (by simpa using h)]; rfl
theorem parts_two {a b : List UInt8} (ha : (47 : UInt8) ∉ a) (hb : (47 : UInt8) ∉ b) : parts (a ++ 47 :: b) 0 0 (a ++ 47 :: b).length = [T a, T b] := by
  have hd : (a ++ 47 :: b).drop (a.length + 1) = b := by rw [← List.drop_drop, List.drop_left]; rfl
  have e := parts_at a b a.length 0 (by omega) (by simpa using ha)
  rw [show (a ++ 47 :: b).length = a.length + (1 + b.length) by simp; omega, e, parts_none _ _ _ _ (by simp; omega) (by rw [hd]; exact hb), hd]
/-- spec.l1Digits. -/
theorem dig_loop (l : List UInt8) (hl : l.length ≤ 10) : ∀ (m i : Nat) (x : Int), i + m = l.length → ∃ n b, Ev (fun k => spec_l1Digits.l0 k (T l) x (i : Int)) (n, b)
  | 0, i, x, hi => by
    refine ⟨x, true, Ev.step (fun k => by rw [spec_l1Digits.l0]) ?_⟩
    exact evNeg (by rw [T_size]; omega) (Ev.now _)
  | m + 1, i, x, hi => by
    have hil : i < l.length := by omega
    obtain ⟨n, b, ih⟩ := dig_loop l hl m (i + 1) (wrap64 ((wrap64 (10 * x)) + (((bt (T l) (i : Int)) - 48) % 256))) (by omega)
    rw [← w64i hil (by omega)] at ih
    have t : (i : Int) < ((T l).size : Int) := by rw [T_size]; omega
    by_cases h1 : bt (T l) (i : Int) < 48
    · refine ⟨0, false, Ev.step (fun k => by rw [spec_l1Digits.l0]) ?_⟩
      exact evPos t (evPos (by omega) (evPos h1 (Ev.now _)))
    · by_cases h2 : bt (T l) (i : Int) > 57
      · refine ⟨0, false, Ev.step (fun k => by rw [spec_l1Digits.l0]) ?_⟩
        exact evPos t (evPos (by omega) (evNeg h1 (evPos h2 (Ev.now _))))
      · refine ⟨n, b, Ev.step (fun k => by rw [spec_l1Digits.l0]) ?_⟩
        exact evPos t (evPos (by omega) (evNeg h1 (evNeg h2 ih)))
theorem l1In_ev (n a b : Int) (r : Bool) (h : decide (a ≤ n ∧ n ≤ b) = r) : Ev (fun _ => spec_l1In.f n a b) r := ⟨0, fun _ _ => by rw [l1In_f, h]⟩
theorem j0_no (l : List UInt8) : Ev (fun k => spec_l1Digits.j0 k (T l) true) (0, false) := by
  refine Ev.step (fun k => by rw [spec_l1Digits.j0]) ?_
  exact evPos rfl (Ev.now _)
theorem j0_go {l : List UInt8} {r : Int × Bool} (h : Ev (fun k => spec_l1Digits.l0 k (T l) 0 0) r) : Ev (fun k => spec_l1Digits.j0 k (T l) false) r := by
  refine Ev.step (fun k => by rw [spec_l1Digits.j0]) ?_
  exact evNeg (by decide) h
theorem digits_any (l : List UInt8) : ∃ n b, Ev (fun k => spec_l1Digits.f k (T l)) (n, b) ∧ (b = true → l ≠ []) := by
  have hs := T_size l
  by_cases h : 1 ≤ l.length ∧ l.length ≤ 10
  · obtain ⟨n, b, hd⟩ := dig_loop l h.2 l.length 0 0 (by omega)
    have hne : l ≠ [] := fun e => by rw [e] at h; simp at h
    have hin := l1In_ev (((T l).size : Nat) : Int) 1 10 true (by rw [hs]; exact decide_eq_true (by omega))
    have hj := j0_go (l := l) (r := (n, b)) hd
    by_cases h1 : ((T l).size : Int) > 1
    · cases hb : (bt (T l) 0 == 48) with
      | true =>
        refine ⟨0, false, Ev.congr (fun k => by unfold spec_l1Digits.f; rw [hb]) ?_, fun _ => hne⟩
        exact Ev.bind hin (evPos rfl (evPos h1 (evPos (by omega) (j0_no l))))
      | false =>
        refine ⟨n, b, Ev.congr (fun k => by unfold spec_l1Digits.f; rw [hb]) ?_, fun _ => hne⟩
        exact Ev.bind hin (evPos rfl (evPos h1 (evPos (by omega) hj)))
    · refine ⟨n, b, Ev.congr (fun k => by unfold spec_l1Digits.f; rfl) ?_, fun _ => hne⟩
      exact Ev.bind hin (evPos rfl (evNeg h1 hj))
  · have hin := l1In_ev (((T l).size : Nat) : Int) 1 10 false (by rw [hs]; exact decide_eq_false (by omega))
    refine ⟨0, false, Ev.congr (fun k => by unfold spec_l1Digits.f; rfl) ?_, fun e => by cases e⟩
    exact Ev.bind hin (evNeg (by decide) (j0_no l))
theorem dig_step (v c : Nat) (hv : v ≤ 1000000000) (hc : 48 ≤ c ∧ c ≤ 57) : wrap64 ((wrap64 (10 * (v : Int))) + (((c : Int) - 48) % 256)) = ((v * 10 + (c - 48) : Nat) : Int) := by
  have h1 : wrap64 (10 * (v : Int)) = 10 * (v : Int) := by unfold wrap64; omega
  have h2 : ((c : Int) - 48) % 256 = (c : Int) - 48 := by omega
  rw [h1, h2]
  have h3 : wrap64 (10 * (v : Int) + ((c : Int) - 48)) = 10 * (v : Int) + ((c : Int) - 48) := by unfold wrap64; omega
  rw [h3]
  omega
theorem val_take (l : List UInt8) (i : Nat) (hil : i < l.length) : val 0 (l.take (i + 1)) = val 0 (l.take i) * 10 + ((l.getD i 0).toNat - 48) := by
  have hg : l.getD i 0 = l[i] := by rw [List.getD_eq_getElem?_getD, List.getElem?_eq_getElem hil]; rfl
  rw [List.take_add_one, List.getElem?_eq_getElem hil, val_append, hg]; rfl
theorem val_le (l : List UInt8) (i : Nat) : val 0 (l.take i) ≤ val 0 l := by
  have h := val_ge (l.drop i) (val 0 (l.take i))
  rw [← val_append, List.take_append_drop] at h
  exact h
theorem dec_loop (l : List UInt8) (hd : ∀ c ∈ l, Dig c) (hl : l.length ≤ 10) (hv : val 0 l ≤ 1000000000) : ∀ (m i : Nat), i + m = l.length → Ev (fun k => spec_l1Digits.l0 k (T l) ((val 0 (l.take i) : Nat) : Int) (i : Int)) (((val 0 l : Nat) : Int), true)
  | 0, i, hi => by
    rw [List.take_of_length_le (by omega)]
    refine Ev.step (fun k => by rw [spec_l1Digits.l0]) ?_
    exact evNeg (by rw [T_size]; omega) (Ev.now _)
  | m + 1, i, hi => by
    have hil : i < l.length := by omega
    have ih := dec_loop l hd hl hv m (i + 1) (by omega)
    have hg : l.getD i 0 = l[i] := by rw [List.getD_eq_getElem?_getD, List.getElem?_eq_getElem hil]; rfl
    have hc : 48 ≤ (l.getD i 0).toNat ∧ (l.getD i 0).toNat ≤ 57 := by rw [hg]; exact hd _ (List.getElem_mem hil)
    have hb := T_bt l i hil
    have e4 := dig_step (val 0 (l.take i)) (l.getD i 0).toNat (Nat.le_trans (val_le l i) hv) hc
    rw [← val_take l i hil, ← hb] at e4
    rw [← w64i hil (by omega), ← e4] at ih
    clear e4
    refine Ev.step (fun k => by rw [spec_l1Digits.l0]) ?_
    exact evPos (by rw [T_size]; omega) (evPos (by omega) (evNeg (by omega) (evNeg (by omega) ih)))
theorem digits_dec (u : Nat) (hu : u ≤ 1000000000) : Ev (fun k => spec_l1Digits.f k (T (Lib.decDigits u))) ((u : Int), true) := by
  have hs := T_size (Lib.decDigits u)
  have h10 := dec_len 9 u (by omega)
  have h1 : 0 < (Lib.decDigits u).length := List.length_pos_iff.2 (dec_ne u)
  have hd := dec_loop (Lib.decDigits u) (dec_dig u) h10 (by rw [val_dec]; exact hu) (Lib.decDigits u).length 0 (by omega)
  rw [val_dec] at hd
  have hin := l1In_ev (((T (Lib.decDigits u)).size : Nat) : Int) 1 10 true (by rw [hs]; exact decide_eq_true (by omega))
  have hj := j0_go (l := Lib.decDigits u) (r := ((u : Int), true)) hd
  by_cases h2 : ((T (Lib.decDigits u)).size : Int) > 1
  · have hb : (bt (T (Lib.decDigits u)) 0 == 48) = false := by
      have := T_bt (Lib.decDigits u) 0 h1
      have hf := dec_first u (dec_one (by omega))
      rw [beq_eq_false_iff_ne]
      rw [show ((0 : Nat) : Int) = 0 from rfl] at this
      omega
    refine Ev.congr (fun k => by unfold spec_l1Digits.f; rw [hb]) ?_
    exact Ev.bind hin (evPos rfl (evPos h2 (evPos (by omega) hj)))
  · refine Ev.congr (fun k => by unfold spec_l1Digits.f; rfl) ?_
    exact Ev.bind hin (evPos rfl (evNeg h2 hj))
/-- spec.ReadFrac, behind the sign. -/
theorem told_txo (l : List UInt8) (p q : Int) (hl : l ≠ []) : ∃ r, Ev (fun k => (spec_FracText.f k p q).bind fun t => if t.toList = (T l).toList then some (p, q, true) else some (0, 0, false)) r ∧ Told l r := by
  by_cases h : txo p q = l
  · refine ⟨(p, q, true), Ev.bind (specText_f p q) (evPos (by rw [T_toList, T_toList]; exact h) (Ev.now _)), .inr ⟨p, q, rfl, ?_⟩⟩
    unfold txo at h
    by_cases hk : okF p q = true
    · rw [if_pos hk] at h; exact ⟨hk, h⟩
    · rw [if_neg hk] at h; exact absurd h.symm hl
  · exact ⟨(0, 0, false), Ev.bind (specText_f p q) (evNeg (by rw [T_toList, T_toList]; exact h) (Ev.now _)), .inl rfl⟩
theorem specRead_j1 (l d : List UInt8) (ps : List ByteArray) (sg : Int) (H : l = [] → d = []) : ∃ r, Ev (fun k => spec_ReadFrac.j1 k (T l) ps (T d) sg) r ∧ Told l r := by
  obtain ⟨n, b, h1, hb⟩ := digits_any d
  have no : Told l (0, 0, false) := .inl rfl
  by_cases h2 : (ps.length : Int) = 2
  · obtain ⟨n2, b2, h3, hb2⟩ := digits_any (rdOf ByteArray.empty ps 1).data.toList
    rw [← T_of] at h3
    have h4 : (1 : Int) < (ps.length : Int) := by omega
    cases b with
    | false =>
      refine ⟨_, Ev.step (fun k => by rw [spec_ReadFrac.j1]) (Ev.bind h1 (evPos h2 (evPos h4 (Ev.bind h3 ?_)))), no⟩
      exact evNeg (show ¬ (false = true) by decide) (Ev.now _)
    | true =>
      have hl : l ≠ [] := fun e => hb rfl (H e)
      cases b2 with
      | false =>
        refine ⟨_, Ev.step (fun k => by rw [spec_ReadFrac.j1]) (Ev.bind h1 (evPos h2 (evPos h4 (Ev.bind h3 (evPos rfl ?_))))), no⟩
        exact evNeg (show ¬ (false = true) by decide) (Ev.now _)
      | true =>
        obtain ⟨r, hr, ht⟩ := told_txo l (wrap64 (sg * n)) n2 hl
        refine ⟨r, Ev.step (fun k => by rw [spec_ReadFrac.j1]) (Ev.bind h1 (evPos h2 (evPos h4 (Ev.bind h3 ?_)))), ht⟩
        exact evPos rfl (evPos rfl hr)
  · cases b with
    | false =>
      refine ⟨_, Ev.step (fun k => by rw [spec_ReadFrac.j1]) (Ev.bind h1 (evNeg h2 ?_)), no⟩
      exact evNeg (show ¬ (false = true) by decide) (Ev.now _)
    | true =>
      obtain ⟨r, hr, ht⟩ := told_txo l (wrap64 (sg * n)) 1 (fun e => hb rfl (H e))
      refine ⟨r, Ev.step (fun k => by rw [spec_ReadFrac.j1]) (Ev.bind h1 (evNeg h2 ?_)), ht⟩
      exact evPos rfl hr
/-- spec.ReadFrac. -/
theorem specRead_any (l : List UInt8) (hl : l.length ≤ 2000000) : ∃ r, Ev (fun k => spec_ReadFrac.f k (T l)) r ∧ Told l r := by
  have hc := l1Cut_f l hl
  have hp := parts_pos l l.length 0 0
  have he : l = [] → rdOf ByteArray.empty (parts l 0 0 l.length) 0 = T [] := fun e => by subst e; rfl
  generalize parts l 0 0 l.length = ps at hc hp he
  obtain ⟨d, hd⟩ : ∃ d, rdOf ByteArray.empty ps 0 = T d := ⟨_, T_of _⟩
  rw [hd] at he
  have H : l = [] → d = [] := fun e => T_inj (he e)
  have ds := T_size d
  have hn : (0 : Int) < (ps.length : Int) := by omega
  by_cases h1 : ((T d).size : Int) > 0
  · cases hb : (bt (T d) 0 == 45) with
    | true =>
      obtain ⟨r, hr, ht⟩ := specRead_j1 l ((d.drop 1).take (d.length - 1)) ps (-1) (fun e => by rw [H e]; rfl)
      refine ⟨r, Ev.congr (fun k => by unfold spec_ReadFrac.f; rfl) (Ev.bind hc (evPos hn ?_)), ht⟩
      rw [hd, hb]
      refine evPos h1 (evPos (by omega) (Ev.step (fun k => by rw [spec_ReadFrac.j0]) ?_))
      refine evPos rfl (evPos (by omega) ?_)
      rw [T_extract, T_size]
      exact hr
    | false =>
      obtain ⟨r, hr, ht⟩ := specRead_j1 l d ps 1 H
      refine ⟨r, Ev.congr (fun k => by unfold spec_ReadFrac.f; rfl) (Ev.bind hc (evPos hn ?_)), ht⟩
      rw [hd, hb]
      refine evPos h1 (evPos (by omega) (Ev.step (fun k => by rw [spec_ReadFrac.j0]) ?_))
      exact evNeg (by decide) hr
  · obtain ⟨r, hr, ht⟩ := specRead_j1 l d ps 1 H
    refine ⟨r, Ev.congr (fun k => by unfold spec_ReadFrac.f; rfl) (Ev.bind hc (evPos hn ?_)), ht⟩
    rw [hd]
    refine evNeg h1 (Ev.step (fun k => by rw [spec_ReadFrac.j0]) ?_)
    exact evNeg (by decide) hr
theorem told_same {p q : Int} (h : okF p q = true) : Ev (fun k => (spec_FracText.f k p q).bind fun t => if t.toList = (T (tx p q)).toList then some (p, q, true) else some (0, 0, false)) (p, q, true) := by
  have e : txo p q = tx p q := if_pos h
  exact Ev.bind (specText_f p q) (evPos (by rw [T_toList, T_toList]; exact e) (Ev.now _))
theorem specRead_j1_ok {a b : Int} (h : okF a b = true) (ps : List ByteArray) (hps : (b = 1 ∧ (ps.length : Int) ≠ 2) ∨ (b ≠ 1 ∧ (ps.length : Int) = 2 ∧ rdOf ByteArray.empty ps 1 = T (Lib.itoa b))) (sg : Int) (hsg : wrap64 (sg * (a.natAbs : Int)) = a) : Ev (fun k => spec_ReadFrac.j1 k (T (tx a b)) ps (T (Lib.decDigits a.natAbs)) sg) (a, b, true) := by
  obtain ⟨ha, hb⟩ := okF_in h
  have d1 := digits_dec a.natAbs (by omega)
  have ht := told_same h
  rcases hps with ⟨rfl, h2⟩ | ⟨h1, h2, h3⟩
  · refine Ev.step (fun k => by rw [spec_ReadFrac.j1]) (Ev.bind d1 (evNeg h2 ?_))
    rw [hsg]
    exact evPos rfl ht
  · have d2 := digits_dec b.toNat (by omega)
    rw [← itoa_nonneg (by omega), Int.toNat_of_nonneg (by omega)] at d2
    have h4 : (1 : Int) < (ps.length : Int) := by omega
    refine Ev.step (fun k => by rw [spec_ReadFrac.j1]) (Ev.bind d1 (evPos h2 (evPos h4 ?_)))
    rw [h3]
    refine Ev.bind d2 ?_
    rw [hsg]
    exact evPos rfl (evPos rfl ht)
theorem specRead_ok {a b : Int} (h : okF a b = true) : Ev (fun k => spec_ReadFrac.f k (T (tx a b))) (a, b, true) := by
  obtain ⟨ha, hb⟩ := okF_in h
  have hl := tx_len ha hb
  have hc := l1Cut_f (tx a b) (by omega)
  obtain ⟨ps, hps⟩ : ∃ ps, ps = parts (tx a b) 0 0 (tx a b).length := ⟨_, rfl⟩
  have hp : ps = if b = 1 then [T (Lib.itoa a)] else [T (Lib.itoa a), T (Lib.itoa b)] := by
    rw [hps]
    by_cases h1 : b = 1
    · rw [if_pos h1, tx_one h1, parts_one (itoa_slash a)]
    · rw [if_neg h1, tx_two h1, parts_two (itoa_slash a) (itoa_slash b)]
  rw [← hps] at hc
  have h0 : rdOf ByteArray.empty ps 0 = T (Lib.itoa a) := by rw [hp]; split <;> rfl
  have hn : 0 < (ps.length : Int) := by rw [hp]; split <;> simp
  have hj : (b = 1 ∧ (ps.length : Int) ≠ 2) ∨ (b ≠ 1 ∧ (ps.length : Int) = 2 ∧ rdOf ByteArray.empty ps 1 = T (Lib.itoa b)) := by
    rw [hp]
    by_cases h1 : b = 1
    · rw [if_pos h1]; exact .inl ⟨h1, by simp⟩
    · rw [if_neg h1]; exact .inr ⟨h1, rfl, rfl⟩
  have ds := T_size (Lib.itoa a)
  have dn : 0 < (Lib.itoa a).length := List.length_pos_iff.2 (itoa_ne a)
  have hbt := T_bt (Lib.itoa a) 0 dn
  rw [show ((0 : Nat) : Int) = 0 from rfl] at hbt
  refine Ev.congr (fun k => by unfold spec_ReadFrac.f; rfl) (Ev.bind hc (evPos hn ?_))
  rw [h0]
  refine evPos (by omega) (evPos (by omega) ?_)
  by_cases hneg : a < 0
  · have hi := itoa_neg hneg
    have hflag : (bt (T (Lib.itoa a)) 0 == 45) = true := by rw [hbt, hi]; rfl
    rw [hflag]
    refine Ev.step (fun k => by rw [spec_ReadFrac.j0]) ?_
    refine evPos rfl (evPos (by omega) ?_)
    rw [T_extract, T_size, hi, show ((45 :: Lib.decDigits a.natAbs).drop 1).take ((45 :: Lib.decDigits a.natAbs).length - 1) = Lib.decDigits a.natAbs by simp]
    exact specRead_j1_ok h ps hj (-1) (by unfold wrap64; omega)
  · have hi := itoa_nonneg (a := a) (by omega)
    have hd : Dig ((Lib.itoa a).getD 0 0) := by
      rw [hi] at dn ⊢
      rw [List.getD_eq_getElem?_getD, List.getElem?_eq_getElem dn]
      exact dec_dig _ _ (List.getElem_mem _)
    have hflag : (bt (T (Lib.itoa a)) 0 == 45) = false := by
      have := hd.1
      rw [beq_eq_false_iff_ne, hbt]; omega
    rw [hflag]
    refine Ev.step (fun k => by rw [spec_ReadFrac.j0]) ?_
    refine evNeg (by decide) ?_
    rw [hi, show a.toNat = a.natAbs by omega]
    exact specRead_j1_ok h ps hj 1 (by unfold wrap64; omega)
/-- Both read the same. -/
theorem read_same (l : List UInt8) (hl : l.length ≤ 2000000) : ∃ r, Ev (fun k => spec_ReadFrac.f k (T l)) r ∧ Ev (fun k => impl_ReadFrac.f k (T l)) r ∧ ((r = (0, 0, false) ∧ ∀ p q, okF p q = true → tx p q ≠ l) ∨ ∃ p q, r = (p, q, true) ∧ okF p q = true ∧ tx p q = l) := by
  by_cases h : ∃ p q, okF p q = true ∧ tx p q = l
  · obtain ⟨p, q, h1, rfl⟩ := h
    exact ⟨_, specRead_ok h1, implRead_ok h1, .inr ⟨p, q, rfl, h1, rfl⟩⟩
  · have hno : ∀ p q, okF p q = true → tx p q ≠ l := fun p q h1 h2 => h ⟨p, q, h1, h2⟩
    obtain ⟨r1, e1, t1⟩ := specRead_any l hl
    obtain ⟨r2, e2, t2⟩ := implRead_any l hl
    rcases t1 with rfl | ⟨p, q, _, h1, h2⟩
    · rcases t2 with rfl | ⟨p, q, _, h1, h2⟩
      · exact ⟨_, e1, e2, .inl ⟨rfl, hno⟩⟩
      · exact absurd h2 (hno p q h1)
    · exact absurd h2 (hno p q h1)
end Go.Proofs.YtfpohibbmcfnkaaDoor.Tx
