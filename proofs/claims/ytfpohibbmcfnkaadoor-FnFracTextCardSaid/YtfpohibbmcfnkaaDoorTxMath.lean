/- Numerals and the texts of fractions as lists of bytes: how they are read back, and that a text is that of one fraction at most; no condition. -/
import Derived.Test.YtfpohibbmcfnkaaDoorQGiven
import Derived.Lib.Strings
import Derived.Lib.AtoiAllCases
import Derived.Lib.IndexBytes
import Derived.Lib.ItoaNum
namespace Go.Proofs.YtfpohibbmcfnkaaDoor.Tx
open Go Go.Proofs.YtfpohibbmcfnkaaDoorW.PrintWords
set_option linter.unusedVariables false
set_option linter.unusedSimpArgs false

/-- A text by its bytes. -/
def T (l : List UInt8) : ByteArray := ⟨l.toArray⟩
theorem T_of (s : ByteArray) : s = T s.data.toList := by cases s; simp [T]
theorem T_data (l : List UInt8) : (T l).data.toList = l := by simp [T]
theorem T_size (l : List UInt8) : (T l).size = l.length := by simp [T, ByteArray.size]
theorem T_toList (l : List UInt8) : (T l).toList = l := by rw [Lib.toList_data, T_data]
theorem T_append (a b : List UInt8) : T a ++ T b = T (a ++ b) := by
  rw [T_of (T a ++ T b)]
  congr 1
theorem T_extract (l : List UInt8) (i j : Nat) : (T l).extract i j = T ((l.drop i).take (j - i)) := by
  rw [T_of ((T l).extract i j), Lib.extract_data, T_data]
theorem T_inj {a b : List UInt8} (h : T a = T b) : a = b := by rw [← T_data a, h, T_data]
theorem T_bt (l : List UInt8) (i : Nat) (h : i < l.length) : bt (T l) (i : Int) = ((l.getD i 0).toNat : Int) := by
  have hs : i < (T l).size := by rw [T_size]; exact h
  unfold bt
  rw [Int.toNat_natCast, dif_pos hs]
  congr 2
  rw [List.getD_eq_getElem?_getD, List.getElem?_eq_getElem h]
  simp [T]; rfl

/-- A digit. -/
def Dig (c : UInt8) : Prop := 48 ≤ c.toNat ∧ c.toNat ≤ 57
theorem dig_of (r : Nat) (h : r < 10) : Dig (UInt8.ofNat (48 + r)) ∧ (UInt8.ofNat (48 + r)).toNat = 48 + r := by
  have e : (UInt8.ofNat (48 + r)).toNat = 48 + r := by
    rw [UInt8.toNat_ofNat']
    omega
  exact ⟨⟨by omega, by omega⟩, e⟩
theorem dec_small {u : Nat} (h : u < 10) : Lib.decDigits u = [UInt8.ofNat (48 + u)] := by rw [Lib.decDigits, dif_pos h]
theorem dec_big {u : Nat} (h : ¬ u < 10) : Lib.decDigits u = Lib.decDigits (u / 10) ++ [UInt8.ofNat (48 + u % 10)] := by rw [Lib.decDigits, dif_neg h]
theorem dec_ne (u : Nat) : Lib.decDigits u ≠ [] := by
  by_cases h : u < 10
  · rw [dec_small h]; simp
  · rw [dec_big h]; simp
theorem dec_dig (u : Nat) : ∀ c ∈ Lib.decDigits u, Dig c := by
  induction u using Nat.strongRecOn with
  | ind u ih =>
    intro c hc
    by_cases h : u < 10
    · rw [dec_small h] at hc
      rw [List.mem_singleton.1 hc]; exact (dig_of u h).1
    · rw [dec_big h, List.mem_append] at hc
      rcases hc with hc | hc
      · exact ih (u / 10) (by omega) c hc
      · rw [List.mem_singleton.1 hc]; exact (dig_of (u % 10) (by omega)).1
theorem dec_len : ∀ (k u : Nat), u < 10 ^ (k + 1) → (Lib.decDigits u).length ≤ k + 1
  | 0, u, h => by rw [dec_small (by simpa using h)]; simp
  | k + 1, u, h => by
    by_cases hu : u < 10
    · rw [dec_small hu]; simp
    · have := dec_len k (u / 10) (by rw [Nat.pow_succ] at h; omega)
      rw [dec_big hu, List.length_append]; simp; omega
/-- The value of digits behind a number. -/
def val (n : Nat) (l : List UInt8) : Nat := l.foldl (fun n c => n * 10 + (c.toNat - 48)) n
theorem val_append (n : Nat) (a b : List UInt8) : val n (a ++ b) = val (val n a) b := by unfold val; rw [List.foldl_append]
theorem val_ge (l : List UInt8) : ∀ n, n ≤ val n l := by
  induction l with
  | nil => intro n; exact Nat.le_refl _
  | cons c r ih => intro n; have := ih (n * 10 + (c.toNat - 48)); unfold val at this ⊢; rw [List.foldl_cons]; omega
theorem val_dec (u : Nat) : val 0 (Lib.decDigits u) = u := by
  induction u using Nat.strongRecOn with
  | ind u ih =>
    by_cases h : u < 10
    · rw [dec_small h]
      have := (dig_of u h).2
      simp only [val, List.foldl_cons, List.foldl_nil, this]; omega
    · rw [dec_big h, val_append, ih (u / 10) (by omega)]
      have := (dig_of (u % 10) (by omega)).2
      simp only [val, List.foldl_cons, List.foldl_nil, this]; omega
/-- The first digit of two or more is not 0. -/
theorem dec_first (u : Nat) (h : 10 ≤ u) : ((Lib.decDigits u).getD 0 0).toNat ≠ 48 := by
  induction u using Nat.strongRecOn with
  | ind u ih =>
    rw [dec_big (by omega)]
    have hn : 0 < (Lib.decDigits (u / 10)).length := List.length_pos_iff.2 (dec_ne _)
    have e : (Lib.decDigits (u / 10) ++ [UInt8.ofNat (48 + u % 10)]).getD 0 0 = (Lib.decDigits (u / 10)).getD 0 0 := by
      rw [List.getD_eq_getElem?_getD, List.getD_eq_getElem?_getD, List.getElem?_append_left hn]
    rw [e]
    by_cases hu : u / 10 < 10
    · rw [dec_small hu]
      have := (dig_of (u / 10) hu).2
      simp only [List.getD_cons_zero, this]; omega
    · exact ih (u / 10) (by omega) (by omega)
theorem dec_one {u : Nat} (h : 1 < (Lib.decDigits u).length) : 10 ≤ u := by
  by_cases hu : u < 10
  · rw [dec_small hu] at h; simp at h
  · omega

/-- A numeral's bytes are digits, but for the hyphen. -/
theorem itoa_nonneg {a : Int} (h : 0 ≤ a) : Lib.itoa a = Lib.decDigits a.toNat := by unfold Lib.itoa; rw [if_neg (by omega)]
theorem itoa_neg {a : Int} (h : a < 0) : Lib.itoa a = 45 :: Lib.decDigits a.natAbs := by unfold Lib.itoa; rw [if_pos h]
theorem itoa_mem (a : Int) : ∀ c ∈ Lib.itoa a, c.toNat = 45 ∨ Dig c := by
  intro c hc
  by_cases h : a < 0
  · rw [itoa_neg h, List.mem_cons] at hc
    rcases hc with rfl | hc
    · exact .inl rfl
    · exact .inr (dec_dig _ c hc)
  · rw [itoa_nonneg (by omega)] at hc
    exact .inr (dec_dig _ c hc)
theorem itoa_slash (a : Int) : (47 : UInt8) ∉ Lib.itoa a := by
  intro h
  rcases itoa_mem a 47 h with e | e
  · exact absurd e (by decide)
  · exact absurd e.1 (by decide)
theorem itoa_ne (a : Int) : Lib.itoa a ≠ [] := by
  by_cases h : a < 0
  · rw [itoa_neg h]; simp
  · rw [itoa_nonneg (by omega)]; exact dec_ne _
theorem itoa_len {a : Int} (h : -1000000000 ≤ a ∧ a ≤ 1000000000) : (Lib.itoa a).length ≤ 11 := by
  by_cases ha : a < 0
  · rw [itoa_neg ha]
    have := dec_len 9 a.natAbs (by omega)
    simp; omega
  · rw [itoa_nonneg (by omega)]
    have := dec_len 9 a.toNat (by omega)
    omega
theorem itoa_end (a : Int) : ∃ c, (Lib.itoa a).getLast? = some c ∧ Dig c := by
  have key : ∀ u, ∃ c, (Lib.decDigits u).getLast? = some c ∧ Dig c := fun u => by
    refine ⟨(Lib.decDigits u).getLast (dec_ne u), List.getLast?_eq_some_getLast (dec_ne u), dec_dig u _ (List.getLast_mem _)⟩
  by_cases h : a < 0
  · obtain ⟨c, h1, h2⟩ := key a.natAbs
    refine ⟨c, ?_, h2⟩
    rw [itoa_neg h, List.getLast?_cons, h1]; rfl
  · rw [itoa_nonneg (by omega)]; exact key _

/-- Digits are read. -/
theorem parse_dig : ∀ (l : List UInt8) (n : Nat), (∀ c ∈ l, Dig c) → val n l < 1000000000000000000 → Lib.parseUint10 n l = .ok (val n l)
  | [], n, _, _ => rfl
  | c :: r, n, hd, hv => by
    have hc : 48 ≤ c.toNat ∧ c.toNat ≤ 57 := hd c (by simp)
    have e : val n (c :: r) = val (n * 10 + (c.toNat - 48)) r := rfl
    have g := val_ge r (n * 10 + (c.toNat - 48))
    rw [e] at hv ⊢
    simp only [Lib.parseUint10]
    rw [if_pos hc, if_neg (by omega), if_neg (by omega)]
    exact parse_dig r _ (fun x hx => hd x (by simp [hx])) hv
theorem atoi_itoa {a : Int} (h : -1000000000 ≤ a ∧ a ≤ 1000000000) : Lib.atoiAll (Lib.itoa a) = .ok a := by
  have key : ∀ u : Nat, u ≤ 1000000000 → Lib.parseMag (Lib.decDigits u) = .ok u := fun u hu => by
    unfold Lib.parseMag
    rw [if_neg (dec_ne u), parse_dig _ 0 (dec_dig u) (by rw [val_dec]; omega), val_dec]
  by_cases ha : a < 0
  · rw [itoa_neg ha, Lib.atoiAll_minus, key _ (by omega)]
    simp only [Lib.signed]
    rw [if_neg (by omega)]
    congr 1; omega
  · rw [itoa_nonneg (by omega)]
    have hk := key a.toNat (by omega)
    cases hd : Lib.decDigits a.toNat with
    | nil => exact absurd hd (dec_ne _)
    | cons c r =>
      have hc := dec_dig a.toNat c (by rw [hd]; simp)
      rw [Lib.atoiAll_plain c r (by have := hc.1; omega) (by have := hc.1; omega), ← hd, hk]
      simp only [Lib.signless]
      rw [if_neg (by omega)]
      congr 1; omega
theorem idx_none : ∀ (l : List UInt8), (47 : UInt8) ∉ l → Lib.indexByte l 47 = -1
  | [], _ => rfl
  | c :: r, h => by
    have h1 : c ≠ 47 := fun e => h (by simp [e])
    have h2 := idx_none r (fun e => h (by simp [e]))
    unfold Lib.indexByte
    simp [h1, h2]
theorem idx_at : ∀ (a b : List UInt8), (47 : UInt8) ∉ a → Lib.indexByte (a ++ 47 :: b) 47 = a.length
  | [], b, _ => by simp [Lib.indexByte]
  | c :: r, b, h => by
    have h1 : c ≠ 47 := fun e => h (by simp [e])
    have h2 := idx_at r b (fun e => h (by simp [e]))
    rw [List.cons_append]
    unfold Lib.indexByte
    simp only [h2, List.length_cons]
    simp [h1]
theorem cut_none {l : List UInt8} (h : (47 : UInt8) ∉ l) : Lib.cut l [47] = (l, [], false) := by
  unfold Lib.cut
  rw [Lib.index_one, idx_none l h]; rfl
theorem cut_at (a b : List UInt8) (h : (47 : UInt8) ∉ a) : Lib.cut (a ++ 47 :: b) [47] = (a, b, true) := by
  unfold Lib.cut
  rw [Lib.index_one, idx_at a b h, if_pos (by omega), Int.toNat_natCast]
  simp
/-- The text of a fraction. -/
def tx (a b : Int) : List UInt8 := if b = 1 then Lib.itoa a else Lib.itoa a ++ 47 :: Lib.itoa b
theorem tx_one {a b : Int} (h : b = 1) : tx a b = Lib.itoa a := if_pos h
theorem tx_two {a b : Int} (h : ¬ b = 1) : tx a b = Lib.itoa a ++ 47 :: Lib.itoa b := if_neg h
theorem tx_ne (a b : Int) : tx a b ≠ [] := by
  by_cases h : b = 1
  · rw [tx_one h]; exact itoa_ne a
  · rw [tx_two h]; simp
theorem tx_len {a b : Int} (ha : -1000000000 ≤ a ∧ a ≤ 1000000000) (hb : 1 ≤ b ∧ b ≤ 1000000000) : (tx a b).length ≤ 23 := by
  have h1 := itoa_len ha
  have h2 := itoa_len (a := b) (by omega)
  by_cases h : b = 1
  · rw [tx_one h]; omega
  · rw [tx_two h]; simp; omega
theorem tx_end (a b : Int) : ∃ c, (tx a b).getLast? = some c ∧ Dig c := by
  by_cases h : b = 1
  · rw [tx_one h]; exact itoa_end a
  · obtain ⟨c, h1, h2⟩ := itoa_end b
    refine ⟨c, ?_, h2⟩
    rw [tx_two h, List.getLast?_append, List.getLast?_cons, h1]; rfl
/-- With a slash behind it no text is that of a fraction. -/
theorem tx_slash (l : List UInt8) (a b : Int) : l ++ [47] ≠ tx a b := by
  intro e
  obtain ⟨c, h1, h2⟩ := tx_end a b
  rw [← e, List.getLast?_append] at h1
  simp at h1
  rw [← h1] at h2
  exact absurd h2.1 (by decide)
end Go.Proofs.YtfpohibbmcfnkaaDoor.Tx
