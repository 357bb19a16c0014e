/- What the plain functions of impl.circles tell of a book: its circles, in order; no condition but that the book is one. -/
import Derived.Test.YthdncdfgonbfeaaECirc7
namespace Go.Proofs.Ythdncdfgonbfeaa.Circ
set_option linter.unusedVariables false
set_option linter.unusedSimpArgs false
def toI (p : List Nat) : List Int := p.map fun x : Nat => (x : Int)
/-- Who owes whom. -/
def Ed (d : List (List Int)) (i j : Nat) : Bool := decide ((d.getD i []).getD j 0 ≠ 0)
theorem toI_len (p : List Nat) : (toI p).length = p.length := by simp [toI]
theorem toI_get (p : List Nat) (i : Nat) : (toI p).getD i 0 = ((p.getD i 0 : Nat) : Int) := by
 unfold toI
 rw [List.getD_eq_getElem?_getD, List.getD_eq_getElem?_getD, List.getElem?_map]
 cases p[i]? <;> rfl
theorem toI_mem (p : List Nat) (x : Nat) : (x : Int) ∈ toI p ↔ x ∈ p := by
 unfold toI
 rw [List.mem_map]
 refine ⟨fun ⟨y, hy, e⟩ => ?_, fun h => ⟨x, h, rfl⟩⟩
 have : y = x := by omega
 rwa [this] at hy
theorem toI_snoc (p : List Nat) (x : Nat) : toI (p ++ [x]) = toI p ++ [(x : Int)] := by simp [toI]
theorem map_getD (xs : List (List Nat)) (i : Nat) : (xs.map toI).getD i [] = toI (xs.getD i []) := by
 rw [List.getD_eq_getElem?_getD, List.getD_eq_getElem?_getD, List.getElem?_map]
 cases xs[i]? with
 | none => simp [toI]
 | some x => rfl
theorem nodup_le : ∀ (n : Nat) (l : List Nat), l.Nodup → (∀ x ∈ l, x < n) → l.length ≤ n
 | 0, l, _, h => by
  cases l with
  | nil => exact Nat.le_refl _
  | cons x l => exact absurd (h x (by simp)) (by omega)
 | n + 1, l, hd, h => by
  have h1 := nodup_le n (l.erase n) (hd.erase n) (fun x hx => by
   have a := h x (List.mem_of_mem_erase hx)
   have b := (hd.mem_erase_iff.1 hx).1
   omega)
  by_cases hm : n ∈ l
  ·rw [List.length_erase_of_mem hm] at h1; omega
  ·rw [List.erase_of_not_mem hm] at h1; omega
theorem pN_len (E : Nat → Nat → Bool) (n : Nat) : ∀ m p c, c ∈ pN E n m p → c.length ≤ p.length + m
 | 0, p, c, h => by simp [pN] at h
 | m + 1, p, c, h => by
  rw [pN, List.mem_append] at h
  rcases h with h | h
  ·split at h
   ·rw [List.mem_singleton.1 h]; omega
   ·cases h
  ·obtain ⟨j, _, _, hj⟩ := fl_mem _ _ h
   split at hj
   ·have := pN_len E n m _ c hj
    simp at this
    omega
   ·cases hj
/-- A book, as far as circles go. -/
structure Bt (d : List (List Int)) (n : Nat) : Prop where
 n1 : 1 ≤ n
 n4 : n ≤ 4
 hd : d.length = n
 hr : ∀ i, i < n → (d.getD i []).length = n
 hz : ∀ i, i < n → (d.getD i []).getD i 0 = 0
/-- What one bank adds in the program's walk. -/
def addN (d : List (List Int)) (n m : Nat) (p : List Nat) (x : Nat) : List (List Nat) :=
 if (d.getD (p.getD (p.length - 1) 0) []).getD x 0 = 0 then [] else if x < p.getD 0 0 then [] else if x = p.getD 0 0 then [p] else if x ∈ p then [] else pN (Ed d) n m (p ++ [x])
theorem fl_cut {α : Type} (f : Nat → List α) : ∀ a b j, fl f (a + b) j = fl f a j ++ fl f b (j + a)
 | 0, b, j => by rw [Nat.zero_add]; rfl
 | a + 1, b, j => by rw [show a + 1 + b = (a + b) + 1 by omega, fl, fl, fl_cut f a b (j + 1), List.append_assoc, show j + 1 + a = j + (a + 1) by omega]
theorem fl_nil {α : Type} {f : Nat → List α} : ∀ m j, (∀ i, j ≤ i → i < j + m → f i = []) → fl f m j = []
 | 0, j, h => rfl
 | m + 1, j, h => by rw [fl, h j (Nat.le_refl _) (by omega), fl_nil m (j + 1) (fun i h1 h2 => h i (by omega) (by omega))]; rfl
theorem addN_all {d : List (List Int)} {n : Nat} (B : Bt d n) {m : Nat} {p : List Nat} (hp : p ≠ []) (hx : ∀ x ∈ p, x < n) : fl (addN d n m p) n 0 = pN (Ed d) n (m + 1) p := by
 have hl : 0 < p.length := List.length_pos_iff.2 hp
 have p0 := hx _ (getD_n (p := p) (i := 0) hl)
 obtain ⟨a, ha⟩ : ∃ a, a = p.getD 0 0 := ⟨_, rfl⟩
 obtain ⟨b, hb⟩ : ∃ b, n = a + (1 + b) := ⟨n - a - 1, by omega⟩
 have L : ∀ f : Nat → List (List Nat), (∀ x, x < a → f x = []) → fl f n 0 = f a ++ fl f b (a + 1) := fun f hf => by
  rw [show fl f n 0 = fl f (a + (1 + b)) 0 by rw [← hb], fl_cut, fl_nil a 0 (fun i _ h => hf i (by omega)), List.nil_append, Nat.zero_add, fl_cut]
  rw [fl, fl, List.append_nil]
 have hlt : ∀ x, x < a → addN d n m p x = [] := fun x h => by
  unfold addN
  rw [← ha]
  by_cases h0 : (d.getD (p.getD (p.length - 1) 0) []).getD x 0 = 0
  ·rw [if_pos h0]
  ·rw [if_neg h0, if_pos h]
 have g0 : ∀ x, x ≤ a → (if (Nat.blt a x && Ed d (p.getD (p.length - 1) 0) x && !p.contains x) = true then pN (Ed d) n m (p ++ [x]) else []) = [] := fun x h => by
  rw [if_neg]
  simp only [Bool.and_eq_true, Nat.blt_eq]
  omega
 rw [pN, ← ha, L _ hlt, L _ (fun x h => g0 x (by omega)), g0 a (Nat.le_refl _), List.nil_append]
 congr 1
 ·unfold addN
  rw [← ha]
  have hE : Ed d (p.getD (p.length - 1) 0) a = decide ((d.getD (p.getD (p.length - 1) 0) []).getD a 0 ≠ 0) := rfl
  by_cases h0 : (d.getD (p.getD (p.length - 1) 0) []).getD a 0 = 0
  ·rw [if_pos h0, if_neg]
   rw [Bool.and_eq_true, hE]
   simp only [decide_eq_true_eq]
   exact fun h => h.2 h0
  ·rw [if_neg h0, if_neg (Nat.lt_irrefl _), if_pos rfl, if_pos]
   rw [Bool.and_eq_true, hE]
   refine ⟨?_, decide_eq_true h0⟩
   rw [Nat.ble_eq]
   rcases Nat.lt_or_ge p.length 2 with h | h
   ·exfalso
    have e : p.length - 1 = 0 := by omega
    rw [e, ← ha] at h0
    exact h0 (B.hz a (by omega))
   ·exact h
 ·refine fl_congr _ _ (fun x h1 h2 => ?_)
  unfold addN
  rw [← ha]
  have hE : Ed d (p.getD (p.length - 1) 0) x = decide ((d.getD (p.getD (p.length - 1) 0) []).getD x 0 ≠ 0) := rfl
  by_cases h0 : (d.getD (p.getD (p.length - 1) 0) []).getD x 0 = 0
  ·rw [if_pos h0, if_neg]
   simp only [Bool.and_eq_true, hE, decide_eq_true_eq]
   exact fun h => h.1.2 h0
  ·rw [if_neg h0, if_neg (by omega), if_neg (by omega)]
   by_cases hm : x ∈ p
   ·rw [if_pos hm, if_neg]
    rw [Bool.and_eq_true, List.contains_iff_mem.2 hm]
    exact fun h => absurd h.2 (by decide)
   ·rw [if_neg hm, if_pos]
    simp only [Bool.and_eq_true, hE, Nat.blt_eq, decide_eq_true_eq, Bool.not_eq_true']
    refine ⟨⟨by omega, h0⟩, ?_⟩
    cases hc : p.contains x with
    | false => rfl
    | true => exact absurd (List.contains_iff_mem.1 hc) hm
theorem loopF_tells {d : List (List Int)} {n : Nat} (B : Bt d n) {m : Nat} {p : List Nat} {f : List Int → List (List Int) → Option (List (List Int))}
  (hf : ∀ x, x < n → x ∉ p → ∀ o, o.length + (pN (Ed d) n m (p ++ [x])).length ≤ 900 → f (toI (p ++ [x])) o = some (o ++ (pN (Ed d) n m (p ++ [x])).map toI)) :
  ∀ q x o, x + q = n → o.length + (fl (addN d n m p) q x).length ≤ 900 → loopF f (d.getD (p.getD (p.length - 1) 0) []) (toI p) q x o = some (o ++ (fl (addN d n m p) q x).map toI)
 | 0, x, o, hx, hl => by rw [loopF, fl]; simp
 | q + 1, x, o, hx, hl => by
  have one : (if (d.getD (p.getD (p.length - 1) 0) []).getD x 0 = 0 then some o else if (x : Int) < (toI p).getD 0 0 then some o else if (x : Int) = (toI p).getD 0 0 then (if o.length < 1000 then some (o ++ [toI p]) else none) else if (x : Int) ∈ toI p then some o else f (toI p ++ [(x : Int)]) o) = some (o ++ (addN d n m p x).map toI) := by
   rw [toI_get]
   rw [fl, List.length_append] at hl
   unfold addN at hl ⊢
   by_cases h0 : (d.getD (p.getD (p.length - 1) 0) []).getD x 0 = 0
   ·rw [if_pos h0, if_pos h0]; simp
   ·rw [if_neg h0] at hl
    rw [if_neg h0, if_neg h0]
    by_cases h1 : x < p.getD 0 0
    ·rw [if_pos (by omega), if_pos h1]; simp
    ·rw [if_neg h1] at hl
     rw [if_neg (by omega), if_neg h1]
     by_cases h2 : x = p.getD 0 0
     ·rw [if_pos (by omega), if_pos h2, if_pos (by omega)]; simp
     ·rw [if_neg h2] at hl
      rw [if_neg (by omega), if_neg h2]
      by_cases h3 : x ∈ p
      ·rw [if_pos ((toI_mem p x).2 h3), if_pos h3]; simp
      ·rw [if_neg h3] at hl
       rw [if_neg (fun h => h3 ((toI_mem p x).1 h)), if_neg h3, ← toI_snoc]
       exact hf x (by omega) h3 o (by omega)
  rw [loopF, one, Option.bind_some]
  have hl2 : (o ++ (addN d n m p x).map toI).length + (fl (addN d n m p) q (x + 1)).length ≤ 900 := by
   rw [fl, List.length_append] at hl
   rw [List.length_append, List.length_map]
   omega
  rw [loopF_tells B hf q (x + 1) _ (by omega) hl2, fl, List.map_append, List.append_assoc]
theorem walkF_tells {d : List (List Int)} {n : Nat} (B : Bt d n) : ∀ m k p, p ≠ [] → p.Nodup → (∀ x ∈ p, x < n) → p.length + m = n + 1 → m ≤ k → ∀ o, o.length + (pN (Ed d) n m p).length ≤ 900 → walkF d k (toI p) o = some (o ++ (pN (Ed d) n m p).map toI)
 | 0, k, p, hp, hd, hx, hl, hk, o, ho => by
  have := nodup_le n p hd hx
  omega
 | m + 1, k, p, hp, hd, hx, hl, hk, o, ho => by
  obtain ⟨k, rfl⟩ : ∃ q, k = q + 1 := ⟨k - 1, by omega⟩
  have h0 : 0 < p.length := List.length_pos_iff.2 hp
  have hlast := hx _ (getD_n (p := p) (i := p.length - 1) (by omega))
  have h4 := B.n4
  have hdl := B.hd
  rw [walkF, toI_len, toI_get, if_pos ⟨h0, by omega, by omega, by omega⟩, Int.toNat_natCast, B.hr _ hlast]
  rw [← addN_all B hp hx] at ho ⊢
  exact loopF_tells B (fun x hxn hxp o ho => walkF_tells B m k (p ++ [x]) (by simp) (List.nodup_append.2 ⟨hd, by simp, fun a ha b hb => by rw [List.mem_singleton.1 hb]; exact fun e => hxp (e ▸ ha)⟩) (fun y hy => by
   rcases List.mem_append.1 hy with h | h
   ·exact hx y h
   ·rw [List.mem_singleton.1 h]; exact hxn) (by simp; omega) (by omega) o ho) n 0 o (by omega) ho
theorem startsF_tells {d : List (List Int)} {n : Nat} (B : Bt d n) (k : Nat) (hk : n ≤ k) : ∀ q i o, i + q = n → o.length + (fl (fun i => pN (Ed d) n n [i]) q i).length ≤ 900 → startsF k d q i o = some (o ++ (fl (fun i => pN (Ed d) n n [i]) q i).map toI)
 | 0, i, o, hi, ho => by rw [startsF, fl]; simp
 | q + 1, i, o, hi, ho => by
  rw [fl, List.length_append] at ho
  have h1 := walkF_tells B n k [i] (by simp) (by simp) (fun x hx => by rw [List.mem_singleton.1 hx]; omega) (by simp; omega) hk o (by omega)
  rw [show toI [i] = [(i : Int)] from rfl] at h1
  rw [startsF, h1, Option.bind_some, startsF_tells B k hk q (i + 1) _ (by omega) (by rw [List.length_append, List.length_map]; omega), fl, List.map_append, List.append_assoc]
theorem lexI_toI : ∀ a b : List Nat, lexI (toI a) (toI b) = lexB a b
 | [], b => by cases b <;> rfl
 | x :: xs, [] => rfl
 | x :: xs, y :: ys => by
  show (if (x : Int) = (y : Int) then lexI (toI xs) (toI ys) else decide ((x : Int) < (y : Int))) = (if x = y then lexB xs ys else Nat.blt x y)
  rw [lexI_toI xs ys]
  by_cases e : x = y
  ·rw [if_pos e, if_pos (by omega)]
  ·rw [if_neg e, if_neg (by omega)]
   by_cases h : x < y
   ·rw [Nat.blt_eq.mpr h]; exact decide_eq_true (by omega)
   ·rw [decide_eq_false (by omega)]
    cases hb : Nat.blt x y with
    | false => rfl
    | true => exact absurd (Nat.blt_eq.mp hb) h
theorem befI_toI (a b : List Nat) : befI (toI a) (toI b) = befB a b := by
 unfold befI befB
 rw [toI_len, toI_len, lexI_toI]
 by_cases e : a.length = b.length
 ·rw [if_pos e, if_pos e]
 ·rw [if_neg e, if_neg e]
  by_cases h : a.length < b.length
  ·rw [Nat.blt_eq.mpr h]; exact decide_eq_true h
  ·rw [decide_eq_false h]
   cases hb : Nat.blt a.length b.length with
   | false => rfl
   | true => exact absurd (Nat.blt_eq.mp hb) h
theorem swp_toI (xs : List (List Nat)) (i j : Nat) : swp (xs.map toI) i j [] = (swp xs i j []).map toI := by
 unfold swp
 rw [map_getD, map_getD, List.map_set, List.map_set]
theorem sinkI_toI : ∀ j xs, sinkI j (xs.map toI) = (sinkN j xs).map toI
 | 0, xs => rfl
 | j + 1, xs => by
  rw [sinkI, sinkN, map_getD, map_getD, befI_toI, swp_toI]
  split
  ·exact sinkI_toI j _
  ·rfl
theorem sortI_toI : ∀ m k xs, sortI m k (xs.map toI) = (sortN m k xs).map toI
 | 0, k, xs => rfl
 | m + 1, k, xs => by rw [sortI, sortN, sinkI_toI, sortI_toI]
theorem Bt.edz {d : List (List Int)} {n : Nat} (B : Bt d n) : ∀ i, i < n → Ed d i i = false := fun i hi => by
 unfold Ed; rw [B.hz i hi]; rfl
/-- The circles of a book. -/
def circI (d : List (List Int)) (n : Nat) : List (List Int) := (circN (Ed d) n).map toI
theorem sorted_all (d : List (List Int)) (n : Nat) : sortI (((cN (Ed d) n).map toI).length - 1) 1 ((cN (Ed d) n).map toI) = circI d n := by
 rw [sortI_toI, List.length_map]; rfl
theorem circF_tells {c : List Int} {d : List (List Int)} (B : Bt d c.length) (k : Nat) (hk : 4 ≤ k) : circF k c d = some (circI d c.length) := by
 have F := circs_ok (Ed d) c.length B.n1 B.n4 B.edz
 have n4 := B.n4
 have hf : (fl (fun i => pN (Ed d) c.length c.length [i]) c.length 0).length ≤ 20 := F.few
 unfold circF
 rw [startsF_tells B k (by omega) c.length 0 [] (by omega) (by simp; omega), List.nil_append, Option.bind_some]
 rw [if_pos, show fl (fun i => pN (Ed d) c.length c.length [i]) c.length 0 = cN (Ed d) c.length from rfl, sorted_all]
 refine ⟨by rw [List.length_map]; exact F.few, fun x hx => ?_⟩
 obtain ⟨y, hy, rfl⟩ := List.mem_map.1 hx
 obtain ⟨i, _, _, hi⟩ := fl_mem _ _ hy
 have := pN_len _ _ _ _ _ hi
 rw [toI_len]
 simp at this
 omega
end Go.Proofs.Ythdncdfgonbfeaa.Circ
