/- The circles of at most four banks, told by who owes whom: what is true of all of them was looked at for every such table; no condition. -/
import Derived.Test.YthdncdfgonbfeaaECirc5
namespace Go.Proofs.Ythdncdfgonbfeaa.Circ
set_option linter.unusedVariables false
set_option linter.unusedSimpArgs false
/-- What f tells of j, j + 1, ..: m of them. -/
def fl {α : Type} (f : Nat → List α) : Nat → Nat → List α
 | 0, _ => []
 | m + 1, j => f j ++ fl f m (j + 1)
/-- The circles that begin with p: E tells who owes whom, m banks may still come. -/
def pN (E : Nat → Nat → Bool) (n : Nat) : Nat → List Nat → List (List Nat)
 | 0, _ => []
 | m + 1, p => (if (Nat.ble 2 p.length && E (p.getD (p.length - 1) 0) (p.getD 0 0)) = true then [p] else []) ++
   fl (fun j => if (Nat.blt (p.getD 0 0) j && E (p.getD (p.length - 1) 0) j && !p.contains j) = true then pN E n m (p ++ [j]) else []) n 0
def cN (E : Nat → Nat → Bool) (n : Nat) : List (List Nat) := fl (fun i => pN E n n [i]) n 0
def lexB : List Nat → List Nat → Bool
 | x :: xs, y :: ys => if x = y then lexB xs ys else Nat.blt x y
 | _, _ => false
def befB (a b : List Nat) : Bool := if a.length = b.length then lexB a b else Nat.blt a.length b.length
def sinkN : Nat → List (List Nat) → List (List Nat)
 | 0, xs => xs
 | j + 1, xs => if befB (xs.getD (j + 1) []) (xs.getD j []) = true then sinkN j (swp xs (j + 1) j []) else xs
def sortN : Nat → Nat → List (List Nat) → List (List Nat)
 | 0, _, xs => xs
 | m + 1, k, xs => sortN m (k + 1) (sinkN k xs)
def circN (E : Nat → Nat → Bool) (n : Nat) : List (List Nat) := sortN ((cN E n).length - 1) 1 (cN E n)
/-- The tables of n banks, by number. -/
def edge (n m i j : Nat) : Bool := !(Nat.beq i j) && m.testBit ((n - 1) * i + if Nat.blt j i = true then j else j - 1)
/-- For all k below n. -/
def al (f : Nat → Bool) : Nat → Bool
 | 0 => true
 | n + 1 => f n && al f n
def an (f : Nat → Bool) : Nat → Bool
 | 0 => false
 | n + 1 => f n || an f n
def cOk (E : Nat → Nat → Bool) (n : Nat) (c : List Nat) : Bool :=
 Nat.ble 2 c.length && Nat.ble c.length 4 && al (fun k => Nat.blt (c.getD k 0) n && Nat.ble (c.getD 0 0) (c.getD k 0) && E (c.getD k 0) (c.getD ((k + 1) % c.length) 0) && al (fun q => !(Nat.beq (c.getD q 0) (c.getD k 0))) k) c.length
def stuck (E : Nat → Nat → Bool) (n S : Nat) : Bool := an S.testBit n && al (fun i => !S.testBit i || an (fun j => S.testBit j && E j i) n) n
def setOf : List Nat → Nat
 | [] => 0
 | x :: xs => setOf xs ||| 2 ^ x
def nex : List (List Nat) → Bool
 | x :: y :: l => decide (y ≠ x) && nex (y :: l)
 | _ => true
def chk (n m : Nat) : Bool :=
 Nat.ble (cN (edge n m) n).length 20 && (circN (edge n m) n).all (cOk (edge n m) n) && nex (circN (edge n m) n) &&
  (match circN (edge n m) n with
   | [] => al (fun S => !stuck (edge n m) n S) (2 ^ n)
   | c :: _ => stuck (edge n m) n (setOf c))
def allB (f : Nat → Bool) : Nat → Nat → Bool
 | 0, _ => true
 | m + 1, a => f a && allB f m (a + 1)
theorem allB_at {f : Nat → Bool} : ∀ m a, allB f m a = true → ∀ x, a ≤ x → x < a + m → f x = true
 | 0, a, _, x, h1, h2 => by omega
 | m + 1, a, h, x, h1, h2 => by
  rw [allB, Bool.and_eq_true] at h
  by_cases e : x = a
  ·rw [e]; exact h.1
  ·exact allB_at m (a + 1) h.2 x (by omega) (by omega)
theorem chk1 : allB (chk 1) 1 0 = true := by decide +kernel
theorem chk2 : allB (chk 2) 4 0 = true := by decide +kernel
theorem chk3 : allB (chk 3) 64 0 = true := by decide +kernel
theorem chk4a : allB (chk 4) 1024 0 = true := by decide +kernel
theorem chk4b : allB (chk 4) 1024 1024 = true := by decide +kernel
theorem chk4c : allB (chk 4) 1024 2048 = true := by decide +kernel
theorem chk4d : allB (chk 4) 1024 3072 = true := by decide +kernel
end Go.Proofs.Ythdncdfgonbfeaa.Circ
