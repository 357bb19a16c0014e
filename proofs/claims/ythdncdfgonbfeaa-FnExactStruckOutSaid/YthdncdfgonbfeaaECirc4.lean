/- slices.SortStableFunc over a list of at most twenty rows, with the program's comparison: the insertion sort's order; no other condition than that bound. -/
import Derived.Test.YthdncdfgonbfeaaECirc3
import Derived.WalkMore
import Derived.Outline
namespace Go.Proofs.Ythdncdfgonbfeaa.Circ
open Go.RowKit Go.Proofs.Ythdncdfgonbfeaa.QWalk Go.Proofs.YthdncdfgonbfeaaW.PrintWords Go.Proofs.YthdncdfgonbfeaaW.PrintLast Go.Proofs.YthdncdfgonbfeaaW.PrintMore
attribute [local go_sem] max2_int min2_int max_two min_two max_three min_three max_four min_four   -- for this text's walks alone
set_option linter.unusedVariables false
set_option linter.unusedSimpArgs false
set_option maxHeartbeats 8000000 in
set_option maxRecDepth 100000 in
theorem ins_none {w W : World} {v : Value} {xs : List (List Int)} (h : InvS w W v W xs) (a : Int) (h0 : 0 ≤ a) (h1 : a ≤ 1000) (b : Int) (hb : b ≤ a + 1) :
  Calls Try.prog 65 #[v, .int .i64 a, .int .i64 b, .func (.func 56) #[] #[]] W (PostS w W v xs) := by
 have HI := Aside0.mk h
 clear h
 obtain ⟨a1, ha1⟩ : ∃ q : Int, a + 1 = q := ⟨_, rfl⟩
 have haw : IntKind.i64.wrap (a + 1) = a1 := by rw [ha1, IntKind.wrap_i64]; omega
 have ht : decide (a1 < b) = false := decide_eq_false (by omega)
 go_enter Try.func65, Try.ntmps65
 go_wp2
 go_loopg [8] 0 (fun m v8 wr => v8 = .int .i64 a1 ∧ Aside0 (InvS w W v wr xs))
 case atStart => exact ⟨by first | rfl | (rw [haw]), HI⟩
 case round =>
  clear HI
  obtain ⟨rfl, HI⟩ := hrel
  go_wp2
  go_end0
  exact ⟨rfl, HI.out⟩
theorem ins_any {w W : World} {v : Value} {xs : List (List Int)} (h : InvS w W v W xs) (hl : xs.length ≤ 1000) (hx : ∀ x ∈ xs, x.length ≤ 1000) :
  Calls Try.prog 65 #[v, .int .i64 0, .int .i64 (xs.length : Int), .func (.func 56) #[] #[]] W (PostS w W v (sortI (xs.length - 1) 1 xs)) := by
 rcases Nat.eq_zero_or_pos xs.length with h0 | h0
 ·have : sortI (xs.length - 1) 1 xs = xs := by rw [h0]; rfl
  rw [this]
  exact ins_none h 0 (by omega) (by omega) _ (by omega)
 ·exact ins_calls h h0 hl hx
theorem InvS.trans {w W w1 w2 : World} {v : Value} {ys zs : List (List Int)} (h : InvS w W v w1 ys) (k : InvS w w1 v w2 zs) : InvS w W v w2 zs := ⟨k.rows, k.below, h.kept.then_ k.kept (fun _ hk => .inl hk)⟩
theorem InvS.here {w W w1 : World} {v : Value} {ys : List (List Int)} (h : InvS w W v w1 ys) : InvS w w1 v w1 ys := ⟨h.rows, h.below, Kept.refl _ _⟩
set_option maxHeartbeats 8000000 in
set_option maxRecDepth 100000 in
theorem stable_less {w W : World} {v : Value} {xs : List (List Int)} (h : InvS w W v W xs) (n : Nat) (hn : n = xs.length) (hl : n < 20) (hx : ∀ x ∈ xs, x.length ≤ 1000) :
  Calls Try.prog 63 #[v, .int .i64 (n : Int), .func (.func 56) #[] #[]] W (PostS w W v (sortI (n - 1) 1 xs)) := by
 have hc := ins_any h (by omega) hx
 rw [← hn] at hc
 have HC := Aside0.mk hc
 clear h hc hx hn
 have t1 : decide ((20 : Int) ≤ (n : Int)) = false := decide_eq_false (by omega)
 have t1b : decide (20 ≤ n) = false := decide_eq_false (by omega)
 have t2 : decide ((20 : Int) < (n : Int)) = false := decide_eq_false (by omega)
 have t2b : decide (20 < n) = false := decide_eq_false (by omega)
 go_enter Try.func63, Try.ntmps63
 go_wp2
 go_loopg [7, 8] 0 (fun m v7 v8 wr => v7 = .int .i64 0 ∧ v8 = .int .i64 20 ∧ Aside0 (wr = W))
 case atStart => exact ⟨rfl, rfl, ⟨rfl⟩⟩
 case round =>
  obtain ⟨rfl, rfl, HW⟩ := hrel
  obtain rfl := HW.out
  clear HW
  go_wp2_with (go_at_call 65; refine HC.out.mono ?_; rintro e w2 ⟨rfl, hI2⟩; have HI2 := Aside0.mk hI2; clear hI2)
  go_loopg [6] 0 (fun m v6 wr => v6 = .int .i64 20 ∧ Aside0 (wr = w2))
  case atStart => exact ⟨rfl, ⟨rfl⟩⟩
  case round =>
   obtain ⟨rfl, HW⟩ := hrel
   obtain rfl := HW.out
   clear HW
   go_wp2
   go_end0
   exact ⟨rfl, HI2.out⟩
set_option maxHeartbeats 8000000 in
set_option maxRecDepth 100000 in
theorem stable_20 {w W : World} {v : Value} {xs : List (List Int)} (h : InvS w W v W xs) (hn : xs.length = 20) (hx : ∀ x ∈ xs, x.length ≤ 1000) :
  Calls Try.prog 63 #[v, .int .i64 20, .func (.func 56) #[] #[]] W (PostS w W v (sortI 19 1 xs)) := by
 have hc := ins_any h (by omega) hx
 rw [hn] at hc
 have HC : Aside0 (Calls Try.prog 65 #[v, .int .i64 0, .int .i64 20, .func (.func 56) #[] #[]] W (PostS w W v (sortI 19 1 xs))) := ⟨hc⟩
 clear h hc hx hn
 go_enter Try.func63, Try.ntmps63
 go_wp2
 go_loopg [7, 8] 1 (fun m v7 v8 wr => ∃ a b : Int, v7 = .int .i64 a ∧ v8 = .int .i64 b ∧ Aside0 ((m = 1 ∧ a = 0 ∧ b = 20 ∧ wr = W) ∨ (m = 0 ∧ a = 20 ∧ b = 40 ∧ InvS w W v wr (sortI 19 1 xs))))
 case atStart => exact ⟨0, 20, rfl, rfl, ⟨.inl ⟨rfl, rfl, rfl, rfl⟩⟩⟩
 case round =>
  obtain ⟨a, b, rfl, rfl, HQ⟩ := hrel
  rcases HQ.out with ⟨rfl, rfl, rfl, rfl⟩ | ⟨rfl, rfl, rfl, hI⟩
  ·clear HQ
   go_wp2_with (go_at_call 65; refine HC.out.mono ?_; rintro e w2 ⟨rfl, hI2⟩; have HI2 := Aside0.mk hI2; clear hI2)
   go_roundg 0
   case measure => omega
   case rel => exact ⟨20, 40, by first | rfl | go_num, by first | rfl | go_num, ⟨.inr ⟨rfl, rfl, rfl, HI2.out⟩⟩⟩
  ·clear HQ
   have HD := Aside0.mk (ins_none hI.here 20 (by omega) (by omega) 20 (by omega))
   have HI := Aside0.mk hI
   clear hI
   go_wp2_with (go_at_call 65; refine HD.out.mono ?_; rintro e w2 ⟨rfl, hI2⟩; have HI2 := Aside0.mk (HI.out.trans hI2); clear hI2)
   go_loopg [6] 0 (fun m v6 wr => v6 = .int .i64 20 ∧ Aside0 (wr = w2))
   case atStart => exact ⟨rfl, ⟨rfl⟩⟩
   case round =>
    obtain ⟨rfl, HW⟩ := hrel
    obtain rfl := HW.out
    clear HW
    go_wp2
    go_end0
    exact ⟨rfl, HI2.out⟩
set_option maxHeartbeats 8000000 in
set_option maxRecDepth 100000 in
/-- The sort. -/
theorem sort_calls {w W : World} {v : Value} {xs : List (List Int)} (h : InvS w W v W xs) (hl : xs.length ≤ 20) (hx : ∀ x ∈ xs, x.length ≤ 1000) :
  Calls Try.prog 55 #[v, .func (.func 56) #[] #[]] W (PostS w W v (sortI (xs.length - 1) 1 xs)) := by
 obtain ⟨A, c, rfl⟩ := Kd.S_slice h.rows
 obtain ⟨n, hn⟩ : ∃ n, n = xs.length := ⟨_, rfl⟩
 have hc : Calls Try.prog 63 #[.slice A n c, .int .i64 (n : Int), .func (.func 56) #[] #[]] W (PostS w W (.slice A n c) (sortI (n - 1) 1 xs)) := by
  rw [← hn] at h
  by_cases h20 : n = 20
  ·subst h20
   exact stable_20 h hn.symm hx
  ·exact stable_less h n hn (by omega) hx
 rw [← hn]
 have HC := Aside0.mk hc
 clear hc h hn hl hx
 go_enter Try.func55, Try.ntmps55
 go_wp2_with (go_at_call 63; refine HC.out.mono ?_; rintro e w2 ⟨rfl, hI2⟩; have HI2 := Aside0.mk hI2; clear hI2)
 go_end0
 exact ⟨rfl, HI2.out⟩
end Go.Proofs.Ythdncdfgonbfeaa.Circ
