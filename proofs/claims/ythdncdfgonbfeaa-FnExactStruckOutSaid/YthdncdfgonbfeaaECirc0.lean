/- impl.circles' walk as a plain function, and what is true around the closure that walks (its captured variables, the rows told so far); no condition. -/
import Derived.Test.YthdncdfgonbfeaaEQWalkx1
import Derived.Test.YthdncdfgonbfeaaEQCmpx1
namespace Go.Proofs.Ythdncdfgonbfeaa.Circ
open Go.RowKit Go.Proofs.Ythdncdfgonbfeaa.QWalk Go.Proofs.YthdncdfgonbfeaaW.PrintWords Go.Proofs.YthdncdfgonbfeaaW.PrintLast Go.Proofs.YthdncdfgonbfeaaW.PrintMore
set_option linter.unusedVariables false
set_option linter.unusedSimpArgs false
theorem evPos {α : Type} {c : Prop} [Decidable c] {f g : Nat → Option α} {r : α} (h : c) (e : Ev f r) : Ev (fun k => if c then f k else g k) r := by
 simp only [if_pos h]; exact e
theorem evNeg {α : Type} {c : Prop} [Decidable c] {f g : Nat → Option α} {r : α} (h : ¬ c) (e : Ev g r) : Ev (fun k => if c then f k else g k) r := by
 simp only [if_neg h]; exact e
theorem evIs {α : Type} {g : Nat → Option α} {r r' : α} (e : Ev g r) (h : r = r') : Ev g r' := h ▸ e
/-- What a number does, it does in one step more. -/
theorem w64 {j n : Nat} (h : j < n) (hn : n ≤ 9223372036854775807) : wrap64 ((j : Int) + 1) = ((j + 1 : Nat) : Int) := by unfold wrap64; omega
theorem rd_nat (xs : List Int) (j : Nat) : rd xs (j : Int) = xs.getD j 0 := by unfold rd; rw [Int.toNat_natCast]
theorem getD_mem {xs : List Int} {i : Nat} (h : i < xs.length) : xs.getD i 0 ∈ xs := by
 rw [List.getD_eq_getElem?_getD, List.getElem?_eq_getElem h]; exact List.getElem_mem h
theorem index_l0 (xs : List Int) (x : Int) (hl : xs.length ≤ 1000) : ∀ (m i : Nat), i + m = xs.length → (∀ j, j < i → xs.getD j 0 ≠ x) → ∃ r : Int, Ev (fun k => slices_Index_int_int.l0 k xs x (xs.length : Int) (i : Int)) r ∧ (0 ≤ r ↔ x ∈ xs)
 | 0, i, h, hn => by
  refine ⟨-1, Ev.step (fun k => by rw [slices_Index_int_int.l0]) (evNeg (by omega) (Ev.now _)), ⟨fun a => by omega, fun a => ?_⟩⟩
  obtain ⟨j, hj, e⟩ := List.mem_iff_getElem.1 a
  exact absurd (by rw [List.getD_eq_getElem?_getD, List.getElem?_eq_getElem hj]; exact e) (hn j (by omega))
 | m + 1, i, h, hn => by
  by_cases e : xs.getD i 0 = x
  ·refine ⟨(i : Int), Ev.step (fun k => by rw [slices_Index_int_int.l0]) (evPos (by omega) (evPos (by omega) (evPos (by omega) (evPos (by rw [rd_nat]; exact e.symm) (Ev.now _))))), ⟨fun _ => ?_, fun _ => by omega⟩⟩
   rw [← e]; exact getD_mem (by omega)
  ·obtain ⟨r, hr, hi⟩ := index_l0 xs x hl m (i + 1) (by omega) (fun j hj => by
    by_cases e2 : j = i
    ·subst e2; exact e
    ·exact hn j (by omega))
   refine ⟨r, Ev.step (fun k => by rw [slices_Index_int_int.l0]) (evPos (by omega) (evPos (by omega) (evPos (by omega) (evNeg (by rw [rd_nat]; exact fun a => e a.symm) ?_)))), hi⟩
   rw [w64 (show i < xs.length by omega) (by omega)]
   exact hr
theorem contains_f (xs : List Int) (x : Int) (hl : xs.length ≤ 1000) : Ev (fun k => slices_Contains_int_int.f k xs x) (decide (x ∈ xs)) := by
 obtain ⟨r, hr, hi⟩ := index_l0 xs x hl xs.length 0 (by omega) (fun j hj => by omega)
 refine Ev.congr (fun k => by unfold slices_Contains_int_int.f; rfl) (Ev.bind (Ev.congr (fun k => by unfold slices_Index_int_int.f; rfl) hr) (evIs (Ev.now _) ?_))
 exact decide_eq_decide.2 hi
theorem info3 : (Try.prog.info? 3).map (fun i => (i.zero, i.size, i.bytes)) = some (some (.int .i64 0), 1, 8) := by kernel_rfl
theorem info23 : (Try.prog.info? 23).map (fun i => (i.zero, i.size, i.bytes)) = some (some (.slice none 0 0), 1, 24) := by kernel_rfl
/-- One bank's row, from x on: m banks are left. -/
def loopF (rec_ : List Int → List (List Int) → Option (List (List Int))) (row path : List Int) : Nat → Nat → List (List Int) → Option (List (List Int))
 | 0, _, o => some o
 | m + 1, x, o => (if row.getD x 0 = 0 then some o else if (x : Int) < path.getD 0 0 then some o else if (x : Int) = path.getD 0 0 then (if o.length < 1000 then some (o ++ [path]) else none) else if (x : Int) ∈ path then some o else rec_ (path ++ [(x : Int)]) o).bind fun o1 => loopF rec_ row path m (x + 1) o1
/-- The walk from a path on: what is told behind what was told. -/
def walkF (d : List (List Int)) : Nat → List Int → List (List Int) → Option (List (List Int))
 | 0, _, _ => none
 | k + 1, path, o => if 0 < path.length ∧ path.length < 1000 ∧ 0 ≤ path.getD (path.length - 1) 0 ∧ path.getD (path.length - 1) 0 < (d.length : Int) then loopF (walkF d k) (d.getD (path.getD (path.length - 1) 0).toNat []) path (d.getD (path.getD (path.length - 1) 0).toNat []).length 0 o else none
/-- A path is asked for a bank. -/
theorem contains_calls {w : World} {A : Option Addr} {c : Nat} {xs : List Int} (hr : Kd.C (Kd.int .i64) w A xs.length xs) (hc : xs.length ≤ c) (hl : xs.length ≤ 1000) (x : Int) (b : Bool) (hb : decide (x ∈ xs) = b) :
  Calls Try.prog 34 #[.slice A xs.length c, .int .i64 x] w fun e w' => e = .returned (.bool b) ∧ Drawn0 w w' := by
 obtain ⟨k, hk⟩ := Ev.rounds (contains_f xs x hl)
 rw [← hb]
 exact slices_Contains_int_int.calls k A c xs x _ w hr hc hk
/-- A call of a function value that has captured variables. -/
theorem goesV_ {P : Program} {ops : Array Oper} {Q : Exit → Act → World → Prop} {oi : Oper} {N : Option Tmp} {a : Act} {w : World} {K : Act → World → Prop} {f : FuncId} {fn : Func} {u : Operand} {bs : Array Value} {ars : Array Operand} {ts : Array TypeId} (hf : P.funcs[f]? = some fn) (hname : (fn.name == "runtime.NumGoroutine") = false) (hb : fn.body.isSome = true) (args : Array Value)
  (hw : Region.wanted oi (yielded ops a.tmps) = true) (hN : oi.dst = N) (hop : oi.op = .call { callee := .value u, args := ars, argTypes := ts }) (hu : a.eval u = .func (.func f) #[] bs) (hargs : ars.map a.eval ++ bs = args)
  (h : Calls P f args w fun e w' => ∃ v, e = .returned v ∧ K (a.put N v) w') : if Region.wanted oi (yielded ops a.tmps) = true then Oper.wp P oi a w K Q else K (a.put N undef) w := by
 refine call_ f args hw hN ?_ h
 have he := enters_ hf hname hb args w
 unfold execOp
 simp [hop, hu, resolve, Deferred.ofValue, invoke, hargs, he]
/-- The closure's value. -/
def fv (gb go gw : Nat) : Value := .func (.func 54) #[] #[.pointer (some ⟨gb, 0, none⟩), .pointer (some ⟨go, 0, none⟩), .pointer (some ⟨gw, 0, none⟩)]
/-- What holds between the closure's steps: the captured variables' blocks, and the rows told so far. -/
structure Env (w : World) (gb go gw : Nat) (s0 s1 : Value) (W : World) (vo : Value) (o : List (List Int)) : Prop where
 below : Below w.heap.size w W
 bk : W.heap[gb]? = some (.cells #[s0, s1] 26 (0, 0))
 ok : W.heap[go]? = some (.cells #[vo] 24 (0, 0))
 wk : W.heap[gw]? = some (.cells #[fv gb go gw] 67 (0, 0))
 rows : Kd.S (Kd.slice 3 (Kd.int .i64)) 23 W w.heap.size (fun _ => True) vo o
 gb_ : w.heap.size ≤ gb
 go_ : w.heap.size ≤ go
 gw_ : w.heap.size ≤ gw
/-- Rows of whole numbers stay as they are. -/
structure Fr (W W1 : World) : Prop where
 at_ : ∀ (k : Nat) (cells : Array Value), W.heap[k]? = some (Obj.cells cells 3 (0, 0)) → W1.heap[k]? = some (Obj.cells cells 3 (0, 0))
theorem Fr.refl (W : World) : Fr W W := ⟨fun _ _ h => h⟩
theorem Fr.trans {a b c : World} (h : Fr a b) (k : Fr b c) : Fr a c := ⟨fun i cs hi => k.at_ i cs (h.at_ i cs hi)⟩
theorem Fr.below {W W' : World} (h : Below W.heap.size W W') : Fr W W' := ⟨fun k cs hk => (h.block k (blk_lt hk)).trans hk⟩
/-- What a call of the closure leaves. -/
def Post (w : World) (gb go gw : Nat) (s0 s1 : Value) (W : World) (r : List (List Int)) (e : Ending) (w' : World) : Prop := e = .returned (.tuple #[]) ∧ ∃ vo' : Value, Env w gb go gw s0 s1 w' vo' r ∧ Fr W w'
section
variable {w : World} {gb go gw : Nat} {s0 s1 : Value} {W W1 : World} {vo vp : Value} {o : List (List Int)} {path : List Int}
theorem Env.step (h : Env w gb go gw s0 s1 W vo o) (hb : Below W.heap.size W W1) : Env w gb go gw s0 s1 W1 vo o where
 below := below_then h.below h.below.size hb
 bk := blk_below h.bk hb
 ok := blk_below h.ok hb
 wk := blk_below h.wk hb
 rows := Kd.S_below h.rows hb
 gb_ := h.gb_
 go_ := h.go_
 gw_ := h.gw_
theorem Env.drewN (h : Env w gb go gw s0 s1 W vo o) (n : Nat) : Env w gb go gw s0 s1 (W.drewN n) vo o := h.step (pw_below_drewN (Below.refl _ _) n)
/-- A row of whole numbers over such a step. -/
theorem row_fr {base : Nat} {ok : Nat → Prop} (h : Kd.R (Kd.int .i64) 3 W base ok vp path) (hf : Fr W W1) : Kd.R (Kd.int .i64) 3 W1 base (fun k => some k = vp.ownBlock) vp path := by
 have ht := Kd.R_tight rfl h
 refine Kd.R_step ht (fun k hk hlt => ?_)
 obtain ⟨cells, hc⟩ := Kd.R_typed h k hk.symm
 rw [hc]
 exact hf.at_ k cells hc
/-- A row is told behind the others. -/
theorem Env.told (h : Env w gb go gw s0 s1 W vo o) (hb : Below W.heap.size W W1) {w1 : World} {v1 : Value} {o1 : List (List Int)} (hS : Kd.S (Kd.slice 3 (Kd.int .i64)) 23 w1 w.heap.size (fun _ => True) v1 o1) (hB : Below w.heap.size w w1) (hg : W1.grownBy w1 vo.ownBlock) :
  Env w gb go gw s0 s1 (w1.setCell ⟨go, 0, none⟩ v1) v1 o1 ∧ Fr W (w1.setCell ⟨go, 0, none⟩ v1) := by
 have hr := Kd.S_below h.rows hb
 have e1 := blk_grown (blk_below h.bk hb) hg (Kd.S_ne hr (blk_below h.bk hb) (by decide))
 have e2 := blk_grown (blk_below h.ok hb) hg (Kd.S_ne hr (blk_below h.ok hb) (by decide))
 have e3 := blk_grown (blk_below h.wk hb) hg (Kd.S_ne hr (blk_below h.wk hb) (by decide))
 have n1 : gb ≠ go := fun e => by rw [e, e2] at e1; injection e1 with e1; injection e1 with _ e1; exact absurd e1 (by decide)
 have n2 : gw ≠ go := fun e => by rw [e, e2] at e3; injection e3 with e3; injection e3 with _ e3; exact absurd e3 (by decide)
 refine ⟨⟨below_set hB h.go_, blk_far e1 n1 _, blk_put (cs := #[vo]) e2 0 _ rfl, blk_far e3 n2 _, ?_, h.gb_, h.go_, h.gw_⟩, ⟨?_⟩⟩
 ·exact Kd.S_set hS e2 (by decide) 0 v1
 ·intro k cs hk
  have k1 := (hb.block k (blk_lt hk)).trans hk
  have k2 := blk_grown k1 hg (Kd.S_ne hr k1 (by decide))
  refine blk_far k2 (fun e => ?_) v1
  rw [e, e2] at k2
  injection k2 with k2
  injection k2 with _ k2
  exact absurd k2 (by decide)
theorem told_blk (h : Env w gb go gw s0 s1 W vo o) (hb : Below W.heap.size W W1) {w1 : World} (hg : W1.grownBy w1 vo.ownBlock) : w1.heap[go]? = some (.cells #[vo] 24 (0, 0)) :=
 blk_grown (blk_below h.ok hb) hg (Kd.S_ne (Kd.S_below h.rows hb) (blk_below h.ok hb) (by decide))
theorem row_lower {A : Value} (h : Env w gb go gw s0 s1 W vo o) (hb : Below W.heap.size W W1) (hr : Kd.R (Kd.int .i64) 3 W1 W.heap.size (fun _ => True) A path) : Kd.R (Kd.int .i64) 3 W1 w.heap.size (fun k => some k = A.ownBlock) A path :=
 Kd.R_lower (Kd.R_tight rfl hr) h.below.size
/-- What telling a new row asks. -/
theorem told_parts {A : Option Addr} {n c : Nat} (h : Env w gb go gw s0 s1 W vo o) (hb : Below W.heap.size W W1) (hr : Kd.R (Kd.int .i64) 3 W1 W.heap.size (fun _ => True) (.slice A n c) path) :
  (Kd.slice 3 (Kd.int .i64)).M W1 w.heap.size (fun k => some k = (Value.slice A n c).ownBlock) path [.slice A n c] ∧ (∀ k, some k = (Value.slice A n c).ownBlock → True ∧ some k ≠ vo.ownBlock) ∧
   Kd.S (Kd.slice 3 (Kd.int .i64)) 23 W1 w.heap.size (fun k => True ∧ ¬ some k = (Value.slice A n c).ownBlock) vo o ∧ Below w.heap.size w W1 ∧ w.heap.size ≤ W1.heap.size := by
 have hbw := below_then h.below h.below.size hb
 refine ⟨Kd.M_row (Kd.R_lower (Kd.R_tight rfl hr) h.below.size), fun k hk => ⟨trivial, fun e => ?_⟩, ?_, hbw, hbw.size⟩
 ·have h1 := Kd.R_base hr k hk.symm
  have h2 := Kd.S_lt h.rows k e.symm
  omega
 ·refine Kd.S_mono (Kd.S_old h.rows hb) (fun k hk => ⟨trivial, fun e => ?_⟩)
  have h1 := Kd.R_base hr k e.symm
  have := hk.2
  omega
/-- Two blocks of two types are two. -/
theorem ne_types {W : World} {a b t u : Nat} {cs ds : Array Value} (h : W.heap[a]? = some (.cells cs t (0, 0))) (k : W.heap[b]? = some (.cells ds u (0, 0))) (hn : t ≠ u) : a ≠ b := fun e => by
 rw [e, k] at h
 injection h with h
 injection h with _ h
 exact hn h.symm
/-- The variables as they are made. -/
theorem Env.made {w w1 w2 w3 w4 : World} {gb go gw : Nat} {s0 s1 v : Value} (HB1 : Below w.heap.size w w1) (BK1 : w1.heap[gb]? = some (.cells #[s0, s1] 26 (0, 0))) (GB : gb = w.heap.size) (HB2 : Below w1.heap.size w1 w2) (HO : Kd.S (Kd.slice 3 (Kd.int .i64)) 23 w2 w1.heap.size (fun _ => True) v [])
  (HB3 : Below w2.heap.size w2 w3) (BK3 : w3.heap[go]? = some (.cells #[.slice none 0 0] 24 (0, 0))) (GO : go = w2.heap.size) (HB4 : Below (w3.setCell ⟨go, 0, none⟩ v).heap.size (w3.setCell ⟨go, 0, none⟩ v) w4) (BK4 : w4.heap[gw]? = some (.cells #[.nilFunc] 67 (0, 0))) (GW : gw = (w3.setCell ⟨go, 0, none⟩ v).heap.size) :
  Env w gb go gw s0 s1 (w4.setCell ⟨gw, 0, none⟩ (fv gb go gw)) v [] := by
 have b1 := blk_below (blk_below BK1 HB2) HB3
 have n1 := ne_types b1 BK3 (by decide)
 have b2 := blk_below (blk_far (p := ⟨go, 0, none⟩) b1 n1 v) HB4
 have c1 := blk_below (blk_put (cs := #[.slice none 0 0]) BK3 0 v rfl) HB4
 have n2 := ne_types b2 BK4 (by decide)
 have n3 := ne_types c1 BK4 (by decide)
 have l2 := below_then HB1 HB1.size HB2
 have l3 := below_then l2 l2.size HB3
 have ge : w.heap.size ≤ go := by rw [GO]; exact l2.size
 have l4 := below_set (j := 0) (v := v) l3 ge
 have gew : w.heap.size ≤ gw := by rw [GW]; exact l4.size
 have l5 := below_then l4 l4.size HB4
 refine ⟨below_set l5 gew, blk_far b2 n2 _, blk_far c1 n3 _, blk_put (cs := #[.nilFunc]) BK4 0 _ rfl, ?_, by rw [GB]; exact Nat.le_refl _, ge, gew⟩
 have S3 := Kd.S_lower (Kd.S_below HO HB3) HB1.size
 have S4 := Kd.S_below (Kd.S_set S3 BK3 (by decide) 0 v) HB4
 exact Kd.S_set S4 BK4 (by decide) 0 _
end
end Go.Proofs.Ythdncdfgonbfeaa.Circ
