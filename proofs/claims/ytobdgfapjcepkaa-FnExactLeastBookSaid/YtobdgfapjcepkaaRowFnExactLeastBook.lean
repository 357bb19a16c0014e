/- The row of FnExactLeastBook: for every book of any lengths and numbers that can lie in memory the law answers true and leaves its arguments as they were; no condition. -/
import Derived.Test.YtobdgfapjcepkaaRows
import Derived.Test.YtobdgfapjcepkaaPureFnExactLeastBook
import Derived.WalkKit
import Derived.ProofKit
import Derived.OpenShut
import Derived.ShutString
import Derived.ChangeOld
import Derived.Below
import Derived.SizedLaws
import Derived.Lib.SmallJoins
import Derived.Deep.Matrix
import Derived.ChangeSlices
namespace Go.Proofs.Ytobdgfapjcepkaa.fnExactLeastBook
open Go.ChangeShapes Go.WideShapes Go.ChangeAt Go.RowKit Go.Proofs.YtobdgfapjcepkaaW.PrintWords Go.Proofs.YtobdgfapjcepkaaW.PrintLast Go.Proofs.YtobdgfapjcepkaaW.PrintMore
set_option linter.unusedVariables false
theorem own : ownKnob Try.prog.godebug = none := by kernel_rfl
theorem laidOut : laidOutB Try.prog = true := by kernel_rfl
theorem cellsK : Try.prog.cellsOf 34 = 2 := by kernel_rfl
theorem cellsS : Try.prog.cellsOf 23 = 1 := by kernel_rfl
theorem cellsI : Try.prog.cellsOf 3 = 1 := by kernel_rfl
theorem getD_take (zs : List Int) (l j : Nat) (h : j < l) : (zs.take l).getD j 0 = zs.getD j 0 := by
  rw [List.getD_eq_getElem?_getD, List.getD_eq_getElem?_getD, List.getElem?_take_of_lt h]
/-- A book that comes in: its cash and its rows of debts. -/
theorem book_open {H : Type} {enc : TypeId × Value → H} {w : World} {base : Nat} {held : Bool} {r : Reach} {b0 : Nat} {v : Value} {d : DataW H} {p : List MemPlace} (hv : Value.okWide Try.prog w r b0 34 v) (h : DataW.Trod enc Try.prog w base (fun _ => true) held 34 v d p) :
    ∃ (A0 : Option Addr) (c0 : Nat) (l0 : List Int) (A1 : Option Addr) (c1 : Nat) (l1 : List (List Int)), v = .agg #[.slice A0 l0.length c0, .slice A1 l1.length c1] ∧ l0.length ≤ c0 ∧ l1.length ≤ c1 ∧
      Kd.C (Kd.int .i64) w A0 l0.length l0 ∧ Kd.C (Kd.slice 3 (Kd.int .i64)) w A1 l1.length l1 ∧ l0.length ≤ maxLen ∧ l1.length ≤ maxLen ∧ (∀ x ∈ l0, (Lit.int .i64 x).wf = true) ∧ (∀ r ∈ l1, r.length ≤ maxLen ∧ ∀ x ∈ r, (Lit.int .i64 x).wf = true) := by
  obtain ⟨v0, v1, y0, y1, m, rfl, rfl, rfl, hy0, hy1⟩ := Go.Joins.open_agg2 Try.underlying34 (by kernel_rfl) cellsK hv h
  have e0 : ∃ (A0 : Option Addr) (c0 : Nat) (l0 : List Int), v0 = .slice A0 l0.length c0 ∧ l0.length ≤ c0 ∧ Kd.C (Kd.int .i64) w A0 l0.length l0 ∧ l0.length ≤ maxLen ∧ (∀ x ∈ l0, (Lit.int .i64 x).wf = true) := by
    rcases open_ints Try.underlying23 Try.underlying3 cellsI hy0 with ⟨hcs, _⟩ | ⟨x, l, c, zs, hcs, _, hl, hm, hz, _, hcell, hwz⟩
    · simp only [List.cons.injEq, and_true] at hcs
      exact ⟨none, 0, [], hcs, Nat.le_refl _, Kd.C_of_reads (d := (0 : Int)) (h1 := fun _ => rfl) ⟨rfl, by simp, fun h => absurd h (by simp)⟩, by simp, by simp⟩
    · simp only [List.cons.injEq, and_true] at hcs
      simp only [if_true] at hz
      have hlen : (zs.take l).length = l := by simp; omega
      refine ⟨some x, c, zs.take l, by rw [hlen]; exact hcs, by omega, Kd.C_of_reads (d := (0 : Int)) (h1 := fun _ => rfl) ⟨rfl, by unfold maxLen at hm; omega, fun _ => ⟨x, rfl, fun j hj => ?_⟩⟩, by omega, fun y hy => hwz y (List.mem_of_mem_take hy)⟩
      rw [getD_take zs l j (by omega)]
      exact hcell j (by omega)
  have e1 : ∃ (A1 : Option Addr) (c1 : Nat) (l1 : List (List Int)), v1 = .slice A1 l1.length c1 ∧ l1.length ≤ c1 ∧ Kd.C (Kd.slice 3 (Kd.int .i64)) w A1 l1.length l1 ∧ l1.length ≤ maxLen ∧ (∀ r ∈ l1, r.length ≤ maxLen ∧ ∀ x ∈ r, (Lit.int .i64 x).wf = true) := by
    rcases Go.Deep.open_int_rows Try.underlying24 Try.underlying23 Try.underlying3 cellsS cellsI hy1 with ⟨hcs, _⟩ | ⟨a, len, cap, AA, L, C, Z, hcs, _, hl, hm, _, hrows⟩
    · simp only [List.cons.injEq, and_true] at hcs
      exact ⟨none, 0, [], hcs, Nat.le_refl _, ⟨rfl, by simp, fun h => absurd h (by simp)⟩, by simp, by simp⟩
    · simp only [List.cons.injEq, and_true] at hcs
      have hlen : ((List.range len).map fun r => (Z r).take (L r)).length = len := by simp
      refine ⟨some a, cap, (List.range len).map fun r => (Z r).take (L r), by rw [hlen]; exact hcs, by omega, ⟨rfl, by unfold maxLen at hm; omega, fun _ => ⟨a, rfl, fun j q hj => ?_⟩⟩, by omega, fun q hq => ?_⟩
      · have hjl : j < len := by
          have := (List.getElem?_eq_some_iff.1 hj).1
          omega
        rw [List.getElem?_map, List.getElem?_range hjl] at hj
        simp only [Option.map_some, Option.some.injEq] at hj
        subst hj
        obtain ⟨h1, h2, h3, h4, h5, h6, h7⟩ := hrows j (by omega)
        have hlq : ((Z j).take (L j)).length = L j := by simp; omega
        refine ⟨[.slice (AA j) (L j) (C j)], rfl, ⟨AA j, C j, by rw [hlq], by omega, Kd.C_of_reads (d := (0 : Int)) (h1 := fun _ => rfl) ⟨rfl, by unfold maxLen at h3; omega, fun hp => ?_⟩⟩, fun i u hi => ?_⟩
        · cases hA : AA j with
          | none => have := h6 hA; omega
          | some a' =>
            refine ⟨a', rfl, fun i hi => ?_⟩
            rw [getD_take _ _ _ (by omega)]
            exact (h7 a' hA).2 i (by omega)
        · cases i with
          | zero => simp only [List.getElem?_cons_zero, Option.some.injEq] at hi; subst hi; simpa [Kd.slice] using h1
          | succ i => simp at hi
      · obtain ⟨j, hj, rfl⟩ := List.mem_map.1 hq
        have hjl := List.mem_range.1 hj
        obtain ⟨h1, h2, h3, h4, h5, h6, h7⟩ := hrows j (by omega)
        exact ⟨by simp; omega, fun y hy => h5 y (List.mem_of_mem_take hy)⟩
  obtain ⟨A0, c0, l0, rfl, x1, x2, x3, x4⟩ := e0
  obtain ⟨A1, c1, l1, rfl, z1, z2, z3, z4⟩ := e1
  exact ⟨A0, c0, l0, A1, c1, l1, rfl, x1, z1, x2, z2, x3, z3, x4, z4⟩
set_option maxRecDepth 100000 in
theorem lifted (os : Os) (started : os.Started) (H : Type) (enc : TypeId × Value → H) :
    ReturnsInHanded {} Try.checked os 11 .any (Rows.fnExactLeastBookSpec.pre6 enc Try.prog Try.f11 Rows.fnExactLeastBookRow.domain false) (Rows.fnExactLeastBookSpec.post enc Try.prog Try.f11 false true false false) := by
  refine returnsInHanded_of_change_sized (C := Try.checked) own started (by kernel_rfl) Try.func11
    (ChangeSpec.witness6 (enc := enc) (C := Try.checked) false ⟨#[], #[.agg #[.slice none 0 0, .slice none 0 0]], []⟩ 8 (by kernel_rfl) (by kernel_rfl) (by kernel_rfl) (by kernel_rfl)) ?_
  intro W base args ds gs before hval0 hW hcnd hsz0 _
  have hval : ∀ (j : Nat) t v, Try.f11.params[j]? = some t → args[j]? = some v → Value.okWide Try.prog W .any base t v := hval0
  have hW' := hW
  obtain ⟨p, q, hA0, hV, rfl, hfz, hnd⟩ := hW
  have hA : DataW.TrodAll enc Try.prog W 0 (fun _ => true) true Try.f11.params.toList args.toList ds p := hA0
  rw [Try.params11] at hA hval
  obtain ⟨v0, vs0, d0, ds0, p0, q0, hargs, rfl, rfl, h0, r0⟩ := trodAll_cons hA
  obtain ⟨rfl, rfl, rfl⟩ := trodAll_nil r0
  obtain rfl : args = #[v0] := by cases args; simp_all
  obtain ⟨rfl, rfl⟩ := trodVars_none hV
  have k0 := h0
  have lt0 : ∀ x ∈ p0, x.block < W.heap.size := by obtain ⟨m, hm⟩ := k0; exact DataW.trod_lt m _ _ _ hm
  obtain ⟨A0_0, c0_0, l0_0, A0_1, c0_1, l0_1, rfl, x0_1, x0_2, x0_3, x0_4, x0_5, x0_6, x0_7, x0_8⟩ := book_open (hval 0 34 v0 rfl rfl) h0
  clear hA0 hval0 hsz0
  obtain ⟨k, hk⟩ := Pure.FnExactLeastBook l0_0 l0_1 x0_5 x0_6 x0_7 x0_8
  refine (QFnExactLeastBook.laws_FnExactLeastBook.xcalls k A0_0 c0_0 l0_0 A0_1 c0_1 l0_1 true W x0_3 x0_1 x0_4 x0_2 hk).mono fun e W' ⟨he, bel⟩ => ?_
  subst he
  exact ⟨_, rfl, _, _, _, [], _, [], hW', trodAll_mk1 (shut_bool Try.underlying4 _), (trodAll_cons_mk (Below.trod laidOut (by kernel_rfl) (of_decide_eq_true (by kernel_rfl)) k0 bel lt0) trodAll_mk0), rfl, bel.frame _, fun h => by cases h⟩
theorem over : Rows.fnExactLeastBookRow.holds Try.pinned (OpenSpec.ofChange Rows.fnExactLeastBookSpec) :=
  OpenClaim.holds_of_wide 11 Try.f11 rfl rfl rfl rfl rfl rfl rfl ⟨rfl, rfl, rfl, rfl, rfl⟩ rfl rfl rfl rfl rfl (by kernel_rfl) Try.func11 (by kernel_rfl)
    (of_decide_eq_true (by kernel_rfl)) (by unfold Func.isWrapper; first | (rw [if_pos (by decide +kernel)]; kernel_rfl) | (rw [if_neg (by decide +kernel)]; exact ⟨rfl, rfl⟩))
    (fun os started H enc _ => lifted os started H enc)
theorem proved : Rows.FnExactLeastBookSaid := over
end Go.Proofs.Ytobdgfapjcepkaa.fnExactLeastBook
namespace Go.Proofs.Ytobdgfapjcepkaa
/-- The row, under a short name, for the claim. -/
theorem fnExactLeastBook_holds : Rows.FnExactLeastBookSaid := fnExactLeastBook.proved
#print axioms fnExactLeastBook_holds
end Go.Proofs.Ytobdgfapjcepkaa
