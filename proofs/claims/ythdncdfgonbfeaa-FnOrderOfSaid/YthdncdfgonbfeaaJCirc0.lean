/- impl.circles' walk as a plain function, and what is true around the closure that walks (its captured variables, the rows told so far); no condition. -/
import Derived.Test.YthdncdfgonbfeaaJQWalkx1
import Derived.Test.YthdncdfgonbfeaaJQCmpx1
namespace Go.Proofs.Ythdncdfgonbfeaa.Circ
open Go.RowKit Go.Proofs.Ythdncdfgonbfeaa.QWalk Go.Proofs.YthdncdfgonbfeaaW.PrintWords Go.Proofs.YthdncdfgonbfeaaW.PrintLast Go.Proofs.YthdncdfgonbfeaaW.PrintMore
set_option linter.unusedVariables false
set_option linter.unusedSimpArgs false
/-- One bank's row, from x on: m banks are left. -/
def loopF (rec_ : List Int → List (List Int) → Option (List (List Int))) (row path : List Int) : Nat → Nat → List (List Int) → Option (List (List Int))
 | 0, _, o => some o
 | m + 1, x, o => (if row.getD x 0 = 0 then some o else if (x : Int) < path.getD 0 0 then some o else if (x : Int) = path.getD 0 0 then (if o.length < 1000 then some (o ++ [path]) else none) else if (x : Int) ∈ path then some o else rec_ (path ++ [(x : Int)]) o).bind fun o1 => loopF rec_ row path m (x + 1) o1
/-- The walk from a path on: what is told behind what was told. -/
def walkF (d : List (List Int)) : Nat → List Int → List (List Int) → Option (List (List Int))
 | 0, _, _ => none
 | k + 1, path, o => if 0 < path.length ∧ path.length < 1000 ∧ 0 ≤ path.getD (path.length - 1) 0 ∧ path.getD (path.length - 1) 0 < (d.length : Int) then loopF (walkF d k) (d.getD (path.getD (path.length - 1) 0).toNat []) path (d.getD (path.getD (path.length - 1) 0).toNat []).length 0 o else none
/-- The closure's value. -/
def fv (gb go gw : Nat) : Value := .func (.func 54) #[] #[.pointer (some ⟨gb, 0, none⟩), .pointer (some ⟨go, 0, none⟩), .pointer (some ⟨gw, 0, none⟩)]
/-- What holds between the closure's steps: the captured variables' blocks, and the rows told so far. -/
structure Env (w : World) (gb go gw : Nat) (s0 s1 : Value) (W : World) (vo : Value) (o : List (List Int)) : Prop where
 below : Below w.heap.size w W
 bk : W.heap[gb]? = some (.cells #[s0, s1] 26 (0, 0))
 ok : W.heap[go]? = some (.cells #[vo] 24 (0, 0))
 wk : W.heap[gw]? = some (.cells #[fv gb go gw] 67 (0, 0))
 rows : Kd.S (Kd.slice 3 (Kd.int .i64)) 23 W w.heap.size (fun _ => True) vo o
 gb_ : w.heap.size ≤ gb
 go_ : w.heap.size ≤ go
 gw_ : w.heap.size ≤ gw
/-- Rows of whole numbers stay as they are. -/
structure Fr (W W1 : World) : Prop where
 at_ : ∀ (k : Nat) (cells : Array Value), W.heap[k]? = some (Obj.cells cells 3 (0, 0)) → W1.heap[k]? = some (Obj.cells cells 3 (0, 0))
/-- What a call of the closure leaves. -/
def Post (w : World) (gb go gw : Nat) (s0 s1 : Value) (W : World) (r : List (List Int)) (e : Ending) (w' : World) : Prop := e = .returned (.tuple #[]) ∧ ∃ vo' : Value, Env w gb go gw s0 s1 w' vo' r ∧ Fr W w'
section
variable {w : World} {gb go gw : Nat} {s0 s1 : Value} {W W1 : World} {vo vp : Value} {o : List (List Int)} {path : List Int}
end
end Go.Proofs.Ythdncdfgonbfeaa.Circ
