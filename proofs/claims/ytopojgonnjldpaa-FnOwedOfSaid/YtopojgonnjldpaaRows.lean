/-
  No cell of these rows narrows 'for every input' (looked for: loops, veiled, ifaces, maps, wideKeys, modest, calm, conditions, laid).
  DERIVED. THE GIVEN ROWS OF THIS SEAT. 13 by the template 'for every input the law returns true; each argument reads behind the call as it read before'; 0 by the template 'total and deterministic' (their statements: YtopojgonnjldpaaTotals.lean).
  GIVEN WITH THE SEED: the statements are not yours to turn. If you find one false, say at which input.
  Laid BY PROGRAM, IN A SANDBOX (cutbox-rows.mjs): the forced cells as the released guide's own fill.sh prints them over the translation 714f9e442bf4cce7… (all of the seat's roots in one cut). By AI agents, Wed Nov 11 2026. No macro, syntax, notation, axiom, sorry.
-/
import Derived.Test.YtopojgonnjldpaaChecked
import GoSem.Claim
import GoSem.ClaimJoined
import GoSem.ClaimMapViews
import Derived.JoinedTies
import Derived.KernelRfl
namespace Go.Proofs.Ytopojgonnjldpaa
/- THE CELL 'sum', in the pinned program and in every row, IS THE sha256 OF THE DUMP (.gsa) THAT YtopojgonnjldpaaProg.lean LOADS. Nothing in Lean hashes anything: it is a label: what it is worth is what the hold of that sum in a sandbox is worth. -/
noncomputable def Try.pinned : Pinned := { name := "ytopojgonnjldpaa", sum := "714f9e442bf4cce7878820f61132fb27eb468e947a35ace691ca0cfeb5445ff8", checked := Try.checked }
namespace Rows
def none {H : Type} : Left H := { results := [], args := [] }

/-- 'laws.FnBookOk': WHATEVER THE INPUT: true; the input reads as it did. -/
def fnBookOkSpec : ChangeSpec := { name := "fnBookOk", fn := fun _ => fun
  | [d] => { results := [.lit (.bool true)], args := [d] }
  | _ => none }
def fnBookOkRow : OpenClaim := { program := "ytopojgonnjldpaa", sum := "714f9e442bf4cce7878820f61132fb27eb468e947a35ace691ca0cfeb5445ff8", func := "loop.example/debtclearing/laws.FnBookOk", spec := "fnBookOk", apart := false }
def FnBookOkSaid : Prop := fnBookOkRow.holds Try.pinned (OpenSpec.ofChange fnBookOkSpec)

/-- ITS FALSE NEIGHBOUR: 'it returns false'. Refute it at one input. -/
def fnBookOkWrong : ChangeSpec := { name := "fnBookOk", fn := fun _ => fun
  | [d] => { results := [.lit (.bool false)], args := [d] }
  | _ => none }
def FnBookOkWrongFalsely : Prop := fnBookOkRow.holds Try.pinned (OpenSpec.ofChange fnBookOkWrong)

/-- 'laws.FnLessOf': WHATEVER THE INPUT: true; the input reads as it did. -/
def fnLessOfSpec : ChangeSpec := { name := "fnLessOf", fn := fun _ => fun
  | [d] => { results := [.lit (.bool true)], args := [d] }
  | _ => none }
def fnLessOfRow : OpenClaim := { program := "ytopojgonnjldpaa", sum := "714f9e442bf4cce7878820f61132fb27eb468e947a35ace691ca0cfeb5445ff8", func := "loop.example/debtclearing/laws.FnLessOf", spec := "fnLessOf", apart := false }
def FnLessOfSaid : Prop := fnLessOfRow.holds Try.pinned (OpenSpec.ofChange fnLessOfSpec)

/-- ITS FALSE NEIGHBOUR: 'it returns false'. Refute it at one input. -/
def fnLessOfWrong : ChangeSpec := { name := "fnLessOf", fn := fun _ => fun
  | [d] => { results := [.lit (.bool false)], args := [d] }
  | _ => none }
def FnLessOfWrongFalsely : Prop := fnLessOfRow.holds Try.pinned (OpenSpec.ofChange fnLessOfWrong)

/-- 'laws.FnPlusOf': WHATEVER THE INPUT: true; the input reads as it did. -/
def fnPlusOfSpec : ChangeSpec := { name := "fnPlusOf", fn := fun _ => fun
  | [d] => { results := [.lit (.bool true)], args := [d] }
  | _ => none }
def fnPlusOfRow : OpenClaim := { program := "ytopojgonnjldpaa", sum := "714f9e442bf4cce7878820f61132fb27eb468e947a35ace691ca0cfeb5445ff8", func := "loop.example/debtclearing/laws.FnPlusOf", spec := "fnPlusOf", apart := false }
def FnPlusOfSaid : Prop := fnPlusOfRow.holds Try.pinned (OpenSpec.ofChange fnPlusOfSpec)

/-- ITS FALSE NEIGHBOUR: 'it returns false'. Refute it at one input. -/
def fnPlusOfWrong : ChangeSpec := { name := "fnPlusOf", fn := fun _ => fun
  | [d] => { results := [.lit (.bool false)], args := [d] }
  | _ => none }
def FnPlusOfWrongFalsely : Prop := fnPlusOfRow.holds Try.pinned (OpenSpec.ofChange fnPlusOfWrong)

/-- 'laws.FnOverOf': WHATEVER THE INPUT: true; the input reads as it did. -/
def fnOverOfSpec : ChangeSpec := { name := "fnOverOf", fn := fun _ => fun
  | [d] => { results := [.lit (.bool true)], args := [d] }
  | _ => none }
def fnOverOfRow : OpenClaim := { program := "ytopojgonnjldpaa", sum := "714f9e442bf4cce7878820f61132fb27eb468e947a35ace691ca0cfeb5445ff8", func := "loop.example/debtclearing/laws.FnOverOf", spec := "fnOverOf", apart := false }
def FnOverOfSaid : Prop := fnOverOfRow.holds Try.pinned (OpenSpec.ofChange fnOverOfSpec)

/-- ITS FALSE NEIGHBOUR: 'it returns false'. Refute it at one input. -/
def fnOverOfWrong : ChangeSpec := { name := "fnOverOf", fn := fun _ => fun
  | [d] => { results := [.lit (.bool false)], args := [d] }
  | _ => none }
def FnOverOfWrongFalsely : Prop := fnOverOfRow.holds Try.pinned (OpenSpec.ofChange fnOverOfWrong)

/-- 'laws.FnTimesOf': WHATEVER THE INPUT: true; the input reads as it did. -/
def fnTimesOfSpec : ChangeSpec := { name := "fnTimesOf", fn := fun _ => fun
  | [d] => { results := [.lit (.bool true)], args := [d] }
  | _ => none }
def fnTimesOfRow : OpenClaim := { program := "ytopojgonnjldpaa", sum := "714f9e442bf4cce7878820f61132fb27eb468e947a35ace691ca0cfeb5445ff8", func := "loop.example/debtclearing/laws.FnTimesOf", spec := "fnTimesOf", apart := false }
def FnTimesOfSaid : Prop := fnTimesOfRow.holds Try.pinned (OpenSpec.ofChange fnTimesOfSpec)

/-- ITS FALSE NEIGHBOUR: 'it returns false'. Refute it at one input. -/
def fnTimesOfWrong : ChangeSpec := { name := "fnTimesOf", fn := fun _ => fun
  | [d] => { results := [.lit (.bool false)], args := [d] }
  | _ => none }
def FnTimesOfWrongFalsely : Prop := fnTimesOfRow.holds Try.pinned (OpenSpec.ofChange fnTimesOfWrong)

/-- 'laws.FnExactBookOk': WHATEVER THE INPUT: true; the input reads as it did. -/
def fnExactBookOkSpec : ChangeSpec := { name := "fnExactBookOk", fn := fun _ => fun
  | [d] => { results := [.lit (.bool true)], args := [d] }
  | _ => none }
def fnExactBookOkRow : OpenClaim := { program := "ytopojgonnjldpaa", sum := "714f9e442bf4cce7878820f61132fb27eb468e947a35ace691ca0cfeb5445ff8", func := "loop.example/debtclearing/laws.FnExactBookOk", spec := "fnExactBookOk", apart := false }
def FnExactBookOkSaid : Prop := fnExactBookOkRow.holds Try.pinned (OpenSpec.ofChange fnExactBookOkSpec)

/-- ITS FALSE NEIGHBOUR: 'it returns false'. Refute it at one input. -/
def fnExactBookOkWrong : ChangeSpec := { name := "fnExactBookOk", fn := fun _ => fun
  | [d] => { results := [.lit (.bool false)], args := [d] }
  | _ => none }
def FnExactBookOkWrongFalsely : Prop := fnExactBookOkRow.holds Try.pinned (OpenSpec.ofChange fnExactBookOkWrong)

/-- 'laws.FnOwedOf': WHATEVER THE INPUT: true; the input reads as it did. -/
def fnOwedOfSpec : ChangeSpec := { name := "fnOwedOf", fn := fun _ => fun
  | [d] => { results := [.lit (.bool true)], args := [d] }
  | _ => none }
def fnOwedOfRow : OpenClaim := { program := "ytopojgonnjldpaa", sum := "714f9e442bf4cce7878820f61132fb27eb468e947a35ace691ca0cfeb5445ff8", func := "loop.example/debtclearing/laws.FnOwedOf", spec := "fnOwedOf", apart := false }
def FnOwedOfSaid : Prop := fnOwedOfRow.holds Try.pinned (OpenSpec.ofChange fnOwedOfSpec)

/-- ITS FALSE NEIGHBOUR: 'it returns false'. Refute it at one input. -/
def fnOwedOfWrong : ChangeSpec := { name := "fnOwedOf", fn := fun _ => fun
  | [d] => { results := [.lit (.bool false)], args := [d] }
  | _ => none }
def FnOwedOfWrongFalsely : Prop := fnOwedOfRow.holds Try.pinned (OpenSpec.ofChange fnOwedOfWrong)

/-- 'laws.FnBeforeOf': WHATEVER THE INPUT: true; the input reads as it did. -/
def fnBeforeOfSpec : ChangeSpec := { name := "fnBeforeOf", fn := fun _ => fun
  | [d] => { results := [.lit (.bool true)], args := [d] }
  | _ => none }
def fnBeforeOfRow : OpenClaim := { program := "ytopojgonnjldpaa", sum := "714f9e442bf4cce7878820f61132fb27eb468e947a35ace691ca0cfeb5445ff8", func := "loop.example/debtclearing/laws.FnBeforeOf", spec := "fnBeforeOf", apart := false }
def FnBeforeOfSaid : Prop := fnBeforeOfRow.holds Try.pinned (OpenSpec.ofChange fnBeforeOfSpec)

/-- ITS FALSE NEIGHBOUR: 'it returns false'. Refute it at one input. -/
def fnBeforeOfWrong : ChangeSpec := { name := "fnBeforeOf", fn := fun _ => fun
  | [d] => { results := [.lit (.bool false)], args := [d] }
  | _ => none }
def FnBeforeOfWrongFalsely : Prop := fnBeforeOfRow.holds Try.pinned (OpenSpec.ofChange fnBeforeOfWrong)

/-- 'laws.FnExactAllDebts': WHATEVER THE INPUT: true; the input reads as it did. -/
def fnExactAllDebtsSpec : ChangeSpec := { name := "fnExactAllDebts", fn := fun _ => fun
  | [d] => { results := [.lit (.bool true)], args := [d] }
  | _ => none }
def fnExactAllDebtsRow : OpenClaim := { program := "ytopojgonnjldpaa", sum := "714f9e442bf4cce7878820f61132fb27eb468e947a35ace691ca0cfeb5445ff8", func := "loop.example/debtclearing/laws.FnExactAllDebts", spec := "fnExactAllDebts", apart := false }
def FnExactAllDebtsSaid : Prop := fnExactAllDebtsRow.holds Try.pinned (OpenSpec.ofChange fnExactAllDebtsSpec)

/-- ITS FALSE NEIGHBOUR: 'it returns false'. Refute it at one input. -/
def fnExactAllDebtsWrong : ChangeSpec := { name := "fnExactAllDebts", fn := fun _ => fun
  | [d] => { results := [.lit (.bool false)], args := [d] }
  | _ => none }
def FnExactAllDebtsWrongFalsely : Prop := fnExactAllDebtsRow.holds Try.pinned (OpenSpec.ofChange fnExactAllDebtsWrong)

/-- 'laws.FnOwesOf': WHATEVER THE INPUT: true; the input reads as it did. -/
def fnOwesOfSpec : ChangeSpec := { name := "fnOwesOf", fn := fun _ => fun
  | [d] => { results := [.lit (.bool true)], args := [d] }
  | _ => none }
def fnOwesOfRow : OpenClaim := { program := "ytopojgonnjldpaa", sum := "714f9e442bf4cce7878820f61132fb27eb468e947a35ace691ca0cfeb5445ff8", func := "loop.example/debtclearing/laws.FnOwesOf", spec := "fnOwesOf", apart := false }
def FnOwesOfSaid : Prop := fnOwesOfRow.holds Try.pinned (OpenSpec.ofChange fnOwesOfSpec)

/-- ITS FALSE NEIGHBOUR: 'it returns false'. Refute it at one input. -/
def fnOwesOfWrong : ChangeSpec := { name := "fnOwesOf", fn := fun _ => fun
  | [d] => { results := [.lit (.bool false)], args := [d] }
  | _ => none }
def FnOwesOfWrongFalsely : Prop := fnOwesOfRow.holds Try.pinned (OpenSpec.ofChange fnOwesOfWrong)

/-- 'laws.FnExactOwedOf': WHATEVER THE INPUT: true; the input reads as it did. -/
def fnExactOwedOfSpec : ChangeSpec := { name := "fnExactOwedOf", fn := fun _ => fun
  | [d] => { results := [.lit (.bool true)], args := [d] }
  | _ => none }
def fnExactOwedOfRow : OpenClaim := { program := "ytopojgonnjldpaa", sum := "714f9e442bf4cce7878820f61132fb27eb468e947a35ace691ca0cfeb5445ff8", func := "loop.example/debtclearing/laws.FnExactOwedOf", spec := "fnExactOwedOf", apart := false }
def FnExactOwedOfSaid : Prop := fnExactOwedOfRow.holds Try.pinned (OpenSpec.ofChange fnExactOwedOfSpec)

/-- ITS FALSE NEIGHBOUR: 'it returns false'. Refute it at one input. -/
def fnExactOwedOfWrong : ChangeSpec := { name := "fnExactOwedOf", fn := fun _ => fun
  | [d] => { results := [.lit (.bool false)], args := [d] }
  | _ => none }
def FnExactOwedOfWrongFalsely : Prop := fnExactOwedOfRow.holds Try.pinned (OpenSpec.ofChange fnExactOwedOfWrong)

/-- 'laws.FnExactOwesOf': WHATEVER THE INPUT: true; the input reads as it did. -/
def fnExactOwesOfSpec : ChangeSpec := { name := "fnExactOwesOf", fn := fun _ => fun
  | [d] => { results := [.lit (.bool true)], args := [d] }
  | _ => none }
def fnExactOwesOfRow : OpenClaim := { program := "ytopojgonnjldpaa", sum := "714f9e442bf4cce7878820f61132fb27eb468e947a35ace691ca0cfeb5445ff8", func := "loop.example/debtclearing/laws.FnExactOwesOf", spec := "fnExactOwesOf", apart := false }
def FnExactOwesOfSaid : Prop := fnExactOwesOfRow.holds Try.pinned (OpenSpec.ofChange fnExactOwesOfSpec)

/-- ITS FALSE NEIGHBOUR: 'it returns false'. Refute it at one input. -/
def fnExactOwesOfWrong : ChangeSpec := { name := "fnExactOwesOf", fn := fun _ => fun
  | [d] => { results := [.lit (.bool false)], args := [d] }
  | _ => none }
def FnExactOwesOfWrongFalsely : Prop := fnExactOwesOfRow.holds Try.pinned (OpenSpec.ofChange fnExactOwesOfWrong)

/-- 'laws.FnAllDebts': WHATEVER THE INPUT: true; the input reads as it did. -/
def fnAllDebtsSpec : ChangeSpec := { name := "fnAllDebts", fn := fun _ => fun
  | [d] => { results := [.lit (.bool true)], args := [d] }
  | _ => none }
def fnAllDebtsRow : OpenClaim := { program := "ytopojgonnjldpaa", sum := "714f9e442bf4cce7878820f61132fb27eb468e947a35ace691ca0cfeb5445ff8", func := "loop.example/debtclearing/laws.FnAllDebts", spec := "fnAllDebts", apart := false }
def FnAllDebtsSaid : Prop := fnAllDebtsRow.holds Try.pinned (OpenSpec.ofChange fnAllDebtsSpec)

/-- ITS FALSE NEIGHBOUR: 'it returns false'. Refute it at one input. -/
def fnAllDebtsWrong : ChangeSpec := { name := "fnAllDebts", fn := fun _ => fun
  | [d] => { results := [.lit (.bool false)], args := [d] }
  | _ => none }
def FnAllDebtsWrongFalsely : Prop := fnAllDebtsRow.holds Try.pinned (OpenSpec.ofChange fnAllDebtsWrong)

/- THE SECOND FORM. 'bulk': how many values and letters a reading holds, each counted each time it is reached (what is shared counts as often as it is met; a slice's spare places count too). A statement '..UptoSaid' is the law's where the arguments, and the package variables that the reading takes, are together of bulk at most 1048576: NARROWER than '..Said'. Prove '..Said' where nothing that the law and all that it calls make is longer than what came in: it says more and counts as full. Else prove '..UptoSaid'. A law counts once. -/
mutual
def uptoBulk {H : Type} : DataW H → Nat
  | .lit (.string bytes) => bytes.length + 1
  | .lit _ => 1
  | .nil => 1
  | .ptr d => uptoBulk d + 1
  | .slice elems spare => uptoBulkAll elems + uptoBulkAll spare + 1
  | .agg parts => uptoBulkAll parts + 1
  | .iface _ d => uptoBulk d + 1
  | .map entries => uptoBulkEntries entries + 1
  | .held _ => 1
def uptoBulkAll {H : Type} : List (DataW H) → Nat
  | [] => 0
  | d :: r => uptoBulk d + uptoBulkAll r
def uptoBulkEntries {H : Type} : List (Lit × DataW H) → Nat
  | [] => 0
  | x :: r => uptoBulkEntry x + uptoBulkEntries r
def uptoBulkEntry {H : Type} : Lit × DataW H → Nat
  | (.string bytes, d) => bytes.length + uptoBulk d + 1
  | (_, d) => uptoBulk d + 1
 end
def uptoSmall : (H : Type) → List (DataW H) → Bool := fun _ ds => decide (uptoBulkAll ds ≤ 1048576)
def OpenSpec.upto (s : _root_.Go.ChangeSpec) : _root_.Go.OpenSpec := { _root_.Go.OpenSpec.ofChange s with cond := some uptoSmall }

/-- 'laws.FnBookOk', WHERE WHAT IT READS IS OF BULK AT MOST 1048576: true; the input reads as it did. -/
def fnBookOkUptoRow : OpenClaim := { program := "ytopojgonnjldpaa", sum := "714f9e442bf4cce7878820f61132fb27eb468e947a35ace691ca0cfeb5445ff8", func := "loop.example/debtclearing/laws.FnBookOk", spec := "fnBookOk", apart := false, narrowed := true }
def FnBookOkUptoSaid : Prop := fnBookOkUptoRow.holds Try.pinned (OpenSpec.upto fnBookOkSpec)

/-- 'laws.FnLessOf', WHERE WHAT IT READS IS OF BULK AT MOST 1048576: true; the input reads as it did. -/
def fnLessOfUptoRow : OpenClaim := { program := "ytopojgonnjldpaa", sum := "714f9e442bf4cce7878820f61132fb27eb468e947a35ace691ca0cfeb5445ff8", func := "loop.example/debtclearing/laws.FnLessOf", spec := "fnLessOf", apart := false, narrowed := true }
def FnLessOfUptoSaid : Prop := fnLessOfUptoRow.holds Try.pinned (OpenSpec.upto fnLessOfSpec)

/-- 'laws.FnPlusOf', WHERE WHAT IT READS IS OF BULK AT MOST 1048576: true; the input reads as it did. -/
def fnPlusOfUptoRow : OpenClaim := { program := "ytopojgonnjldpaa", sum := "714f9e442bf4cce7878820f61132fb27eb468e947a35ace691ca0cfeb5445ff8", func := "loop.example/debtclearing/laws.FnPlusOf", spec := "fnPlusOf", apart := false, narrowed := true }
def FnPlusOfUptoSaid : Prop := fnPlusOfUptoRow.holds Try.pinned (OpenSpec.upto fnPlusOfSpec)

/-- 'laws.FnOverOf', WHERE WHAT IT READS IS OF BULK AT MOST 1048576: true; the input reads as it did. -/
def fnOverOfUptoRow : OpenClaim := { program := "ytopojgonnjldpaa", sum := "714f9e442bf4cce7878820f61132fb27eb468e947a35ace691ca0cfeb5445ff8", func := "loop.example/debtclearing/laws.FnOverOf", spec := "fnOverOf", apart := false, narrowed := true }
def FnOverOfUptoSaid : Prop := fnOverOfUptoRow.holds Try.pinned (OpenSpec.upto fnOverOfSpec)

/-- 'laws.FnTimesOf', WHERE WHAT IT READS IS OF BULK AT MOST 1048576: true; the input reads as it did. -/
def fnTimesOfUptoRow : OpenClaim := { program := "ytopojgonnjldpaa", sum := "714f9e442bf4cce7878820f61132fb27eb468e947a35ace691ca0cfeb5445ff8", func := "loop.example/debtclearing/laws.FnTimesOf", spec := "fnTimesOf", apart := false, narrowed := true }
def FnTimesOfUptoSaid : Prop := fnTimesOfUptoRow.holds Try.pinned (OpenSpec.upto fnTimesOfSpec)

/-- 'laws.FnExactBookOk', WHERE WHAT IT READS IS OF BULK AT MOST 1048576: true; the input reads as it did. -/
def fnExactBookOkUptoRow : OpenClaim := { program := "ytopojgonnjldpaa", sum := "714f9e442bf4cce7878820f61132fb27eb468e947a35ace691ca0cfeb5445ff8", func := "loop.example/debtclearing/laws.FnExactBookOk", spec := "fnExactBookOk", apart := false, narrowed := true }
def FnExactBookOkUptoSaid : Prop := fnExactBookOkUptoRow.holds Try.pinned (OpenSpec.upto fnExactBookOkSpec)

/-- 'laws.FnOwedOf', WHERE WHAT IT READS IS OF BULK AT MOST 1048576: true; the input reads as it did. -/
def fnOwedOfUptoRow : OpenClaim := { program := "ytopojgonnjldpaa", sum := "714f9e442bf4cce7878820f61132fb27eb468e947a35ace691ca0cfeb5445ff8", func := "loop.example/debtclearing/laws.FnOwedOf", spec := "fnOwedOf", apart := false, narrowed := true }
def FnOwedOfUptoSaid : Prop := fnOwedOfUptoRow.holds Try.pinned (OpenSpec.upto fnOwedOfSpec)

/-- 'laws.FnBeforeOf', WHERE WHAT IT READS IS OF BULK AT MOST 1048576: true; the input reads as it did. -/
def fnBeforeOfUptoRow : OpenClaim := { program := "ytopojgonnjldpaa", sum := "714f9e442bf4cce7878820f61132fb27eb468e947a35ace691ca0cfeb5445ff8", func := "loop.example/debtclearing/laws.FnBeforeOf", spec := "fnBeforeOf", apart := false, narrowed := true }
def FnBeforeOfUptoSaid : Prop := fnBeforeOfUptoRow.holds Try.pinned (OpenSpec.upto fnBeforeOfSpec)

/-- 'laws.FnExactAllDebts', WHERE WHAT IT READS IS OF BULK AT MOST 1048576: true; the input reads as it did. -/
def fnExactAllDebtsUptoRow : OpenClaim := { program := "ytopojgonnjldpaa", sum := "714f9e442bf4cce7878820f61132fb27eb468e947a35ace691ca0cfeb5445ff8", func := "loop.example/debtclearing/laws.FnExactAllDebts", spec := "fnExactAllDebts", apart := false, narrowed := true }
def FnExactAllDebtsUptoSaid : Prop := fnExactAllDebtsUptoRow.holds Try.pinned (OpenSpec.upto fnExactAllDebtsSpec)

/-- 'laws.FnOwesOf', WHERE WHAT IT READS IS OF BULK AT MOST 1048576: true; the input reads as it did. -/
def fnOwesOfUptoRow : OpenClaim := { program := "ytopojgonnjldpaa", sum := "714f9e442bf4cce7878820f61132fb27eb468e947a35ace691ca0cfeb5445ff8", func := "loop.example/debtclearing/laws.FnOwesOf", spec := "fnOwesOf", apart := false, narrowed := true }
def FnOwesOfUptoSaid : Prop := fnOwesOfUptoRow.holds Try.pinned (OpenSpec.upto fnOwesOfSpec)

/-- 'laws.FnExactOwedOf', WHERE WHAT IT READS IS OF BULK AT MOST 1048576: true; the input reads as it did. -/
def fnExactOwedOfUptoRow : OpenClaim := { program := "ytopojgonnjldpaa", sum := "714f9e442bf4cce7878820f61132fb27eb468e947a35ace691ca0cfeb5445ff8", func := "loop.example/debtclearing/laws.FnExactOwedOf", spec := "fnExactOwedOf", apart := false, narrowed := true }
def FnExactOwedOfUptoSaid : Prop := fnExactOwedOfUptoRow.holds Try.pinned (OpenSpec.upto fnExactOwedOfSpec)

/-- 'laws.FnExactOwesOf', WHERE WHAT IT READS IS OF BULK AT MOST 1048576: true; the input reads as it did. -/
def fnExactOwesOfUptoRow : OpenClaim := { program := "ytopojgonnjldpaa", sum := "714f9e442bf4cce7878820f61132fb27eb468e947a35ace691ca0cfeb5445ff8", func := "loop.example/debtclearing/laws.FnExactOwesOf", spec := "fnExactOwesOf", apart := false, narrowed := true }
def FnExactOwesOfUptoSaid : Prop := fnExactOwesOfUptoRow.holds Try.pinned (OpenSpec.upto fnExactOwesOfSpec)

/-- 'laws.FnAllDebts', WHERE WHAT IT READS IS OF BULK AT MOST 1048576: true; the input reads as it did. -/
def fnAllDebtsUptoRow : OpenClaim := { program := "ytopojgonnjldpaa", sum := "714f9e442bf4cce7878820f61132fb27eb468e947a35ace691ca0cfeb5445ff8", func := "loop.example/debtclearing/laws.FnAllDebts", spec := "fnAllDebts", apart := false, narrowed := true }
def FnAllDebtsUptoSaid : Prop := fnAllDebtsUptoRow.holds Try.pinned (OpenSpec.upto fnAllDebtsSpec)

end Rows
end Go.Proofs.Ytopojgonnjldpaa
