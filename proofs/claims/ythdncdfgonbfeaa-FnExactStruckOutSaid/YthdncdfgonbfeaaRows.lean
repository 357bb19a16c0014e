/-
  No cell of these rows narrows 'for every input' (looked for: loops, veiled, ifaces, maps, wideKeys, modest, calm, conditions, laid).
  DERIVED. THE GIVEN ROWS OF THIS SEAT. 5 by the template 'for every input the law returns true; each argument reads behind the call as it read before'; 0 by the template 'total and deterministic' (their statements: YthdncdfgonbfeaaTotals.lean).
  GIVEN WITH THE SEED: the statements are not yours to turn. If you find one false, say at which input.
  Laid BY PROGRAM, IN A SANDBOX (cutbox-rows.mjs): the forced cells as the released guide's own fill.sh prints them over the translation 7439b5b89c947a62… (all of the seat's roots in one cut). By AI agents, Wed Nov 11 2026. No macro, syntax, notation, axiom, sorry.
-/
import Derived.Test.YthdncdfgonbfeaaChecked
import GoSem.Claim
import GoSem.ClaimJoined
import GoSem.ClaimMapViews
import Derived.JoinedTies
import Derived.KernelRfl
namespace Go.Proofs.Ythdncdfgonbfeaa
/- THE CELL 'sum', in the pinned program and in every row, IS THE sha256 OF THE DUMP (.gsa) THAT YthdncdfgonbfeaaProg.lean LOADS. Nothing in Lean hashes anything: it is a label: what it is worth is what the hold of that sum in a sandbox is worth. -/
noncomputable def Try.pinned : Pinned := { name := "ythdncdfgonbfeaa", sum := "7439b5b89c947a6234720afc90205efc86acbc0ba441127db2b218e370658b33", checked := Try.checked }
namespace Rows
def none {H : Type} : Left H := { results := [], args := [] }

/-- 'laws.FnOrderOf': WHATEVER THE INPUT: true; the input reads as it did. -/
def fnOrderOfSpec : ChangeSpec := { name := "fnOrderOf", fn := fun _ => fun
  | [d] => { results := [.lit (.bool true)], args := [d] }
  | _ => none }
def fnOrderOfRow : OpenClaim := { program := "ythdncdfgonbfeaa", sum := "7439b5b89c947a6234720afc90205efc86acbc0ba441127db2b218e370658b33", func := "loop.example/debtclearing/laws.FnOrderOf", spec := "fnOrderOf", recurses := true, apart := false }
def FnOrderOfSaid : Prop := fnOrderOfRow.holds Try.pinned (OpenSpec.ofChange fnOrderOfSpec)

/-- ITS FALSE NEIGHBOUR: 'it returns false'. Refute it at one input. -/
def fnOrderOfWrong : ChangeSpec := { name := "fnOrderOf", fn := fun _ => fun
  | [d] => { results := [.lit (.bool false)], args := [d] }
  | _ => none }
def FnOrderOfWrongFalsely : Prop := fnOrderOfRow.holds Try.pinned (OpenSpec.ofChange fnOrderOfWrong)

/-- 'laws.FnCirclesOf': WHATEVER THE INPUT: true; the input reads as it did. -/
def fnCirclesOfSpec : ChangeSpec := { name := "fnCirclesOf", fn := fun _ => fun
  | [d] => { results := [.lit (.bool true)], args := [d] }
  | _ => none }
def fnCirclesOfRow : OpenClaim := { program := "ythdncdfgonbfeaa", sum := "7439b5b89c947a6234720afc90205efc86acbc0ba441127db2b218e370658b33", func := "loop.example/debtclearing/laws.FnCirclesOf", spec := "fnCirclesOf", unfollowed := true, recurses := true, apart := false }
def FnCirclesOfSaid : Prop := fnCirclesOfRow.holds Try.pinned (OpenSpec.ofChange fnCirclesOfSpec)

/-- ITS FALSE NEIGHBOUR: 'it returns false'. Refute it at one input. -/
def fnCirclesOfWrong : ChangeSpec := { name := "fnCirclesOf", fn := fun _ => fun
  | [d] => { results := [.lit (.bool false)], args := [d] }
  | _ => none }
def FnCirclesOfWrongFalsely : Prop := fnCirclesOfRow.holds Try.pinned (OpenSpec.ofChange fnCirclesOfWrong)

/-- 'laws.FnExactCirclesOf': WHATEVER THE INPUT: true; the input reads as it did. -/
def fnExactCirclesOfSpec : ChangeSpec := { name := "fnExactCirclesOf", fn := fun _ => fun
  | [d] => { results := [.lit (.bool true)], args := [d] }
  | _ => none }
def fnExactCirclesOfRow : OpenClaim := { program := "ythdncdfgonbfeaa", sum := "7439b5b89c947a6234720afc90205efc86acbc0ba441127db2b218e370658b33", func := "loop.example/debtclearing/laws.FnExactCirclesOf", spec := "fnExactCirclesOf", unfollowed := true, recurses := true, apart := false }
def FnExactCirclesOfSaid : Prop := fnExactCirclesOfRow.holds Try.pinned (OpenSpec.ofChange fnExactCirclesOfSpec)

/-- ITS FALSE NEIGHBOUR: 'it returns false'. Refute it at one input. -/
def fnExactCirclesOfWrong : ChangeSpec := { name := "fnExactCirclesOf", fn := fun _ => fun
  | [d] => { results := [.lit (.bool false)], args := [d] }
  | _ => none }
def FnExactCirclesOfWrongFalsely : Prop := fnExactCirclesOfRow.holds Try.pinned (OpenSpec.ofChange fnExactCirclesOfWrong)

/-- 'laws.FnExactStruckOut': WHATEVER THE INPUT: true; the input reads as it did. -/
def fnExactStruckOutSpec : ChangeSpec := { name := "fnExactStruckOut", fn := fun _ => fun
  | [d1, d2] => { results := [.lit (.bool true)], args := [d1, d2] }
  | _ => none }
def fnExactStruckOutRow : OpenClaim := { program := "ythdncdfgonbfeaa", sum := "7439b5b89c947a6234720afc90205efc86acbc0ba441127db2b218e370658b33", func := "loop.example/debtclearing/laws.FnExactStruckOut", spec := "fnExactStruckOut", unfollowed := true, recurses := true, apart := false }
def FnExactStruckOutSaid : Prop := fnExactStruckOutRow.holds Try.pinned (OpenSpec.ofChange fnExactStruckOutSpec)

/-- ITS FALSE NEIGHBOUR: 'it returns false'. Refute it at one input. -/
def fnExactStruckOutWrong : ChangeSpec := { name := "fnExactStruckOut", fn := fun _ => fun
  | [d1, d2] => { results := [.lit (.bool false)], args := [d1, d2] }
  | _ => none }
def FnExactStruckOutWrongFalsely : Prop := fnExactStruckOutRow.holds Try.pinned (OpenSpec.ofChange fnExactStruckOutWrong)

/-- 'laws.FnExactWithoutCircles': WHATEVER THE INPUT: true; the input reads as it did. -/
def fnExactWithoutCirclesSpec : ChangeSpec := { name := "fnExactWithoutCircles", fn := fun _ => fun
  | [d] => { results := [.lit (.bool true)], args := [d] }
  | _ => none }
def fnExactWithoutCirclesRow : OpenClaim := { program := "ythdncdfgonbfeaa", sum := "7439b5b89c947a6234720afc90205efc86acbc0ba441127db2b218e370658b33", func := "loop.example/debtclearing/laws.FnExactWithoutCircles", spec := "fnExactWithoutCircles", unfollowed := true, recurses := true, apart := false }
def FnExactWithoutCirclesSaid : Prop := fnExactWithoutCirclesRow.holds Try.pinned (OpenSpec.ofChange fnExactWithoutCirclesSpec)

/-- ITS FALSE NEIGHBOUR: 'it returns false'. Refute it at one input. -/
def fnExactWithoutCirclesWrong : ChangeSpec := { name := "fnExactWithoutCircles", fn := fun _ => fun
  | [d] => { results := [.lit (.bool false)], args := [d] }
  | _ => none }
def FnExactWithoutCirclesWrongFalsely : Prop := fnExactWithoutCirclesRow.holds Try.pinned (OpenSpec.ofChange fnExactWithoutCirclesWrong)

/- THE SECOND FORM. 'bulk': how many values and letters a reading holds, each counted each time it is reached (what is shared counts as often as it is met; a slice's spare places count too). A statement '..UptoSaid' is the law's where the arguments, and the package variables that the reading takes, are together of bulk at most 1048576: NARROWER than '..Said'. Prove '..Said' where nothing that the law and all that it calls make is longer than what came in: it says more and counts as full. Else prove '..UptoSaid'. A law counts once. -/
mutual
def uptoBulk {H : Type} : DataW H → Nat
  | .lit (.string bytes) => bytes.length + 1
  | .lit _ => 1
  | .nil => 1
  | .ptr d => uptoBulk d + 1
  | .slice elems spare => uptoBulkAll elems + uptoBulkAll spare + 1
  | .agg parts => uptoBulkAll parts + 1
  | .iface _ d => uptoBulk d + 1
  | .map entries => uptoBulkEntries entries + 1
  | .held _ => 1
def uptoBulkAll {H : Type} : List (DataW H) → Nat
  | [] => 0
  | d :: r => uptoBulk d + uptoBulkAll r
def uptoBulkEntries {H : Type} : List (Lit × DataW H) → Nat
  | [] => 0
  | x :: r => uptoBulkEntry x + uptoBulkEntries r
def uptoBulkEntry {H : Type} : Lit × DataW H → Nat
  | (.string bytes, d) => bytes.length + uptoBulk d + 1
  | (_, d) => uptoBulk d + 1
 end
def uptoSmall : (H : Type) → List (DataW H) → Bool := fun _ ds => decide (uptoBulkAll ds ≤ 1048576)
def OpenSpec.upto (s : _root_.Go.ChangeSpec) : _root_.Go.OpenSpec := { _root_.Go.OpenSpec.ofChange s with cond := some uptoSmall }

/-- 'laws.FnOrderOf', WHERE WHAT IT READS IS OF BULK AT MOST 1048576: true; the input reads as it did. -/
def fnOrderOfUptoRow : OpenClaim := { program := "ythdncdfgonbfeaa", sum := "7439b5b89c947a6234720afc90205efc86acbc0ba441127db2b218e370658b33", func := "loop.example/debtclearing/laws.FnOrderOf", spec := "fnOrderOf", recurses := true, apart := false, narrowed := true }
def FnOrderOfUptoSaid : Prop := fnOrderOfUptoRow.holds Try.pinned (OpenSpec.upto fnOrderOfSpec)

/-- 'laws.FnCirclesOf', WHERE WHAT IT READS IS OF BULK AT MOST 1048576: true; the input reads as it did. -/
def fnCirclesOfUptoRow : OpenClaim := { program := "ythdncdfgonbfeaa", sum := "7439b5b89c947a6234720afc90205efc86acbc0ba441127db2b218e370658b33", func := "loop.example/debtclearing/laws.FnCirclesOf", spec := "fnCirclesOf", unfollowed := true, recurses := true, apart := false, narrowed := true }
def FnCirclesOfUptoSaid : Prop := fnCirclesOfUptoRow.holds Try.pinned (OpenSpec.upto fnCirclesOfSpec)

/-- 'laws.FnExactCirclesOf', WHERE WHAT IT READS IS OF BULK AT MOST 1048576: true; the input reads as it did. -/
def fnExactCirclesOfUptoRow : OpenClaim := { program := "ythdncdfgonbfeaa", sum := "7439b5b89c947a6234720afc90205efc86acbc0ba441127db2b218e370658b33", func := "loop.example/debtclearing/laws.FnExactCirclesOf", spec := "fnExactCirclesOf", unfollowed := true, recurses := true, apart := false, narrowed := true }
def FnExactCirclesOfUptoSaid : Prop := fnExactCirclesOfUptoRow.holds Try.pinned (OpenSpec.upto fnExactCirclesOfSpec)

/-- 'laws.FnExactStruckOut', WHERE WHAT IT READS IS OF BULK AT MOST 1048576: true; the input reads as it did. -/
def fnExactStruckOutUptoRow : OpenClaim := { program := "ythdncdfgonbfeaa", sum := "7439b5b89c947a6234720afc90205efc86acbc0ba441127db2b218e370658b33", func := "loop.example/debtclearing/laws.FnExactStruckOut", spec := "fnExactStruckOut", unfollowed := true, recurses := true, apart := false, narrowed := true }
def FnExactStruckOutUptoSaid : Prop := fnExactStruckOutUptoRow.holds Try.pinned (OpenSpec.upto fnExactStruckOutSpec)

/-- 'laws.FnExactWithoutCircles', WHERE WHAT IT READS IS OF BULK AT MOST 1048576: true; the input reads as it did. -/
def fnExactWithoutCirclesUptoRow : OpenClaim := { program := "ythdncdfgonbfeaa", sum := "7439b5b89c947a6234720afc90205efc86acbc0ba441127db2b218e370658b33", func := "loop.example/debtclearing/laws.FnExactWithoutCircles", spec := "fnExactWithoutCircles", unfollowed := true, recurses := true, apart := false, narrowed := true }
def FnExactWithoutCirclesUptoSaid : Prop := fnExactWithoutCirclesUptoRow.holds Try.pinned (OpenSpec.upto fnExactWithoutCirclesSpec)

end Rows
end Go.Proofs.Ythdncdfgonbfeaa
