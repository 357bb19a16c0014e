/-
  No cell of these rows narrows 'for every input' (looked for: loops, veiled, ifaces, maps, wideKeys, modest, calm, conditions, laid).
  DERIVED. THE GIVEN ROWS OF THIS SEAT. 9 by the template 'for every input the law returns true; each argument reads behind the call as it read before'; 0 by the template 'total and deterministic' (their statements: YtobdgfapjcepkaaTotals.lean).
  GIVEN WITH THE SEED: the statements are not yours to turn. If you find one false, say at which input.
  Laid BY PROGRAM, IN A SANDBOX (cutbox-rows.mjs): the forced cells as the released guide's own fill.sh prints them over the translation c1a4e114844a4d71… (all of the seat's roots in one cut). By AI agents, Wed Nov 11 2026. No macro, syntax, notation, axiom, sorry.
-/
import Derived.Test.YtobdgfapjcepkaaChecked
import GoSem.Claim
import GoSem.ClaimJoined
import GoSem.ClaimMapViews
import Derived.JoinedTies
import Derived.KernelRfl
namespace Go.Proofs.Ytobdgfapjcepkaa
/- THE CELL 'sum', in the pinned program and in every row, IS THE sha256 OF THE DUMP (.gsa) THAT YtobdgfapjcepkaaProg.lean LOADS. Nothing in Lean hashes anything: it is a label: what it is worth is what the hold of that sum in a sandbox is worth. -/
noncomputable def Try.pinned : Pinned := { name := "ytobdgfapjcepkaa", sum := "c1a4e114844a4d71bcf9782090be444af06b8af1ee8793a29b9a98949d7b40dd", checked := Try.checked }
namespace Rows
def none {H : Type} : Left H := { results := [], args := [] }

/-- 'laws.FnNetsOf': WHATEVER THE INPUT: true; the input reads as it did. -/
def fnNetsOfSpec : ChangeSpec := { name := "fnNetsOf", fn := fun _ => fun
  | [d] => { results := [.lit (.bool true)], args := [d] }
  | _ => none }
def fnNetsOfRow : OpenClaim := { program := "ytobdgfapjcepkaa", sum := "c1a4e114844a4d71bcf9782090be444af06b8af1ee8793a29b9a98949d7b40dd", func := "loop.example/debtclearing/laws.FnNetsOf", spec := "fnNetsOf", apart := false }
def FnNetsOfSaid : Prop := fnNetsOfRow.holds Try.pinned (OpenSpec.ofChange fnNetsOfSpec)

/-- ITS FALSE NEIGHBOUR: 'it returns false'. Refute it at one input. -/
def fnNetsOfWrong : ChangeSpec := { name := "fnNetsOf", fn := fun _ => fun
  | [d] => { results := [.lit (.bool false)], args := [d] }
  | _ => none }
def FnNetsOfWrongFalsely : Prop := fnNetsOfRow.holds Try.pinned (OpenSpec.ofChange fnNetsOfWrong)

/-- 'laws.FnExactNonePaid': WHATEVER THE INPUT: true; the input reads as it did. -/
def fnExactNonePaidSpec : ChangeSpec := { name := "fnExactNonePaid", fn := fun _ => fun
  | [d] => { results := [.lit (.bool true)], args := [d] }
  | _ => none }
def fnExactNonePaidRow : OpenClaim := { program := "ytobdgfapjcepkaa", sum := "c1a4e114844a4d71bcf9782090be444af06b8af1ee8793a29b9a98949d7b40dd", func := "loop.example/debtclearing/laws.FnExactNonePaid", spec := "fnExactNonePaid", apart := false }
def FnExactNonePaidSaid : Prop := fnExactNonePaidRow.holds Try.pinned (OpenSpec.ofChange fnExactNonePaidSpec)

/-- ITS FALSE NEIGHBOUR: 'it returns false'. Refute it at one input. -/
def fnExactNonePaidWrong : ChangeSpec := { name := "fnExactNonePaid", fn := fun _ => fun
  | [d] => { results := [.lit (.bool false)], args := [d] }
  | _ => none }
def FnExactNonePaidWrongFalsely : Prop := fnExactNonePaidRow.holds Try.pinned (OpenSpec.ofChange fnExactNonePaidWrong)

/-- 'laws.FnExactNetsOf': WHATEVER THE INPUT: true; the input reads as it did. -/
def fnExactNetsOfSpec : ChangeSpec := { name := "fnExactNetsOf", fn := fun _ => fun
  | [d] => { results := [.lit (.bool true)], args := [d] }
  | _ => none }
def fnExactNetsOfRow : OpenClaim := { program := "ytobdgfapjcepkaa", sum := "c1a4e114844a4d71bcf9782090be444af06b8af1ee8793a29b9a98949d7b40dd", func := "loop.example/debtclearing/laws.FnExactNetsOf", spec := "fnExactNetsOf", apart := false }
def FnExactNetsOfSaid : Prop := fnExactNetsOfRow.holds Try.pinned (OpenSpec.ofChange fnExactNetsOfSpec)

/-- ITS FALSE NEIGHBOUR: 'it returns false'. Refute it at one input. -/
def fnExactNetsOfWrong : ChangeSpec := { name := "fnExactNetsOf", fn := fun _ => fun
  | [d] => { results := [.lit (.bool false)], args := [d] }
  | _ => none }
def FnExactNetsOfWrongFalsely : Prop := fnExactNetsOfRow.holds Try.pinned (OpenSpec.ofChange fnExactNetsOfWrong)

/-- 'laws.FnExactOrderOf': WHATEVER THE INPUT: true; the input reads as it did. -/
def fnExactOrderOfSpec : ChangeSpec := { name := "fnExactOrderOf", fn := fun _ => fun
  | [d] => { results := [.lit (.bool true)], args := [d] }
  | _ => none }
def fnExactOrderOfRow : OpenClaim := { program := "ytobdgfapjcepkaa", sum := "c1a4e114844a4d71bcf9782090be444af06b8af1ee8793a29b9a98949d7b40dd", func := "loop.example/debtclearing/laws.FnExactOrderOf", spec := "fnExactOrderOf", apart := false }
def FnExactOrderOfSaid : Prop := fnExactOrderOfRow.holds Try.pinned (OpenSpec.ofChange fnExactOrderOfSpec)

/-- ITS FALSE NEIGHBOUR: 'it returns false'. Refute it at one input. -/
def fnExactOrderOfWrong : ChangeSpec := { name := "fnExactOrderOf", fn := fun _ => fun
  | [d] => { results := [.lit (.bool false)], args := [d] }
  | _ => none }
def FnExactOrderOfWrongFalsely : Prop := fnExactOrderOfRow.holds Try.pinned (OpenSpec.ofChange fnExactOrderOfWrong)

/-- 'laws.FnExactNetted': WHATEVER THE INPUT: true; the input reads as it did. -/
def fnExactNettedSpec : ChangeSpec := { name := "fnExactNetted", fn := fun _ => fun
  | [d] => { results := [.lit (.bool true)], args := [d] }
  | _ => none }
def fnExactNettedRow : OpenClaim := { program := "ytobdgfapjcepkaa", sum := "c1a4e114844a4d71bcf9782090be444af06b8af1ee8793a29b9a98949d7b40dd", func := "loop.example/debtclearing/laws.FnExactNetted", spec := "fnExactNetted", apart := false }
def FnExactNettedSaid : Prop := fnExactNettedRow.holds Try.pinned (OpenSpec.ofChange fnExactNettedSpec)

/-- ITS FALSE NEIGHBOUR: 'it returns false'. Refute it at one input. -/
def fnExactNettedWrong : ChangeSpec := { name := "fnExactNetted", fn := fun _ => fun
  | [d] => { results := [.lit (.bool false)], args := [d] }
  | _ => none }
def FnExactNettedWrongFalsely : Prop := fnExactNettedRow.holds Try.pinned (OpenSpec.ofChange fnExactNettedWrong)

/-- 'laws.FnAllPaid': WHATEVER THE INPUT: true; the input reads as it did. -/
def fnAllPaidSpec : ChangeSpec := { name := "fnAllPaid", fn := fun _ => fun
  | [d] => { results := [.lit (.bool true)], args := [d] }
  | _ => none }
def fnAllPaidRow : OpenClaim := { program := "ytobdgfapjcepkaa", sum := "c1a4e114844a4d71bcf9782090be444af06b8af1ee8793a29b9a98949d7b40dd", func := "loop.example/debtclearing/laws.FnAllPaid", spec := "fnAllPaid", apart := false }
def FnAllPaidSaid : Prop := fnAllPaidRow.holds Try.pinned (OpenSpec.ofChange fnAllPaidSpec)

/-- ITS FALSE NEIGHBOUR: 'it returns false'. Refute it at one input. -/
def fnAllPaidWrong : ChangeSpec := { name := "fnAllPaid", fn := fun _ => fun
  | [d] => { results := [.lit (.bool false)], args := [d] }
  | _ => none }
def FnAllPaidWrongFalsely : Prop := fnAllPaidRow.holds Try.pinned (OpenSpec.ofChange fnAllPaidWrong)

/-- 'laws.FnExactAllPaid': WHATEVER THE INPUT: true; the input reads as it did. -/
def fnExactAllPaidSpec : ChangeSpec := { name := "fnExactAllPaid", fn := fun _ => fun
  | [d] => { results := [.lit (.bool true)], args := [d] }
  | _ => none }
def fnExactAllPaidRow : OpenClaim := { program := "ytobdgfapjcepkaa", sum := "c1a4e114844a4d71bcf9782090be444af06b8af1ee8793a29b9a98949d7b40dd", func := "loop.example/debtclearing/laws.FnExactAllPaid", spec := "fnExactAllPaid", apart := false }
def FnExactAllPaidSaid : Prop := fnExactAllPaidRow.holds Try.pinned (OpenSpec.ofChange fnExactAllPaidSpec)

/-- ITS FALSE NEIGHBOUR: 'it returns false'. Refute it at one input. -/
def fnExactAllPaidWrong : ChangeSpec := { name := "fnExactAllPaid", fn := fun _ => fun
  | [d] => { results := [.lit (.bool false)], args := [d] }
  | _ => none }
def FnExactAllPaidWrongFalsely : Prop := fnExactAllPaidRow.holds Try.pinned (OpenSpec.ofChange fnExactAllPaidWrong)

/-- 'laws.FnLeastBook': WHATEVER THE INPUT: true; the input reads as it did. -/
def fnLeastBookSpec : ChangeSpec := { name := "fnLeastBook", fn := fun _ => fun
  | [d] => { results := [.lit (.bool true)], args := [d] }
  | _ => none }
def fnLeastBookRow : OpenClaim := { program := "ytobdgfapjcepkaa", sum := "c1a4e114844a4d71bcf9782090be444af06b8af1ee8793a29b9a98949d7b40dd", func := "loop.example/debtclearing/laws.FnLeastBook", spec := "fnLeastBook", apart := false }
def FnLeastBookSaid : Prop := fnLeastBookRow.holds Try.pinned (OpenSpec.ofChange fnLeastBookSpec)

/-- ITS FALSE NEIGHBOUR: 'it returns false'. Refute it at one input. -/
def fnLeastBookWrong : ChangeSpec := { name := "fnLeastBook", fn := fun _ => fun
  | [d] => { results := [.lit (.bool false)], args := [d] }
  | _ => none }
def FnLeastBookWrongFalsely : Prop := fnLeastBookRow.holds Try.pinned (OpenSpec.ofChange fnLeastBookWrong)

/-- 'laws.FnExactLeastBook': WHATEVER THE INPUT: true; the input reads as it did. -/
def fnExactLeastBookSpec : ChangeSpec := { name := "fnExactLeastBook", fn := fun _ => fun
  | [d] => { results := [.lit (.bool true)], args := [d] }
  | _ => none }
def fnExactLeastBookRow : OpenClaim := { program := "ytobdgfapjcepkaa", sum := "c1a4e114844a4d71bcf9782090be444af06b8af1ee8793a29b9a98949d7b40dd", func := "loop.example/debtclearing/laws.FnExactLeastBook", spec := "fnExactLeastBook", apart := false }
def FnExactLeastBookSaid : Prop := fnExactLeastBookRow.holds Try.pinned (OpenSpec.ofChange fnExactLeastBookSpec)

/-- ITS FALSE NEIGHBOUR: 'it returns false'. Refute it at one input. -/
def fnExactLeastBookWrong : ChangeSpec := { name := "fnExactLeastBook", fn := fun _ => fun
  | [d] => { results := [.lit (.bool false)], args := [d] }
  | _ => none }
def FnExactLeastBookWrongFalsely : Prop := fnExactLeastBookRow.holds Try.pinned (OpenSpec.ofChange fnExactLeastBookWrong)

/- THE SECOND FORM. 'bulk': how many values and letters a reading holds, each counted each time it is reached (what is shared counts as often as it is met; a slice's spare places count too). A statement '..UptoSaid' is the law's where the arguments, and the package variables that the reading takes, are together of bulk at most 1048576: NARROWER than '..Said'. Prove '..Said' where nothing that the law and all that it calls make is longer than what came in: it says more and counts as full. Else prove '..UptoSaid'. A law counts once. -/
mutual
def uptoBulk {H : Type} : DataW H → Nat
  | .lit (.string bytes) => bytes.length + 1
  | .lit _ => 1
  | .nil => 1
  | .ptr d => uptoBulk d + 1
  | .slice elems spare => uptoBulkAll elems + uptoBulkAll spare + 1
  | .agg parts => uptoBulkAll parts + 1
  | .iface _ d => uptoBulk d + 1
  | .map entries => uptoBulkEntries entries + 1
  | .held _ => 1
def uptoBulkAll {H : Type} : List (DataW H) → Nat
  | [] => 0
  | d :: r => uptoBulk d + uptoBulkAll r
def uptoBulkEntries {H : Type} : List (Lit × DataW H) → Nat
  | [] => 0
  | x :: r => uptoBulkEntry x + uptoBulkEntries r
def uptoBulkEntry {H : Type} : Lit × DataW H → Nat
  | (.string bytes, d) => bytes.length + uptoBulk d + 1
  | (_, d) => uptoBulk d + 1
 end
def uptoSmall : (H : Type) → List (DataW H) → Bool := fun _ ds => decide (uptoBulkAll ds ≤ 1048576)
def OpenSpec.upto (s : _root_.Go.ChangeSpec) : _root_.Go.OpenSpec := { _root_.Go.OpenSpec.ofChange s with cond := some uptoSmall }

/-- 'laws.FnNetsOf', WHERE WHAT IT READS IS OF BULK AT MOST 1048576: true; the input reads as it did. -/
def fnNetsOfUptoRow : OpenClaim := { program := "ytobdgfapjcepkaa", sum := "c1a4e114844a4d71bcf9782090be444af06b8af1ee8793a29b9a98949d7b40dd", func := "loop.example/debtclearing/laws.FnNetsOf", spec := "fnNetsOf", apart := false, narrowed := true }
def FnNetsOfUptoSaid : Prop := fnNetsOfUptoRow.holds Try.pinned (OpenSpec.upto fnNetsOfSpec)

/-- 'laws.FnExactNonePaid', WHERE WHAT IT READS IS OF BULK AT MOST 1048576: true; the input reads as it did. -/
def fnExactNonePaidUptoRow : OpenClaim := { program := "ytobdgfapjcepkaa", sum := "c1a4e114844a4d71bcf9782090be444af06b8af1ee8793a29b9a98949d7b40dd", func := "loop.example/debtclearing/laws.FnExactNonePaid", spec := "fnExactNonePaid", apart := false, narrowed := true }
def FnExactNonePaidUptoSaid : Prop := fnExactNonePaidUptoRow.holds Try.pinned (OpenSpec.upto fnExactNonePaidSpec)

/-- 'laws.FnExactNetsOf', WHERE WHAT IT READS IS OF BULK AT MOST 1048576: true; the input reads as it did. -/
def fnExactNetsOfUptoRow : OpenClaim := { program := "ytobdgfapjcepkaa", sum := "c1a4e114844a4d71bcf9782090be444af06b8af1ee8793a29b9a98949d7b40dd", func := "loop.example/debtclearing/laws.FnExactNetsOf", spec := "fnExactNetsOf", apart := false, narrowed := true }
def FnExactNetsOfUptoSaid : Prop := fnExactNetsOfUptoRow.holds Try.pinned (OpenSpec.upto fnExactNetsOfSpec)

/-- 'laws.FnExactOrderOf', WHERE WHAT IT READS IS OF BULK AT MOST 1048576: true; the input reads as it did. -/
def fnExactOrderOfUptoRow : OpenClaim := { program := "ytobdgfapjcepkaa", sum := "c1a4e114844a4d71bcf9782090be444af06b8af1ee8793a29b9a98949d7b40dd", func := "loop.example/debtclearing/laws.FnExactOrderOf", spec := "fnExactOrderOf", apart := false, narrowed := true }
def FnExactOrderOfUptoSaid : Prop := fnExactOrderOfUptoRow.holds Try.pinned (OpenSpec.upto fnExactOrderOfSpec)

/-- 'laws.FnExactNetted', WHERE WHAT IT READS IS OF BULK AT MOST 1048576: true; the input reads as it did. -/
def fnExactNettedUptoRow : OpenClaim := { program := "ytobdgfapjcepkaa", sum := "c1a4e114844a4d71bcf9782090be444af06b8af1ee8793a29b9a98949d7b40dd", func := "loop.example/debtclearing/laws.FnExactNetted", spec := "fnExactNetted", apart := false, narrowed := true }
def FnExactNettedUptoSaid : Prop := fnExactNettedUptoRow.holds Try.pinned (OpenSpec.upto fnExactNettedSpec)

/-- 'laws.FnAllPaid', WHERE WHAT IT READS IS OF BULK AT MOST 1048576: true; the input reads as it did. -/
def fnAllPaidUptoRow : OpenClaim := { program := "ytobdgfapjcepkaa", sum := "c1a4e114844a4d71bcf9782090be444af06b8af1ee8793a29b9a98949d7b40dd", func := "loop.example/debtclearing/laws.FnAllPaid", spec := "fnAllPaid", apart := false, narrowed := true }
def FnAllPaidUptoSaid : Prop := fnAllPaidUptoRow.holds Try.pinned (OpenSpec.upto fnAllPaidSpec)

/-- 'laws.FnExactAllPaid', WHERE WHAT IT READS IS OF BULK AT MOST 1048576: true; the input reads as it did. -/
def fnExactAllPaidUptoRow : OpenClaim := { program := "ytobdgfapjcepkaa", sum := "c1a4e114844a4d71bcf9782090be444af06b8af1ee8793a29b9a98949d7b40dd", func := "loop.example/debtclearing/laws.FnExactAllPaid", spec := "fnExactAllPaid", apart := false, narrowed := true }
def FnExactAllPaidUptoSaid : Prop := fnExactAllPaidUptoRow.holds Try.pinned (OpenSpec.upto fnExactAllPaidSpec)

/-- 'laws.FnLeastBook', WHERE WHAT IT READS IS OF BULK AT MOST 1048576: true; the input reads as it did. -/
def fnLeastBookUptoRow : OpenClaim := { program := "ytobdgfapjcepkaa", sum := "c1a4e114844a4d71bcf9782090be444af06b8af1ee8793a29b9a98949d7b40dd", func := "loop.example/debtclearing/laws.FnLeastBook", spec := "fnLeastBook", apart := false, narrowed := true }
def FnLeastBookUptoSaid : Prop := fnLeastBookUptoRow.holds Try.pinned (OpenSpec.upto fnLeastBookSpec)

/-- 'laws.FnExactLeastBook', WHERE WHAT IT READS IS OF BULK AT MOST 1048576: true; the input reads as it did. -/
def fnExactLeastBookUptoRow : OpenClaim := { program := "ytobdgfapjcepkaa", sum := "c1a4e114844a4d71bcf9782090be444af06b8af1ee8793a29b9a98949d7b40dd", func := "loop.example/debtclearing/laws.FnExactLeastBook", spec := "fnExactLeastBook", apart := false, narrowed := true }
def FnExactLeastBookUptoSaid : Prop := fnExactLeastBookUptoRow.holds Try.pinned (OpenSpec.upto fnExactLeastBookSpec)

end Rows
end Go.Proofs.Ytobdgfapjcepkaa
