/-
  No cell of these rows narrows 'for every input' (looked for: loops, veiled, ifaces, maps, wideKeys, modest, calm, conditions, laid).
  DERIVED. THE GIVEN ROWS OF THIS SEAT. 10 by the template 'for every input the law returns true; each argument reads behind the call as it read before'; 0 by the template 'total and deterministic' (their statements: YtofcigjigflnlaaTotals.lean).
  GIVEN WITH THE SEED: the statements are not yours to turn. If you find one false, say at which input.
  Laid BY PROGRAM, IN A SANDBOX (cutbox-rows.mjs): the forced cells as the released guide's own fill.sh prints them over the translation c6b345daf1018111… (all of the seat's roots in one cut). By AI agents, Wed Nov 11 2026. No macro, syntax, notation, axiom, sorry.
-/
import Derived.Test.YtofcigjigflnlaaChecked
import GoSem.Claim
import GoSem.ClaimJoined
import GoSem.ClaimMapViews
import Derived.JoinedTies
import Derived.KernelRfl
namespace Go.Proofs.Ytofcigjigflnlaa
/- THE CELL 'sum', in the pinned program and in every row, IS THE sha256 OF THE DUMP (.gsa) THAT YtofcigjigflnlaaProg.lean LOADS. Nothing in Lean hashes anything: it is a label: what it is worth is what the hold of that sum in a sandbox is worth. -/
noncomputable def Try.pinned : Pinned := { name := "ytofcigjigflnlaa", sum := "c6b345daf1018111ccee5cb99bc66204e38a7d8419cf88d19f598a483fdcbc3b", checked := Try.checked }
namespace Rows
def none {H : Type} : Left H := { results := [], args := [] }

/-- 'laws.FnExactConstants': WHATEVER THE INPUT: true; the input reads as it did. -/
def fnExactConstantsSpec : ChangeSpec := { name := "fnExactConstants", fn := fun _ => fun
  | [] => { results := [.lit (.bool true)], args := [] }
  | _ => none }
def fnExactConstantsRow : OpenClaim := { program := "ytofcigjigflnlaa", sum := "c6b345daf1018111ccee5cb99bc66204e38a7d8419cf88d19f598a483fdcbc3b", func := "loop.example/debtclearing/laws.FnExactConstants", spec := "fnExactConstants", apart := false }
def FnExactConstantsSaid : Prop := fnExactConstantsRow.holds Try.pinned (OpenSpec.ofChange fnExactConstantsSpec)

/-- ITS FALSE NEIGHBOUR: 'it returns false'. Refute it at one input. -/
def fnExactConstantsWrong : ChangeSpec := { name := "fnExactConstants", fn := fun _ => fun
  | [] => { results := [.lit (.bool false)], args := [] }
  | _ => none }
def FnExactConstantsWrongFalsely : Prop := fnExactConstantsRow.holds Try.pinned (OpenSpec.ofChange fnExactConstantsWrong)

/-- 'laws.FnExactFracOk': WHATEVER THE INPUT: true; the input reads as it did. -/
def fnExactFracOkSpec : ChangeSpec := { name := "fnExactFracOk", fn := fun _ => fun
  | [d] => { results := [.lit (.bool true)], args := [d] }
  | _ => none }
def fnExactFracOkRow : OpenClaim := { program := "ytofcigjigflnlaa", sum := "c6b345daf1018111ccee5cb99bc66204e38a7d8419cf88d19f598a483fdcbc3b", func := "loop.example/debtclearing/laws.FnExactFracOk", spec := "fnExactFracOk", apart := false }
def FnExactFracOkSaid : Prop := fnExactFracOkRow.holds Try.pinned (OpenSpec.ofChange fnExactFracOkSpec)

/-- ITS FALSE NEIGHBOUR: 'it returns false'. Refute it at one input. -/
def fnExactFracOkWrong : ChangeSpec := { name := "fnExactFracOk", fn := fun _ => fun
  | [d] => { results := [.lit (.bool false)], args := [d] }
  | _ => none }
def FnExactFracOkWrongFalsely : Prop := fnExactFracOkRow.holds Try.pinned (OpenSpec.ofChange fnExactFracOkWrong)

/-- 'laws.FnExactFracOf': WHATEVER THE INPUT: true; the input reads as it did. -/
def fnExactFracOfSpec : ChangeSpec := { name := "fnExactFracOf", fn := fun _ => fun
  | [d1, d2] => { results := [.lit (.bool true)], args := [d1, d2] }
  | _ => none }
def fnExactFracOfRow : OpenClaim := { program := "ytofcigjigflnlaa", sum := "c6b345daf1018111ccee5cb99bc66204e38a7d8419cf88d19f598a483fdcbc3b", func := "loop.example/debtclearing/laws.FnExactFracOf", spec := "fnExactFracOf", apart := false }
def FnExactFracOfSaid : Prop := fnExactFracOfRow.holds Try.pinned (OpenSpec.ofChange fnExactFracOfSpec)

/-- ITS FALSE NEIGHBOUR: 'it returns false'. Refute it at one input. -/
def fnExactFracOfWrong : ChangeSpec := { name := "fnExactFracOf", fn := fun _ => fun
  | [d1, d2] => { results := [.lit (.bool false)], args := [d1, d2] }
  | _ => none }
def FnExactFracOfWrongFalsely : Prop := fnExactFracOfRow.holds Try.pinned (OpenSpec.ofChange fnExactFracOfWrong)

/-- 'laws.FnExactBeforeOf': WHATEVER THE INPUT: true; the input reads as it did. -/
def fnExactBeforeOfSpec : ChangeSpec := { name := "fnExactBeforeOf", fn := fun _ => fun
  | [d1, d2] => { results := [.lit (.bool true)], args := [d1, d2] }
  | _ => none }
def fnExactBeforeOfRow : OpenClaim := { program := "ytofcigjigflnlaa", sum := "c6b345daf1018111ccee5cb99bc66204e38a7d8419cf88d19f598a483fdcbc3b", func := "loop.example/debtclearing/laws.FnExactBeforeOf", spec := "fnExactBeforeOf", apart := false }
def FnExactBeforeOfSaid : Prop := fnExactBeforeOfRow.holds Try.pinned (OpenSpec.ofChange fnExactBeforeOfSpec)

/-- ITS FALSE NEIGHBOUR: 'it returns false'. Refute it at one input. -/
def fnExactBeforeOfWrong : ChangeSpec := { name := "fnExactBeforeOf", fn := fun _ => fun
  | [d1, d2] => { results := [.lit (.bool false)], args := [d1, d2] }
  | _ => none }
def FnExactBeforeOfWrongFalsely : Prop := fnExactBeforeOfRow.holds Try.pinned (OpenSpec.ofChange fnExactBeforeOfWrong)

/-- 'laws.FnExactOverOf': WHATEVER THE INPUT: true; the input reads as it did. -/
def fnExactOverOfSpec : ChangeSpec := { name := "fnExactOverOf", fn := fun _ => fun
  | [d1, d2] => { results := [.lit (.bool true)], args := [d1, d2] }
  | _ => none }
def fnExactOverOfRow : OpenClaim := { program := "ytofcigjigflnlaa", sum := "c6b345daf1018111ccee5cb99bc66204e38a7d8419cf88d19f598a483fdcbc3b", func := "loop.example/debtclearing/laws.FnExactOverOf", spec := "fnExactOverOf", apart := false }
def FnExactOverOfSaid : Prop := fnExactOverOfRow.holds Try.pinned (OpenSpec.ofChange fnExactOverOfSpec)

/-- ITS FALSE NEIGHBOUR: 'it returns false'. Refute it at one input. -/
def fnExactOverOfWrong : ChangeSpec := { name := "fnExactOverOf", fn := fun _ => fun
  | [d1, d2] => { results := [.lit (.bool false)], args := [d1, d2] }
  | _ => none }
def FnExactOverOfWrongFalsely : Prop := fnExactOverOfRow.holds Try.pinned (OpenSpec.ofChange fnExactOverOfWrong)

/-- 'laws.FnExactPlusOf': WHATEVER THE INPUT: true; the input reads as it did. -/
def fnExactPlusOfSpec : ChangeSpec := { name := "fnExactPlusOf", fn := fun _ => fun
  | [d1, d2] => { results := [.lit (.bool true)], args := [d1, d2] }
  | _ => none }
def fnExactPlusOfRow : OpenClaim := { program := "ytofcigjigflnlaa", sum := "c6b345daf1018111ccee5cb99bc66204e38a7d8419cf88d19f598a483fdcbc3b", func := "loop.example/debtclearing/laws.FnExactPlusOf", spec := "fnExactPlusOf", apart := false }
def FnExactPlusOfSaid : Prop := fnExactPlusOfRow.holds Try.pinned (OpenSpec.ofChange fnExactPlusOfSpec)

/-- ITS FALSE NEIGHBOUR: 'it returns false'. Refute it at one input. -/
def fnExactPlusOfWrong : ChangeSpec := { name := "fnExactPlusOf", fn := fun _ => fun
  | [d1, d2] => { results := [.lit (.bool false)], args := [d1, d2] }
  | _ => none }
def FnExactPlusOfWrongFalsely : Prop := fnExactPlusOfRow.holds Try.pinned (OpenSpec.ofChange fnExactPlusOfWrong)

/-- 'laws.FnExactTimesOf': WHATEVER THE INPUT: true; the input reads as it did. -/
def fnExactTimesOfSpec : ChangeSpec := { name := "fnExactTimesOf", fn := fun _ => fun
  | [d1, d2] => { results := [.lit (.bool true)], args := [d1, d2] }
  | _ => none }
def fnExactTimesOfRow : OpenClaim := { program := "ytofcigjigflnlaa", sum := "c6b345daf1018111ccee5cb99bc66204e38a7d8419cf88d19f598a483fdcbc3b", func := "loop.example/debtclearing/laws.FnExactTimesOf", spec := "fnExactTimesOf", apart := false }
def FnExactTimesOfSaid : Prop := fnExactTimesOfRow.holds Try.pinned (OpenSpec.ofChange fnExactTimesOfSpec)

/-- ITS FALSE NEIGHBOUR: 'it returns false'. Refute it at one input. -/
def fnExactTimesOfWrong : ChangeSpec := { name := "fnExactTimesOf", fn := fun _ => fun
  | [d1, d2] => { results := [.lit (.bool false)], args := [d1, d2] }
  | _ => none }
def FnExactTimesOfWrongFalsely : Prop := fnExactTimesOfRow.holds Try.pinned (OpenSpec.ofChange fnExactTimesOfWrong)

/-- 'laws.FnFracOk': WHATEVER THE INPUT: true; the input reads as it did. -/
def fnFracOkSpec : ChangeSpec := { name := "fnFracOk", fn := fun _ => fun
  | [d] => { results := [.lit (.bool true)], args := [d] }
  | _ => none }
def fnFracOkRow : OpenClaim := { program := "ytofcigjigflnlaa", sum := "c6b345daf1018111ccee5cb99bc66204e38a7d8419cf88d19f598a483fdcbc3b", func := "loop.example/debtclearing/laws.FnFracOk", spec := "fnFracOk", apart := false }
def FnFracOkSaid : Prop := fnFracOkRow.holds Try.pinned (OpenSpec.ofChange fnFracOkSpec)

/-- ITS FALSE NEIGHBOUR: 'it returns false'. Refute it at one input. -/
def fnFracOkWrong : ChangeSpec := { name := "fnFracOk", fn := fun _ => fun
  | [d] => { results := [.lit (.bool false)], args := [d] }
  | _ => none }
def FnFracOkWrongFalsely : Prop := fnFracOkRow.holds Try.pinned (OpenSpec.ofChange fnFracOkWrong)

/-- 'laws.FnExactLessOf': WHATEVER THE INPUT: true; the input reads as it did. -/
def fnExactLessOfSpec : ChangeSpec := { name := "fnExactLessOf", fn := fun _ => fun
  | [d1, d2] => { results := [.lit (.bool true)], args := [d1, d2] }
  | _ => none }
def fnExactLessOfRow : OpenClaim := { program := "ytofcigjigflnlaa", sum := "c6b345daf1018111ccee5cb99bc66204e38a7d8419cf88d19f598a483fdcbc3b", func := "loop.example/debtclearing/laws.FnExactLessOf", spec := "fnExactLessOf", apart := false }
def FnExactLessOfSaid : Prop := fnExactLessOfRow.holds Try.pinned (OpenSpec.ofChange fnExactLessOfSpec)

/-- ITS FALSE NEIGHBOUR: 'it returns false'. Refute it at one input. -/
def fnExactLessOfWrong : ChangeSpec := { name := "fnExactLessOf", fn := fun _ => fun
  | [d1, d2] => { results := [.lit (.bool false)], args := [d1, d2] }
  | _ => none }
def FnExactLessOfWrongFalsely : Prop := fnExactLessOfRow.holds Try.pinned (OpenSpec.ofChange fnExactLessOfWrong)

/-- 'laws.FnFracOf': WHATEVER THE INPUT: true; the input reads as it did. -/
def fnFracOfSpec : ChangeSpec := { name := "fnFracOf", fn := fun _ => fun
  | [d] => { results := [.lit (.bool true)], args := [d] }
  | _ => none }
def fnFracOfRow : OpenClaim := { program := "ytofcigjigflnlaa", sum := "c6b345daf1018111ccee5cb99bc66204e38a7d8419cf88d19f598a483fdcbc3b", func := "loop.example/debtclearing/laws.FnFracOf", spec := "fnFracOf", apart := false }
def FnFracOfSaid : Prop := fnFracOfRow.holds Try.pinned (OpenSpec.ofChange fnFracOfSpec)

/-- ITS FALSE NEIGHBOUR: 'it returns false'. Refute it at one input. -/
def fnFracOfWrong : ChangeSpec := { name := "fnFracOf", fn := fun _ => fun
  | [d] => { results := [.lit (.bool false)], args := [d] }
  | _ => none }
def FnFracOfWrongFalsely : Prop := fnFracOfRow.holds Try.pinned (OpenSpec.ofChange fnFracOfWrong)

/- THE SECOND FORM. 'bulk': how many values and letters a reading holds, each counted each time it is reached (what is shared counts as often as it is met; a slice's spare places count too). A statement '..UptoSaid' is the law's where the arguments, and the package variables that the reading takes, are together of bulk at most 1048576: NARROWER than '..Said'. Prove '..Said' where nothing that the law and all that it calls make is longer than what came in: it says more and counts as full. Else prove '..UptoSaid'. A law counts once. -/
mutual
def uptoBulk {H : Type} : DataW H → Nat
  | .lit (.string bytes) => bytes.length + 1
  | .lit _ => 1
  | .nil => 1
  | .ptr d => uptoBulk d + 1
  | .slice elems spare => uptoBulkAll elems + uptoBulkAll spare + 1
  | .agg parts => uptoBulkAll parts + 1
  | .iface _ d => uptoBulk d + 1
  | .map entries => uptoBulkEntries entries + 1
  | .held _ => 1
def uptoBulkAll {H : Type} : List (DataW H) → Nat
  | [] => 0
  | d :: r => uptoBulk d + uptoBulkAll r
def uptoBulkEntries {H : Type} : List (Lit × DataW H) → Nat
  | [] => 0
  | x :: r => uptoBulkEntry x + uptoBulkEntries r
def uptoBulkEntry {H : Type} : Lit × DataW H → Nat
  | (.string bytes, d) => bytes.length + uptoBulk d + 1
  | (_, d) => uptoBulk d + 1
 end
def uptoSmall : (H : Type) → List (DataW H) → Bool := fun _ ds => decide (uptoBulkAll ds ≤ 1048576)
def OpenSpec.upto (s : _root_.Go.ChangeSpec) : _root_.Go.OpenSpec := { _root_.Go.OpenSpec.ofChange s with cond := some uptoSmall }

/-- 'laws.FnExactConstants', WHERE WHAT IT READS IS OF BULK AT MOST 1048576: true; the input reads as it did. -/
def fnExactConstantsUptoRow : OpenClaim := { program := "ytofcigjigflnlaa", sum := "c6b345daf1018111ccee5cb99bc66204e38a7d8419cf88d19f598a483fdcbc3b", func := "loop.example/debtclearing/laws.FnExactConstants", spec := "fnExactConstants", apart := false, narrowed := true }
def FnExactConstantsUptoSaid : Prop := fnExactConstantsUptoRow.holds Try.pinned (OpenSpec.upto fnExactConstantsSpec)

/-- 'laws.FnExactFracOk', WHERE WHAT IT READS IS OF BULK AT MOST 1048576: true; the input reads as it did. -/
def fnExactFracOkUptoRow : OpenClaim := { program := "ytofcigjigflnlaa", sum := "c6b345daf1018111ccee5cb99bc66204e38a7d8419cf88d19f598a483fdcbc3b", func := "loop.example/debtclearing/laws.FnExactFracOk", spec := "fnExactFracOk", apart := false, narrowed := true }
def FnExactFracOkUptoSaid : Prop := fnExactFracOkUptoRow.holds Try.pinned (OpenSpec.upto fnExactFracOkSpec)

/-- 'laws.FnExactFracOf', WHERE WHAT IT READS IS OF BULK AT MOST 1048576: true; the input reads as it did. -/
def fnExactFracOfUptoRow : OpenClaim := { program := "ytofcigjigflnlaa", sum := "c6b345daf1018111ccee5cb99bc66204e38a7d8419cf88d19f598a483fdcbc3b", func := "loop.example/debtclearing/laws.FnExactFracOf", spec := "fnExactFracOf", apart := false, narrowed := true }
def FnExactFracOfUptoSaid : Prop := fnExactFracOfUptoRow.holds Try.pinned (OpenSpec.upto fnExactFracOfSpec)

/-- 'laws.FnExactBeforeOf', WHERE WHAT IT READS IS OF BULK AT MOST 1048576: true; the input reads as it did. -/
def fnExactBeforeOfUptoRow : OpenClaim := { program := "ytofcigjigflnlaa", sum := "c6b345daf1018111ccee5cb99bc66204e38a7d8419cf88d19f598a483fdcbc3b", func := "loop.example/debtclearing/laws.FnExactBeforeOf", spec := "fnExactBeforeOf", apart := false, narrowed := true }
def FnExactBeforeOfUptoSaid : Prop := fnExactBeforeOfUptoRow.holds Try.pinned (OpenSpec.upto fnExactBeforeOfSpec)

/-- 'laws.FnExactOverOf', WHERE WHAT IT READS IS OF BULK AT MOST 1048576: true; the input reads as it did. -/
def fnExactOverOfUptoRow : OpenClaim := { program := "ytofcigjigflnlaa", sum := "c6b345daf1018111ccee5cb99bc66204e38a7d8419cf88d19f598a483fdcbc3b", func := "loop.example/debtclearing/laws.FnExactOverOf", spec := "fnExactOverOf", apart := false, narrowed := true }
def FnExactOverOfUptoSaid : Prop := fnExactOverOfUptoRow.holds Try.pinned (OpenSpec.upto fnExactOverOfSpec)

/-- 'laws.FnExactPlusOf', WHERE WHAT IT READS IS OF BULK AT MOST 1048576: true; the input reads as it did. -/
def fnExactPlusOfUptoRow : OpenClaim := { program := "ytofcigjigflnlaa", sum := "c6b345daf1018111ccee5cb99bc66204e38a7d8419cf88d19f598a483fdcbc3b", func := "loop.example/debtclearing/laws.FnExactPlusOf", spec := "fnExactPlusOf", apart := false, narrowed := true }
def FnExactPlusOfUptoSaid : Prop := fnExactPlusOfUptoRow.holds Try.pinned (OpenSpec.upto fnExactPlusOfSpec)

/-- 'laws.FnExactTimesOf', WHERE WHAT IT READS IS OF BULK AT MOST 1048576: true; the input reads as it did. -/
def fnExactTimesOfUptoRow : OpenClaim := { program := "ytofcigjigflnlaa", sum := "c6b345daf1018111ccee5cb99bc66204e38a7d8419cf88d19f598a483fdcbc3b", func := "loop.example/debtclearing/laws.FnExactTimesOf", spec := "fnExactTimesOf", apart := false, narrowed := true }
def FnExactTimesOfUptoSaid : Prop := fnExactTimesOfUptoRow.holds Try.pinned (OpenSpec.upto fnExactTimesOfSpec)

/-- 'laws.FnFracOk', WHERE WHAT IT READS IS OF BULK AT MOST 1048576: true; the input reads as it did. -/
def fnFracOkUptoRow : OpenClaim := { program := "ytofcigjigflnlaa", sum := "c6b345daf1018111ccee5cb99bc66204e38a7d8419cf88d19f598a483fdcbc3b", func := "loop.example/debtclearing/laws.FnFracOk", spec := "fnFracOk", apart := false, narrowed := true }
def FnFracOkUptoSaid : Prop := fnFracOkUptoRow.holds Try.pinned (OpenSpec.upto fnFracOkSpec)

/-- 'laws.FnExactLessOf', WHERE WHAT IT READS IS OF BULK AT MOST 1048576: true; the input reads as it did. -/
def fnExactLessOfUptoRow : OpenClaim := { program := "ytofcigjigflnlaa", sum := "c6b345daf1018111ccee5cb99bc66204e38a7d8419cf88d19f598a483fdcbc3b", func := "loop.example/debtclearing/laws.FnExactLessOf", spec := "fnExactLessOf", apart := false, narrowed := true }
def FnExactLessOfUptoSaid : Prop := fnExactLessOfUptoRow.holds Try.pinned (OpenSpec.upto fnExactLessOfSpec)

/-- 'laws.FnFracOf', WHERE WHAT IT READS IS OF BULK AT MOST 1048576: true; the input reads as it did. -/
def fnFracOfUptoRow : OpenClaim := { program := "ytofcigjigflnlaa", sum := "c6b345daf1018111ccee5cb99bc66204e38a7d8419cf88d19f598a483fdcbc3b", func := "loop.example/debtclearing/laws.FnFracOf", spec := "fnFracOf", apart := false, narrowed := true }
def FnFracOfUptoSaid : Prop := fnFracOfUptoRow.holds Try.pinned (OpenSpec.upto fnFracOfSpec)

end Rows
end Go.Proofs.Ytofcigjigflnlaa
