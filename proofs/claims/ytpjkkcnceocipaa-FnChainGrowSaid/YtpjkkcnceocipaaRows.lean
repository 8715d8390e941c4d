/-
  No cell of these rows narrows 'for every input' (looked for: loops, veiled, ifaces, maps, wideKeys, modest, calm, conditions, laid).
  DERIVED. THE GIVEN ROWS OF THIS SEAT. 8 by the template 'for every input the law returns true; each argument reads behind the call as it read before'; 0 by the template 'total and deterministic' (their statements: YtpjkkcnceocipaaTotals.lean).
  GIVEN WITH THE SEED: the statements are not yours to turn. If you find one false, say at which input.
  Laid BY PROGRAM, IN A SANDBOX (cutbox-rows.mjs): the forced cells as the released guide's own fill.sh prints them over the translation 4c6b047e90d8256a… (all of the seat's roots in one cut). By AI agents, Wed Nov 11 2026. No macro, syntax, notation, axiom, sorry.
-/
import Derived.Test.YtpjkkcnceocipaaChecked
import GoSem.Claim
import GoSem.ClaimJoined
import GoSem.ClaimMapViews
import Derived.JoinedTies
import Derived.KernelRfl
namespace Go.Proofs.Ytpjkkcnceocipaa
/- THE CELL 'sum', in the pinned program and in every row, IS THE sha256 OF THE DUMP (.gsa) THAT YtpjkkcnceocipaaProg.lean LOADS. Nothing in Lean hashes anything: it is a label: what it is worth is what the hold of that sum in a sandbox is worth. -/
noncomputable def Try.pinned : Pinned := { name := "ytpjkkcnceocipaa", sum := "4c6b047e90d8256ae3b52f37bbb51eb910a42c54f81b8fd7d49110888f0d540c", checked := Try.checked }
namespace Rows
def none {H : Type} : Left H := { results := [], args := [] }

/-- 'laws.FnExactChainOk': WHATEVER THE INPUT: true; the input reads as it did. -/
def fnExactChainOkSpec : ChangeSpec := { name := "fnExactChainOk", fn := fun _ => fun
  | [d] => { results := [.lit (.bool true)], args := [d] }
  | _ => none }
def fnExactChainOkRow : OpenClaim := { program := "ytpjkkcnceocipaa", sum := "4c6b047e90d8256ae3b52f37bbb51eb910a42c54f81b8fd7d49110888f0d540c", func := "loop.example/witan/laws.FnExactChainOk", spec := "fnExactChainOk", apart := false }
def FnExactChainOkSaid : Prop := fnExactChainOkRow.holds Try.pinned (OpenSpec.ofChange fnExactChainOkSpec)

/-- ITS FALSE NEIGHBOUR: 'it returns false'. Refute it at one input. -/
def fnExactChainOkWrong : ChangeSpec := { name := "fnExactChainOk", fn := fun _ => fun
  | [d] => { results := [.lit (.bool false)], args := [d] }
  | _ => none }
def FnExactChainOkWrongFalsely : Prop := fnExactChainOkRow.holds Try.pinned (OpenSpec.ofChange fnExactChainOkWrong)

/-- 'laws.FnChainGrow': WHATEVER THE INPUT: true; the input reads as it did. -/
def fnChainGrowSpec : ChangeSpec := { name := "fnChainGrow", fn := fun _ => fun
  | [d1, d2] => { results := [.lit (.bool true)], args := [d1, d2] }
  | _ => none }
def fnChainGrowRow : OpenClaim := { program := "ytpjkkcnceocipaa", sum := "4c6b047e90d8256ae3b52f37bbb51eb910a42c54f81b8fd7d49110888f0d540c", func := "loop.example/witan/laws.FnChainGrow", spec := "fnChainGrow", apart := false }
def FnChainGrowSaid : Prop := fnChainGrowRow.holds Try.pinned (OpenSpec.ofChange fnChainGrowSpec)

/-- ITS FALSE NEIGHBOUR: 'it returns false'. Refute it at one input. -/
def fnChainGrowWrong : ChangeSpec := { name := "fnChainGrow", fn := fun _ => fun
  | [d1, d2] => { results := [.lit (.bool false)], args := [d1, d2] }
  | _ => none }
def FnChainGrowWrongFalsely : Prop := fnChainGrowRow.holds Try.pinned (OpenSpec.ofChange fnChainGrowWrong)

/-- 'laws.FnChainLess': WHATEVER THE INPUT: true; the input reads as it did. -/
def fnChainLessSpec : ChangeSpec := { name := "fnChainLess", fn := fun _ => fun
  | [d1, d2] => { results := [.lit (.bool true)], args := [d1, d2] }
  | _ => none }
def fnChainLessRow : OpenClaim := { program := "ytpjkkcnceocipaa", sum := "4c6b047e90d8256ae3b52f37bbb51eb910a42c54f81b8fd7d49110888f0d540c", func := "loop.example/witan/laws.FnChainLess", spec := "fnChainLess", apart := false }
def FnChainLessSaid : Prop := fnChainLessRow.holds Try.pinned (OpenSpec.ofChange fnChainLessSpec)

/-- ITS FALSE NEIGHBOUR: 'it returns false'. Refute it at one input. -/
def fnChainLessWrong : ChangeSpec := { name := "fnChainLess", fn := fun _ => fun
  | [d1, d2] => { results := [.lit (.bool false)], args := [d1, d2] }
  | _ => none }
def FnChainLessWrongFalsely : Prop := fnChainLessRow.holds Try.pinned (OpenSpec.ofChange fnChainLessWrong)

/-- 'laws.FnExactChainIn': WHATEVER THE INPUT: true; the input reads as it did. -/
def fnExactChainInSpec : ChangeSpec := { name := "fnExactChainIn", fn := fun _ => fun
  | [d1, d2] => { results := [.lit (.bool true)], args := [d1, d2] }
  | _ => none }
def fnExactChainInRow : OpenClaim := { program := "ytpjkkcnceocipaa", sum := "4c6b047e90d8256ae3b52f37bbb51eb910a42c54f81b8fd7d49110888f0d540c", func := "loop.example/witan/laws.FnExactChainIn", spec := "fnExactChainIn", apart := false }
def FnExactChainInSaid : Prop := fnExactChainInRow.holds Try.pinned (OpenSpec.ofChange fnExactChainInSpec)

/-- ITS FALSE NEIGHBOUR: 'it returns false'. Refute it at one input. -/
def fnExactChainInWrong : ChangeSpec := { name := "fnExactChainIn", fn := fun _ => fun
  | [d1, d2] => { results := [.lit (.bool false)], args := [d1, d2] }
  | _ => none }
def FnExactChainInWrongFalsely : Prop := fnExactChainInRow.holds Try.pinned (OpenSpec.ofChange fnExactChainInWrong)

/-- 'laws.FnChainIn': WHATEVER THE INPUT: true; the input reads as it did. -/
def fnChainInSpec : ChangeSpec := { name := "fnChainIn", fn := fun _ => fun
  | [d1, d2] => { results := [.lit (.bool true)], args := [d1, d2] }
  | _ => none }
def fnChainInRow : OpenClaim := { program := "ytpjkkcnceocipaa", sum := "4c6b047e90d8256ae3b52f37bbb51eb910a42c54f81b8fd7d49110888f0d540c", func := "loop.example/witan/laws.FnChainIn", spec := "fnChainIn", apart := false }
def FnChainInSaid : Prop := fnChainInRow.holds Try.pinned (OpenSpec.ofChange fnChainInSpec)

/-- ITS FALSE NEIGHBOUR: 'it returns false'. Refute it at one input. -/
def fnChainInWrong : ChangeSpec := { name := "fnChainIn", fn := fun _ => fun
  | [d1, d2] => { results := [.lit (.bool false)], args := [d1, d2] }
  | _ => none }
def FnChainInWrongFalsely : Prop := fnChainInRow.holds Try.pinned (OpenSpec.ofChange fnChainInWrong)

/-- 'laws.FnBothThree': WHATEVER THE INPUT: true; the input reads as it did. -/
def fnBothThreeSpec : ChangeSpec := { name := "fnBothThree", fn := fun _ => fun
  | [d1, d2] => { results := [.lit (.bool true)], args := [d1, d2] }
  | _ => none }
def fnBothThreeRow : OpenClaim := { program := "ytpjkkcnceocipaa", sum := "4c6b047e90d8256ae3b52f37bbb51eb910a42c54f81b8fd7d49110888f0d540c", func := "loop.example/witan/laws.FnBothThree", spec := "fnBothThree", apart := false }
def FnBothThreeSaid : Prop := fnBothThreeRow.holds Try.pinned (OpenSpec.ofChange fnBothThreeSpec)

/-- ITS FALSE NEIGHBOUR: 'it returns false'. Refute it at one input. -/
def fnBothThreeWrong : ChangeSpec := { name := "fnBothThree", fn := fun _ => fun
  | [d1, d2] => { results := [.lit (.bool false)], args := [d1, d2] }
  | _ => none }
def FnBothThreeWrongFalsely : Prop := fnBothThreeRow.holds Try.pinned (OpenSpec.ofChange fnBothThreeWrong)

/-- 'laws.FnExactChainBoth': WHATEVER THE INPUT: true; the input reads as it did. -/
def fnExactChainBothSpec : ChangeSpec := { name := "fnExactChainBoth", fn := fun _ => fun
  | [d1, d2] => { results := [.lit (.bool true)], args := [d1, d2] }
  | _ => none }
def fnExactChainBothRow : OpenClaim := { program := "ytpjkkcnceocipaa", sum := "4c6b047e90d8256ae3b52f37bbb51eb910a42c54f81b8fd7d49110888f0d540c", func := "loop.example/witan/laws.FnExactChainBoth", spec := "fnExactChainBoth", apart := false }
def FnExactChainBothSaid : Prop := fnExactChainBothRow.holds Try.pinned (OpenSpec.ofChange fnExactChainBothSpec)

/-- ITS FALSE NEIGHBOUR: 'it returns false'. Refute it at one input. -/
def fnExactChainBothWrong : ChangeSpec := { name := "fnExactChainBoth", fn := fun _ => fun
  | [d1, d2] => { results := [.lit (.bool false)], args := [d1, d2] }
  | _ => none }
def FnExactChainBothWrongFalsely : Prop := fnExactChainBothRow.holds Try.pinned (OpenSpec.ofChange fnExactChainBothWrong)

/-- 'laws.FnChainBoth': WHATEVER THE INPUT: true; the input reads as it did. -/
def fnChainBothSpec : ChangeSpec := { name := "fnChainBoth", fn := fun _ => fun
  | [d] => { results := [.lit (.bool true)], args := [d] }
  | _ => none }
def fnChainBothRow : OpenClaim := { program := "ytpjkkcnceocipaa", sum := "4c6b047e90d8256ae3b52f37bbb51eb910a42c54f81b8fd7d49110888f0d540c", func := "loop.example/witan/laws.FnChainBoth", spec := "fnChainBoth", apart := false }
def FnChainBothSaid : Prop := fnChainBothRow.holds Try.pinned (OpenSpec.ofChange fnChainBothSpec)

/-- ITS FALSE NEIGHBOUR: 'it returns false'. Refute it at one input. -/
def fnChainBothWrong : ChangeSpec := { name := "fnChainBoth", fn := fun _ => fun
  | [d] => { results := [.lit (.bool false)], args := [d] }
  | _ => none }
def FnChainBothWrongFalsely : Prop := fnChainBothRow.holds Try.pinned (OpenSpec.ofChange fnChainBothWrong)

/- THE SECOND FORM. 'bulk': how many values and letters a reading holds, each counted each time it is reached (what is shared counts as often as it is met; a slice's spare places count too). A statement '..UptoSaid' is the law's where the arguments, and the package variables that the reading takes, are together of bulk at most 1048576: NARROWER than '..Said'. Prove '..Said' where nothing that the law and all that it calls make is longer than what came in: it says more and counts as full. Else prove '..UptoSaid'. A law counts once. -/
mutual
def uptoBulk {H : Type} : DataW H → Nat
  | .lit (.string bytes) => bytes.length + 1
  | .lit _ => 1
  | .nil => 1
  | .ptr d => uptoBulk d + 1
  | .slice elems spare => uptoBulkAll elems + uptoBulkAll spare + 1
  | .agg parts => uptoBulkAll parts + 1
  | .iface _ d => uptoBulk d + 1
  | .map entries => uptoBulkEntries entries + 1
  | .held _ => 1
def uptoBulkAll {H : Type} : List (DataW H) → Nat
  | [] => 0
  | d :: r => uptoBulk d + uptoBulkAll r
def uptoBulkEntries {H : Type} : List (Lit × DataW H) → Nat
  | [] => 0
  | x :: r => uptoBulkEntry x + uptoBulkEntries r
def uptoBulkEntry {H : Type} : Lit × DataW H → Nat
  | (.string bytes, d) => bytes.length + uptoBulk d + 1
  | (_, d) => uptoBulk d + 1
 end
def uptoSmall : (H : Type) → List (DataW H) → Bool := fun _ ds => decide (uptoBulkAll ds ≤ 1048576)
def OpenSpec.upto (s : _root_.Go.ChangeSpec) : _root_.Go.OpenSpec := { _root_.Go.OpenSpec.ofChange s with cond := some uptoSmall }

/-- 'laws.FnExactChainOk', WHERE WHAT IT READS IS OF BULK AT MOST 1048576: true; the input reads as it did. -/
def fnExactChainOkUptoRow : OpenClaim := { program := "ytpjkkcnceocipaa", sum := "4c6b047e90d8256ae3b52f37bbb51eb910a42c54f81b8fd7d49110888f0d540c", func := "loop.example/witan/laws.FnExactChainOk", spec := "fnExactChainOk", apart := false, narrowed := true }
def FnExactChainOkUptoSaid : Prop := fnExactChainOkUptoRow.holds Try.pinned (OpenSpec.upto fnExactChainOkSpec)

/-- 'laws.FnChainGrow', WHERE WHAT IT READS IS OF BULK AT MOST 1048576: true; the input reads as it did. -/
def fnChainGrowUptoRow : OpenClaim := { program := "ytpjkkcnceocipaa", sum := "4c6b047e90d8256ae3b52f37bbb51eb910a42c54f81b8fd7d49110888f0d540c", func := "loop.example/witan/laws.FnChainGrow", spec := "fnChainGrow", apart := false, narrowed := true }
def FnChainGrowUptoSaid : Prop := fnChainGrowUptoRow.holds Try.pinned (OpenSpec.upto fnChainGrowSpec)

/-- 'laws.FnChainLess', WHERE WHAT IT READS IS OF BULK AT MOST 1048576: true; the input reads as it did. -/
def fnChainLessUptoRow : OpenClaim := { program := "ytpjkkcnceocipaa", sum := "4c6b047e90d8256ae3b52f37bbb51eb910a42c54f81b8fd7d49110888f0d540c", func := "loop.example/witan/laws.FnChainLess", spec := "fnChainLess", apart := false, narrowed := true }
def FnChainLessUptoSaid : Prop := fnChainLessUptoRow.holds Try.pinned (OpenSpec.upto fnChainLessSpec)

/-- 'laws.FnExactChainIn', WHERE WHAT IT READS IS OF BULK AT MOST 1048576: true; the input reads as it did. -/
def fnExactChainInUptoRow : OpenClaim := { program := "ytpjkkcnceocipaa", sum := "4c6b047e90d8256ae3b52f37bbb51eb910a42c54f81b8fd7d49110888f0d540c", func := "loop.example/witan/laws.FnExactChainIn", spec := "fnExactChainIn", apart := false, narrowed := true }
def FnExactChainInUptoSaid : Prop := fnExactChainInUptoRow.holds Try.pinned (OpenSpec.upto fnExactChainInSpec)

/-- 'laws.FnChainIn', WHERE WHAT IT READS IS OF BULK AT MOST 1048576: true; the input reads as it did. -/
def fnChainInUptoRow : OpenClaim := { program := "ytpjkkcnceocipaa", sum := "4c6b047e90d8256ae3b52f37bbb51eb910a42c54f81b8fd7d49110888f0d540c", func := "loop.example/witan/laws.FnChainIn", spec := "fnChainIn", apart := false, narrowed := true }
def FnChainInUptoSaid : Prop := fnChainInUptoRow.holds Try.pinned (OpenSpec.upto fnChainInSpec)

/-- 'laws.FnBothThree', WHERE WHAT IT READS IS OF BULK AT MOST 1048576: true; the input reads as it did. -/
def fnBothThreeUptoRow : OpenClaim := { program := "ytpjkkcnceocipaa", sum := "4c6b047e90d8256ae3b52f37bbb51eb910a42c54f81b8fd7d49110888f0d540c", func := "loop.example/witan/laws.FnBothThree", spec := "fnBothThree", apart := false, narrowed := true }
def FnBothThreeUptoSaid : Prop := fnBothThreeUptoRow.holds Try.pinned (OpenSpec.upto fnBothThreeSpec)

/-- 'laws.FnExactChainBoth', WHERE WHAT IT READS IS OF BULK AT MOST 1048576: true; the input reads as it did. -/
def fnExactChainBothUptoRow : OpenClaim := { program := "ytpjkkcnceocipaa", sum := "4c6b047e90d8256ae3b52f37bbb51eb910a42c54f81b8fd7d49110888f0d540c", func := "loop.example/witan/laws.FnExactChainBoth", spec := "fnExactChainBoth", apart := false, narrowed := true }
def FnExactChainBothUptoSaid : Prop := fnExactChainBothUptoRow.holds Try.pinned (OpenSpec.upto fnExactChainBothSpec)

/-- 'laws.FnChainBoth', WHERE WHAT IT READS IS OF BULK AT MOST 1048576: true; the input reads as it did. -/
def fnChainBothUptoRow : OpenClaim := { program := "ytpjkkcnceocipaa", sum := "4c6b047e90d8256ae3b52f37bbb51eb910a42c54f81b8fd7d49110888f0d540c", func := "loop.example/witan/laws.FnChainBoth", spec := "fnChainBoth", apart := false, narrowed := true }
def FnChainBothUptoSaid : Prop := fnChainBothUptoRow.holds Try.pinned (OpenSpec.upto fnChainBothSpec)

end Rows
end Go.Proofs.Ytpjkkcnceocipaa
