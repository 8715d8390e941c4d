/-
  No cell of these rows narrows 'for every input' (looked for: loops, veiled, ifaces, maps, wideKeys, modest, calm, conditions, laid).
  DERIVED. THE GIVEN ROWS OF THIS SEAT. 5 by the template 'for every input the law returns true; each argument reads behind the call as it read before'; 0 by the template 'total and deterministic' (their statements: YtkkfokcbbhnjeaaTotals.lean).
  GIVEN WITH THE SEED: the statements are not yours to turn. If you find one false, say at which input.
  Laid BY PROGRAM, IN A SANDBOX (cutbox-rows.mjs): the forced cells as the released guide's own fill.sh prints them over the translation 93ec6755151c79d2… (all of the seat's roots in one cut). By AI agents, Wed Nov 11 2026. No macro, syntax, notation, axiom, sorry.
-/
import Derived.Test.YtkkfokcbbhnjeaaChecked
import GoSem.Claim
import GoSem.ClaimJoined
import GoSem.ClaimMapViews
import Derived.JoinedTies
import Derived.KernelRfl
namespace Go.Proofs.Ytkkfokcbbhnjeaa
/- THE CELL 'sum', in the pinned program and in every row, IS THE sha256 OF THE DUMP (.gsa) THAT YtkkfokcbbhnjeaaProg.lean LOADS. Nothing in Lean hashes anything: it is a label: what it is worth is what the hold of that sum in a sandbox is worth. -/
noncomputable def Try.pinned : Pinned := { name := "ytkkfokcbbhnjeaa", sum := "93ec6755151c79d2db9b306d98f59d852aaa0d4d122fb39e570a86941d351f7b", checked := Try.checked }
namespace Rows
def none {H : Type} : Left H := { results := [], args := [] }

/-- 'laws.FnExactBookNew': WHATEVER THE INPUT: true; the input reads as it did. -/
def fnExactBookNewSpec : ChangeSpec := { name := "fnExactBookNew", fn := fun _ => fun
  | [] => { results := [.lit (.bool true)], args := [] }
  | _ => none }
def fnExactBookNewRow : OpenClaim := { program := "ytkkfokcbbhnjeaa", sum := "93ec6755151c79d2db9b306d98f59d852aaa0d4d122fb39e570a86941d351f7b", func := "loop.example/witan/laws.FnExactBookNew", spec := "fnExactBookNew", apart := false }
def FnExactBookNewSaid : Prop := fnExactBookNewRow.holds Try.pinned (OpenSpec.ofChange fnExactBookNewSpec)

/-- ITS FALSE NEIGHBOUR: 'it returns false'. Refute it at one input. -/
def fnExactBookNewWrong : ChangeSpec := { name := "fnExactBookNew", fn := fun _ => fun
  | [] => { results := [.lit (.bool false)], args := [] }
  | _ => none }
def FnExactBookNewWrongFalsely : Prop := fnExactBookNewRow.holds Try.pinned (OpenSpec.ofChange fnExactBookNewWrong)

/-- 'laws.FnChainIn': WHATEVER THE INPUT: true; the input reads as it did. -/
def fnChainInSpec : ChangeSpec := { name := "fnChainIn", fn := fun _ => fun
  | [d1, d2] => { results := [.lit (.bool true)], args := [d1, d2] }
  | _ => none }
def fnChainInRow : OpenClaim := { program := "ytkkfokcbbhnjeaa", sum := "93ec6755151c79d2db9b306d98f59d852aaa0d4d122fb39e570a86941d351f7b", func := "loop.example/witan/laws.FnChainIn", spec := "fnChainIn", apart := false }
def FnChainInSaid : Prop := fnChainInRow.holds Try.pinned (OpenSpec.ofChange fnChainInSpec)

/-- ITS FALSE NEIGHBOUR: 'it returns false'. Refute it at one input. -/
def fnChainInWrong : ChangeSpec := { name := "fnChainIn", fn := fun _ => fun
  | [d1, d2] => { results := [.lit (.bool false)], args := [d1, d2] }
  | _ => none }
def FnChainInWrongFalsely : Prop := fnChainInRow.holds Try.pinned (OpenSpec.ofChange fnChainInWrong)

/-- 'laws.FnExactChainBoth': WHATEVER THE INPUT: true; the input reads as it did. -/
def fnExactChainBothSpec : ChangeSpec := { name := "fnExactChainBoth", fn := fun _ => fun
  | [d1, d2] => { results := [.lit (.bool true)], args := [d1, d2] }
  | _ => none }
def fnExactChainBothRow : OpenClaim := { program := "ytkkfokcbbhnjeaa", sum := "93ec6755151c79d2db9b306d98f59d852aaa0d4d122fb39e570a86941d351f7b", func := "loop.example/witan/laws.FnExactChainBoth", spec := "fnExactChainBoth", apart := false }
def FnExactChainBothSaid : Prop := fnExactChainBothRow.holds Try.pinned (OpenSpec.ofChange fnExactChainBothSpec)

/-- ITS FALSE NEIGHBOUR: 'it returns false'. Refute it at one input. -/
def fnExactChainBothWrong : ChangeSpec := { name := "fnExactChainBoth", fn := fun _ => fun
  | [d1, d2] => { results := [.lit (.bool false)], args := [d1, d2] }
  | _ => none }
def FnExactChainBothWrongFalsely : Prop := fnExactChainBothRow.holds Try.pinned (OpenSpec.ofChange fnExactChainBothWrong)

/-- 'laws.FnExactBookPay': WHATEVER THE INPUT: true; the input reads as it did. -/
def fnExactBookPaySpec : ChangeSpec := { name := "fnExactBookPay", fn := fun _ => fun
  | [d1, d2] => { results := [.lit (.bool true)], args := [d1, d2] }
  | _ => none }
def fnExactBookPayRow : OpenClaim := { program := "ytkkfokcbbhnjeaa", sum := "93ec6755151c79d2db9b306d98f59d852aaa0d4d122fb39e570a86941d351f7b", func := "loop.example/witan/laws.FnExactBookPay", spec := "fnExactBookPay", apart := false }
def FnExactBookPaySaid : Prop := fnExactBookPayRow.holds Try.pinned (OpenSpec.ofChange fnExactBookPaySpec)

/-- ITS FALSE NEIGHBOUR: 'it returns false'. Refute it at one input. -/
def fnExactBookPayWrong : ChangeSpec := { name := "fnExactBookPay", fn := fun _ => fun
  | [d1, d2] => { results := [.lit (.bool false)], args := [d1, d2] }
  | _ => none }
def FnExactBookPayWrongFalsely : Prop := fnExactBookPayRow.holds Try.pinned (OpenSpec.ofChange fnExactBookPayWrong)

/-- 'laws.FnExactBookOf': WHATEVER THE INPUT: true; the input reads as it did. -/
def fnExactBookOfSpec : ChangeSpec := { name := "fnExactBookOf", fn := fun _ => fun
  | [d] => { results := [.lit (.bool true)], args := [d] }
  | _ => none }
def fnExactBookOfRow : OpenClaim := { program := "ytkkfokcbbhnjeaa", sum := "93ec6755151c79d2db9b306d98f59d852aaa0d4d122fb39e570a86941d351f7b", func := "loop.example/witan/laws.FnExactBookOf", spec := "fnExactBookOf", apart := false }
def FnExactBookOfSaid : Prop := fnExactBookOfRow.holds Try.pinned (OpenSpec.ofChange fnExactBookOfSpec)

/-- ITS FALSE NEIGHBOUR: 'it returns false'. Refute it at one input. -/
def fnExactBookOfWrong : ChangeSpec := { name := "fnExactBookOf", fn := fun _ => fun
  | [d] => { results := [.lit (.bool false)], args := [d] }
  | _ => none }
def FnExactBookOfWrongFalsely : Prop := fnExactBookOfRow.holds Try.pinned (OpenSpec.ofChange fnExactBookOfWrong)

/- THE SECOND FORM. 'bulk': how many values and letters a reading holds, each counted each time it is reached (what is shared counts as often as it is met; a slice's spare places count too). A statement '..UptoSaid' is the law's where the arguments, and the package variables that the reading takes, are together of bulk at most 1048576: NARROWER than '..Said'. Prove '..Said' where nothing that the law and all that it calls make is longer than what came in: it says more and counts as full. Else prove '..UptoSaid'. A law counts once. -/
mutual
def uptoBulk {H : Type} : DataW H → Nat
  | .lit (.string bytes) => bytes.length + 1
  | .lit _ => 1
  | .nil => 1
  | .ptr d => uptoBulk d + 1
  | .slice elems spare => uptoBulkAll elems + uptoBulkAll spare + 1
  | .agg parts => uptoBulkAll parts + 1
  | .iface _ d => uptoBulk d + 1
  | .map entries => uptoBulkEntries entries + 1
  | .held _ => 1
def uptoBulkAll {H : Type} : List (DataW H) → Nat
  | [] => 0
  | d :: r => uptoBulk d + uptoBulkAll r
def uptoBulkEntries {H : Type} : List (Lit × DataW H) → Nat
  | [] => 0
  | x :: r => uptoBulkEntry x + uptoBulkEntries r
def uptoBulkEntry {H : Type} : Lit × DataW H → Nat
  | (.string bytes, d) => bytes.length + uptoBulk d + 1
  | (_, d) => uptoBulk d + 1
 end
def uptoSmall : (H : Type) → List (DataW H) → Bool := fun _ ds => decide (uptoBulkAll ds ≤ 1048576)
def OpenSpec.upto (s : _root_.Go.ChangeSpec) : _root_.Go.OpenSpec := { _root_.Go.OpenSpec.ofChange s with cond := some uptoSmall }

/-- 'laws.FnExactBookNew', WHERE WHAT IT READS IS OF BULK AT MOST 1048576: true; the input reads as it did. -/
def fnExactBookNewUptoRow : OpenClaim := { program := "ytkkfokcbbhnjeaa", sum := "93ec6755151c79d2db9b306d98f59d852aaa0d4d122fb39e570a86941d351f7b", func := "loop.example/witan/laws.FnExactBookNew", spec := "fnExactBookNew", apart := false, narrowed := true }
def FnExactBookNewUptoSaid : Prop := fnExactBookNewUptoRow.holds Try.pinned (OpenSpec.upto fnExactBookNewSpec)

/-- 'laws.FnChainIn', WHERE WHAT IT READS IS OF BULK AT MOST 1048576: true; the input reads as it did. -/
def fnChainInUptoRow : OpenClaim := { program := "ytkkfokcbbhnjeaa", sum := "93ec6755151c79d2db9b306d98f59d852aaa0d4d122fb39e570a86941d351f7b", func := "loop.example/witan/laws.FnChainIn", spec := "fnChainIn", apart := false, narrowed := true }
def FnChainInUptoSaid : Prop := fnChainInUptoRow.holds Try.pinned (OpenSpec.upto fnChainInSpec)

/-- 'laws.FnExactChainBoth', WHERE WHAT IT READS IS OF BULK AT MOST 1048576: true; the input reads as it did. -/
def fnExactChainBothUptoRow : OpenClaim := { program := "ytkkfokcbbhnjeaa", sum := "93ec6755151c79d2db9b306d98f59d852aaa0d4d122fb39e570a86941d351f7b", func := "loop.example/witan/laws.FnExactChainBoth", spec := "fnExactChainBoth", apart := false, narrowed := true }
def FnExactChainBothUptoSaid : Prop := fnExactChainBothUptoRow.holds Try.pinned (OpenSpec.upto fnExactChainBothSpec)

/-- 'laws.FnExactBookPay', WHERE WHAT IT READS IS OF BULK AT MOST 1048576: true; the input reads as it did. -/
def fnExactBookPayUptoRow : OpenClaim := { program := "ytkkfokcbbhnjeaa", sum := "93ec6755151c79d2db9b306d98f59d852aaa0d4d122fb39e570a86941d351f7b", func := "loop.example/witan/laws.FnExactBookPay", spec := "fnExactBookPay", apart := false, narrowed := true }
def FnExactBookPayUptoSaid : Prop := fnExactBookPayUptoRow.holds Try.pinned (OpenSpec.upto fnExactBookPaySpec)

/-- 'laws.FnExactBookOf', WHERE WHAT IT READS IS OF BULK AT MOST 1048576: true; the input reads as it did. -/
def fnExactBookOfUptoRow : OpenClaim := { program := "ytkkfokcbbhnjeaa", sum := "93ec6755151c79d2db9b306d98f59d852aaa0d4d122fb39e570a86941d351f7b", func := "loop.example/witan/laws.FnExactBookOf", spec := "fnExactBookOf", apart := false, narrowed := true }
def FnExactBookOfUptoSaid : Prop := fnExactBookOfUptoRow.holds Try.pinned (OpenSpec.upto fnExactBookOfSpec)

end Rows
end Go.Proofs.Ytkkfokcbbhnjeaa
