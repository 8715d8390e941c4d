/-
  No cell of these rows narrows 'for every input' (looked for: loops, veiled, ifaces, maps, wideKeys, modest, calm, conditions, laid).
  DERIVED. THE GIVEN ROWS OF THIS SEAT. 8 by the template 'for every input the law returns true; each argument reads behind the call as it read before'; 0 by the template 'total and deterministic' (their statements: YtnipfblhhmldpaaTotals.lean).
  GIVEN WITH THE SEED: the statements are not yours to turn. If you find one false, say at which input.
  Laid BY PROGRAM, IN A SANDBOX (cutbox-rows.mjs): the forced cells as the released guide's own fill.sh prints them over the translation e6ae5c1f427a6e58… (all of the seat's roots in one cut). By AI agents, Wed Nov 11 2026. No macro, syntax, notation, axiom, sorry.
-/
import Derived.Test.YtnipfblhhmldpaaChecked
import GoSem.Claim
import GoSem.ClaimJoined
import GoSem.ClaimMapViews
import Derived.JoinedTies
import Derived.KernelRfl
namespace Go.Proofs.Ytnipfblhhmldpaa
/- THE CELL 'sum', in the pinned program and in every row, IS THE sha256 OF THE DUMP (.gsa) THAT YtnipfblhhmldpaaProg.lean LOADS. Nothing in Lean hashes anything: it is a label: what it is worth is what the hold of that sum in a sandbox is worth. -/
noncomputable def Try.pinned : Pinned := { name := "ytnipfblhhmldpaa", sum := "e6ae5c1f427a6e580989ded7bdfd9d694c78ad45b158ff498578b7f411f64832", checked := Try.checked }
namespace Rows
def none {H : Type} : Left H := { results := [], args := [] }

/-- 'laws.FnExactConstants': WHATEVER THE INPUT: true; the input reads as it did. -/
def fnExactConstantsSpec : ChangeSpec := { name := "fnExactConstants", fn := fun _ => fun
  | [] => { results := [.lit (.bool true)], args := [] }
  | _ => none }
def fnExactConstantsRow : OpenClaim := { program := "ytnipfblhhmldpaa", sum := "e6ae5c1f427a6e580989ded7bdfd9d694c78ad45b158ff498578b7f411f64832", func := "loop.example/witan/laws.FnExactConstants", spec := "fnExactConstants", apart := false }
def FnExactConstantsSaid : Prop := fnExactConstantsRow.holds Try.pinned (OpenSpec.ofChange fnExactConstantsSpec)

/-- ITS FALSE NEIGHBOUR: 'it returns false'. Refute it at one input. -/
def fnExactConstantsWrong : ChangeSpec := { name := "fnExactConstants", fn := fun _ => fun
  | [] => { results := [.lit (.bool false)], args := [] }
  | _ => none }
def FnExactConstantsWrongFalsely : Prop := fnExactConstantsRow.holds Try.pinned (OpenSpec.ofChange fnExactConstantsWrong)

/-- 'laws.FnExactPayOk': WHATEVER THE INPUT: true; the input reads as it did. -/
def fnExactPayOkSpec : ChangeSpec := { name := "fnExactPayOk", fn := fun _ => fun
  | [d] => { results := [.lit (.bool true)], args := [d] }
  | _ => none }
def fnExactPayOkRow : OpenClaim := { program := "ytnipfblhhmldpaa", sum := "e6ae5c1f427a6e580989ded7bdfd9d694c78ad45b158ff498578b7f411f64832", func := "loop.example/witan/laws.FnExactPayOk", spec := "fnExactPayOk", apart := false }
def FnExactPayOkSaid : Prop := fnExactPayOkRow.holds Try.pinned (OpenSpec.ofChange fnExactPayOkSpec)

/-- ITS FALSE NEIGHBOUR: 'it returns false'. Refute it at one input. -/
def fnExactPayOkWrong : ChangeSpec := { name := "fnExactPayOk", fn := fun _ => fun
  | [d] => { results := [.lit (.bool false)], args := [d] }
  | _ => none }
def FnExactPayOkWrongFalsely : Prop := fnExactPayOkRow.holds Try.pinned (OpenSpec.ofChange fnExactPayOkWrong)

/-- 'laws.FnExactVoteLeader': WHATEVER THE INPUT: true; the input reads as it did. -/
def fnExactVoteLeaderSpec : ChangeSpec := { name := "fnExactVoteLeader", fn := fun _ => fun
  | [d] => { results := [.lit (.bool true)], args := [d] }
  | _ => none }
def fnExactVoteLeaderRow : OpenClaim := { program := "ytnipfblhhmldpaa", sum := "e6ae5c1f427a6e580989ded7bdfd9d694c78ad45b158ff498578b7f411f64832", func := "loop.example/witan/laws.FnExactVoteLeader", spec := "fnExactVoteLeader", apart := false }
def FnExactVoteLeaderSaid : Prop := fnExactVoteLeaderRow.holds Try.pinned (OpenSpec.ofChange fnExactVoteLeaderSpec)

/-- ITS FALSE NEIGHBOUR: 'it returns false'. Refute it at one input. -/
def fnExactVoteLeaderWrong : ChangeSpec := { name := "fnExactVoteLeader", fn := fun _ => fun
  | [d] => { results := [.lit (.bool false)], args := [d] }
  | _ => none }
def FnExactVoteLeaderWrongFalsely : Prop := fnExactVoteLeaderRow.holds Try.pinned (OpenSpec.ofChange fnExactVoteLeaderWrong)

/-- 'laws.FnExactBookOk': WHATEVER THE INPUT: true; the input reads as it did. -/
def fnExactBookOkSpec : ChangeSpec := { name := "fnExactBookOk", fn := fun _ => fun
  | [d] => { results := [.lit (.bool true)], args := [d] }
  | _ => none }
def fnExactBookOkRow : OpenClaim := { program := "ytnipfblhhmldpaa", sum := "e6ae5c1f427a6e580989ded7bdfd9d694c78ad45b158ff498578b7f411f64832", func := "loop.example/witan/laws.FnExactBookOk", spec := "fnExactBookOk", apart := false }
def FnExactBookOkSaid : Prop := fnExactBookOkRow.holds Try.pinned (OpenSpec.ofChange fnExactBookOkSpec)

/-- ITS FALSE NEIGHBOUR: 'it returns false'. Refute it at one input. -/
def fnExactBookOkWrong : ChangeSpec := { name := "fnExactBookOk", fn := fun _ => fun
  | [d] => { results := [.lit (.bool false)], args := [d] }
  | _ => none }
def FnExactBookOkWrongFalsely : Prop := fnExactBookOkRow.holds Try.pinned (OpenSpec.ofChange fnExactBookOkWrong)

/-- 'laws.FnLeaderTurn': WHATEVER THE INPUT: true; the input reads as it did. -/
def fnLeaderTurnSpec : ChangeSpec := { name := "fnLeaderTurn", fn := fun _ => fun
  | [d] => { results := [.lit (.bool true)], args := [d] }
  | _ => none }
def fnLeaderTurnRow : OpenClaim := { program := "ytnipfblhhmldpaa", sum := "e6ae5c1f427a6e580989ded7bdfd9d694c78ad45b158ff498578b7f411f64832", func := "loop.example/witan/laws.FnLeaderTurn", spec := "fnLeaderTurn", apart := false }
def FnLeaderTurnSaid : Prop := fnLeaderTurnRow.holds Try.pinned (OpenSpec.ofChange fnLeaderTurnSpec)

/-- ITS FALSE NEIGHBOUR: 'it returns false'. Refute it at one input. -/
def fnLeaderTurnWrong : ChangeSpec := { name := "fnLeaderTurn", fn := fun _ => fun
  | [d] => { results := [.lit (.bool false)], args := [d] }
  | _ => none }
def FnLeaderTurnWrongFalsely : Prop := fnLeaderTurnRow.holds Try.pinned (OpenSpec.ofChange fnLeaderTurnWrong)

/-- 'laws.FnPayForm': WHATEVER THE INPUT: true; the input reads as it did. -/
def fnPayFormSpec : ChangeSpec := { name := "fnPayForm", fn := fun _ => fun
  | [d] => { results := [.lit (.bool true)], args := [d] }
  | _ => none }
def fnPayFormRow : OpenClaim := { program := "ytnipfblhhmldpaa", sum := "e6ae5c1f427a6e580989ded7bdfd9d694c78ad45b158ff498578b7f411f64832", func := "loop.example/witan/laws.FnPayForm", spec := "fnPayForm", apart := false }
def FnPayFormSaid : Prop := fnPayFormRow.holds Try.pinned (OpenSpec.ofChange fnPayFormSpec)

/-- ITS FALSE NEIGHBOUR: 'it returns false'. Refute it at one input. -/
def fnPayFormWrong : ChangeSpec := { name := "fnPayForm", fn := fun _ => fun
  | [d] => { results := [.lit (.bool false)], args := [d] }
  | _ => none }
def FnPayFormWrongFalsely : Prop := fnPayFormRow.holds Try.pinned (OpenSpec.ofChange fnPayFormWrong)

/-- 'laws.FnPayOther': WHATEVER THE INPUT: true; the input reads as it did. -/
def fnPayOtherSpec : ChangeSpec := { name := "fnPayOther", fn := fun _ => fun
  | [d1, d2] => { results := [.lit (.bool true)], args := [d1, d2] }
  | _ => none }
def fnPayOtherRow : OpenClaim := { program := "ytnipfblhhmldpaa", sum := "e6ae5c1f427a6e580989ded7bdfd9d694c78ad45b158ff498578b7f411f64832", func := "loop.example/witan/laws.FnPayOther", spec := "fnPayOther", apart := false }
def FnPayOtherSaid : Prop := fnPayOtherRow.holds Try.pinned (OpenSpec.ofChange fnPayOtherSpec)

/-- ITS FALSE NEIGHBOUR: 'it returns false'. Refute it at one input. -/
def fnPayOtherWrong : ChangeSpec := { name := "fnPayOther", fn := fun _ => fun
  | [d1, d2] => { results := [.lit (.bool false)], args := [d1, d2] }
  | _ => none }
def FnPayOtherWrongFalsely : Prop := fnPayOtherRow.holds Try.pinned (OpenSpec.ofChange fnPayOtherWrong)

/-- 'laws.FnExactBookNew': WHATEVER THE INPUT: true; the input reads as it did. -/
def fnExactBookNewSpec : ChangeSpec := { name := "fnExactBookNew", fn := fun _ => fun
  | [] => { results := [.lit (.bool true)], args := [] }
  | _ => none }
def fnExactBookNewRow : OpenClaim := { program := "ytnipfblhhmldpaa", sum := "e6ae5c1f427a6e580989ded7bdfd9d694c78ad45b158ff498578b7f411f64832", func := "loop.example/witan/laws.FnExactBookNew", spec := "fnExactBookNew", apart := false }
def FnExactBookNewSaid : Prop := fnExactBookNewRow.holds Try.pinned (OpenSpec.ofChange fnExactBookNewSpec)

/-- ITS FALSE NEIGHBOUR: 'it returns false'. Refute it at one input. -/
def fnExactBookNewWrong : ChangeSpec := { name := "fnExactBookNew", fn := fun _ => fun
  | [] => { results := [.lit (.bool false)], args := [] }
  | _ => none }
def FnExactBookNewWrongFalsely : Prop := fnExactBookNewRow.holds Try.pinned (OpenSpec.ofChange fnExactBookNewWrong)

/- THE SECOND FORM. 'bulk': how many values and letters a reading holds, each counted each time it is reached (what is shared counts as often as it is met; a slice's spare places count too). A statement '..UptoSaid' is the law's where the arguments, and the package variables that the reading takes, are together of bulk at most 1048576: NARROWER than '..Said'. Prove '..Said' where nothing that the law and all that it calls make is longer than what came in: it says more and counts as full. Else prove '..UptoSaid'. A law counts once. -/
mutual
def uptoBulk {H : Type} : DataW H → Nat
  | .lit (.string bytes) => bytes.length + 1
  | .lit _ => 1
  | .nil => 1
  | .ptr d => uptoBulk d + 1
  | .slice elems spare => uptoBulkAll elems + uptoBulkAll spare + 1
  | .agg parts => uptoBulkAll parts + 1
  | .iface _ d => uptoBulk d + 1
  | .map entries => uptoBulkEntries entries + 1
  | .held _ => 1
def uptoBulkAll {H : Type} : List (DataW H) → Nat
  | [] => 0
  | d :: r => uptoBulk d + uptoBulkAll r
def uptoBulkEntries {H : Type} : List (Lit × DataW H) → Nat
  | [] => 0
  | x :: r => uptoBulkEntry x + uptoBulkEntries r
def uptoBulkEntry {H : Type} : Lit × DataW H → Nat
  | (.string bytes, d) => bytes.length + uptoBulk d + 1
  | (_, d) => uptoBulk d + 1
 end
def uptoSmall : (H : Type) → List (DataW H) → Bool := fun _ ds => decide (uptoBulkAll ds ≤ 1048576)
def OpenSpec.upto (s : _root_.Go.ChangeSpec) : _root_.Go.OpenSpec := { _root_.Go.OpenSpec.ofChange s with cond := some uptoSmall }

/-- 'laws.FnExactConstants', WHERE WHAT IT READS IS OF BULK AT MOST 1048576: true; the input reads as it did. -/
def fnExactConstantsUptoRow : OpenClaim := { program := "ytnipfblhhmldpaa", sum := "e6ae5c1f427a6e580989ded7bdfd9d694c78ad45b158ff498578b7f411f64832", func := "loop.example/witan/laws.FnExactConstants", spec := "fnExactConstants", apart := false, narrowed := true }
def FnExactConstantsUptoSaid : Prop := fnExactConstantsUptoRow.holds Try.pinned (OpenSpec.upto fnExactConstantsSpec)

/-- 'laws.FnExactPayOk', WHERE WHAT IT READS IS OF BULK AT MOST 1048576: true; the input reads as it did. -/
def fnExactPayOkUptoRow : OpenClaim := { program := "ytnipfblhhmldpaa", sum := "e6ae5c1f427a6e580989ded7bdfd9d694c78ad45b158ff498578b7f411f64832", func := "loop.example/witan/laws.FnExactPayOk", spec := "fnExactPayOk", apart := false, narrowed := true }
def FnExactPayOkUptoSaid : Prop := fnExactPayOkUptoRow.holds Try.pinned (OpenSpec.upto fnExactPayOkSpec)

/-- 'laws.FnExactVoteLeader', WHERE WHAT IT READS IS OF BULK AT MOST 1048576: true; the input reads as it did. -/
def fnExactVoteLeaderUptoRow : OpenClaim := { program := "ytnipfblhhmldpaa", sum := "e6ae5c1f427a6e580989ded7bdfd9d694c78ad45b158ff498578b7f411f64832", func := "loop.example/witan/laws.FnExactVoteLeader", spec := "fnExactVoteLeader", apart := false, narrowed := true }
def FnExactVoteLeaderUptoSaid : Prop := fnExactVoteLeaderUptoRow.holds Try.pinned (OpenSpec.upto fnExactVoteLeaderSpec)

/-- 'laws.FnExactBookOk', WHERE WHAT IT READS IS OF BULK AT MOST 1048576: true; the input reads as it did. -/
def fnExactBookOkUptoRow : OpenClaim := { program := "ytnipfblhhmldpaa", sum := "e6ae5c1f427a6e580989ded7bdfd9d694c78ad45b158ff498578b7f411f64832", func := "loop.example/witan/laws.FnExactBookOk", spec := "fnExactBookOk", apart := false, narrowed := true }
def FnExactBookOkUptoSaid : Prop := fnExactBookOkUptoRow.holds Try.pinned (OpenSpec.upto fnExactBookOkSpec)

/-- 'laws.FnLeaderTurn', WHERE WHAT IT READS IS OF BULK AT MOST 1048576: true; the input reads as it did. -/
def fnLeaderTurnUptoRow : OpenClaim := { program := "ytnipfblhhmldpaa", sum := "e6ae5c1f427a6e580989ded7bdfd9d694c78ad45b158ff498578b7f411f64832", func := "loop.example/witan/laws.FnLeaderTurn", spec := "fnLeaderTurn", apart := false, narrowed := true }
def FnLeaderTurnUptoSaid : Prop := fnLeaderTurnUptoRow.holds Try.pinned (OpenSpec.upto fnLeaderTurnSpec)

/-- 'laws.FnPayForm', WHERE WHAT IT READS IS OF BULK AT MOST 1048576: true; the input reads as it did. -/
def fnPayFormUptoRow : OpenClaim := { program := "ytnipfblhhmldpaa", sum := "e6ae5c1f427a6e580989ded7bdfd9d694c78ad45b158ff498578b7f411f64832", func := "loop.example/witan/laws.FnPayForm", spec := "fnPayForm", apart := false, narrowed := true }
def FnPayFormUptoSaid : Prop := fnPayFormUptoRow.holds Try.pinned (OpenSpec.upto fnPayFormSpec)

/-- 'laws.FnPayOther', WHERE WHAT IT READS IS OF BULK AT MOST 1048576: true; the input reads as it did. -/
def fnPayOtherUptoRow : OpenClaim := { program := "ytnipfblhhmldpaa", sum := "e6ae5c1f427a6e580989ded7bdfd9d694c78ad45b158ff498578b7f411f64832", func := "loop.example/witan/laws.FnPayOther", spec := "fnPayOther", apart := false, narrowed := true }
def FnPayOtherUptoSaid : Prop := fnPayOtherUptoRow.holds Try.pinned (OpenSpec.upto fnPayOtherSpec)

/-- 'laws.FnExactBookNew', WHERE WHAT IT READS IS OF BULK AT MOST 1048576: true; the input reads as it did. -/
def fnExactBookNewUptoRow : OpenClaim := { program := "ytnipfblhhmldpaa", sum := "e6ae5c1f427a6e580989ded7bdfd9d694c78ad45b158ff498578b7f411f64832", func := "loop.example/witan/laws.FnExactBookNew", spec := "fnExactBookNew", apart := false, narrowed := true }
def FnExactBookNewUptoSaid : Prop := fnExactBookNewUptoRow.holds Try.pinned (OpenSpec.upto fnExactBookNewSpec)

end Rows
end Go.Proofs.Ytnipfblhhmldpaa
