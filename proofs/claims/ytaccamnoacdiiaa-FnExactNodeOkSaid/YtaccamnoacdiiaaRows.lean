/-
  No cell of these rows narrows 'for every input' (looked for: loops, veiled, ifaces, maps, wideKeys, modest, calm, conditions, laid).
  DERIVED. THE GIVEN ROWS OF THIS SEAT. 6 by the template 'for every input the law returns true; each argument reads behind the call as it read before'; 0 by the template 'total and deterministic' (their statements: YtaccamnoacdiiaaTotals.lean).
  GIVEN WITH THE SEED: the statements are not yours to turn. If you find one false, say at which input.
  Laid BY PROGRAM, IN A SANDBOX (cutbox-rows.mjs): the forced cells as the released guide's own fill.sh prints them over the translation c56fd38d941a0fbc… (all of the seat's roots in one cut). By AI agents, Wed Nov 11 2026. No macro, syntax, notation, axiom, sorry.
-/
import Derived.Test.YtaccamnoacdiiaaChecked
import GoSem.Claim
import GoSem.ClaimJoined
import GoSem.ClaimMapViews
import Derived.JoinedTies
import Derived.KernelRfl
namespace Go.Proofs.Ytaccamnoacdiiaa
/- THE CELL 'sum', in the pinned program and in every row, IS THE sha256 OF THE DUMP (.gsa) THAT YtaccamnoacdiiaaProg.lean LOADS. Nothing in Lean hashes anything: it is a label: what it is worth is what the hold of that sum in a sandbox is worth. -/
noncomputable def Try.pinned : Pinned := { name := "ytaccamnoacdiiaa", sum := "c56fd38d941a0fbc92108660c8510db33ad40411a15cf5b9eb87e08b77458a03", checked := Try.checked }
namespace Rows
def none {H : Type} : Left H := { results := [], args := [] }

/-- 'laws.FnVoteForm': WHATEVER THE INPUT: true; the input reads as it did. -/
def fnVoteFormSpec : ChangeSpec := { name := "fnVoteForm", fn := fun _ => fun
  | [d1, d2] => { results := [.lit (.bool true)], args := [d1, d2] }
  | _ => none }
def fnVoteFormRow : OpenClaim := { program := "ytaccamnoacdiiaa", sum := "c56fd38d941a0fbc92108660c8510db33ad40411a15cf5b9eb87e08b77458a03", func := "loop.example/witan/laws.FnVoteForm", spec := "fnVoteForm", apart := false }
def FnVoteFormSaid : Prop := fnVoteFormRow.holds Try.pinned (OpenSpec.ofChange fnVoteFormSpec)

/-- ITS FALSE NEIGHBOUR: 'it returns false'. Refute it at one input. -/
def fnVoteFormWrong : ChangeSpec := { name := "fnVoteForm", fn := fun _ => fun
  | [d1, d2] => { results := [.lit (.bool false)], args := [d1, d2] }
  | _ => none }
def FnVoteFormWrongFalsely : Prop := fnVoteFormRow.holds Try.pinned (OpenSpec.ofChange fnVoteFormWrong)

/-- 'laws.FnExactVoteOk': WHATEVER THE INPUT: true; the input reads as it did. -/
def fnExactVoteOkSpec : ChangeSpec := { name := "fnExactVoteOk", fn := fun _ => fun
  | [d] => { results := [.lit (.bool true)], args := [d] }
  | _ => none }
def fnExactVoteOkRow : OpenClaim := { program := "ytaccamnoacdiiaa", sum := "c56fd38d941a0fbc92108660c8510db33ad40411a15cf5b9eb87e08b77458a03", func := "loop.example/witan/laws.FnExactVoteOk", spec := "fnExactVoteOk", apart := false }
def FnExactVoteOkSaid : Prop := fnExactVoteOkRow.holds Try.pinned (OpenSpec.ofChange fnExactVoteOkSpec)

/-- ITS FALSE NEIGHBOUR: 'it returns false'. Refute it at one input. -/
def fnExactVoteOkWrong : ChangeSpec := { name := "fnExactVoteOk", fn := fun _ => fun
  | [d] => { results := [.lit (.bool false)], args := [d] }
  | _ => none }
def FnExactVoteOkWrongFalsely : Prop := fnExactVoteOkRow.holds Try.pinned (OpenSpec.ofChange fnExactVoteOkWrong)

/-- 'laws.FnExactNodeNew': WHATEVER THE INPUT: true; the input reads as it did. -/
def fnExactNodeNewSpec : ChangeSpec := { name := "fnExactNodeNew", fn := fun _ => fun
  | [d] => { results := [.lit (.bool true)], args := [d] }
  | _ => none }
def fnExactNodeNewRow : OpenClaim := { program := "ytaccamnoacdiiaa", sum := "c56fd38d941a0fbc92108660c8510db33ad40411a15cf5b9eb87e08b77458a03", func := "loop.example/witan/laws.FnExactNodeNew", spec := "fnExactNodeNew", apart := false }
def FnExactNodeNewSaid : Prop := fnExactNodeNewRow.holds Try.pinned (OpenSpec.ofChange fnExactNodeNewSpec)

/-- ITS FALSE NEIGHBOUR: 'it returns false'. Refute it at one input. -/
def fnExactNodeNewWrong : ChangeSpec := { name := "fnExactNodeNew", fn := fun _ => fun
  | [d] => { results := [.lit (.bool false)], args := [d] }
  | _ => none }
def FnExactNodeNewWrongFalsely : Prop := fnExactNodeNewRow.holds Try.pinned (OpenSpec.ofChange fnExactNodeNewWrong)

/-- 'laws.FnExactVotesOk': WHATEVER THE INPUT: true; the input reads as it did. -/
def fnExactVotesOkSpec : ChangeSpec := { name := "fnExactVotesOk", fn := fun _ => fun
  | [d] => { results := [.lit (.bool true)], args := [d] }
  | _ => none }
def fnExactVotesOkRow : OpenClaim := { program := "ytaccamnoacdiiaa", sum := "c56fd38d941a0fbc92108660c8510db33ad40411a15cf5b9eb87e08b77458a03", func := "loop.example/witan/laws.FnExactVotesOk", spec := "fnExactVotesOk", unfollowed := true, recurses := true, apart := false }
def FnExactVotesOkSaid : Prop := fnExactVotesOkRow.holds Try.pinned (OpenSpec.ofChange fnExactVotesOkSpec)

/-- ITS FALSE NEIGHBOUR: 'it returns false'. Refute it at one input. -/
def fnExactVotesOkWrong : ChangeSpec := { name := "fnExactVotesOk", fn := fun _ => fun
  | [d] => { results := [.lit (.bool false)], args := [d] }
  | _ => none }
def FnExactVotesOkWrongFalsely : Prop := fnExactVotesOkRow.holds Try.pinned (OpenSpec.ofChange fnExactVotesOkWrong)

/-- 'laws.FnVotesLess': WHATEVER THE INPUT: true; the input reads as it did. -/
def fnVotesLessSpec : ChangeSpec := { name := "fnVotesLess", fn := fun _ => fun
  | [d1, d2] => { results := [.lit (.bool true)], args := [d1, d2] }
  | _ => none }
def fnVotesLessRow : OpenClaim := { program := "ytaccamnoacdiiaa", sum := "c56fd38d941a0fbc92108660c8510db33ad40411a15cf5b9eb87e08b77458a03", func := "loop.example/witan/laws.FnVotesLess", spec := "fnVotesLess", unfollowed := true, recurses := true, apart := false }
def FnVotesLessSaid : Prop := fnVotesLessRow.holds Try.pinned (OpenSpec.ofChange fnVotesLessSpec)

/-- ITS FALSE NEIGHBOUR: 'it returns false'. Refute it at one input. -/
def fnVotesLessWrong : ChangeSpec := { name := "fnVotesLess", fn := fun _ => fun
  | [d1, d2] => { results := [.lit (.bool false)], args := [d1, d2] }
  | _ => none }
def FnVotesLessWrongFalsely : Prop := fnVotesLessRow.holds Try.pinned (OpenSpec.ofChange fnVotesLessWrong)

/-- 'laws.FnExactNodeOk': WHATEVER THE INPUT: true; the input reads as it did. -/
def fnExactNodeOkSpec : ChangeSpec := { name := "fnExactNodeOk", fn := fun _ => fun
  | [d] => { results := [.lit (.bool true)], args := [d] }
  | _ => none }
def fnExactNodeOkRow : OpenClaim := { program := "ytaccamnoacdiiaa", sum := "c56fd38d941a0fbc92108660c8510db33ad40411a15cf5b9eb87e08b77458a03", func := "loop.example/witan/laws.FnExactNodeOk", spec := "fnExactNodeOk", unfollowed := true, recurses := true, apart := false }
def FnExactNodeOkSaid : Prop := fnExactNodeOkRow.holds Try.pinned (OpenSpec.ofChange fnExactNodeOkSpec)

/-- ITS FALSE NEIGHBOUR: 'it returns false'. Refute it at one input. -/
def fnExactNodeOkWrong : ChangeSpec := { name := "fnExactNodeOk", fn := fun _ => fun
  | [d] => { results := [.lit (.bool false)], args := [d] }
  | _ => none }
def FnExactNodeOkWrongFalsely : Prop := fnExactNodeOkRow.holds Try.pinned (OpenSpec.ofChange fnExactNodeOkWrong)

/- THE SECOND FORM. 'bulk': how many values and letters a reading holds, each counted each time it is reached (what is shared counts as often as it is met; a slice's spare places count too). A statement '..UptoSaid' is the law's where the arguments, and the package variables that the reading takes, are together of bulk at most 1048576: NARROWER than '..Said'. Prove '..Said' where nothing that the law and all that it calls make is longer than what came in: it says more and counts as full. Else prove '..UptoSaid'. A law counts once. -/
mutual
def uptoBulk {H : Type} : DataW H → Nat
  | .lit (.string bytes) => bytes.length + 1
  | .lit _ => 1
  | .nil => 1
  | .ptr d => uptoBulk d + 1
  | .slice elems spare => uptoBulkAll elems + uptoBulkAll spare + 1
  | .agg parts => uptoBulkAll parts + 1
  | .iface _ d => uptoBulk d + 1
  | .map entries => uptoBulkEntries entries + 1
  | .held _ => 1
def uptoBulkAll {H : Type} : List (DataW H) → Nat
  | [] => 0
  | d :: r => uptoBulk d + uptoBulkAll r
def uptoBulkEntries {H : Type} : List (Lit × DataW H) → Nat
  | [] => 0
  | x :: r => uptoBulkEntry x + uptoBulkEntries r
def uptoBulkEntry {H : Type} : Lit × DataW H → Nat
  | (.string bytes, d) => bytes.length + uptoBulk d + 1
  | (_, d) => uptoBulk d + 1
 end
def uptoSmall : (H : Type) → List (DataW H) → Bool := fun _ ds => decide (uptoBulkAll ds ≤ 1048576)
def OpenSpec.upto (s : _root_.Go.ChangeSpec) : _root_.Go.OpenSpec := { _root_.Go.OpenSpec.ofChange s with cond := some uptoSmall }

/-- 'laws.FnVoteForm', WHERE WHAT IT READS IS OF BULK AT MOST 1048576: true; the input reads as it did. -/
def fnVoteFormUptoRow : OpenClaim := { program := "ytaccamnoacdiiaa", sum := "c56fd38d941a0fbc92108660c8510db33ad40411a15cf5b9eb87e08b77458a03", func := "loop.example/witan/laws.FnVoteForm", spec := "fnVoteForm", apart := false, narrowed := true }
def FnVoteFormUptoSaid : Prop := fnVoteFormUptoRow.holds Try.pinned (OpenSpec.upto fnVoteFormSpec)

/-- 'laws.FnExactVoteOk', WHERE WHAT IT READS IS OF BULK AT MOST 1048576: true; the input reads as it did. -/
def fnExactVoteOkUptoRow : OpenClaim := { program := "ytaccamnoacdiiaa", sum := "c56fd38d941a0fbc92108660c8510db33ad40411a15cf5b9eb87e08b77458a03", func := "loop.example/witan/laws.FnExactVoteOk", spec := "fnExactVoteOk", apart := false, narrowed := true }
def FnExactVoteOkUptoSaid : Prop := fnExactVoteOkUptoRow.holds Try.pinned (OpenSpec.upto fnExactVoteOkSpec)

/-- 'laws.FnExactNodeNew', WHERE WHAT IT READS IS OF BULK AT MOST 1048576: true; the input reads as it did. -/
def fnExactNodeNewUptoRow : OpenClaim := { program := "ytaccamnoacdiiaa", sum := "c56fd38d941a0fbc92108660c8510db33ad40411a15cf5b9eb87e08b77458a03", func := "loop.example/witan/laws.FnExactNodeNew", spec := "fnExactNodeNew", apart := false, narrowed := true }
def FnExactNodeNewUptoSaid : Prop := fnExactNodeNewUptoRow.holds Try.pinned (OpenSpec.upto fnExactNodeNewSpec)

/-- 'laws.FnExactVotesOk', WHERE WHAT IT READS IS OF BULK AT MOST 1048576: true; the input reads as it did. -/
def fnExactVotesOkUptoRow : OpenClaim := { program := "ytaccamnoacdiiaa", sum := "c56fd38d941a0fbc92108660c8510db33ad40411a15cf5b9eb87e08b77458a03", func := "loop.example/witan/laws.FnExactVotesOk", spec := "fnExactVotesOk", unfollowed := true, recurses := true, apart := false, narrowed := true }
def FnExactVotesOkUptoSaid : Prop := fnExactVotesOkUptoRow.holds Try.pinned (OpenSpec.upto fnExactVotesOkSpec)

/-- 'laws.FnVotesLess', WHERE WHAT IT READS IS OF BULK AT MOST 1048576: true; the input reads as it did. -/
def fnVotesLessUptoRow : OpenClaim := { program := "ytaccamnoacdiiaa", sum := "c56fd38d941a0fbc92108660c8510db33ad40411a15cf5b9eb87e08b77458a03", func := "loop.example/witan/laws.FnVotesLess", spec := "fnVotesLess", unfollowed := true, recurses := true, apart := false, narrowed := true }
def FnVotesLessUptoSaid : Prop := fnVotesLessUptoRow.holds Try.pinned (OpenSpec.upto fnVotesLessSpec)

/-- 'laws.FnExactNodeOk', WHERE WHAT IT READS IS OF BULK AT MOST 1048576: true; the input reads as it did. -/
def fnExactNodeOkUptoRow : OpenClaim := { program := "ytaccamnoacdiiaa", sum := "c56fd38d941a0fbc92108660c8510db33ad40411a15cf5b9eb87e08b77458a03", func := "loop.example/witan/laws.FnExactNodeOk", spec := "fnExactNodeOk", unfollowed := true, recurses := true, apart := false, narrowed := true }
def FnExactNodeOkUptoSaid : Prop := fnExactNodeOkUptoRow.holds Try.pinned (OpenSpec.upto fnExactNodeOkSpec)

end Rows
end Go.Proofs.Ytaccamnoacdiiaa
