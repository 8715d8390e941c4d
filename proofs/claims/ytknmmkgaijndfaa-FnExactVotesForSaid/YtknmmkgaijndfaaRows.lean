/-
  No cell of these rows narrows 'for every input' (looked for: loops, veiled, ifaces, maps, wideKeys, modest, calm, conditions, laid).
  DERIVED. THE GIVEN ROWS OF THIS SEAT. 7 by the template 'for every input the law returns true; each argument reads behind the call as it read before'; 0 by the template 'total and deterministic' (their statements: YtknmmkgaijndfaaTotals.lean).
  GIVEN WITH THE SEED: the statements are not yours to turn. If you find one false, say at which input.
  Laid BY PROGRAM, IN A SANDBOX (cutbox-rows.mjs): the forced cells as the released guide's own fill.sh prints them over the translation e7dd4b413dc04c54… (all of the seat's roots in one cut). By AI agents, Wed Nov 11 2026. No macro, syntax, notation, axiom, sorry.
-/
import Derived.Test.YtknmmkgaijndfaaChecked
import GoSem.Claim
import GoSem.ClaimJoined
import GoSem.ClaimMapViews
import Derived.JoinedTies
import Derived.KernelRfl
namespace Go.Proofs.Ytknmmkgaijndfaa
/- THE CELL 'sum', in the pinned program and in every row, IS THE sha256 OF THE DUMP (.gsa) THAT YtknmmkgaijndfaaProg.lean LOADS. Nothing in Lean hashes anything: it is a label: what it is worth is what the hold of that sum in a sandbox is worth. -/
noncomputable def Try.pinned : Pinned := { name := "ytknmmkgaijndfaa", sum := "e7dd4b413dc04c54d1f75452eb01ee17d200a2df9670343fb80089c90481e8ee", checked := Try.checked }
namespace Rows
def none {H : Type} : Left H := { results := [], args := [] }

/-- 'laws.FnExactTreeSure': WHATEVER THE INPUT: true; the input reads as it did. -/
def fnExactTreeSureSpec : ChangeSpec := { name := "fnExactTreeSure", fn := fun _ => fun
  | [d1, d2] => { results := [.lit (.bool true)], args := [d1, d2] }
  | _ => none }
def fnExactTreeSureRow : OpenClaim := { program := "ytknmmkgaijndfaa", sum := "e7dd4b413dc04c54d1f75452eb01ee17d200a2df9670343fb80089c90481e8ee", func := "loop.example/witan/laws.FnExactTreeSure", spec := "fnExactTreeSure", unfollowed := true, recurses := true, apart := false }
def FnExactTreeSureSaid : Prop := fnExactTreeSureRow.holds Try.pinned (OpenSpec.ofChange fnExactTreeSureSpec)

/-- ITS FALSE NEIGHBOUR: 'it returns false'. Refute it at one input. -/
def fnExactTreeSureWrong : ChangeSpec := { name := "fnExactTreeSure", fn := fun _ => fun
  | [d1, d2] => { results := [.lit (.bool false)], args := [d1, d2] }
  | _ => none }
def FnExactTreeSureWrongFalsely : Prop := fnExactTreeSureRow.holds Try.pinned (OpenSpec.ofChange fnExactTreeSureWrong)

/-- 'laws.FnExactVotesFor': WHATEVER THE INPUT: true; the input reads as it did. -/
def fnExactVotesForSpec : ChangeSpec := { name := "fnExactVotesFor", fn := fun _ => fun
  | [d1, d2] => { results := [.lit (.bool true)], args := [d1, d2] }
  | _ => none }
def fnExactVotesForRow : OpenClaim := { program := "ytknmmkgaijndfaa", sum := "e7dd4b413dc04c54d1f75452eb01ee17d200a2df9670343fb80089c90481e8ee", func := "loop.example/witan/laws.FnExactVotesFor", spec := "fnExactVotesFor", unfollowed := true, recurses := true, apart := false }
def FnExactVotesForSaid : Prop := fnExactVotesForRow.holds Try.pinned (OpenSpec.ofChange fnExactVotesForSpec)

/-- ITS FALSE NEIGHBOUR: 'it returns false'. Refute it at one input. -/
def fnExactVotesForWrong : ChangeSpec := { name := "fnExactVotesFor", fn := fun _ => fun
  | [d1, d2] => { results := [.lit (.bool false)], args := [d1, d2] }
  | _ => none }
def FnExactVotesForWrongFalsely : Prop := fnExactVotesForRow.holds Try.pinned (OpenSpec.ofChange fnExactVotesForWrong)

/-- 'laws.FnSureCount': WHATEVER THE INPUT: true; the input reads as it did. -/
def fnSureCountSpec : ChangeSpec := { name := "fnSureCount", fn := fun _ => fun
  | [d] => { results := [.lit (.bool true)], args := [d] }
  | _ => none }
def fnSureCountRow : OpenClaim := { program := "ytknmmkgaijndfaa", sum := "e7dd4b413dc04c54d1f75452eb01ee17d200a2df9670343fb80089c90481e8ee", func := "loop.example/witan/laws.FnSureCount", spec := "fnSureCount", unfollowed := true, recurses := true, apart := false }
def FnSureCountSaid : Prop := fnSureCountRow.holds Try.pinned (OpenSpec.ofChange fnSureCountSpec)

/-- ITS FALSE NEIGHBOUR: 'it returns false'. Refute it at one input. -/
def fnSureCountWrong : ChangeSpec := { name := "fnSureCount", fn := fun _ => fun
  | [d] => { results := [.lit (.bool false)], args := [d] }
  | _ => none }
def FnSureCountWrongFalsely : Prop := fnSureCountRow.holds Try.pinned (OpenSpec.ofChange fnSureCountWrong)

/-- 'laws.FnSureLess': WHATEVER THE INPUT: true; the input reads as it did. -/
def fnSureLessSpec : ChangeSpec := { name := "fnSureLess", fn := fun _ => fun
  | [d1, d2] => { results := [.lit (.bool true)], args := [d1, d2] }
  | _ => none }
def fnSureLessRow : OpenClaim := { program := "ytknmmkgaijndfaa", sum := "e7dd4b413dc04c54d1f75452eb01ee17d200a2df9670343fb80089c90481e8ee", func := "loop.example/witan/laws.FnSureLess", spec := "fnSureLess", unfollowed := true, recurses := true, apart := false }
def FnSureLessSaid : Prop := fnSureLessRow.holds Try.pinned (OpenSpec.ofChange fnSureLessSpec)

/-- ITS FALSE NEIGHBOUR: 'it returns false'. Refute it at one input. -/
def fnSureLessWrong : ChangeSpec := { name := "fnSureLess", fn := fun _ => fun
  | [d1, d2] => { results := [.lit (.bool false)], args := [d1, d2] }
  | _ => none }
def FnSureLessWrongFalsely : Prop := fnSureLessRow.holds Try.pinned (OpenSpec.ofChange fnSureLessWrong)

/-- 'laws.FnForMost': WHATEVER THE INPUT: true; the input reads as it did. -/
def fnForMostSpec : ChangeSpec := { name := "fnForMost", fn := fun _ => fun
  | [d] => { results := [.lit (.bool true)], args := [d] }
  | _ => none }
def fnForMostRow : OpenClaim := { program := "ytknmmkgaijndfaa", sum := "e7dd4b413dc04c54d1f75452eb01ee17d200a2df9670343fb80089c90481e8ee", func := "loop.example/witan/laws.FnForMost", spec := "fnForMost", unfollowed := true, recurses := true, apart := false }
def FnForMostSaid : Prop := fnForMostRow.holds Try.pinned (OpenSpec.ofChange fnForMostSpec)

/-- ITS FALSE NEIGHBOUR: 'it returns false'. Refute it at one input. -/
def fnForMostWrong : ChangeSpec := { name := "fnForMost", fn := fun _ => fun
  | [d] => { results := [.lit (.bool false)], args := [d] }
  | _ => none }
def FnForMostWrongFalsely : Prop := fnForMostRow.holds Try.pinned (OpenSpec.ofChange fnForMostWrong)

/-- 'laws.FnSureQuorum': WHATEVER THE INPUT: true; the input reads as it did. -/
def fnSureQuorumSpec : ChangeSpec := { name := "fnSureQuorum", fn := fun _ => fun
  | [d1, d2] => { results := [.lit (.bool true)], args := [d1, d2] }
  | _ => none }
def fnSureQuorumRow : OpenClaim := { program := "ytknmmkgaijndfaa", sum := "e7dd4b413dc04c54d1f75452eb01ee17d200a2df9670343fb80089c90481e8ee", func := "loop.example/witan/laws.FnSureQuorum", spec := "fnSureQuorum", unfollowed := true, recurses := true, apart := false }
def FnSureQuorumSaid : Prop := fnSureQuorumRow.holds Try.pinned (OpenSpec.ofChange fnSureQuorumSpec)

/-- ITS FALSE NEIGHBOUR: 'it returns false'. Refute it at one input. -/
def fnSureQuorumWrong : ChangeSpec := { name := "fnSureQuorum", fn := fun _ => fun
  | [d1, d2] => { results := [.lit (.bool false)], args := [d1, d2] }
  | _ => none }
def FnSureQuorumWrongFalsely : Prop := fnSureQuorumRow.holds Try.pinned (OpenSpec.ofChange fnSureQuorumWrong)

/-- 'laws.FnVotesFor': WHATEVER THE INPUT: true; the input reads as it did. -/
def fnVotesForSpec : ChangeSpec := { name := "fnVotesFor", fn := fun _ => fun
  | [d] => { results := [.lit (.bool true)], args := [d] }
  | _ => none }
def fnVotesForRow : OpenClaim := { program := "ytknmmkgaijndfaa", sum := "e7dd4b413dc04c54d1f75452eb01ee17d200a2df9670343fb80089c90481e8ee", func := "loop.example/witan/laws.FnVotesFor", spec := "fnVotesFor", unfollowed := true, recurses := true, apart := false }
def FnVotesForSaid : Prop := fnVotesForRow.holds Try.pinned (OpenSpec.ofChange fnVotesForSpec)

/-- ITS FALSE NEIGHBOUR: 'it returns false'. Refute it at one input. -/
def fnVotesForWrong : ChangeSpec := { name := "fnVotesFor", fn := fun _ => fun
  | [d] => { results := [.lit (.bool false)], args := [d] }
  | _ => none }
def FnVotesForWrongFalsely : Prop := fnVotesForRow.holds Try.pinned (OpenSpec.ofChange fnVotesForWrong)

/- THE SECOND FORM. 'bulk': how many values and letters a reading holds, each counted each time it is reached (what is shared counts as often as it is met; a slice's spare places count too). A statement '..UptoSaid' is the law's where the arguments, and the package variables that the reading takes, are together of bulk at most 1048576: NARROWER than '..Said'. Prove '..Said' where nothing that the law and all that it calls make is longer than what came in: it says more and counts as full. Else prove '..UptoSaid'. A law counts once. -/
mutual
def uptoBulk {H : Type} : DataW H → Nat
  | .lit (.string bytes) => bytes.length + 1
  | .lit _ => 1
  | .nil => 1
  | .ptr d => uptoBulk d + 1
  | .slice elems spare => uptoBulkAll elems + uptoBulkAll spare + 1
  | .agg parts => uptoBulkAll parts + 1
  | .iface _ d => uptoBulk d + 1
  | .map entries => uptoBulkEntries entries + 1
  | .held _ => 1
def uptoBulkAll {H : Type} : List (DataW H) → Nat
  | [] => 0
  | d :: r => uptoBulk d + uptoBulkAll r
def uptoBulkEntries {H : Type} : List (Lit × DataW H) → Nat
  | [] => 0
  | x :: r => uptoBulkEntry x + uptoBulkEntries r
def uptoBulkEntry {H : Type} : Lit × DataW H → Nat
  | (.string bytes, d) => bytes.length + uptoBulk d + 1
  | (_, d) => uptoBulk d + 1
 end
def uptoSmall : (H : Type) → List (DataW H) → Bool := fun _ ds => decide (uptoBulkAll ds ≤ 1048576)
def OpenSpec.upto (s : _root_.Go.ChangeSpec) : _root_.Go.OpenSpec := { _root_.Go.OpenSpec.ofChange s with cond := some uptoSmall }

/-- 'laws.FnExactTreeSure', WHERE WHAT IT READS IS OF BULK AT MOST 1048576: true; the input reads as it did. -/
def fnExactTreeSureUptoRow : OpenClaim := { program := "ytknmmkgaijndfaa", sum := "e7dd4b413dc04c54d1f75452eb01ee17d200a2df9670343fb80089c90481e8ee", func := "loop.example/witan/laws.FnExactTreeSure", spec := "fnExactTreeSure", unfollowed := true, recurses := true, apart := false, narrowed := true }
def FnExactTreeSureUptoSaid : Prop := fnExactTreeSureUptoRow.holds Try.pinned (OpenSpec.upto fnExactTreeSureSpec)

/-- 'laws.FnExactVotesFor', WHERE WHAT IT READS IS OF BULK AT MOST 1048576: true; the input reads as it did. -/
def fnExactVotesForUptoRow : OpenClaim := { program := "ytknmmkgaijndfaa", sum := "e7dd4b413dc04c54d1f75452eb01ee17d200a2df9670343fb80089c90481e8ee", func := "loop.example/witan/laws.FnExactVotesFor", spec := "fnExactVotesFor", unfollowed := true, recurses := true, apart := false, narrowed := true }
def FnExactVotesForUptoSaid : Prop := fnExactVotesForUptoRow.holds Try.pinned (OpenSpec.upto fnExactVotesForSpec)

/-- 'laws.FnSureCount', WHERE WHAT IT READS IS OF BULK AT MOST 1048576: true; the input reads as it did. -/
def fnSureCountUptoRow : OpenClaim := { program := "ytknmmkgaijndfaa", sum := "e7dd4b413dc04c54d1f75452eb01ee17d200a2df9670343fb80089c90481e8ee", func := "loop.example/witan/laws.FnSureCount", spec := "fnSureCount", unfollowed := true, recurses := true, apart := false, narrowed := true }
def FnSureCountUptoSaid : Prop := fnSureCountUptoRow.holds Try.pinned (OpenSpec.upto fnSureCountSpec)

/-- 'laws.FnSureLess', WHERE WHAT IT READS IS OF BULK AT MOST 1048576: true; the input reads as it did. -/
def fnSureLessUptoRow : OpenClaim := { program := "ytknmmkgaijndfaa", sum := "e7dd4b413dc04c54d1f75452eb01ee17d200a2df9670343fb80089c90481e8ee", func := "loop.example/witan/laws.FnSureLess", spec := "fnSureLess", unfollowed := true, recurses := true, apart := false, narrowed := true }
def FnSureLessUptoSaid : Prop := fnSureLessUptoRow.holds Try.pinned (OpenSpec.upto fnSureLessSpec)

/-- 'laws.FnForMost', WHERE WHAT IT READS IS OF BULK AT MOST 1048576: true; the input reads as it did. -/
def fnForMostUptoRow : OpenClaim := { program := "ytknmmkgaijndfaa", sum := "e7dd4b413dc04c54d1f75452eb01ee17d200a2df9670343fb80089c90481e8ee", func := "loop.example/witan/laws.FnForMost", spec := "fnForMost", unfollowed := true, recurses := true, apart := false, narrowed := true }
def FnForMostUptoSaid : Prop := fnForMostUptoRow.holds Try.pinned (OpenSpec.upto fnForMostSpec)

/-- 'laws.FnSureQuorum', WHERE WHAT IT READS IS OF BULK AT MOST 1048576: true; the input reads as it did. -/
def fnSureQuorumUptoRow : OpenClaim := { program := "ytknmmkgaijndfaa", sum := "e7dd4b413dc04c54d1f75452eb01ee17d200a2df9670343fb80089c90481e8ee", func := "loop.example/witan/laws.FnSureQuorum", spec := "fnSureQuorum", unfollowed := true, recurses := true, apart := false, narrowed := true }
def FnSureQuorumUptoSaid : Prop := fnSureQuorumUptoRow.holds Try.pinned (OpenSpec.upto fnSureQuorumSpec)

/-- 'laws.FnVotesFor', WHERE WHAT IT READS IS OF BULK AT MOST 1048576: true; the input reads as it did. -/
def fnVotesForUptoRow : OpenClaim := { program := "ytknmmkgaijndfaa", sum := "e7dd4b413dc04c54d1f75452eb01ee17d200a2df9670343fb80089c90481e8ee", func := "loop.example/witan/laws.FnVotesFor", spec := "fnVotesFor", unfollowed := true, recurses := true, apart := false, narrowed := true }
def FnVotesForUptoSaid : Prop := fnVotesForUptoRow.holds Try.pinned (OpenSpec.upto fnVotesForSpec)

end Rows
end Go.Proofs.Ytknmmkgaijndfaa
