/-
  No cell of these rows narrows 'for every input' (looked for: loops, veiled, ifaces, maps, wideKeys, modest, calm, conditions, laid).
  DERIVED. THE GIVEN ROWS OF THIS SEAT. 3 by the template 'for every input the law returns true; each argument reads behind the call as it read before'; 0 by the template 'total and deterministic' (their statements: YtlcfalecbpnhbaaTotals.lean).
  GIVEN WITH THE SEED: the statements are not yours to turn. If you find one false, say at which input.
  Laid BY PROGRAM, IN A SANDBOX (cutbox-rows.mjs): the forced cells as the released guide's own fill.sh prints them over the translation de92f7c9a2b4a87c… (all of the seat's roots in one cut). By AI agents, Wed Nov 11 2026. No macro, syntax, notation, axiom, sorry.
-/
import Derived.Test.YtlcfalecbpnhbaaChecked
import GoSem.Claim
import GoSem.ClaimJoined
import GoSem.ClaimMapViews
import Derived.JoinedTies
import Derived.KernelRfl
namespace Go.Proofs.Ytlcfalecbpnhbaa
/- THE CELL 'sum', in the pinned program and in every row, IS THE sha256 OF THE DUMP (.gsa) THAT YtlcfalecbpnhbaaProg.lean LOADS. Nothing in Lean hashes anything: it is a label: what it is worth is what the hold of that sum in a sandbox is worth. -/
noncomputable def Try.pinned : Pinned := { name := "ytlcfalecbpnhbaa", sum := "de92f7c9a2b4a87c4734ef8812f4a4964bd5b0a4880d91569101172458b3ce76", checked := Try.checked }
namespace Rows
def none {H : Type} : Left H := { results := [], args := [] }

/-- 'laws.FnExactCertOk': WHATEVER THE INPUT: true; the input reads as it did. -/
def fnExactCertOkSpec : ChangeSpec := { name := "fnExactCertOk", fn := fun _ => fun
  | [d] => { results := [.lit (.bool true)], args := [d] }
  | _ => none }
def fnExactCertOkRow : OpenClaim := { program := "ytlcfalecbpnhbaa", sum := "de92f7c9a2b4a87c4734ef8812f4a4964bd5b0a4880d91569101172458b3ce76", func := "loop.example/witan/laws.FnExactCertOk", spec := "fnExactCertOk", unfollowed := true, recurses := true, apart := false }
def FnExactCertOkSaid : Prop := fnExactCertOkRow.holds Try.pinned (OpenSpec.ofChange fnExactCertOkSpec)

/-- ITS FALSE NEIGHBOUR: 'it returns false'. Refute it at one input. -/
def fnExactCertOkWrong : ChangeSpec := { name := "fnExactCertOk", fn := fun _ => fun
  | [d] => { results := [.lit (.bool false)], args := [d] }
  | _ => none }
def FnExactCertOkWrongFalsely : Prop := fnExactCertOkRow.holds Try.pinned (OpenSpec.ofChange fnExactCertOkWrong)

/-- 'laws.FnCertForm': WHATEVER THE INPUT: true; the input reads as it did. -/
def fnCertFormSpec : ChangeSpec := { name := "fnCertForm", fn := fun _ => fun
  | [d] => { results := [.lit (.bool true)], args := [d] }
  | _ => none }
def fnCertFormRow : OpenClaim := { program := "ytlcfalecbpnhbaa", sum := "de92f7c9a2b4a87c4734ef8812f4a4964bd5b0a4880d91569101172458b3ce76", func := "loop.example/witan/laws.FnCertForm", spec := "fnCertForm", unfollowed := true, recurses := true, apart := false }
def FnCertFormSaid : Prop := fnCertFormRow.holds Try.pinned (OpenSpec.ofChange fnCertFormSpec)

/-- ITS FALSE NEIGHBOUR: 'it returns false'. Refute it at one input. -/
def fnCertFormWrong : ChangeSpec := { name := "fnCertForm", fn := fun _ => fun
  | [d] => { results := [.lit (.bool false)], args := [d] }
  | _ => none }
def FnCertFormWrongFalsely : Prop := fnCertFormRow.holds Try.pinned (OpenSpec.ofChange fnCertFormWrong)

/-- 'laws.FnCertMore': WHATEVER THE INPUT: true; the input reads as it did. -/
def fnCertMoreSpec : ChangeSpec := { name := "fnCertMore", fn := fun _ => fun
  | [d1, d2] => { results := [.lit (.bool true)], args := [d1, d2] }
  | _ => none }
def fnCertMoreRow : OpenClaim := { program := "ytlcfalecbpnhbaa", sum := "de92f7c9a2b4a87c4734ef8812f4a4964bd5b0a4880d91569101172458b3ce76", func := "loop.example/witan/laws.FnCertMore", spec := "fnCertMore", unfollowed := true, recurses := true, apart := false }
def FnCertMoreSaid : Prop := fnCertMoreRow.holds Try.pinned (OpenSpec.ofChange fnCertMoreSpec)

/-- ITS FALSE NEIGHBOUR: 'it returns false'. Refute it at one input. -/
def fnCertMoreWrong : ChangeSpec := { name := "fnCertMore", fn := fun _ => fun
  | [d1, d2] => { results := [.lit (.bool false)], args := [d1, d2] }
  | _ => none }
def FnCertMoreWrongFalsely : Prop := fnCertMoreRow.holds Try.pinned (OpenSpec.ofChange fnCertMoreWrong)

/- THE SECOND FORM. 'bulk': how many values and letters a reading holds, each counted each time it is reached (what is shared counts as often as it is met; a slice's spare places count too). A statement '..UptoSaid' is the law's where the arguments, and the package variables that the reading takes, are together of bulk at most 1048576: NARROWER than '..Said'. Prove '..Said' where nothing that the law and all that it calls make is longer than what came in: it says more and counts as full. Else prove '..UptoSaid'. A law counts once. -/
mutual
def uptoBulk {H : Type} : DataW H → Nat
  | .lit (.string bytes) => bytes.length + 1
  | .lit _ => 1
  | .nil => 1
  | .ptr d => uptoBulk d + 1
  | .slice elems spare => uptoBulkAll elems + uptoBulkAll spare + 1
  | .agg parts => uptoBulkAll parts + 1
  | .iface _ d => uptoBulk d + 1
  | .map entries => uptoBulkEntries entries + 1
  | .held _ => 1
def uptoBulkAll {H : Type} : List (DataW H) → Nat
  | [] => 0
  | d :: r => uptoBulk d + uptoBulkAll r
def uptoBulkEntries {H : Type} : List (Lit × DataW H) → Nat
  | [] => 0
  | x :: r => uptoBulkEntry x + uptoBulkEntries r
def uptoBulkEntry {H : Type} : Lit × DataW H → Nat
  | (.string bytes, d) => bytes.length + uptoBulk d + 1
  | (_, d) => uptoBulk d + 1
 end
def uptoSmall : (H : Type) → List (DataW H) → Bool := fun _ ds => decide (uptoBulkAll ds ≤ 1048576)
def OpenSpec.upto (s : _root_.Go.ChangeSpec) : _root_.Go.OpenSpec := { _root_.Go.OpenSpec.ofChange s with cond := some uptoSmall }

/-- 'laws.FnExactCertOk', WHERE WHAT IT READS IS OF BULK AT MOST 1048576: true; the input reads as it did. -/
def fnExactCertOkUptoRow : OpenClaim := { program := "ytlcfalecbpnhbaa", sum := "de92f7c9a2b4a87c4734ef8812f4a4964bd5b0a4880d91569101172458b3ce76", func := "loop.example/witan/laws.FnExactCertOk", spec := "fnExactCertOk", unfollowed := true, recurses := true, apart := false, narrowed := true }
def FnExactCertOkUptoSaid : Prop := fnExactCertOkUptoRow.holds Try.pinned (OpenSpec.upto fnExactCertOkSpec)

/-- 'laws.FnCertForm', WHERE WHAT IT READS IS OF BULK AT MOST 1048576: true; the input reads as it did. -/
def fnCertFormUptoRow : OpenClaim := { program := "ytlcfalecbpnhbaa", sum := "de92f7c9a2b4a87c4734ef8812f4a4964bd5b0a4880d91569101172458b3ce76", func := "loop.example/witan/laws.FnCertForm", spec := "fnCertForm", unfollowed := true, recurses := true, apart := false, narrowed := true }
def FnCertFormUptoSaid : Prop := fnCertFormUptoRow.holds Try.pinned (OpenSpec.upto fnCertFormSpec)

/-- 'laws.FnCertMore', WHERE WHAT IT READS IS OF BULK AT MOST 1048576: true; the input reads as it did. -/
def fnCertMoreUptoRow : OpenClaim := { program := "ytlcfalecbpnhbaa", sum := "de92f7c9a2b4a87c4734ef8812f4a4964bd5b0a4880d91569101172458b3ce76", func := "loop.example/witan/laws.FnCertMore", spec := "fnCertMore", unfollowed := true, recurses := true, apart := false, narrowed := true }
def FnCertMoreUptoSaid : Prop := fnCertMoreUptoRow.holds Try.pinned (OpenSpec.upto fnCertMoreSpec)

end Rows
end Go.Proofs.Ytlcfalecbpnhbaa
