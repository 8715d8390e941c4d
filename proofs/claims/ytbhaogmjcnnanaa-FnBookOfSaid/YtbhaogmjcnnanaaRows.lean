/-
  No cell of these rows narrows 'for every input' (looked for: loops, veiled, ifaces, maps, wideKeys, modest, calm, conditions, laid).
  DERIVED. THE GIVEN ROWS OF THIS SEAT. 12 by the template 'for every input the law returns true; each argument reads behind the call as it read before'; 0 by the template 'total and deterministic' (their statements: YtbhaogmjcnnanaaTotals.lean).
  GIVEN WITH THE SEED: the statements are not yours to turn. If you find one false, say at which input.
  Laid BY PROGRAM, IN A SANDBOX (cutbox-rows.mjs): the forced cells as the released guide's own fill.sh prints them over the translation ec8368e4ab5f1ed2… (all of the seat's roots in one cut). By AI agents, Wed Nov 11 2026. No macro, syntax, notation, axiom, sorry.
-/
import Derived.Test.YtbhaogmjcnnanaaChecked
import GoSem.Claim
import GoSem.ClaimJoined
import GoSem.ClaimMapViews
import Derived.JoinedTies
import Derived.KernelRfl
namespace Go.Proofs.Ytbhaogmjcnnanaa
/- THE CELL 'sum', in the pinned program and in every row, IS THE sha256 OF THE DUMP (.gsa) THAT YtbhaogmjcnnanaaProg.lean LOADS. Nothing in Lean hashes anything: it is a label: what it is worth is what the hold of that sum in a sandbox is worth. -/
noncomputable def Try.pinned : Pinned := { name := "ytbhaogmjcnnanaa", sum := "ec8368e4ab5f1ed201aa206a765e73232422a6b5fa77c9e838de3e5fae4c553c", checked := Try.checked }
namespace Rows
def none {H : Type} : Left H := { results := [], args := [] }

/-- 'laws.FnExactBookPay': WHATEVER THE INPUT: true; the input reads as it did. -/
def fnExactBookPaySpec : ChangeSpec := { name := "fnExactBookPay", fn := fun _ => fun
  | [d1, d2] => { results := [.lit (.bool true)], args := [d1, d2] }
  | _ => none }
def fnExactBookPayRow : OpenClaim := { program := "ytbhaogmjcnnanaa", sum := "ec8368e4ab5f1ed201aa206a765e73232422a6b5fa77c9e838de3e5fae4c553c", func := "loop.example/witan/laws.FnExactBookPay", spec := "fnExactBookPay", apart := false }
def FnExactBookPaySaid : Prop := fnExactBookPayRow.holds Try.pinned (OpenSpec.ofChange fnExactBookPaySpec)

/-- ITS FALSE NEIGHBOUR: 'it returns false'. Refute it at one input. -/
def fnExactBookPayWrong : ChangeSpec := { name := "fnExactBookPay", fn := fun _ => fun
  | [d1, d2] => { results := [.lit (.bool false)], args := [d1, d2] }
  | _ => none }
def FnExactBookPayWrongFalsely : Prop := fnExactBookPayRow.holds Try.pinned (OpenSpec.ofChange fnExactBookPayWrong)

/-- 'laws.FnBookOk': WHATEVER THE INPUT: true; the input reads as it did. -/
def fnBookOkSpec : ChangeSpec := { name := "fnBookOk", fn := fun _ => fun
  | [d1, d2] => { results := [.lit (.bool true)], args := [d1, d2] }
  | _ => none }
def fnBookOkRow : OpenClaim := { program := "ytbhaogmjcnnanaa", sum := "ec8368e4ab5f1ed201aa206a765e73232422a6b5fa77c9e838de3e5fae4c553c", func := "loop.example/witan/laws.FnBookOk", spec := "fnBookOk", apart := false }
def FnBookOkSaid : Prop := fnBookOkRow.holds Try.pinned (OpenSpec.ofChange fnBookOkSpec)

/-- ITS FALSE NEIGHBOUR: 'it returns false'. Refute it at one input. -/
def fnBookOkWrong : ChangeSpec := { name := "fnBookOk", fn := fun _ => fun
  | [d1, d2] => { results := [.lit (.bool false)], args := [d1, d2] }
  | _ => none }
def FnBookOkWrongFalsely : Prop := fnBookOkRow.holds Try.pinned (OpenSpec.ofChange fnBookOkWrong)

/-- 'laws.FnBookAll': WHATEVER THE INPUT: true; the input reads as it did. -/
def fnBookAllSpec : ChangeSpec := { name := "fnBookAll", fn := fun _ => fun
  | [d] => { results := [.lit (.bool true)], args := [d] }
  | _ => none }
def fnBookAllRow : OpenClaim := { program := "ytbhaogmjcnnanaa", sum := "ec8368e4ab5f1ed201aa206a765e73232422a6b5fa77c9e838de3e5fae4c553c", func := "loop.example/witan/laws.FnBookAll", spec := "fnBookAll", apart := false }
def FnBookAllSaid : Prop := fnBookAllRow.holds Try.pinned (OpenSpec.ofChange fnBookAllSpec)

/-- ITS FALSE NEIGHBOUR: 'it returns false'. Refute it at one input. -/
def fnBookAllWrong : ChangeSpec := { name := "fnBookAll", fn := fun _ => fun
  | [d] => { results := [.lit (.bool false)], args := [d] }
  | _ => none }
def FnBookAllWrongFalsely : Prop := fnBookAllRow.holds Try.pinned (OpenSpec.ofChange fnBookAllWrong)

/-- 'laws.FnBookBack': WHATEVER THE INPUT: true; the input reads as it did. -/
def fnBookBackSpec : ChangeSpec := { name := "fnBookBack", fn := fun _ => fun
  | [d] => { results := [.lit (.bool true)], args := [d] }
  | _ => none }
def fnBookBackRow : OpenClaim := { program := "ytbhaogmjcnnanaa", sum := "ec8368e4ab5f1ed201aa206a765e73232422a6b5fa77c9e838de3e5fae4c553c", func := "loop.example/witan/laws.FnBookBack", spec := "fnBookBack", apart := false }
def FnBookBackSaid : Prop := fnBookBackRow.holds Try.pinned (OpenSpec.ofChange fnBookBackSpec)

/-- ITS FALSE NEIGHBOUR: 'it returns false'. Refute it at one input. -/
def fnBookBackWrong : ChangeSpec := { name := "fnBookBack", fn := fun _ => fun
  | [d] => { results := [.lit (.bool false)], args := [d] }
  | _ => none }
def FnBookBackWrongFalsely : Prop := fnBookBackRow.holds Try.pinned (OpenSpec.ofChange fnBookBackWrong)

/-- 'laws.FnBookNone': WHATEVER THE INPUT: true; the input reads as it did. -/
def fnBookNoneSpec : ChangeSpec := { name := "fnBookNone", fn := fun _ => fun
  | [d1, d2] => { results := [.lit (.bool true)], args := [d1, d2] }
  | _ => none }
def fnBookNoneRow : OpenClaim := { program := "ytbhaogmjcnnanaa", sum := "ec8368e4ab5f1ed201aa206a765e73232422a6b5fa77c9e838de3e5fae4c553c", func := "loop.example/witan/laws.FnBookNone", spec := "fnBookNone", apart := false }
def FnBookNoneSaid : Prop := fnBookNoneRow.holds Try.pinned (OpenSpec.ofChange fnBookNoneSpec)

/-- ITS FALSE NEIGHBOUR: 'it returns false'. Refute it at one input. -/
def fnBookNoneWrong : ChangeSpec := { name := "fnBookNone", fn := fun _ => fun
  | [d1, d2] => { results := [.lit (.bool false)], args := [d1, d2] }
  | _ => none }
def FnBookNoneWrongFalsely : Prop := fnBookNoneRow.holds Try.pinned (OpenSpec.ofChange fnBookNoneWrong)

/-- 'laws.FnBookPay': WHATEVER THE INPUT: true; the input reads as it did. -/
def fnBookPaySpec : ChangeSpec := { name := "fnBookPay", fn := fun _ => fun
  | [d] => { results := [.lit (.bool true)], args := [d] }
  | _ => none }
def fnBookPayRow : OpenClaim := { program := "ytbhaogmjcnnanaa", sum := "ec8368e4ab5f1ed201aa206a765e73232422a6b5fa77c9e838de3e5fae4c553c", func := "loop.example/witan/laws.FnBookPay", spec := "fnBookPay", apart := false }
def FnBookPaySaid : Prop := fnBookPayRow.holds Try.pinned (OpenSpec.ofChange fnBookPaySpec)

/-- ITS FALSE NEIGHBOUR: 'it returns false'. Refute it at one input. -/
def fnBookPayWrong : ChangeSpec := { name := "fnBookPay", fn := fun _ => fun
  | [d] => { results := [.lit (.bool false)], args := [d] }
  | _ => none }
def FnBookPayWrongFalsely : Prop := fnBookPayRow.holds Try.pinned (OpenSpec.ofChange fnBookPayWrong)

/-- 'laws.FnBookRing': WHATEVER THE INPUT: true; the input reads as it did. -/
def fnBookRingSpec : ChangeSpec := { name := "fnBookRing", fn := fun _ => fun
  | [d] => { results := [.lit (.bool true)], args := [d] }
  | _ => none }
def fnBookRingRow : OpenClaim := { program := "ytbhaogmjcnnanaa", sum := "ec8368e4ab5f1ed201aa206a765e73232422a6b5fa77c9e838de3e5fae4c553c", func := "loop.example/witan/laws.FnBookRing", spec := "fnBookRing", apart := false }
def FnBookRingSaid : Prop := fnBookRingRow.holds Try.pinned (OpenSpec.ofChange fnBookRingSpec)

/-- ITS FALSE NEIGHBOUR: 'it returns false'. Refute it at one input. -/
def fnBookRingWrong : ChangeSpec := { name := "fnBookRing", fn := fun _ => fun
  | [d] => { results := [.lit (.bool false)], args := [d] }
  | _ => none }
def FnBookRingWrongFalsely : Prop := fnBookRingRow.holds Try.pinned (OpenSpec.ofChange fnBookRingWrong)

/-- 'laws.FnBookSplit': WHATEVER THE INPUT: true; the input reads as it did. -/
def fnBookSplitSpec : ChangeSpec := { name := "fnBookSplit", fn := fun _ => fun
  | [d] => { results := [.lit (.bool true)], args := [d] }
  | _ => none }
def fnBookSplitRow : OpenClaim := { program := "ytbhaogmjcnnanaa", sum := "ec8368e4ab5f1ed201aa206a765e73232422a6b5fa77c9e838de3e5fae4c553c", func := "loop.example/witan/laws.FnBookSplit", spec := "fnBookSplit", apart := false }
def FnBookSplitSaid : Prop := fnBookSplitRow.holds Try.pinned (OpenSpec.ofChange fnBookSplitSpec)

/-- ITS FALSE NEIGHBOUR: 'it returns false'. Refute it at one input. -/
def fnBookSplitWrong : ChangeSpec := { name := "fnBookSplit", fn := fun _ => fun
  | [d] => { results := [.lit (.bool false)], args := [d] }
  | _ => none }
def FnBookSplitWrongFalsely : Prop := fnBookSplitRow.holds Try.pinned (OpenSpec.ofChange fnBookSplitWrong)

/-- 'laws.FnExactBookOf': WHATEVER THE INPUT: true; the input reads as it did. -/
def fnExactBookOfSpec : ChangeSpec := { name := "fnExactBookOf", fn := fun _ => fun
  | [d] => { results := [.lit (.bool true)], args := [d] }
  | _ => none }
def fnExactBookOfRow : OpenClaim := { program := "ytbhaogmjcnnanaa", sum := "ec8368e4ab5f1ed201aa206a765e73232422a6b5fa77c9e838de3e5fae4c553c", func := "loop.example/witan/laws.FnExactBookOf", spec := "fnExactBookOf", apart := false }
def FnExactBookOfSaid : Prop := fnExactBookOfRow.holds Try.pinned (OpenSpec.ofChange fnExactBookOfSpec)

/-- ITS FALSE NEIGHBOUR: 'it returns false'. Refute it at one input. -/
def fnExactBookOfWrong : ChangeSpec := { name := "fnExactBookOf", fn := fun _ => fun
  | [d] => { results := [.lit (.bool false)], args := [d] }
  | _ => none }
def FnExactBookOfWrongFalsely : Prop := fnExactBookOfRow.holds Try.pinned (OpenSpec.ofChange fnExactBookOfWrong)

/-- 'laws.FnBookChain': WHATEVER THE INPUT: true; the input reads as it did. -/
def fnBookChainSpec : ChangeSpec := { name := "fnBookChain", fn := fun _ => fun
  | [d] => { results := [.lit (.bool true)], args := [d] }
  | _ => none }
def fnBookChainRow : OpenClaim := { program := "ytbhaogmjcnnanaa", sum := "ec8368e4ab5f1ed201aa206a765e73232422a6b5fa77c9e838de3e5fae4c553c", func := "loop.example/witan/laws.FnBookChain", spec := "fnBookChain", apart := false }
def FnBookChainSaid : Prop := fnBookChainRow.holds Try.pinned (OpenSpec.ofChange fnBookChainSpec)

/-- ITS FALSE NEIGHBOUR: 'it returns false'. Refute it at one input. -/
def fnBookChainWrong : ChangeSpec := { name := "fnBookChain", fn := fun _ => fun
  | [d] => { results := [.lit (.bool false)], args := [d] }
  | _ => none }
def FnBookChainWrongFalsely : Prop := fnBookChainRow.holds Try.pinned (OpenSpec.ofChange fnBookChainWrong)

/-- 'laws.FnBookMost': WHATEVER THE INPUT: true; the input reads as it did. -/
def fnBookMostSpec : ChangeSpec := { name := "fnBookMost", fn := fun _ => fun
  | [d1, d2] => { results := [.lit (.bool true)], args := [d1, d2] }
  | _ => none }
def fnBookMostRow : OpenClaim := { program := "ytbhaogmjcnnanaa", sum := "ec8368e4ab5f1ed201aa206a765e73232422a6b5fa77c9e838de3e5fae4c553c", func := "loop.example/witan/laws.FnBookMost", spec := "fnBookMost", apart := false }
def FnBookMostSaid : Prop := fnBookMostRow.holds Try.pinned (OpenSpec.ofChange fnBookMostSpec)

/-- ITS FALSE NEIGHBOUR: 'it returns false'. Refute it at one input. -/
def fnBookMostWrong : ChangeSpec := { name := "fnBookMost", fn := fun _ => fun
  | [d1, d2] => { results := [.lit (.bool false)], args := [d1, d2] }
  | _ => none }
def FnBookMostWrongFalsely : Prop := fnBookMostRow.holds Try.pinned (OpenSpec.ofChange fnBookMostWrong)

/-- 'laws.FnBookOf': WHATEVER THE INPUT: true; the input reads as it did. -/
def fnBookOfSpec : ChangeSpec := { name := "fnBookOf", fn := fun _ => fun
  | [d1, d2] => { results := [.lit (.bool true)], args := [d1, d2] }
  | _ => none }
def fnBookOfRow : OpenClaim := { program := "ytbhaogmjcnnanaa", sum := "ec8368e4ab5f1ed201aa206a765e73232422a6b5fa77c9e838de3e5fae4c553c", func := "loop.example/witan/laws.FnBookOf", spec := "fnBookOf", apart := false }
def FnBookOfSaid : Prop := fnBookOfRow.holds Try.pinned (OpenSpec.ofChange fnBookOfSpec)

/-- ITS FALSE NEIGHBOUR: 'it returns false'. Refute it at one input. -/
def fnBookOfWrong : ChangeSpec := { name := "fnBookOf", fn := fun _ => fun
  | [d1, d2] => { results := [.lit (.bool false)], args := [d1, d2] }
  | _ => none }
def FnBookOfWrongFalsely : Prop := fnBookOfRow.holds Try.pinned (OpenSpec.ofChange fnBookOfWrong)

/- THE SECOND FORM. 'bulk': how many values and letters a reading holds, each counted each time it is reached (what is shared counts as often as it is met; a slice's spare places count too). A statement '..UptoSaid' is the law's where the arguments, and the package variables that the reading takes, are together of bulk at most 1048576: NARROWER than '..Said'. Prove '..Said' where nothing that the law and all that it calls make is longer than what came in: it says more and counts as full. Else prove '..UptoSaid'. A law counts once. -/
mutual
def uptoBulk {H : Type} : DataW H → Nat
  | .lit (.string bytes) => bytes.length + 1
  | .lit _ => 1
  | .nil => 1
  | .ptr d => uptoBulk d + 1
  | .slice elems spare => uptoBulkAll elems + uptoBulkAll spare + 1
  | .agg parts => uptoBulkAll parts + 1
  | .iface _ d => uptoBulk d + 1
  | .map entries => uptoBulkEntries entries + 1
  | .held _ => 1
def uptoBulkAll {H : Type} : List (DataW H) → Nat
  | [] => 0
  | d :: r => uptoBulk d + uptoBulkAll r
def uptoBulkEntries {H : Type} : List (Lit × DataW H) → Nat
  | [] => 0
  | x :: r => uptoBulkEntry x + uptoBulkEntries r
def uptoBulkEntry {H : Type} : Lit × DataW H → Nat
  | (.string bytes, d) => bytes.length + uptoBulk d + 1
  | (_, d) => uptoBulk d + 1
 end
def uptoSmall : (H : Type) → List (DataW H) → Bool := fun _ ds => decide (uptoBulkAll ds ≤ 1048576)
def OpenSpec.upto (s : _root_.Go.ChangeSpec) : _root_.Go.OpenSpec := { _root_.Go.OpenSpec.ofChange s with cond := some uptoSmall }

/-- 'laws.FnExactBookPay', WHERE WHAT IT READS IS OF BULK AT MOST 1048576: true; the input reads as it did. -/
def fnExactBookPayUptoRow : OpenClaim := { program := "ytbhaogmjcnnanaa", sum := "ec8368e4ab5f1ed201aa206a765e73232422a6b5fa77c9e838de3e5fae4c553c", func := "loop.example/witan/laws.FnExactBookPay", spec := "fnExactBookPay", apart := false, narrowed := true }
def FnExactBookPayUptoSaid : Prop := fnExactBookPayUptoRow.holds Try.pinned (OpenSpec.upto fnExactBookPaySpec)

/-- 'laws.FnBookOk', WHERE WHAT IT READS IS OF BULK AT MOST 1048576: true; the input reads as it did. -/
def fnBookOkUptoRow : OpenClaim := { program := "ytbhaogmjcnnanaa", sum := "ec8368e4ab5f1ed201aa206a765e73232422a6b5fa77c9e838de3e5fae4c553c", func := "loop.example/witan/laws.FnBookOk", spec := "fnBookOk", apart := false, narrowed := true }
def FnBookOkUptoSaid : Prop := fnBookOkUptoRow.holds Try.pinned (OpenSpec.upto fnBookOkSpec)

/-- 'laws.FnBookAll', WHERE WHAT IT READS IS OF BULK AT MOST 1048576: true; the input reads as it did. -/
def fnBookAllUptoRow : OpenClaim := { program := "ytbhaogmjcnnanaa", sum := "ec8368e4ab5f1ed201aa206a765e73232422a6b5fa77c9e838de3e5fae4c553c", func := "loop.example/witan/laws.FnBookAll", spec := "fnBookAll", apart := false, narrowed := true }
def FnBookAllUptoSaid : Prop := fnBookAllUptoRow.holds Try.pinned (OpenSpec.upto fnBookAllSpec)

/-- 'laws.FnBookBack', WHERE WHAT IT READS IS OF BULK AT MOST 1048576: true; the input reads as it did. -/
def fnBookBackUptoRow : OpenClaim := { program := "ytbhaogmjcnnanaa", sum := "ec8368e4ab5f1ed201aa206a765e73232422a6b5fa77c9e838de3e5fae4c553c", func := "loop.example/witan/laws.FnBookBack", spec := "fnBookBack", apart := false, narrowed := true }
def FnBookBackUptoSaid : Prop := fnBookBackUptoRow.holds Try.pinned (OpenSpec.upto fnBookBackSpec)

/-- 'laws.FnBookNone', WHERE WHAT IT READS IS OF BULK AT MOST 1048576: true; the input reads as it did. -/
def fnBookNoneUptoRow : OpenClaim := { program := "ytbhaogmjcnnanaa", sum := "ec8368e4ab5f1ed201aa206a765e73232422a6b5fa77c9e838de3e5fae4c553c", func := "loop.example/witan/laws.FnBookNone", spec := "fnBookNone", apart := false, narrowed := true }
def FnBookNoneUptoSaid : Prop := fnBookNoneUptoRow.holds Try.pinned (OpenSpec.upto fnBookNoneSpec)

/-- 'laws.FnBookPay', WHERE WHAT IT READS IS OF BULK AT MOST 1048576: true; the input reads as it did. -/
def fnBookPayUptoRow : OpenClaim := { program := "ytbhaogmjcnnanaa", sum := "ec8368e4ab5f1ed201aa206a765e73232422a6b5fa77c9e838de3e5fae4c553c", func := "loop.example/witan/laws.FnBookPay", spec := "fnBookPay", apart := false, narrowed := true }
def FnBookPayUptoSaid : Prop := fnBookPayUptoRow.holds Try.pinned (OpenSpec.upto fnBookPaySpec)

/-- 'laws.FnBookRing', WHERE WHAT IT READS IS OF BULK AT MOST 1048576: true; the input reads as it did. -/
def fnBookRingUptoRow : OpenClaim := { program := "ytbhaogmjcnnanaa", sum := "ec8368e4ab5f1ed201aa206a765e73232422a6b5fa77c9e838de3e5fae4c553c", func := "loop.example/witan/laws.FnBookRing", spec := "fnBookRing", apart := false, narrowed := true }
def FnBookRingUptoSaid : Prop := fnBookRingUptoRow.holds Try.pinned (OpenSpec.upto fnBookRingSpec)

/-- 'laws.FnBookSplit', WHERE WHAT IT READS IS OF BULK AT MOST 1048576: true; the input reads as it did. -/
def fnBookSplitUptoRow : OpenClaim := { program := "ytbhaogmjcnnanaa", sum := "ec8368e4ab5f1ed201aa206a765e73232422a6b5fa77c9e838de3e5fae4c553c", func := "loop.example/witan/laws.FnBookSplit", spec := "fnBookSplit", apart := false, narrowed := true }
def FnBookSplitUptoSaid : Prop := fnBookSplitUptoRow.holds Try.pinned (OpenSpec.upto fnBookSplitSpec)

/-- 'laws.FnExactBookOf', WHERE WHAT IT READS IS OF BULK AT MOST 1048576: true; the input reads as it did. -/
def fnExactBookOfUptoRow : OpenClaim := { program := "ytbhaogmjcnnanaa", sum := "ec8368e4ab5f1ed201aa206a765e73232422a6b5fa77c9e838de3e5fae4c553c", func := "loop.example/witan/laws.FnExactBookOf", spec := "fnExactBookOf", apart := false, narrowed := true }
def FnExactBookOfUptoSaid : Prop := fnExactBookOfUptoRow.holds Try.pinned (OpenSpec.upto fnExactBookOfSpec)

/-- 'laws.FnBookChain', WHERE WHAT IT READS IS OF BULK AT MOST 1048576: true; the input reads as it did. -/
def fnBookChainUptoRow : OpenClaim := { program := "ytbhaogmjcnnanaa", sum := "ec8368e4ab5f1ed201aa206a765e73232422a6b5fa77c9e838de3e5fae4c553c", func := "loop.example/witan/laws.FnBookChain", spec := "fnBookChain", apart := false, narrowed := true }
def FnBookChainUptoSaid : Prop := fnBookChainUptoRow.holds Try.pinned (OpenSpec.upto fnBookChainSpec)

/-- 'laws.FnBookMost', WHERE WHAT IT READS IS OF BULK AT MOST 1048576: true; the input reads as it did. -/
def fnBookMostUptoRow : OpenClaim := { program := "ytbhaogmjcnnanaa", sum := "ec8368e4ab5f1ed201aa206a765e73232422a6b5fa77c9e838de3e5fae4c553c", func := "loop.example/witan/laws.FnBookMost", spec := "fnBookMost", apart := false, narrowed := true }
def FnBookMostUptoSaid : Prop := fnBookMostUptoRow.holds Try.pinned (OpenSpec.upto fnBookMostSpec)

/-- 'laws.FnBookOf', WHERE WHAT IT READS IS OF BULK AT MOST 1048576: true; the input reads as it did. -/
def fnBookOfUptoRow : OpenClaim := { program := "ytbhaogmjcnnanaa", sum := "ec8368e4ab5f1ed201aa206a765e73232422a6b5fa77c9e838de3e5fae4c553c", func := "loop.example/witan/laws.FnBookOf", spec := "fnBookOf", apart := false, narrowed := true }
def FnBookOfUptoSaid : Prop := fnBookOfUptoRow.holds Try.pinned (OpenSpec.upto fnBookOfSpec)

end Rows
end Go.Proofs.Ytbhaogmjcnnanaa
