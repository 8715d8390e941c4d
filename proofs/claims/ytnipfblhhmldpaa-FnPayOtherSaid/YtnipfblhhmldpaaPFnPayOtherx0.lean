/- The printed functions: what each Go function computes, as a Lean function, and that the Go code comes to just that. Conditions: none beyond each contract's own. -/
import Derived.Test.YtnipfblhhmldpaaProg
import Derived.Below
import Derived.Deep.Draws
import Derived.Deep.AppendLies
import Derived.Maps.AppendAt
import Derived.OwnWalk
import Derived.Laws.BytesArg
import Derived.Laws.MakeOwn
import Derived.Laws.OwnMore
import Derived.Deep.OwnRows
import Derived.Tactics
import Derived.Lib.ConvBytes
import Derived.Laws.Slices
import Derived.WalkKit
import Derived.KernelRfl
import Derived.RowKit3
import Derived.Deep.LoopGhost
import Derived.Deep.QuietTactic
import Derived.BigQuiet
import Derived.WideLaws
import Derived.Deep.DeepCutAuto
import Derived.Deep.CutBlock
import Derived.Deep.RegionHeld3
import Derived.Laws.Rows
import Derived.Lib.AppendStr
import Derived.ArgAppend
import Derived.Laws.IdiomCopy
import Derived.OrdersHeld
import Derived.Laws.BitsLemmas
import Derived.RowKit
import Derived.Test.YtnipfblhhmldpaaWWords
import Derived.Test.YtnipfblhhmldpaaWLast
import Derived.Test.YtnipfblhhmldpaaWTab
import Derived.Test.YtnipfblhhmldpaaWFour
import Derived.Test.YtnipfblhhmldpaaWQPut
import Derived.Test.YtnipfblhhmldpaaWApart
import Derived.Test.YtnipfblhhmldpaaWArr
import Derived.Test.YtnipfblhhmldpaaWZeros
import Derived.Test.YtnipfblhhmldpaaWFoot
import Derived.Test.YtnipfblhhmldpaaWKept
import Derived.Test.YtnipfblhhmldpaaWShare
import Derived.Test.YtnipfblhhmldpaaWN
import Derived.Test.YtnipfblhhmldpaaWFootNe
import Derived.Test.YtnipfblhhmldpaaWAt
import Derived.Test.YtnipfblhhmldpaaWEqStruct
import Derived.Test.YtnipfblhhmldpaaWRepsOne
import Derived.Test.YtnipfblhhmldpaaWInv
import Derived.Test.YtnipfblhhmldpaaWInvWords
import Derived.Test.YtnipfblhhmldpaaWGuard
import Derived.Test.YtnipfblhhmldpaaWNEv
import Derived.Test.YtnipfblhhmldpaaWMore
namespace Go.Proofs.Ytnipfblhhmldpaa.PFnPayOther
open Go.RowKit Go.Proofs.YtnipfblhhmldpaaW.PrintWords Go.Proofs.YtnipfblhhmldpaaW.PrintLast Go.Proofs.YtnipfblhhmldpaaW.PrintMore
attribute [local go_sem] max2_int min2_int max_two min_two max_three min_three max_four min_four   -- for this text's walks alone
set_option linter.unusedVariables false
set_option linter.unusedSimpArgs false



def errW : Option Int → Value
  | none => .nilIface
  | some c => .iface 0 (.int .i64 c)
theorem errW_none : errW none = .nilIface := rfl
theorem errW_some (c : Int) : errW (some c) = .iface 0 (.int .i64 c) := rfl

theorem info3 : (Try.prog.info? 3).map (fun i => (i.zero, i.size, i.bytes)) = some (some (.int .i64 0), 1, 8) := by kernel_rfl
theorem info5 : (Try.prog.info? 5).map (fun i => (i.zero, i.size, i.bytes)) = some (some (.int .u8 0), 1, 1) := by kernel_rfl
-- the values' own types

end Go.Proofs.Ytnipfblhhmldpaa.PFnPayOther
