/- The program's BookNew and the reference's answer the same, and what it answered stays its own: written into, it keeps what was written, behind another call too. The plain part: what the printed functions compute answers true. Conditions: the argument fits the machine, as the row says. -/
import Derived.Test.YtkkfokcbbhnjeaaPx3
import Derived.Test.YtkkfokcbbhnjeaaFAll
import Derived.Test.YtkkfokcbbhnjeaaPlain
namespace Go.Proofs.Ytkkfokcbbhnjeaa.Pure
open Go.RowKit Go.Proofs.Ytkkfokcbbhnjeaa.P Go.Proofs.YtkkfokcbbhnjeaaW.PrintWords Go.Proofs.YtkkfokcbbhnjeaaW.PrintLast Go.Proofs.YtkkfokcbbhnjeaaW.PrintMore Go.Proofs.YtkkfokcbbhnjeaaE
set_option linter.unusedVariables false
set_option linter.unusedSimpArgs false

theorem FnExactBookNew : laws_FnExactBookNew.Pure:=by
  refine Evt.get ?_
  unfold laws_FnExactBookNew.f
  refine Evt.bind (P:=fun r => r = [9,9,9]) (Evt.now _ rfl) fun a ha => ?_
  refine Evt.bind (P:=fun r => r = [9,9,9]) (Evt.now _ rfl) fun b hb => ?_
  subst ha hb
  refine Evt.bind (eqIntS_ends [9,9,9] [9,9,9] (by decide)) fun t ht => ?_
  refine Evt.pos (by rw [ht];decide) ?_
  refine Evt.bind (markIntS_ends [9,9,9] 1 (by decide) (by decide) (by decide)) fun m hm => ?_
  subst hm
  refine Evt.bind (heldIntS_ends 3 1 (by decide) (by decide) (by decide)) fun q hq => ?_
  subst hq
  refine Evt.neg (by decide) (Evt.pos rfl ?_)
  refine Evt.bind (P:=fun r => r = [9,9,9]) (Evt.now _ rfl) fun b hb => ?_
  subst hb
  refine Evt.bind (eqIntS_ends [9,9,9] [9,9,9] (by decide)) fun t ht => ?_
  refine Evt.pos (by rw [ht];decide) ?_
  refine Evt.bind (heldIntS_ends 3 1 (by decide) (by decide) (by decide)) fun q hq => ?_
  subst hq
  exact Evt.neg (by decide) (Evt.pos rfl (Evt.now _ rfl))

end Go.Proofs.Ytkkfokcbbhnjeaa.Pure
