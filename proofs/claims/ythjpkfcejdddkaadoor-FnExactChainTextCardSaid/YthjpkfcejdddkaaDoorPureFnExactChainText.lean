/- The program's ChainText and the reference's answer the same for every list of items, and the list is left as it was. The plain part: what the printed functions compute answers true. Conditions: the argument fits the machine, as the row says. -/
import Derived.Test.YthjpkfcejdddkaaDoorPx7
import Derived.Test.YthjpkfcejdddkaaDoorFchain
import Derived.Test.YthjpkfcejdddkaaDoorFitems
import Derived.Test.YthjpkfcejdddkaaDoorFchaintext
import Derived.Test.YthjpkfcejdddkaaDoorPlain
namespace Go.Proofs.YthjpkfcejdddkaaDoor.Pure
open Go.RowKit Go.Proofs.YthjpkfcejdddkaaDoor.P Go.Proofs.YthjpkfcejdddkaaDoorW.PrintWords Go.Proofs.YthjpkfcejdddkaaDoorW.PrintLast Go.Proofs.YthjpkfcejdddkaaDoorW.PrintMore Go.Proofs.YthjpkfcejdddkaaDoorE
set_option linter.unusedVariables false
set_option linter.unusedSimpArgs false

theorem FnExactChainText : laws_FnExactChainText.Pure := by
  intro l hl
  refine Evt.get ?_
  simp only [laws_FnExactChainText.f]
  rw [szItemS_eq l 1048576 (by omega) (by omega) hl]
  simp only [Option.bind_some]
  refine Evt.ite (fun _ => Evt.now _ rfl) fun h => ?_
  have hn : l.length ≤ 1048576 := by
    split at h <;> omega
  have hm : (l.map toIt).length ≤ 4611686018427387900 := by rw [List.length_map]; omega
  refine Evt.bind (toItemS_ends l hn) fun a ha => ?_
  rw [ha]
  refine Evt.bind (chainText_spec _ hm) fun b hb => ?_
  refine Evt.bind (toItemS_ends l hn) fun c hc => ?_
  rw [hc]
  refine Evt.bind (chainText_impl _ hm) fun d hd => ?_
  rw [hb, hd]
  refine Evt.pos rfl ?_
  refine Evt.bind (toItemS_ends l hn) fun e he => ?_
  rw [he]
  refine Evt.bind (eqItemS_ends _ _ hm) fun f hf => ?_
  exact Evt.pos (by rw [hf]; simp) (Evt.now _ rfl)

end Go.Proofs.YthjpkfcejdddkaaDoor.Pure
