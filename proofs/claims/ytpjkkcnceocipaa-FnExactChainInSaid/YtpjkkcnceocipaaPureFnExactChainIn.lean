/- The program's ChainIn and the reference's answer the same for every two lists of items, and the lists are left as they were. The plain part: what the printed functions compute answers true. Conditions: the argument fits the machine, as the row says. -/
import Derived.Test.YtpjkkcnceocipaaPx21
import Derived.Test.YtpjkkcnceocipaaFchain
import Derived.Test.YtpjkkcnceocipaaFitems
import Derived.Test.YtpjkkcnceocipaaFchainin
import Derived.Test.YtpjkkcnceocipaaPlain
namespace Go.Proofs.Ytpjkkcnceocipaa.Pure
open Go.RowKit Go.Proofs.Ytpjkkcnceocipaa.P Go.Proofs.YtpjkkcnceocipaaW.PrintWords Go.Proofs.YtpjkkcnceocipaaW.PrintLast Go.Proofs.YtpjkkcnceocipaaW.PrintMore Go.Proofs.YtpjkkcnceocipaaE
set_option linter.unusedVariables false
set_option linter.unusedSimpArgs false

theorem FnExactChainIn : laws_FnExactChainIn.Pure := by
  intro l1 l2 hl1 hl2
  refine Evt.get ?_
  simp only [laws_FnExactChainIn.f]
  rw [szItemS_eq l1 1048576 (by omega) (by omega) hl1]
  simp only [Option.bind_some]
  refine Evt.ite (fun _ => Evt.now _ rfl) fun h => ?_
  have hn : l1.length ≤ 1048576 := by
    split at h <;> omega
  rw [if_neg (by omega), szItemS_eq l2 _ (by omega) (by omega) hl2]
  simp only [Option.bind_some]
  refine Evt.ite (fun _ => Evt.now _ rfl) fun h2 => ?_
  have hn2 : l2.length ≤ 1048576 := by
    split at h2 <;> omega
  have hm : (l1.map toIt).length ≤ 4611686018427387900 := by rw [List.length_map]; omega
  have hm2 : (l2.map toIt).length ≤ 4611686018427387900 := by rw [List.length_map]; omega
  refine Evt.bind (toItemS_ends l1 hn) fun a ha => ?_
  rw [ha]
  refine Evt.bind (toItemS_ends l2 hn2) fun a2 ha2 => ?_
  rw [ha2]
  refine Evt.bind (chainIn_spec _ _ hm hm2) fun b hb => ?_
  refine Evt.bind (toItemS_ends l1 hn) fun c hc => ?_
  rw [hc]
  refine Evt.bind (toItemS_ends l2 hn2) fun c2 hc2 => ?_
  rw [hc2]
  refine Evt.bind (chainIn_impl _ _ hm hm2) fun d hd => ?_
  rw [hb, hd]
  refine Evt.neg (by simp) ?_
  refine Evt.bind (toItemS_ends l1 hn) fun e he => ?_
  rw [he]
  refine Evt.bind (eqItemS_ends _ _ hm) fun f hf => ?_
  refine Evt.pos (by rw [hf]; simp) ?_
  refine Evt.bind (toItemS_ends l2 hn2) fun e2 he2 => ?_
  rw [he2]
  refine Evt.bind (eqItemS_ends _ _ hm2) fun f2 hf2 => ?_
  exact Evt.pos (by rw [hf2]; simp) (Evt.now _ rfl)

end Go.Proofs.Ytpjkkcnceocipaa.Pure
