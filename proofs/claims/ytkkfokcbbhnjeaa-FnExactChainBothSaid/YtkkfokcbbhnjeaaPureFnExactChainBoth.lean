/- The program's ChainBoth and the reference's answer the same for every two chains, which are left as they were; the answer shares no memory with them nor with another answer. The plain part: what the printed functions compute answers true. Conditions: the argument fits the machine, as the row says. -/
import Derived.Test.YtkkfokcbbhnjeaaXBoth
import Derived.Test.YtkkfokcbbhnjeaaFAll
import Derived.Test.YtkkfokcbbhnjeaaPlain
namespace Go.Proofs.Ytkkfokcbbhnjeaa.Pure
open Go.RowKit Go.Proofs.Ytkkfokcbbhnjeaa.P Go.Proofs.YtkkfokcbbhnjeaaW.PrintWords Go.Proofs.YtkkfokcbbhnjeaaW.PrintLast Go.Proofs.YtkkfokcbbhnjeaaW.PrintMore Go.Proofs.YtkkfokcbbhnjeaaE
set_option linter.unusedVariables false
set_option linter.unusedSimpArgs false

theorem FnExactChainBoth : laws_FnExactChainBoth.Pure:=by
  intro l m hl hm
  refine Evt.get ?_
  simp only [laws_FnExactChainBoth.f]
  rw [szItemS_eq l 1048576 (by omega) (by omega) hl]
  refine Evt.bind (P:=fun r => r = (if 1048576 - (l.length : Int) < 0 then -1 else 1048576 - (l.length : Int))) (Evt.now _ rfl) fun u hu => ?_
  refine Evt.ite (fun _ => Evt.now _ rfl) fun h2 => ?_
  have hu2 : u = 1048576 - (l.length : Int):=by
    by_cases h3 : 1048576 - (l.length : Int) < 0
    · rw [if_pos h3] at hu;omega
    · rw [if_neg h3] at hu;exact hu
  have hll : l.length ≤ 1048576:=by omega
  rw [szItemS_eq m u (by omega) (by omega) hm]
  refine Evt.bind (P:=fun r => r = (if u - (m.length : Int) < 0 then -1 else u - (m.length : Int))) (Evt.now _ rfl) fun u3 hu3 => ?_
  refine Evt.ite (fun _ => Evt.now _ rfl) fun h4 => ?_
  have hml : m.length ≤ 1048576:=by
    by_cases h3 : u - (m.length : Int) < 0
    · rw [if_pos h3] at hu3;omega
    · omega
  have hx : (l.map toIt).length ≤ 1048576:=by rw [List.length_map];exact hll
  have hy : (m.map toIt).length ≤ 1048576:=by rw [List.length_map];exact hml
  have hb:=both_len (l.map toIt) (m.map toIt)
  refine Evt.bind (toItemS_ends l hll) fun a ha => ?_
  refine Evt.bind (toItemS_ends m hml) fun b hb' => ?_
  subst ha hb'
  refine Evt.bind (both_spec _ _ (by omega) (by omega)) fun s hs => ?_
  refine Evt.bind (toItemS_ends l hll) fun a ha => ?_
  refine Evt.bind (toItemS_ends m hml) fun b hb' => ?_
  subst ha hb'
  refine Evt.bind (both_impl _ _ (by omega) (by omega)) fun t ht => ?_
  subst hs ht
  refine Evt.bind (eqItemS_ends _ _ (by omega)) fun e he => ?_
  refine Evt.pos (by rw [he];simp) ?_
  refine Evt.bind (toItemS_ends l hll) fun a ha => ?_
  subst ha
  refine Evt.bind (eqItemS_ends _ _ (by omega)) fun e he => ?_
  refine Evt.pos (by rw [he];simp) ?_
  refine Evt.bind (toItemS_ends m hml) fun a ha => ?_
  subst ha
  refine Evt.bind (eqItemS_ends _ _ (by omega)) fun e he => ?_
  refine Evt.pos (by rw [he];simp) ?_
  refine Evt.bind (markItemS_ends _ 1 (by omega) (by omega) hx) fun p hp => ?_
  subst hp
  refine Evt.bind (markItemS_ends _ (1 + 4 * ((l.map toIt).length : Int)) (by omega) (by omega) hy) fun p hp => ?_
  subst hp
  refine Evt.neg (by simp only;omega) ?_
  refine Evt.bind (eqItemS_ends _ _ (by omega)) fun e he => ?_
  rw [he,decide_eq_true rfl]
  refine Evt.step (fun k => by simp only [laws_FnExactChainBoth.j0];rw [if_neg (by decide)]) ?_
  refine Evt.bind (markItemS_ends _ 1 (by omega) (by omega) (by omega)) fun p hp => ?_
  subst hp
  refine Evt.bind (heldItemS_ends _ 1 (by omega) (by omega) (by omega)) fun q hq => ?_
  subst hq
  refine Evt.neg (by omega) (Evt.pos rfl ?_)
  refine Evt.bind (toItemS_ends l hll) fun a ha => ?_
  refine Evt.bind (toItemS_ends m hml) fun b hb' => ?_
  subst ha hb'
  refine Evt.bind (both_impl _ _ (by omega) (by omega)) fun t ht => ?_
  subst ht
  refine Evt.bind (eqItemS_ends _ _ (by omega)) fun e he => ?_
  refine Evt.pos (by rw [he];simp) ?_
  refine Evt.bind (heldItemS_ends _ 1 (by omega) (by omega) (by omega)) fun q hq => ?_
  subst hq
  exact Evt.neg (by omega) (Evt.pos rfl (Evt.now _ rfl))

end Go.Proofs.Ytkkfokcbbhnjeaa.Pure
