/- The program's BookOf and the reference's answer the same for every chain, which is left as it was; the answer shares no memory with the chain nor with another answer. The plain part: what the printed functions compute answers true. Conditions: the argument fits the machine, as the row says. -/
import Derived.Test.YtkkfokcbbhnjeaaPx9
import Derived.Test.YtkkfokcbbhnjeaaFAll
import Derived.Test.YtkkfokcbbhnjeaaPlain
namespace Go.Proofs.Ytkkfokcbbhnjeaa.Pure
open Go.RowKit Go.Proofs.Ytkkfokcbbhnjeaa.P Go.Proofs.YtkkfokcbbhnjeaaW.PrintWords Go.Proofs.YtkkfokcbbhnjeaaW.PrintLast Go.Proofs.YtkkfokcbbhnjeaaW.PrintMore Go.Proofs.YtkkfokcbbhnjeaaE
set_option linter.unusedVariables false
set_option linter.unusedSimpArgs false

theorem bookOf_len3 (c : List It) : (bookOf c).length ≤ 3:=by
  unfold bookOf
  split
  · rw [payAll_length];simp
  · simp
theorem FnExactBookOf : laws_FnExactBookOf.Pure:=by
  intro l hl
  refine Evt.get ?_
  simp only [laws_FnExactBookOf.f]
  rw [szItemS_eq l 1048576 (by omega) (by omega) hl]
  refine Evt.bind (P:=fun r => r = (if 1048576 - (l.length : Int) < 0 then -1 else 1048576 - (l.length : Int))) (Evt.now _ rfl) fun u hu => ?_
  refine Evt.ite (fun _ => Evt.now _ rfl) fun h2 => ?_
  have hll : l.length ≤ 1048576:=by
    by_cases h3 : 1048576 - (l.length : Int) < 0
    · rw [if_pos h3] at hu;omega
    · omega
  have hy : (l.map toIt).length ≤ 1048576:=by rw [List.length_map];exact hll
  have h3:=bookOf_len3 (l.map toIt)
  refine Evt.bind (toItemS_ends l hll) fun a ha => ?_
  subst ha
  refine Evt.bind (bookOf_spec _ (by omega)) fun b hb => ?_
  refine Evt.bind (toItemS_ends l hll) fun a ha => ?_
  subst ha
  refine Evt.bind (bookOf_impl _ (by omega)) fun c hc => ?_
  subst hb hc
  refine Evt.bind (eqIntS_ends _ _ (by omega)) fun e he => ?_
  refine Evt.pos (by rw [he];simp) ?_
  refine Evt.bind (toItemS_ends l hll) fun a ha => ?_
  subst ha
  refine Evt.bind (eqItemS_ends _ _ (by omega)) fun e he => ?_
  refine Evt.pos (by rw [he];simp) ?_
  refine Evt.bind (markItemS_ends _ 1 (by omega) (by omega) hy) fun m hm => ?_
  subst hm
  refine Evt.neg (by show ¬ 1 + 4 * ((l.map toIt).length : Int) < 0;omega) ?_
  refine Evt.bind (eqIntS_ends _ _ (by omega)) fun e he => ?_
  rw [he,decide_eq_true rfl]
  refine Evt.step (fun k => by simp only [laws_FnExactBookOf.j0];rw [if_neg (by decide)]) ?_
  refine Evt.bind (markIntS_ends _ 1 (by omega) (by omega) (by omega)) fun m hm => ?_
  subst hm
  refine Evt.bind (heldIntS_ends _ 1 (by omega) (by omega) (by omega)) fun q hq => ?_
  subst hq
  refine Evt.neg (by omega) (Evt.pos rfl ?_)
  refine Evt.bind (toItemS_ends l hll) fun a ha => ?_
  subst ha
  refine Evt.bind (bookOf_impl _ (by omega)) fun c hc => ?_
  subst hc
  refine Evt.bind (eqIntS_ends _ _ (by omega)) fun e he => ?_
  refine Evt.pos (by rw [he];simp) ?_
  refine Evt.bind (heldIntS_ends _ 1 (by omega) (by omega) (by omega)) fun q hq => ?_
  subst hq
  exact Evt.neg (by omega) (Evt.pos rfl (Evt.now _ rfl))

end Go.Proofs.Ytkkfokcbbhnjeaa.Pure
