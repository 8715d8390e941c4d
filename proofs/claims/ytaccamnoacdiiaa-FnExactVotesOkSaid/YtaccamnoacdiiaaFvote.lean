/- Plain facts on what the printed functions compute (vote). Conditions: each theorem's own. -/
import Derived.Test.YtaccamnoacdiiaaPx12
import Derived.Test.YtaccamnoacdiiaaPx14
import Derived.Test.YtaccamnoacdiiaaFchain
import Derived.Test.YtaccamnoacdiiaaPlain
namespace Go.Proofs.Ytaccamnoacdiiaa.Pure
open Go.RowKit Go.Proofs.Ytaccamnoacdiiaa.P Go.Proofs.YtaccamnoacdiiaaW.PrintWords Go.Proofs.YtaccamnoacdiiaaW.PrintLast Go.Proofs.YtaccamnoacdiiaaW.PrintMore Go.Proofs.YtaccamnoacdiiaaE
set_option linter.unusedVariables false
set_option linter.unusedSimpArgs false

def voteOk (n : Int) (c : List It) : Bool := decide (1 ≤ n ∧ n ≤ 4) && (decide (0 < c.length) && chainOk c)
theorem nodeOk_eq (n : Int) : impl_nodeOk.f n = some (decide (1 ≤ n ∧ n ≤ 4)) := by
  unfold impl_nodeOk.f
  rw [within_eq]
  rfl
theorem voteOk_impl (n : Int) (c : List It) (hl : c.length ≤ 4611686018427387900) : Evt (fun k => impl_VoteOk.f k n c) (fun r => r = voteOk n c) := by
  simp only [impl_VoteOk.f, nodeOk_eq, Option.bind_some]
  unfold voteOk
  refine Evt.ite (fun h => ?_) fun h => Evt.now _ (by rw [Bool.eq_false_iff.2 h]; rfl)
  rw [h]
  refine Evt.ite (fun h2 => ?_) fun h2 => Evt.now _ (by rw [decide_eq_false (show ¬ 0 < c.length by omega)]; rfl)
  rw [decide_eq_true (show 0 < c.length by omega)]
  exact Evt.bind (chainOk_impl c hl) fun t ht => Evt.now _ (by rw [ht]; rfl)
theorem l3Vote_ends (n : Int) (c : List It) (hl : c.length ≤ 4611686018427387900) : Evt (fun k => spec_l3Vote.f k n c) (fun r => r = voteOk n c) := by
  simp only [spec_l3Vote.f, l6In_eq, Option.bind_some]
  unfold voteOk
  refine Evt.ite (fun h => ?_) fun h => Evt.now _ (by rw [Bool.eq_false_iff.2 h]; rfl)
  rw [h]
  refine Evt.bind (chainOk_spec c hl) fun t ht => ?_
  rw [ht]
  refine Evt.ite (fun h2 => Evt.now _ ?_) fun h2 => Evt.now _ (by rw [Bool.eq_false_iff.2 h2]; simp)
  rw [h2]
  simp only [Bool.true_and, Bool.and_true]
  exact decide_of (by rw [decide_eq_true_iff]; omega)
theorem voteOk_spec (n : Int) (c : List It) (hl : c.length ≤ 4611686018427387900) : Evt (fun k => spec_VoteOk.f k n c) (fun r => r = voteOk n c) := by
  simp only [spec_VoteOk.f]
  exact Evt.bind (l3Vote_ends n c hl) fun t ht => Evt.now _ ht

end Go.Proofs.Ytaccamnoacdiiaa.Pure
