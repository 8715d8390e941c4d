/- Plain facts on what the printed functions compute (votes1). Conditions: each theorem's own. -/
import Derived.Test.YtaccamnoacdiiaaPx17
import Derived.Test.YtaccamnoacdiiaaPx20
import Derived.Test.YtaccamnoacdiiaaFitems
import Derived.Test.YtaccamnoacdiiaaPlain
namespace Go.Proofs.Ytaccamnoacdiiaa.Pure
open Go.RowKit Go.Proofs.Ytaccamnoacdiiaa.P Go.Proofs.YtaccamnoacdiiaaW.PrintWords Go.Proofs.YtaccamnoacdiiaaW.PrintLast Go.Proofs.YtaccamnoacdiiaaW.PrintMore Go.Proofs.YtaccamnoacdiiaaE
set_option linter.unusedVariables false
set_option linter.unusedSimpArgs false

theorem toVote_ends (n : Int) (l : List LIt) (hl : l.length ≤ 1048576) : Evt (fun k => laws_toVote.f k n l) (fun r => r = (n, l.map toIt)) := by
  simp only [laws_toVote.f]
  exact Evt.bind (toItemS_ends l hl) fun a ha => Evt.now _ (by rw [ha])
theorem eqVote_ends (n : Int) (a : List It) (n' : Int) (b : List It) (hl : a.length ≤ 4611686018427387900) : Evt (fun k => laws_eqVote.f k n a n' b) (fun r => r = (decide (n = n') && decide (a = b))) := by
  simp only [laws_eqVote.f]
  refine Evt.ite (fun h => ?_) fun h => Evt.now _ (by rw [decide_eq_false h]; rfl)
  rw [decide_eq_true h]
  refine Evt.bind (eqItemS_ends a b hl) fun t ht => ?_
  rw [ht]
  exact Evt.ite (fun h => Evt.now _ (by rw [h]; rfl)) fun h => Evt.now _ (by rw [Bool.eq_false_iff.2 h]; rfl)

end Go.Proofs.Ytaccamnoacdiiaa.Pure
