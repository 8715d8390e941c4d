/- Plain facts on what the printed functions compute (has). Conditions: each theorem's own. -/
import Derived.Test.YtaccamnoacdiiaaPx0
import Derived.Test.YtaccamnoacdiiaaPx3
import Derived.Test.YtaccamnoacdiiaaPx34
import Derived.Test.YtaccamnoacdiiaaFvotes
import Derived.Test.YtaccamnoacdiiaaFequal
import Derived.Test.YtaccamnoacdiiaaPlain
namespace Go.Proofs.Ytaccamnoacdiiaa.Pure
open Go.RowKit Go.Proofs.Ytaccamnoacdiiaa.P Go.Proofs.YtaccamnoacdiiaaW.PrintWords Go.Proofs.YtaccamnoacdiiaaW.PrintLast Go.Proofs.YtaccamnoacdiiaaW.PrintMore Go.Proofs.YtaccamnoacdiiaaE
set_option linter.unusedVariables false
set_option linter.unusedSimpArgs false

theorem same_ends (n : Int) (c : List It) (n' : Int) (c' : List It) (hc : c.length ≤ 4611686018427387900) : Evt (fun k => impl_Vote_same.f k n c n' c') (fun r => r = (decide (n = n') && decide (c = c'))) := by
  simp only [impl_Vote_same.f]
  refine Evt.ite (fun h => ?_) fun h => Evt.now _ (by rw [decide_eq_false h]; rfl)
  rw [decide_eq_true h]
  exact Evt.bind (equal_ends c c' hc) fun t ht => Evt.now _ (by rw [ht]; rfl)
theorem has_impl (l : List Vt) (n : Int) (c : List It) (hl : l.length ≤ 4611686018427387900) (hc : c.length ≤ 4611686018427387900) : Evt (fun k => impl_votes_has.f k l n c) (fun r => r = hasV l n c) := by
  have key : ∀ (d i : Nat), i + d = l.length → Evt (fun k => impl_votes_has.l0 k l n c (i : Int)) (fun r => r = hasV (l.drop i) n c) := by
    intro d
    induction d with
    | zero =>
      intro i hd
      rw [List.drop_eq_nil_of_le (by omega)]
      exact Evt.step (f := fun _ => some false) (fun k => by simp only [impl_votes_has.l0]; rw [if_neg (by omega)]) (Evt.now _ rfl)
    | succ d ih =>
      intro i hd
      rw [drop_vt (l := l) (i := i) (by omega)]
      refine Evt.step (fun k => by simp only [impl_votes_has.l0]; rw [if_pos (by omega), if_pos (by omega), wrap_succ (by omega)]) ?_
      refine Evt.bind (same_ends n c _ _ hc) fun t ht => ?_
      have e : (decide ((rd_T25 l (i : Int)).f0 = n) && decide ((rd_T25 l (i : Int)).f1 = c)) = t := by
        rw [ht]
        congr 1 <;> exact decide_eq_decide.2 ⟨Eq.symm, Eq.symm⟩
      refine Evt.ite (fun h => Evt.now _ ?_) fun h => (ih (i + 1) (by omega)).mono fun r hr => ?_
      · rw [hasV, List.any_cons, e, h]; rfl
      · rw [hr, hasV, hasV, List.any_cons, e, Bool.eq_false_iff.2 h]; rfl
  exact key l.length 0 (by omega)

end Go.Proofs.Ytaccamnoacdiiaa.Pure
