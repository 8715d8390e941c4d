/- Plain facts on what the printed functions compute (within). Conditions: each theorem's own. -/
import Derived.Test.YtaccamnoacdiiaaPx2
import Derived.Test.YtaccamnoacdiiaaPlain
namespace Go.Proofs.Ytaccamnoacdiiaa.Pure
open Go.RowKit Go.Proofs.Ytaccamnoacdiiaa.P Go.Proofs.YtaccamnoacdiiaaW.PrintWords Go.Proofs.YtaccamnoacdiiaaW.PrintLast Go.Proofs.YtaccamnoacdiiaaW.PrintMore Go.Proofs.YtaccamnoacdiiaaE
set_option linter.unusedVariables false
set_option linter.unusedSimpArgs false

theorem within_eq (n lo hi : Int) : impl_within.f n lo hi = some (decide (lo ≤ n ∧ n ≤ hi)):=by
  unfold impl_within.f
  by_cases h : n ≥ lo
  · rw [if_pos h]
    by_cases h2 : n ≤ hi
    · simp [h2,show lo ≤ n from h]
    · simp [h2]
  · rw [if_neg h]
    simp [show ¬ lo ≤ n from h]
theorem l6In_eq (n lo hi : Int) : spec_l6In.f n lo hi = some (decide (lo ≤ n ∧ n ≤ hi)):=by
  unfold spec_l6In.f
  by_cases h : n ≥ lo
  · rw [if_pos h]
    by_cases h2 : n ≤ hi
    · simp [h2,show lo ≤ n from h]
    · simp [h2]
  · rw [if_neg h]
    simp [show ¬ lo ≤ n from h]

end Go.Proofs.Ytaccamnoacdiiaa.Pure
