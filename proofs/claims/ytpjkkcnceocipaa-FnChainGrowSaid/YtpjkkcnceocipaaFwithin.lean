/- Plain facts on what the printed functions compute (within). Conditions: each theorem's own. -/
import Derived.Test.YtpjkkcnceocipaaPx2
import Derived.Test.YtpjkkcnceocipaaPx5
import Derived.Test.YtpjkkcnceocipaaPlain
namespace Go.Proofs.Ytpjkkcnceocipaa.Pure
open Go.RowKit Go.Proofs.Ytpjkkcnceocipaa.P Go.Proofs.YtpjkkcnceocipaaW.PrintWords Go.Proofs.YtpjkkcnceocipaaW.PrintLast Go.Proofs.YtpjkkcnceocipaaW.PrintMore Go.Proofs.YtpjkkcnceocipaaE
set_option linter.unusedVariables false
set_option linter.unusedSimpArgs false

theorem within_eq (n lo hi : Int) : impl_within.f n lo hi = some (decide (lo ≤ n ∧ n ≤ hi)) := by
  unfold impl_within.f
  by_cases h : n ≥ lo
  · rw [if_pos h]
    by_cases h2 : n ≤ hi
    · simp [h2, show lo ≤ n from h]
    · simp [h2]
  · rw [if_neg h]
    simp [show ¬ lo ≤ n from h]
theorem l6In_eq (n lo hi : Int) : spec_l6In.f n lo hi = some (decide (lo ≤ n ∧ n ≤ hi)) := by
  unfold spec_l6In.f
  by_cases h : n ≥ lo
  · rw [if_pos h]
    by_cases h2 : n ≤ hi
    · simp [h2, show lo ≤ n from h]
    · simp [h2]
  · rw [if_neg h]
    simp [show ¬ lo ≤ n from h]

end Go.Proofs.Ytpjkkcnceocipaa.Pure
