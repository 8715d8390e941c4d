/- The program's VoteLeader and the reference's return the same number for every epoch. The plain part: what the printed functions compute answers true. Conditions: the argument fits the machine, as the row says. -/
import Derived.Test.YtnipfblhhmldpaaPFnExactVoteLeaderx0
import Derived.Test.YtnipfblhhmldpaaPFnExactVoteLeaderx1
import Derived.Test.YtnipfblhhmldpaaPlain
namespace Go.Proofs.Ytnipfblhhmldpaa.Pure
open Go.RowKit Go.Proofs.Ytnipfblhhmldpaa.PFnExactVoteLeader Go.Proofs.YtnipfblhhmldpaaW.PrintWords Go.Proofs.YtnipfblhhmldpaaW.PrintLast Go.Proofs.YtnipfblhhmldpaaW.PrintMore Go.Proofs.YtnipfblhhmldpaaE
set_option linter.unusedVariables false
set_option linter.unusedSimpArgs false

theorem within_eq (n lo hi : Int) : impl_within.f n lo hi = some (decide (lo ≤ n ∧ n ≤ hi)) := by
  unfold impl_within.f
  by_cases h : n ≥ lo
  · rw [if_pos h]
    by_cases h2 : n ≤ hi
    · simp [h2, show lo ≤ n from h]
    · simp [h2]
  · rw [if_neg h]
    simp [show ¬ lo ≤ n from h]
theorem l6In_eq (n lo hi : Int) : spec_l6In.f n lo hi = some (decide (lo ≤ n ∧ n ≤ hi)) := by
  unfold spec_l6In.f
  by_cases h : n ≥ lo
  · rw [if_pos h]
    by_cases h2 : n ≤ hi
    · simp [h2, show lo ≤ n from h]
    · simp [h2]
  · rw [if_neg h]
    simp [show ¬ lo ≤ n from h]
def leader (e : Int) : Int := if 1 ≤ e ∧ e ≤ 30 then (e - 1) % 4 + 1 else 0
theorem leader_in {e : Int} (h : 1 ≤ e ∧ e ≤ 30) : wrap64 ((Int.tmod (wrap64 (e - 1)) 4) + 1) = (e - 1) % 4 + 1 := by
  have h1 : wrap64 (e - 1) = e - 1 := by unfold wrap64; omega
  rw [h1, Int.tmod_eq_emod_of_nonneg (by omega)]
  unfold wrap64
  omega
theorem leader_impl (e : Int) : impl_VoteLeader.f e = some (leader e) := by
  unfold impl_VoteLeader.f impl_epochOk.f leader
  simp only [within_eq, Option.bind_some]
  by_cases h : 1 ≤ e ∧ e ≤ 30
  · simp only [h, and_self, decide_true, if_true, leader_in h]
  · simp [h]
theorem leader_spec (e : Int) : spec_VoteLeader.f e = some (leader e) := by
  unfold spec_VoteLeader.f spec_l3Leader.f leader
  simp only [l6In_eq, Option.bind_some]
  by_cases h : 1 ≤ e ∧ e ≤ 30
  · simp only [h, and_self, decide_true, if_true, Option.bind_some, leader_in h]
  · simp [h]
theorem FnExactVoteLeader : laws_FnExactVoteLeader.Pure := by
  intro a0 _
  unfold laws_FnExactVoteLeader.f
  rw [leader_spec, leader_impl]
  simp

end Go.Proofs.Ytnipfblhhmldpaa.Pure
