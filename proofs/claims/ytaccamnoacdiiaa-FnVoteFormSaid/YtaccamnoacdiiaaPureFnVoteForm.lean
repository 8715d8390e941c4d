/- A valid drawn vote is for a chain with an item; it is valid from each of the four nodes, from no fifth, and for nothing it is none. The plain part: what the printed functions compute answers true. Conditions: the argument fits the machine, as the row says. -/
import Derived.Test.YtaccamnoacdiiaaPx15
import Derived.Test.YtaccamnoacdiiaaFvote
import Derived.Test.YtaccamnoacdiiaaFdrawvoteok
import Derived.Test.YtaccamnoacdiiaaPlain
namespace Go.Proofs.Ytaccamnoacdiiaa.Pure
open Go.RowKit Go.Proofs.Ytaccamnoacdiiaa.P Go.Proofs.YtaccamnoacdiiaaW.PrintWords Go.Proofs.YtaccamnoacdiiaaW.PrintLast Go.Proofs.YtaccamnoacdiiaaW.PrintMore Go.Proofs.YtaccamnoacdiiaaE
set_option linter.unusedVariables false
set_option linter.unusedSimpArgs false

theorem FnVoteForm : laws_FnVoteForm.Pure := by
  intro l m _ hw _ _
  have hl := bytes_of hw
  refine Evt.get ?_
  have hend : Evt (fun k => laws_FnVoteForm.j0 k l m true) (fun r => r = true) := Evt.step (f := fun _ => some true) (fun k => by simp only [laws_FnVoteForm.j0, if_true]) (Evt.now _ rfl)
  simp only [laws_FnVoteForm.f]
  refine Evt.ite (fun _ => hend) (fun h => ?_)
  by_cases h2 : (m.length : Int) > 1048576
  · rw [decide_eq_true h2]
    exact hend
  rw [decide_eq_false h2]
  refine Evt.step (fun k => by simp only [laws_FnVoteForm.j0]; rw [if_neg (by decide)]) ?_
  refine Evt.bind (drawVoteOk_ends hl) fun v hv => ?_
  obtain ⟨n, c⟩ := v
  simp only at hv ⊢
  refine Evt.bind (voteOk_impl n c (by omega)) fun s hs => ?_
  refine Evt.bind (voteOk_spec n c (by omega)) fun t ht => ?_
  subst hs ht
  refine Evt.neg (by simp) ?_
  cases hok : voteOk n c with
  | false =>
    refine Evt.step (fun k => by simp only [laws_FnVoteForm.j1]; rw [if_pos (by decide)]) ?_
    exact Evt.bind (voteOk_spec n c (by omega)) fun u hu => Evt.now _ (by rw [hu, hok]; rfl)
  | true =>
    simp only [voteOk, Bool.and_eq_true, decide_eq_true_iff] at hok
    obtain ⟨hn, hpos, hck⟩ := hok
    refine Evt.step (fun k => by simp only [laws_FnVoteForm.j1]; rw [if_neg (by decide)]) ?_
    refine Evt.bind (chainOk_impl c (by omega)) fun t ht => ?_
    refine Evt.pos (by rw [ht, hck]) (Evt.pos (by omega) ?_)
    have hi : 1 ≤ 1 + (m.length : Int) % 4 ∧ 1 + (m.length : Int) % 4 ≤ 4 := by omega
    generalize 1 + (m.length : Int) % 4 = i at hi
    refine Evt.bind (voteOk_impl i c (by omega)) fun t ht => ?_
    refine Evt.pos (by rw [ht]; simp [voteOk, hck, hi]; omega) ?_
    refine Evt.bind (voteOk_impl 5 c (by omega)) fun t ht => ?_
    refine Evt.neg (by rw [ht]; simp [voteOk]) ?_
    exact Evt.bind (voteOk_impl n [] (by simp)) fun t ht => Evt.now _ (by rw [ht]; simp [voteOk])

end Go.Proofs.Ytaccamnoacdiiaa.Pure
