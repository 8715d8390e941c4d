/- The program's VoteOk and the reference's answer the same for every vote, and the vote is left as it was. The plain part: what the printed functions compute answers true. Conditions: the argument fits the machine, as the row says. -/
import Derived.Test.YtaccamnoacdiiaaPx16
import Derived.Test.YtaccamnoacdiiaaPx21
import Derived.Test.YtaccamnoacdiiaaFvote
import Derived.Test.YtaccamnoacdiiaaFvotes1
import Derived.Test.YtaccamnoacdiiaaPlain
namespace Go.Proofs.Ytaccamnoacdiiaa.Pure
open Go.RowKit Go.Proofs.Ytaccamnoacdiiaa.P Go.Proofs.YtaccamnoacdiiaaW.PrintWords Go.Proofs.YtaccamnoacdiiaaW.PrintLast Go.Proofs.YtaccamnoacdiiaaW.PrintMore Go.Proofs.YtaccamnoacdiiaaE
set_option linter.unusedVariables false
set_option linter.unusedSimpArgs false

theorem FnExactVoteOk : laws_FnExactVoteOk.Pure := by
  intro n l hl
  refine Evt.get ?_
  simp only [laws_FnExactVoteOk.f, laws_szVote.f]
  rw [szItemS_eq l 1048576 (by omega) (by omega) hl]
  simp only [Option.bind_some]
  by_cases hn : l.length ≤ 1048576
  · rw [if_neg (by omega), if_neg (by omega)]
    simp only [Option.bind_some]
    refine Evt.neg (by omega) ?_
    have hm : (l.map toIt).length ≤ 4611686018427387900 := by rw [List.length_map]; omega
    refine Evt.bind (toVote_ends n l hn) fun a ha => ?_
    subst ha
    refine Evt.bind (voteOk_spec n _ hm) fun b hb => ?_
    refine Evt.bind (toVote_ends n l hn) fun a ha => ?_
    subst ha
    refine Evt.bind (voteOk_impl n _ hm) fun c hc => ?_
    refine Evt.neg (by rw [hb, hc]; simp) ?_
    refine Evt.bind (toVote_ends n l hn) fun a ha => ?_
    subst ha
    refine Evt.bind (eqVote_ends n _ n _ hm) fun d hd => ?_
    exact Evt.pos (by rw [hd]; simp) (Evt.now _ rfl)
  · rw [if_pos (by omega)]
    simp only [Option.bind_some]
    exact Evt.pos (by omega) (Evt.now _ rfl)

end Go.Proofs.Ytaccamnoacdiiaa.Pure
