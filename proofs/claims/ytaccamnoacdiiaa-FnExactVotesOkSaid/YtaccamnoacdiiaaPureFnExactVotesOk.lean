/- The program's VotesOk and the reference's answer the same for every list of votes, and the votes are left as they were. The plain part: what the printed functions compute answers true. Conditions: the argument fits the machine, as the row says. -/
import Derived.Test.YtaccamnoacdiiaaPx36
import Derived.Test.YtaccamnoacdiiaaFvotesok
import Derived.Test.YtaccamnoacdiiaaFl3has
import Derived.Test.YtaccamnoacdiiaaFvotes2
import Derived.Test.YtaccamnoacdiiaaPlain
namespace Go.Proofs.Ytaccamnoacdiiaa.Pure
open Go.RowKit Go.Proofs.Ytaccamnoacdiiaa.P Go.Proofs.YtaccamnoacdiiaaW.PrintWords Go.Proofs.YtaccamnoacdiiaaW.PrintLast Go.Proofs.YtaccamnoacdiiaaW.PrintMore Go.Proofs.YtaccamnoacdiiaaE
set_option linter.unusedVariables false
set_option linter.unusedSimpArgs false

theorem FnExactVotesOk : laws_FnExactVotesOk.Pure := by
  intro l hl hb
  refine Evt.get ?_
  simp only [laws_FnExactVotesOk.f]
  refine Evt.bind (szVoteS_ends l 1048576 (by omega) (by omega) hl hb) fun s hs => ?_
  refine Evt.ite (fun _ => Evt.now _ rfl) fun h => ?_
  obtain ⟨hn, hc⟩ := hs.2 (by omega)
  have hm : (l.map toVt).length ≤ 4611686018427387900 := by rw [List.length_map]; omega
  have hmb : ∀ v, v ∈ l.map toVt → v.f1.length ≤ 4611686018427387900 := by
    intro v hv
    obtain ⟨u, hu, rfl⟩ := List.mem_map.1 hv
    have := hc u hu
    simp only [toVt, List.length_map]
    omega
  refine Evt.bind (toVoteS_ends l hn hc) fun a ha => ?_
  subst ha
  refine Evt.bind (votesOk_spec _ hm hmb) fun b hb' => ?_
  refine Evt.bind (toVoteS_ends l hn hc) fun a ha => ?_
  subst ha
  refine Evt.bind (votesOk_impl _ hm hmb) fun c hc' => ?_
  refine Evt.neg (by rw [hb', hc']; simp) ?_
  refine Evt.bind (toVoteS_ends l hn hc) fun a ha => ?_
  subst ha
  refine Evt.bind (eqVoteS_ends _ _ hm hmb) fun d hd => ?_
  exact Evt.pos (by rw [hd]; simp) (Evt.now _ rfl)

end Go.Proofs.Ytaccamnoacdiiaa.Pure
