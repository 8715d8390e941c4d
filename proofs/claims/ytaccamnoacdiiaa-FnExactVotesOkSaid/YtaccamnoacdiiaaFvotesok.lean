/- Plain facts on what the printed functions compute (votesok). Conditions: each theorem's own. -/
import Derived.Test.YtaccamnoacdiiaaPx35
import Derived.Test.YtaccamnoacdiiaaFhas
import Derived.Test.YtaccamnoacdiiaaPlain
namespace Go.Proofs.Ytaccamnoacdiiaa.Pure
open Go.RowKit Go.Proofs.Ytaccamnoacdiiaa.P Go.Proofs.YtaccamnoacdiiaaW.PrintWords Go.Proofs.YtaccamnoacdiiaaW.PrintLast Go.Proofs.YtaccamnoacdiiaaW.PrintMore Go.Proofs.YtaccamnoacdiiaaE
set_option linter.unusedVariables false
set_option linter.unusedSimpArgs false

theorem votesOk_impl (l : List Vt) (hl : l.length ≤ 4611686018427387900) (hb : ∀ v, v ∈ l → v.f1.length ≤ 4611686018427387900) : Evt (fun k => impl_VotesOk.f k l) (fun r => r = votesOk l) := by
  have key : ∀ (d i : Nat), i + d = l.length → Evt (fun k => impl_VotesOk.l0 k l l (l.length : Int) (i : Int)) (fun r => r = votesFrom (l.take i) (l.drop i)) := by
    intro d
    induction d with
    | zero =>
      intro i hd
      rw [List.drop_eq_nil_of_le (by omega)]
      exact Evt.step (f := fun _ => some true) (fun k => by simp only [impl_VotesOk.l0]; rw [if_neg (by omega)]) (Evt.now _ rfl)
    | succ d ih =>
      intro i hd
      have hi : i < l.length := by omega
      have ihs := ih (i + 1) (by omega)
      rw [take_vt hi] at ihs
      rw [drop_vt hi, votesFrom]
      refine Evt.step (fun k => by simp only [impl_VotesOk.l0]; rw [if_pos (by omega), if_pos (by omega), if_pos (by omega), wrap_succ (by omega), Int.toNat_natCast]) ?_
      refine Evt.bind (voteOk_impl _ _ (hb _ (rdVt_mem hi))) fun t ht => ?_
      rw [← ht]
      refine Evt.ite (fun h => ?_) fun h => Evt.now _ (by rw [Bool.eq_false_iff.2 h]; rfl)
      rw [h]
      refine Evt.pos (by omega) ?_
      refine Evt.bind (has_impl (l.take i) _ _ (by rw [List.length_take]; omega) (hb _ (rdVt_mem hi))) fun u hu => ?_
      rw [← hu]
      refine Evt.ite (fun h => Evt.now _ (by rw [h]; rfl)) fun h => ihs.mono fun r hr => ?_
      rw [hr, Bool.eq_false_iff.2 h]
      rfl
  exact key l.length 0 (by omega)

end Go.Proofs.Ytaccamnoacdiiaa.Pure
