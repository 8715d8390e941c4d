/- Plain facts on what the printed functions compute (l1in). Conditions: each theorem's own. -/
import Derived.Test.YtaccamnoacdiiaaPx0
import Derived.Test.YtaccamnoacdiiaaPx29
import Derived.Test.YtaccamnoacdiiaaFchain
import Derived.Test.YtaccamnoacdiiaaPlain
namespace Go.Proofs.Ytaccamnoacdiiaa.Pure
open Go.RowKit Go.Proofs.Ytaccamnoacdiiaa.P Go.Proofs.YtaccamnoacdiiaaW.PrintWords Go.Proofs.YtaccamnoacdiiaaW.PrintLast Go.Proofs.YtaccamnoacdiiaaW.PrintMore Go.Proofs.YtaccamnoacdiiaaE
set_option linter.unusedVariables false
set_option linter.unusedSimpArgs false

theorem pre_iff (a b : List It) : a <+: b ↔ a.length ≤ b.length ∧ a.take a.length = b.take a.length := by
  rw [List.take_of_length_le (Nat.le_refl _)]
  constructor
  · intro h
    exact ⟨h.length_le, List.prefix_iff_eq_take.1 h⟩
  · rintro ⟨_, h⟩
    exact List.prefix_iff_eq_take.2 h
theorem l1In_ends (a b : List It) (hl : a.length ≤ 4611686018427387900) : Evt (fun k => spec_l1In.f k a b) (fun r => r = decide (a <+: b)) := by
  by_cases h : (a.length : Int) > (b.length : Int)
  · refine Evt.congr (fun k => by unfold spec_l1In.f; rw [if_pos h]) (Evt.now _ ?_)
    apply decide_of
    rw [pre_iff]
    exact ⟨fun h2 => (by cases h2), fun h2 => absurd h2.1 (by omega)⟩
  · have hc := cmp_loop a b a.length (fun k i => spec_l1In.l0 k a b (i : Int)) (fun k => by simp only [spec_l1In.l0]; rw [if_neg (by omega)])
      (fun i hi he k => by
        rw [rdIt_get (l := a) hi, rdIt_get (l := b) (by omega)] at he
        have he' := Option.some.inj he
        simp only [spec_l1In.l0]
        rw [if_pos (by omega), if_pos (by omega), if_pos (by omega), if_neg (by rw [neq_it]; exact fun h2 => h2 he'), wrap_succ (by omega)])
      (fun i hi he k => by
        rw [rdIt_get (l := a) hi, rdIt_get (l := b) (by omega)] at he
        have he' : ¬ rd_T65 a (i : Int) = rd_T65 b (i : Int) := fun e => he (by rw [e])
        simp only [spec_l1In.l0]
        rw [if_pos (by omega), if_pos (by omega), if_pos (by omega), if_pos (by rw [neq_it]; exact he')])
    refine (Evt.congr (fun k => by unfold spec_l1In.f; rw [if_neg h]; rfl) hc).mono fun r hr => decide_of ?_
    rw [hr, pre_iff]
    exact ⟨fun h2 => ⟨by omega, h2⟩, fun h2 => h2.2⟩

end Go.Proofs.Ytaccamnoacdiiaa.Pure
