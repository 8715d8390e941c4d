/- Plain facts on what the printed functions compute (lwints). Conditions: each theorem's own. -/
import Derived.Test.YtbhaogmjcnnanaaPx22
import Derived.Test.YtbhaogmjcnnanaaPlain
namespace Go.Proofs.Ytbhaogmjcnnanaa.Pure
open Go.RowKit Go.Proofs.Ytbhaogmjcnnanaa.P Go.Proofs.YtbhaogmjcnnanaaW.PrintWords Go.Proofs.YtbhaogmjcnnanaaW.PrintLast Go.Proofs.YtbhaogmjcnnanaaW.PrintMore Go.Proofs.YtbhaogmjcnnanaaE
set_option linter.unusedVariables false
set_option linter.unusedSimpArgs false

theorem lwInts_ends (a b : List Int) (hl : a.length ≤ 4611686018427387900) : Evt (fun k => laws_lwInts.f k a b) (fun r => r = decide (a = b)) := by
  by_cases h : (a.length : Int) = (b.length : Int)
  · have hn : a.length = b.length := by omega
    have hc := cmp_loop a b a.length (fun k i => laws_lwInts.l0 k a b (i : Int)) (fun k => by simp only [laws_lwInts.l0]; rw [if_neg (by omega)])
      (fun i hi he k => by
        rw [rd_get (l := a) hi, rd_get (l := b) (by omega)] at he
        have he' := Option.some.inj he
        simp only [laws_lwInts.l0]
        rw [if_pos (by omega), if_pos (by omega), if_pos (by omega), if_pos he', wrap_succ (by omega)])
      (fun i hi he k => by
        rw [rd_get (l := a) hi, rd_get (l := b) (by omega)] at he
        have he' : ¬ rd a (i : Int) = rd b (i : Int) := fun e => he (by rw [e])
        simp only [laws_lwInts.l0]
        rw [if_pos (by omega), if_pos (by omega), if_pos (by omega), if_neg he'])
    refine (Evt.congr (fun k => by unfold laws_lwInts.f; rw [if_pos h]; rfl) hc).mono fun r hr => decide_of ?_
    rw [hr, List.take_of_length_le (Nat.le_refl _), List.take_of_length_le (by omega)]
  · refine Evt.congr (fun k => by unfold laws_lwInts.f; rw [if_neg h]) (Evt.now _ ?_)
    have : a ≠ b := by
      rintro rfl
      exact h rfl
    simp [this]

end Go.Proofs.Ytbhaogmjcnnanaa.Pure
