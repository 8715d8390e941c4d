/- Plain facts on what the printed functions compute (lwsame). Conditions: each theorem's own. -/
import Derived.Test.YthjpkfcejdddkaaDoorPx0
import Derived.Test.YthjpkfcejdddkaaDoorPx5
import Derived.Test.YthjpkfcejdddkaaDoorFchain
import Derived.Test.YthjpkfcejdddkaaDoorPlain
namespace Go.Proofs.YthjpkfcejdddkaaDoor.Pure
open Go.RowKit Go.Proofs.YthjpkfcejdddkaaDoor.P Go.Proofs.YthjpkfcejdddkaaDoorW.PrintWords Go.Proofs.YthjpkfcejdddkaaDoorW.PrintLast Go.Proofs.YthjpkfcejdddkaaDoorW.PrintMore Go.Proofs.YthjpkfcejdddkaaDoorE
set_option linter.unusedVariables false
set_option linter.unusedSimpArgs false

theorem lwSame_ends (a b : List It) (hl : a.length ≤ 4611686018427387900) : Evt (fun k => laws_lwSame.f k a b) (fun r => r = decide (a = b)) := by
  by_cases h : (a.length : Int) = (b.length : Int)
  · have hn : a.length = b.length := by omega
    have hc := cmp_loop a b a.length (fun k i => laws_lwSame.l0 k a b (i : Int)) (fun k => by simp only [laws_lwSame.l0]; rw [if_neg (by omega)])
      (fun i hi he k => by
        rw [rdIt_get (l := a) hi, rdIt_get (l := b) (by omega)] at he
        have he' := Option.some.inj he
        simp only [laws_lwSame.l0]
        rw [if_pos (by omega), if_pos (by omega), if_pos (by omega), if_neg (by rw [neq_it]; exact fun h2 => h2 he'), wrap_succ (by omega)])
      (fun i hi he k => by
        rw [rdIt_get (l := a) hi, rdIt_get (l := b) (by omega)] at he
        have he' : ¬ rd_T48 a (i : Int) = rd_T48 b (i : Int) := fun e => he (by rw [e])
        simp only [laws_lwSame.l0]
        rw [if_pos (by omega), if_pos (by omega), if_pos (by omega), if_pos (by rw [neq_it]; exact he')])
    refine (Evt.congr (fun k => by unfold laws_lwSame.f; rw [if_pos h]; rfl) hc).mono fun r hr => decide_of ?_
    rw [hr, List.take_of_length_le (Nat.le_refl _), List.take_of_length_le (by omega)]
  · refine Evt.congr (fun k => by unfold laws_lwSame.f; rw [if_neg h]) (Evt.now _ ?_)
    have : a ≠ b := by
      rintro rfl
      exact h rfl
    simp [this]

end Go.Proofs.YthjpkfcejdddkaaDoor.Pure
