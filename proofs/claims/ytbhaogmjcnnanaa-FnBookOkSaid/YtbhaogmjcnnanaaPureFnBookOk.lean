/- Of every drawn book BookOk answers as the reference does; a valid one has all that there is, and with one more, or without its first account, it is none. The plain part: what the printed functions compute answers true. Conditions: the argument fits the machine, as the row says. -/
import Derived.Test.YtbhaogmjcnnanaaPx19
import Derived.Test.YtbhaogmjcnnanaaPx20
import Derived.Test.YtbhaogmjcnnanaaFbookpay
import Derived.Test.YtbhaogmjcnnanaaFdrawbookok
import Derived.Test.YtbhaogmjcnnanaaPlain
namespace Go.Proofs.Ytbhaogmjcnnanaa.Pure
open Go.RowKit Go.Proofs.Ytbhaogmjcnnanaa.P Go.Proofs.YtbhaogmjcnnanaaW.PrintWords Go.Proofs.YtbhaogmjcnnanaaW.PrintLast Go.Proofs.YtbhaogmjcnnanaaW.PrintMore Go.Proofs.YtbhaogmjcnnanaaE
set_option linter.unusedVariables false
set_option linter.unusedSimpArgs false

theorem bookOk_no {l : List Int} (h : ∀ x y z, l = [x, y, z] → x + y + z ≠ 27) : bookOk l = false := by
  cases hb : bookOk l with
  | false => rfl
  | true =>
    obtain ⟨x, y, z, e, _, _, _, hs⟩ := bookOk_three hb
    exact absurd hs (h x y z e)
theorem FnBookOk : laws_FnBookOk.Pure := by
  intro l m _ hw _ _
  have hl := bytes_of hw
  refine Evt.get ?_
  have hend : Evt (fun k => laws_FnBookOk.j0 k l m true) (fun r => r = true) := Evt.step (f := fun _ => some true) (fun k => by simp only [laws_FnBookOk.j0, if_true]) (Evt.now _ rfl)
  simp only [laws_FnBookOk.f]
  refine Evt.ite (fun _ => hend) (fun h => ?_)
  by_cases h2 : (m.length : Int) > 1048576
  · rw [decide_eq_true h2]
    exact hend
  · rw [decide_eq_false h2]
    refine Evt.step (fun k => by simp only [laws_FnBookOk.j0]; rw [if_neg (by decide)]) ?_
    refine Evt.bind (drawBookOk_ends hl) fun b hb => ?_
    refine Evt.bind (bookOk_impl b (by omega)) fun s hs => ?_
    refine Evt.bind (bookOk_spec b (by omega)) fun t ht => ?_
    subst hs ht
    refine Evt.neg (by simp) ?_
    cases hv : bookOk b with
    | false =>
      refine Evt.step (fun k => by simp only [laws_FnBookOk.j1]; rw [if_pos (by decide)]) ?_
      exact Evt.bind (bookOk_spec b (by omega)) fun u hu => Evt.now _ (by rw [hu, hv]; rfl)
    | true =>
      obtain ⟨x, y, z, e, hx, hy, hz, hsum⟩ := bookOk_three hv
      subst e
      have w1 : wrap64 (x + y) = x + y := wrap64_small (by omega) (by omega)
      have w2 : wrap64 (x + y + z) = x + y + z := wrap64_small (by omega) (by omega)
      refine Evt.step (fun k => by
        simp only [laws_FnBookOk.j1]
        rw [if_neg (by decide)]) ?_
      simp only [Option.bind_some]
      refine Evt.pos (by simp) ?_
      simp only [List.nil_append]
      have hi : 0 ≤ (m.length : Int) % 3 ∧ (m.length : Int) % 3 < 3 := by omega
      generalize (m.length : Int) % 3 = i at hi ⊢
      have hset : bookOk ([x, y, z].set i.toNat (wrap64 (rd [x, y, z] i + 1))) = false := by
        apply bookOk_no
        intro x' y' z' e
        have h3 : i = 0 ∨ i = 1 ∨ i = 2 := by omega
        rcases h3 with rfl | rfl | rfl
        · change [wrap64 (x + 1), y, z] = _ at e
          rw [wrap64_small (n := x + 1) (by omega) (by omega)] at e
          simp at e
          omega
        · change [x, wrap64 (y + 1), z] = _ at e
          rw [wrap64_small (n := y + 1) (by omega) (by omega)] at e
          simp at e
          omega
        · change [x, y, wrap64 (z + 1)] = _ at e
          rw [wrap64_small (n := z + 1) (by omega) (by omega)] at e
          simp at e
          omega
      refine Evt.pos hi.1 (Evt.pos (by simp; omega) (Evt.pos (by simp) (Evt.pos (by simp) (Evt.pos (by simp) (Evt.pos ?_ ?_)))))
      · change wrap64 (wrap64 (x + y) + z) = 27
        rw [w1, w2]
        exact hsum
      · refine Evt.bind (bookOk_impl _ (by simp)) fun u hu => ?_
        rw [hset] at hu
        refine Evt.neg (by rw [hu]; decide) (Evt.pos (by simp) ?_)
        refine Evt.bind (bookOk_impl _ (by simp)) fun v hv' => ?_
        rw [bookOk_no (l := [x, y, z].drop 1) (by intro x' y' z' e; simp at e)] at hv'
        refine Evt.neg (by rw [hv']; decide) ?_
        simp only [impl_BookNew.f, Option.bind_some]
        exact Evt.bind (bookOk_impl [9, 9, 9] (by simp)) fun w hw' => Evt.now _ (by rw [hw']; exact bookOk_of (by omega) (by omega) (by omega) (by omega))

end Go.Proofs.Ytbhaogmjcnnanaa.Pure
