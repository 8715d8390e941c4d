/- How three drawn chains begin does not mind which two are first, and a chain begins with itself. The plain part: what the printed functions compute answers true. Conditions: the argument fits the machine, as the row says. -/
import Derived.Test.YtpjkkcnceocipaaPx31
import Derived.Test.YtpjkkcnceocipaaFcp
import Derived.Test.YtpjkkcnceocipaaFlwsame
import Derived.Test.YtpjkkcnceocipaaFdrawboth
import Derived.Test.YtpjkkcnceocipaaPlain
namespace Go.Proofs.Ytpjkkcnceocipaa.Pure
open Go.RowKit Go.Proofs.Ytpjkkcnceocipaa.P Go.Proofs.YtpjkkcnceocipaaW.PrintWords Go.Proofs.YtpjkkcnceocipaaW.PrintLast Go.Proofs.YtpjkkcnceocipaaW.PrintMore Go.Proofs.YtpjkkcnceocipaaE
set_option linter.unusedVariables false
set_option linter.unusedSimpArgs false

theorem bothThree_end (m : List Int) (a b c : List It) (ha : a.length ≤ 9) (hb : b.length ≤ 9) (hc : c = both a b) : Evt (fun k => laws_FnBothThree.j1 k m a b c true) (fun r => r = true) := by
  refine Evt.step (fun k => by simp only [laws_FnBothThree.j1]; rw [if_pos trivial]) ?_
  refine Evt.bind (both_spec a b (by omega) (by omega)) fun y hy => ?_
  have := both_len a b
  exact Evt.bind (lwSame_ends c y (by rw [hc]; omega)) fun t ht => Evt.now _ (by rw [ht, hc, hy]; simp)
theorem FnBothThree : laws_FnBothThree.Pure := by
  intro l m _ hw _ _
  have hl := bytes_of hw
  refine Evt.get ?_
  have hend : Evt (fun k => laws_FnBothThree.j0 k l m true) (fun r => r = true) := Evt.step (f := fun _ => some true) (fun k => by simp only [laws_FnBothThree.j0, if_true]) (Evt.now _ rfl)
  simp only [laws_FnBothThree.f]
  refine Evt.ite (fun _ => hend) (fun h => ?_)
  by_cases h2 : (m.length : Int) > 1048576
  · rw [decide_eq_true h2]
    exact hend
  rw [decide_eq_false h2]
  refine Evt.step (fun k => by simp only [laws_FnBothThree.j0]; rw [if_neg (by decide)]) ?_
  refine Evt.bind (drawBoth_ends hl) fun d hd => ?_
  obtain ⟨a, b⟩ := d
  obtain ⟨ha, hb⟩ := hd
  simp only at ha hb ⊢
  have hbl := both_len a b
  refine Evt.bind (both_impl a b (by omega) (by omega)) fun c hc => ?_
  refine Evt.bind (both_spec a b (by omega) (by omega)) fun y hy => ?_
  refine Evt.bind (lwSame_ends c y (by rw [hc]; omega)) fun t ht => ?_
  refine Evt.pos (by rw [ht, hc, hy]; simp) ?_
  refine Evt.bind (chainOk_spec a (by omega)) fun s hs => ?_
  cases h1 : chainOk a with
  | false => exact Evt.neg (by rw [hs, h1]; decide) (bothThree_end m a b c ha hb hc)
  | true =>
    refine Evt.pos (by rw [hs, h1]) (Evt.bind (chainOk_spec b (by omega)) fun s hs => ?_)
    cases h3 : chainOk b with
    | false => rw [hs, h3]; exact bothThree_end m a b c ha hb hc
    | true =>
      rw [hs, h3]
      rw [both_of h1 h3] at hc
      subst hc
      have w1 : wrap64 ((a.length : Int) + 1) = (a.length : Int) + 1 := wrap64_small (by omega) (by omega)
      refine Evt.step (fun k => by simp only [laws_FnBothThree.j1, w1]; rw [if_neg (by decide)]) ?_
      have hi : 0 ≤ (m.length : Int) % ((a.length : Int) + 1) := Int.emod_nonneg _ (by omega)
      have hj : (m.length : Int) % ((a.length : Int) + 1) < (a.length : Int) + 1 := Int.emod_lt_of_pos _ (by omega)
      generalize (m.length : Int) % ((a.length : Int) + 1) = i at hi hj
      refine Evt.neg (by omega) (Evt.pos hi (Evt.pos (by omega) ?_))
      simp only [Option.bind_some]
      have h4 := chainOk_take i.toNat h1
      have h4l : (a.take i.toNat).length ≤ 9 := by rw [List.length_take]; omega
      generalize a.take i.toNat = d at h4 h4l
      have h5 := chainOk_cp b h1
      have h5l := cp_len a b
      have h6l := cp_len d a
      have h7l := cp_len d b
      have hx : both (cp a b) d = cp d (cp a b) := by rw [both_of h5 h4, cp_comm]
      have hu : both (cp d a) b = cp d (cp a b) := by rw [both_of (chainOk_cp a h4) h3, cp_assoc]
      have hv : both (cp d b) a = cp d (cp a b) := by rw [both_of (chainOk_cp b h4) h1, cp_assoc, cp_comm b a]
      have hxl := cp_len d (cp a b)
      refine Evt.bind (both_impl (cp a b) d (by omega) (by omega)) fun x ex => ?_
      rw [hx] at ex
      refine Evt.bind (both_impl d a (by omega) (by omega)) fun u eu => ?_
      rw [both_of h4 h1] at eu
      refine Evt.bind (both_impl u b (by rw [eu]; omega) (by omega)) fun v ev => ?_
      rw [eu, hu] at ev
      refine Evt.bind (lwSame_ends x v (by rw [ex]; omega)) fun t ht => ?_
      refine Evt.pos (by rw [ht, ex, ev]; simp) ?_
      refine Evt.bind (both_impl d b (by omega) (by omega)) fun u2 eu2 => ?_
      rw [both_of h4 h3] at eu2
      refine Evt.bind (both_impl u2 a (by rw [eu2]; omega) (by omega)) fun v2 ev2 => ?_
      rw [eu2, hv] at ev2
      refine Evt.bind (lwSame_ends x v2 (by rw [ex]; omega)) fun t ht => ?_
      refine Evt.pos (by rw [ht, ex, ev2]; simp) ?_
      refine Evt.bind (both_impl a a (by omega) (by omega)) fun z ez => ?_
      rw [both_of h1 h1, cp_self] at ez
      exact Evt.bind (lwSame_ends z a (by rw [ez]; omega)) fun t ht => Evt.now _ (by rw [ht, ez]; simp)

end Go.Proofs.Ytpjkkcnceocipaa.Pure
