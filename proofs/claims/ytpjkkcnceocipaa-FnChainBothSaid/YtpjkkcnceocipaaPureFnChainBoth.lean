/- How both of two drawn chains begin begins both, is the longest that does, and is the first of them just when that one begins the other. The plain part: what the printed functions compute answers true. Conditions: the argument fits the machine, as the row says. -/
import Derived.Test.YtpjkkcnceocipaaPx17
import Derived.Test.YtpjkkcnceocipaaPx25
import Derived.Test.YtpjkkcnceocipaaPx35
import Derived.Test.YtpjkkcnceocipaaFcp
import Derived.Test.YtpjkkcnceocipaaFlwsame
import Derived.Test.YtpjkkcnceocipaaFdrawboth
import Derived.Test.YtpjkkcnceocipaaPlain
namespace Go.Proofs.Ytpjkkcnceocipaa.Pure
open Go.RowKit Go.Proofs.Ytpjkkcnceocipaa.P Go.Proofs.YtpjkkcnceocipaaW.PrintWords Go.Proofs.YtpjkkcnceocipaaW.PrintLast Go.Proofs.YtpjkkcnceocipaaW.PrintMore Go.Proofs.YtpjkkcnceocipaaE
set_option linter.unusedVariables false
set_option linter.unusedSimpArgs false

theorem chainBoth_end (a b c : List It) (ha : a.length ≤ 9) (hb : b.length ≤ 9) (hc : c = both a b) : Evt (fun k => laws_FnChainBoth.j0 k a b c true) (fun r => r = true) := by
  refine Evt.step (fun k => by simp only [laws_FnChainBoth.j0]; rw [if_pos trivial]) ?_
  refine Evt.bind (both_spec a b (by omega) (by omega)) fun y hy => ?_
  have := both_len a b
  exact Evt.bind (lwSame_ends c y (by rw [hc]; omega)) fun t ht => Evt.now _ (by rw [ht, hc, hy]; simp)
theorem FnChainBoth : laws_FnChainBoth.Pure := by
  intro l _ hw
  have hl := bytes_of hw
  refine Evt.get ?_
  simp only [laws_FnChainBoth.f]
  refine Evt.ite (fun _ => Evt.now _ rfl) fun h => ?_
  refine Evt.bind (drawBoth_ends hl) fun d hd => ?_
  obtain ⟨a, b⟩ := d
  obtain ⟨ha, hb⟩ := hd
  simp only at ha hb ⊢
  have hbl := both_len a b
  refine Evt.bind (both_impl a b (by omega) (by omega)) fun c hc => ?_
  refine Evt.bind (both_spec a b (by omega) (by omega)) fun y hy => ?_
  refine Evt.bind (lwSame_ends c y (by rw [hc]; omega)) fun t ht => ?_
  refine Evt.pos (by rw [ht, hc, hy]; simp) ?_
  refine Evt.bind (chainOk_spec a (by omega)) fun s hs => ?_
  cases h1 : chainOk a with
  | false => exact Evt.neg (by rw [hs, h1]; decide) (chainBoth_end a b c ha hb hc)
  | true =>
    refine Evt.pos (by rw [hs, h1]) (Evt.bind (chainOk_spec b (by omega)) fun s hs => ?_)
    cases h3 : chainOk b with
    | false => rw [hs, h3]; exact chainBoth_end a b c ha hb hc
    | true =>
      rw [hs, h3]
      rw [both_of h1 h3] at hc
      have h5 := chainOk_cp b h1
      have h5l := cp_len a b
      have h6l := cp_len b a
      have hpa := cp_prefix a b
      have hpb : cp a b <+: b := by rw [cp_comm]; exact cp_prefix b a
      have hstop := cp_stop a b
      have hiff := cp_eq_iff a b
      rw [← hc] at h5 h5l hpa hpb hstop hiff
      refine Evt.step (fun k => by simp only [laws_FnChainBoth.j0]; rw [if_neg (by decide)]) ?_
      refine Evt.bind (chainIn_impl c a (by omega) (by omega)) fun t ht => ?_
      refine Evt.pos (by rw [ht]; simp [inn, h5, h1, hpa]) ?_
      refine Evt.bind (chainIn_impl c b (by omega) (by omega)) fun t ht => ?_
      refine Evt.pos (by rw [ht]; simp [inn, h5, h3, hpb]) ?_
      refine Evt.bind (both_impl b a (by omega) (by omega)) fun z ez => ?_
      rw [both_of h3 h1, cp_comm, ← hc] at ez
      refine Evt.bind (lwSame_ends c z (by omega)) fun t ht => ?_
      rw [ht, ez, show (!decide (c = c)) = false by simp]
      have last : Evt (fun k => (laws_lwSame.f k c a).bind fun t621 => ((impl_ChainIn.f k a b).bind fun t622 => (some (t621 == t622)))) (fun r => r = true) := by
        refine Evt.bind (lwSame_ends c a (by omega)) fun t ht => ?_
        refine Evt.bind (chainIn_impl a b (by omega) (by omega)) fun u hu => Evt.now _ ?_
        rw [ht, hu]
        simp only [inn, h1, h3, Bool.true_and, beq_iff_eq]
        exact decide_of (by rw [decide_eq_true_iff]; exact hiff)
      refine Evt.step (fun k => by simp only [laws_FnChainBoth.j1]; rw [if_neg (by decide)]) ?_
      refine Evt.ite (fun _ => last) fun hna => Evt.ite (fun _ => last) fun hnb => ?_
      have hcb := hpb.length_le
      refine Evt.pos (by omega) (Evt.pos (by omega) (Evt.pos (by omega) (Evt.pos ?_ last)))
      rw [neq_it]
      exact hstop (by omega) (by omega)

end Go.Proofs.Ytpjkkcnceocipaa.Pure
