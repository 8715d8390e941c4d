/- What is paid back behind a drawn payment is as it was. The plain part: what the printed functions compute answers true. Conditions: the argument fits the machine, as the row says. -/
import Derived.Test.YtbhaogmjcnnanaaPx24
import Derived.Test.YtbhaogmjcnnanaaFpaycases
import Derived.Test.YtbhaogmjcnnanaaFlwints
import Derived.Test.YtbhaogmjcnnanaaFdrawbookpay
import Derived.Test.YtbhaogmjcnnanaaPlain
namespace Go.Proofs.Ytbhaogmjcnnanaa.Pure
open Go.RowKit Go.Proofs.Ytbhaogmjcnnanaa.P Go.Proofs.YtbhaogmjcnnanaaW.PrintWords Go.Proofs.YtbhaogmjcnnanaaW.PrintLast Go.Proofs.YtbhaogmjcnnanaaW.PrintMore Go.Proofs.YtbhaogmjcnnanaaE
set_option linter.unusedVariables false
set_option linter.unusedSimpArgs false

theorem fnBookBack_end (b x : List Int) (p q r : Int) (hb : b.length ≤ 3) (hx : x = bookPay b p q r) : Evt (fun k => laws_FnBookBack.j0 k b x true p q r) (fun r => r = true) := by
  refine Evt.step (fun k => by simp only [laws_FnBookBack.j0]; rw [if_pos trivial]) ?_
  refine Evt.bind (bookPay_spec b p q r (by omega)) fun y hy => ?_
  refine Evt.bind (lwInts_ends x y ?_) fun t ht => Evt.now _ (by rw [ht, hx, hy]; simp)
  rw [hx]
  unfold bookPay
  split
  · split
    · rw [payL_length]; omega
    · simp
  · simp

theorem FnBookBack : laws_FnBookBack.Pure := by
  intro l _ hw
  have hl := bytes_of hw
  refine Evt.get ?_
  simp only [laws_FnBookBack.f]
  refine Evt.ite (fun _ => Evt.now _ rfl) fun h => ?_
  refine Evt.bind (drawBookPay_ends hl) fun d hd => ?_
  obtain ⟨b, p, q, r⟩ := d
  simp only at hd ⊢
  refine Evt.bind (bookPay_impl b p q r (by omega)) fun x hx => ?_
  refine Evt.bind (bookPay_spec b p q r (by omega)) fun y hy => ?_
  have hxl : x.length ≤ 4611686018427387900 := by
    rw [hx]
    unfold bookPay
    split
    · split
      · rw [payL_length]; omega
      · simp
    · simp
  refine Evt.bind (lwInts_ends x y hxl) fun t ht => ?_
  rw [hy, ← hx] at ht
  refine Evt.pos (by rw [ht]; simp) ?_
  by_cases hx0 : x = []
  · refine Evt.pos (by rw [hx0]; rfl) ?_
    exact fnBookBack_end b x p q r hd hx
  · have hxn : x.length ≠ 0 := fun e => hx0 (List.eq_nil_of_length_eq_zero e)
    refine Evt.neg (by omega) ?_
    refine Evt.bind (lwInts_ends x b hxl) fun s hs => ?_
    obtain ⟨hb, hp, he⟩ := bookPay_ne (hx ▸ hx0)
    by_cases hsame : x = b
    · rw [hs, decide_eq_true hsame]
      exact fnBookBack_end b x p q r hd hx
    · rw [hs, decide_eq_false hsame]
      rw [he] at hx
      subst hx
      have hb' := payL_ok hb hp
      refine Evt.step (fun k => by simp only [laws_FnBookBack.j0]; rw [if_neg (by decide)]) ?_
      refine Evt.bind (bookPay_impl _ q p r (by rw [payL_length]; omega)) fun u hu => ?_
      rw [bookPay_of hb' (payOk_back hp), payL_back hb hp hsame] at hu
      rw [hu]
      exact Evt.bind (lwInts_ends b b (by omega)) fun v hv => Evt.now _ (by rw [hv]; simp)

end Go.Proofs.Ytbhaogmjcnnanaa.Pure
