/- What goes around all three behind a drawn payment comes back. The plain part: what the printed functions compute answers true. Conditions: the argument fits the machine, as the row says. -/
import Derived.Test.YtbhaogmjcnnanaaPx27
import Derived.Test.YtbhaogmjcnnanaaFpaycases
import Derived.Test.YtbhaogmjcnnanaaFlwints
import Derived.Test.YtbhaogmjcnnanaaFdrawbookpay
import Derived.Test.YtbhaogmjcnnanaaPlain
namespace Go.Proofs.Ytbhaogmjcnnanaa.Pure
open Go.RowKit Go.Proofs.Ytbhaogmjcnnanaa.P Go.Proofs.YtbhaogmjcnnanaaW.PrintWords Go.Proofs.YtbhaogmjcnnanaaW.PrintLast Go.Proofs.YtbhaogmjcnnanaaW.PrintMore Go.Proofs.YtbhaogmjcnnanaaE
set_option linter.unusedVariables false
set_option linter.unusedSimpArgs false

theorem fnBookRing_end (b x : List Int) (p q r : Int) (hb : b.length ≤ 3) (hx : x = bookPay b p q r) : Evt (fun k => laws_FnBookRing.j0 k b x true p q r) (fun r => r = true) := by
  refine Evt.step (fun k => by simp only [laws_FnBookRing.j0]; rw [if_pos trivial]) ?_
  refine Evt.bind (bookPay_spec b p q r (by omega)) fun y hy => ?_
  refine Evt.bind (lwInts_ends x y ?_) fun t ht => Evt.now _ (by rw [ht, hx, hy]; simp)
  rw [hx]
  unfold bookPay
  split
  · split
    · rw [payL_length]; omega
    · simp
  · simp

theorem FnBookRing : laws_FnBookRing.Pure := by
  intro l _ hw
  have hl := bytes_of hw
  refine Evt.get ?_
  simp only [laws_FnBookRing.f]
  refine Evt.ite (fun _ => Evt.now _ rfl) fun h => ?_
  refine Evt.bind (drawBookPay_ends hl) fun d hd => ?_
  obtain ⟨b, p, q, r⟩ := d
  simp only at hd ⊢
  refine Evt.bind (bookPay_impl b p q r (by omega)) fun x hx => ?_
  refine Evt.bind (bookPay_spec b p q r (by omega)) fun y hy => ?_
  have hxl : x.length ≤ 4611686018427387900 := by
    rw [hx]
    unfold bookPay
    split
    · split
      · rw [payL_length]; omega
      · simp
    · simp
  refine Evt.bind (lwInts_ends x y hxl) fun t ht => ?_
  rw [hy, ← hx] at ht
  refine Evt.pos (by rw [ht]; simp) ?_
  by_cases hx0 : x = []
  · refine Evt.pos (by rw [hx0]; rfl) ?_
    exact fnBookRing_end b x p q r hd hx
  · have hxn : x.length ≠ 0 := fun e => hx0 (List.eq_nil_of_length_eq_zero e)
    refine Evt.neg (by omega) ?_
    refine Evt.bind (lwInts_ends x b hxl) fun s hs => ?_
    obtain ⟨hb, hp, he⟩ := bookPay_ne (hx ▸ hx0)
    by_cases hsame : x = b
    · rw [hs, decide_eq_true hsame]
      exact fnBookRing_end b x p q r hd hx
    · rw [hs, decide_eq_false hsame]
      rw [he] at hx
      subst hx
      have hb' := payL_ok hb hp
      obtain ⟨hp1, hp2, hpne, hp3⟩ := payOk_iff.1 hp
      have w1 : wrap64 (6 - p) = 6 - p := wrap64_small (by omega) (by omega)
      have w2 : wrap64 (6 - p - q) = 6 - p - q := wrap64_small (by omega) (by omega)
      have hq1 : payOk q (6 - p - q) r = true := payOk_iff.2 (by omega)
      have hq2 : payOk (6 - p - q) p r = true := payOk_iff.2 (by omega)
      refine Evt.step (fun k => by simp only [laws_FnBookRing.j0]; rw [if_neg (by decide), w1, w2]) ?_
      refine Evt.bind (bookPay_impl _ q (6 - p - q) r (by rw [payL_length]; omega)) fun u hu => ?_
      rw [bookPay_of hb' hq1] at hu
      subst hu
      refine Evt.bind (bookPay_impl _ (6 - p - q) p r (by rw [payL_length, payL_length]; omega)) fun u hu => ?_
      rw [bookPay_of (payL_ok hb' hq1) hq2, payL_ring hb hp hsame] at hu
      rw [hu]
      exact Evt.bind (lwInts_ends b b (by omega)) fun v hv => Evt.now _ (by rw [hv]; simp)

end Go.Proofs.Ytbhaogmjcnnanaa.Pure
