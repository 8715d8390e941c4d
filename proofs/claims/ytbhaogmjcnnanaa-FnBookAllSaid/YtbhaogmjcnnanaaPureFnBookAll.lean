/- Behind every drawn payment the book is valid, and its total is what it was. The plain part: what the printed functions compute answers true. Conditions: the argument fits the machine, as the row says. -/
import Derived.Test.YtbhaogmjcnnanaaPx23
import Derived.Test.YtbhaogmjcnnanaaFpaycases
import Derived.Test.YtbhaogmjcnnanaaFlwints
import Derived.Test.YtbhaogmjcnnanaaFdrawbookpay
import Derived.Test.YtbhaogmjcnnanaaPlain
namespace Go.Proofs.Ytbhaogmjcnnanaa.Pure
open Go.RowKit Go.Proofs.Ytbhaogmjcnnanaa.P Go.Proofs.YtbhaogmjcnnanaaW.PrintWords Go.Proofs.YtbhaogmjcnnanaaW.PrintLast Go.Proofs.YtbhaogmjcnnanaaW.PrintMore Go.Proofs.YtbhaogmjcnnanaaE
set_option linter.unusedVariables false
set_option linter.unusedSimpArgs false

theorem fnBookAll_end (b x : List Int) (p q r : Int) (hb : b.length ≤ 3) (hx : x = bookPay b p q r) : Evt (fun k => laws_FnBookAll.j0 k b x true p q r) (fun r => r = true) := by
  refine Evt.step (fun k => by simp only [laws_FnBookAll.j0]; rw [if_pos trivial]) ?_
  refine Evt.bind (bookPay_spec b p q r (by omega)) fun y hy => ?_
  refine Evt.bind (lwInts_ends x y ?_) fun t ht => Evt.now _ (by rw [ht, hx, hy]; simp)
  rw [hx]
  unfold bookPay
  split
  · split
    · rw [payL_length]; omega
    · simp
  · simp

theorem FnBookAll : laws_FnBookAll.Pure := by
  intro l _ hw
  have hl := bytes_of hw
  refine Evt.get ?_
  simp only [laws_FnBookAll.f]
  refine Evt.ite (fun _ => Evt.now _ rfl) fun h => ?_
  refine Evt.bind (drawBookPay_ends hl) fun d hd => ?_
  obtain ⟨b, p, q, r⟩ := d
  simp only at hd ⊢
  refine Evt.bind (bookPay_impl b p q r (by omega)) fun x hx => ?_
  refine Evt.bind (bookPay_spec b p q r (by omega)) fun y hy => ?_
  have hxl : x.length ≤ 4611686018427387900 := by
    rw [hx]
    unfold bookPay
    split
    · split
      · rw [payL_length]; omega
      · simp
    · simp
  refine Evt.bind (lwInts_ends x y hxl) fun t ht => ?_
  rw [hy, ← hx] at ht
  refine Evt.pos (by rw [ht]; simp) ?_
  by_cases hx0 : x = []
  · rw [show ((x.length : Int) == 0) = true by rw [hx0]; rfl]
    exact fnBookAll_end b x p q r hd hx
  · rw [show ((x.length : Int) == 0) = false by
      have : x.length ≠ 0 := fun e => hx0 (List.eq_nil_of_length_eq_zero e)
      simp; omega]
    obtain ⟨hb, hp, he⟩ := bookPay_ne (hx ▸ hx0)
    rw [he] at hx
    subst hx
    have hb' := payL_ok hb hp
    refine Evt.step (fun k => by simp only [laws_FnBookAll.j0]; rw [if_neg (by decide)]) ?_
    refine Evt.bind (bookOk_impl _ hxl) fun s hs => ?_
    rw [hs, hb']
    refine Evt.pos rfl ?_
    obtain ⟨x1, y1, z1, e1, _, _, _, s1⟩ := bookOk_three hb'
    obtain ⟨x2, y2, z2, e2, _, _, _, s2⟩ := bookOk_three hb
    rw [e1, e2]
    refine Evt.pos (by simp) (Evt.pos (by simp) (Evt.pos (by simp) (Evt.pos (by simp) (Evt.pos (by simp) (Evt.pos (by simp) (Evt.now _ ?_))))))
    simp only [rd, Int.toNat_zero, Int.toNat_one, List.getD_cons_zero, List.getD_cons_succ, beq_iff_eq, show (2 : Int).toNat = 2 from rfl]
    rw [wrap64_small (n := x1 + y1) (by omega) (by omega), wrap64_small (n := x2 + y2) (by omega) (by omega), wrap64_small (n := x1 + y1 + z1) (by omega) (by omega), wrap64_small (n := x2 + y2 + z2) (by omega) (by omega)]
    omega

end Go.Proofs.Ytbhaogmjcnnanaa.Pure
