/- By every beginning of a drawn chain the book is valid, nobody has more than there is, and who has nothing pays nothing. The plain part: what the printed functions compute answers true. Conditions: the argument fits the machine, as the row says. -/
import Derived.Test.YtbhaogmjcnnanaaPx39
import Derived.Test.YtbhaogmjcnnanaaFpaycases
import Derived.Test.YtbhaogmjcnnanaaFbookall
import Derived.Test.YtbhaogmjcnnanaaFlwints
import Derived.Test.YtbhaogmjcnnanaaFdrawbookof
import Derived.Test.YtbhaogmjcnnanaaPlain
namespace Go.Proofs.Ytbhaogmjcnnanaa.Pure
open Go.RowKit Go.Proofs.Ytbhaogmjcnnanaa.P Go.Proofs.YtbhaogmjcnnanaaW.PrintWords Go.Proofs.YtbhaogmjcnnanaaW.PrintLast Go.Proofs.YtbhaogmjcnnanaaW.PrintMore Go.Proofs.YtbhaogmjcnnanaaE
set_option linter.unusedVariables false
set_option linter.unusedSimpArgs false

theorem fnBookMost_end (m b : List Int) (c : List It) (hc : c.length ≤ 7) (hb : b = bookOf c) : Evt (fun k => laws_FnBookMost.j1 k m c b true) (fun r => r = true) := by
  refine Evt.step (fun k => by simp only [laws_FnBookMost.j1]; rw [if_pos trivial]) ?_
  refine Evt.bind (bookOf_spec c (by omega)) fun y hy => ?_
  exact Evt.bind (lwInts_ends b y (by rw [hb]; have := bookOf_length c; omega)) fun t ht => Evt.now _ (by rw [ht, hy, hb]; simp)
theorem FnBookMost : laws_FnBookMost.Pure := by
  intro l m _ hw _ _
  have hl := bytes_of hw
  refine Evt.get ?_
  have hend : Evt (fun k => laws_FnBookMost.j0 k l m true) (fun r => r = true) := Evt.step (f := fun _ => some true) (fun k => by simp only [laws_FnBookMost.j0, if_true]) (Evt.now _ rfl)
  simp only [laws_FnBookMost.f]
  refine Evt.ite (fun _ => hend) (fun h => ?_)
  by_cases h2 : (m.length : Int) > 1048576
  · rw [decide_eq_true h2]
    exact hend
  rw [decide_eq_false h2]
  refine Evt.step (fun k => by simp only [laws_FnBookMost.j0]; rw [if_neg (by decide)]) ?_
  refine Evt.bind (drawBookOf_ends hl) fun c hc => ?_
  refine Evt.bind (bookOf_impl c (by omega)) fun b hb => ?_
  refine Evt.bind (bookOf_spec c (by omega)) fun y hy => ?_
  have hbl := bookOf_length c
  refine Evt.bind (lwInts_ends b y (by rw [hb]; omega)) fun t ht => ?_
  refine Evt.pos (by rw [ht, hb, hy]; simp) ?_
  cases hok : chainOk c with
  | false =>
    rw [show ((b.length : Int) == 0) = true by rw [hb]; simp [bookOf, hok]]
    exact fnBookMost_end m b c hc hb
  | true =>
    have hv := bookOf_ok hok
    rw [← hb] at hv
    obtain ⟨x1, y1, z1, e1, h1, h2', h3, s1⟩ := bookOk_three hv
    subst e1
    rw [show ((([x1, y1, z1] : List Int).length : Int) == 0) = false from rfl]
    have w1 : wrap64 ((c.length : Int) + 1) = (c.length : Int) + 1 := wrap64_small (by omega) (by omega)
    refine Evt.step (fun k => by simp only [laws_FnBookMost.j1, w1]; rw [if_neg (by decide)]) ?_
    have hi : 0 ≤ (m.length : Int) % ((c.length : Int) + 1) := Int.emod_nonneg _ (by omega)
    have hj : (m.length : Int) % ((c.length : Int) + 1) < (c.length : Int) + 1 := Int.emod_lt_of_pos _ (by omega)
    generalize (m.length : Int) % ((c.length : Int) + 1) = i at hi hj
    refine Evt.neg (by omega) (Evt.pos hi (Evt.pos (by omega) ?_))
    refine Evt.bind (bookOf_impl (c.take i.toNat) (by simp; omega)) fun u hu => ?_
    have huk := bookOf_ok (chainOk_take i.toNat hok)
    rw [← hu] at huk
    have hul : u.length = 3 := book_len huk
    have hs : 1 ≤ 1 + (m.length : Int) % 9 ∧ 1 + (m.length : Int) % 9 ≤ 9 := by omega
    generalize 1 + (m.length : Int) % 9 = s at hs
    refine Evt.bind (bookPay_impl [0, 0, 27] 1 2 s (by simp)) fun v hv' => ?_
    rw [bookPay_of (bookOk_of (by omega) (by omega) (by omega) (by omega)) (payOk_iff.2 (by omega)), p12 (by omega) (by omega) (by omega), if_neg (by omega)] at hv'
    subst hv'
    refine Evt.bind (bookOk_impl u (by omega)) fun w hw' => ?_
    refine Evt.pos (by rw [hw', huk]) ?_
    refine Evt.bind (lwInts_ends [0, 0, 27] [0, 0, 27] (by simp)) fun a ha => ?_
    refine Evt.pos (by rw [ha]; simp) ?_
    refine Evt.pos (by simp) (Evt.pos h1.2 (Evt.pos (by simp) (Evt.pos h2'.2 (Evt.pos (by simp) (Evt.now _ ?_)))))
    exact decide_eq_true h3.2

end Go.Proofs.Ytbhaogmjcnnanaa.Pure
