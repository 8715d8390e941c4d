/- Behind every drawn payment, who has less than is asked pays nothing, and who pays all that he has is left with none. The plain part: what the printed functions compute answers true. Conditions: the argument fits the machine, as the row says. -/
import Derived.Test.YtbhaogmjcnnanaaPx25
import Derived.Test.YtbhaogmjcnnanaaFpaycases
import Derived.Test.YtbhaogmjcnnanaaFlwints
import Derived.Test.YtbhaogmjcnnanaaFdrawbookpay
import Derived.Test.YtbhaogmjcnnanaaPlain
namespace Go.Proofs.Ytbhaogmjcnnanaa.Pure
open Go.RowKit Go.Proofs.Ytbhaogmjcnnanaa.P Go.Proofs.YtbhaogmjcnnanaaW.PrintWords Go.Proofs.YtbhaogmjcnnanaaW.PrintLast Go.Proofs.YtbhaogmjcnnanaaW.PrintMore Go.Proofs.YtbhaogmjcnnanaaE
set_option linter.unusedVariables false
set_option linter.unusedSimpArgs false

theorem fnBookNone_end (m b x : List Int) (p q r : Int) (hb : b.length ≤ 3) (hx : x = bookPay b p q r) : Evt (fun k => laws_FnBookNone.j1 k m b x true p q r) (fun r => r = true) := by
  refine Evt.step (fun k => by simp only [laws_FnBookNone.j1]; rw [if_pos trivial]) ?_
  refine Evt.bind (bookPay_spec b p q r (by omega)) fun y hy => ?_
  refine Evt.bind (lwInts_ends x y ?_) fun t ht => Evt.now _ (by rw [ht, hx, hy]; simp)
  rw [hx]
  unfold bookPay
  split
  · split
    · rw [payL_length]; omega
    · simp
  · simp
theorem fnBookNone_last {x y z f t : Int} (hx : 0 ≤ x ∧ x ≤ 27) (hy : 0 ≤ y ∧ y ≤ 27) (hz : 0 ≤ z ∧ z ≤ 27) (hs : x + y + z = 27) (ht : (f = 1 ∧ t = 2) ∨ (f = 2 ∧ t = 3) ∨ (f = 3 ∧ t = 1)) :
    Evt (fun k => laws_FnBookNone.j2 k [x, y, z] f t (rd [x, y, z] (f - 1)) false) (fun r => r = true) := by
  have hok : bookOk [x, y, z] = true := bookOk_of (by omega) (by omega) (by omega) (by omega)
  refine Evt.step (fun k => by simp only [laws_FnBookNone.j2]; rw [if_neg (by decide)]) ?_
  refine Evt.ite (fun _ => Evt.now _ rfl) fun h1 => Evt.ite (fun _ => Evt.now _ rfl) fun h9 => ?_
  refine Evt.bind (bookPay_impl _ f t _ (by simp)) fun u hu => ?_
  have v0 : wrap64 ((1 : Int) - 1) = 0 := by unfold wrap64; omega
  have v1 : wrap64 ((2 : Int) - 1) = 1 := by unfold wrap64; omega
  have v2 : wrap64 ((3 : Int) - 1) = 2 := by unfold wrap64; omega
  rcases ht with ⟨rfl, rfl⟩ | ⟨rfl, rfl⟩ | ⟨rfl, rfl⟩
  · change ¬ x < 1 at h1
    change ¬ x > 9 at h9
    change u = bookPay [x, y, z] 1 2 x at hu
    rw [bookPay_of hok (payOk_iff.2 (by omega)), p12 hx hy (by omega), if_pos (by omega)] at hu
    subst hu
    have e : x - x = 0 := by omega
    rw [v0, v1]
    refine Evt.pos (by decide) (Evt.pos (by simp) (Evt.pos e (Evt.pos (by decide) (Evt.pos (by simp) (Evt.pos (by simp) (Evt.now _ ?_))))))
    change (y + x == wrap64 (y + x)) = true
    rw [wrap64_small (by omega) (by omega)]
    simp
  · change ¬ y < 1 at h1
    change ¬ y > 9 at h9
    change u = bookPay [x, y, z] 2 3 y at hu
    rw [bookPay_of hok (payOk_iff.2 (by omega)), p23 hy hz (by omega), if_pos (by omega)] at hu
    subst hu
    have e : y - y = 0 := by omega
    rw [v1, v2]
    refine Evt.pos (by decide) (Evt.pos (by simp) (Evt.pos e (Evt.pos (by decide) (Evt.pos (by simp) (Evt.pos (by simp) (Evt.now _ ?_))))))
    change (z + y == wrap64 (z + y)) = true
    rw [wrap64_small (by omega) (by omega)]
    simp
  · change ¬ z < 1 at h1
    change ¬ z > 9 at h9
    change u = bookPay [x, y, z] 3 1 z at hu
    rw [bookPay_of hok (payOk_iff.2 (by omega)), p31 hx hz (by omega), if_pos (by omega)] at hu
    subst hu
    have e : z - z = 0 := by omega
    rw [v2, v0]
    refine Evt.pos (by decide) (Evt.pos (by simp) (Evt.pos e (Evt.pos (by decide) (Evt.pos (by simp) (Evt.pos (by simp) (Evt.now _ ?_))))))
    change (x + z == wrap64 (x + z)) = true
    rw [wrap64_small (by omega) (by omega)]
    simp
theorem FnBookNone : laws_FnBookNone.Pure := by
  intro l m _ hw _ _
  have hl := bytes_of hw
  refine Evt.get ?_
  have hend : Evt (fun k => laws_FnBookNone.j0 k l m true) (fun r => r = true) := Evt.step (f := fun _ => some true) (fun k => by simp only [laws_FnBookNone.j0, if_true]) (Evt.now _ rfl)
  simp only [laws_FnBookNone.f]
  refine Evt.ite (fun _ => hend) (fun h => ?_)
  by_cases h2 : (m.length : Int) > 1048576
  · rw [decide_eq_true h2]
    exact hend
  rw [decide_eq_false h2]
  refine Evt.step (fun k => by simp only [laws_FnBookNone.j0]; rw [if_neg (by decide)]) ?_
  refine Evt.bind (drawBookPay_ends hl) fun d hd => ?_
  obtain ⟨b, p, q, r⟩ := d
  simp only at hd ⊢
  refine Evt.bind (bookPay_impl b p q r (by omega)) fun x hx => ?_
  refine Evt.bind (bookPay_spec b p q r (by omega)) fun y hy => ?_
  have hxl : x.length ≤ 4611686018427387900 := by
    rw [hx]
    unfold bookPay
    split
    · split
      · rw [payL_length]; omega
      · simp
    · simp
  refine Evt.bind (lwInts_ends x y hxl) fun t ht => ?_
  rw [hy, ← hx] at ht
  refine Evt.pos (by rw [ht]; simp) ?_
  by_cases hx0 : x = []
  · rw [show ((x.length : Int) == 0) = true by rw [hx0]; rfl]
    exact fnBookNone_end m b x p q r hd hx
  · rw [show ((x.length : Int) == 0) = false by
      have : x.length ≠ 0 := fun e => hx0 (List.eq_nil_of_length_eq_zero e)
      simp; omega]
    obtain ⟨hb, -, -⟩ := bookPay_ne (hx ▸ hx0)
    obtain ⟨x1, y1, z1, e1, h1, h2', h3, s1⟩ := bookOk_three hb
    clear hx hd
    subst e1
    have e3 : (1 + (m.length : Int)) % 3 = (1 + (m.length : Int) % 3) % 3 := by omega
    have hi : 0 ≤ (m.length : Int) % 3 ∧ (m.length : Int) % 3 < 3 := by omega
    refine Evt.step (fun k => by simp only [laws_FnBookNone.j1, e3]; rw [if_neg (by decide)]) ?_
    generalize (m.length : Int) % 3 = i at hi ⊢
    refine Evt.pos (by omega) (Evt.pos (by simp; omega) ?_)
    have hp : (1 + i = 1 ∧ (1 + i) % 3 + 1 = 2) ∨ (1 + i = 2 ∧ (1 + i) % 3 + 1 = 3) ∨ (1 + i = 3 ∧ (1 + i) % 3 + 1 = 1) := by omega
    generalize (1 + i) % 3 + 1 = t at hp ⊢
    generalize 1 + i = f at hp ⊢
    refine Evt.ite (fun h9 => ?_) fun _ => fnBookNone_last h1 h2' h3 s1 hp
    have hrd : 0 ≤ rd [x1, y1, z1] (f - 1) := by
      rcases hp with ⟨rfl, _⟩ | ⟨rfl, _⟩ | ⟨rfl, _⟩
      · exact h1.1
      · exact h2'.1
      · exact h3.1
    rw [wrap64_small (n := rd [x1, y1, z1] (f - 1) + 1) (by omega) (by omega)]
    refine Evt.bind (bookPay_impl _ f t _ (by simp)) fun u hu => ?_
    rw [bookPay_of hb (payOk_iff.2 (by omega))] at hu
    have hu' : u = [x1, y1, z1] := by
      rw [hu]
      unfold payL
      rw [if_neg (by omega)]
    refine Evt.bind (lwInts_ends u [x1, y1, z1] (by rw [hu']; simp)) fun v hv => ?_
    rw [hv, hu']
    simp only [decide_true, Bool.not_true]
    exact fnBookNone_last h1 h2' h3 s1 hp

end Go.Proofs.Ytbhaogmjcnnanaa.Pure
