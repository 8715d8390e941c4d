/- Behind a drawn payment who pays has as much less, who is paid as much more, and the third what he had; if there is too little, nothing changes. The plain part: what the printed functions compute answers true. Conditions: the argument fits the machine, as the row says. -/
import Derived.Test.YtbhaogmjcnnanaaPx22
import Derived.Test.YtbhaogmjcnnanaaPx26
import Derived.Test.YtbhaogmjcnnanaaFpaycases
import Derived.Test.YtbhaogmjcnnanaaFlwints
import Derived.Test.YtbhaogmjcnnanaaFdrawbookpay
import Derived.Test.YtbhaogmjcnnanaaPlain
namespace Go.Proofs.Ytbhaogmjcnnanaa.Pure
open Go.RowKit Go.Proofs.Ytbhaogmjcnnanaa.P Go.Proofs.YtbhaogmjcnnanaaW.PrintWords Go.Proofs.YtbhaogmjcnnanaaW.PrintLast Go.Proofs.YtbhaogmjcnnanaaW.PrintMore Go.Proofs.YtbhaogmjcnnanaaE
set_option linter.unusedVariables false
set_option linter.unusedSimpArgs false

theorem fnBookPay_end (b x : List Int) (p q r : Int) (hb : b.length ≤ 3) (hx : x = bookPay b p q r) : Evt (fun k => laws_FnBookPay.j0 k b x true p q r) (fun r => r = true) := by
  refine Evt.step (fun k => by simp only [laws_FnBookPay.j0]; rw [if_pos trivial]) ?_
  refine Evt.bind (bookPay_spec b p q r (by omega)) fun y hy => ?_
  refine Evt.bind (lwInts_ends x y ?_) fun t ht => Evt.now _ (by rw [ht, hx, hy]; simp)
  rw [hx]
  unfold bookPay
  split
  · split
    · rw [payL_length]; omega
    · simp
  · simp

theorem FnBookPay : laws_FnBookPay.Pure := by
  intro l _ hw
  have hl := bytes_of hw
  refine Evt.get ?_
  simp only [laws_FnBookPay.f]
  refine Evt.ite (fun _ => Evt.now _ rfl) fun h => ?_
  refine Evt.bind (drawBookPay_ends hl) fun d hd => ?_
  obtain ⟨b, p, q, r⟩ := d
  simp only at hd ⊢
  refine Evt.bind (bookPay_impl b p q r (by omega)) fun x hx => ?_
  refine Evt.bind (bookPay_spec b p q r (by omega)) fun y hy => ?_
  have hxl : x.length ≤ 4611686018427387900 := by
    rw [hx]
    unfold bookPay
    split
    · split
      · rw [payL_length]; omega
      · simp
    · simp
  refine Evt.bind (lwInts_ends x y hxl) fun t ht => ?_
  rw [hy, ← hx] at ht
  refine Evt.pos (by rw [ht]; simp) ?_
  by_cases hx0 : x = []
  · rw [show ((x.length : Int) == 0) = true by rw [hx0]; rfl]
    exact fnBookPay_end b x p q r hd hx
  · rw [show ((x.length : Int) == 0) = false by
      have : x.length ≠ 0 := fun e => hx0 (List.eq_nil_of_length_eq_zero e)
      simp; omega]
    obtain ⟨hb, hp, he⟩ := bookPay_ne (hx ▸ hx0)
    rw [he] at hx
    subst hx
    clear ht hy
    obtain ⟨x, y, z, rfl, hx, hy, hz, hs⟩ := bookOk_three hb
    refine Evt.step (fun k => by simp only [laws_FnBookPay.j0]; rw [if_neg (by decide)]) ?_
    have hsame : ∀ X : List Int, X = [x, y, z] → Evt (fun k => (laws_lwInts.f k X [x, y, z]).bind fun t422 => some t422) (fun r => r = true) := by
      rintro X rfl
      exact Evt.bind (lwInts_ends _ _ (by simp)) fun v hv => Evt.now _ (by rw [hv]; simp)
    have wx : wrap64 (x - r) = x - r ∧ wrap64 (x + r) = x + r ∧ wrap64 (y - r) = y - r ∧ wrap64 (y + r) = y + r ∧ wrap64 (z - r) = z - r ∧ wrap64 (z + r) = z + r := by
      obtain ⟨hr, _⟩ := two_of_three hp
      exact ⟨wrap64_small (by omega) (by omega), wrap64_small (by omega) (by omega), wrap64_small (by omega) (by omega), wrap64_small (by omega) (by omega), wrap64_small (by omega) (by omega), wrap64_small (by omega) (by omega)⟩
    obtain ⟨w1, w2, w3, w4, w5, w6⟩ := wx
    have v0 : wrap64 ((1 : Int) - 1) = 0 := by unfold wrap64; omega
    have v1 : wrap64 ((2 : Int) - 1) = 1 := by unfold wrap64; omega
    have v2 : wrap64 ((3 : Int) - 1) = 2 := by unfold wrap64; omega
    have t2 : (2 : Int).toNat = 2 := rfl
    obtain ⟨hr, h | h | h | h | h | h⟩ := two_of_three hp <;> obtain ⟨rfl, rfl⟩ := h
    · have t : wrap64 (wrap64 (wrap64 (6 - 1) - 2) - 1) = 2 := by unfold wrap64; omega
      rw [p12 hx hy (by omega), v0, v1, t]
      by_cases hq : r ≤ x
      · rw [if_pos hq]
        simp [rd, w1, w4, t2, show ¬ x < r by omega]
        exact Evt.now _ rfl
      · rw [if_neg hq]
        simp only [rd, Int.toNat_zero, List.getD_cons_zero]
        exact Evt.pos (by decide) (Evt.pos (by simp) (Evt.pos (by omega) (hsame _ rfl)))
    · have t : wrap64 (wrap64 (wrap64 (6 - 1) - 3) - 1) = 1 := by unfold wrap64; omega
      rw [p13 hx hz (by omega), v0, v2, t]
      by_cases hq : r ≤ x
      · rw [if_pos hq]
        simp [rd, w1, w6, t2, show ¬ x < r by omega]
        exact Evt.now _ rfl
      · rw [if_neg hq]
        simp only [rd, Int.toNat_zero, List.getD_cons_zero]
        exact Evt.pos (by decide) (Evt.pos (by simp) (Evt.pos (by omega) (hsame _ rfl)))
    · have t : wrap64 (wrap64 (wrap64 (6 - 2) - 1) - 1) = 2 := by unfold wrap64; omega
      rw [p21 hx hy (by omega), v0, v1, t]
      by_cases hq : r ≤ y
      · rw [if_pos hq]
        simp [rd, w2, w3, t2, show ¬ y < r by omega]
        exact Evt.now _ rfl
      · rw [if_neg hq]
        simp only [rd, Int.toNat_one, List.getD_cons_zero, List.getD_cons_succ]
        exact Evt.pos (by decide) (Evt.pos (by simp) (Evt.pos (by omega) (hsame _ rfl)))
    · have t : wrap64 (wrap64 (wrap64 (6 - 2) - 3) - 1) = 0 := by unfold wrap64; omega
      rw [p23 hy hz (by omega), v1, v2, t]
      by_cases hq : r ≤ y
      · rw [if_pos hq]
        simp [rd, w3, w6, t2, show ¬ y < r by omega]
        exact Evt.now _ rfl
      · rw [if_neg hq]
        simp only [rd, Int.toNat_one, List.getD_cons_zero, List.getD_cons_succ]
        exact Evt.pos (by decide) (Evt.pos (by simp) (Evt.pos (by omega) (hsame _ rfl)))
    · have t : wrap64 (wrap64 (wrap64 (6 - 3) - 1) - 1) = 1 := by unfold wrap64; omega
      rw [p31 hx hz (by omega), v0, v2, t]
      by_cases hq : r ≤ z
      · rw [if_pos hq]
        simp [rd, w2, w5, t2, show ¬ z < r by omega]
        exact Evt.now _ rfl
      · rw [if_neg hq]
        simp only [rd, t2, List.getD_cons_zero, List.getD_cons_succ]
        exact Evt.pos (by decide) (Evt.pos (by simp) (Evt.pos (by omega) (hsame _ rfl)))
    · have t : wrap64 (wrap64 (wrap64 (6 - 3) - 2) - 1) = 0 := by unfold wrap64; omega
      rw [p32 hy hz (by omega), v1, v2, t]
      by_cases hq : r ≤ z
      · rw [if_pos hq]
        simp [rd, w4, w5, t2, show ¬ z < r by omega]
        exact Evt.now _ rfl
      · rw [if_neg hq]
        simp only [rd, t2, List.getD_cons_zero, List.getD_cons_succ]
        exact Evt.pos (by decide) (Evt.pos (by simp) (Evt.pos (by omega) (hsame _ rfl)))

end Go.Proofs.Ytbhaogmjcnnanaa.Pure
