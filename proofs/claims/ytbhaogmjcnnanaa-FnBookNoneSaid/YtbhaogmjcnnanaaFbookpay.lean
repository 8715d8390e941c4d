/- Plain facts on what the printed functions compute (bookpay). Conditions: each theorem's own. -/
import Derived.Test.YtbhaogmjcnnanaaPx3
import Derived.Test.YtbhaogmjcnnanaaPx4
import Derived.Test.YtbhaogmjcnnanaaPx7
import Derived.Test.YtbhaogmjcnnanaaPx8
import Derived.Test.YtbhaogmjcnnanaaXPay
import Derived.Test.YtbhaogmjcnnanaaFbookok
import Derived.Test.YtbhaogmjcnnanaaFpayok
import Derived.Test.YtbhaogmjcnnanaaPlain
namespace Go.Proofs.Ytbhaogmjcnnanaa.Pure
open Go.RowKit Go.Proofs.Ytbhaogmjcnnanaa.P Go.Proofs.YtbhaogmjcnnanaaW.PrintWords Go.Proofs.YtbhaogmjcnnanaaW.PrintLast Go.Proofs.YtbhaogmjcnnanaaW.PrintMore Go.Proofs.YtbhaogmjcnnanaaE
set_option linter.unusedVariables false
set_option linter.unusedSimpArgs false

/-- A payment, made. -/
def payL (l : List Int) (a b c : Int) : List Int :=
  if rd l (a - 1) ≥ c then (l.set (a - 1).toNat (wrap64 (rd l (a - 1) - c))).set (b - 1).toNat (wrap64 (rd (l.set (a - 1).toNat (wrap64 (rd l (a - 1) - c))) (b - 1) + c)) else l
theorem payL_length (l : List Int) (a b c : Int) : (payL l a b c).length = l.length := by
  unfold payL
  split <;> simp
theorem pay_impl {l : List Int} {a b : Int} (c : Int) (hl : l.length = 3) (ha : 1 ≤ a ∧ a ≤ 3) (hb : 1 ≤ b ∧ b ≤ 3) : impl_pay.f l a b c = some (payL l a b c) := by
  have e1 : wrap64 (a - 1) = a - 1 := wrap64_small (by omega) (by omega)
  have e2 : wrap64 (b - 1) = b - 1 := wrap64_small (by omega) (by omega)
  unfold impl_pay.f payL
  rw [e1, e2, if_pos (by omega), if_pos (by omega)]
  by_cases h : rd l (a - 1) ≥ c
  · rw [if_pos h, if_pos h, Option.bind_some, if_pos (by omega), if_pos (by omega)]
  · rw [if_neg h, if_neg h]
theorem pay_spec {l : List Int} {a b : Int} (c : Int) (hl : l.length = 3) (ha : 1 ≤ a ∧ a ≤ 3) (hb : 1 ≤ b ∧ b ≤ 3) : spec_l2Pay.f l a b c = some (payL l a b c) := by
  have e1 : wrap64 (a - 1) = a - 1 := wrap64_small (by omega) (by omega)
  have e2 : wrap64 (b - 1) = b - 1 := wrap64_small (by omega) (by omega)
  unfold spec_l2Pay.f payL
  simp only [Option.bind_some, List.nil_append, List.length_nil, Nat.zero_add]
  rw [e1, e2, if_pos (by omega), if_pos (by omega), if_pos (by omega)]
  by_cases h : rd l (a - 1) ≥ c
  · rw [if_pos h, if_pos h, if_pos (by omega), if_pos (by omega)]
  · rw [if_neg h, if_neg h]
theorem payOk_iff {a b c : Int} : payOk a b c = true ↔ (1 ≤ a ∧ a ≤ 3) ∧ (1 ≤ b ∧ b ≤ 3) ∧ a ≠ b ∧ (1 ≤ c ∧ c ≤ 9) := by
  unfold payOk
  exact decide_eq_true_iff
theorem bookOk_three {l : List Int} (h : bookOk l = true) : ∃ x y z, l = [x, y, z] ∧ (0 ≤ x ∧ x ≤ 27) ∧ (0 ≤ y ∧ y ≤ 27) ∧ (0 ≤ z ∧ z ≤ 27) ∧ x + y + z = 27 := by
  have hlen : ∀ (n : Nat) (l : List Int) (s : Int), bk n l s = true → n = 3 := by
    intro n l
    induction l with
    | nil => intro s h; simp [bk] at h; exact h.1
    | cons x xs ih => intro s h; simp [bk] at h; exact ih _ h.2
  have h3 := hlen _ _ _ h
  match l, h3, h with
  | [x, y, z], _, h =>
    simp only [bookOk, bk, Bool.and_eq_true, decide_eq_true_iff, beq_iff_eq] at h
    obtain ⟨hx, hy, hz, _, hs⟩ := h
    refine ⟨x, y, z, rfl, hx, hy, hz, ?_⟩
    rw [wrap64_small (n := 0 + x) (by omega) (by omega), wrap64_small (n := 0 + x + y) (by omega) (by omega), wrap64_small (n := 0 + x + y + z) (by omega) (by omega)] at hs
    omega
theorem bookOk_of {x y z : Int} (hx : 0 ≤ x) (hy : 0 ≤ y) (hz : 0 ≤ z) (hs : x + y + z = 27) : bookOk [x, y, z] = true := by
  simp only [bookOk, bk, Bool.and_eq_true, decide_eq_true_iff, beq_iff_eq]
  rw [wrap64_small (n := 0 + x) (by omega) (by omega), wrap64_small (n := 0 + x + y) (by omega) (by omega), wrap64_small (n := 0 + x + y + z) (by omega) (by omega)]
  exact ⟨by omega, by omega, by omega, rfl, by omega⟩
/-- BookPay, as both have it. -/
def bookPay (l : List Int) (a b c : Int) : List Int := if bookOk l = true then (if payOk a b c = true then payL l a b c else []) else []
theorem bookPay_impl (l : List Int) (a b c : Int) (hl : l.length ≤ 1048576) : Evt (fun k => impl_BookPay.f k l a b c) (fun r => r = bookPay l a b c) := by
  simp only [impl_BookPay.f]
  refine Evt.bind (bookOk_impl l (by omega)) fun t ht => ?_
  rw [ht]
  cases hb : bookOk l with
  | false =>
    refine Evt.neg (by decide) (Evt.step (f := fun _ => some []) (fun k => by simp only [impl_BookPay.j0]; rw [if_pos trivial]) (Evt.now _ ?_))
    simp [bookPay, hb]
  | true =>
    refine Evt.pos rfl ?_
    simp only [payOk_impl, Option.bind_some]
    obtain ⟨x, y, z, rfl, _⟩ := bookOk_three hb
    cases hp : payOk a b c with
    | false =>
      refine Evt.step (f := fun _ => some []) (fun k => by simp only [impl_BookPay.j0]; rw [if_pos (by decide)]) (Evt.now _ ?_)
      simp [bookPay, hp]
    | true =>
      obtain ⟨ha, hb', _⟩ := payOk_iff.1 hp
      refine Evt.step (f := fun _ => some (payL [x, y, z] a b c)) (fun k => by
        simp only [impl_BookPay.j0, slices_Clone_int_int.f, slices_Clip_int_int.f]
        rw [if_neg (by decide), if_pos (by simp)]
        simp only [Option.bind_some]
        rw [pay_impl c rfl ha hb']
        rfl) (Evt.now _ ?_)
      simp [bookPay, hb, hp]
theorem bookPay_spec (l : List Int) (a b c : Int) (hl : l.length ≤ 1048576) : Evt (fun k => spec_BookPay.f k l a b c) (fun r => r = bookPay l a b c) := by
  simp only [spec_BookPay.f]
  refine Evt.bind (bookOk_spec l (by omega)) fun t ht => ?_
  rw [ht]
  cases hb : bookOk l with
  | false => exact Evt.neg (by decide) (Evt.now _ (by simp [bookPay, hb]))
  | true =>
    refine Evt.pos rfl ?_
    simp only [payOk_spec, Option.bind_some]
    obtain ⟨x, y, z, rfl, _⟩ := bookOk_three hb
    cases hp : payOk a b c with
    | false => exact Evt.neg (by decide) (Evt.now _ (by simp [bookPay, hp]))
    | true =>
      obtain ⟨ha, hb', _⟩ := payOk_iff.1 hp
      refine Evt.pos rfl ?_
      rw [pay_spec c rfl ha hb']
      exact Evt.now _ (by simp [bookPay, hb, hp])
/-- A payment of two of three, place by place. -/
theorem payL_cases {x y z a b c : Int} (hx : 0 ≤ x ∧ x ≤ 27) (hy : 0 ≤ y ∧ y ≤ 27) (hz : 0 ≤ z ∧ z ≤ 27) (hp : payOk a b c = true) :
    (a = 1 ∧ b = 2 ∧ payL [x, y, z] a b c = if x ≥ c then [x - c, y + c, z] else [x, y, z]) ∨ (a = 1 ∧ b = 3 ∧ payL [x, y, z] a b c = if x ≥ c then [x - c, y, z + c] else [x, y, z]) ∨
    (a = 2 ∧ b = 1 ∧ payL [x, y, z] a b c = if y ≥ c then [x + c, y - c, z] else [x, y, z]) ∨ (a = 2 ∧ b = 3 ∧ payL [x, y, z] a b c = if y ≥ c then [x, y - c, z + c] else [x, y, z]) ∨
    (a = 3 ∧ b = 1 ∧ payL [x, y, z] a b c = if z ≥ c then [x + c, y, z - c] else [x, y, z]) ∨ (a = 3 ∧ b = 2 ∧ payL [x, y, z] a b c = if z ≥ c then [x, y + c, z - c] else [x, y, z]) := by
  obtain ⟨ha, hb, hne, hc⟩ := payOk_iff.1 hp
  have w1 : ∀ t : Int, 0 ≤ t ∧ t ≤ 27 → wrap64 (t - c) = t - c := fun t ht => wrap64_small (by omega) (by omega)
  have w2 : ∀ t : Int, 0 ≤ t ∧ t ≤ 27 → wrap64 (t + c) = t + c := fun t ht => wrap64_small (by omega) (by omega)
  have e : (a = 1 ∧ b = 2) ∨ (a = 1 ∧ b = 3) ∨ (a = 2 ∧ b = 1) ∨ (a = 2 ∧ b = 3) ∨ (a = 3 ∧ b = 1) ∨ (a = 3 ∧ b = 2) := by omega
  rcases e with ⟨rfl, rfl⟩ | ⟨rfl, rfl⟩ | ⟨rfl, rfl⟩ | ⟨rfl, rfl⟩ | ⟨rfl, rfl⟩ | ⟨rfl, rfl⟩ <;> simp [payL, rd, w1 _ hx, w1 _ hy, w1 _ hz, w2 _ hx, w2 _ hy, w2 _ hz]

end Go.Proofs.Ytbhaogmjcnnanaa.Pure
