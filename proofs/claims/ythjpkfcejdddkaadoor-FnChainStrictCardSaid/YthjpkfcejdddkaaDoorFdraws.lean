/- Plain facts on what the printed functions compute (draws). Conditions: each theorem's own. -/
import Derived.Test.YthjpkfcejdddkaaDoorPx11
import Derived.Test.YthjpkfcejdddkaaDoorFchain
import Derived.Test.YthjpkfcejdddkaaDoorFpay
import Derived.Test.YthjpkfcejdddkaaDoorPlain
namespace Go.Proofs.YthjpkfcejdddkaaDoor.Pure
open Go.RowKit Go.Proofs.YthjpkfcejdddkaaDoor.P Go.Proofs.YthjpkfcejdddkaaDoorW.PrintWords Go.Proofs.YthjpkfcejdddkaaDoorW.PrintLast Go.Proofs.YthjpkfcejdddkaaDoorW.PrintMore Go.Proofs.YthjpkfcejdddkaaDoorE
set_option linter.unusedVariables false
set_option linter.unusedSimpArgs false

/-- The last epoch, from e on. -/
def lastE : Int → List It → Int
  | e, [] => e
  | _, x :: xs => lastE x.f0 xs
theorem okFrom_snoc (c : List It) (x : It) : ∀ e, okFrom e (c ++ [x]) = (okFrom e c && (itemOk x && decide (lastE e c < x.f0))) := by
  induction c with
  | nil => intro e; simp [okFrom, lastE]; rfl
  | cons y ys ih =>
    intro e
    simp only [List.cons_append, okFrom, lastE, ih]
    cases itemOk y <;> cases decide (e < y.f0) <;> first | (simp; done) | (simp; rfl)
theorem lastE_snoc (c : List It) (x : It) : ∀ e, lastE e (c ++ [x]) = x.f0 := by
  induction c with
  | nil => intro e; rfl
  | cons y ys ih => intro e; simp only [List.cons_append, lastE, ih]
theorem chain_ends {l : List Int} (hl : ∀ x ∈ l, 0 ≤ x ∧ x ≤ 255) (p : Int) (h0 : 0 ≤ p) (h1 : p ≤ 999999000) :
    Evt (fun k => spec_l71Chain.f k l p) (fun r => chainOk r.1 = true ∧ r.1.length ≤ 6 ∧ p ≤ r.2 ∧ r.2 ≤ p + 40) := by
  have key : ∀ (d : Nat) (c : List It) (e q : Int), d + c.length ≤ 6 → okFrom 0 c = true → e = lastE 0 c → 0 ≤ e → e ≤ 3 * (c.length : Int) → p ≤ q → q ≤ p + 1 + 5 * (c.length : Int) →
      Evt (fun k => spec_l71Chain.l0 k c e (d : Int) l q) (fun r => chainOk r.1 = true ∧ r.1.length ≤ 6 ∧ p ≤ r.2 ∧ r.2 ≤ p + 40) := by
    intro d
    induction d with
    | zero =>
      intro c e q hd hc he he0 he3 hq hq2
      refine Evt.step (f := fun _ => some (c, q)) (fun k => by simp only [spec_l71Chain.l0]; rw [if_neg (by decide)]) (Evt.now _ ⟨?_, by show c.length ≤ 6; omega, hq, by show q ≤ p + 40; omega⟩)
      simp [chainOk, hc]
      omega
    | succ d ih =>
      intro c e q hd hc he he0 he3 hq hq2
      refine Evt.step (fun k => by simp only [spec_l71Chain.l0]; rw [if_pos (by omega)]) ?_
      refine Evt.bind (pick_ends hl q 6 (by omega) (by omega)) fun a ha => ?_
      refine Evt.bind (pick_ends hl a.2 3 (by omega) (by omega)) fun b hb => ?_
      refine Evt.bind (pay_ends hl b.2 (by omega) (by omega)) fun y hy => ?_
      obtain ⟨a1, a2⟩ := a
      obtain ⟨b1, b2⟩ := b
      obtain ⟨y1, y2, y3, y4⟩ := y
      simp only at ha hb hy ⊢
      have e5 : Int.tdiv a1 5 = a1 / 5 := Int.tdiv_eq_ediv_of_nonneg (by omega)
      have hab : 0 ≤ a1 / 5 * b1 ∧ a1 / 5 * b1 ≤ 2 := by
        have h5 : a1 / 5 = 0 ∨ a1 / 5 = 1 := by omega
        rcases h5 with h5 | h5 <;> rw [h5] <;> omega
      have w1 : wrap64 (e + 1) = e + 1 := wrap64_small (by omega) (by omega)
      have w2 : wrap64 (a1 / 5) = a1 / 5 := wrap64_small (by omega) (by omega)
      have w3 : wrap64 (a1 / 5 * b1) = a1 / 5 * b1 := wrap64_small (by omega) (by omega)
      rw [e5, w1, w2, w3]
      generalize a1 / 5 * b1 = m at hab ⊢
      have w4 : wrap64 (e + 1 + m) = e + 1 + m := wrap64_small (by omega) (by omega)
      have w5 : wrap64 (((d + 1 : Nat) : Int) - 1) = (d : Int) := by unfold wrap64; omega
      rw [w4, w5]
      refine Evt.pos (by omega) ?_
      refine ih _ _ _ (by simp; omega) ?_ (by rw [lastE_snoc]) (by omega) (by simp; omega) (by omega) (by simp; omega)
      rw [okFrom_snoc, hc, ← he]
      have hp : payOk y1 y2 y3 = true := by unfold payOk; exact decide_eq_true (by omega)
      simp [itemOk, hp]
      omega
  simp only [spec_l71Chain.f]
  refine Evt.bind (pick_ends hl p 7 h0 (by omega)) fun a ha => ?_
  obtain ⟨a1, a2⟩ := a
  simp only at ha ⊢
  obtain ⟨d, rfl⟩ := Int.eq_ofNat_of_zero_le ha.2.1
  have := ha.2.2 (by omega)
  exact key d [] 0 a2 (by simp; omega) rfl rfl (by omega) (by simp) (by omega) (by simp; omega)
theorem off_ends {l : List Int} (hl : ∀ x ∈ l, 0 ≤ x ∧ x ≤ 255) (p : Int) (h0 : 0 ≤ p) (h1 : p ≤ 999998000) :
    Evt (fun k => spec_l71Off.f k l p) (fun r => r.1.length ≤ 7 ∧ p ≤ r.2 ∧ r.2 ≤ p + 60) := by
  simp only [spec_l71Off.f]
  refine Evt.bind (chain_ends hl p h0 (by omega)) fun c hc => ?_
  obtain ⟨c1, c2⟩ := c
  obtain ⟨_, hcl, hc1, hc2⟩ := hc
  simp only at hcl hc1 hc2 ⊢
  refine Evt.bind (pick_ends hl c2 16 (by omega) (by omega)) fun a ha => ?_
  refine Evt.ite (fun _ => ?_) fun _ => Evt.ite (fun _ => ?_) fun _ => Evt.ite (fun _ => ?_) fun _ => Evt.now _ ⟨by show c1.length ≤ 7; omega, by omega, by omega⟩
  · refine Evt.bind (pick_ends hl a.2 4 (by omega) (by omega)) fun b hb => ?_
    refine Evt.bind (anyPay_ends hl b.2 (by omega) (by omega)) fun y hy => ?_
    refine Evt.pos (by omega) (Evt.now _ ⟨by simp; omega, by show p ≤ y.2.2.2; omega, by show y.2.2.2 ≤ p + 60; omega⟩)
  · refine Evt.ite (fun hpos => ?_) fun _ => Evt.now _ ⟨by show c1.length ≤ 7; omega, by omega, by omega⟩
    refine Evt.bind (pick_ends hl a.2 (c1.length : Int) (by omega) (by omega)) fun b hb => ?_
    simp only [Option.bind_some]
    refine Evt.bind (pick_ends hl b.2 3 (by omega) (by omega)) fun d hd => ?_
    have hb2 := hb.2.2 (by omega)
    have hd2 := hd.2.2 (by omega)
    refine Evt.pos hd.2.1 (Evt.pos (by simp; omega) (Evt.pos hb.2.1 (Evt.pos hb2 (Evt.now _ ⟨by simp; omega, by show p ≤ d.2; omega, by show d.2 ≤ p + 60; omega⟩))))
  · refine Evt.ite (fun hpos => ?_) fun _ => Evt.now _ ⟨by show c1.length ≤ 7; omega, by omega, by omega⟩
    refine Evt.bind (pick_ends hl a.2 (c1.length : Int) (by omega) (by omega)) fun b hb => ?_
    refine Evt.bind (anyPay_ends hl b.2 (by omega) (by omega)) fun y hy => ?_
    have hb2 := hb.2.2 (by omega)
    refine Evt.pos hb.2.1 (Evt.pos hb2 (Evt.now _ ⟨by simp; omega, by show p ≤ y.2.2.2; omega, by show y.2.2.2 ≤ p + 60; omega⟩))

end Go.Proofs.YthjpkfcejdddkaaDoor.Pure
