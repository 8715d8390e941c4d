/- Plain facts on what the printed functions compute (pay). Conditions: each theorem's own. -/
import Derived.Test.YthjpkfcejdddkaaDoorPx10
import Derived.Test.YthjpkfcejdddkaaDoorPx11
import Derived.Test.YthjpkfcejdddkaaDoorFpick
import Derived.Test.YthjpkfcejdddkaaDoorPlain
namespace Go.Proofs.YthjpkfcejdddkaaDoor.Pure
open Go.RowKit Go.Proofs.YthjpkfcejdddkaaDoor.P Go.Proofs.YthjpkfcejdddkaaDoorW.PrintWords Go.Proofs.YthjpkfcejdddkaaDoorW.PrintLast Go.Proofs.YthjpkfcejdddkaaDoorW.PrintMore Go.Proofs.YthjpkfcejdddkaaDoorE
set_option linter.unusedVariables false
set_option linter.unusedSimpArgs false

theorem pay_ends {l : List Int} (hl : ∀ x ∈ l, 0 ≤ x ∧ x ≤ 255) (p : Int) (h0 : 0 ≤ p) (h1 : p ≤ 999999990) :
    Evt (fun k => spec_l71Pay.f k l p) (fun r => r.2.2.2 = p + 3 ∧ (1 ≤ r.1 ∧ r.1 ≤ 3) ∧ (1 ≤ r.2.1 ∧ r.2.1 ≤ 3) ∧ r.1 ≠ r.2.1 ∧ (1 ≤ r.2.2.1 ∧ r.2.2.1 ≤ 9)) := by
  simp only [spec_l71Pay.f]
  refine Evt.bind (pick_ends hl p 3 h0 (by omega)) (fun a ha => ?_)
  refine Evt.bind (pick_ends hl a.2 2 (by omega) (by omega)) (fun b hb => ?_)
  refine Evt.bind (pick_ends hl b.2 9 (by omega) (by omega)) (fun c hc => ?_)
  obtain ⟨a1, a2⟩ := a
  obtain ⟨b1, b2⟩ := b
  obtain ⟨c1, c2⟩ := c
  simp only at ha hb hc ⊢
  have e1 : wrap64 (1 + a1) = 1 + a1 := by unfold wrap64; omega
  have e2 : wrap64 (1 + a1 + b1) = 1 + a1 + b1 := by unfold wrap64; omega
  have e3 : wrap64 (1 + c1) = 1 + c1 := by unfold wrap64; omega
  have e4 : Int.tmod (1 + a1 + b1) 3 = (1 + a1 + b1) % 3 := Int.tmod_eq_emod_of_nonneg (by omega)
  have e5 : wrap64 ((1 + a1 + b1) % 3 + 1) = (1 + a1 + b1) % 3 + 1 := by unfold wrap64; omega
  rw [e1, e2, e3, e4, e5]
  refine Evt.now _ ?_
  simp only
  omega
theorem anyPay_ends {l : List Int} (hl : ∀ x ∈ l, 0 ≤ x ∧ x ≤ 255) (p : Int) (h0 : 0 ≤ p) (h1 : p ≤ 999999980) :
    Evt (fun k => spec_l71AnyPay.f k l p) (fun r => p ≤ r.2.2.2 ∧ r.2.2.2 ≤ p + 5) := by
  simp only [spec_l71AnyPay.f]
  refine Evt.bind (pay_ends hl p h0 (by omega)) (fun a ha => ?_)
  refine Evt.bind (pick_ends hl a.2.2.2 12 (by omega) (by omega)) (fun b hb => ?_)
  refine Evt.ite (fun _ => Evt.now _ (by simp only; omega)) (fun _ => ?_)
  refine Evt.ite (fun _ => ?_) (fun _ => ?_)
  · simp only [Option.bind_some]
    refine Evt.bind (pick_ends hl b.2 2 (by omega) (by omega)) (fun c hc => ?_)
    refine Evt.pos hc.2.1 (Evt.pos (by have := hc.2.2 (by omega); simp; omega) (Evt.now _ (by simp only; omega)))
  · refine Evt.ite (fun _ => ?_) (fun _ => Evt.now _ (by simp only; omega))
    simp only [Option.bind_some]
    refine Evt.bind (pick_ends hl b.2 2 (by omega) (by omega)) (fun c hc => ?_)
    refine Evt.pos hc.2.1 (Evt.pos (by have := hc.2.2 (by omega); simp; omega) (Evt.now _ (by simp only; omega)))

end Go.Proofs.YthjpkfcejdddkaaDoor.Pure
