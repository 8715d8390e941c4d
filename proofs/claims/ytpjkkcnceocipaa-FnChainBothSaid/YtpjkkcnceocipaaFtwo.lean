/- Plain facts on what the printed functions compute (two). Conditions: each theorem's own. -/
import Derived.Test.YtpjkkcnceocipaaPx23
import Derived.Test.YtpjkkcnceocipaaFdraws
import Derived.Test.YtpjkkcnceocipaaPlain
namespace Go.Proofs.Ytpjkkcnceocipaa.Pure
open Go.RowKit Go.Proofs.Ytpjkkcnceocipaa.P Go.Proofs.YtpjkkcnceocipaaW.PrintWords Go.Proofs.YtpjkkcnceocipaaW.PrintLast Go.Proofs.YtpjkkcnceocipaaW.PrintMore Go.Proofs.YtpjkkcnceocipaaE
set_option linter.unusedVariables false
set_option linter.unusedSimpArgs false

theorem two_ends {l : List Int} (hl : ∀ x ∈ l, 0 ≤ x ∧ x ≤ 255) (p : Int) (h0 : 0 ≤ p) (h1 : p ≤ 999990000) :
    Evt (fun k => spec_l71Two.f k l p) (fun r => r.1.length ≤ 9 ∧ r.2.1.length ≤ 9 ∧ p ≤ r.2.2 ∧ r.2.2 ≤ p + 200) := by
  simp only [spec_l71Two.f]
  refine Evt.bind (off_ends hl p h0 (by omega)) fun a ha => ?_
  obtain ⟨a, a2⟩ := a
  simp only at ha ⊢
  refine Evt.bind (off_ends hl a2 (by omega) (by omega)) fun b hb => ?_
  obtain ⟨b, b2⟩ := b
  simp only at hb ⊢
  refine Evt.bind (pick_ends hl b2 4 (by omega) (by omega)) fun c hc => ?_
  have key : ∀ (d : Nat) (x : List It) (q : Int), d + x.length ≤ 9 → p ≤ q → q + 20 * (d : Int) ≤ p + 190 → Evt (fun k => spec_l71Two.l0 k a x (d : Int) l q) (fun r => r.1.length ≤ 9 ∧ r.2.1.length ≤ 9 ∧ p ≤ r.2.2 ∧ r.2.2 ≤ p + 200) := by
    intro d
    induction d with
    | zero =>
      intro x q hd hq1 hq2
      refine Evt.step (fun k => by simp only [spec_l71Two.l0]; rw [if_neg (by decide)]) ?_
      refine Evt.bind (pick_ends hl q 2 (by omega) (by omega)) fun e he => ?_
      exact Evt.ite (fun _ => Evt.now _ ⟨by show x.length ≤ 9; omega, by show a.length ≤ 9; omega, by show p ≤ e.2; omega, by show e.2 ≤ p + 200; omega⟩) fun _ => Evt.now _ ⟨by show a.length ≤ 9; omega, by show x.length ≤ 9; omega, by show p ≤ e.2; omega, by show e.2 ≤ p + 200; omega⟩
    | succ d ih =>
      intro x q hd hq1 hq2
      have w : wrap64 (((d + 1 : Nat) : Int) - 1) = (d : Int) := by unfold wrap64; omega
      refine Evt.step (fun k => by simp only [spec_l71Two.l0, w]; rw [if_pos (by omega)]) ?_
      refine Evt.ite (fun hx => ?_) fun _ => ?_
      · have w1 : wrap64 ((x.length : Int) - 1) = (x.length : Int) - 1 := wrap64_small (by omega) (by omega)
        rw [w1]
        refine Evt.pos (by omega) (Evt.pos (by omega) ?_)
        refine Evt.bind (pick_ends hl q 2 (by omega) (by omega)) fun e he => ?_
        refine Evt.bind (pay_ends hl e.2 (by omega) (by omega)) fun y hy => ?_
        exact Evt.pos (by omega) (ih _ _ (by simp; omega) (by omega) (by omega))
      · refine Evt.bind (pick_ends hl q 2 (by omega) (by omega)) fun e he => ?_
        refine Evt.bind (pay_ends hl e.2 (by omega) (by omega)) fun y hy => ?_
        exact Evt.pos (by omega) (ih _ _ (by simp; omega) (by omega) (by omega))
  refine Evt.ite (fun _ => ?_) fun _ => ?_
  · refine Evt.bind (P := fun r => r = []) (Evt.now [] rfl) fun y0 hy0 => ?_
    have w1 : wrap64 ((a.length : Int) + 1) = (a.length : Int) + 1 := wrap64_small (by omega) (by omega)
    rw [w1]
    refine Evt.bind (pick_ends hl c.2 ((a.length : Int) + 1) (by omega) (by omega)) fun e he => ?_
    have he' := he.2.2 (by omega)
    refine Evt.pos he.2.1 (Evt.pos (by omega) ?_)
    refine Evt.bind (P := fun r => r = a.take e.1.toNat) (Evt.now _ rfl) fun x hx => ?_
    have hx7 : (y0 ++ x).length ≤ 7 := by rw [hy0, hx, List.nil_append, List.length_take]; omega
    have hx8 : y0.length + x.length ≤ 7 := by rw [← List.length_append]; exact hx7
    refine Evt.pos (by omega) ?_
    refine Evt.bind (pick_ends hl e.2 3 (by omega) (by omega)) fun f hf => ?_
    obtain ⟨f1, f2⟩ := f
    simp only at hf ⊢
    have hf' := hf.2.2 (by omega)
    obtain ⟨d, rfl⟩ := Int.eq_ofNat_of_zero_le hf.2.1
    exact key d (y0 ++ x) f2 (by omega) (by omega) (by omega)
  · refine Evt.bind (pick_ends hl c.2 2 (by omega) (by omega)) fun e he => ?_
    exact Evt.ite (fun _ => Evt.now _ ⟨by show b.length ≤ 9; omega, by show a.length ≤ 9; omega, by show p ≤ e.2; omega, by show e.2 ≤ p + 200; omega⟩) fun _ => Evt.now _ ⟨by show a.length ≤ 9; omega, by show b.length ≤ 9; omega, by show p ≤ e.2; omega, by show e.2 ≤ p + 200; omega⟩

end Go.Proofs.Ytpjkkcnceocipaa.Pure
