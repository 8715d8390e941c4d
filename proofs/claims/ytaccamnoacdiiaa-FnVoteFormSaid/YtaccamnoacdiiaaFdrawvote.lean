/- Plain facts on what the printed functions compute (drawvote). Conditions: each theorem's own. -/
import Derived.Test.YtaccamnoacdiiaaPx8
import Derived.Test.YtaccamnoacdiiaaFdraws
import Derived.Test.YtaccamnoacdiiaaPlain
namespace Go.Proofs.Ytaccamnoacdiiaa.Pure
open Go.RowKit Go.Proofs.Ytaccamnoacdiiaa.P Go.Proofs.YtaccamnoacdiiaaW.PrintWords Go.Proofs.YtaccamnoacdiiaaW.PrintLast Go.Proofs.YtaccamnoacdiiaaW.PrintMore Go.Proofs.YtaccamnoacdiiaaE
set_option linter.unusedVariables false
set_option linter.unusedSimpArgs false

theorem vote_ends {l : List Int} (hl : ∀ x ∈ l, 0 ≤ x ∧ x ≤ 255) (p : Int) (h0 : 0 ≤ p) (h1 : p ≤ 999990000) :
    Evt (fun k => spec_l71Vote.f k l p) (fun r => r.2.1.length ≤ 7 ∧ p ≤ r.2.2 ∧ r.2.2 ≤ p + 100) := by
  have last : ∀ (q n : Int) (c : List It), p ≤ q → q ≤ p + 80 → c.length ≤ 7 → Evt (fun k => spec_l71Vote.j1 k l q n c) (fun r => r.2.1.length ≤ 7 ∧ p ≤ r.2.2 ∧ r.2.2 ≤ p + 100) := by
    intro q n c hq1 hq2 hc
    refine Evt.step (fun k => by simp only [spec_l71Vote.j1]; rfl) ?_
    refine Evt.bind (pick_ends hl q 16 (by omega) (by omega)) fun a ha => ?_
    refine Evt.ite (fun _ => ?_) fun _ => Evt.now _ ⟨hc, by show p ≤ a.2; omega, by show a.2 ≤ p + 100; omega⟩
    refine Evt.bind (P := fun r => r = [0, 5]) (Evt.now _ rfl) fun y hy => ?_
    refine Evt.bind (pick_ends hl a.2 2 (by omega) (by omega)) fun b hb => ?_
    have := hb.2.2 (by omega)
    exact Evt.pos hb.2.1 (Evt.pos (by rw [hy]; simp; omega) (Evt.now _ ⟨hc, by show p ≤ b.2; omega, by show b.2 ≤ p + 100; omega⟩))
  simp only [spec_l71Vote.f]
  refine Evt.bind (pick_ends hl p 4 h0 (by omega)) fun a ha => ?_
  refine Evt.bind (off_ends hl a.2 (by omega) (by omega)) fun c hc => ?_
  obtain ⟨c1, c2⟩ := c
  simp only at hc ⊢
  have skip : ∀ (q : Int), p ≤ q → q ≤ p + 75 → Evt (fun k => spec_l71Vote.j0 k false l q (wrap64 (1 + a.1)) c1) (fun r => r.2.1.length ≤ 7 ∧ p ≤ r.2.2 ∧ r.2.2 ≤ p + 100) := by
    intro q h1 h2
    exact Evt.step (fun k => by simp only [spec_l71Vote.j0]; rw [if_neg (by decide)]) (last q _ c1 h1 (by omega) hc.1)
  refine Evt.ite (fun _ => ?_) fun _ => skip c2 (by omega) (by omega)
  refine Evt.bind (pick_ends hl c2 4 (by omega) (by omega)) fun b hb => ?_
  by_cases hpos : b.1 > 0
  · rw [decide_eq_true hpos]
    refine Evt.step (fun k => by simp only [spec_l71Vote.j0]; rw [if_pos trivial]) ?_
    refine Evt.bind (pick_ends hl b.2 3 (by omega) (by omega)) fun d hd => ?_
    refine Evt.bind (pay_ends hl d.2 (by omega) (by omega)) fun y hy => ?_
    exact last _ _ _ (by omega) (by omega) (by simp)
  · rw [decide_eq_false hpos]
    exact skip b.2 (by omega) (by omega)

end Go.Proofs.Ytaccamnoacdiiaa.Pure
