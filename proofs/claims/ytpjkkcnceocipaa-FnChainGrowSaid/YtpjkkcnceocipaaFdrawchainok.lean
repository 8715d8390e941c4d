/- Plain facts on what the printed functions compute (drawchainok). Conditions: each theorem's own. -/
import Derived.Test.YtpjkkcnceocipaaPx15
import Derived.Test.YtpjkkcnceocipaaFdraws
import Derived.Test.YtpjkkcnceocipaaPlain
namespace Go.Proofs.Ytpjkkcnceocipaa.Pure
open Go.RowKit Go.Proofs.Ytpjkkcnceocipaa.P Go.Proofs.YtpjkkcnceocipaaW.PrintWords Go.Proofs.YtpjkkcnceocipaaW.PrintLast Go.Proofs.YtpjkkcnceocipaaW.PrintMore Go.Proofs.YtpjkkcnceocipaaE
set_option linter.unusedVariables false
set_option linter.unusedSimpArgs false

theorem drawChainOk_ends {l : List Int} (hl : ∀ x ∈ l, 0 ≤ x ∧ x ≤ 255) : Evt (fun k => spec_DrawChainOk.f k l) (fun r => r.length ≤ 8) := by
  simp only [spec_DrawChainOk.f]
  obtain ⟨l', e, hl'⟩ := open_bytes hl
  rw [e]
  simp only [Option.bind_some]
  refine Evt.bind (off_ends hl' 0 (by omega) (by omega)) fun c hc => ?_
  obtain ⟨c1, c2⟩ := c
  simp only at hc ⊢
  refine Evt.bind (pick_ends hl' c2 4 (by omega) (by omega)) fun a ha => ?_
  refine Evt.ite (fun _ => ?_) fun _ => Evt.now _ (by show c1.length ≤ 8; omega)
  refine Evt.bind (pick_ends hl' a.2 9 (by omega) (by omega)) fun b hb => ?_
  refine Evt.bind (anyPay_ends hl' b.2 (by omega) (by omega)) fun y hy => ?_
  exact Evt.pos (by omega) (Evt.now _ (by simp; omega))

end Go.Proofs.Ytpjkkcnceocipaa.Pure
