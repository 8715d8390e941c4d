/- Plain facts on what the printed functions compute (drawboth). Conditions: each theorem's own. -/
import Derived.Test.YtpjkkcnceocipaaPx27
import Derived.Test.YtpjkkcnceocipaaFtwo
import Derived.Test.YtpjkkcnceocipaaPlain
namespace Go.Proofs.Ytpjkkcnceocipaa.Pure
open Go.RowKit Go.Proofs.Ytpjkkcnceocipaa.P Go.Proofs.YtpjkkcnceocipaaW.PrintWords Go.Proofs.YtpjkkcnceocipaaW.PrintLast Go.Proofs.YtpjkkcnceocipaaW.PrintMore Go.Proofs.YtpjkkcnceocipaaE
set_option linter.unusedVariables false
set_option linter.unusedSimpArgs false

theorem drawBoth_ends {l : List Int} (hl : ∀ x ∈ l, 0 ≤ x ∧ x ≤ 255) : Evt (fun k => spec_DrawChainBoth.f k l) (fun r => r.1.length ≤ 9 ∧ r.2.length ≤ 9) := by
  simp only [spec_DrawChainBoth.f]
  obtain ⟨l', e, hl'⟩ := open_bytes hl
  rw [e]
  simp only [Option.bind_some]
  exact Evt.bind (two_ends hl' 0 (by omega) (by omega)) fun r hr => Evt.now _ ⟨hr.1, hr.2.1⟩

end Go.Proofs.Ytpjkkcnceocipaa.Pure
