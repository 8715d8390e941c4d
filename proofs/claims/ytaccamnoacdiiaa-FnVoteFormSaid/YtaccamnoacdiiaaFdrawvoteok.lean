/- Plain facts on what the printed functions compute (drawvoteok). Conditions: each theorem's own. -/
import Derived.Test.YtaccamnoacdiiaaPx9
import Derived.Test.YtaccamnoacdiiaaFdrawvote
import Derived.Test.YtaccamnoacdiiaaPlain
namespace Go.Proofs.Ytaccamnoacdiiaa.Pure
open Go.RowKit Go.Proofs.Ytaccamnoacdiiaa.P Go.Proofs.YtaccamnoacdiiaaW.PrintWords Go.Proofs.YtaccamnoacdiiaaW.PrintLast Go.Proofs.YtaccamnoacdiiaaW.PrintMore Go.Proofs.YtaccamnoacdiiaaE
set_option linter.unusedVariables false
set_option linter.unusedSimpArgs false

theorem drawVoteOk_ends {l : List Int} (hl : ∀ x ∈ l, 0 ≤ x ∧ x ≤ 255) : Evt (fun k => spec_DrawVoteOk.f k l) (fun r => r.2.length ≤ 7) := by
  simp only [spec_DrawVoteOk.f]
  obtain ⟨l', e, hl'⟩ := open_bytes hl
  rw [e]
  simp only [Option.bind_some]
  exact Evt.bind (vote_ends hl' 0 (by omega) (by omega)) fun r hr => Evt.now _ hr.1

end Go.Proofs.Ytaccamnoacdiiaa.Pure
