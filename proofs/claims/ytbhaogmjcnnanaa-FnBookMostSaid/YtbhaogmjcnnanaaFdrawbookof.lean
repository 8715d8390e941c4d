/- Plain facts on what the printed functions compute (drawbookof). Conditions: each theorem's own. -/
import Derived.Test.YtbhaogmjcnnanaaPx37
import Derived.Test.YtbhaogmjcnnanaaFdraws
import Derived.Test.YtbhaogmjcnnanaaPlain
namespace Go.Proofs.Ytbhaogmjcnnanaa.Pure
open Go.RowKit Go.Proofs.Ytbhaogmjcnnanaa.P Go.Proofs.YtbhaogmjcnnanaaW.PrintWords Go.Proofs.YtbhaogmjcnnanaaW.PrintLast Go.Proofs.YtbhaogmjcnnanaaW.PrintMore Go.Proofs.YtbhaogmjcnnanaaE
set_option linter.unusedVariables false
set_option linter.unusedSimpArgs false

theorem drawBookOf_ends {l : List Int} (hl : ∀ x ∈ l, 0 ≤ x ∧ x ≤ 255) : Evt (fun k => spec_DrawBookOf.f k l) (fun r => r.length ≤ 7) := by
  simp only [spec_DrawBookOf.f]
  obtain ⟨l', e, hl'⟩ := open_bytes hl
  rw [e]
  simp only [Option.bind_some]
  exact Evt.bind (off_ends hl' 0 (by omega) (by omega)) fun r hr => Evt.now _ hr.1

end Go.Proofs.Ytbhaogmjcnnanaa.Pure
