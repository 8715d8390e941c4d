/- Plain facts on what the printed functions compute (drawtext). Conditions: each theorem's own. -/
import Derived.Test.YthjpkfcejdddkaaDoorPx2
import Derived.Test.YthjpkfcejdddkaaDoorFdraws
import Derived.Test.YthjpkfcejdddkaaDoorPlain
namespace Go.Proofs.YthjpkfcejdddkaaDoor.Pure
open Go.RowKit Go.Proofs.YthjpkfcejdddkaaDoor.P Go.Proofs.YthjpkfcejdddkaaDoorW.PrintWords Go.Proofs.YthjpkfcejdddkaaDoorW.PrintLast Go.Proofs.YthjpkfcejdddkaaDoorW.PrintMore Go.Proofs.YthjpkfcejdddkaaDoorE
set_option linter.unusedVariables false
set_option linter.unusedSimpArgs false

theorem drawText_ends {l : List Int} (hl : ∀ x ∈ l, 0 ≤ x ∧ x ≤ 255) : Evt (fun k => spec_DrawChainText.f k l) (fun r => r.length ≤ 9) := by
  simp only [spec_DrawChainText.f]
  obtain ⟨l', e, hl'⟩ := open_bytes hl
  rw [e]
  simp only [Option.bind_some]
  exact Evt.bind (off_ends hl' 0 (by omega) (by omega)) fun r hr => Evt.now _ (by have := hr.1; omega)

end Go.Proofs.YthjpkfcejdddkaaDoor.Pure
