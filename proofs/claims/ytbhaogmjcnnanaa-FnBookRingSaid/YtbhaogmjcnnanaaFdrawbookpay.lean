/- Plain facts on what the printed functions compute (drawbookpay). Conditions: each theorem's own. -/
import Derived.Test.YtbhaogmjcnnanaaPx21
import Derived.Test.YtbhaogmjcnnanaaFdrawbook
import Derived.Test.YtbhaogmjcnnanaaPlain
namespace Go.Proofs.Ytbhaogmjcnnanaa.Pure
open Go.RowKit Go.Proofs.Ytbhaogmjcnnanaa.P Go.Proofs.YtbhaogmjcnnanaaW.PrintWords Go.Proofs.YtbhaogmjcnnanaaW.PrintLast Go.Proofs.YtbhaogmjcnnanaaW.PrintMore Go.Proofs.YtbhaogmjcnnanaaE
set_option linter.unusedVariables false
set_option linter.unusedSimpArgs false

theorem drawBookPay_ends {l : List Int} (hl : ∀ x ∈ l, 0 ≤ x ∧ x ≤ 255) : Evt (fun k => spec_DrawBookPay.f k l) (fun r => r.1.length ≤ 3) := by
  simp only [spec_DrawBookPay.f]
  obtain ⟨l', e, hl'⟩ := open_bytes hl
  rw [e]
  simp only [Option.bind_some]
  refine Evt.bind (book_ends hl' 0 (by omega) (by omega)) fun b hb => ?_
  exact Evt.bind (anyPay_ends hl' b.2 (by omega) (by omega)) fun r _ => Evt.now _ hb.2.1

end Go.Proofs.Ytbhaogmjcnnanaa.Pure
