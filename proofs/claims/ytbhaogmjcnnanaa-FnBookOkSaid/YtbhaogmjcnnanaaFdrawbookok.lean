/- Plain facts on what the printed functions compute (drawbookok). Conditions: each theorem's own. -/
import Derived.Test.YtbhaogmjcnnanaaPx18
import Derived.Test.YtbhaogmjcnnanaaFdrawbook
import Derived.Test.YtbhaogmjcnnanaaPlain
namespace Go.Proofs.Ytbhaogmjcnnanaa.Pure
open Go.RowKit Go.Proofs.Ytbhaogmjcnnanaa.P Go.Proofs.YtbhaogmjcnnanaaW.PrintWords Go.Proofs.YtbhaogmjcnnanaaW.PrintLast Go.Proofs.YtbhaogmjcnnanaaW.PrintMore Go.Proofs.YtbhaogmjcnnanaaE
set_option linter.unusedVariables false
set_option linter.unusedSimpArgs false

theorem drawBookOk_ends {l : List Int} (hl : ∀ x ∈ l, 0 ≤ x ∧ x ≤ 255) : Evt (fun k => spec_DrawBookOk.f k l) (fun r => r.length ≤ 3) := by
  simp only [spec_DrawBookOk.f]
  obtain ⟨l', e, hl'⟩ := open_bytes hl
  rw [e]
  simp only [Option.bind_some]
  refine Evt.bind (book_ends hl' 0 (by omega) (by omega)) fun b hb => ?_
  obtain ⟨b1, b2⟩ := b
  simp only at hb ⊢
  refine Evt.bind (pick_ends hl' b2 4 (by omega) (by omega)) fun a ha => ?_
  refine Evt.ite (fun _ => ?_) fun _ => Evt.now _ hb.2.1
  refine Evt.bind (pick_ends hl' a.2 (b1.length : Int) (by omega) (by omega)) fun c hc => ?_
  refine Evt.bind (pick_ends hl' c.2 40 (by omega) (by omega)) fun d hd => ?_
  have := hc.2.2 (by omega)
  exact Evt.pos hc.2.1 (Evt.pos this (Evt.now _ (by simp; omega)))

end Go.Proofs.Ytbhaogmjcnnanaa.Pure
