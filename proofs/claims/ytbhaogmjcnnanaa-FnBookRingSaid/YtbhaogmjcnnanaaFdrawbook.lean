/- Plain facts on what the printed functions compute (drawbook). Conditions: each theorem's own. -/
import Derived.Test.YtbhaogmjcnnanaaPx17
import Derived.Test.YtbhaogmjcnnanaaFdraws
import Derived.Test.YtbhaogmjcnnanaaFbookof
import Derived.Test.YtbhaogmjcnnanaaPlain
namespace Go.Proofs.Ytbhaogmjcnnanaa.Pure
open Go.RowKit Go.Proofs.Ytbhaogmjcnnanaa.P Go.Proofs.YtbhaogmjcnnanaaW.PrintWords Go.Proofs.YtbhaogmjcnnanaaW.PrintLast Go.Proofs.YtbhaogmjcnnanaaW.PrintMore Go.Proofs.YtbhaogmjcnnanaaE
set_option linter.unusedVariables false
set_option linter.unusedSimpArgs false

theorem book_ends {l : List Int} (hl : ∀ x ∈ l, 0 ≤ x ∧ x ≤ 255) (p : Int) (h0 : 0 ≤ p) (h1 : p ≤ 999990000) :
    Evt (fun k => spec_l71Book.f k l p) (fun r => 2 ≤ r.1.length ∧ r.1.length ≤ 3 ∧ p ≤ r.2 ∧ r.2 ≤ p + 50) := by
  simp only [spec_l71Book.f]
  refine Evt.bind (chain_ends hl p h0 (by omega)) fun c hc => ?_
  obtain ⟨c1, c2⟩ := c
  obtain ⟨hok, hcl, hc1, hc2⟩ := hc
  simp only at hok hcl hc1 hc2 ⊢
  refine Evt.bind (bookOf_spec c1 (by omega)) fun b hb => ?_
  have hb3 : b.length = 3 := by
    rw [hb, bookOf, if_pos hok, payAll_length]
    rfl
  clear hb
  refine Evt.bind (pick_ends hl c2 16 (by omega) (by omega)) fun a ha => ?_
  refine Evt.ite (fun _ => ?_) fun _ => Evt.ite (fun _ => ?_) fun _ => Evt.now _ ⟨by simp; omega, by simp; omega, by simp; omega, by simp; omega⟩
  · refine Evt.bind (pick_ends hl a.2 3 (by omega) (by omega)) fun d hd => ?_
    refine Evt.bind (pick_ends hl d.2 40 (by omega) (by omega)) fun e he => ?_
    have := hd.2.2 (by omega)
    exact Evt.pos hd.2.1 (Evt.pos (by omega) (Evt.now _ ⟨by simp; omega, by simp; omega, by simp; omega, by simp; omega⟩))
  · exact Evt.pos (by omega) (Evt.now _ ⟨by simp; omega, by simp; omega, by simp; omega, by simp; omega⟩)

end Go.Proofs.Ytbhaogmjcnnanaa.Pure
