/- Plain facts on what the printed functions compute (chaintake). Conditions: each theorem's own. -/
import Derived.Test.YthjpkfcejdddkaaDoorPx0
import Derived.Test.YthjpkfcejdddkaaDoorFchain
import Derived.Test.YthjpkfcejdddkaaDoorPlain
namespace Go.Proofs.YthjpkfcejdddkaaDoor.Pure
open Go.RowKit Go.Proofs.YthjpkfcejdddkaaDoor.P Go.Proofs.YthjpkfcejdddkaaDoorW.PrintWords Go.Proofs.YthjpkfcejdddkaaDoorW.PrintLast Go.Proofs.YthjpkfcejdddkaaDoorW.PrintMore Go.Proofs.YthjpkfcejdddkaaDoorE
set_option linter.unusedVariables false
set_option linter.unusedSimpArgs false

theorem okFrom_take (n : Nat) {c : List It} : ∀ {e : Int}, okFrom e c = true → okFrom e (c.take n) = true := by
  induction n generalizing c with
  | zero => intro e _; rfl
  | succ n ih =>
    intro e h
    cases c with
    | nil => rfl
    | cons x xs =>
      simp only [okFrom, List.take_succ_cons, Bool.and_eq_true] at h ⊢
      exact ⟨h.1, h.2.1, ih h.2.2⟩
theorem chainOk_take (n : Nat) {c : List It} (h : chainOk c = true) : chainOk (c.take n) = true := by
  simp only [chainOk, Bool.and_eq_true, decide_eq_true_iff] at h ⊢
  exact ⟨okFrom_take n h.1, by rw [List.length_take]; omega⟩

end Go.Proofs.YthjpkfcejdddkaaDoor.Pure
