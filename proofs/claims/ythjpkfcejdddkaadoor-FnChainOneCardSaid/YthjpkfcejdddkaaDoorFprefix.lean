/- Plain facts on what the printed functions compute (prefix). Conditions: each theorem's own. -/
import Derived.Test.YthjpkfcejdddkaaDoorPx0
import Derived.Test.YthjpkfcejdddkaaDoorFchain
import Derived.Test.YthjpkfcejdddkaaDoorPlain
namespace Go.Proofs.YthjpkfcejdddkaaDoor.Pure
open Go.RowKit Go.Proofs.YthjpkfcejdddkaaDoor.P Go.Proofs.YthjpkfcejdddkaaDoorW.PrintWords Go.Proofs.YthjpkfcejdddkaaDoorW.PrintLast Go.Proofs.YthjpkfcejdddkaaDoorW.PrintMore Go.Proofs.YthjpkfcejdddkaaDoorE
set_option linter.unusedVariables false
set_option linter.unusedSimpArgs false

theorem pre_iff (a b : List It) : a <+: b ↔ a.length ≤ b.length ∧ a.take a.length = b.take a.length := by
  rw [List.take_of_length_le (Nat.le_refl _)]
  constructor
  · intro h
    exact ⟨h.length_le, List.prefix_iff_eq_take.1 h⟩
  · rintro ⟨_, h⟩
    exact List.prefix_iff_eq_take.2 h

end Go.Proofs.YthjpkfcejdddkaaDoor.Pure
