/- Plain facts on what the printed functions compute (chainin). Conditions: each theorem's own. -/
import Derived.Test.YthjpkfcejdddkaaDoorPx8
import Derived.Test.YthjpkfcejdddkaaDoorPx9
import Derived.Test.YthjpkfcejdddkaaDoorFequal
import Derived.Test.YthjpkfcejdddkaaDoorFprefix
import Derived.Test.YthjpkfcejdddkaaDoorPlain
namespace Go.Proofs.YthjpkfcejdddkaaDoor.Pure
open Go.RowKit Go.Proofs.YthjpkfcejdddkaaDoor.P Go.Proofs.YthjpkfcejdddkaaDoorW.PrintWords Go.Proofs.YthjpkfcejdddkaaDoorW.PrintLast Go.Proofs.YthjpkfcejdddkaaDoorW.PrintMore Go.Proofs.YthjpkfcejdddkaaDoorE
set_option linter.unusedVariables false
set_option linter.unusedSimpArgs false

/-- a and b are chains, and a begins b. -/
def inn (a b : List It) : Bool := chainOk a && (chainOk b && decide (a <+: b))
theorem begins_ends (a b : List It) (hl : a.length ≤ 4611686018427387900) : Evt (fun k => impl_begins.f k a b) (fun r => r = decide (a <+: b)) := by
  by_cases h : (a.length : Int) ≤ (b.length : Int)
  · refine Evt.congr (f := fun k => (impl_Item.f k a (b.take a.length)).bind fun t => some t) (fun k => by unfold impl_begins.f; rw [if_pos h, if_pos (by omega), Int.toNat_natCast]) ?_
    refine Evt.bind (equal_ends a (b.take a.length) hl) fun t ht => Evt.now _ ?_
    rw [ht]
    apply decide_of
    rw [decide_eq_true_iff, pre_iff, List.take_of_length_le (Nat.le_refl _)]
    exact ⟨fun h2 => ⟨by omega, h2⟩, fun h2 => h2.2⟩
  · refine Evt.congr (fun k => by unfold impl_begins.f; rw [if_neg h]) (Evt.now _ ?_)
    apply decide_of
    rw [pre_iff]
    exact ⟨fun h2 => (by cases h2), fun h2 => absurd h2.1 (by omega)⟩
theorem chainIn_impl (a b : List It) (ha : a.length ≤ 4611686018427387900) (hb : b.length ≤ 4611686018427387900) : Evt (fun k => impl_ChainIn.f k a b) (fun r => r = inn a b) := by
  simp only [impl_ChainIn.f]
  refine Evt.bind (chainOk_impl a ha) fun t ht => ?_
  rw [ht]
  cases h1 : chainOk a with
  | false => exact Evt.neg (by decide) (Evt.now _ (by simp [inn, h1]))
  | true =>
    refine Evt.pos rfl (Evt.bind (chainOk_impl b hb) fun t ht => ?_)
    rw [ht]
    cases h2 : chainOk b with
    | false => exact Evt.neg (by decide) (Evt.now _ (by simp [inn, h2]))
    | true => exact Evt.pos rfl (Evt.bind (begins_ends a b ha) fun t ht => Evt.now _ (by rw [ht]; simp [inn, h1, h2]))

end Go.Proofs.YthjpkfcejdddkaaDoor.Pure
