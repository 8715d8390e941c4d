/- A few words more on rows of the call's own. Conditions: each theorem's own. -/
import Derived.Test.YtbhaogmjcnnanaaUMore
import Derived.Lib.LazyBuf
namespace Go.Proofs.YtbhaogmjcnnanaaW.PrintWords
open Go.RowKit
/-- A row's capacity is no more than the model's greatest length. -/
theorem row_cap {α : Type} {d : Kd α} {e : Nat} {w : World} {base : Nat} {ok : Nat → Prop} {v : Value} {xs : List α} {A : Option Addr} {n c : Nat} (h : d.R e w base ok v xs) (hv : v = .slice A n c) : c ≤ 9223372036854775807 := by
  obtain ⟨_, inner, ho, _⟩ := h
  rcases ho.2 with ⟨rfl, _⟩ | ⟨g, cap, cur, rfl, _, _, _, hcm, _⟩
  · injection hv with _ _ h3
    omega
  · injection hv with _ _ h3
    subst h3
    exact hcm
end Go.Proofs.YtbhaogmjcnnanaaW.PrintWords
