/- What ends, from some number of rounds on, with an answer of which a thing is known: plain words, no program in sight. -/
import Derived.Test.YtknmmkgaijndfaaUMore
namespace Go.Proofs.YtknmmkgaijndfaaE
/-- From some number of rounds on g answers, always the same, and P holds of the answer. -/
def Evt {α : Type} (g : Nat → Option α) (P : α → Prop) : Prop := ∃ K r, (∀ k, K ≤ k → g k = some r) ∧ P r
theorem Evt.now {α : Type} {P : α → Prop} (r : α) (h : P r) : Evt (fun _ => some r) P := ⟨0, r, fun _ _ => rfl, h⟩
theorem Evt.mono {α : Type} {g : Nat → Option α} {P Q : α → Prop} (h : Evt g P) (k : ∀ r, P r → Q r) : Evt g Q := by
  obtain ⟨K, r, h1, h2⟩ := h
  exact ⟨K, r, h1, k r h2⟩
theorem Evt.bind {α β : Type} {g : Nat → Option α} {f : Nat → α → Option β} {P : α → Prop} {Q : β → Prop} (h : Evt g P) (k : ∀ a, P a → Evt (fun n => f n a) Q) : Evt (fun n => (g n).bind (f n)) Q := by
  obtain ⟨K, a, h1, h2⟩ := h
  obtain ⟨K', r, k1, k2⟩ := k a h2
  refine ⟨max K K', r, fun n hn => ?_, k2⟩
  show (g n).bind (f n) = some r
  rw [h1 n (by omega)]
  exact k1 n (by omega)
theorem Evt.step {α : Type} {g f : Nat → Option α} {Q : α → Prop} (h : ∀ k, g (k + 1) = f k) (k : Evt f Q) : Evt g Q := by
  obtain ⟨K, r, k1, k2⟩ := k
  refine ⟨K + 1, r, fun n hn => ?_, k2⟩
  obtain ⟨m, rfl⟩ : ∃ m, n = m + 1 := ⟨n - 1, by omega⟩
  rw [h]
  exact k1 m (by omega)
theorem Evt.congr {α : Type} {g f : Nat → Option α} {Q : α → Prop} (h : ∀ k, g k = f k) (k : Evt f Q) : Evt g Q := by
  obtain ⟨K, r, k1, k2⟩ := k
  exact ⟨K, r, fun n hn => (h n).trans (k1 n hn), k2⟩
theorem Evt.pos {α : Type} {c : Prop} [Decidable c] {g f : Nat → Option α} {Q : α → Prop} (hc : c) (h : Evt g Q) : Evt (fun n => if c then g n else f n) Q :=
  Evt.congr (fun _ => if_pos hc) h
theorem Evt.neg {α : Type} {c : Prop} [Decidable c] {g f : Nat → Option α} {Q : α → Prop} (hc : ¬ c) (h : Evt f Q) : Evt (fun n => if c then g n else f n) Q :=
  Evt.congr (fun _ => if_neg hc) h
theorem Evt.ite {α : Type} {c : Prop} [Decidable c] {g f : Nat → Option α} {Q : α → Prop} (h1 : c → Evt g Q) (h2 : ¬ c → Evt f Q) : Evt (fun n => if c then g n else f n) Q := by
  by_cases hc : c
  · exact Evt.pos hc (h1 hc)
  · exact Evt.neg hc (h2 hc)
theorem Evt.get {α : Type} {g : Nat → Option α} {r : α} (h : Evt g (fun x => x = r)) : ∃ k, g k = some r := by
  obtain ⟨K, x, h1, rfl⟩ := h
  exact ⟨K, h1 K (Nat.le_refl _)⟩
/-- The answer, known outright. -/
theorem Evt.eq {α : Type} {g : Nat → Option α} {r : α} {Q : α → Prop} (h : Evt g (fun x => x = r)) (hq : Q r) : Evt g Q := h.mono fun _ e => e ▸ hq
end Go.Proofs.YtknmmkgaijndfaaE
