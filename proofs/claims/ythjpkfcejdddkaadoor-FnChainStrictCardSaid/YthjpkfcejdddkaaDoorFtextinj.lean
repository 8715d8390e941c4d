/- Plain facts on what the printed functions compute (textinj). Conditions: each theorem's own. -/
import Derived.Test.YthjpkfcejdddkaaDoorPx4
import Derived.Test.YthjpkfcejdddkaaDoorFchaintext
import Derived.Test.YthjpkfcejdddkaaDoorFchaintake
import Derived.Test.YthjpkfcejdddkaaDoorPlain
namespace Go.Proofs.YthjpkfcejdddkaaDoor.Pure
open Go.RowKit Go.Proofs.YthjpkfcejdddkaaDoor.P Go.Proofs.YthjpkfcejdddkaaDoorW.PrintWords Go.Proofs.YthjpkfcejdddkaaDoorW.PrintLast Go.Proofs.YthjpkfcejdddkaaDoorW.PrintMore Go.Proofs.YthjpkfcejdddkaaDoorE
set_option linter.unusedVariables false
set_option linter.unusedSimpArgs false

theorem dig_inj {u v : Nat} (hu : u < 10) (hv : v < 10) (h : UInt8.ofNat (48 + u) = UInt8.ofNat (48 + v)) : u = v := by
  have := congrArg UInt8.toNat h
  simp only [UInt8.toNat_ofNat'] at this
  omega
theorem dig_ne {u : Nat} (hu : u < 10) : UInt8.ofNat (48 + u) ≠ 10 := by
  intro h
  have := congrArg UInt8.toNat h
  simp only [UInt8.toNat_ofNat'] at this
  have e : (10 : UInt8).toNat = 10 := rfl
  omega
/-- The line of an item, without its end. -/
def lineOf (x : It) : List UInt8 := Lib.decDigits x.f0.toNat ++ [58, UInt8.ofNat (48 + x.f1.f0.toNat), UInt8.ofNat (48 + x.f1.f1.toNat), UInt8.ofNat (48 + x.f1.f2.toNat)]
theorem itemOk_bounds {x : It} (h : itemOk x = true) : (1 ≤ x.f0 ∧ x.f0 ≤ 30) ∧ (1 ≤ x.f1.f0 ∧ x.f1.f0 ≤ 3) ∧ (1 ≤ x.f1.f1 ∧ x.f1.f1 ≤ 3) ∧ (1 ≤ x.f1.f2 ∧ x.f1.f2 ≤ 9) := by
  simp only [itemOk, payOk, Bool.and_eq_true, decide_eq_true_eq] at h
  exact ⟨h.1, h.2.1, h.2.2.1, h.2.2.2.2⟩
theorem item_line {x : It} (h : itemOk x = true) : (impl_ChainText.item x).data.toList = lineOf x ++ [10] := by
  obtain ⟨h0, h1, h2, h3⟩ := itemOk_bounds h
  simp only [impl_ChainText.item, ByteArray.data_append, Array.toList_append, impl_ChainText.dec, lineOf]
  rw [decLow (u := x.f1.f0.toNat) (by omega), decLow (u := x.f1.f1.toNat) (by omega), decLow (u := x.f1.f2.toNat) (by omega)]
  simp
theorem dec_mem {n : Nat} (h : n < 100) : ∀ b ∈ Lib.decDigits n, ∃ u, u < 10 ∧ b = UInt8.ofNat (48 + u) := by
  intro b hb
  by_cases h1 : n < 10
  · rw [decLow h1] at hb
    simp only [List.mem_cons, List.not_mem_nil, or_false] at hb
    exact ⟨n, h1, hb⟩
  · rw [decTwo (by omega) h] at hb
    simp only [List.mem_cons, List.not_mem_nil, or_false] at hb
    rcases hb with hb | hb
    · exact ⟨n / 10, by omega, hb⟩
    · exact ⟨n % 10, by omega, hb⟩
theorem line_mem {x : It} (h : itemOk x = true) : ∀ b ∈ lineOf x, b = 58 ∨ ∃ u, u < 10 ∧ b = UInt8.ofNat (48 + u) := by
  obtain ⟨h0, h1, h2, h3⟩ := itemOk_bounds h
  intro b hb
  simp only [lineOf, List.mem_append, List.mem_cons, List.not_mem_nil, or_false] at hb
  rcases hb with hb | hb | hb | hb | hb
  · exact .inr (dec_mem (by omega) b hb)
  · exact .inl hb
  · exact .inr ⟨_, by omega, hb⟩
  · exact .inr ⟨_, by omega, hb⟩
  · exact .inr ⟨_, by omega, hb⟩
theorem line_ten {x : It} (h : itemOk x = true) : (10 : UInt8) ∉ lineOf x := by
  intro hm
  rcases line_mem h _ hm with h1 | ⟨u, hu, h1⟩
  · exact absurd h1 (by decide)
  · exact dig_ne hu h1.symm
theorem dec_inj {a b : Nat} (ha : a < 100) (hb : b < 100) (h : Lib.decDigits a = Lib.decDigits b) : a = b := by
  by_cases h1 : a < 10
  · by_cases h2 : b < 10
    · rw [decLow h1, decLow h2] at h
      simp only [List.cons.injEq, and_true] at h
      exact dig_inj h1 h2 h
    · rw [decLow h1, decTwo (by omega) hb] at h
      simp at h
  · by_cases h2 : b < 10
    · rw [decTwo (by omega) ha, decLow h2] at h
      simp at h
    · rw [decTwo (by omega) ha, decTwo (by omega) hb] at h
      simp only [List.cons.injEq, and_true] at h
      have e1 := dig_inj (u := a / 10) (v := b / 10) (by omega) (by omega) h.1
      have e2 := dig_inj (u := a % 10) (v := b % 10) (by omega) (by omega) h.2
      omega
theorem line_inj {x y : It} (hx : itemOk x = true) (hy : itemOk y = true) (h : lineOf x = lineOf y) : x = y := by
  obtain ⟨x0, x1, x2, x3⟩ := itemOk_bounds hx
  obtain ⟨y0, y1, y2, y3⟩ := itemOk_bounds hy
  obtain ⟨h1, h2⟩ := List.append_inj' h rfl
  simp only [List.cons.injEq, and_true, true_and] at h2
  have e0 := dec_inj (by omega) (by omega) h1
  have e1 := dig_inj (by omega) (by omega) h2.1
  have e2 := dig_inj (by omega) (by omega) h2.2.1
  have e3 := dig_inj (by omega) (by omega) h2.2.2
  obtain ⟨a, b, c, d⟩ := x
  obtain ⟨a', b', c', d'⟩ := y
  simp only at *
  have f0 : a = a' := by omega
  have f1 : b = b' := by omega
  have f2 : c = c' := by omega
  have f3 : d = d' := by omega
  rw [f0, f1, f2, f3]
theorem split_ten {a b p q : List UInt8} (ha : (10 : UInt8) ∉ a) (hb : (10 : UInt8) ∉ b) : a ++ 10 :: p <+: b ++ 10 :: q ↔ a = b ∧ p <+: q := by
  induction a generalizing b with
  | nil =>
    cases b with
    | nil => simp [List.cons_prefix_cons]
    | cons y b =>
      have : (10 : UInt8) ≠ y := fun e => hb (e ▸ List.mem_cons_self)
      simp [List.cons_prefix_cons, this]
  | cons x a ih =>
    have hx : x ≠ 10 := fun e => ha (e ▸ List.mem_cons_self)
    cases b with
    | nil => simp [List.cons_prefix_cons, hx]
    | cons y b =>
      rw [List.cons_append, List.cons_append, List.cons_prefix_cons, ih (fun h => ha (List.mem_cons_of_mem _ h)) (fun h => hb (List.mem_cons_of_mem _ h)), List.cons.injEq, and_assoc]
theorem txt_cons (y : It) (ys : List It) : impl_ChainText.txt (y :: ys) = (impl_ChainText.item y).data.toList ++ impl_ChainText.txt ys := rfl
theorem txt_pre : ∀ {a b : List It}, (∀ x ∈ a, itemOk x = true) → (∀ x ∈ b, itemOk x = true) → (impl_ChainText.txt a <+: impl_ChainText.txt b ↔ a <+: b)
  | [], b, _, _ => by simp [impl_ChainText.txt]
  | x :: a, [], ha, _ => by
    rw [txt_cons, item_line (ha x List.mem_cons_self)]
    simp [impl_ChainText.txt]
  | x :: a, y :: b, ha, hb => by
    have hx := ha x List.mem_cons_self
    have hy := hb y List.mem_cons_self
    rw [txt_cons, txt_cons, item_line hx, item_line hy, List.append_assoc, List.append_assoc, List.singleton_append, List.singleton_append, split_ten (line_ten hx) (line_ten hy), List.cons_prefix_cons, txt_pre (fun z hz => ha z (List.mem_cons_of_mem _ hz)) (fun z hz => hb z (List.mem_cons_of_mem _ hz))]
    constructor
    · rintro ⟨h1, h2⟩
      exact ⟨line_inj hx hy h1, h2⟩
    · rintro ⟨h1, h2⟩
      exact ⟨by rw [h1], h2⟩
theorem chainOk_items {l : List It} (h : chainOk l = true) : ∀ x ∈ l, itemOk x = true := by
  simp only [chainOk, Bool.and_eq_true] at h
  exact okFrom_mem h.1
theorem text_pre {a b : List It} (ha : chainOk a = true) (hb : chainOk b = true) : chainText a <+: chainText b ↔ a <+: b := by
  rw [chainText, chainText, if_pos ha, if_pos hb]
  exact txt_pre (chainOk_items ha) (chainOk_items hb)
theorem text_inj {a b : List It} (ha : chainOk a = true) (hb : chainOk b = true) : chainText a = chainText b ↔ a = b := by
  constructor
  · intro h
    have h1 := (text_pre ha hb).1 (h ▸ List.prefix_refl _)
    have h2 := (text_pre hb ha).1 (h ▸ List.prefix_refl _)
    exact h1.eq_of_length (Nat.le_antisymm h1.length_le h2.length_le)
  · rintro rfl
    rfl
theorem text_len {l : List It} : (chainText l).length ≤ 20000 := by
  unfold chainText
  split
  · rename_i h
    have hs := chainOk_small h
    have := impl_ChainText.txt_len l hs.2
    omega
  · simp

end Go.Proofs.YthjpkfcejdddkaaDoor.Pure
