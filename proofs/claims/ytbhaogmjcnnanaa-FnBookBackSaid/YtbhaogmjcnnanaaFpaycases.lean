/- Plain facts on what the printed functions compute (paycases). Conditions: each theorem's own. -/
import Derived.Test.YtbhaogmjcnnanaaPx0
import Derived.Test.YtbhaogmjcnnanaaFbookpay
import Derived.Test.YtbhaogmjcnnanaaPlain
namespace Go.Proofs.Ytbhaogmjcnnanaa.Pure
open Go.RowKit Go.Proofs.Ytbhaogmjcnnanaa.P Go.Proofs.YtbhaogmjcnnanaaW.PrintWords Go.Proofs.YtbhaogmjcnnanaaW.PrintLast Go.Proofs.YtbhaogmjcnnanaaW.PrintMore Go.Proofs.YtbhaogmjcnnanaaE
set_option linter.unusedVariables false
set_option linter.unusedSimpArgs false

theorem pw_sub {t c : Int} (ht : 0 ≤ t ∧ t ≤ 27) (hc : 1 ≤ c ∧ c ≤ 27) : wrap64 (t - c) = t - c := wrap64_small (by omega) (by omega)
theorem pw_add {t c : Int} (ht : 0 ≤ t ∧ t ≤ 27) (hc : 1 ≤ c ∧ c ≤ 27) : wrap64 (t + c) = t + c := wrap64_small (by omega) (by omega)
theorem p12 {x y z c : Int} (hx : 0 ≤ x ∧ x ≤ 27) (hy : 0 ≤ y ∧ y ≤ 27) (hc : 1 ≤ c ∧ c ≤ 27) : payL [x, y, z] 1 2 c = if c ≤ x then [x - c, y + c, z] else [x, y, z] := by simp [payL, rd, pw_sub hx hc, pw_add hy hc]
theorem p13 {x y z c : Int} (hx : 0 ≤ x ∧ x ≤ 27) (hz : 0 ≤ z ∧ z ≤ 27) (hc : 1 ≤ c ∧ c ≤ 27) : payL [x, y, z] 1 3 c = if c ≤ x then [x - c, y, z + c] else [x, y, z] := by simp [payL, rd, pw_sub hx hc, pw_add hz hc]
theorem p21 {x y z c : Int} (hx : 0 ≤ x ∧ x ≤ 27) (hy : 0 ≤ y ∧ y ≤ 27) (hc : 1 ≤ c ∧ c ≤ 27) : payL [x, y, z] 2 1 c = if c ≤ y then [x + c, y - c, z] else [x, y, z] := by simp [payL, rd, pw_sub hy hc, pw_add hx hc]
theorem p23 {x y z c : Int} (hy : 0 ≤ y ∧ y ≤ 27) (hz : 0 ≤ z ∧ z ≤ 27) (hc : 1 ≤ c ∧ c ≤ 27) : payL [x, y, z] 2 3 c = if c ≤ y then [x, y - c, z + c] else [x, y, z] := by simp [payL, rd, pw_sub hy hc, pw_add hz hc]
theorem p31 {x y z c : Int} (hx : 0 ≤ x ∧ x ≤ 27) (hz : 0 ≤ z ∧ z ≤ 27) (hc : 1 ≤ c ∧ c ≤ 27) : payL [x, y, z] 3 1 c = if c ≤ z then [x + c, y, z - c] else [x, y, z] := by simp [payL, rd, pw_sub hz hc, pw_add hx hc]
theorem p32 {x y z c : Int} (hy : 0 ≤ y ∧ y ≤ 27) (hz : 0 ≤ z ∧ z ≤ 27) (hc : 1 ≤ c ∧ c ≤ 27) : payL [x, y, z] 3 2 c = if c ≤ z then [x, y + c, z - c] else [x, y, z] := by simp [payL, rd, pw_sub hz hc, pw_add hy hc]
theorem two_of_three {a b c : Int} (hp : payOk a b c = true) : (1 ≤ c ∧ c ≤ 9) ∧ ((a = 1 ∧ b = 2) ∨ (a = 1 ∧ b = 3) ∨ (a = 2 ∧ b = 1) ∨ (a = 2 ∧ b = 3) ∨ (a = 3 ∧ b = 1) ∨ (a = 3 ∧ b = 2)) := by
  obtain ⟨ha, hb, hne, hc⟩ := payOk_iff.1 hp
  exact ⟨hc, by omega⟩
/-- A valid book stays one. -/
theorem payL_ok {l : List Int} {a b c : Int} (hl : bookOk l = true) (hp : payOk a b c = true) : bookOk (payL l a b c) = true := by
  obtain ⟨x, y, z, rfl, hx, hy, hz, hs⟩ := bookOk_three hl
  obtain ⟨hc, h | h | h | h | h | h⟩ := two_of_three hp <;> obtain ⟨rfl, rfl⟩ := h
  · rw [p12 hx hy (by omega)]; split
    · exact bookOk_of (by omega) (by omega) (by omega) (by omega)
    · exact hl
  · rw [p13 hx hz (by omega)]; split
    · exact bookOk_of (by omega) (by omega) (by omega) (by omega)
    · exact hl
  · rw [p21 hx hy (by omega)]; split
    · exact bookOk_of (by omega) (by omega) (by omega) (by omega)
    · exact hl
  · rw [p23 hy hz (by omega)]; split
    · exact bookOk_of (by omega) (by omega) (by omega) (by omega)
    · exact hl
  · rw [p31 hx hz (by omega)]; split
    · exact bookOk_of (by omega) (by omega) (by omega) (by omega)
    · exact hl
  · rw [p32 hy hz (by omega)]; split
    · exact bookOk_of (by omega) (by omega) (by omega) (by omega)
    · exact hl
theorem bookPay_of {l : List Int} {a b c : Int} (hl : bookOk l = true) (hp : payOk a b c = true) : bookPay l a b c = payL l a b c := by simp [bookPay, hl, hp]
theorem bookPay_ne {l : List Int} {a b c : Int} (h : bookPay l a b c ≠ []) : bookOk l = true ∧ payOk a b c = true ∧ bookPay l a b c = payL l a b c := by
  unfold bookPay at h
  cases hl : bookOk l with
  | false => simp [hl] at h
  | true =>
    cases hp : payOk a b c with
    | false => simp [hp] at h
    | true => exact ⟨rfl, rfl, bookPay_of hl hp⟩
theorem payOk_back {a b c : Int} (hp : payOk a b c = true) : payOk b a c = true := by
  obtain ⟨ha, hb, hne, hc⟩ := payOk_iff.1 hp
  exact payOk_iff.2 ⟨hb, ha, fun e => hne e.symm, hc⟩
theorem book_len {l : List Int} (h : bookOk l = true) : l.length = 3 := by
  obtain ⟨x, y, z, rfl, _⟩ := bookOk_three h
  rfl
theorem payL_back {l : List Int} {a b c : Int} (hl : bookOk l = true) (hp : payOk a b c = true) (hne : payL l a b c ≠ l) : payL (payL l a b c) b a c = l := by
  obtain ⟨x, y, z, rfl, hx, hy, hz, hs⟩ := bookOk_three hl
  obtain ⟨hc, h | h | h | h | h | h⟩ := two_of_three hp <;> obtain ⟨rfl, rfl⟩ := h
  · rw [p12 hx hy (by omega)] at hne ⊢
    by_cases hq : c ≤ x
    · rw [if_pos hq, p21 (by omega) (by omega) (by omega), if_pos (by omega)]; simp
    · rw [if_neg hq] at hne; exact absurd rfl hne
  · rw [p13 hx hz (by omega)] at hne ⊢
    by_cases hq : c ≤ x
    · rw [if_pos hq, p31 (by omega) (by omega) (by omega), if_pos (by omega)]; simp
    · rw [if_neg hq] at hne; exact absurd rfl hne
  · rw [p21 hx hy (by omega)] at hne ⊢
    by_cases hq : c ≤ y
    · rw [if_pos hq, p12 (by omega) (by omega) (by omega), if_pos (by omega)]; simp
    · rw [if_neg hq] at hne; exact absurd rfl hne
  · rw [p23 hy hz (by omega)] at hne ⊢
    by_cases hq : c ≤ y
    · rw [if_pos hq, p32 (by omega) (by omega) (by omega), if_pos (by omega)]; simp
    · rw [if_neg hq] at hne; exact absurd rfl hne
  · rw [p31 hx hz (by omega)] at hne ⊢
    by_cases hq : c ≤ z
    · rw [if_pos hq, p13 (by omega) (by omega) (by omega), if_pos (by omega)]; simp
    · rw [if_neg hq] at hne; exact absurd rfl hne
  · rw [p32 hy hz (by omega)] at hne ⊢
    by_cases hq : c ≤ z
    · rw [if_pos hq, p23 (by omega) (by omega) (by omega), if_pos (by omega)]; simp
    · rw [if_neg hq] at hne; exact absurd rfl hne
theorem payL_ring {l : List Int} {a b c : Int} (hl : bookOk l = true) (hp : payOk a b c = true) (hne : payL l a b c ≠ l) : payL (payL (payL l a b c) b (6 - a - b) c) (6 - a - b) a c = l := by
  obtain ⟨x, y, z, rfl, hx, hy, hz, hs⟩ := bookOk_three hl
  obtain ⟨hc, h | h | h | h | h | h⟩ := two_of_three hp <;> obtain ⟨rfl, rfl⟩ := h
  · rw [p12 hx hy (by omega)] at hne ⊢
    by_cases hq : c ≤ x
    · rw [if_pos hq, show (6 : Int) - 1 - 2 = 3 from rfl, p23 (by omega) (by omega) (by omega), if_pos (by omega), p31 (by omega) (by omega) (by omega), if_pos (by omega)]; simp
    · rw [if_neg hq] at hne; exact absurd rfl hne
  · rw [p13 hx hz (by omega)] at hne ⊢
    by_cases hq : c ≤ x
    · rw [if_pos hq, show (6 : Int) - 1 - 3 = 2 from rfl, p32 (by omega) (by omega) (by omega), if_pos (by omega), p21 (by omega) (by omega) (by omega), if_pos (by omega)]; simp
    · rw [if_neg hq] at hne; exact absurd rfl hne
  · rw [p21 hx hy (by omega)] at hne ⊢
    by_cases hq : c ≤ y
    · rw [if_pos hq, show (6 : Int) - 2 - 1 = 3 from rfl, p13 (by omega) (by omega) (by omega), if_pos (by omega), p32 (by omega) (by omega) (by omega), if_pos (by omega)]; simp
    · rw [if_neg hq] at hne; exact absurd rfl hne
  · rw [p23 hy hz (by omega)] at hne ⊢
    by_cases hq : c ≤ y
    · rw [if_pos hq, show (6 : Int) - 2 - 3 = 1 from rfl, p31 (by omega) (by omega) (by omega), if_pos (by omega), p12 (by omega) (by omega) (by omega), if_pos (by omega)]; simp
    · rw [if_neg hq] at hne; exact absurd rfl hne
  · rw [p31 hx hz (by omega)] at hne ⊢
    by_cases hq : c ≤ z
    · rw [if_pos hq, show (6 : Int) - 3 - 1 = 2 from rfl, p12 (by omega) (by omega) (by omega), if_pos (by omega), p23 (by omega) (by omega) (by omega), if_pos (by omega)]; simp
    · rw [if_neg hq] at hne; exact absurd rfl hne
  · rw [p32 hy hz (by omega)] at hne ⊢
    by_cases hq : c ≤ z
    · rw [if_pos hq, show (6 : Int) - 3 - 2 = 1 from rfl, p21 (by omega) (by omega) (by omega), if_pos (by omega), p13 (by omega) (by omega) (by omega), if_pos (by omega)]; simp
    · rw [if_neg hq] at hne; exact absurd rfl hne
/-- Paid in two parts, d of it first. -/
theorem payL_split {l : List Int} {a b c d : Int} (hl : bookOk l = true) (hp : payOk a b c = true) (hd : 1 ≤ d ∧ d < c) (hne : payL l a b c ≠ l) : payL (payL l a b d) a b (c - d) = payL l a b c := by
  obtain ⟨x, y, z, rfl, hx, hy, hz, hs⟩ := bookOk_three hl
  obtain ⟨hc, h | h | h | h | h | h⟩ := two_of_three hp <;> obtain ⟨rfl, rfl⟩ := h
  · rw [p12 hx hy (by omega)] at hne
    by_cases hq : c ≤ x
    · rw [p12 (c := d) hx hy (by omega), if_pos (by omega), p12 (c := c - d) (by omega) (by omega) (by omega), if_pos (by omega), p12 (c := c) hx hy (by omega), if_pos hq]; simp; omega
    · rw [if_neg hq] at hne; exact absurd rfl hne
  · rw [p13 hx hz (by omega)] at hne
    by_cases hq : c ≤ x
    · rw [p13 (c := d) hx hz (by omega), if_pos (by omega), p13 (c := c - d) (by omega) (by omega) (by omega), if_pos (by omega), p13 (c := c) hx hz (by omega), if_pos hq]; simp; omega
    · rw [if_neg hq] at hne; exact absurd rfl hne
  · rw [p21 hx hy (by omega)] at hne
    by_cases hq : c ≤ y
    · rw [p21 (c := d) hx hy (by omega), if_pos (by omega), p21 (c := c - d) (by omega) (by omega) (by omega), if_pos (by omega), p21 (c := c) hx hy (by omega), if_pos hq]; simp; omega
    · rw [if_neg hq] at hne; exact absurd rfl hne
  · rw [p23 hy hz (by omega)] at hne
    by_cases hq : c ≤ y
    · rw [p23 (c := d) hy hz (by omega), if_pos (by omega), p23 (c := c - d) (by omega) (by omega) (by omega), if_pos (by omega), p23 (c := c) hy hz (by omega), if_pos hq]; simp; omega
    · rw [if_neg hq] at hne; exact absurd rfl hne
  · rw [p31 hx hz (by omega)] at hne
    by_cases hq : c ≤ z
    · rw [p31 (c := d) hx hz (by omega), if_pos (by omega), p31 (c := c - d) (by omega) (by omega) (by omega), if_pos (by omega), p31 (c := c) hx hz (by omega), if_pos hq]; simp; omega
    · rw [if_neg hq] at hne; exact absurd rfl hne
  · rw [p32 hy hz (by omega)] at hne
    by_cases hq : c ≤ z
    · rw [p32 (c := d) hy hz (by omega), if_pos (by omega), p32 (c := c - d) (by omega) (by omega) (by omega), if_pos (by omega), p32 (c := c) hy hz (by omega), if_pos hq]; simp; omega
    · rw [if_neg hq] at hne; exact absurd rfl hne

end Go.Proofs.Ytbhaogmjcnnanaa.Pure
