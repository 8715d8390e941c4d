/- Plain facts on what the printed functions compute (pick). Conditions: each theorem's own. -/
import Derived.Test.YthjpkfcejdddkaaDoorPx10
import Derived.Test.YthjpkfcejdddkaaDoorPx11
import Derived.Test.YthjpkfcejdddkaaDoorPlain
namespace Go.Proofs.YthjpkfcejdddkaaDoor.Pure
open Go.RowKit Go.Proofs.YthjpkfcejdddkaaDoor.P Go.Proofs.YthjpkfcejdddkaaDoorW.PrintWords Go.Proofs.YthjpkfcejdddkaaDoorW.PrintLast Go.Proofs.YthjpkfcejdddkaaDoorW.PrintMore Go.Proofs.YthjpkfcejdddkaaDoorE
set_option linter.unusedVariables false
set_option linter.unusedSimpArgs false

theorem xor_nonneg {a b : Int} (ha : 0 ≤ a) (ha2 : a < 4611686018427387904) (hb : 0 ≤ b) (hb2 : b < 4611686018427387904) : 0 ≤ Go.bits .xor .i64 a b := by
  obtain ⟨x, rfl⟩ := Int.eq_ofNat_of_zero_le ha
  obtain ⟨y, rfl⟩ := Int.eq_ofNat_of_zero_le hb
  have hx : x < 2 ^ 62 := by omega
  have hy : y < 2 ^ 62 := by omega
  have e : Go.bits .xor .i64 (x : Int) (y : Int) = ((x ^^^ y : Nat) : Int) := by
    have hz : x ^^^ y < 2 ^ 62 := Nat.xor_lt_two_pow hx hy
    have h1 : (BitVec.ofInt 64 (x : Int)).toNat = x := by
      rw [BitVec.ofInt_natCast, BitVec.toNat_ofNat]; exact Nat.mod_eq_of_lt (by omega)
    have h2 : (BitVec.ofInt 64 (y : Int)).toNat = y := by
      rw [BitVec.ofInt_natCast, BitVec.toNat_ofNat]; exact Nat.mod_eq_of_lt (by omega)
    show IntKind.i64.wrap ((BitVec.ofInt 64 (x : Int) ^^^ BitVec.ofInt 64 (y : Int)).toNat : Int) = _
    rw [BitVec.toNat_xor, h1, h2, IntKind.wrap_i64]
    omega
  rw [e]
  omega
theorem rd_byte {l : List Int} (hl : ∀ x ∈ l, 0 ≤ x ∧ x ≤ 255) (i : Int) : 0 ≤ rd l i ∧ rd l i ≤ 255 := by
  unfold rd
  rw [List.getD_eq_getElem?_getD]
  cases h : l[i.toNat]? with
  | none => simp
  | some x => exact hl x (List.mem_of_getElem? h)
theorem tmod_range {x n : Int} (hx : 0 ≤ x) (hn : 1 ≤ n) : 0 ≤ Int.tmod x n ∧ Int.tmod x n < n := by
  rw [Int.tmod_eq_emod_of_nonneg hx]
  exact ⟨Int.emod_nonneg _ (by omega), Int.emod_lt_of_pos _ (by omega)⟩
/-- A pick answers, and steps on by one. -/
theorem pick_ends {l : List Int} (hl : ∀ x ∈ l, 0 ≤ x ∧ x ≤ 255) (p n : Int) (h0 : 0 ≤ p) (h1 : p ≤ 1000000000) :
    Evt (fun k => spec_l6Rd_pick.f k l p n) (fun r => r.2 = p + 1 ∧ 0 ≤ r.1 ∧ (1 ≤ n → r.1 < n)) := by
  have hw : wrap64 (p + 1) = p + 1 := by unfold wrap64; omega
  have hw1 : wrap64 (p + 1 - 1) = p := by unfold wrap64; omega
  by_cases hn : n < 1
  · refine Evt.congr (f := fun k => spec_l6Rd_pick.j0 k n true l (p + 1)) (fun k => by unfold spec_l6Rd_pick.f; rw [if_pos hn, hw]) ?_
    refine Evt.step (f := fun _ => some (0, p + 1)) (fun k => by simp only [spec_l6Rd_pick.j0]; rw [if_pos trivial]) ?_
    exact Evt.now _ ⟨rfl, by simp, fun h => by omega⟩
  · by_cases he : l = []
    · subst he
      refine Evt.congr (f := fun k => spec_l6Rd_pick.j0 k n true [] (p + 1)) (fun k => by unfold spec_l6Rd_pick.f; rw [if_neg hn, hw]; simp) ?_
      refine Evt.step (f := fun _ => some (0, p + 1)) (fun k => by simp only [spec_l6Rd_pick.j0]; rw [if_pos trivial]) ?_
      exact Evt.now _ ⟨rfl, by simp, fun h => by show (0 : Int) < n; omega⟩
    · have hlen : 0 < l.length := List.length_pos_iff.2 he
      have hb : ((l.length : Int) == 0) = false := by simp; omega
      refine Evt.congr (f := fun k => spec_l6Rd_pick.j0 k n false l (p + 1)) (fun k => by unfold spec_l6Rd_pick.f; rw [if_neg hn, hw, hb]) ?_
      by_cases hp : p < (l.length : Int)
      · have hr := rd_byte hl p
        have hwr : wrap64 (rd l p) = rd l p := by unfold wrap64; omega
        refine Evt.step (f := fun _ => some (Int.tmod (rd l p) n, p + 1)) (fun k => by
          simp only [spec_l6Rd_pick.j0, hw1]
          rw [if_neg (by decide), if_pos hp, if_pos h0, if_neg (by omega), hwr]) ?_
        have ht := tmod_range hr.1 (show 1 ≤ n by omega)
        exact Evt.now _ ⟨rfl, ht.1, fun _ => ht.2⟩
      · have hL : (1 : Int) ≤ (l.length : Int) := by omega
        have ht1 := tmod_range h0 hL
        have w7 : wrap64 (p * 7) = p * 7 := by unfold wrap64; omega
        have w73 : wrap64 (p * 7 + 3) = p * 7 + 3 := by unfold wrap64; omega
        have ht2 := tmod_range (show 0 ≤ p * 7 + 3 by omega) hL
        have r1 := rd_byte hl (Int.tmod p (l.length : Int))
        have r2 := rd_byte hl (Int.tmod (p * 7 + 3) (l.length : Int))
        have hq : 0 ≤ Int.tdiv p (l.length : Int) ∧ Int.tdiv p (l.length : Int) ≤ p := by
          rw [Int.tdiv_eq_ediv_of_nonneg h0]
          exact ⟨Int.ediv_nonneg h0 (by omega), Int.ediv_le_self _ h0⟩
        generalize hA : rd l (Int.tmod p (l.length : Int)) = A at r1
        generalize hB : rd l (Int.tmod (p * 7 + 3) (l.length : Int)) = B at r2
        generalize hQ : Int.tdiv p (l.length : Int) = Q at hq
        have e1 : wrap64 A = A := by unfold wrap64; omega
        have e2 : wrap64 B = B := by unfold wrap64; omega
        have e3 : wrap64 Q = Q := by unfold wrap64; omega
        have e4 : wrap64 (A * 131) = A * 131 := by unfold wrap64; omega
        have e5 : wrap64 (B * 1117) = B * 1117 := by unfold wrap64; omega
        have e6 : wrap64 (p * 29) = p * 29 := by unfold wrap64; omega
        have e7 : wrap64 (Q * 53) = Q * 53 := by unfold wrap64; omega
        have e8 : wrap64 (A * 131 + B * 1117) = A * 131 + B * 1117 := by unfold wrap64; omega
        have e9 : wrap64 (A * 131 + B * 1117 + p * 29) = A * 131 + B * 1117 + p * 29 := by unfold wrap64; omega
        obtain ⟨X, hXd⟩ : ∃ X, X = A * 131 + B * 1117 + p * 29 + Q * 53 := ⟨_, rfl⟩
        have e10 : wrap64 (A * 131 + B * 1117 + p * 29 + Q * 53) = X := by rw [hXd]; unfold wrap64; omega
        have hX : 0 ≤ X ∧ X < 4611686018427387904 := by omega
        have hd : Int.tdiv X 64 = X / 64 := Int.tdiv_eq_ediv_of_nonneg hX.1
        have e11 : wrap64 (X / 64) = X / 64 := by unfold wrap64; omega
        have hx := xor_nonneg hX.1 hX.2 (show 0 ≤ X / 64 by omega) (show X / 64 < 4611686018427387904 by omega)
        refine Evt.step (f := fun _ => some (Int.tmod (Go.bits .xor .i64 X (X / 64)) n, p + 1)) (fun k => by
          simp only [spec_l6Rd_pick.j0, hw1, w7, w73]
          rw [if_neg (by decide), if_neg hp, if_neg (by omega), if_pos ht1.1, if_pos ht1.2, if_pos ht2.1, if_pos ht2.2, if_neg (by omega)]
          rw [hA, hB, hQ, e1, e2, e3, e4, e5, e6, e7, e8, e9, e10, hd, e11]) ?_
        have ht := tmod_range hx (show 1 ≤ n by omega)
        exact Evt.now _ ⟨rfl, ht.1, fun _ => ht.2⟩
theorem open_bytes {l : List Int} (hl : ∀ x ∈ l, 0 ≤ x ∧ x ≤ 255) : ∃ l', spec_l6Open.f l = some (l', 0) ∧ ∀ x ∈ l', 0 ≤ x ∧ x ≤ 255 := by
  unfold spec_l6Open.f
  by_cases h : (l.length : Int) > 2000
  · rw [if_pos h, if_pos (by omega)]
    exact ⟨_, rfl, fun x hx => hl x (List.mem_of_mem_take hx)⟩
  · rw [if_neg h]
    exact ⟨_, rfl, hl⟩
theorem bytes_of {l : List Int} (h : ∀ x ∈ l, (Lit.int .u8 x).wf = true) : ∀ x ∈ l, 0 ≤ x ∧ x ≤ 255 := by
  intro x hx
  have := h x hx
  simp [Lit.wf, IntKind.min, IntKind.max, IntKind.bits, IntKind.signed] at this
  omega

end Go.Proofs.YthjpkfcejdddkaaDoor.Pure
