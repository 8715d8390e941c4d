/- Of every drawn epoch the leader is as the reference says, and the nodes lead in turn, each once in as many epochs as there are nodes. The plain part: what the printed functions compute answers true. Conditions: the argument fits the machine, as the row says. -/
import Derived.Test.YtnipfblhhmldpaaPFnLeaderTurnx0
import Derived.Test.YtnipfblhhmldpaaPFnLeaderTurnx1
import Derived.Test.YtnipfblhhmldpaaPlain
namespace Go.Proofs.Ytnipfblhhmldpaa.Pure
open Go.RowKit Go.Proofs.Ytnipfblhhmldpaa.PFnLeaderTurn Go.Proofs.YtnipfblhhmldpaaW.PrintWords Go.Proofs.YtnipfblhhmldpaaW.PrintLast Go.Proofs.YtnipfblhhmldpaaW.PrintMore Go.Proofs.YtnipfblhhmldpaaE
set_option linter.unusedVariables false
set_option linter.unusedSimpArgs false

theorem within_eq (n lo hi : Int) : impl_within.f n lo hi = some (decide (lo ≤ n ∧ n ≤ hi)) := by
  unfold impl_within.f
  by_cases h : n ≥ lo
  · rw [if_pos h]
    by_cases h2 : n ≤ hi
    · simp [h2, show lo ≤ n from h]
    · simp [h2]
  · rw [if_neg h]
    simp [show ¬ lo ≤ n from h]
theorem l6In_eq (n lo hi : Int) : spec_l6In.f n lo hi = some (decide (lo ≤ n ∧ n ≤ hi)) := by
  unfold spec_l6In.f
  by_cases h : n ≥ lo
  · rw [if_pos h]
    by_cases h2 : n ≤ hi
    · simp [h2, show lo ≤ n from h]
    · simp [h2]
  · rw [if_neg h]
    simp [show ¬ lo ≤ n from h]
def leader (e : Int) : Int := if 1 ≤ e ∧ e ≤ 30 then (e - 1) % 4 + 1 else 0
theorem leader_in {e : Int} (h : 1 ≤ e ∧ e ≤ 30) : wrap64 ((Int.tmod (wrap64 (e - 1)) 4) + 1) = (e - 1) % 4 + 1 := by
  have h1 : wrap64 (e - 1) = e - 1 := by unfold wrap64; omega
  rw [h1, Int.tmod_eq_emod_of_nonneg (by omega)]
  unfold wrap64
  omega
theorem leader_impl (e : Int) : impl_VoteLeader.f e = some (leader e) := by
  unfold impl_VoteLeader.f impl_epochOk.f leader
  simp only [within_eq, Option.bind_some]
  by_cases h : 1 ≤ e ∧ e ≤ 30
  · simp only [h, and_self, decide_true, if_true, leader_in h]
  · simp [h]
theorem leader_spec (e : Int) : spec_VoteLeader.f e = some (leader e) := by
  unfold spec_VoteLeader.f spec_l3Leader.f leader
  simp only [l6In_eq, Option.bind_some]
  by_cases h : 1 ≤ e ∧ e ≤ 30
  · simp only [h, and_self, decide_true, if_true, Option.bind_some, leader_in h]
  · simp [h]
theorem xor_nonneg {a b : Int} (ha : 0 ≤ a) (ha2 : a < 4611686018427387904) (hb : 0 ≤ b) (hb2 : b < 4611686018427387904) : 0 ≤ Go.bits .xor .i64 a b := by
  obtain ⟨x, rfl⟩ := Int.eq_ofNat_of_zero_le ha
  obtain ⟨y, rfl⟩ := Int.eq_ofNat_of_zero_le hb
  have hx : x < 2 ^ 62 := by omega
  have hy : y < 2 ^ 62 := by omega
  have e : Go.bits .xor .i64 (x : Int) (y : Int) = ((x ^^^ y : Nat) : Int) := by
    have hz : x ^^^ y < 2 ^ 62 := Nat.xor_lt_two_pow hx hy
    have h1 : (BitVec.ofInt 64 (x : Int)).toNat = x := by
      rw [BitVec.ofInt_natCast, BitVec.toNat_ofNat]; exact Nat.mod_eq_of_lt (by omega)
    have h2 : (BitVec.ofInt 64 (y : Int)).toNat = y := by
      rw [BitVec.ofInt_natCast, BitVec.toNat_ofNat]; exact Nat.mod_eq_of_lt (by omega)
    show IntKind.i64.wrap ((BitVec.ofInt 64 (x : Int) ^^^ BitVec.ofInt 64 (y : Int)).toNat : Int) = _
    rw [BitVec.toNat_xor, h1, h2, IntKind.wrap_i64]
    omega
  rw [e]
  omega
theorem rd_byte {l : List Int} (hl : ∀ x ∈ l, 0 ≤ x ∧ x ≤ 255) (i : Int) : 0 ≤ rd l i ∧ rd l i ≤ 255 := by
  unfold rd
  rw [List.getD_eq_getElem?_getD]
  cases h : l[i.toNat]? with
  | none => simp
  | some x => exact hl x (List.mem_of_getElem? h)
theorem tmod_range {x n : Int} (hx : 0 ≤ x) (hn : 1 ≤ n) : 0 ≤ Int.tmod x n ∧ Int.tmod x n < n := by
  rw [Int.tmod_eq_emod_of_nonneg hx]
  exact ⟨Int.emod_nonneg _ (by omega), Int.emod_lt_of_pos _ (by omega)⟩
/-- A pick answers, and steps on by one. -/
theorem pick_ends {l : List Int} (hl : ∀ x ∈ l, 0 ≤ x ∧ x ≤ 255) (p n : Int) (h0 : 0 ≤ p) (h1 : p ≤ 1000000000) :
    Evt (fun k => spec_l6Rd_pick.f k l p n) (fun r => r.2 = p + 1 ∧ 0 ≤ r.1 ∧ (1 ≤ n → r.1 < n)) := by
  have hw : wrap64 (p + 1) = p + 1 := by unfold wrap64; omega
  have hw1 : wrap64 (p + 1 - 1) = p := by unfold wrap64; omega
  by_cases hn : n < 1
  · refine Evt.congr (f := fun k => spec_l6Rd_pick.j0 k n true l (p + 1)) (fun k => by unfold spec_l6Rd_pick.f; rw [if_pos hn, hw]) ?_
    refine Evt.step (f := fun _ => some (0, p + 1)) (fun k => by simp only [spec_l6Rd_pick.j0]; rw [if_pos trivial]) ?_
    exact Evt.now _ ⟨rfl, by simp, fun h => by omega⟩
  · by_cases he : l = []
    · subst he
      refine Evt.congr (f := fun k => spec_l6Rd_pick.j0 k n true [] (p + 1)) (fun k => by unfold spec_l6Rd_pick.f; rw [if_neg hn, hw]; simp) ?_
      refine Evt.step (f := fun _ => some (0, p + 1)) (fun k => by simp only [spec_l6Rd_pick.j0]; rw [if_pos trivial]) ?_
      exact Evt.now _ ⟨rfl, by simp, fun h => by show (0 : Int) < n; omega⟩
    · have hlen : 0 < l.length := List.length_pos_iff.2 he
      have hb : ((l.length : Int) == 0) = false := by simp; omega
      refine Evt.congr (f := fun k => spec_l6Rd_pick.j0 k n false l (p + 1)) (fun k => by unfold spec_l6Rd_pick.f; rw [if_neg hn, hw, hb]) ?_
      by_cases hp : p < (l.length : Int)
      · have hr := rd_byte hl p
        have hwr : wrap64 (rd l p) = rd l p := by unfold wrap64; omega
        refine Evt.step (f := fun _ => some (Int.tmod (rd l p) n, p + 1)) (fun k => by
          simp only [spec_l6Rd_pick.j0, hw1]
          rw [if_neg (by decide), if_pos hp, if_pos h0, if_neg (by omega), hwr]) ?_
        have ht := tmod_range hr.1 (show 1 ≤ n by omega)
        exact Evt.now _ ⟨rfl, ht.1, fun _ => ht.2⟩
      · have hL : (1 : Int) ≤ (l.length : Int) := by omega
        have ht1 := tmod_range h0 hL
        have w7 : wrap64 (p * 7) = p * 7 := by unfold wrap64; omega
        have w73 : wrap64 (p * 7 + 3) = p * 7 + 3 := by unfold wrap64; omega
        have ht2 := tmod_range (show 0 ≤ p * 7 + 3 by omega) hL
        have r1 := rd_byte hl (Int.tmod p (l.length : Int))
        have r2 := rd_byte hl (Int.tmod (p * 7 + 3) (l.length : Int))
        have hq : 0 ≤ Int.tdiv p (l.length : Int) ∧ Int.tdiv p (l.length : Int) ≤ p := by
          rw [Int.tdiv_eq_ediv_of_nonneg h0]
          exact ⟨Int.ediv_nonneg h0 (by omega), Int.ediv_le_self _ h0⟩
        generalize hA : rd l (Int.tmod p (l.length : Int)) = A at r1
        generalize hB : rd l (Int.tmod (p * 7 + 3) (l.length : Int)) = B at r2
        generalize hQ : Int.tdiv p (l.length : Int) = Q at hq
        have e1 : wrap64 A = A := by unfold wrap64; omega
        have e2 : wrap64 B = B := by unfold wrap64; omega
        have e3 : wrap64 Q = Q := by unfold wrap64; omega
        have e4 : wrap64 (A * 131) = A * 131 := by unfold wrap64; omega
        have e5 : wrap64 (B * 1117) = B * 1117 := by unfold wrap64; omega
        have e6 : wrap64 (p * 29) = p * 29 := by unfold wrap64; omega
        have e7 : wrap64 (Q * 53) = Q * 53 := by unfold wrap64; omega
        have e8 : wrap64 (A * 131 + B * 1117) = A * 131 + B * 1117 := by unfold wrap64; omega
        have e9 : wrap64 (A * 131 + B * 1117 + p * 29) = A * 131 + B * 1117 + p * 29 := by unfold wrap64; omega
        obtain ⟨X, hXd⟩ : ∃ X, X = A * 131 + B * 1117 + p * 29 + Q * 53 := ⟨_, rfl⟩
        have e10 : wrap64 (A * 131 + B * 1117 + p * 29 + Q * 53) = X := by rw [hXd]; unfold wrap64; omega
        have hX : 0 ≤ X ∧ X < 4611686018427387904 := by omega
        have hd : Int.tdiv X 64 = X / 64 := Int.tdiv_eq_ediv_of_nonneg hX.1
        have e11 : wrap64 (X / 64) = X / 64 := by unfold wrap64; omega
        have hx := xor_nonneg hX.1 hX.2 (show 0 ≤ X / 64 by omega) (show X / 64 < 4611686018427387904 by omega)
        refine Evt.step (f := fun _ => some (Int.tmod (Go.bits .xor .i64 X (X / 64)) n, p + 1)) (fun k => by
          simp only [spec_l6Rd_pick.j0, hw1, w7, w73]
          rw [if_neg (by decide), if_neg hp, if_neg (by omega), if_pos ht1.1, if_pos ht1.2, if_pos ht2.1, if_pos ht2.2, if_neg (by omega)]
          rw [hA, hB, hQ, e1, e2, e3, e4, e5, e6, e7, e8, e9, e10, hd, e11]) ?_
        have ht := tmod_range hx (show 1 ≤ n by omega)
        exact Evt.now _ ⟨rfl, ht.1, fun _ => ht.2⟩
theorem open_bytes {l : List Int} (hl : ∀ x ∈ l, 0 ≤ x ∧ x ≤ 255) : ∃ l', spec_l6Open.f l = some (l', 0) ∧ ∀ x ∈ l', 0 ≤ x ∧ x ≤ 255 := by
  unfold spec_l6Open.f
  by_cases h : (l.length : Int) > 2000
  · rw [if_pos h, if_pos (by omega)]
    exact ⟨_, rfl, fun x hx => hl x (List.mem_of_mem_take hx)⟩
  · rw [if_neg h]
    exact ⟨_, rfl, hl⟩
theorem bytes_of {l : List Int} (h : ∀ x ∈ l, (Lit.int .u8 x).wf = true) : ∀ x ∈ l, 0 ≤ x ∧ x ≤ 255 := by
  intro x hx
  have := h x hx
  simp [Lit.wf, IntKind.min, IntKind.max, IntKind.bits, IntKind.signed] at this
  omega
theorem turn_end (t v : Int) (ht : t < 1 ∨ 1 ≤ t) : Evt (fun k => laws_FnLeaderTurn.j0 k t (leader t) true) (fun r => r = true) := by
  refine Evt.step (f := fun _ => some (leader t == leader t)) (fun k => by simp only [laws_FnLeaderTurn.j0, leader_spec, Option.bind_some, if_true]) (Evt.now _ (by simp))
theorem turn_round (t v s i : Int) (h1 : 1 ≤ t) (h2 : t ≤ 30) (hi : 0 ≤ i) (hi4 : i < 4) (hs : 0 ≤ s) (hs2 : s ≤ 100) {P : Bool → Prop}
    (h : Evt (fun k => laws_FnLeaderTurn.l0 k t v (s + leader (t + i)) (i + 1)) P) : Evt (fun k => laws_FnLeaderTurn.l0 k t v s i) P := by
  have hb : 0 ≤ leader (t + i) ∧ leader (t + i) ≤ 4 := by unfold leader; split <;> omega
  refine Evt.step (fun k => ?_) h
  simp only [laws_FnLeaderTurn.l0, leader_impl, Option.bind_some]
  rw [if_pos hi4, wrap64_small (n := t + i) (by omega) (by omega), wrap64_small (n := s + leader (t + i)) (by omega) (by omega), wrap64_small (n := i + 1) (by omega) (by omega)]
theorem four_sum (u : Int) : u % 4 + (u + 1) % 4 + (u + 2) % 4 + (u + 3) % 4 = 6 := by
  have h : u % 4 = 0 ∨ u % 4 = 1 ∨ u % 4 = 2 ∨ u % 4 = 3 := by omega
  rw [Int.add_emod u 1, Int.add_emod u 2, Int.add_emod u 3]
  rcases h with h | h | h | h <;> rw [h] <;> decide
theorem four_next (u : Int) : (u + 4) % 4 = u % 4 := by omega
theorem one_next (u : Int) : ¬ (u + 1) % 4 + 1 = u % 4 + 1 := by omega
theorem turn_sum {t : Int} (h1 : 1 ≤ t) (h2 : ¬ t + 4 > 30) : 0 + leader (t + 0) + leader (t + 1) + leader (t + 2) + leader (t + 3) = 10 ∧ leader (t + 4) = leader t ∧ ¬ leader (t + 1) = leader t ∧ leader t ≥ 1 ∧ leader t ≤ 4 := by
  have hle : ∀ i : Int, 0 ≤ i → i ≤ 4 → leader (t + i) = (t - 1 + i) % 4 + 1 := fun i hi hi4 => by
    unfold leader
    rw [if_pos ⟨by omega, by omega⟩, show t + i - 1 = t - 1 + i by omega]
  have lt : leader t = (t - 1) % 4 + 1 := by
    unfold leader
    rw [if_pos ⟨by omega, by omega⟩]
  rw [hle 0 (by omega) (by omega), hle 1 (by omega) (by omega), hle 2 (by omega) (by omega), hle 3 (by omega) (by omega), hle 4 (by omega) (by omega), lt, Int.add_zero]
  have s := four_sum (t - 1)
  have f := four_next (t - 1)
  have o := one_next (t - 1)
  have r := Int.emod_nonneg (t - 1) (show (4 : Int) ≠ 0 by decide)
  have r2 := Int.emod_lt_of_pos (t - 1) (show (0 : Int) < 4 by decide)
  generalize (t - 1) % 4 = a at *
  generalize (t - 1 + 1) % 4 = b at *
  generalize (t - 1 + 2) % 4 = c at *
  generalize (t - 1 + 3) % 4 = d at *
  generalize (t - 1 + 4) % 4 = e at *
  omega
theorem FnLeaderTurn : laws_FnLeaderTurn.Pure := by
  intro l _ hw
  have hl := bytes_of hw
  refine Evt.get ?_
  simp only [laws_FnLeaderTurn.f]
  refine Evt.ite (fun _ => Evt.now _ rfl) (fun h => ?_)
  have hd : Evt (fun k => spec_DrawVoteLeader.f k l) (fun t => -1 ≤ t ∧ t ≤ 32) := by
    simp only [spec_DrawVoteLeader.f]
    obtain ⟨l', e, hl'⟩ := open_bytes hl
    rw [e]
    simp only [Option.bind_some]
    refine Evt.bind (pick_ends hl' 0 34 (by omega) (by omega)) (fun r hr => Evt.now _ ?_)
    have := hr.2.2 (by omega)
    rw [wrap64_small (by omega) (by omega)]
    omega
  refine Evt.bind hd (fun t ht => ?_)
  simp only [leader_impl, leader_spec, Option.bind_some]
  refine Evt.pos trivial ?_
  refine Evt.ite (fun h1 => turn_end t 0 (by omega)) (fun h1 => ?_)
  have hw4 : wrap64 (t + 4) = t + 4 := wrap64_small (by omega) (by omega)
  rw [hw4]
  by_cases h2 : t + 4 > 30
  · rw [decide_eq_true h2]
    exact turn_end t 0 (by omega)
  · rw [decide_eq_false h2]
    have lz : leader 0 = 0 := by unfold leader; simp
    have bb : ∀ x, 0 ≤ leader x ∧ leader x ≤ 4 := fun x => by unfold leader; split <;> omega
    refine Evt.step (f := fun k => laws_FnLeaderTurn.l0 k t (leader t) 0 0) (fun k => by simp only [laws_FnLeaderTurn.j0]; rw [if_neg (by decide)]) ?_
    have b0 := bb (t + 0)
    have b1 := bb (t + 1)
    have b2 := bb (t + 2)
    have b3 := bb (t + 3)
    refine turn_round t _ 0 0 (by omega) (by omega) (by omega) (by omega) (by omega) (by omega) ?_
    refine turn_round t _ _ 1 (by omega) (by omega) (by omega) (by omega) (by omega) (by omega) ?_
    refine turn_round t _ _ 2 (by omega) (by omega) (by omega) (by omega) (by omega) (by omega) ?_
    refine turn_round t _ _ 3 (by omega) (by omega) (by omega) (by omega) (by omega) (by omega) ?_
    have w1 : wrap64 (t + 1) = t + 1 := wrap64_small (by omega) (by omega)
    obtain ⟨hsum, e4, e1, ev⟩ := turn_sum (t := t) (by omega) h2
    refine Evt.step (f := fun _ => some true) (fun k => ?_) (Evt.now _ rfl)
    simp only [laws_FnLeaderTurn.l0, leader_impl, Option.bind_some]
    rw [if_neg (by decide), if_pos ev.1, if_pos ev.2, hw4, w1, if_pos e4, if_neg e1, if_pos hsum, lz]
    rfl

end Go.Proofs.Ytnipfblhhmldpaa.Pure
