/- The program's BookOk and the reference's return the same for every list of numbers, and the list is left as it was. The plain part: what the printed functions compute answers true. Conditions: the argument fits the machine, as the row says. -/
import Derived.Test.YtnipfblhhmldpaaPFnExactBookOkx0
import Derived.Test.YtnipfblhhmldpaaPFnExactBookOkx1
import Derived.Test.YtnipfblhhmldpaaPlain
namespace Go.Proofs.Ytnipfblhhmldpaa.Pure
open Go.RowKit Go.Proofs.Ytnipfblhhmldpaa.PFnExactBookOk Go.Proofs.YtnipfblhhmldpaaW.PrintWords Go.Proofs.YtnipfblhhmldpaaW.PrintLast Go.Proofs.YtnipfblhhmldpaaW.PrintMore Go.Proofs.YtnipfblhhmldpaaE
set_option linter.unusedVariables false
set_option linter.unusedSimpArgs false

theorem within_eq (n lo hi : Int) : impl_within.f n lo hi = some (decide (lo ≤ n ∧ n ≤ hi)) := by
  unfold impl_within.f
  by_cases h : n ≥ lo
  · rw [if_pos h]
    by_cases h2 : n ≤ hi
    · simp [h2, show lo ≤ n from h]
    · simp [h2]
  · rw [if_neg h]
    simp [show ¬ lo ≤ n from h]
theorem l6In_eq (n lo hi : Int) : spec_l6In.f n lo hi = some (decide (lo ≤ n ∧ n ≤ hi)) := by
  unfold spec_l6In.f
  by_cases h : n ≥ lo
  · rw [if_pos h]
    by_cases h2 : n ≤ hi
    · simp [h2, show lo ≤ n from h]
    · simp [h2]
  · rw [if_neg h]
    simp [show ¬ lo ≤ n from h]
theorem toIntS_ends (l : List Int) (hl : l.length ≤ 1048576) : Evt (fun k => laws_toIntS.f k l) (fun r => r = l) := by
  have key : ∀ (d i : Nat) (xs : List Int), i + d = l.length → xs.length = l.length → xs.take i = l.take i → Evt (fun k => laws_toIntS.l0 k l xs (i : Int)) (fun r => r = l) := by
    intro d
    induction d with
    | zero =>
      intro i xs hd hx ht
      refine Evt.step (f := fun _ => some xs) (fun k => by simp only [laws_toIntS.l0]; rw [if_neg (by omega)]) (Evt.now _ ?_)
      rwa [List.take_of_length_le (by omega), List.take_of_length_le (by omega)] at ht
    | succ d ih =>
      intro i xs hd hx ht
      refine Evt.step (f := fun k => laws_toIntS.l0 k l (xs.set i (rd l (i : Int))) ((i + 1 : Nat) : Int)) (fun k => by
        simp only [laws_toIntS.l0]
        rw [if_pos (by omega), if_pos (by omega), if_pos (by omega), wrap_succ (by omega), Int.toNat_natCast]) ?_
      exact ih (i + 1) _ (by omega) (by rw [List.length_set]; exact hx) (take_set_succ hx (by omega) ht (rd_get (by omega)))
  refine Evt.congr (fun k => by unfold laws_toIntS.f; rw [if_pos (by omega), if_pos (by omega), Int.toNat_natCast]; rfl) (key l.length 0 (List.replicate l.length 0) (by omega) (by simp) (by simp))
theorem eqIntS_ends (a b : List Int) (hl : a.length ≤ 4611686018427387900) : Evt (fun k => laws_eqIntS.f k a b) (fun r => r = decide (a = b)) := by
  by_cases h : (a.length : Int) = (b.length : Int)
  · have hn : a.length = b.length := by omega
    have key : ∀ (d i : Nat), i + d = a.length → Evt (fun k => laws_eqIntS.l0 k a b (i : Int)) (fun r => r = decide (a.drop i = b.drop i)) := by
      intro d
      induction d with
      | zero =>
        intro i hd
        refine Evt.step (f := fun _ => some true) (fun k => by simp only [laws_eqIntS.l0]; rw [if_neg (by omega)]) (Evt.now _ ?_)
        rw [List.drop_eq_nil_of_le (by omega), List.drop_eq_nil_of_le (by omega)]
        simp
      | succ d ih =>
        intro i hd
        rw [drop_rd (l := a) (i := i) (by omega), drop_rd (l := b) (i := i) (by omega)]
        by_cases hx : rd a (i : Int) = rd b (i : Int)
        · refine Evt.step (f := fun k => laws_eqIntS.l0 k a b ((i + 1 : Nat) : Int)) (fun k => by
            simp only [laws_eqIntS.l0]
            rw [if_pos (by omega), if_pos (by omega), if_pos (by omega), if_pos hx, wrap_succ (by omega)]) ?_
          refine (ih (i + 1) (by omega)).mono (fun r hr => ?_)
          rw [hr]
          simp [hx]
        · refine Evt.step (f := fun _ => some false) (fun k => by
            simp only [laws_eqIntS.l0]
            rw [if_pos (by omega), if_pos (by omega), if_pos (by omega), if_neg hx]) (Evt.now _ ?_)
          simp [hx]
    refine (Evt.congr (fun k => by unfold laws_eqIntS.f; rw [if_pos h]; rfl) (key a.length 0 (by omega))).mono (fun r hr => ?_)
    simpa using hr
  · refine Evt.congr (fun k => by unfold laws_eqIntS.f; rw [if_neg h]) (Evt.now _ ?_)
    have : a ≠ b := by
      rintro rfl
      exact h rfl
    simp [this]
/-- A book, from a sum on. -/
def bk (n : Nat) : List Int → Int → Bool
  | [], s => decide (n = 3) && (s == 27)
  | x :: xs, s => decide (0 ≤ x ∧ x ≤ 27) && bk n xs (wrap64 (s + x))
def bookOk (l : List Int) : Bool := bk l.length l 0
theorem bookOk_impl (l : List Int) (hl : l.length ≤ 4611686018427387900) : Evt (fun k => impl_BookOk.f k l) (fun r => r = bookOk l) := by
  have key : ∀ (d i : Nat) (s : Int), i + d = l.length → Evt (fun k => impl_BookOk.l0 k l s l (l.length : Int) (i : Int)) (fun r => r = bk l.length (l.drop i) s) := by
    intro d
    induction d with
    | zero =>
      intro i s hd
      rw [List.drop_eq_nil_of_le (by omega)]
      by_cases h3 : (l.length : Int) = 3
      · refine Evt.step (f := fun _ => some (s == 27)) (fun k => by simp only [impl_BookOk.l0]; rw [if_neg (by omega), if_pos h3]) (Evt.now _ ?_)
        simp [bk, show l.length = 3 by omega]
      · refine Evt.step (f := fun _ => some false) (fun k => by simp only [impl_BookOk.l0]; rw [if_neg (by omega), if_neg h3]) (Evt.now _ ?_)
        simp [bk, show ¬ l.length = 3 by omega]
    | succ d ih =>
      intro i s hd
      rw [drop_rd (l := l) (i := i) (by omega)]
      by_cases hx : 0 ≤ rd l (i : Int) ∧ rd l (i : Int) ≤ 27
      · refine Evt.step (f := fun k => impl_BookOk.l0 k l (wrap64 (s + rd l (i : Int))) l (l.length : Int) ((i + 1 : Nat) : Int)) (fun k => by
          simp only [impl_BookOk.l0, within_eq, Option.bind_some]
          rw [if_pos (by omega), if_pos (by omega), if_pos (by omega), if_pos (by simp [hx]), wrap_succ (by omega)]) ?_
        refine (ih (i + 1) _ (by omega)).mono (fun r hr => ?_)
        rw [hr]
        simp [bk, hx]
      · refine Evt.step (f := fun _ => some false) (fun k => by
          simp only [impl_BookOk.l0, within_eq, Option.bind_some]
          rw [if_pos (by omega), if_pos (by omega), if_pos (by omega), if_neg (by simpa using hx)]) (Evt.now _ ?_)
        simp [bk, hx]
  refine (Evt.congr (fun k => by unfold impl_BookOk.f; rfl) (key l.length 0 0 (by omega))).mono (fun r hr => ?_)
  simpa [bookOk] using hr
theorem bookOk_spec (l : List Int) (hl : l.length ≤ 4611686018427387900) : Evt (fun k => spec_BookOk.f k l) (fun r => r = bookOk l) := by
  have key : ∀ (d i : Nat) (s : Int), i + d = l.length → Evt (fun k => spec_BookOk.l0 k l s (i : Int)) (fun r => r = bk l.length (l.drop i) s) := by
    intro d
    induction d with
    | zero =>
      intro i s hd
      rw [List.drop_eq_nil_of_le (by omega)]
      by_cases h3 : (l.length : Int) = 3
      · refine Evt.step (f := fun _ => some (s == 27)) (fun k => by simp only [spec_BookOk.l0]; rw [if_neg (by omega), if_pos h3]) (Evt.now _ ?_)
        simp [bk, show l.length = 3 by omega]
      · refine Evt.step (f := fun _ => some false) (fun k => by simp only [spec_BookOk.l0]; rw [if_neg (by omega), if_neg h3]) (Evt.now _ ?_)
        simp [bk, show ¬ l.length = 3 by omega]
    | succ d ih =>
      intro i s hd
      rw [drop_rd (l := l) (i := i) (by omega)]
      by_cases hx : 0 ≤ rd l (i : Int) ∧ rd l (i : Int) ≤ 27
      · refine Evt.step (f := fun k => spec_BookOk.l0 k l (wrap64 (s + rd l (i : Int))) ((i + 1 : Nat) : Int)) (fun k => by
          simp only [spec_BookOk.l0, l6In_eq, Option.bind_some]
          rw [if_pos (by omega), if_pos (by omega), if_pos (by simp [hx]), wrap_succ (by omega)]) ?_
        refine (ih (i + 1) _ (by omega)).mono (fun r hr => ?_)
        rw [hr]
        simp [bk, hx]
      · refine Evt.step (f := fun _ => some false) (fun k => by
          simp only [spec_BookOk.l0, l6In_eq, Option.bind_some]
          rw [if_pos (by omega), if_pos (by omega), if_neg (by simpa using hx)]) (Evt.now _ ?_)
        simp [bk, hx]
  refine (Evt.congr (fun k => by unfold spec_BookOk.f; rfl) (key l.length 0 0 (by omega))).mono (fun r hr => ?_)
  simpa [bookOk] using hr
theorem FnExactBookOk : laws_FnExactBookOk.Pure := by
  intro l _ _
  refine Evt.get ?_
  simp only [laws_FnExactBookOk.f]
  refine Evt.ite (fun _ => Evt.now _ rfl) (fun h => ?_)
  have hl : l.length ≤ 1048576 := by omega
  refine Evt.bind (toIntS_ends l hl) (fun a ha => ?_)
  rw [ha]
  refine Evt.bind (bookOk_spec l (by omega)) (fun b hb => ?_)
  refine Evt.bind (toIntS_ends l hl) (fun c hc => ?_)
  rw [hc]
  refine Evt.bind (bookOk_impl l (by omega)) (fun d hd => ?_)
  rw [hb, hd]
  refine Evt.neg (by simp) ?_
  refine Evt.bind (toIntS_ends l hl) (fun e he => ?_)
  rw [he]
  refine Evt.bind (eqIntS_ends l l (by omega)) (fun f hf => ?_)
  exact Evt.pos (by rw [hf]; simp) (Evt.now _ rfl)

end Go.Proofs.Ytnipfblhhmldpaa.Pure
