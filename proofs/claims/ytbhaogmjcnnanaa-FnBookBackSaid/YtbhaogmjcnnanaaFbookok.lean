/- Plain facts on what the printed functions compute (bookok). Conditions: each theorem's own. -/
import Derived.Test.YtbhaogmjcnnanaaPx1
import Derived.Test.YtbhaogmjcnnanaaPx6
import Derived.Test.YtbhaogmjcnnanaaFwithin
import Derived.Test.YtbhaogmjcnnanaaPlain
namespace Go.Proofs.Ytbhaogmjcnnanaa.Pure
open Go.RowKit Go.Proofs.Ytbhaogmjcnnanaa.P Go.Proofs.YtbhaogmjcnnanaaW.PrintWords Go.Proofs.YtbhaogmjcnnanaaW.PrintLast Go.Proofs.YtbhaogmjcnnanaaW.PrintMore Go.Proofs.YtbhaogmjcnnanaaE
set_option linter.unusedVariables false
set_option linter.unusedSimpArgs false

/-- A book, from a sum on. -/
def bk (n : Nat) : List Int → Int → Bool
  | [], s => decide (n = 3) && (s == 27)
  | x :: xs, s => decide (0 ≤ x ∧ x ≤ 27) && bk n xs (wrap64 (s + x))
def bookOk (l : List Int) : Bool := bk l.length l 0
theorem bookOk_impl (l : List Int) (hl : l.length ≤ 4611686018427387900) : Evt (fun k => impl_BookOk.f k l) (fun r => r = bookOk l) := by
  have key : ∀ (d i : Nat) (s : Int), i + d = l.length → Evt (fun k => impl_BookOk.l0 k l s l (l.length : Int) (i : Int)) (fun r => r = bk l.length (l.drop i) s) := by
    intro d
    induction d with
    | zero =>
      intro i s hd
      rw [List.drop_eq_nil_of_le (by omega)]
      by_cases h3 : (l.length : Int) = 3
      · refine Evt.step (f := fun _ => some (s == 27)) (fun k => by simp only [impl_BookOk.l0]; rw [if_neg (by omega), if_pos h3]) (Evt.now _ ?_)
        simp [bk, show l.length = 3 by omega]
      · refine Evt.step (f := fun _ => some false) (fun k => by simp only [impl_BookOk.l0]; rw [if_neg (by omega), if_neg h3]) (Evt.now _ ?_)
        simp [bk, show ¬ l.length = 3 by omega]
    | succ d ih =>
      intro i s hd
      rw [drop_rd (l := l) (i := i) (by omega)]
      by_cases hx : 0 ≤ rd l (i : Int) ∧ rd l (i : Int) ≤ 27
      · refine Evt.step (f := fun k => impl_BookOk.l0 k l (wrap64 (s + rd l (i : Int))) l (l.length : Int) ((i + 1 : Nat) : Int)) (fun k => by
          simp only [impl_BookOk.l0, within_eq, Option.bind_some]
          rw [if_pos (by omega), if_pos (by omega), if_pos (by omega), if_pos (by simp [hx]), wrap_succ (by omega)]) ?_
        refine (ih (i + 1) _ (by omega)).mono (fun r hr => ?_)
        rw [hr]
        simp [bk, hx]
      · refine Evt.step (f := fun _ => some false) (fun k => by
          simp only [impl_BookOk.l0, within_eq, Option.bind_some]
          rw [if_pos (by omega), if_pos (by omega), if_pos (by omega), if_neg (by simpa using hx)]) (Evt.now _ ?_)
        simp [bk, hx]
  refine (Evt.congr (fun k => by unfold impl_BookOk.f; rfl) (key l.length 0 0 (by omega))).mono (fun r hr => ?_)
  simpa [bookOk] using hr
theorem bookOk_spec (l : List Int) (hl : l.length ≤ 4611686018427387900) : Evt (fun k => spec_BookOk.f k l) (fun r => r = bookOk l) := by
  have key : ∀ (d i : Nat) (s : Int), i + d = l.length → Evt (fun k => spec_BookOk.l0 k l s (i : Int)) (fun r => r = bk l.length (l.drop i) s) := by
    intro d
    induction d with
    | zero =>
      intro i s hd
      rw [List.drop_eq_nil_of_le (by omega)]
      by_cases h3 : (l.length : Int) = 3
      · refine Evt.step (f := fun _ => some (s == 27)) (fun k => by simp only [spec_BookOk.l0]; rw [if_neg (by omega), if_pos h3]) (Evt.now _ ?_)
        simp [bk, show l.length = 3 by omega]
      · refine Evt.step (f := fun _ => some false) (fun k => by simp only [spec_BookOk.l0]; rw [if_neg (by omega), if_neg h3]) (Evt.now _ ?_)
        simp [bk, show ¬ l.length = 3 by omega]
    | succ d ih =>
      intro i s hd
      rw [drop_rd (l := l) (i := i) (by omega)]
      by_cases hx : 0 ≤ rd l (i : Int) ∧ rd l (i : Int) ≤ 27
      · refine Evt.step (f := fun k => spec_BookOk.l0 k l (wrap64 (s + rd l (i : Int))) ((i + 1 : Nat) : Int)) (fun k => by
          simp only [spec_BookOk.l0, l6In_eq, Option.bind_some]
          rw [if_pos (by omega), if_pos (by omega), if_pos (by simp [hx]), wrap_succ (by omega)]) ?_
        refine (ih (i + 1) _ (by omega)).mono (fun r hr => ?_)
        rw [hr]
        simp [bk, hx]
      · refine Evt.step (f := fun _ => some false) (fun k => by
          simp only [spec_BookOk.l0, l6In_eq, Option.bind_some]
          rw [if_pos (by omega), if_pos (by omega), if_neg (by simpa using hx)]) (Evt.now _ ?_)
        simp [bk, hx]
  refine (Evt.congr (fun k => by unfold spec_BookOk.f; rfl) (key l.length 0 0 (by omega))).mono (fun r hr => ?_)
  simpa [bookOk] using hr

end Go.Proofs.Ytbhaogmjcnnanaa.Pure
