/- Plain facts on what the printed functions compute (chain). Conditions: each theorem's own. -/
import Derived.Test.YthjpkfcejdddkaaDoorPx0
import Derived.Test.YthjpkfcejdddkaaDoorPx2
import Derived.Test.YthjpkfcejdddkaaDoorPx3
import Derived.Test.YthjpkfcejdddkaaDoorPx6
import Derived.Test.YthjpkfcejdddkaaDoorFwithin
import Derived.Test.YthjpkfcejdddkaaDoorFpayok
import Derived.Test.YthjpkfcejdddkaaDoorPlain
namespace Go.Proofs.YthjpkfcejdddkaaDoor.Pure
open Go.RowKit Go.Proofs.YthjpkfcejdddkaaDoor.P Go.Proofs.YthjpkfcejdddkaaDoorW.PrintWords Go.Proofs.YthjpkfcejdddkaaDoorW.PrintLast Go.Proofs.YthjpkfcejdddkaaDoorW.PrintMore Go.Proofs.YthjpkfcejdddkaaDoorE
set_option linter.unusedVariables false
set_option linter.unusedSimpArgs false

abbrev It := S48
instance : DecidableEq S46 := fun ⟨a, b, c⟩ ⟨a', b', c'⟩ => decidable_of_iff (a = a' ∧ b = b' ∧ c = c') (by simp)
instance : DecidableEq It := fun ⟨a, b⟩ ⟨a', b'⟩ => decidable_of_iff (a = a' ∧ b = b') (by simp)
theorem rdIt_get {l : List It} {i : Nat} (h : i < l.length) : l[i]? = some (rd_T48 l (i : Int)) := by
  show _ = some (l.getD ((i : Int)).toNat _)
  rw [Int.toNat_natCast, List.getD_eq_getElem?_getD, List.getElem?_eq_getElem h]
  rfl
theorem drop_it {l : List It} {i : Nat} (h : i < l.length) : l.drop i = rd_T48 l (i : Int) :: l.drop (i + 1) := by
  have e := rdIt_get h
  rw [List.getElem?_eq_getElem h] at e
  rw [List.drop_eq_getElem_cons h, Option.some.inj e]
theorem neq_it (x y : It) : ((!(x.f0 == y.f0) || ((!(x.f1.f0 == y.f1.f0) || (!(x.f1.f1 == y.f1.f1) || (!(x.f1.f2 == y.f1.f2)))))) = true) ↔ x ≠ y := by
  obtain ⟨a, b, c, d⟩ := x
  obtain ⟨a', b', c', d'⟩ := y
  simp
  omega
theorem eq_it (x y : It) : ((x.f0 == y.f0) && ((x.f1.f0 == y.f1.f0) && ((x.f1.f1 == y.f1.f1) && (x.f1.f2 == y.f1.f2)))) = true ↔ x = y := by
  obtain ⟨a, b, c, d⟩ := x
  obtain ⟨a', b', c', d'⟩ := y
  simp
def itemOk (x : It) : Bool := decide (1 ≤ x.f0 ∧ x.f0 ≤ 30) && payOk x.f1.f0 x.f1.f1 x.f1.f2
/-- Items go on behind epoch e. -/
def okFrom : Int → List It → Bool
  | _, [] => true
  | e, x :: xs => itemOk x && (decide (e < x.f0) && okFrom x.f0 xs)
def chainOk (c : List It) : Bool := okFrom 0 c && decide (c.length ≤ 16)
def prevE (l : List It) (i : Nat) : Int := if i = 0 then 0 else (rd_T48 l ((i - 1 : Nat) : Int)).f0
theorem prevE_succ (l : List It) (i : Nat) : prevE l (i + 1) = (rd_T48 l (i : Int)).f0 := by simp [prevE]
theorem epochOk_eq (e : Int) : impl_epochOk.f e = some (decide (1 ≤ e ∧ e ≤ 30)) := by
  unfold impl_epochOk.f
  simp [within_eq]
theorem chainOk_impl (l : List It) (hl : l.length ≤ 4611686018427387900) : Evt (fun k => impl_ChainOk.f k l) (fun r => r = chainOk l) := by
  have key : ∀ (d i : Nat), i + d = l.length → Evt (fun k => impl_ChainOk.l0 k l l (l.length : Int) (i : Int)) (fun r => r = (okFrom (prevE l i) (l.drop i) && decide (l.length ≤ 16))) := by
    intro d
    induction d with
    | zero =>
      intro i hd
      rw [List.drop_eq_nil_of_le (by omega)]
      refine Evt.step (f := fun _ => some (decide ((l.length : Int) ≤ 16))) (fun k => by simp only [impl_ChainOk.l0]; rw [if_neg (by omega)]) (Evt.now _ ?_)
      by_cases h : l.length ≤ 16
      · simp [okFrom, h, show (l.length : Int) ≤ 16 by omega]
      · simp [okFrom, h, show ¬ (l.length : Int) ≤ 16 by omega]
    | succ d ih =>
      intro i hd
      have ihs := ih (i + 1) (by omega)
      rw [prevE_succ] at ihs
      rw [drop_it (l := l) (i := i) (by omega)]
      by_cases he : 1 ≤ (rd_T48 l (i : Int)).f0 ∧ (rd_T48 l (i : Int)).f0 ≤ 30
      · cases hp : payOk (rd_T48 l (i : Int)).f1.f0 (rd_T48 l (i : Int)).f1.f1 (rd_T48 l (i : Int)).f1.f2 with
        | false =>
          refine Evt.step (f := fun _ => some false) (fun k => by
            simp only [impl_ChainOk.l0, epochOk_eq, payOk_impl, Option.bind_some]
            rw [if_pos (by omega), if_pos (by omega), if_pos (by omega), if_pos (by simpa using he), hp, if_neg (by decide)]) (Evt.now _ ?_)
          simp [okFrom, itemOk, hp]
        | true =>
          by_cases hi : i = 0
          · subst hi
            refine Evt.step (f := fun k => impl_ChainOk.l0 k l l (l.length : Int) ((0 + 1 : Nat) : Int)) (fun k => by
              simp only [impl_ChainOk.l0, epochOk_eq, payOk_impl, Option.bind_some]
              rw [if_pos (by omega), if_pos (by omega), if_pos (by omega), if_pos (by simpa using he), hp, if_pos rfl, if_neg (by omega), wrap_succ (by omega)]) ?_
            refine ihs.mono fun r hr => ?_
            rw [hr]
            have h0 : (0 : Int) < (rd_T48 l ((0 : Nat) : Int)).f0 := by omega
            simp only [okFrom, itemOk, prevE, hp, he, h0, decide_true, and_self, if_true, Bool.true_and, Bool.and_true]
          · have hw : wrap64 ((i : Int) - 1) = ((i - 1 : Nat) : Int) := by unfold wrap64; omega
            by_cases hlt : (rd_T48 l ((i - 1 : Nat) : Int)).f0 < (rd_T48 l (i : Int)).f0
            · refine Evt.step (f := fun k => impl_ChainOk.l0 k l l (l.length : Int) ((i + 1 : Nat) : Int)) (fun k => by
                simp only [impl_ChainOk.l0, epochOk_eq, payOk_impl, Option.bind_some]
                rw [if_pos (by omega), if_pos (by omega), if_pos (by omega), if_pos (by simpa using he), hp, if_pos rfl, if_pos (by omega), hw, if_pos (by omega), if_pos (by omega), if_neg (by omega), wrap_succ (by omega)]) ?_
              refine ihs.mono fun r hr => ?_
              rw [hr]
              simp [okFrom, itemOk, prevE, hp, he, hi, hlt]
            · refine Evt.step (f := fun _ => some false) (fun k => by
                simp only [impl_ChainOk.l0, epochOk_eq, payOk_impl, Option.bind_some]
                rw [if_pos (by omega), if_pos (by omega), if_pos (by omega), if_pos (by simpa using he), hp, if_pos rfl, if_pos (by omega), hw, if_pos (by omega), if_pos (by omega), if_pos (by omega)]) (Evt.now _ ?_)
              simp [okFrom, itemOk, prevE, hi, hlt]
      · refine Evt.step (f := fun _ => some false) (fun k => by
          simp only [impl_ChainOk.l0, epochOk_eq, Option.bind_some]
          rw [if_pos (by omega), if_pos (by omega), if_pos (by omega), if_neg (by simpa using he)]) (Evt.now _ ?_)
        simp [okFrom, itemOk, he]
  refine (Evt.congr (fun k => by unfold impl_ChainOk.f; rfl) (key l.length 0 (by omega))).mono fun r hr => ?_
  simpa [chainOk, prevE] using hr
theorem chainOk_spec (l : List It) (hl : l.length ≤ 4611686018427387900) : Evt (fun k => spec_ChainOk.f k l) (fun r => r = chainOk l) := by
  have key : ∀ (d i : Nat), i + d = l.length → Evt (fun k => spec_ChainOk.l0 k l (i : Int)) (fun r => r = (okFrom (prevE l i) (l.drop i) && decide (l.length ≤ 16))) := by
    intro d
    induction d with
    | zero =>
      intro i hd
      rw [List.drop_eq_nil_of_le (by omega)]
      refine Evt.step (f := fun _ => some (decide ((l.length : Int) ≤ 16))) (fun k => by simp only [spec_ChainOk.l0]; rw [if_neg (by omega)]) (Evt.now _ ?_)
      by_cases h : l.length ≤ 16
      · simp [okFrom, h, show (l.length : Int) ≤ 16 by omega]
      · simp [okFrom, h, show ¬ (l.length : Int) ≤ 16 by omega]
    | succ d ih =>
      intro i hd
      have ihs := ih (i + 1) (by omega)
      rw [prevE_succ] at ihs
      rw [drop_it (l := l) (i := i) (by omega)]
      by_cases he : 1 ≤ (rd_T48 l (i : Int)).f0 ∧ (rd_T48 l (i : Int)).f0 ≤ 30
      · cases hp : payOk (rd_T48 l (i : Int)).f1.f0 (rd_T48 l (i : Int)).f1.f1 (rd_T48 l (i : Int)).f1.f2 with
        | false =>
          refine Evt.step (f := fun _ => some false) (fun k => by
            simp only [spec_ChainOk.l0, l6In_eq, payOk_spec, Option.bind_some]
            rw [if_pos (by omega), if_pos (by omega), if_pos (by simpa using he), hp, if_neg (by decide)]) (Evt.now _ ?_)
          simp [okFrom, itemOk, hp]
        | true =>
          by_cases hi : i = 0
          · subst hi
            refine Evt.step (f := fun k => spec_ChainOk.l0 k l ((0 + 1 : Nat) : Int)) (fun k => by
              simp only [spec_ChainOk.l0, l6In_eq, payOk_spec, Option.bind_some]
              rw [if_pos (by omega), if_pos (by omega), if_pos (by simpa using he), hp, if_pos rfl, if_neg (by omega), wrap_succ (by omega)]) ?_
            refine ihs.mono fun r hr => ?_
            rw [hr]
            have h0 : (0 : Int) < (rd_T48 l ((0 : Nat) : Int)).f0 := by omega
            simp only [okFrom, itemOk, prevE, hp, he, h0, decide_true, and_self, if_true, Bool.true_and, Bool.and_true]
          · have hw : wrap64 ((i : Int) - 1) = ((i - 1 : Nat) : Int) := by unfold wrap64; omega
            by_cases hlt : (rd_T48 l ((i - 1 : Nat) : Int)).f0 < (rd_T48 l (i : Int)).f0
            · refine Evt.step (f := fun k => spec_ChainOk.l0 k l ((i + 1 : Nat) : Int)) (fun k => by
                simp only [spec_ChainOk.l0, l6In_eq, payOk_spec, Option.bind_some]
                rw [if_pos (by omega), if_pos (by omega), if_pos (by simpa using he), hp, if_pos rfl, if_pos (by omega), hw, if_pos (by omega), if_pos (by omega), if_neg (by omega), wrap_succ (by omega)]) ?_
              refine ihs.mono fun r hr => ?_
              rw [hr]
              simp [okFrom, itemOk, prevE, hp, he, hi, hlt]
            · refine Evt.step (f := fun _ => some false) (fun k => by
                simp only [spec_ChainOk.l0, l6In_eq, payOk_spec, Option.bind_some]
                rw [if_pos (by omega), if_pos (by omega), if_pos (by simpa using he), hp, if_pos rfl, if_pos (by omega), hw, if_pos (by omega), if_pos (by omega), if_pos (by omega)]) (Evt.now _ ?_)
              simp [okFrom, itemOk, prevE, hi, hlt]
      · refine Evt.step (f := fun _ => some false) (fun k => by
          simp only [spec_ChainOk.l0, l6In_eq, Option.bind_some]
          rw [if_pos (by omega), if_pos (by omega), if_neg (by simpa using he)]) (Evt.now _ ?_)
        simp [okFrom, itemOk, he]
  refine (Evt.congr (fun k => by unfold spec_ChainOk.f; rfl) (key l.length 0 (by omega))).mono fun r hr => ?_
  simpa [chainOk, prevE] using hr

end Go.Proofs.YthjpkfcejdddkaaDoor.Pure
