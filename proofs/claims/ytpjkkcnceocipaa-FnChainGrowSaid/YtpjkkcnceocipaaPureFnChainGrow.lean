/- A drawn chain with a later epoch's item is a chain that it begins, if the epoch and the length are in bounds, and else none. The plain part: what the printed functions compute answers true. Conditions: the argument fits the machine, as the row says. -/
import Derived.Test.YtpjkkcnceocipaaPx0
import Derived.Test.YtpjkkcnceocipaaPx6
import Derived.Test.YtpjkkcnceocipaaPx17
import Derived.Test.YtpjkkcnceocipaaPx18
import Derived.Test.YtpjkkcnceocipaaFchainin
import Derived.Test.YtpjkkcnceocipaaFdrawchainok
import Derived.Test.YtpjkkcnceocipaaPlain
namespace Go.Proofs.Ytpjkkcnceocipaa.Pure
open Go.RowKit Go.Proofs.Ytpjkkcnceocipaa.P Go.Proofs.YtpjkkcnceocipaaW.PrintWords Go.Proofs.YtpjkkcnceocipaaW.PrintLast Go.Proofs.YtpjkkcnceocipaaW.PrintMore Go.Proofs.YtpjkkcnceocipaaE
set_option linter.unusedVariables false
set_option linter.unusedSimpArgs false

theorem lastE_rd (c : List It) (h : c ≠ []) : ∀ e, lastE e c = (rd_T34 c ((c.length - 1 : Nat) : Int)).f0 := by
  induction c with
  | nil => exact absurd rfl h
  | cons x xs ih =>
    intro e
    cases xs with
    | nil => rfl
    | cons y ys =>
      rw [lastE, ih (by simp)]
      rfl
theorem lastE_le {c : List It} : ∀ {e : Int}, okFrom e c = true → 0 ≤ e → e ≤ 30 → 0 ≤ lastE e c ∧ lastE e c ≤ 30 := by
  induction c with
  | nil => intro e _ h1 h2; exact ⟨h1, h2⟩
  | cons x xs ih =>
    intro e h _ _
    simp only [okFrom, itemOk, Bool.and_eq_true, decide_eq_true_iff] at h
    exact ih h.2.2 (by omega) (by omega)
theorem grow_tail {c : List It} (hok : chainOk c = true) (hl : c.length ≤ 8) (e : Int) (he : lastE 0 c < e) (y : List It) (hy : y = c ++ [⟨e, ⟨1, 3, 2⟩⟩]) :
    Evt (fun k => if e ≤ 30 then ((impl_ChainOk.f k y).bind fun t284 => (if (t284 == (decide ((y.length : Int) ≤ 16))) = true then ((impl_ChainIn.f k c y).bind fun t285 => (if (t285 == (decide ((y.length : Int) ≤ 16))) = true then ((impl_ChainIn.f k y c).bind fun t286 => (some (!t286))) else (some false))) else (some false))) else ((impl_ChainOk.f k y).bind fun t287 => (if (t287 == false) = true then ((impl_ChainIn.f k c y).bind fun t288 => (if (t288 == false) = true then ((impl_ChainIn.f k y c).bind fun t289 => (some (!t289))) else (some false))) else (some false)))) (fun r => r = true) := by
  have hok' := hok
  simp only [chainOk, Bool.and_eq_true, decide_eq_true_iff] at hok'
  obtain ⟨he0, he30⟩ := lastE_le hok'.1 (by omega) (by omega)
  have hyl : y.length = c.length + 1 := by rw [hy]; simp
  have hp : payOk 1 3 2 = true := by decide
  have hyk : chainOk y = decide (e ≤ 30) := by
    rw [hy]
    simp only [chainOk, okFrom_snoc, hok'.1, Bool.true_and]
    rw [decide_eq_true he, decide_eq_true (show (c ++ [(⟨e, ⟨1, 3, 2⟩⟩ : It)]).length ≤ 16 by simp; omega)]
    simp only [itemOk, hp, Bool.and_true]
    exact decide_eq_decide.2 ⟨fun h => h.2, fun h => ⟨by omega, h⟩⟩
  have hpre : c <+: y := by rw [hy]; exact List.prefix_append _ _
  have hin : inn c y = decide (e ≤ 30) := by
    simp only [inn, hok, hyk, Bool.true_and]
    rw [decide_eq_true hpre, Bool.and_true]
  have hni : inn y c = false := by
    have : ¬ y <+: c := fun h => by have := h.length_le; omega
    simp only [inn, decide_eq_false this, Bool.and_false]
  have h16 : decide ((y.length : Int) ≤ 16) = true := decide_eq_true (by omega)
  refine Evt.ite (fun h => ?_) fun h => ?_
  · refine Evt.bind (chainOk_impl y (by omega)) fun t ht => ?_
    refine Evt.pos (by rw [ht, hyk, h16, decide_eq_true h]; rfl) ?_
    refine Evt.bind (chainIn_impl c y (by omega) (by omega)) fun t ht => ?_
    refine Evt.pos (by rw [ht, hin, h16, decide_eq_true h]; rfl) ?_
    exact Evt.bind (chainIn_impl y c (by omega) (by omega)) fun t ht => Evt.now _ (by rw [ht, hni]; rfl)
  · refine Evt.bind (chainOk_impl y (by omega)) fun t ht => ?_
    refine Evt.pos (by rw [ht, hyk, decide_eq_false h]; rfl) ?_
    refine Evt.bind (chainIn_impl c y (by omega) (by omega)) fun t ht => ?_
    refine Evt.pos (by rw [ht, hin, decide_eq_false h]; rfl) ?_
    exact Evt.bind (chainIn_impl y c (by omega) (by omega)) fun t ht => Evt.now _ (by rw [ht, hni]; rfl)
theorem FnChainGrow : laws_FnChainGrow.Pure := by
  intro l m _ hw _ _
  have hl := bytes_of hw
  refine Evt.get ?_
  have hend : Evt (fun k => laws_FnChainGrow.j0 k l m true) (fun r => r = true) := Evt.step (f := fun _ => some true) (fun k => by simp only [laws_FnChainGrow.j0, if_true]) (Evt.now _ rfl)
  simp only [laws_FnChainGrow.f]
  refine Evt.ite (fun _ => hend) (fun h => ?_)
  by_cases h2 : (m.length : Int) > 1048576
  · rw [decide_eq_true h2]
    exact hend
  rw [decide_eq_false h2]
  refine Evt.step (fun k => by simp only [laws_FnChainGrow.j0]; rw [if_neg (by decide)]) ?_
  refine Evt.bind (drawChainOk_ends hl) fun c hc => ?_
  refine Evt.bind (chainOk_impl c (by omega)) fun s hs => ?_
  refine Evt.bind (chainOk_spec c (by omega)) fun t ht => ?_
  subst hs ht
  refine Evt.neg (by simp) ?_
  cases hok : chainOk c with
  | false =>
    refine Evt.step (fun k => by simp only [laws_FnChainGrow.j1]; rw [if_pos (by decide)]) ?_
    exact Evt.bind (chainOk_spec c (by omega)) fun u hu => Evt.now _ (by rw [hu, hok]; rfl)
  | true =>
    have hok' := hok
    simp only [chainOk, Bool.and_eq_true, decide_eq_true_iff] at hok'
    obtain ⟨he0, he30⟩ := lastE_le hok'.1 (by omega) (by omega)
    have hi : 0 ≤ (m.length : Int) % 3 ∧ (m.length : Int) % 3 < 3 := by omega
    refine Evt.step (fun k => by simp only [laws_FnChainGrow.j1]; rw [if_neg (by decide)]) ?_
    generalize (m.length : Int) % 3 = i at hi ⊢
    refine Evt.ite (fun hpos => ?_) fun hn => ?_
    · have w : wrap64 ((c.length : Int) - 1) = ((c.length - 1 : Nat) : Int) := by unfold wrap64; omega
      rw [w]
      refine Evt.pos (by omega) (Evt.pos (by omega) ?_)
      rw [← lastE_rd c (by rintro rfl; simp at hpos) 0]
      have w1 : wrap64 (lastE 0 c + 1) = lastE 0 c + 1 := wrap64_small (by omega) (by omega)
      have w2 : wrap64 (lastE 0 c + 1 + i) = lastE 0 c + 1 + i := wrap64_small (by omega) (by omega)
      rw [w1, w2]
      simp only [Option.bind_some]
      refine Evt.pos (by simp; omega) (Evt.pos (by simp; omega) ?_)
      exact grow_tail hok hc _ (by omega) _ rfl
    · have : c = [] := List.eq_nil_of_length_eq_zero (by omega)
      subst this
      simp only [Option.bind_some]
      refine Evt.pos (by simp) (Evt.pos (by simp) ?_)
      exact grow_tail hok hc _ (by show (0 : Int) < 1 + i; omega) _ rfl

end Go.Proofs.Ytpjkkcnceocipaa.Pure
