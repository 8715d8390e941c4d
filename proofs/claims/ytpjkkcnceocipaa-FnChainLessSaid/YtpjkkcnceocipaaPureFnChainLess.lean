/- A beginning of a drawn chain is a chain and begins it; with one of its items once more it is none; it begins no shorter one. The plain part: what the printed functions compute answers true. Conditions: the argument fits the machine, as the row says. -/
import Derived.Test.YtpjkkcnceocipaaPx0
import Derived.Test.YtpjkkcnceocipaaPx19
import Derived.Test.YtpjkkcnceocipaaFchainin
import Derived.Test.YtpjkkcnceocipaaFchaintake
import Derived.Test.YtpjkkcnceocipaaFdrawchainok
import Derived.Test.YtpjkkcnceocipaaPlain
namespace Go.Proofs.Ytpjkkcnceocipaa.Pure
open Go.RowKit Go.Proofs.Ytpjkkcnceocipaa.P Go.Proofs.YtpjkkcnceocipaaW.PrintWords Go.Proofs.YtpjkkcnceocipaaW.PrintLast Go.Proofs.YtpjkkcnceocipaaW.PrintMore Go.Proofs.YtpjkkcnceocipaaE
set_option linter.unusedVariables false
set_option linter.unusedSimpArgs false

theorem le_lastE {c : List It} : ∀ {e : Int}, okFrom e c = true → e ≤ lastE e c ∧ ∀ x, x ∈ c → x.f0 ≤ lastE e c := by
  induction c with
  | nil => intro e _; exact ⟨Int.le_refl _, fun x hx => (by cases hx)⟩
  | cons y ys ih =>
    intro e h
    simp only [okFrom, Bool.and_eq_true, decide_eq_true_iff] at h
    obtain ⟨h1, h2⟩ := ih h.2.2
    refine ⟨by rw [lastE]; omega, fun x hx => ?_⟩
    rcases List.mem_cons.1 hx with rfl | hx
    · exact h1
    · exact h2 x hx
theorem FnChainLess : laws_FnChainLess.Pure := by
  intro l m _ hw _ _
  have hl := bytes_of hw
  refine Evt.get ?_
  have hend : Evt (fun k => laws_FnChainLess.j0 k l m true) (fun r => r = true) := Evt.step (f := fun _ => some true) (fun k => by simp only [laws_FnChainLess.j0, if_true]) (Evt.now _ rfl)
  simp only [laws_FnChainLess.f]
  refine Evt.ite (fun _ => hend) (fun h => ?_)
  by_cases h2 : (m.length : Int) > 1048576
  · rw [decide_eq_true h2]
    exact hend
  rw [decide_eq_false h2]
  refine Evt.step (fun k => by simp only [laws_FnChainLess.j0]; rw [if_neg (by decide)]) ?_
  refine Evt.bind (drawChainOk_ends hl) fun c hc => ?_
  refine Evt.bind (chainOk_impl c (by omega)) fun s hs => ?_
  refine Evt.bind (chainOk_spec c (by omega)) fun t ht => ?_
  subst hs ht
  refine Evt.neg (by simp) ?_
  have stop : ∀ b, b = chainOk c → Evt (fun k => laws_FnChainLess.j1 k m c b true) (fun r => r = true) := by
    rintro b rfl
    refine Evt.step (fun k => by simp only [laws_FnChainLess.j1, if_true]; rfl) ?_
    exact Evt.bind (chainOk_spec c (by omega)) fun u hu => Evt.now _ (by rw [hu]; simp)
  cases hok : chainOk c with
  | false => exact Evt.neg (by decide) (stop false hok.symm)
  | true =>
    refine Evt.pos rfl ?_
    by_cases hz : c = []
    · rw [show ((c.length : Int) == 0) = true by rw [hz]; rfl]
      exact stop true hok.symm
    have hpos : 0 < c.length := List.length_pos_iff.2 hz
    rw [show ((c.length : Int) == 0) = false by simp; omega]
    have hi : 0 ≤ (m.length : Int) % (c.length : Int) := Int.emod_nonneg _ (by omega)
    have hj : (m.length : Int) % (c.length : Int) < (c.length : Int) := Int.emod_lt_of_pos _ (by omega)
    refine Evt.step (fun k => by simp only [laws_FnChainLess.j1]; rw [if_neg (by decide)]) ?_
    refine Evt.neg (by omega) ?_
    generalize (m.length : Int) % (c.length : Int) = i at hi hj ⊢
    obtain ⟨n, rfl⟩ := Int.eq_ofNat_of_zero_le hi
    have hn : n < c.length := by omega
    simp only [Option.bind_some, Int.toNat_natCast]
    refine Evt.pos (by simp; omega) (Evt.pos hi (Evt.pos hj (Evt.pos (by simp; omega) (Evt.pos (by omega) ?_))))
    have htk := chainOk_take n hok
    have hpre : c.take n <+: c := List.take_prefix _ _
    have hin : inn (c.take n) c = true := by
      simp only [inn, hok, htk, Bool.true_and]
      exact decide_eq_true hpre
    have hni : inn c (c.take n) = false := by
      have : ¬ c <+: c.take n := fun h => by have := h.length_le; rw [List.length_take] at this; omega
      simp only [inn, decide_eq_false this, Bool.and_false]
    have hbad : chainOk (c ++ [(⟨(rd_T34 c (n : Int)).f0, ⟨(rd_T34 c (n : Int)).f1.f0, (rd_T34 c (n : Int)).f1.f1, (rd_T34 c (n : Int)).f1.f2⟩⟩ : It)]) = false := by
      have hok' := hok
      simp only [chainOk, Bool.and_eq_true, decide_eq_true_iff] at hok'
      have hmem : rd_T34 c (n : Int) ∈ c := List.mem_of_getElem? (rdIt_get hn)
      have hle := (le_lastE hok'.1).2 _ hmem
      simp only [chainOk, okFrom_snoc]
      rw [decide_eq_false (show ¬ lastE 0 c < (rd_T34 c (n : Int)).f0 by omega)]
      simp
    refine Evt.bind (chainOk_impl (c.take n) (by rw [List.length_take]; omega)) fun t ht => ?_
    refine Evt.pos (by rw [ht, htk]) ?_
    refine Evt.bind (chainIn_impl (c.take n) c (by rw [List.length_take]; omega) (by omega)) fun t ht => ?_
    refine Evt.pos (by rw [ht, hin]) ?_
    refine Evt.bind (chainOk_impl _ (by simp; omega)) fun t ht => ?_
    refine Evt.neg (by rw [ht, List.nil_append, hbad]; decide) ?_
    exact Evt.bind (chainIn_impl c (c.take n) (by omega) (by rw [List.length_take]; omega)) fun t ht => Evt.now _ (by rw [ht, hni]; rfl)

end Go.Proofs.Ytpjkkcnceocipaa.Pure
