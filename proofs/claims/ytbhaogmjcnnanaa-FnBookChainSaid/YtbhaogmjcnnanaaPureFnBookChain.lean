/- Behind one more item a drawn chain's book is paid once more, and what is paid back leaves the first book. The plain part: what the printed functions compute answers true. Conditions: the argument fits the machine, as the row says. -/
import Derived.Test.YtbhaogmjcnnanaaPx0
import Derived.Test.YtbhaogmjcnnanaaPx19
import Derived.Test.YtbhaogmjcnnanaaPx22
import Derived.Test.YtbhaogmjcnnanaaPx32
import Derived.Test.YtbhaogmjcnnanaaPx38
import Derived.Test.YtbhaogmjcnnanaaFpaycases
import Derived.Test.YtbhaogmjcnnanaaFbookall
import Derived.Test.YtbhaogmjcnnanaaFlwints
import Derived.Test.YtbhaogmjcnnanaaFdrawbookof
import Derived.Test.YtbhaogmjcnnanaaPlain
namespace Go.Proofs.Ytbhaogmjcnnanaa.Pure
open Go.RowKit Go.Proofs.Ytbhaogmjcnnanaa.P Go.Proofs.YtbhaogmjcnnanaaW.PrintWords Go.Proofs.YtbhaogmjcnnanaaW.PrintLast Go.Proofs.YtbhaogmjcnnanaaW.PrintMore Go.Proofs.YtbhaogmjcnnanaaE
set_option linter.unusedVariables false
set_option linter.unusedSimpArgs false

theorem fnBookChain_end (b : List Int) (c : List It) (hc : c.length ≤ 7) (hb : b = bookOf c) : Evt (fun k => laws_FnBookChain.j0 k c b true) (fun r => r = true) := by
  refine Evt.step (fun k => by simp only [laws_FnBookChain.j0]; rw [if_pos trivial]) ?_
  refine Evt.bind (bookOf_spec c (by omega)) fun y hy => ?_
  exact Evt.bind (lwInts_ends b y (by rw [hb]; have := bookOf_length c; omega)) fun t ht => Evt.now _ (by rw [ht, hy, hb]; simp)
theorem lastE_rd (c : List It) (h : c ≠ []) : ∀ e, lastE e c = (rd_T50 c ((c.length - 1 : Nat) : Int)).f0 := by
  induction c with
  | nil => exact absurd rfl h
  | cons x xs ih =>
    intro e
    cases xs with
    | nil => rfl
    | cons y ys =>
      rw [lastE, ih (by simp)]
      rfl
theorem lastE_le {c : List It} : ∀ {e : Int}, okFrom e c = true → 0 ≤ e → e ≤ 30 → 0 ≤ lastE e c ∧ lastE e c ≤ 30 := by
  induction c with
  | nil => intro e _ h1 h2; exact ⟨h1, h2⟩
  | cons x xs ih =>
    intro e h _ _
    simp only [okFrom, itemOk, Bool.and_eq_true, decide_eq_true_iff] at h
    exact ih h.2.2 (by omega) (by omega)
theorem fnBookChain_last {c : List It} (hok : chainOk c = true) (hl : c.length ≤ 7) (e : Int) (he : e = lastE 0 c) : Evt (fun k => laws_FnBookChain.j1 k c (bookOf c) e) (fun r => r = true) := by
  have hok' := hok
  simp only [chainOk, Bool.and_eq_true, decide_eq_true_iff] at hok'
  obtain ⟨he0, he30⟩ := lastE_le hok'.1 (by omega) (by omega)
  rw [← he] at he0 he30
  have w1 : wrap64 (e + 1) = e + 1 := wrap64_small (by omega) (by omega)
  refine Evt.step (fun k => by
    simp only [laws_FnBookChain.j1, Option.bind_some, List.nil_append, List.length_nil, Nat.zero_add, w1]
    rw [if_pos (by omega), if_pos (by simp; omega)]) ?_
  have hfro : bookOf [(⟨1, ⟨2, 3, 4⟩⟩ : It), ⟨2, ⟨3, 2, 4⟩⟩] = [9, 9, 9] := by
    have hok2 : chainOk [(⟨1, ⟨2, 3, 4⟩⟩ : It), ⟨2, ⟨3, 2, 4⟩⟩] = true := by decide
    rw [bookOf, if_pos hok2]
    show payL (payL [9, 9, 9] 2 3 4) 3 2 4 = [9, 9, 9]
    rw [p23 (by omega) (by omega) (by omega), if_pos (by omega), p32 (by omega) (by omega) (by omega), if_pos (by omega)]
    rfl
  have last : Evt (fun k => (impl_BookOf.f k [(⟨1, ⟨2, 3, 4⟩⟩ : It), ⟨2, ⟨3, 2, 4⟩⟩]).bind fun t615 => ((impl_BookNew.f).bind fun t618 => ((laws_lwInts.f k t615 t618).bind fun t621 => (some t621)))) (fun r => r = true) := by
    refine Evt.bind (bookOf_impl _ (by simp)) fun u hu => ?_
    rw [hfro] at hu
    subst hu
    simp only [impl_BookNew.f, Option.bind_some]
    exact Evt.bind (lwInts_ends [9, 9, 9] [9, 9, 9] (by simp)) fun e2 he2 => Evt.now _ (by rw [he2]; simp)
  refine Evt.ite (fun _ => last) fun h30 => ?_
  have hnew : chainOk (c ++ [(⟨e + 1, ⟨2, 3, 4⟩⟩ : It)]) = true := by
    simp only [chainOk, okFrom_snoc, Bool.and_eq_true, decide_eq_true_iff]
    refine ⟨⟨hok'.1, ?_, ?_⟩, by simp; omega⟩
    · have hp : payOk 2 3 4 = true := by decide
      simp only [itemOk, hp, Bool.and_true, decide_eq_true_iff]
      omega
    · rw [← he]; omega
  refine Evt.bind (bookOf_impl _ (by simp; omega)) fun u hu => ?_
  refine Evt.bind (bookPay_impl _ 2 3 4 (by have := bookOf_length c; omega)) fun v hv => ?_
  rw [bookPay_of (bookOf_ok hok) (by decide)] at hv
  have huv : u = v := by
    rw [hu, hv]
    rw [bookOf, if_pos hnew, bookOf, if_pos hok]
    unfold payAll
    rw [List.foldl_append]
    rfl
  refine Evt.bind (lwInts_ends u v (by rw [hu]; have := bookOf_length (c ++ [(⟨e + 1, ⟨2, 3, 4⟩⟩ : It)]); omega)) fun t ht => ?_
  exact Evt.pos (by rw [ht, huv]; simp) last
theorem FnBookChain : laws_FnBookChain.Pure := by
  intro l _ hw
  have hl := bytes_of hw
  refine Evt.get ?_
  simp only [laws_FnBookChain.f]
  refine Evt.ite (fun _ => Evt.now _ rfl) fun h => ?_
  refine Evt.bind (drawBookOf_ends hl) fun c hc => ?_
  refine Evt.bind (bookOf_impl c (by omega)) fun b hb => ?_
  refine Evt.bind (bookOf_spec c (by omega)) fun y hy => ?_
  have hbl := bookOf_length c
  refine Evt.bind (lwInts_ends b y (by rw [hb]; omega)) fun t ht => ?_
  refine Evt.pos (by rw [ht, hb, hy]; simp) ?_
  refine Evt.ite (fun _ => fnBookChain_end b c hc hb) fun hne => ?_
  rw [decide_eq_false (show ¬ (c.length : Int) ≥ 16 by omega)]
  have hok : chainOk c = true := by
    cases hk : chainOk c with
    | true => rfl
    | false => exact absurd (by rw [hb]; simp [bookOf, hk]) hne
  subst hb
  refine Evt.step (fun k => by simp only [laws_FnBookChain.j0]; rw [if_neg (by decide)]) ?_
  refine Evt.ite (fun hpos => ?_) fun hn => ?_
  · have w : wrap64 ((c.length : Int) - 1) = ((c.length - 1 : Nat) : Int) := by unfold wrap64; omega
    rw [w]
    refine Evt.pos (by omega) (Evt.pos (by omega) ?_)
    exact fnBookChain_last hok hc _ (lastE_rd c (by rintro rfl; simp at hpos) 0).symm
  · have : c = [] := List.eq_nil_of_length_eq_zero (by omega)
    subst this
    exact fnBookChain_last hok hc 0 rfl

end Go.Proofs.Ytbhaogmjcnnanaa.Pure
