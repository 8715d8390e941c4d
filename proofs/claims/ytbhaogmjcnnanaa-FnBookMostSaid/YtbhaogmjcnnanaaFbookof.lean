/- Plain facts on what the printed functions compute (bookof). Conditions: each theorem's own. -/
import Derived.Test.YtbhaogmjcnnanaaPx0
import Derived.Test.YtbhaogmjcnnanaaPx14
import Derived.Test.YtbhaogmjcnnanaaPx19
import Derived.Test.YtbhaogmjcnnanaaPx32
import Derived.Test.YtbhaogmjcnnanaaFbookpay
import Derived.Test.YtbhaogmjcnnanaaFchain
import Derived.Test.YtbhaogmjcnnanaaPlain
namespace Go.Proofs.Ytbhaogmjcnnanaa.Pure
open Go.RowKit Go.Proofs.Ytbhaogmjcnnanaa.P Go.Proofs.YtbhaogmjcnnanaaW.PrintWords Go.Proofs.YtbhaogmjcnnanaaW.PrintLast Go.Proofs.YtbhaogmjcnnanaaW.PrintMore Go.Proofs.YtbhaogmjcnnanaaE
set_option linter.unusedVariables false
set_option linter.unusedSimpArgs false

def payAll (b : List Int) (c : List It) : List Int := c.foldl (fun b x => payL b x.f1.f0 x.f1.f1 x.f1.f2) b
def bookOf (c : List It) : List Int := if chainOk c = true then payAll [9, 9, 9] c else []
theorem payAll_length (c : List It) : ∀ b, (payAll b c).length = b.length := by
  induction c with
  | nil => intro b; rfl
  | cons x xs ih => intro b; exact (ih _).trans (payL_length _ _ _ _)
theorem okFrom_item {e : Int} {c : List It} (h : okFrom e c = true) : ∀ x, x ∈ c → itemOk x = true := by
  induction c generalizing e with
  | nil => intro x hx; cases hx
  | cons y ys ih =>
    intro x hx
    simp only [okFrom, Bool.and_eq_true] at h
    rcases List.mem_cons.1 hx with rfl | hx
    · exact h.1
    · exact ih h.2.2 x hx
theorem item_pay {x : It} (h : itemOk x = true) : payOk x.f1.f0 x.f1.f1 x.f1.f2 = true := by
  simp only [itemOk, Bool.and_eq_true] at h
  exact h.2
theorem chain_items {c : List It} (h : chainOk c = true) : ∀ x, x ∈ c → payOk x.f1.f0 x.f1.f1 x.f1.f2 = true := by
  simp only [chainOk, Bool.and_eq_true] at h
  exact fun x hx => item_pay (okFrom_item h.1 x hx)
theorem chain_len {c : List It} (h : chainOk c = true) : c.length ≤ 16 := by
  simp only [chainOk, Bool.and_eq_true, decide_eq_true_iff] at h
  exact h.2
theorem rdIt_mem {c : List It} {i : Nat} (h : i < c.length) : rd_T50 c (i : Int) ∈ c := List.mem_of_getElem? (rdIt_get h)
theorem bookOf_impl (c : List It) (hl : c.length ≤ 4611686018427387900) : Evt (fun k => impl_BookOf.f k c) (fun r => r = bookOf c) := by
  simp only [impl_BookOf.f]
  refine Evt.bind (chainOk_impl c hl) fun t ht => ?_
  rw [ht]
  cases hc : chainOk c with
  | false => exact Evt.neg (by decide) (Evt.now _ (by simp [bookOf, hc]))
  | true =>
    refine Evt.pos rfl ?_
    have hi := chain_items hc
    have key : ∀ (d i : Nat) (b : List Int), i + d = c.length → b.length = 3 → Evt (fun k => impl_BookOf.l0 k b c (c.length : Int) (i : Int)) (fun r => r = payAll b (c.drop i)) := by
      intro d
      induction d with
      | zero =>
        intro i b hd hb
        rw [List.drop_eq_nil_of_le (by omega)]
        exact Evt.step (f := fun _ => some b) (fun k => by simp only [impl_BookOf.l0]; rw [if_neg (by omega)]) (Evt.now _ rfl)
      | succ d ih =>
        intro i b hd hb
        rw [drop_it (l := c) (i := i) (by omega)]
        obtain ⟨h1, h2, _⟩ := payOk_iff.1 (hi _ (rdIt_mem (c := c) (i := i) (by omega)))
        refine Evt.step (f := fun k => impl_BookOf.l0 k (payL b (rd_T50 c (i : Int)).f1.f0 (rd_T50 c (i : Int)).f1.f1 (rd_T50 c (i : Int)).f1.f2) c (c.length : Int) ((i + 1 : Nat) : Int)) (fun k => by
          simp only [impl_BookOf.l0]
          rw [if_pos (by omega), if_pos (by omega), if_pos (by omega), pay_impl _ hb h1 h2, Option.bind_some, wrap_succ (by omega)]) ?_
        exact (ih (i + 1) _ (by omega) (by rw [payL_length]; exact hb)).mono fun r hr => by rw [hr]; rfl
    simp only [impl_BookNew.f, Option.bind_some]
    refine (key c.length 0 [9, 9, 9] (by omega) rfl).mono fun r hr => ?_
    rw [hr]
    simp [bookOf, hc]
theorem bookOf_spec (c : List It) (hl : c.length ≤ 4611686018427387900) : Evt (fun k => spec_BookOf.f k c) (fun r => r = bookOf c) := by
  simp only [spec_BookOf.f]
  refine Evt.bind (chainOk_spec c hl) fun t ht => ?_
  rw [ht]
  cases hc : chainOk c with
  | false => exact Evt.neg (by decide) (Evt.now _ (by simp [bookOf, hc]))
  | true =>
    refine Evt.pos rfl ?_
    have hi := chain_items hc
    have key : ∀ (d i : Nat) (b : List Int), i + d = c.length → b.length = 3 → Evt (fun k => spec_BookOf.l0 k c b (i : Int)) (fun r => r = payAll b (c.drop i)) := by
      intro d
      induction d with
      | zero =>
        intro i b hd hb
        rw [List.drop_eq_nil_of_le (by omega)]
        exact Evt.step (f := fun _ => some b) (fun k => by simp only [spec_BookOf.l0]; rw [if_neg (by omega)]) (Evt.now _ rfl)
      | succ d ih =>
        intro i b hd hb
        rw [drop_it (l := c) (i := i) (by omega)]
        obtain ⟨h1, h2, _⟩ := payOk_iff.1 (hi _ (rdIt_mem (c := c) (i := i) (by omega)))
        refine Evt.step (f := fun k => spec_BookOf.l0 k c (payL b (rd_T50 c (i : Int)).f1.f0 (rd_T50 c (i : Int)).f1.f1 (rd_T50 c (i : Int)).f1.f2) ((i + 1 : Nat) : Int)) (fun k => by
          simp only [spec_BookOf.l0]
          rw [if_pos (by omega), if_pos (by omega), pay_spec _ hb h1 h2, Option.bind_some, wrap_succ (by omega)]) ?_
        exact (ih (i + 1) _ (by omega) (by rw [payL_length]; exact hb)).mono fun r hr => by rw [hr]; rfl
    simp only [spec_BookNew.f, Option.bind_some]
    refine (key c.length 0 [9, 9, 9] (by omega) rfl).mono fun r hr => ?_
    rw [hr]
    simp [bookOf, hc]

end Go.Proofs.Ytbhaogmjcnnanaa.Pure
