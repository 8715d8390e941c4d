/- A drawn chain, cut anywhere, is paid item by item; its book is valid; the book of no items is the first one. The plain part: what the printed functions compute answers true. Conditions: the argument fits the machine, as the row says. -/
import Derived.Test.YtbhaogmjcnnanaaPx0
import Derived.Test.YtbhaogmjcnnanaaPx19
import Derived.Test.YtbhaogmjcnnanaaPx40
import Derived.Test.YtbhaogmjcnnanaaFpaycases
import Derived.Test.YtbhaogmjcnnanaaFbookall
import Derived.Test.YtbhaogmjcnnanaaFlwints
import Derived.Test.YtbhaogmjcnnanaaFdrawbookof
import Derived.Test.YtbhaogmjcnnanaaPlain
namespace Go.Proofs.Ytbhaogmjcnnanaa.Pure
open Go.RowKit Go.Proofs.Ytbhaogmjcnnanaa.P Go.Proofs.YtbhaogmjcnnanaaW.PrintWords Go.Proofs.YtbhaogmjcnnanaaW.PrintLast Go.Proofs.YtbhaogmjcnnanaaW.PrintMore Go.Proofs.YtbhaogmjcnnanaaE
set_option linter.unusedVariables false
set_option linter.unusedSimpArgs false

theorem fnBookOf_end (m b : List Int) (c : List It) (hc : c.length ≤ 7) (hb : b = bookOf c) : Evt (fun k => laws_FnBookOf.j1 k m c b true) (fun r => r = true) := by
  refine Evt.step (fun k => by simp only [laws_FnBookOf.j1]; rw [if_pos trivial]) ?_
  refine Evt.bind (bookOf_spec c (by omega)) fun y hy => ?_
  exact Evt.bind (lwInts_ends b y (by rw [hb]; have := bookOf_length c; omega)) fun t ht => Evt.now _ (by rw [ht, hy, hb]; simp)
theorem payAll_take_succ {c : List It} {i : Nat} (h : i < c.length) (b : List Int) : payAll b (c.take (i + 1)) = payL (payAll b (c.take i)) (rd_T50 c (i : Int)).f1.f0 (rd_T50 c (i : Int)).f1.f1 (rd_T50 c (i : Int)).f1.f2 := by
  have e := rdIt_get h
  unfold payAll
  rw [List.take_add_one, e, List.foldl_append]
  rfl
theorem FnBookOf : laws_FnBookOf.Pure := by
  intro l m _ hw _ _
  have hl := bytes_of hw
  refine Evt.get ?_
  have hend : Evt (fun k => laws_FnBookOf.j0 k l m true) (fun r => r = true) := Evt.step (f := fun _ => some true) (fun k => by simp only [laws_FnBookOf.j0, if_true]) (Evt.now _ rfl)
  simp only [laws_FnBookOf.f]
  refine Evt.ite (fun _ => hend) (fun h => ?_)
  by_cases h2 : (m.length : Int) > 1048576
  · rw [decide_eq_true h2]
    exact hend
  rw [decide_eq_false h2]
  refine Evt.step (fun k => by simp only [laws_FnBookOf.j0]; rw [if_neg (by decide)]) ?_
  refine Evt.bind (drawBookOf_ends hl) fun c hc => ?_
  refine Evt.bind (bookOf_impl c (by omega)) fun b hb => ?_
  refine Evt.bind (bookOf_spec c (by omega)) fun y hy => ?_
  have hbl := bookOf_length c
  refine Evt.bind (lwInts_ends b y (by rw [hb]; omega)) fun t ht => ?_
  refine Evt.pos (by rw [ht, hb, hy]; simp) ?_
  cases hok : chainOk c with
  | false =>
    rw [show ((b.length : Int) == 0) = true by rw [hb]; simp [bookOf, hok]]
    exact fnBookOf_end m b c hc hb
  | true =>
    have hv := bookOf_ok hok
    rw [← hb] at hv
    have hb3 : b.length = 3 := book_len hv
    rw [show ((b.length : Int) == 0) = false by rw [hb3]; rfl]
    have w1 : wrap64 ((c.length : Int) + 1) = (c.length : Int) + 1 := wrap64_small (by omega) (by omega)
    refine Evt.step (fun k => by simp only [laws_FnBookOf.j1, w1]; rw [if_neg (by decide)]) ?_
    have hi : 0 ≤ (m.length : Int) % ((c.length : Int) + 1) := Int.emod_nonneg _ (by omega)
    have hj : (m.length : Int) % ((c.length : Int) + 1) < (c.length : Int) + 1 := Int.emod_lt_of_pos _ (by omega)
    generalize (m.length : Int) % ((c.length : Int) + 1) = i at hi hj
    refine Evt.neg (by omega) (Evt.pos hi (Evt.pos (by omega) ?_))
    obtain ⟨n, rfl⟩ := Int.eq_ofNat_of_zero_le hi
    refine Evt.bind (bookOf_impl (c.take n) (by simp; omega)) fun u hu => ?_
    rw [bookOf, if_pos (chainOk_take n hok)] at hu
    have key : ∀ (d i : Nat) (x : List Int), i + d = c.length → x = payAll [9, 9, 9] (c.take i) → Evt (fun k => laws_FnBookOf.l0 k c b x (i : Int)) (fun r => r = true) := by
      intro d
      induction d with
      | zero =>
        intro i x hd hx
        rw [List.take_of_length_le (by omega)] at hx
        have hxb : x = b := by rw [hx, hb, bookOf, if_pos hok]
        refine Evt.step (fun k => by simp only [laws_FnBookOf.l0]; rw [if_neg (by omega)]) ?_
        refine Evt.bind (lwInts_ends x b (by rw [hxb]; omega)) fun a ha => ?_
        refine Evt.pos (by rw [ha, hxb]; simp) ?_
        refine Evt.bind (bookOk_impl b (by omega)) fun e he => ?_
        refine Evt.pos (by rw [he, hv]) ?_
        refine Evt.bind (bookOf_impl [] (by simp)) fun e1 he1 => ?_
        simp only [impl_BookNew.f, Option.bind_some]
        have e0 : bookOf [] = [9, 9, 9] := rfl
        rw [e0] at he1
        subst he1
        exact Evt.bind (lwInts_ends [9, 9, 9] [9, 9, 9] (by simp)) fun e2 he2 => Evt.now _ (by rw [he2]; simp)
      | succ d ih =>
        intro i x hd hx
        have hxk : bookOk x = true := by
          rw [hx]
          exact payAll_ok (bookOk_of (by omega) (by omega) (by omega) (by omega)) (chain_items (chainOk_take i hok))
        refine Evt.step (fun k => by simp only [laws_FnBookOf.l0]; rw [if_pos (by omega), if_pos (by omega), wrap_succ (by omega)]) ?_
        refine Evt.bind (bookPay_impl x _ _ _ (by rw [book_len hxk]; omega)) fun u hu => ?_
        rw [bookPay_of hxk (chain_items hok _ (rdIt_mem (c := c) (i := i) (by omega)))] at hu
        exact ih (i + 1) u (by omega) (by rw [hu, hx, payAll_take_succ (by omega)])
    exact key (c.length - n) n u (by omega) hu

end Go.Proofs.Ytbhaogmjcnnanaa.Pure
