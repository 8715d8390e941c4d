/- The program's BookPay and the reference's answer the same for every ledger and payment, the ledger is left as it was; the answer shares no memory with it nor with another answer. The plain part: what the printed functions compute answers true. Conditions: the argument fits the machine, as the row says. -/
import Derived.Test.YtkkfokcbbhnjeaaXBook
import Derived.Test.YtkkfokcbbhnjeaaFAll
import Derived.Test.YtkkfokcbbhnjeaaPlain
namespace Go.Proofs.Ytkkfokcbbhnjeaa.Pure
open Go.RowKit Go.Proofs.Ytkkfokcbbhnjeaa.P Go.Proofs.YtkkfokcbbhnjeaaW.PrintWords Go.Proofs.YtkkfokcbbhnjeaaW.PrintLast Go.Proofs.YtkkfokcbbhnjeaaW.PrintMore Go.Proofs.YtkkfokcbbhnjeaaE
set_option linter.unusedVariables false
set_option linter.unusedSimpArgs false

theorem bookPay_len (l : List Int) (a b c : Int) : (bookPay l a b c).length ≤ l.length:=by
  unfold bookPay
  split
  · split
    · rw [payL_length];omega
    · simp
  · simp
theorem FnExactBookPay : laws_FnExactBookPay.Pure:=by
  intro l a b c _ _
  refine Evt.get ?_
  simp only [laws_FnExactBookPay.f]
  refine Evt.ite (fun _ => Evt.now _ rfl) fun h => ?_
  have hl : l.length ≤ 1048576:=by omega
  have hp:=bookPay_len l a b c
  refine Evt.bind (toIntS_ends l hl) fun x hx => ?_
  subst hx
  refine Evt.bind (P:=fun r => r = (a,b,c)) (Evt.now _ rfl) fun y hy => ?_
  subst hy
  refine Evt.bind (bookPay_spec _ _ _ _ hl) fun s hs => ?_
  refine Evt.bind (toIntS_ends _ hl) fun x hx => ?_
  subst hx
  refine Evt.bind (P:=fun r => r = (a,b,c)) (Evt.now _ rfl) fun y hy => ?_
  subst hy
  refine Evt.bind (bookPay_impl _ _ _ _ hl) fun t ht => ?_
  subst hs ht
  refine Evt.bind (eqIntS_ends _ _ (by first|omega|exact Nat.le_trans (bookPay_len _ _ _ _) (by omega)|(simp only;omega))) fun e he => ?_
  refine Evt.pos (by rw [he];simp) ?_
  refine Evt.bind (toIntS_ends _ hl) fun x hx => ?_
  subst hx
  refine Evt.bind (eqIntS_ends _ _ (by first|omega|exact Nat.le_trans (bookPay_len _ _ _ _) (by omega)|(simp only;omega))) fun e he => ?_
  refine Evt.pos (by rw [he];simp) ?_
  refine Evt.bind (markIntS_ends _ 1 (by omega) (by omega) hl) fun m hm => ?_
  subst hm
  refine Evt.neg (by simp only;omega) ?_
  refine Evt.bind (eqIntS_ends _ _ (by first|omega|exact Nat.le_trans (bookPay_len _ _ _ _) (by omega)|(simp only;omega))) fun e he => ?_
  rw [he,decide_eq_true rfl]
  refine Evt.step (fun k => by simp only [laws_FnExactBookPay.j0];rw [if_neg (by decide)]) ?_
  refine Evt.bind (markIntS_ends _ 1 (by omega) (by omega) (by omega)) fun m hm => ?_
  subst hm
  refine Evt.bind (heldIntS_ends _ 1 (by omega) (by omega) (by omega)) fun q hq => ?_
  subst hq
  refine Evt.neg (by omega) (Evt.pos rfl ?_)
  refine Evt.bind (toIntS_ends _ hl) fun x hx => ?_
  subst hx
  refine Evt.bind (P:=fun r => r = (a,b,c)) (Evt.now _ rfl) fun y hy => ?_
  subst hy
  refine Evt.bind (bookPay_impl _ _ _ _ hl) fun t ht => ?_
  subst ht
  refine Evt.bind (eqIntS_ends _ _ (by first|omega|exact Nat.le_trans (bookPay_len _ _ _ _) (by omega)|(simp only;omega))) fun e he => ?_
  refine Evt.pos (by rw [he];simp) ?_
  refine Evt.bind (heldIntS_ends _ 1 (by omega) (by omega) (by omega)) fun q hq => ?_
  subst hq
  exact Evt.neg (by omega) (Evt.pos rfl (Evt.now _ rfl))

end Go.Proofs.Ytkkfokcbbhnjeaa.Pure
