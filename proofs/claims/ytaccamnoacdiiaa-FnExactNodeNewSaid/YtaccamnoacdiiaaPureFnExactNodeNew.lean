/- The program's NodeNew and the reference's answer the same for every number; there is nothing in the answer that could be shared. The plain part: what the printed functions compute answers true. Conditions: the argument fits the machine, as the row says. -/
import Derived.Test.YtaccamnoacdiiaaPx0
import Derived.Test.YtaccamnoacdiiaaPx2
import Derived.Test.YtaccamnoacdiiaaPx3
import Derived.Test.YtaccamnoacdiiaaPx4
import Derived.Test.YtaccamnoacdiiaaPx5
import Derived.Test.YtaccamnoacdiiaaFAll
import Derived.Test.YtaccamnoacdiiaaPlain
namespace Go.Proofs.Ytaccamnoacdiiaa.Pure
open Go.RowKit Go.Proofs.Ytaccamnoacdiiaa.P Go.Proofs.YtaccamnoacdiiaaW.PrintWords Go.Proofs.YtaccamnoacdiiaaW.PrintLast Go.Proofs.YtaccamnoacdiiaaW.PrintMore Go.Proofs.YtaccamnoacdiiaaE
set_option linter.unusedVariables false
set_option linter.unusedSimpArgs false

theorem nodeOk_eq (n : Int) : impl_nodeOk.f n = some (decide (1 ≤ n ∧ n ≤ 4)):=by
  unfold impl_nodeOk.f
  rw [within_eq]
  rfl
theorem heldNil (k : Nat) (a b c q : Int) (h : 0 ≤ q) : laws_heldNode.f (k + 1) a b c [] q = some q:=by
  have e : laws_heldVoteS.f (k + 1) [] q = some q:=rfl
  unfold laws_heldNode.f
  rw [e]
  show (if q < 0 then some (-1) else some q) = some q
  rw [if_neg (by omega)]
theorem held_ends (a b c q : Int) (h : 0 ≤ q) : Evt (fun k => laws_heldNode.f k a b c [] q) (fun r => r = q) :=
  Evt.step (f:=fun _ => some q) (fun k => heldNil k a b c q h) (Evt.now _ rfl)
theorem eqNode_ends (a b c : Int) : Evt (fun k => laws_eqNode.f k a b c [] a b c []) (fun r => r = true):=by
  refine Evt.step (f:=fun _ => some true) (fun k => ?_) (Evt.now _ rfl)
  have e : laws_eqVoteS.f (k + 1) [] [] = some true:=rfl
  unfold laws_eqNode.f
  rw [if_pos rfl,if_pos rfl,if_pos rfl,e]
  rfl
theorem FnExactNodeNew : laws_FnExactNodeNew.Pure:=by
  intro n _
  refine Evt.get ?_
  have hspec : spec_NodeNew.f n = some (if decide (1 ≤ n ∧ n ≤ 4) = true then (n,0,0,[],true) else (0,0,0,[],false)):=by
    unfold spec_NodeNew.f
    rw [l6In_eq]
    show (if decide (1 ≤ n ∧ n ≤ 4) = true then _ else _) = _
    split <;> rfl
  have himpl : impl_NodeNew.f n = some (if decide (1 ≤ n ∧ n ≤ 4) = true then (n,0,0,[],true) else (0,0,0,[],false)):=by
    unfold impl_NodeNew.f
    rw [nodeOk_eq]
    show (if decide (1 ≤ n ∧ n ≤ 4) = true then _ else _) = _
    split <;> rfl
  obtain ⟨m,b,hv⟩ : ∃ m b,(if decide (1 ≤ n ∧ n ≤ 4) = true then (n,(0 : Int),(0 : Int),([] : List S25),true) else (0,0,0,[],false)) = (m,(0 : Int),(0 : Int),([] : List S25),b):=by
    split
    · exact ⟨_,_,rfl⟩
    · exact ⟨_,_,rfl⟩
  rw [hv] at hspec himpl
  simp only [laws_FnExactNodeNew.f,hspec,himpl]
  refine Evt.bind (P:=fun r => r = (m,(0 : Int),(0 : Int),([] : List S25),b)) (Evt.now _ rfl) fun x hx => ?_
  refine Evt.bind (P:=fun r => r = (m,(0 : Int),(0 : Int),([] : List S25),b)) (Evt.now _ rfl) fun y hy => ?_
  subst hx hy
  refine Evt.bind (eqNode_ends m 0 0) fun t ht => ?_
  refine Evt.pos ht ?_
  have hb : (b != b) = false:=by simp
  simp only [hb]
  refine Evt.step (fun k => by simp only [laws_FnExactNodeNew.j0,himpl];rw [if_neg (by decide)]) ?_
  refine Evt.bind (P:=fun r => r = 1) (Evt.now _ rfl) fun p hp => ?_
  subst hp
  refine Evt.bind (held_ends m 0 0 1 (by omega)) fun q hq => ?_
  subst hq
  refine Evt.neg (by omega) (Evt.pos rfl ?_)
  refine Evt.bind (P:=fun r => r = (m,(0 : Int),(0 : Int),([] : List S25),b)) (Evt.now _ rfl) fun y hy => ?_
  subst hy
  refine Evt.bind (eqNode_ends m 0 0) fun t ht => ?_
  refine Evt.pos ht ?_
  simp only [hb]
  refine Evt.step (fun k => by simp only [laws_FnExactNodeNew.j1];rw [if_neg (by decide)]) ?_
  refine Evt.bind (held_ends m 0 0 1 (by omega)) fun q hq => ?_
  subst hq
  exact Evt.neg (by omega) (Evt.pos rfl (Evt.now _ rfl))

end Go.Proofs.Ytaccamnoacdiiaa.Pure
