/- To begin is an order among drawn chains: each begins itself, the one of no items begins all, two that begin each other are the same, and two that begin a third begin one another. The plain part: what the printed functions compute answers true. Conditions: the argument fits the machine, as the row says. -/
import Derived.Test.YtkkfokcbbhnjeaaPx9
import Derived.Test.YtkkfokcbbhnjeaaFAll
import Derived.Test.YtkkfokcbbhnjeaaPlain
namespace Go.Proofs.Ytkkfokcbbhnjeaa.Pure
open Go.RowKit Go.Proofs.Ytkkfokcbbhnjeaa.P Go.Proofs.YtkkfokcbbhnjeaaW.PrintWords Go.Proofs.YtkkfokcbbhnjeaaW.PrintLast Go.Proofs.YtkkfokcbbhnjeaaW.PrintMore Go.Proofs.YtkkfokcbbhnjeaaE
set_option linter.unusedVariables false
set_option linter.unusedSimpArgs false

theorem fnChainIn_end (m : List Int) (a b : List It) (x : Bool) (ha : a.length ≤ 9) (hb : b.length ≤ 9) (hx : x = inn a b) : Evt (fun k => laws_FnChainIn.j1 k m a b x true) (fun r => r = true):=by
  refine Evt.step (fun k => by simp only [laws_FnChainIn.j1];rw [if_pos trivial]) ?_
  exact Evt.bind (chainIn_spec a b (by omega) (by omega)) fun t ht => Evt.now _ (by rw [ht,hx];simp)
theorem FnChainIn : laws_FnChainIn.Pure:=by
  intro l m _ hw _ _
  have hl:=bytes_of hw
  refine Evt.get ?_
  have hend : Evt (fun k => laws_FnChainIn.j0 k l m true) (fun r => r = true):=Evt.step (f:=fun _ => some true) (fun k => by simp only [laws_FnChainIn.j0,if_true]) (Evt.now _ rfl)
  simp only [laws_FnChainIn.f]
  refine Evt.ite (fun _ => hend) (fun h => ?_)
  by_cases h2 : (m.length : Int) > 1048576
  · rw [decide_eq_true h2]
    exact hend
  rw [decide_eq_false h2]
  refine Evt.step (fun k => by simp only [laws_FnChainIn.j0];rw [if_neg (by decide)]) ?_
  refine Evt.bind (drawChainIn_ends hl) fun d hd => ?_
  obtain ⟨a,b⟩:=d
  obtain ⟨ha,hb⟩:=hd
  simp only at ha hb ⊢
  refine Evt.bind (chainIn_impl a b (by omega) (by omega)) fun x hx => ?_
  refine Evt.bind (chainIn_spec a b (by omega) (by omega)) fun y hy => ?_
  refine Evt.neg (by rw [hx,hy];simp) ?_
  refine Evt.bind (chainOk_spec a (by omega)) fun s hs => ?_
  cases h1 : chainOk a with
  | false => exact Evt.neg (by rw [hs,h1];decide) (fnChainIn_end m a b x ha hb hx)
  | true =>
    refine Evt.pos (by rw [hs,h1]) (Evt.bind (chainOk_spec b (by omega)) fun s hs => ?_)
    cases h3 : chainOk b with
    | false => rw [hs,h3];exact fnChainIn_end m a b x ha hb hx
    | true =>
      rw [hs,h3]
      have hin : x = decide (a <+: b):=by rw [hx];simp [inn,h1,h3]
      have last : Evt (fun k => laws_FnChainIn.j2 k m a b x false) (fun r => r = true):=by
        have w1 : wrap64 ((b.length : Int) + 1) = (b.length : Int) + 1:=wrap64_small (by omega) (by omega)
        refine Evt.step (fun k => by simp only [laws_FnChainIn.j2,w1];rw [if_neg (by decide)]) ?_
        have hi : 0 ≤ (m.length : Int) % ((b.length : Int) + 1):=Int.emod_nonneg _ (by omega)
        have hj : (m.length : Int) % ((b.length : Int) + 1) < (b.length : Int) + 1:=Int.emod_lt_of_pos _ (by omega)
        generalize (m.length : Int) % ((b.length : Int) + 1) = i at hi hj
        refine Evt.neg (by omega) (Evt.pos hi (Evt.pos (by omega) ?_))
        simp only [Option.bind_some]
        refine Evt.ite (fun hx1 => ?_) fun _ => Evt.now _ rfl
        have hab : a <+: b:=by rw [hin] at hx1;exact of_decide_eq_true hx1
        have hcb : b.take i.toNat <+: b:=List.take_prefix _ _
        have hck:=chainOk_take i.toNat h3
        have hcl : (b.take i.toNat).length ≤ 9:=by rw [List.length_take];omega
        generalize b.take i.toNat = c at hcb hck hcl
        refine Evt.bind (chainIn_impl a c (by omega) (by omega)) fun t ht => ?_
        refine Evt.ite (fun _ => Evt.now _ rfl) fun hn => ?_
        refine Evt.bind (chainIn_impl c a (by omega) (by omega)) fun u hu => Evt.now _ ?_
        rw [hu]
        rcases List.prefix_or_prefix_of_prefix hab hcb with h5|h5
        · exact absurd (by rw [ht];simp [inn,h1,hck,h5]) hn
        · simp [inn,h1,hck,h5]
      refine Evt.step (fun k => by simp only [laws_FnChainIn.j1];rw [if_neg (by decide)]) ?_
      refine Evt.bind (chainIn_impl a a (by omega) (by omega)) fun t ht => ?_
      refine Evt.pos (by rw [ht];simp [inn,h1]) ?_
      refine Evt.bind (chainIn_impl [] a (by simp) (by omega)) fun t ht => ?_
      refine Evt.pos (by rw [ht];have h0 : chainOk [] = true:=rfl;simp [inn,h1,h0]) ?_
      refine Evt.ite (fun hx1 => ?_) fun _ => last
      refine Evt.bind (chainIn_impl b a (by omega) (by omega)) fun t ht => ?_
      refine Evt.ite (fun ht1 => ?_) fun _ => last
      refine Evt.bind (lwSame_ends a b (by omega)) fun v hv => ?_
      have hab : a <+: b:=by rw [hin] at hx1;exact of_decide_eq_true hx1
      have hba : b <+: a:=by rw [ht] at ht1;simpa [inn,h1,h3] using ht1
      have : a = b:=hab.eq_of_length (Nat.le_antisymm hab.length_le hba.length_le)
      rw [hv,decide_eq_true this]
      exact last

end Go.Proofs.Ytkkfokcbbhnjeaa.Pure
