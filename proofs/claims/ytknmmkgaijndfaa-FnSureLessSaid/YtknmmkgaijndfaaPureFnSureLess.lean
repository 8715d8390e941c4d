/- Each beginning of a drawn chain that is sure is sure, and so is the one of no items. The plain part: what the printed functions compute answers true. Conditions: the argument fits the machine, as the row says. -/
import Derived.Test.YtknmmkgaijndfaaPx12
import Derived.Test.YtknmmkgaijndfaaFAll
import Derived.Test.YtknmmkgaijndfaaPlain
namespace Go.Proofs.Ytknmmkgaijndfaa.Pure
open Go.RowKit Go.Proofs.Ytknmmkgaijndfaa.P Go.Proofs.YtknmmkgaijndfaaW.PrintWords Go.Proofs.YtknmmkgaijndfaaW.PrintLast Go.Proofs.YtknmmkgaijndfaaW.PrintMore Go.Proofs.YtknmmkgaijndfaaE
set_option linter.unusedVariables false
set_option linter.unusedSimpArgs false

theorem FnSureLess : laws_FnSureLess.Pure:=by
  intro l m _ hw _ _
  have hl:=bytes_of hw
  refine Evt.get ?_
  have hend : Evt (fun k => laws_FnSureLess.j0 k l m true) (fun r => r = true):=Evt.step (f:=fun _ => some true) (fun k => by simp only [laws_FnSureLess.j0,if_true]) (Evt.now _ rfl)
  simp only [laws_FnSureLess.f]
  refine Evt.ite (fun _ => hend) (fun h => ?_)
  by_cases h2 : (m.length : Int) > 1048576
  · rw [decide_eq_true h2]
    exact hend
  rw [decide_eq_false h2]
  refine Evt.step (fun k => by simp only [laws_FnSureLess.j0];rw [if_neg (by decide)]) ?_
  refine Evt.bind (drawTree_ends hl) fun d hd => ?_
  obtain ⟨v,c⟩:=d
  obtain ⟨hv,hc⟩:=hd
  simp only at hv hc ⊢
  have hvl:=hv.1
  have hvb:=hv.big
  have fin : ∀ x,x = treeSure v c → Evt (fun k => laws_FnSureLess.j1 k m v c x true) (fun r => r = true):=by
    intro x hx
    refine Evt.step (fun k => by simp only [laws_FnSureLess.j1];rw [if_pos trivial]) ?_
    exact Evt.bind (treeSure_spec v c (by omega) hvb (by omega)) fun t ht => Evt.now _ (by rw [ht,hx];simp)
  refine Evt.bind (treeSure_impl v c (by omega) hvb (by omega)) fun a ha => ?_
  refine Evt.bind (treeSure_spec v c (by omega) hvb (by omega)) fun b hb => ?_
  refine Evt.neg (by rw [ha,hb];simp) ?_
  cases hok : a with
  | false => rw [hok] at ha;exact fin false ha
  | true =>
    rw [hok] at ha
    have hts:=ha.symm
    simp only [treeSure,Bool.and_eq_true] at hts
    obtain ⟨hvok,hcok,hsure⟩:=hts
    have w1 : wrap64 ((c.length : Int) + 1) = (c.length : Int) + 1:=wrap64_small (by omega) (by omega)
    have hi : 0 ≤ (m.length : Int) % ((c.length : Int) + 1):=Int.emod_nonneg _ (by omega)
    have hj : (m.length : Int) % ((c.length : Int) + 1) < (c.length : Int) + 1:=Int.emod_lt_of_pos _ (by omega)
    refine Evt.step (fun k => by simp only [laws_FnSureLess.j1,w1];rw [if_neg (by decide),if_neg (by omega)]) ?_
    generalize (m.length : Int) % ((c.length : Int) + 1) = i at hi hj
    obtain ⟨n,rfl⟩:=Int.eq_ofNat_of_zero_le hi
    have htl : (c.take n).length ≤ 16:=by rw [List.length_take];omega
    have last : Evt (fun k => laws_FnSureLess.j2 k v c (n : Int) false) (fun r => r = true):=by
      refine Evt.step (fun k => by simp only [laws_FnSureLess.j2,Int.toNat_natCast];rw [if_neg (by decide),if_pos (by omega),if_pos (by omega)]) ?_
      refine Evt.bind (treeSure_impl v (c.take n) (by omega) hvb (by omega)) fun t ht => ?_
      refine Evt.pos (by rw [ht];simp [treeSure,hvok,chainOk_take n hcok,sureC_take hsure n]) ?_
      refine Evt.bind (treeSure_impl v [] (by omega) hvb (by simp)) fun t ht => Evt.now _ ?_
      have h0 : chainOk [] = true:=rfl
      have h1 : sureC v [] = true:=rfl
      rw [ht]
      simp [treeSure,hvok,h0,h1]
    refine Evt.ite (fun hpos => Evt.pos (by omega) (Evt.pos (by omega) ?_)) fun _ => last
    rw [Int.toNat_natCast]
    refine Evt.bind (votesFor_impl v (c.take n) (by omega) hvb (by omega)) fun u hu => ?_
    have hm : manyC v (c.take n) = u.length:=by rw [hu,many_for' hvok];simp only [votesFor,hvok,if_true]
    have h3:=(sureC_iff v c).1 hsure (n - 1) (by omega)
    rw [Nat.sub_add_cancel (by omega)] at h3
    rw [decide_eq_false (show ¬ (u.length : Int) < 3 by omega)]
    exact last

end Go.Proofs.Ytknmmkgaijndfaa.Pure
