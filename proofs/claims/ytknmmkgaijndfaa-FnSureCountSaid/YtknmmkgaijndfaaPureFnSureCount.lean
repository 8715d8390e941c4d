/- A drawn chain is sure just if enough voted for each of its beginnings. The plain part: what the printed functions compute answers true. Conditions: the argument fits the machine, as the row says. -/
import Derived.Test.YtknmmkgaijndfaaPx12
import Derived.Test.YtknmmkgaijndfaaFAll
import Derived.Test.YtknmmkgaijndfaaPlain
namespace Go.Proofs.Ytknmmkgaijndfaa.Pure
open Go.RowKit Go.Proofs.Ytknmmkgaijndfaa.P Go.Proofs.YtknmmkgaijndfaaW.PrintWords Go.Proofs.YtknmmkgaijndfaaW.PrintLast Go.Proofs.YtknmmkgaijndfaaW.PrintMore Go.Proofs.YtknmmkgaijndfaaE
set_option linter.unusedVariables false
set_option linter.unusedSimpArgs false

theorem FnSureCount : laws_FnSureCount.Pure:=by
  intro l _ hw
  have hl:=bytes_of hw
  refine Evt.get ?_
  simp only [laws_FnSureCount.f]
  refine Evt.ite (fun _ => Evt.now _ rfl) fun _ => ?_
  refine Evt.bind (drawTree_ends hl) fun d hd => ?_
  obtain ⟨v,c⟩:=d
  obtain ⟨hv,hc⟩:=hd
  simp only at hv hc ⊢
  have hvl:=hv.1
  have hvb:=hv.big
  have fin : ∀ x,x = treeSure v c → Evt (fun k => laws_FnSureCount.j0 k v c x true) (fun r => r = true):=by
    intro x hx
    refine Evt.step (fun k => by simp only [laws_FnSureCount.j0];rw [if_pos trivial]) ?_
    exact Evt.bind (treeSure_spec v c (by omega) hvb (by omega)) fun t ht => Evt.now _ (by rw [ht,hx];simp)
  refine Evt.bind (treeSure_impl v c (by omega) hvb (by omega)) fun a ha => ?_
  refine Evt.bind (treeSure_spec v c (by omega) hvb (by omega)) fun b hb => ?_
  refine Evt.neg (by rw [ha,hb];simp) ?_
  refine Evt.bind (votesOk_spec v (by omega) hvb) fun s hs => ?_
  refine Evt.ite (fun h1 => ?_) fun _ => fin a ha
  refine Evt.bind (chainOk_spec c (by omega)) fun t ht => ?_
  cases h2 : t with
  | false => exact fin a ha
  | true =>
    have hvok : votesOk v = true:=by rw [← hs];exact h1
    have hcok : chainOk c = true:=by rw [← ht];exact h2
    have key : ∀ (d i : Nat) (can : Bool),i + d = c.length + 1 → Evt (fun k => laws_FnSureCount.l0 k v c a can (i : Int)) (fun r => r = true ↔ (a = true ↔ can = true ∧ ∀ j,i ≤ j → j ≤ c.length → 3 ≤ manyC v (c.take j))):=by
      intro d
      induction d with
      | zero =>
        intro i can hd
        refine Evt.step (f:=fun _ => some (a == can)) (fun k => by simp only [laws_FnSureCount.l0];rw [if_neg (by omega)]) (Evt.now _ ?_)
        have h0 : (∀ j,i ≤ j → j ≤ c.length → 3 ≤ manyC v (c.take j)):=fun j h3 h4 => by omega
        rw [show (can = true ∧ ∀ j,i ≤ j → j ≤ c.length → 3 ≤ manyC v (c.take j)) ↔ can = true from ⟨And.left,fun h => ⟨h,h0⟩⟩]
        cases a <;> cases can <;> simp
      | succ d ih =>
        intro i can hd
        refine Evt.step (fun k => by simp only [laws_FnSureCount.l0];rw [if_pos (by omega),wrap_succ (by omega),Int.toNat_natCast]) ?_
        refine Evt.ite (fun hcan => Evt.pos (by omega) ?_) fun hcan => (ih (i + 1) false (by omega)).mono fun r hr => hr.trans ?_
        · refine Evt.bind (votesFor_impl v (c.take i) (by omega) hvb (by rw [List.length_take];omega)) fun u hu => (ih (i + 1) _ (by omega)).mono fun r hr => hr.trans ?_
          have hm : manyC v (c.take i) = u.length:=by rw [hu,many_for' hvok];simp only [votesFor,hvok,if_true]
          have e : (decide ((u.length : Int) ≥ 3) = true) ↔ 3 ≤ manyC v (c.take i):=by rw [decide_eq_true_iff,hm];omega
          rw [e]
          constructor
          · intro h
            refine h.trans ⟨fun h3 => ⟨hcan,fun j h4 h5 => ?_⟩,fun h3 => ⟨h3.2 i (Nat.le_refl _) (by omega),fun j h4 h5 => h3.2 j (by omega) h5⟩⟩
            by_cases h6 : j = i
            · rw [h6];exact h3.1
            · exact h3.2 j (by omega) h5
          · intro h
            refine h.trans ⟨fun h3 => ⟨h3.2 i (Nat.le_refl _) (by omega),fun j h4 h5 => h3.2 j (by omega) h5⟩,fun h3 => ⟨hcan,fun j h4 h5 => ?_⟩⟩
            by_cases h6 : j = i
            · rw [h6];exact h3.1
            · exact h3.2 j (by omega) h5
        · simp [hcan]
    refine Evt.step (fun k => by simp only [laws_FnSureCount.j0];rw [if_neg (by decide)]) ?_
    refine (key c.length 1 true (by omega)).mono fun r hr => hr.2 ?_
    have e : a = sureC v c:=by rw [ha,treeSure,hvok,hcok];rfl
    rw [e,sureC_iff]
    exact ⟨fun h => ⟨rfl,fun j h3 h4 => by have:=h (j - 1) (by omega);rwa [Nat.sub_add_cancel h3] at this⟩,fun h i hi => h.2 (i + 1) (by omega) (by omega)⟩

end Go.Proofs.Ytknmmkgaijndfaa.Pure
