/- Plain facts on what the printed functions compute (l3has). Conditions: each theorem's own. -/
import Derived.Test.YtaccamnoacdiiaaPx30
import Derived.Test.YtaccamnoacdiiaaPx31
import Derived.Test.YtaccamnoacdiiaaPx32
import Derived.Test.YtaccamnoacdiiaaFvotes
import Derived.Test.YtaccamnoacdiiaaFl1in
import Derived.Test.YtaccamnoacdiiaaPlain
namespace Go.Proofs.Ytaccamnoacdiiaa.Pure
open Go.RowKit Go.Proofs.Ytaccamnoacdiiaa.P Go.Proofs.YtaccamnoacdiiaaW.PrintWords Go.Proofs.YtaccamnoacdiiaaW.PrintLast Go.Proofs.YtaccamnoacdiiaaW.PrintMore Go.Proofs.YtaccamnoacdiiaaE
set_option linter.unusedVariables false
set_option linter.unusedSimpArgs false

theorem l3Same_ends (a b : List It) (ha : a.length ≤ 4611686018427387900) : Evt (fun k => spec_l3Same.f k a b) (fun r => r = decide (a = b)) := by
  simp only [spec_l3Same.f]
  refine Evt.ite (fun h => ?_) fun h => Evt.now _ ?_
  · refine Evt.bind (l1In_ends a b ha) fun t ht => Evt.now _ ?_
    rw [ht]
    exact decide_eq_decide.2 ⟨fun hp => hp.eq_of_length (by omega), fun e => e ▸ List.prefix_rfl⟩
  · exact (decide_eq_false fun e => h (by rw [e])).symm
theorem l3Has_ends (l : List Vt) (n : Int) (c : List It) (hl : l.length ≤ 4611686018427387900) (hb : ∀ v, v ∈ l → v.f1.length ≤ 4611686018427387900) : Evt (fun k => spec_l3Has.f k l n c) (fun r => r = hasV l n c) := by
  have key : ∀ (d i : Nat), i + d = l.length → Evt (fun k => spec_l3Has.l0 k l (i : Int) n c) (fun r => r = hasV (l.drop i) n c) := by
    intro d
    induction d with
    | zero =>
      intro i hd
      rw [List.drop_eq_nil_of_le (by omega)]
      exact Evt.step (f := fun _ => some false) (fun k => by simp only [spec_l3Has.l0]; rw [if_neg (by omega)]) (Evt.now _ rfl)
    | succ d ih =>
      intro i hd
      have hi : i < l.length := by omega
      rw [drop_vt hi]
      refine Evt.step (fun k => by simp only [spec_l3Has.l0]; rw [if_pos (by omega), if_pos (by omega), wrap_succ (by omega)]) ?_
      refine Evt.ite (fun hn => ?_) fun hn => (ih (i + 1) (by omega)).mono fun r hr => ?_
      · refine Evt.bind (l3Same_ends _ c (hb _ (rdVt_mem hi))) fun t ht => ?_
        refine Evt.ite (fun h => Evt.now _ ?_) fun h => (ih (i + 1) (by omega)).mono fun r hr => ?_
        · rw [hasV, List.any_cons, decide_eq_true hn, ← ht, h]; rfl
        · rw [hr, hasV, hasV, List.any_cons, ← ht, Bool.eq_false_iff.2 h]; simp
      · rw [hr, hasV, hasV, List.any_cons, decide_eq_false hn]; rfl
  exact key l.length 0 (by omega)
theorem votesOk_spec (l : List Vt) (hl : l.length ≤ 4611686018427387900) (hb : ∀ v, v ∈ l → v.f1.length ≤ 4611686018427387900) : Evt (fun k => spec_VotesOk.f k l) (fun r => r = votesOk l) := by
  have key : ∀ (d i : Nat), i + d = l.length → Evt (fun k => spec_VotesOk.l0 k l (i : Int)) (fun r => r = votesFrom (l.take i) (l.drop i)) := by
    intro d
    induction d with
    | zero =>
      intro i hd
      rw [List.drop_eq_nil_of_le (by omega)]
      exact Evt.step (f := fun _ => some true) (fun k => by simp only [spec_VotesOk.l0]; rw [if_neg (by omega)]) (Evt.now _ rfl)
    | succ d ih =>
      intro i hd
      have hi : i < l.length := by omega
      have ihs := ih (i + 1) (by omega)
      rw [take_vt hi] at ihs
      rw [drop_vt hi, votesFrom]
      refine Evt.step (fun k => by simp only [spec_VotesOk.l0]; rw [if_pos (by omega), if_pos (by omega), wrap_succ (by omega), Int.toNat_natCast]) ?_
      refine Evt.bind (l3Vote_ends _ _ (hb _ (rdVt_mem hi))) fun t ht => ?_
      rw [← ht]
      refine Evt.ite (fun h => ?_) fun h => Evt.now _ (by rw [Bool.eq_false_iff.2 h]; rfl)
      rw [h]
      refine Evt.pos (by omega) ?_
      refine Evt.bind (l3Has_ends (l.take i) _ _ (by rw [List.length_take]; omega) (fun v hv => hb v (List.mem_of_mem_take hv))) fun u hu => ?_
      rw [← hu]
      refine Evt.ite (fun h => Evt.now _ (by rw [h]; rfl)) fun h => ihs.mono fun r hr => ?_
      rw [hr, Bool.eq_false_iff.2 h]
      rfl
  exact key l.length 0 (by omega)

end Go.Proofs.Ytaccamnoacdiiaa.Pure
