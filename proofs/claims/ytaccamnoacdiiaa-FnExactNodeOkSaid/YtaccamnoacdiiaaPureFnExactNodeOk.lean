/- The program's NodeOk and the reference's answer the same for every node, which is left as it was. The plain part: what the printed functions compute answers true. Conditions: the argument fits the machine, as the row says. -/
import Derived.Test.YtaccamnoacdiiaaPx0
import Derived.Test.YtaccamnoacdiiaaPx2
import Derived.Test.YtaccamnoacdiiaaPx3
import Derived.Test.YtaccamnoacdiiaaPx7
import Derived.Test.YtaccamnoacdiiaaPx8
import Derived.Test.YtaccamnoacdiiaaPx11
import Derived.Test.YtaccamnoacdiiaaFAll
import Derived.Test.YtaccamnoacdiiaaPlain
namespace Go.Proofs.Ytaccamnoacdiiaa.Pure
open Go.RowKit Go.Proofs.Ytaccamnoacdiiaa.P Go.Proofs.YtaccamnoacdiiaaW.PrintWords Go.Proofs.YtaccamnoacdiiaaW.PrintLast Go.Proofs.YtaccamnoacdiiaaW.PrintMore Go.Proofs.YtaccamnoacdiiaaE
set_option linter.unusedVariables false
set_option linter.unusedSimpArgs false

theorem within0 (n lo hi : Int) : impl_within.f n lo hi = some (decide (lo ≤ n ∧ n ≤ hi)):=within_eq n lo hi
/-- A vote of the node's own, for something later than it voted for. -/
def badV (a c : Int) (v : Vt) : Bool:=decide (v.f0 = a) && decide ((rd_T65 v.f1 ((v.f1.length - 1 : Nat) : Int)).f0 > c)
def nodeOk (a b c : Int) (l : List Vt) : Bool:=decide (1 ≤ a ∧ a ≤ 4) && (decide (0 ≤ b ∧ b ≤ 30) && (decide (0 ≤ c ∧ c ≤ b) && (decide (l.length ≤ 80) && (votesOk l && !(l.any (badV a c))))))
theorem some_chain {l : List Vt} (h : votesOk l = true) : ∀ v,v ∈ l → 1 ≤ v.f1.length:=by
  intro v hv
  have:=((votesOk_iff l).1 h).1 v hv
  simp only [voteOk,Bool.and_eq_true,decide_eq_true_iff] at this
  omega
theorem last_eq (a : Int) (c : List It) (h : 1 ≤ c.length) (h2 : c.length ≤ 4611686018427387900) : impl_Vote_last.f a c = some (rd_T65 c ((c.length - 1 : Nat) : Int)).f0:=by
  have w : wrap64 ((c.length : Int) - 1) = ((c.length - 1 : Nat) : Int):=by unfold wrap64;omega
  unfold impl_Vote_last.f
  rw [w,if_pos (by omega),if_pos (by omega)]
theorem containsBad_ends (l : List Vt) (a b c : Int) (m : List Vt) (hl : l.length ≤ 4611686018427387900) (hb : ∀ v,v ∈ l → v.f1.length ≤ 4611686018427387900) (h1 : ∀ v,v ∈ l → 1 ≤ v.f1.length) :
    Evt (fun k => impl_Vote_49.f k l a b c m) (fun r => r = l.any (badV a c)):=by
  have key : ∀ (d i : Nat),i + d = l.length → Evt (fun k => impl_Vote_49.l0 k l a b c (i : Int)) (fun r => r = (l.drop i).any (badV a c)):=by
    intro d
    induction d with
    | zero =>
      intro i hd
      rw [List.drop_eq_nil_of_le (by omega)]
      exact Evt.step (f:=fun _ => some false) (fun k => by simp only [impl_Vote_49.l0];rw [if_neg (by omega)]) (Evt.now _ rfl)
    | succ d ih =>
      intro i hd
      have hi : i < l.length:=by omega
      rw [drop_vt hi,List.any_cons]
      have hlast:=last_eq (rd_T25 l (i : Int)).f0 (rd_T25 l (i : Int)).f1 (h1 _ (rdVt_mem hi)) (hb _ (rdVt_mem hi))
      have hlit : impl_Vote_49.litf (rd_T25 l (i : Int)).f0 (rd_T25 l (i : Int)).f1 a b c = some (badV a c (rd_T25 l (i : Int))):=by
        unfold impl_Vote_49.litf badV
        rw [hlast]
        by_cases h : (rd_T25 l (i : Int)).f0 = a
        · rw [if_pos h,decide_eq_true h]
          rfl
        · rw [if_neg h,decide_eq_false h]
          rfl
      refine Evt.step (fun k => by simp only [impl_Vote_49.l0,hlit];rw [if_pos (by omega),if_pos (by omega),wrap_succ (by omega)]) ?_
      refine Evt.bind (P:=fun r => r = badV a c (rd_T25 l (i : Int))) (Evt.now _ rfl) fun t ht => ?_
      rw [← ht]
      exact Evt.ite (fun h => Evt.now _ (by rw [h];rfl)) fun h => (ih (i + 1) (by omega)).mono fun r hr => by rw [hr,Bool.eq_false_iff.2 h];rfl
  simp only [impl_Vote_49.f]
  exact key l.length 0 (by omega)
theorem nodeOk_impl (a b c : Int) (l : List Vt) (hl : l.length ≤ 4611686018427387900) (hb : ∀ v,v ∈ l → v.f1.length ≤ 4611686018427387900) : Evt (fun k => impl_NodeOk.f k a b c l) (fun r => r = nodeOk a b c l):=by
  simp only [impl_NodeOk.f,nodeOk_eq,within0]
  unfold nodeOk
  refine Evt.bind (P:=fun r => r = decide (1 ≤ a ∧ a ≤ 4)) (Evt.now _ rfl) fun t ht => ?_
  rw [← ht]
  refine Evt.ite (fun h => ?_) fun h => Evt.now _ (by rw [Bool.eq_false_iff.2 h];rfl)
  rw [h]
  refine Evt.bind (P:=fun r => r = decide (0 ≤ b ∧ b ≤ 30)) (Evt.now _ rfl) fun t ht => ?_
  rw [← ht]
  refine Evt.ite (fun h => ?_) fun h => Evt.now _ (by rw [Bool.eq_false_iff.2 h];rfl)
  rw [h]
  refine Evt.bind (P:=fun r => r = decide (0 ≤ c ∧ c ≤ b)) (Evt.now _ rfl) fun t ht => ?_
  rw [← ht]
  refine Evt.ite (fun h => ?_) fun h => Evt.now _ (by rw [Bool.eq_false_iff.2 h];rfl)
  rw [h]
  refine Evt.ite (fun h => Evt.now _ (by rw [decide_eq_false (show ¬ l.length ≤ 80 by omega)];rfl)) fun h => ?_
  rw [decide_eq_true (show l.length ≤ 80 by omega)]
  refine Evt.bind (votesOk_impl l hl hb) fun t ht => ?_
  rw [← ht]
  refine Evt.ite (fun h => ?_) fun h => Evt.now _ (by rw [Bool.eq_false_iff.2 h];rfl)
  have hok : votesOk l = true:=by rw [← ht];exact h
  rw [h]
  exact Evt.bind (containsBad_ends l a b c l hl hb (some_chain hok)) fun u hu => Evt.now _ (by rw [hu];rfl)
theorem nodeOk_spec (a b c : Int) (l : List Vt) (hl : l.length ≤ 4611686018427387900) (hb : ∀ v,v ∈ l → v.f1.length ≤ 4611686018427387900) : Evt (fun k => spec_NodeOk.f k a b c l) (fun r => r = nodeOk a b c l):=by
  simp only [spec_NodeOk.f,l6In_eq]
  unfold nodeOk
  have out : Evt (fun k => spec_NodeOk.j0 k true a b c l) (fun r => r = false):=Evt.step (f:=fun _ => some false) (fun k => by simp only [spec_NodeOk.j0];rw [if_pos trivial]) (Evt.now _ rfl)
  refine Evt.bind (P:=fun r => r = decide (1 ≤ a ∧ a ≤ 4)) (Evt.now _ rfl) fun t ht => ?_
  rw [← ht]
  refine Evt.ite (fun h => ?_) fun h => out.mono fun r hr => (by rw [hr,Bool.eq_false_iff.2 h];rfl)
  rw [h]
  refine Evt.bind (P:=fun r => r = decide (0 ≤ b ∧ b ≤ 30)) (Evt.now _ rfl) fun t ht => ?_
  rw [← ht]
  refine Evt.ite (fun h => ?_) fun h => out.mono fun r hr => (by rw [hr,Bool.eq_false_iff.2 h];rfl)
  rw [h]
  refine Evt.bind (P:=fun r => r = decide (0 ≤ c ∧ c ≤ b)) (Evt.now _ rfl) fun t ht => ?_
  rw [← ht]
  refine Evt.ite (fun h => ?_) fun h => out.mono fun r hr => (by rw [hr,Bool.eq_false_iff.2 h];rfl)
  rw [h]
  refine Evt.ite (fun h => out.mono fun r hr => (by rw [hr,decide_eq_false (show ¬ l.length ≤ 80 by omega)];rfl)) fun h => ?_
  rw [decide_eq_true (show l.length ≤ 80 by omega)]
  refine Evt.bind (votesOk_spec l hl hb) fun t ht => ?_
  rw [← ht]
  cases h : t with
  | false => exact out.mono fun r hr => (by rw [hr];rfl)
  | true =>
    have hok : votesOk l = true:=by rw [← ht];exact h
    have h1:=some_chain hok
    have key : ∀ (d i : Nat),i + d = l.length → Evt (fun k => spec_NodeOk.l0 k (i : Int) a b c l) (fun r => r = !((l.drop i).any (badV a c))):=by
      intro d
      induction d with
      | zero =>
        intro i hd
        rw [List.drop_eq_nil_of_le (by omega)]
        exact Evt.step (f:=fun _ => some true) (fun k => by simp only [spec_NodeOk.l0];rw [if_neg (by omega)]) (Evt.now _ rfl)
      | succ d ih =>
        intro i hd
        have hi : i < l.length:=by omega
        have hp:=h1 _ (rdVt_mem hi)
        have hp2:=hb _ (rdVt_mem hi)
        have w : wrap64 (((rd_T25 l (i : Int)).f1.length : Int) - 1) = (((rd_T25 l (i : Int)).f1.length - 1 : Nat) : Int):=by unfold wrap64;omega
        rw [drop_vt hi,List.any_cons]
        refine Evt.step (fun k => by simp only [spec_NodeOk.l0,w];rw [if_pos (by omega),if_pos (by omega),wrap_succ (by omega)]) ?_
        refine Evt.ite (fun h2 => Evt.pos (by omega) (Evt.pos (by omega) ?_)) fun h2 => (ih (i + 1) (by omega)).mono fun r hr => ?_
        · refine Evt.ite (fun h3 => Evt.now _ ?_) fun h3 => (ih (i + 1) (by omega)).mono fun r hr => ?_
          · rw [badV,decide_eq_true h2,decide_eq_true h3];rfl
          · rw [hr,show badV a c (rd_T25 l (i : Int)) = false by rw [badV,decide_eq_false h3,Bool.and_false]];rfl
        · rw [hr,show badV a c (rd_T25 l (i : Int)) = false by rw [badV,decide_eq_false h2,Bool.false_and]];rfl
    refine Evt.step (f:=fun k => spec_NodeOk.l0 k ((0 : Nat) : Int) a b c l) (fun k => by simp only [spec_NodeOk.j0];rw [if_neg (by decide)];rfl) ?_
    exact key l.length 0 (by omega)
theorem FnExactNodeOk : laws_FnExactNodeOk.Pure:=by
  intro a b c l hl hb
  refine Evt.get ?_
  simp only [laws_FnExactNodeOk.f]
  refine Evt.bind (P:=fun r => 0 ≤ r → l.length ≤ 1048576 ∧ ∀ v,v ∈ l → v.f1.length ≤ 1048576) ?_ fun s hs => ?_
  · simp only [laws_szNode.f]
    refine Evt.bind (szVoteS_ends l 1048576 (by omega) (by omega) hl hb) fun s hs => ?_
    exact Evt.ite (fun _ => Evt.now _ (by omega)) fun h => Evt.now _ hs.2
  refine Evt.ite (fun _ => Evt.now _ rfl) fun h => ?_
  obtain ⟨hn,hc⟩:=hs (by omega)
  have hm : (l.map toVt).length ≤ 4611686018427387900:=by rw [List.length_map];omega
  have hmb : ∀ v,v ∈ l.map toVt → v.f1.length ≤ 4611686018427387900:=by
    intro v hv
    obtain ⟨u,hu,rfl⟩:=List.mem_map.1 hv
    have:=hc u hu
    simp only [toVt,List.length_map]
    omega
  have hto : Evt (fun k => laws_toNode.f k a b c l) (fun r => r = (a,b,c,l.map toVt)):=by
    simp only [laws_toNode.f]
    exact Evt.bind (toVoteS_ends l hn hc) fun x hx => Evt.now _ (by rw [hx])
  refine Evt.bind hto fun x hx => ?_
  subst hx
  refine Evt.bind (nodeOk_spec a b c _ hm hmb) fun p hp => ?_
  refine Evt.bind hto fun x hx => ?_
  subst hx
  refine Evt.bind (nodeOk_impl a b c _ hm hmb) fun q hq => ?_
  refine Evt.neg (by rw [hp,hq];simp) ?_
  refine Evt.bind hto fun x hx => ?_
  subst hx
  refine Evt.bind (P:=fun r => r = true) ?_ fun e he => Evt.pos he (Evt.now _ rfl)
  unfold laws_eqNode.f
  refine Evt.pos (by simp) (Evt.pos (by simp) (Evt.pos (by simp) ?_))
  refine Evt.bind (eqVoteS_ends _ _ hm hmb) fun e he => ?_
  exact Evt.pos (by rw [he];simp) (Evt.now _ rfl)

end Go.Proofs.Ytaccamnoacdiiaa.Pure
