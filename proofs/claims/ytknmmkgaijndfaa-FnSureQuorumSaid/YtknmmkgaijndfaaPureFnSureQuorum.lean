/- Of a drawn chain that is sure: without one vote for one of its beginnings it is sure just if more than enough had voted for that one. The plain part: what the printed functions compute answers true. Conditions: the argument fits the machine, as the row says. -/
import Derived.Test.YtknmmkgaijndfaaPx12
import Derived.Test.YtknmmkgaijndfaaFAll
import Derived.Test.YtknmmkgaijndfaaPlain
namespace Go.Proofs.Ytknmmkgaijndfaa.Pure
open Go.RowKit Go.Proofs.Ytknmmkgaijndfaa.P Go.Proofs.YtknmmkgaijndfaaW.PrintWords Go.Proofs.YtknmmkgaijndfaaW.PrintLast Go.Proofs.YtknmmkgaijndfaaW.PrintMore Go.Proofs.YtknmmkgaijndfaaE
set_option linter.unusedVariables false
set_option linter.unusedSimpArgs false

theorem mem_forC {l : List Vt} {c : List It} {n : Int} (h : n ∈ forC l c) : hasV l n c = true:=(List.mem_filter.1 h).2
theorem lessV_snoc (l : List Vt) (v : Vt) (n : Int) (c : List It) : lessV (l ++ [v]) n c = lessV l n c ++ (if v.f0 = n ∧ v.f1 = c then [] else [v]):=by
  unfold lessV
  rw [List.filter_append]
  congr 1
  by_cases h : v.f0 = n ∧ v.f1 = c
  · simp [h]
  · rw [if_neg h,List.filter_cons,if_pos]
    · rfl
    · simpa using Decidable.not_and_iff_or_not.1 h
theorem FnSureQuorum : laws_FnSureQuorum.Pure:=by
  intro l m _ hw _ _
  have hl:=bytes_of hw
  refine Evt.get ?_
  have hend : Evt (fun k => laws_FnSureQuorum.j0 k l m true) (fun r => r = true):=Evt.step (f:=fun _ => some true) (fun k => by simp only [laws_FnSureQuorum.j0,if_true]) (Evt.now _ rfl)
  simp only [laws_FnSureQuorum.f]
  refine Evt.ite (fun _ => hend) (fun h => ?_)
  by_cases h2 : (m.length : Int) > 1048576
  · rw [decide_eq_true h2]
    exact hend
  rw [decide_eq_false h2]
  refine Evt.step (fun k => by simp only [laws_FnSureQuorum.j0];rw [if_neg (by decide)]) ?_
  refine Evt.bind (drawTree_ends hl) fun d hd => ?_
  obtain ⟨v,c⟩:=d
  obtain ⟨hv,hc⟩:=hd
  simp only at hv hc ⊢
  have hvl:=hv.1
  have hvb:=hv.big
  have fin : ∀ x,x = treeSure v c → Evt (fun k => laws_FnSureQuorum.j1 k m v c x true) (fun r => r = true):=by
    intro x hx
    refine Evt.step (fun k => by simp only [laws_FnSureQuorum.j1];rw [if_pos trivial]) ?_
    exact Evt.bind (treeSure_spec v c (by omega) hvb (by omega)) fun t ht => Evt.now _ (by rw [ht,hx];simp)
  refine Evt.bind (treeSure_impl v c (by omega) hvb (by omega)) fun a ha => ?_
  refine Evt.bind (treeSure_spec v c (by omega) hvb (by omega)) fun b hb => ?_
  refine Evt.neg (by rw [ha,hb];simp) ?_
  refine Evt.ite (fun hok => ?_) fun _ => fin a ha
  by_cases h0 : c = []
  · subst h0
    exact fin a ha
  have hpos : 0 < c.length:=List.length_pos_iff.2 h0
  have hf : ((c.length : Int) == 0) = false:=by simp;omega
  rw [hf]
  have htree : treeSure v c = true:=by rw [← ha];exact hok
  have hts:=htree
  simp only [treeSure,Bool.and_eq_true] at hts
  obtain ⟨hvok,hcok,hsure⟩:=hts
  have hi : 0 ≤ (m.length : Int) % (c.length : Int):=Int.emod_nonneg _ (by omega)
  have hj : (m.length : Int) % (c.length : Int) < (c.length : Int):=Int.emod_lt_of_pos _ (by omega)
  have hw1 : wrap64 (1 + (m.length : Int) % (c.length : Int)) = 1 + (m.length : Int) % (c.length : Int):=wrap64_small (by omega) (by omega)
  refine Evt.step (fun k => by simp only [laws_FnSureQuorum.j1,hw1];rw [if_neg (by decide),if_neg (by omega)]) ?_
  generalize (m.length : Int) % (c.length : Int) = i at hi hj
  obtain ⟨n,rfl⟩:=Int.eq_ofNat_of_zero_le hi
  have hn : n < c.length:=by omega
  have e1 : 1 + (n : Int) = ((n + 1 : Nat) : Int):=by omega
  rw [e1,Int.toNat_natCast]
  have htl : (c.take (n + 1)).length ≤ 16:=by rw [List.length_take];omega
  have h3:=(sureC_iff v c).1 hsure n hn
  refine Evt.pos (by omega) (Evt.pos (by omega) ?_)
  refine Evt.bind (votesFor_impl v (c.take (n + 1)) (by omega) hvb (by omega)) fun u hu => ?_
  have hu' : u = forC v (c.take (n + 1)):=by rw [hu];simp only [votesFor,hvok,if_true]
  have hm : manyC v (c.take (n + 1)) = u.length:=by rw [hu',many_for' hvok]
  have hul : u.length ≤ 4:=by rw [hu'];exact for_le _ _
  have hrd : rd u 0 ∈ u:=List.mem_of_getElem? (rd_get (l:=u) (i:=0) (by omega))
  have hb0 : hasV v (rd u 0) (c.take (n + 1)) = true:=by rw [hu'] at hrd ⊢;exact mem_forC hrd
  have hnd:=((votesOk_iff v).1 hvok).2
  obtain ⟨hlen,_⟩:=lessV_len v (rd u 0) (c.take (n + 1)) hnd ((hasV_iff _ _ _).1 hb0)
  have key : ∀ (d i : Nat),i + d = v.length → Evt (fun k => laws_FnSureQuorum.l0 k v c ((n + 1 : Nat) : Int) u (lessV (v.take i) (rd u 0) (c.take (n + 1))) (i : Int)) (fun r => r = true):=by
    intro d
    induction d with
    | zero =>
      intro i hd
      have e : i = v.length:=by omega
      subst e
      rw [List.take_of_length_le (Nat.le_refl _)]
      have w : wrap64 ((v.length : Int) - 1) = (v.length : Int) - 1:=wrap64_small (by omega) (by omega)
      refine Evt.step (fun k => by simp only [laws_FnSureQuorum.l0,w];rw [if_neg (by omega),if_pos (by omega)]) ?_
      have hvb2 : VB (lessV v (rd u 0) (c.take (n + 1))) 205:=hv.sub (by omega) fun x hx => (List.mem_filter.1 hx).1
      refine Evt.bind (treeSure_impl _ c (by have:=hvb2.1;omega) hvb2.big (by omega)) fun t ht => Evt.now _ ?_
      rw [ht,sure_less htree hn hb0,← hu']
      by_cases h4 : 3 < u.length
      · rw [decide_eq_true h4,decide_eq_true (show (u.length : Int) > 3 by omega)];rfl
      · rw [decide_eq_false h4,decide_eq_false (show ¬ (u.length : Int) > 3 by omega)];rfl
    | succ d ih =>
      intro i hd
      have hi : i < v.length:=by omega
      have ihs:=ih (i + 1) (by omega)
      rw [take_vt hi,lessV_snoc] at ihs
      have hll : (lessV (v.take i) (rd u 0) (c.take (n + 1))).length ≤ 205:=by
        have h5 : (lessV (v.take i) (rd u 0) (c.take (n + 1))).length ≤ (v.take i).length:=List.length_filter_le _ _
        rw [List.length_take] at h5
        omega
      refine Evt.step (fun k => by simp only [laws_FnSureQuorum.l0,Int.toNat_natCast];rw [if_pos (by omega),if_pos (by omega),if_pos (by omega),wrap_succ (by omega)]) ?_
      refine Evt.ite (fun h5 => Evt.pos (by omega) (Evt.pos (by omega) ?_)) fun h5 => Evt.pos (by omega) ?_
      · refine Evt.bind (lwSame_ends _ (c.take (n + 1)) (hvb _ (rdVt_mem hi))) fun t ht => ?_
        refine Evt.ite (fun h6 => ?_) fun h6 => Evt.pos (by omega) ?_
        · rw [ht,decide_eq_true_iff] at h6
          rw [if_pos ⟨h5,h6⟩,List.append_nil] at ihs
          exact ihs
        · rw [ht,decide_eq_true_iff] at h6
          rw [if_neg (fun h7 => h6 h7.2)] at ihs
          exact ihs
      · rw [if_neg (fun h7 => h5 h7.1)] at ihs
        exact ihs
  exact key v.length 0 (by omega)

end Go.Proofs.Ytknmmkgaijndfaa.Pure
