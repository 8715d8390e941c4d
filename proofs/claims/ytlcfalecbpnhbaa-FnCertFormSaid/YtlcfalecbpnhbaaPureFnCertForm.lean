/- A drawn cert that is ok has votes enough, for each of three, and no more than there are nodes; with one vote less it is one just if there were more than enough. The plain part: what the printed functions compute answers true. Conditions: the argument fits the machine, as the row says. -/
import Derived.Test.YtlcfalecbpnhbaaPx0
import Derived.Test.YtlcfalecbpnhbaaPx15
import Derived.Test.YtlcfalecbpnhbaaFAll
import Derived.Test.YtlcfalecbpnhbaaPlain
namespace Go.Proofs.Ytlcfalecbpnhbaa.Pure
open Go.RowKit Go.Proofs.Ytlcfalecbpnhbaa.P Go.Proofs.YtlcfalecbpnhbaaW.PrintWords Go.Proofs.YtlcfalecbpnhbaaW.PrintLast Go.Proofs.YtlcfalecbpnhbaaW.PrintMore Go.Proofs.YtlcfalecbpnhbaaE
set_option linter.unusedVariables false
set_option linter.unusedSimpArgs false

theorem FnCertForm : laws_FnCertForm.Pure:=by
  intro l _ hw
  have hl:=bytes_of hw
  refine Evt.get ?_
  simp only [laws_FnCertForm.f]
  refine Evt.ite (fun _ => Evt.now _ rfl) fun _ => ?_
  refine Evt.bind (drawCert_ends hl) fun d hd => ?_
  obtain ⟨c,b⟩:=d
  obtain ⟨hc,hb,hbv⟩:=hd
  simp only at hc hb hbv ⊢
  have hbig : ∀ v,v ∈ b → v.length ≤ 4611686018427387900:=fun v hv => by have:=hbv v hv;omega
  refine Evt.bind (certOk_impl c b Q14 Q14 hbig) fun p hp => ?_
  refine Evt.bind (certOk_spec c b Q14 Q14 hbig) fun q hq => ?_
  refine Evt.neg (by rw [hp,hq];simp) ?_
  cases hk : certOk c b with
  | false =>
    rw [hk] at hp
    subst hp
    refine Evt.step (fun k => by simp only [laws_FnCertForm.j0];rw [if_pos Q67]) ?_
    exact Evt.bind (certOk_spec c b Q14 Q14 hbig) fun r hr => Evt.now _ (by rw [hr,hk];rfl)
  | true =>
    rw [hk] at hp
    subst hp
    have hk2:=hk
    simp only [certOk,Bool.and_eq_true,decide_eq_true_iff] at hk2
    obtain ⟨hok,h3,hb3,hall,hlast⟩:=hk2
    have hby : ∀ v,v ∈ b → byOk v = true:=List.all_eq_true.1 hall
    refine Evt.step (f:=fun k => laws_FnCertForm.l0 k (c.length : Int) ((0 : Nat) : Int) c b) (fun k => by simp only [laws_FnCertForm.j0];rw [if_neg Q37];rfl) ?_
    have step : ∀ i : Nat,i < 3 → Evt (fun k => laws_FnCertForm.l0 k (c.length : Int) ((i + 1 : Nat) : Int) c b) (fun r => r = true) → Evt (fun k => laws_FnCertForm.l0 k (c.length : Int) (i : Int) c b) (fun r => r = true):=by
      intro i hi hk
      have hv:=byOk_len (hby _ (rdLL_mem (l:=b) (i:=i) Q14))
      refine Evt.step (fun k => by simp only [laws_FnCertForm.l0];rw [if_pos Q14,if_pos Q14,if_pos Q14,wrap_succ Q14]) ?_
      exact Evt.neg Q14 (Evt.neg Q14 hk)
    refine step 0 Q14 (step 1 Q14 (step 2 Q14 ?_))
    have a1 : wrap64 ((c.length : Int) - 1) = ((c.length - 1 : Nat) : Int):=by unfold wrap64;omega
    have a3 : wrap64 ((c.length : Int) - 3) = ((c.length - 3 : Nat) : Int):=by unfold wrap64;omega
    have hby2:=hby _ (rdLL_mem (l:=b) (i:=2) Q14)
    have e2 : rd_L3 b ((2 : Nat) : Int) = rd_L3 b 2:=rfl
    have e1 : rd_L3 b ((1 : Nat) : Int) = rd_L3 b 1:=rfl
    have e0 : rd_L3 b ((0 : Nat) : Int) = rd_L3 b 0:=rfl
    rw [e2] at hby2
    have hl2:=byOk_len hby2
    have hep : wrap64 ((rd_T40 c ((c.length - 3 : Nat) : Int)).f0 + 2) = (rd_T40 c ((c.length - 1 : Nat) : Int)).f0:=by
      have hm:=okFrom_e (by simp only [chainOk,Bool.and_eq_true] at hok;exact hok.1) _ (List.mem_of_getElem? (rdIt_get (l:=c) (i:=c.length - 3) Q14))
      simp only [lastThree,Bool.and_eq_true,decide_eq_true_iff] at hlast
      rw [wrap64_small Q14 Q14]
      omega
    refine Evt.step (fun k => by simp only [laws_FnCertForm.l0,a1,a3];rw [if_neg Q14,if_pos Q14,if_pos Q14,if_pos Q14,if_pos Q14,if_pos Q14,if_pos Q14,if_pos Q14,if_pos Q14,if_pos Q14,if_pos hep,if_pos Q14]) ?_
    have hmem : ∀ v,v ∈ [rd_L3 b 0,rd_L3 b 1,(rd_L3 b 2).drop 1] → v.length ≤ 4611686018427387900:=by
      intro v hv
      simp only [List.mem_cons,List.not_mem_nil,or_false] at hv
      rcases hv with rfl|rfl|rfl
      · exact hbig _ (rdLL_mem (l:=b) (i:=0) Q14)
      · exact hbig _ (rdLL_mem (l:=b) (i:=1) Q14)
      · rw [List.length_drop];omega
    refine Evt.bind (certOk_impl c [rd_L3 b 0,rd_L3 b 1,(rd_L3 b 2).drop 1] Q14 Q52 hmem) fun t ht => ?_
    rw [certOk_all hok h3 hlast Q67] at ht
    have h0:=hby _ (rdLL_mem (l:=b) (i:=0) Q14)
    have h1:=hby _ (rdLL_mem (l:=b) (i:=1) Q14)
    rw [e0] at h0
    rw [e1] at h1
    simp only [List.all_cons,List.all_nil,h0,h1,byOk_tail hby2,Bool.true_and,Bool.and_true] at ht
    refine Evt.pos (by rw [ht,beq_iff_eq];exact decide_eq_decide.2 Q14) ?_
    rw [Int.toNat_natCast]
    refine Evt.bind (certOk_impl (c.take (c.length - 1)) b (by rw [List.length_take];omega) Q14 hbig) fun u hu => ?_
    refine Evt.ite (fun h => ?_) fun _ => Evt.now _ rfl
    rw [hu] at h
    simp only [certOk,Bool.and_eq_true,decide_eq_true_iff,List.length_take] at h
    exact Evt.now _ (decide_eq_true Q14)

end Go.Proofs.Ytlcfalecbpnhbaa.Pure
