/- A drawn cert that is ok stays one if all voted for one of three; it is none if too few did, and none if one is told twice. The plain part: what the printed functions compute answers true. Conditions: the argument fits the machine, as the row says. -/
import Derived.Test.YtlcfalecbpnhbaaPx7
import Derived.Test.YtlcfalecbpnhbaaPx15
import Derived.Test.YtlcfalecbpnhbaaFAll
import Derived.Test.YtlcfalecbpnhbaaPlain
namespace Go.Proofs.Ytlcfalecbpnhbaa.Pure
open Go.RowKit Go.Proofs.Ytlcfalecbpnhbaa.P Go.Proofs.YtlcfalecbpnhbaaW.PrintWords Go.Proofs.YtlcfalecbpnhbaaW.PrintLast Go.Proofs.YtlcfalecbpnhbaaW.PrintMore Go.Proofs.YtlcfalecbpnhbaaE
set_option linter.unusedVariables false
set_option linter.unusedSimpArgs false

theorem FnCertMore : laws_FnCertMore.Pure:=by
  intro l m _ hw _ _
  have hl:=bytes_of hw
  refine Evt.get ?_
  have hend : Evt (fun k => laws_FnCertMore.j0 k l m true) (fun r => r = true):=Evt.step (f:=fun _ => some true) (fun k => by simp only [laws_FnCertMore.j0,if_true]) (Evt.now _ rfl)
  simp only [laws_FnCertMore.f]
  refine Evt.ite (fun _ => hend) (fun h => ?_)
  by_cases h2 : (m.length : Int) > 1048576
  · rw [decide_eq_true h2]
    exact hend
  rw [decide_eq_false h2]
  refine Evt.step (fun k => by simp only [laws_FnCertMore.j0];rw [if_neg Q36]) ?_
  refine Evt.bind (drawCert_ends hl) fun d hd => ?_
  obtain ⟨c,b⟩:=d
  obtain ⟨hc,hb,hbv⟩:=hd
  simp only at hc hb hbv ⊢
  have hbig : ∀ v,v ∈ b → v.length ≤ 4611686018427387900:=fun v hv => by have:=hbv v hv;omega
  refine Evt.bind (certOk_impl c b Q17 Q17 hbig) fun p hp => ?_
  refine Evt.bind (certOk_spec c b Q17 Q17 hbig) fun q hq => ?_
  refine Evt.neg (by rw [hp,hq];simp) ?_
  cases hk : certOk c b with
  | false =>
    rw [hk] at hp
    subst hp
    refine Evt.step (fun k => by simp only [laws_FnCertMore.j1];rw [if_pos Q70]) ?_
    exact Evt.bind (certOk_spec c b Q17 Q17 hbig) fun r hr => Evt.now _ (by rw [hr,hk];rfl)
  | true =>
    rw [hk] at hp
    subst hp
    have hk2:=hk
    simp only [certOk,Bool.and_eq_true,decide_eq_true_iff] at hk2
    obtain ⟨hok,h3,hb3,hall,hlast⟩:=hk2
    have hby : ∀ v,v ∈ b → byOk v = true:=List.all_eq_true.1 hall
    refine Evt.step (fun k => by simp only [laws_FnCertMore.j1];rw [if_neg Q36]) ?_
    have hi : 0 ≤ (m.length : Int) % 3:=Int.emod_nonneg _ Q17
    have hj : (m.length : Int) % 3 < 3:=Int.emod_lt_of_pos _ Q17
    generalize (m.length : Int) % 3 = i at hi hj
    obtain ⟨n,rfl⟩:=Int.eq_ofNat_of_zero_le hi
    have hn : n < b.length:=by omega
    rw [Int.toNat_natCast]
    have hv:=byOk_len (hby _ (rdLL_mem (l:=b) (i:=n) hn))
    have len3 : ∀ v,(b.set n v).length = 3:=fun v => by rw [List.length_set];exact hb3
    have small : ∀ v : List Int,v.length ≤ 4 → ∀ x,x ∈ b.set n v → x.length ≤ 4611686018427387900:=fun v h4 x hx => by have:=mem_set hbv h4 hx;omega
    have tell : ∀ v : List Int,v.length ≤ 4 → Evt (fun k => impl_CertOk.f k c (b.set n v)) (fun r => r = byOk v):=by
      intro v h4
      refine (certOk_impl c (b.set n v) Q17 (by rw [len3];omega) (small v h4)).mono fun r hr => ?_
      rw [hr,certOk_all hok h3 hlast (len3 v)]
      cases hbv2 : byOk v with
      | true =>
        rw [List.all_eq_true]
        intro x hx
        rcases List.mem_or_eq_of_mem_set hx with h5|h5
        · exact hby x h5
        · rw [h5];exact hbv2
      | false =>
        rw [Bool.eq_false_iff]
        intro h5
        rw [List.all_eq_true] at h5
        have:=h5 v (List.mem_of_getElem? (by rw [List.getElem?_set_self hn]))
        rw [hbv2] at this
        cases this
    refine Evt.bind (P:=fun r => r = []) (Evt.now _ rfl) fun y hy => ?_
    subst hy
    refine Evt.pos Q111 (Evt.bind (P:=fun r => r = b) (Evt.now _ Q51) fun y hy => ?_)
    subst hy
    refine Evt.pos hi (Evt.pos Q17 ?_)
    refine Evt.bind (P:=fun r => r = []) (Evt.now _ rfl) fun z hz => ?_
    subst hz
    refine Evt.pos Q111 (Evt.bind (P:=fun r => r = y) (Evt.now _ Q51) fun z hz => ?_)
    subst hz
    refine Evt.pos Q17 (Evt.pos Q17 (Evt.pos Q17 ?_))
    refine Evt.bind (P:=fun r => r = []) (Evt.now _ rfl) fun x hx => ?_
    subst hx
    refine Evt.pos Q111 (Evt.bind (P:=fun r => r = z) (Evt.now _ Q51) fun x hx => ?_)
    subst hx
    refine Evt.pos Q17 ?_
    refine Evt.bind (tell [1,2,3,4] Q51) fun t ht => ?_
    refine Evt.pos (by rw [ht];rfl) ?_
    refine Evt.bind (tell _ (by rw [List.length_take];omega)) fun t ht => ?_
    refine Evt.neg ?_ ?_
    · rw [ht,byOk,decide_eq_false (by rw [List.length_take];omega),Bool.and_false]
      decide
    refine Evt.bind (tell [1,2,2] Q51) fun t ht => Evt.now _ ?_
    rw [ht]
    rfl

end Go.Proofs.Ytlcfalecbpnhbaa.Pure
