/- The program's CertOk and the reference's answer the same for every cert, which is left as it was. The plain part: what the printed functions compute answers true. Conditions: the argument fits the machine, as the row says. -/
import Derived.Test.YtlcfalecbpnhbaaPx1
import Derived.Test.YtlcfalecbpnhbaaPx4
import Derived.Test.YtlcfalecbpnhbaaPx9
import Derived.Test.YtlcfalecbpnhbaaFAll
import Derived.Test.YtlcfalecbpnhbaaPlain
namespace Go.Proofs.Ytlcfalecbpnhbaa.Pure
open Go.RowKit Go.Proofs.Ytlcfalecbpnhbaa.P Go.Proofs.YtlcfalecbpnhbaaW.PrintWords Go.Proofs.YtlcfalecbpnhbaaW.PrintLast Go.Proofs.YtlcfalecbpnhbaaW.PrintMore Go.Proofs.YtlcfalecbpnhbaaE
set_option linter.unusedVariables false
set_option linter.unusedSimpArgs false

theorem FnExactCertOk : laws_FnExactCertOk.Pure:=by
  intro l b hl hbl hbb
  refine Evt.get ?_
  simp only [laws_FnExactCertOk.f]
  refine Evt.bind (P:=fun r => 0 ≤ r → l.length ≤ 1048576 ∧ b.length ≤ 1048576 ∧ ∀ v,v ∈ b → v.length ≤ 1048576) ?_ fun s hs => ?_
  · simp only [laws_szCert.f]
    rw [szItemS_eq l 1048576 (by omega) (by omega) hl]
    refine Evt.bind (P:=fun r => r = (if 1048576 - (l.length : Int) < 0 then -1 else 1048576 - (l.length : Int))) (Evt.now _ rfl) fun u hu => ?_
    refine Evt.ite (fun _ => Evt.now _ (by omega)) fun h2 => ?_
    have hll : l.length ≤ 1048576 ∧ u ≤ 1048576:=by
      by_cases h3 : 1048576 - (l.length : Int) < 0
      · rw [if_pos h3] at hu;omega
      · rw [if_neg h3] at hu;omega
    refine Evt.bind (szIntSS_ends b u (by omega) hll.2 hbl hbb) fun v hv => ?_
    exact Evt.ite (fun _ => Evt.now _ (by omega)) fun h3 => Evt.now _ fun h4 => ⟨hll.1,hv.2 h4⟩
  refine Evt.ite (fun _ => Evt.now _ rfl) fun h => ?_
  obtain ⟨h1,h2,h3⟩:=hs (by omega)
  have hto : Evt (fun k => laws_toCert.f k l b) (fun r => r = (l.map toIt,b)):=by
    simp only [laws_toCert.f]
    refine Evt.bind (toItemS_ends l h1) fun x hx => ?_
    subst hx
    refine Evt.bind (toIntSS_ends b h2 h3) fun y hy => ?_
    subst hy
    exact Evt.now _ rfl
  have hx : (l.map toIt).length ≤ 4611686018427387900:=by rw [List.length_map];omega
  have hb4 : b.length ≤ 4611686018427387900:=by omega
  have hb3 : ∀ v,v ∈ b → v.length ≤ 4611686018427387900:=fun v hv => by have:=h3 v hv;omega
  refine Evt.bind hto fun x hx2 => ?_
  subst hx2
  refine Evt.bind (certOk_spec _ _ hx hb4 hb3) fun p hp => ?_
  refine Evt.bind hto fun x hx2 => ?_
  subst hx2
  refine Evt.bind (certOk_impl _ _ hx hb4 hb3) fun q hq => ?_
  refine Evt.neg (by rw [hp,hq];simp) ?_
  refine Evt.bind hto fun x hx2 => ?_
  subst hx2
  refine Evt.bind (P:=fun r => r = true) ?_ fun e he => Evt.pos he (Evt.now _ rfl)
  simp only [laws_eqCert.f]
  refine Evt.bind (eqItemS_ends _ _ hx) fun e he => ?_
  refine Evt.pos (by rw [he];simp) ?_
  refine Evt.bind (eqIntSS_ends _ _ hb4 hb3) fun e he => ?_
  exact Evt.pos (by rw [he];simp) (Evt.now _ rfl)

end Go.Proofs.Ytlcfalecbpnhbaa.Pure
