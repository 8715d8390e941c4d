/- The program's TreeSure and the reference's answer the same for all votes and every chain, and both are left as they were. The plain part: what the printed functions compute answers true. Conditions: the argument fits the machine, as the row says. -/
import Derived.Test.YtknmmkgaijndfaaPx10
import Derived.Test.YtknmmkgaijndfaaFAll
import Derived.Test.YtknmmkgaijndfaaPlain
namespace Go.Proofs.Ytknmmkgaijndfaa.Pure
open Go.RowKit Go.Proofs.Ytknmmkgaijndfaa.P Go.Proofs.YtknmmkgaijndfaaW.PrintWords Go.Proofs.YtknmmkgaijndfaaW.PrintLast Go.Proofs.YtknmmkgaijndfaaW.PrintMore Go.Proofs.YtknmmkgaijndfaaE
set_option linter.unusedVariables false
set_option linter.unusedSimpArgs false

theorem FnExactTreeSure : laws_FnExactTreeSure.Pure:=by
  intro l m hl hb hm
  refine Evt.get ?_
  simp only [laws_FnExactTreeSure.f]
  refine Evt.bind (szVoteS_ends l 1048576 (by omega) (by omega) hl hb) fun s hs => ?_
  refine Evt.ite (fun _ => Evt.now _ rfl) fun h => ?_
  obtain ⟨hn,hc⟩:=hs.2 (by omega)
  have hs1:=hs.1
  rw [szItemS_eq m s (by omega) (by omega) hm]
  refine Evt.bind (P:=fun r => r = (if s - (m.length : Int) < 0 then -1 else s - (m.length : Int))) (Evt.now _ rfl) fun u hu => ?_
  refine Evt.ite (fun _ => Evt.now _ rfl) fun h2 => ?_
  have hml : m.length ≤ 1048576:=by
    by_cases h3 : s - (m.length : Int) < 0
    · rw [if_pos h3] at hu;omega
    · omega
  have hx : (l.map toVt).length ≤ 4611686018427387900:=by rw [List.length_map];omega
  have hxb : ∀ v,v ∈ l.map toVt → v.f1.length ≤ 4611686018427387900:=by
    intro v hv
    obtain ⟨u,hu,rfl⟩:=List.mem_map.1 hv
    have:=hc u hu
    simp only [toVt,List.length_map]
    omega
  have hy : (m.map toIt).length ≤ 4611686018427387900:=by rw [List.length_map];omega
  refine Evt.bind (toVoteS_ends l hn hc) fun a ha => ?_
  refine Evt.bind (toItemS_ends m hml) fun b hb' => ?_
  subst ha hb'
  refine Evt.bind (treeSure_spec _ _ hx hxb hy) fun c hc' => ?_
  refine Evt.bind (toVoteS_ends l hn hc) fun a ha => ?_
  refine Evt.bind (toItemS_ends m hml) fun b hb' => ?_
  subst ha hb'
  refine Evt.bind (treeSure_impl _ _ hx hxb hy) fun d hd => ?_
  refine Evt.neg (by rw [hc',hd];simp) ?_
  refine Evt.bind (toVoteS_ends l hn hc) fun a ha => ?_
  subst ha
  refine Evt.bind (eqVoteS_ends _ _ hx hxb) fun e he => ?_
  refine Evt.pos (by rw [he];simp) ?_
  refine Evt.bind (toItemS_ends m hml) fun b hb' => ?_
  subst hb'
  refine Evt.bind (eqItemS_ends _ _ hy) fun e he => ?_
  exact Evt.pos (by rw [he];simp) (Evt.now _ rfl)

end Go.Proofs.Ytknmmkgaijndfaa.Pure
