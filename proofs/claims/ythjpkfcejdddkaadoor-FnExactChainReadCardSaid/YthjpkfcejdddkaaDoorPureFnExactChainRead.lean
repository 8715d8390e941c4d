/- The program's ChainRead and the reference's answer the same for every text; the answer shares no memory with another answer. The plain part: what the printed functions compute answers true. Conditions: the argument fits the machine, as the row says. -/
import Derived.Test.YthjpkfcejdddkaaDoorPx3
import Derived.Test.YthjpkfcejdddkaaDoorPx9
import Derived.Test.YthjpkfcejdddkaaDoorPx10
import Derived.Test.YthjpkfcejdddkaaDoorXRead
import Derived.Test.YthjpkfcejdddkaaDoorFAll
import Derived.Test.YthjpkfcejdddkaaDoorPlain
namespace Go.Proofs.YthjpkfcejdddkaaDoor.Pure
open Go.RowKit Go.Proofs.YthjpkfcejdddkaaDoor.P Go.Proofs.YthjpkfcejdddkaaDoorW.PrintWords Go.Proofs.YthjpkfcejdddkaaDoorW.PrintLast Go.Proofs.YthjpkfcejdddkaaDoorW.PrintMore Go.Proofs.YthjpkfcejdddkaaDoorE
set_option linter.unusedVariables false
set_option linter.unusedSimpArgs false

theorem exRead_end (t : ByteArray) (r : List It × Bool) (h2 : Evt (fun k => impl_ChainRead.f k t) (fun x => x = r)) (hc : r.1.length ≤ 1000) : Evt (fun k => laws_FnExactChainRead.j0 k t r.1 r.2 r.1 (r.2 != r.2)) (fun x => x = true):=by
  have hb : (r.2 != r.2) = false:=by simp
  rw [hb]
  refine Evt.step (fun k => by simp only [laws_FnExactChainRead.j0];rw [if_neg (by decide)]) ?_
  refine Evt.bind (markItemS_ends _ 1 (by omega) (by omega) (by omega)) fun p hp => ?_
  subst hp
  refine Evt.bind (heldItemS_ends _ 1 (by omega) (by omega) (by omega)) fun q hq => ?_
  subst hq
  refine Evt.neg (by omega) (Evt.pos rfl ?_)
  refine Evt.bind h2 fun y hy => ?_
  subst hy
  refine Evt.bind (eqItemS_ends _ _ (by omega)) fun e he => ?_
  refine Evt.pos (by rw [he];simp) ?_
  rw [hb]
  refine Evt.step (fun k => by simp only [laws_FnExactChainRead.j1];rw [if_neg (by decide)]) ?_
  refine Evt.bind (heldItemS_ends _ 1 (by omega) (by omega) (by omega)) fun q hq => ?_
  subst hq
  exact Evt.neg (by omega) (Evt.pos rfl (Evt.now _ rfl))
theorem FnExactChainRead : laws_FnExactChainRead.Pure:=by
  intro s _
  refine Evt.get ?_
  simp only [laws_FnExactChainRead.f]
  refine Evt.ite (fun _ => Evt.now _ rfl) fun _ => ?_
  have both : ∀ r,Evt (fun k => spec_ChainRead.f k s) (fun x => x = r) → Evt (fun k => impl_ChainRead.f k s) (fun x => x = r) → r.1.length ≤ 1000 → Evt (fun n => (spec_ChainRead.f n s).bind fun bt236 => (impl_ChainRead.f n s).bind fun bt240 => (laws_eqItemS.f n bt240.1 bt236.1).bind fun t244 => if t244 = true then laws_FnExactChainRead.j0 n s bt236.1 bt236.2 bt240.1 (bt240.2 != bt236.2) else laws_FnExactChainRead.j0 n s bt236.1 bt236.2 bt240.1 true) (fun r => r = true):=by
    intro r h1 h2 h4
    refine Evt.bind h1 fun x hx => ?_
    subst hx
    refine Evt.bind h2 fun y hy => ?_
    subst hy
    refine Evt.bind (eqItemS_ends _ _ (by omega)) fun e he => ?_
    exact Evt.pos (by rw [he];simp) (exRead_end s y h2 h4)
  obtain ⟨⟨t⟩⟩:=s
  by_cases hex : ∃ c,chainOk c = true ∧ chainText c = t ∧ t.length ≤ 130
  · obtain ⟨c,hc,rfl,h130⟩:=hex
    have:=chainOk_small hc
    exact both (c,true) (spec_text c hc h130) (impl_text c hc h130) (by simp only;omega)
  · have none_ : ∀ r,Reads t r → t.length ≤ 130 → r = ([],false):=fun r hr h => by
      rcases hr with hr|⟨c,h1,h2,h3⟩
      · exact hr
      · exact absurd ⟨c,h1,h2,h⟩ hex
    by_cases h130 : t.length ≤ 130
    · exact both ([],false) ((spec_reads t (by omega)).mono fun r hr => none_ r hr h130) ((impl_reads t (by omega)).mono fun r hr => none_ r hr h130) (by simp)
    · have hsz : (toB t).size = t.length:=rfl
      exact both ([],false) (by show Evt (fun k => spec_ChainRead.f k (toB t)) _;unfold spec_ChainRead.f;simp only [Option.bind_some];exact Evt.pos (by rw [hsz];omega) (Evt.now _ rfl)) (by show Evt (fun k => impl_ChainRead.f k (toB t)) _;unfold impl_ChainRead.f;exact Evt.pos (by rw [hsz];omega) (Evt.now _ rfl)) (by simp)

end Go.Proofs.YthjpkfcejdddkaaDoor.Pure
