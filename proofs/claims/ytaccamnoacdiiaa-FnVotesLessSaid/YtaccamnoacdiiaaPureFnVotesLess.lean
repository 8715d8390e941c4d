/- Drawn votes that are ok are ok with one less, and the last one first; with one twice they are not. The plain part: what the printed functions compute answers true. Conditions: the argument fits the machine, as the row says. -/
import Derived.Test.YtaccamnoacdiiaaPx0
import Derived.Test.YtaccamnoacdiiaaPx12
import Derived.Test.YtaccamnoacdiiaaFAll
import Derived.Test.YtaccamnoacdiiaaPlain
namespace Go.Proofs.Ytaccamnoacdiiaa.Pure
open Go.RowKit Go.Proofs.Ytaccamnoacdiiaa.P Go.Proofs.YtaccamnoacdiiaaW.PrintWords Go.Proofs.YtaccamnoacdiiaaW.PrintLast Go.Proofs.YtaccamnoacdiiaaW.PrintMore Go.Proofs.YtaccamnoacdiiaaE
set_option linter.unusedVariables false
set_option linter.unusedSimpArgs false

theorem FnVotesLess : laws_FnVotesLess.Pure:=by
  intro l m _ hw _ _
  have hl:=bytes_of hw
  refine Evt.get ?_
  have hend : Evt (fun k => laws_FnVotesLess.j0 k l m true) (fun r => r = true):=Evt.step (f:=fun _ => some true) (fun k => by simp only [laws_FnVotesLess.j0,if_true]) (Evt.now _ rfl)
  simp only [laws_FnVotesLess.f]
  refine Evt.ite (fun _ => hend) (fun h => ?_)
  by_cases h2 : (m.length : Int) > 1048576
  · rw [decide_eq_true h2]
    exact hend
  rw [decide_eq_false h2]
  refine Evt.step (fun k => by simp only [laws_FnVotesLess.j0];rw [if_neg (by decide)]) ?_
  refine Evt.bind (drawVotesOk_ends hl) fun v hv => ?_
  have hvl:=hv.1
  have hvb:=hv.big
  have fin : ∀ x,x = votesOk v → Evt (fun k => laws_FnVotesLess.j1 k m v x true) (fun r => r = true):=by
    intro x hx
    refine Evt.step (fun k => by simp only [laws_FnVotesLess.j1];rw [if_pos trivial]) ?_
    exact Evt.bind (votesOk_spec v (by omega) hvb) fun t ht => Evt.now _ (by rw [ht,hx];simp)
  refine Evt.bind (votesOk_impl v (by omega) hvb) fun a ha => ?_
  refine Evt.bind (votesOk_spec v (by omega) hvb) fun b hb => ?_
  refine Evt.neg (by rw [ha,hb];simp) ?_
  refine Evt.ite (fun hok => ?_) fun _ => fin a ha
  by_cases h0 : v = []
  · subst h0
    exact fin a ha
  have hpos : 0 < v.length:=List.length_pos_iff.2 h0
  have hf : ((v.length : Int) == 0) = false:=by simp;omega
  rw [hf]
  have hvok : votesOk v = true:=by rw [← ha];exact hok
  refine Evt.step (fun k => by simp only [laws_FnVotesLess.j1];rw [if_neg (by decide),if_neg (by omega)]) ?_
  have hi : 0 ≤ (m.length : Int) % (v.length : Int):=Int.emod_nonneg _ (by omega)
  have hj : (m.length : Int) % (v.length : Int) < (v.length : Int):=Int.emod_lt_of_pos _ (by omega)
  generalize (m.length : Int) % (v.length : Int) = i at hi hj
  obtain ⟨n,rfl⟩:=Int.eq_ofNat_of_zero_le hi
  have hn : n < v.length:=by omega
  rw [wrap_succ (by omega)]
  have hless:=votesOk_less hvok n
  have hvb1 : VB (v.take n ++ v.drop (n + 1)) 206:=hv.sub (by simp;omega) fun x hx => by
    rcases List.mem_append.1 hx with hx|hx
    · exact List.mem_of_mem_take hx
    · exact List.mem_of_mem_drop hx
  refine Evt.bind (P:=fun r => r = []) (Evt.now _ rfl) fun y0 hy0 => ?_
  subst hy0
  refine Evt.pos (by omega) (Evt.pos (by omega) ?_)
  refine Evt.bind (P:=fun r => r = v.take n) (Evt.now _ rfl) fun y1 hy1 => ?_
  have hl1 : y1.length ≤ 206:=by rw [hy1,List.length_take];omega
  refine Evt.pos (by rw [List.length_nil];omega) ?_
  refine Evt.bind (P:=fun r => r = y1) (Evt.now _ rfl) fun y2 hy2 => ?_
  subst hy2
  refine Evt.pos (by omega) (Evt.pos (by omega) ?_)
  refine Evt.bind (P:=fun r => r = v.drop (n + 1)) (Evt.now _ rfl) fun y3 hy3 => ?_
  have hl3 : y3.length ≤ 206:=by rw [hy3,List.length_drop];omega
  refine Evt.pos (by omega) ?_
  refine Evt.bind (P:=fun r => r = []) (Evt.now _ rfl) fun y4 hy4 => ?_
  subst hy4
  refine Evt.pos (by rw [List.length_nil];omega) ?_
  refine Evt.bind (P:=fun r => r = v) (Evt.now _ rfl) fun y5 hy5 => ?_
  subst hy5
  refine Evt.pos (by omega) ?_
  refine Evt.bind (P:=fun r => r = [rd_T25 y5 (n : Int)]) (Evt.now _ rfl) fun y6 hy6 => ?_
  have hl6 : y6.length = 1:=by rw [hy6];rfl
  refine Evt.pos (by omega) ?_
  rw [← hy1,← hy3] at hless hvb1
  refine Evt.bind (votesOk_impl _ (by have:=hvb1.1;omega) hvb1.big) fun t ht => ?_
  refine Evt.pos (by rw [ht];exact hless) ?_
  refine Evt.bind (lwBack_ends y5 (by omega)) fun z hz => ?_
  subst hz
  have hvb2 : VB y5.reverse 206:=hv.sub (by simp;omega) fun x hx => List.mem_reverse.1 hx
  refine Evt.bind (votesOk_impl _ (by have:=hvb2.1;omega) hvb2.big) fun t ht => ?_
  refine Evt.pos (by rw [ht];exact votesOk_rev hvok) ?_
  have hvb3 : VB (y5 ++ y6) 207:=by
    rw [hy6]
    exact hv.snoc (hv.2 _ (rdVt_mem hn))
  refine Evt.bind (votesOk_impl _ (by have:=hvb3.1;omega) hvb3.big) fun t ht => Evt.now _ ?_
  rw [ht,hy6,votesOk_twice (rdVt_mem hn)]
  rfl

end Go.Proofs.Ytaccamnoacdiiaa.Pure
