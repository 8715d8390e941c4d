/- The program's VotesFor and the reference's answer the same for all votes and every chain, and both are left as they were; the answer shares no memory with them nor with another answer. The plain part: what the printed functions compute answers true. Conditions: the argument fits the machine, as the row says. -/
import Derived.Test.YtknmmkgaijndfaaPx0
import Derived.Test.YtknmmkgaijndfaaXVotes
import Derived.Test.YtknmmkgaijndfaaFAll
import Derived.Test.YtknmmkgaijndfaaPlain
namespace Go.Proofs.Ytknmmkgaijndfaa.Pure
open Go.RowKit Go.Proofs.Ytknmmkgaijndfaa.P Go.Proofs.YtknmmkgaijndfaaW.PrintWords Go.Proofs.YtknmmkgaijndfaaW.PrintLast Go.Proofs.YtknmmkgaijndfaaW.PrintMore Go.Proofs.YtknmmkgaijndfaaE
set_option linter.unusedVariables false
set_option linter.unusedSimpArgs false

theorem votesFor_end (l : List (S53)) (m : List LIt) (v : List Vt) (c : List It) (hn : l.length ≤ 1048576) (hc : ∀ u, u ∈ l → u.f1.length ≤ 1048576) (hm : m.length ≤ 1048576) (hv : v = l.map toVt) (hcE : c = m.map toIt) (hx : v.length ≤ 4611686018427387900) (hxb : ∀ u, u ∈ v → u.f1.length ≤ 4611686018427387900) (hy : c.length ≤ 4611686018427387900) :
    Evt (fun k => laws_FnExactVotesFor.j0 k l m (votesFor v c) (votesFor v c) false) (fun r => r = true) := by
  have h4 := votesFor_le v c
  refine Evt.step (fun k => by simp only [laws_FnExactVotesFor.j0]; rw [if_neg (by decide)]) ?_
  refine Evt.bind (markIntS_ends _ 1 (by omega) (by omega) (by omega)) fun p hp => ?_
  subst hp
  refine Evt.bind (heldIntS_ends _ 1 (by omega) (by omega) (by omega)) fun q hq => ?_
  subst hq
  refine Evt.neg (by omega) (Evt.pos rfl ?_)
  refine Evt.bind (toVoteS_ends l hn hc) fun a ha => ?_
  refine Evt.bind (toItemS_ends m hm) fun b hb => ?_
  rw [← hv] at ha
  rw [← hcE] at hb
  subst ha hb
  refine Evt.bind (votesFor_impl _ _ hx hxb hy) fun t ht => ?_
  subst ht
  refine Evt.bind (eqIntS_ends _ _ (by omega)) fun e he => ?_
  refine Evt.pos (by rw [he]; simp) ?_
  refine Evt.bind (heldIntS_ends _ 1 (by omega) (by omega) (by omega)) fun q hq => ?_
  subst hq
  exact Evt.neg (by omega) (Evt.pos rfl (Evt.now _ rfl))
def cost (l : List Vt) : Int := (l.map fun v => 1 + 4 * (v.f1.length : Int)).sum
theorem cost_cons (u : Vt) (l : List Vt) : cost (u :: l) = 1 + 4 * (u.f1.length : Int) + cost l := by
  unfold cost
  rw [List.map_cons, List.sum_cons]
theorem cost_le : ∀ (l : List Vt), (∀ u, u ∈ l → u.f1.length ≤ 1048576) → 0 ≤ cost l ∧ cost l ≤ 4194305 * (l.length : Int)
  | [], _ => by simp [cost]
  | u :: l, h => by
    obtain ⟨h1, h2⟩ := cost_le l (fun x hx => h x (List.mem_cons_of_mem _ hx))
    have := h u List.mem_cons_self
    rw [cost_cons, List.length_cons]
    omega
theorem FnExactVotesFor : laws_FnExactVotesFor.Pure := by
  intro l m hl hb hm
  refine Evt.get ?_
  simp only [laws_FnExactVotesFor.f]
  refine Evt.bind (szVoteS_ends l 1048576 (by omega) (by omega) hl hb) fun s hs => ?_
  refine Evt.ite (fun _ => Evt.now _ rfl) fun h => ?_
  obtain ⟨hn, hc⟩ := hs.2 (by omega)
  have hs1 := hs.1
  rw [szItemS_eq m s (by omega) (by omega) hm]
  refine Evt.bind (P := fun r => r = (if s - (m.length : Int) < 0 then -1 else s - (m.length : Int))) (Evt.now _ rfl) fun u hu => ?_
  refine Evt.ite (fun _ => Evt.now _ rfl) fun h2 => ?_
  have hml : m.length ≤ 1048576 := by
    by_cases h3 : s - (m.length : Int) < 0
    · rw [if_pos h3] at hu; omega
    · omega
  have hxs : ∀ v, v ∈ l.map toVt → v.f1.length ≤ 1048576 := by
    intro v hv
    obtain ⟨u, hu, rfl⟩ := List.mem_map.1 hv
    have := hc u hu
    simp only [toVt, List.length_map]
    omega
  have hxl : (l.map toVt).length ≤ 1048576 := by rw [List.length_map]; omega
  have hx : (l.map toVt).length ≤ 4611686018427387900 := by omega
  have hxb : ∀ v, v ∈ l.map toVt → v.f1.length ≤ 4611686018427387900 := fun v hv => by have := hxs v hv; omega
  have hyl : (m.map toIt).length ≤ 1048576 := by rw [List.length_map]; omega
  have hy : (m.map toIt).length ≤ 4611686018427387900 := by omega
  have h4 := votesFor_le (l.map toVt) (m.map toIt)
  refine Evt.bind (toVoteS_ends l hn hc) fun a ha => ?_
  refine Evt.bind (toItemS_ends m hml) fun b hb' => ?_
  subst ha hb'
  refine Evt.bind (votesFor_spec _ _ hx hxb hy) fun c hc' => ?_
  refine Evt.bind (toVoteS_ends l hn hc) fun a ha => ?_
  refine Evt.bind (toItemS_ends m hml) fun b hb' => ?_
  subst ha hb'
  refine Evt.bind (votesFor_impl _ _ hx hxb hy) fun d hd => ?_
  subst hc' hd
  refine Evt.bind (eqIntS_ends _ _ (by omega)) fun e he => ?_
  refine Evt.pos (by rw [he]; simp) ?_
  refine Evt.bind (toVoteS_ends l hn hc) fun a ha => ?_
  subst ha
  refine Evt.bind (eqVoteS_ends _ _ hx hxb) fun e he => ?_
  refine Evt.pos (by rw [he]; simp) ?_
  refine Evt.bind (toItemS_ends m hml) fun b hb' => ?_
  subst hb'
  refine Evt.bind (eqItemS_ends _ _ hy) fun e he => ?_
  refine Evt.pos (by rw [he]; simp) ?_
  obtain ⟨hc0, hc1⟩ := cost_le (l.map toVt) hxs
  have hmk : laws_markVoteS.f (l.map toVt) 1 = some (1 + cost (l.map toVt)) := by
    show (if 0 ≤ (1 : Int) ∧ 1 + cost (l.map toVt) ≤ 4000000000000000000 then some (1 + cost (l.map toVt)) else none) = _
    rw [if_pos ⟨by omega, by omega⟩]
  rw [hmk]
  refine Evt.bind (P := fun r => r = 1 + cost (l.map toVt)) (Evt.now _ rfl) fun k hk => ?_
  refine Evt.bind (markItemS_ends _ k (by omega) (by omega) hyl) fun p hp => ?_
  subst hp
  refine Evt.neg (by simp only; omega) ?_
  refine Evt.bind (eqIntS_ends _ _ (by omega)) fun e he => ?_
  rw [he, decide_eq_true rfl]
  exact votesFor_end l m _ _ hn hc hml rfl rfl hx hxb hy

end Go.Proofs.Ytknmmkgaijndfaa.Pure
