/- Those who are for a drawn chain are just the nodes a vote of which for it is among the votes, ascending, and the same if the votes stand the other way round. The plain part: what the printed functions compute answers true. Conditions: the argument fits the machine, as the row says. -/
import Derived.Test.YtknmmkgaijndfaaPx13
import Derived.Test.YtknmmkgaijndfaaXLayer
import Derived.Test.YtknmmkgaijndfaaFAll
import Derived.Test.YtknmmkgaijndfaaPlain
namespace Go.Proofs.Ytknmmkgaijndfaa.Pure
open Go.RowKit Go.Proofs.Ytknmmkgaijndfaa.P Go.Proofs.YtknmmkgaijndfaaW.PrintWords Go.Proofs.YtknmmkgaijndfaaW.PrintLast Go.Proofs.YtknmmkgaijndfaaW.PrintMore Go.Proofs.YtknmmkgaijndfaaE
set_option linter.unusedVariables false
set_option linter.unusedSimpArgs false

def idsFrom : Nat → List Int
  | 0 => []
  | d + 1 => (4 - (d : Int)) :: idsFrom d
theorem rd_mid (P R : List Int) (n : Int) : rd (P ++ n :: R) (P.length : Int) = n:=by
  unfold rd
  rw [Int.toNat_natCast,List.getD_eq_getElem?_getD,List.getElem?_append_right (Nat.le_refl _),Nat.sub_self]
  rfl
theorem FnVotesFor : laws_FnVotesFor.Pure:=by
  intro l _ hw
  have hl:=bytes_of hw
  refine Evt.get ?_
  simp only [laws_FnVotesFor.f]
  refine Evt.ite (fun _ => Evt.now _ rfl) fun _ => ?_
  refine Evt.bind (drawFor_ends hl) fun d hd => ?_
  obtain ⟨v,c⟩:=d
  obtain ⟨hv,hc⟩:=hd
  simp only at hv hc ⊢
  have hvl:=hv.1
  have hvb:=hv.big
  have hfl:=votesFor_le v c
  refine Evt.bind (votesFor_impl v c (by omega) hvb (by omega)) fun a ha => ?_
  refine Evt.bind (votesFor_spec v c (by omega) hvb (by omega)) fun b hb => ?_
  subst ha hb
  refine Evt.bind (lwInts_ends _ _ (by omega)) fun e he => ?_
  refine Evt.pos (by rw [he];simp) ?_
  refine Evt.bind (votesOk_spec v (by omega) hvb) fun s hs => ?_
  cases h1 : s with
  | false =>
    refine Evt.step (fun k => by simp only [laws_FnVotesFor.j0];rw [if_pos (by decide)]) ?_
    refine Evt.bind (votesFor_spec v c (by omega) hvb (by omega)) fun b hb => ?_
    subst hb
    exact Evt.bind (lwInts_ends _ _ (by omega)) fun e he => Evt.now _ (by rw [he];simp)
  | true =>
    have hvok : votesOk v = true:=by rw [← hs];exact h1
    have hfor : votesFor v c = forC v c:=by simp only [votesFor,hvok,if_true]
    have hvr : VB v.reverse 205:=hv.sub (by simp;omega) fun x hx => List.mem_reverse.1 hx
    have hforr : votesFor v.reverse c = forC v c:=by simp only [votesFor,votesOk_rev hvok,if_true,for_rev]
    rw [hfor] at hfl ⊢
    have key : ∀ (d : Nat) (P : List Int),d ≤ 4 → forC v c = P ++ (idsFrom d).filter (fun n => hasV v n c) → Evt (fun k => laws_FnVotesFor.l0 k v c (forC v c) (P.length : Int) (5 - (d : Int))) (fun r => r = true):=by
      intro d
      induction d with
      | zero =>
        intro P hd hP
        have e : P.length = (forC v c).length:=by rw [hP];simp [idsFrom]
        refine Evt.step (fun k => by simp only [laws_FnVotesFor.l0];rw [if_neg (by omega),if_pos (by omega)]) ?_
        refine Evt.bind (lwBack_ends v (by omega)) fun z hz => ?_
        subst hz
        refine Evt.bind (votesFor_impl v.reverse c (by have:=hvr.1;omega) hvr.big (by omega)) fun u hu => ?_
        rw [hforr] at hu
        subst hu
        exact Evt.bind (lwInts_ends _ _ (by omega)) fun e he => Evt.now _ (by rw [he];simp)
      | succ d ih =>
        intro P hd hP
        have e5 : 5 - ((d + 1 : Nat) : Int) = 4 - (d : Int):=by omega
        have w : wrap64 (4 - (d : Int) + 1) = 5 - (d : Int):=by unfold wrap64;omega
        rw [e5]
        refine Evt.step (fun k => by simp only [laws_FnVotesFor.l0,w];rw [if_pos (by omega)]) ?_
        refine Evt.bind (lwHas_ends v _ c (by omega) hvb) fun t ht => ?_
        rw [idsFrom,List.filter_cons] at hP
        refine Evt.ite (fun h => ?_) fun h => ?_
        · rw [ht] at h
          rw [if_pos h] at hP
          have hlen : P.length < (forC v c).length:=by rw [hP];simp
          have hr : rd (forC v c) (P.length : Int) = 4 - (d : Int):=by rw [hP];exact rd_mid _ _ _
          refine Evt.neg (by omega) (Evt.pos (by omega) (Evt.pos (by omega) (Evt.pos hr ?_)))
          have:=ih (P ++ [4 - (d : Int)]) (by omega) (by rw [hP];simp)
          rw [List.length_append] at this
          rw [wrap_succ (by omega)]
          exact this
        · rw [ht] at h
          rw [if_neg h] at hP
          exact ih P (by omega) hP
    refine Evt.step (fun k => by simp only [laws_FnVotesFor.j0];rw [if_neg (by decide)]) ?_
    exact key 4 [] (by omega) (by simp [forC,idsFrom])

end Go.Proofs.Ytknmmkgaijndfaa.Pure
