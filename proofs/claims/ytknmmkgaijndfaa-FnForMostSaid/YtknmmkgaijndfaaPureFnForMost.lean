/- For each chain of drawn votes there are one to four nodes, and over all chains as many as there are votes. The plain part: what the printed functions compute answers true. Conditions: the argument fits the machine, as the row says. -/
import Derived.Test.YtknmmkgaijndfaaPx0
import Derived.Test.YtknmmkgaijndfaaPx12
import Derived.Test.YtknmmkgaijndfaaFAll
import Derived.Test.YtknmmkgaijndfaaPlain
namespace Go.Proofs.Ytknmmkgaijndfaa.Pure
open Go.RowKit Go.Proofs.Ytknmmkgaijndfaa.P Go.Proofs.YtknmmkgaijndfaaW.PrintWords Go.Proofs.YtknmmkgaijndfaaW.PrintLast Go.Proofs.YtknmmkgaijndfaaW.PrintMore Go.Proofs.YtknmmkgaijndfaaE
set_option linter.unusedVariables false
set_option linter.unusedSimpArgs false

theorem FnForMost : laws_FnForMost.Pure:=by
  intro l _ hw
  have hl:=bytes_of hw
  refine Evt.get ?_
  simp only [laws_FnForMost.f]
  refine Evt.ite (fun _ => Evt.now _ rfl) fun _ => ?_
  refine Evt.bind (drawFor_ends hl) fun d hd => ?_
  obtain ⟨v,c⟩:=d
  obtain ⟨hv,hc⟩:=hd
  simp only at hv hc ⊢
  have hvl:=hv.1
  have hvb:=hv.big
  have hfl:=votesFor_le v c
  refine Evt.bind (votesFor_impl v c (by omega) hvb (by omega)) fun a ha => ?_
  refine Evt.bind (votesFor_spec v c (by omega) hvb (by omega)) fun b hb => ?_
  subst ha hb
  refine Evt.bind (lwInts_ends _ _ (by omega)) fun e he => ?_
  refine Evt.pos (by rw [he];simp) ?_
  refine Evt.bind (votesOk_spec v (by omega) hvb) fun s hs => ?_
  cases h1 : s with
  | false =>
    refine Evt.step (fun k => by simp only [laws_FnForMost.j0];rw [if_pos (by decide)]) ?_
    refine Evt.bind (votesFor_spec v c (by omega) hvb (by omega)) fun b hb => ?_
    subst hb
    exact Evt.bind (lwInts_ends _ _ (by omega)) fun e he => Evt.now _ (by rw [he];simp)
  | true =>
    have hvok : votesOk v = true:=by rw [← hs];exact h1
    have hsl : ∀ cs : List (List It),someC v cs ≤ v.length:=fun cs => List.countP_le_length
    have key : ∀ (d i : Nat),i + d = v.length → Evt (fun k => laws_FnForMost.l0 k v (someC v ((v.take i).map fun x => x.f1) : Int) (i : Int)) (fun r => r = true):=by
      intro d
      induction d with
      | zero =>
        intro i hd
        have e : i = v.length:=by omega
        subst e
        refine Evt.step (f:=fun _ => some _) (fun k => by simp only [laws_FnForMost.l0];rw [if_neg (by omega)]) (Evt.now _ ?_)
        rw [List.take_of_length_le (Nat.le_refl _),someC_all]
        simp
      | succ d ih =>
        intro i hd
        have hi : i < v.length:=by omega
        have ihs:=ih (i + 1) (by omega)
        rw [take_vt hi,List.map_append] at ihs
        simp only [List.map_cons,List.map_nil] at ihs
        have inner : ∀ (e j : Nat) (first : Bool),j + e = i → (first = true ↔ (rd_T48 v (i : Int)).f1 ∉ (v.take j).map fun x => x.f1) →
            Evt (fun k => laws_FnForMost.l1 k v (someC v ((v.take i).map fun x => x.f1) : Int) (i : Int) first (j : Int)) (fun r => r = true):=by
          intro e
          induction e with
          | zero =>
            intro j first he hf
            have e2 : j = i:=by omega
            subst e2
            refine Evt.step (fun k => by simp only [laws_FnForMost.l1];rw [if_neg (by omega)]) ?_
            refine Evt.ite (fun h3 => Evt.pos (by omega) (Evt.pos (by omega) ?_)) fun h3 => ?_
            · have hb1:=hv.2 _ (rdVt_mem hi)
              have hnew:=someC_new v (hf.1 h3)
              rw [hnew] at ihs
              have hpos:=many_pos (rdVt_mem hi)
              have h4:=for_le v (rd_T48 v (j : Int)).f1
              have h5:=hsl (((v.take j).map fun x => x.f1))
              refine Evt.bind (votesFor_impl v _ (by omega) hvb (by omega)) fun u hu => ?_
              have hm : manyC v (rd_T48 v (j : Int)).f1 = u.length:=by rw [hu,many_for' hvok];simp only [votesFor,hvok,if_true]
              have hu4 : u.length ≤ 4:=by rw [← hm,many_for' hvok];exact h4
              rw [hm] at ihs hpos
              refine Evt.neg (by omega) (Evt.neg (by omega) ?_)
              rw [wrap_succ (by omega),wrap64_small (by omega) (by omega)]
              exact ihs
            · have hin : (rd_T48 v (j : Int)).f1 ∈ (v.take j).map fun x => x.f1:=Classical.not_not.1 fun h6 => h3 (hf.2 h6)
              rw [someC_old v hin] at ihs
              rw [wrap_succ (by omega)]
              exact ihs
          | succ e ihe =>
            intro j first he hf
            have hj : j < v.length:=by omega
            have hmem : ∀ x : List It,x ∈ (v.take (j + 1)).map (fun x => x.f1) ↔ x ∈ (v.take j).map (fun x => x.f1) ∨ x = (rd_T48 v (j : Int)).f1:=by
              intro x
              rw [take_vt hj,List.map_append,List.mem_append]
              simp
            refine Evt.step (fun k => by simp only [laws_FnForMost.l1];rw [if_pos (by omega),wrap_succ (by omega)]) ?_
            refine Evt.ite (fun h3 => Evt.pos (by omega) (Evt.pos (by omega) (Evt.pos (by omega) (Evt.pos (by omega) ?_)))) fun h3 => ihe (j + 1) false (by omega) ?_
            · refine Evt.bind (lwSame_ends _ _ (hvb _ (rdVt_mem hj))) fun t ht => ihe (j + 1) _ (by omega) ?_
              rw [hmem,ht,Bool.not_eq_true',decide_eq_false_iff_not]
              constructor
              · rintro h4 (h5|h5)
                · exact (hf.1 h3) h5
                · exact h4 h5.symm
              · exact fun h4 h5 => h4 (.inr h5.symm)
            · rw [hmem]
              constructor
              · intro h4;cases h4
              · intro h4
                exact absurd (hf.2 fun h5 => h4 (.inl h5)) h3
        refine Evt.step (f:=fun k => laws_FnForMost.l1 k v (someC v ((v.take i).map fun x => x.f1) : Int) (i : Int) true ((0 : Nat) : Int)) (fun k => by simp only [laws_FnForMost.l0];rw [if_pos (by omega)];rfl) ?_
        exact inner i 0 true (by omega) (by simp)
    refine Evt.step (fun k => by simp only [laws_FnForMost.j0];rw [if_neg (by decide)]) ?_
    have:=key v.length 0 (by omega)
    have e0 : someC v ((v.take 0).map fun x => x.f1) = 0:=by simp [someC]
    rw [e0] at this
    exact this

end Go.Proofs.Ytknmmkgaijndfaa.Pure
