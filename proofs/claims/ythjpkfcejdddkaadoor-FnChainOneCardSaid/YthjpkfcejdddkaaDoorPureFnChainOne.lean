/- The texts of two drawn chains are the same just if the chains are, and the one's text begins the other's just if it begins it. The plain part: what the printed functions compute answers true. Conditions: the argument fits the machine, as the row says. -/
import Derived.Test.YthjpkfcejdddkaaDoorPx9
import Derived.Test.YthjpkfcejdddkaaDoorFchainin
import Derived.Test.YthjpkfcejdddkaaDoorFlwsame
import Derived.Test.YthjpkfcejdddkaaDoorFtextinj
import Derived.Test.YthjpkfcejdddkaaDoorFdrawtext
import Derived.Test.YthjpkfcejdddkaaDoorPlain
namespace Go.Proofs.YthjpkfcejdddkaaDoor.Pure
open Go.RowKit Go.Proofs.YthjpkfcejdddkaaDoor.P Go.Proofs.YthjpkfcejdddkaaDoorW.PrintWords Go.Proofs.YthjpkfcejdddkaaDoorW.PrintLast Go.Proofs.YthjpkfcejdddkaaDoorW.PrintMore Go.Proofs.YthjpkfcejdddkaaDoorE
set_option linter.unusedVariables false
set_option linter.unusedSimpArgs false

theorem one_end (a b : List It) (ha : a.length ≤ 9) (hb : b.length ≤ 9) : Evt (fun k => laws_FnChainOne.j1 k a b ⟨(chainText a).toArray⟩ ⟨(chainText b).toArray⟩ true) (fun r => r = true) := by
  refine Evt.step (fun k => by simp only [laws_FnChainOne.j1]; rw [if_pos trivial]) ?_
  refine Evt.bind (chainText_spec a (by omega)) fun y hy => ?_
  subst hy
  refine Evt.pos rfl ?_
  refine Evt.bind (chainText_spec b (by omega)) fun y hy => ?_
  subst hy
  exact Evt.now _ (by simp)
theorem text_list (l : List UInt8) : (⟨l.toArray⟩ : ByteArray).toList = l := by simp [ByteArray.toList_eq]
theorem text_size (l : List UInt8) : (⟨l.toArray⟩ : ByteArray).size = l.length := rfl
theorem text_cut (l : List UInt8) (n : Nat) : ((⟨l.toArray⟩ : ByteArray).extract 0 n).toList = l.take n := by
  rw [ByteArray.toList_eq, ByteArray.data_extract, Array.toList_extract]
  simp [List.extract]
theorem one_main (a b : List It) (ha : a.length ≤ 9) (hb : b.length ≤ 9) (h1 : chainOk a = true) (h2 : chainOk b = true) : Evt (fun k => laws_FnChainOne.j1 k a b ⟨(chainText a).toArray⟩ ⟨(chainText b).toArray⟩ false) (fun r => r = true) := by
  refine Evt.step (fun k => by simp only [laws_FnChainOne.j1]; rw [if_neg (by decide)]) ?_
  refine Evt.bind (lwSame_ends a b (by omega)) fun t ht => ?_
  refine Evt.pos (by
    rw [ht, text_list, text_list]
    by_cases h : a = b
    · simp [h]
    · have e : ¬ chainText a = chainText b := fun e => h ((text_inj h1 h2).1 e)
      simp [h, e]) ?_
  refine Evt.bind (chainIn_impl a b (by omega) (by omega)) fun t ht => ?_
  have hin : t = decide (a <+: b) := by rw [ht, inn, h1, h2]; simp
  subst hin
  have hp := text_pre h1 h2
  simp only [text_size, Int.toNat_natCast, text_cut, text_list]
  refine Evt.ite (fun h => Evt.pos (by omega) (Evt.now _ ?_)) fun h => Evt.now _ ?_
  · by_cases hab : a <+: b
    · have e := List.prefix_iff_eq_take.1 (hp.2 hab)
      rw [← e]; simp [hab]
    · have e : ¬ (chainText b).take (chainText a).length = chainText a := fun e => hab (hp.1 (List.prefix_iff_eq_take.2 e.symm))
      simp [hab, e]
  · have hab : ¬ a <+: b := fun hab => by have := (hp.2 hab).length_le; omega
    simp [hab]
theorem FnChainOne : laws_FnChainOne.Pure := by
  intro l m _ hw _ hv
  have hl := bytes_of hw
  have hm := bytes_of hv
  refine Evt.get ?_
  have end0 : Evt (fun k => laws_FnChainOne.j0 k l m true) (fun r => r = true) := Evt.step (fun k => by simp only [laws_FnChainOne.j0]; rw [if_pos trivial]) (Evt.now _ rfl)
  simp only [laws_FnChainOne.f]
  refine Evt.ite (fun _ => end0) fun h => ?_
  by_cases h9 : (m.length : Int) > 1048576
  · rw [decide_eq_true h9]; exact end0
  rw [decide_eq_false h9]
  refine Evt.step (fun k => by simp only [laws_FnChainOne.j0]; rw [if_neg (by decide)]) ?_
  refine Evt.bind (drawText_ends hl) fun a ha => ?_
  refine Evt.bind (drawText_ends hm) fun b hb => ?_
  refine Evt.bind (chainText_impl a (by omega)) fun s hs => ?_
  subst hs
  refine Evt.bind (chainText_impl b (by omega)) fun s hs => ?_
  subst hs
  refine Evt.bind (chainText_spec a (by omega)) fun s hs => ?_
  subst hs
  refine Evt.pos rfl (Evt.bind (chainText_spec b (by omega)) fun s hs => ?_)
  subst hs
  refine Evt.pos rfl (Evt.bind (chainOk_spec a (by omega)) fun s hs => ?_)
  cases h1 : chainOk a with
  | false => exact Evt.neg (by rw [hs, h1]; decide) (one_end a b ha hb)
  | true =>
    refine Evt.pos (by rw [hs, h1]) (Evt.bind (chainOk_spec b (by omega)) fun s hs => ?_)
    cases h3 : chainOk b with
    | false => rw [hs, h3]; exact one_end a b ha hb
    | true => rw [hs, h3]; exact one_main a b ha hb h1 h3

end Go.Proofs.YthjpkfcejdddkaaDoor.Pure
