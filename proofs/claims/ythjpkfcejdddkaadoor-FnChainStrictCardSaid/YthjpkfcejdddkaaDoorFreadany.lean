/- Plain facts on what the printed functions compute (readany). Conditions: each theorem's own. -/
import Derived.Test.YthjpkfcejdddkaaDoorPx4
import Derived.Test.YthjpkfcejdddkaaDoorFchainread
import Derived.Test.YthjpkfcejdddkaaDoorPlain
namespace Go.Proofs.YthjpkfcejdddkaaDoor.Pure
open Go.RowKit Go.Proofs.YthjpkfcejdddkaaDoor.P Go.Proofs.YthjpkfcejdddkaaDoorW.PrintWords Go.Proofs.YthjpkfcejdddkaaDoorW.PrintLast Go.Proofs.YthjpkfcejdddkaaDoorW.PrintMore Go.Proofs.YthjpkfcejdddkaaDoorE
set_option linter.unusedVariables false
set_option linter.unusedSimpArgs false

theorem readPay_some (s : ByteArray) : ∃ q, impl_readPay.f s = some q := by
  unfold impl_readPay.f impl_digits.f
  rw [if_pos (by decide)]
  simp only [Option.bind_some]
  split <;> exact ⟨_, rfl⟩
theorem readItem_some (s : ByteArray) (h : s.size < 1000000) : ∃ q, impl_readItem.f s = some q := by
  unfold impl_readItem.f strings_Split.f
  rw [if_pos ⟨rfl, h⟩]
  simp only [Option.bind_some]
  generalize Lib.splitB ⟨#[58]⟩ 0 (Lib.countB s ⟨#[58]⟩) s = t
  by_cases h2 : (t.length : Int) = 2
  · rw [if_pos h2, if_pos (by omega)]
    unfold impl_digits.f
    rw [if_pos (by decide)]
    simp only [Option.bind_some]
    obtain ⟨p, hp⟩ := readPay_some (rdOf ByteArray.empty t 1)
    rw [hp]
    simp only [Option.bind_some]
    split <;> (rw [if_pos (show 1 < (t.length : Int) by omega)]; exact ⟨_, rfl⟩)
  · rw [if_neg h2]
    exact ⟨_, rfl⟩
theorem cut_short (t : List UInt8) (h : t ≠ []) : (Lib.cut t [10]).1.length ≤ t.length ∧ (Lib.cut t [10]).2.1.length < t.length := by
  have hl : 0 < t.length := List.length_pos_iff.2 h
  unfold Lib.cut
  split
  · simp only [List.length_take, List.length_drop, List.length_cons, List.length_nil]
    omega
  · simp only [List.length_nil]
    omega
/-- Whatever the text: it is read to its end. -/
theorem read_total (x0 : ByteArray) : ∀ (n : Nat) (c : List It) (t : List UInt8), t.length ≤ n → c.length + n ≤ 1000 → ∃ c', Evt (fun k => impl_ChainRead.l0 k x0 c ⟨t.toArray⟩) (fun r => r = if chainOk c' = true then (if chainText c' = x0.toList then (c', true) else ([], false)) else ([], false)) := by
  have stop : ∀ c : List It, c.length ≤ 1000 → Evt (fun k => impl_ChainRead.l0 k x0 c ⟨#[]⟩) (fun r => r = if chainOk c = true then (if chainText c = x0.toList then (c, true) else ([], false)) else ([], false)) := by
    intro c hc
    refine Evt.step (fun k => by simp only [impl_ChainRead.l0]; rw [if_pos (by simp [ByteArray.toList_eq])]) ?_
    refine Evt.bind (chainOk_impl c (by omega)) fun t h1 => ?_
    rw [h1]
    refine Evt.ite (fun h => ?_) fun h => Evt.now _ (by rw [if_neg h])
    refine Evt.bind (chainText_impl c (by omega)) fun t h2 => ?_
    subst h2
    have e : (⟨(chainText c).toArray⟩ : ByteArray).toList = chainText c := by simp [ByteArray.toList_eq]
    rw [e]
    exact Evt.ite (fun h3 => Evt.now _ (by rw [if_pos h, if_pos h3])) fun h3 => Evt.now _ (by rw [if_pos h, if_neg h3])
  intro n
  induction n with
  | zero =>
    intro c t ht hc
    obtain rfl : t = [] := List.eq_nil_of_length_eq_zero (by omega)
    exact ⟨c, stop c (by omega)⟩
  | succ n ih =>
    intro c t ht hc
    by_cases h0 : t = []
    · subst h0
      exact ⟨c, stop c (by omega)⟩
    · obtain ⟨k1, k2⟩ := cut_short t h0
      have hsz : (⟨t.toArray⟩ : ByteArray).size < 1000000 := by show t.length < 1000000; omega
      obtain ⟨q, hq⟩ := readItem_some ⟨(Lib.cut t [10]).1.toArray⟩ (by show (Lib.cut t [10]).1.length < 1000000; omega)
      obtain ⟨c', h'⟩ := ih (c ++ [(⟨q.1, ⟨q.2.1, q.2.2.1, q.2.2.2⟩⟩ : It)]) (Lib.cut t [10]).2.1 (by omega) (by simp only [List.length_append, List.length_cons, List.length_nil]; omega)
      refine ⟨c', Evt.step (fun k => by
        simp only [impl_ChainRead.l0, strings_Cut.f]
        rw [if_neg (by rw [ByteArray.toList_eq]; exact h0), if_pos ⟨rfl, hsz⟩]
        simp only [Option.bind_some]
        have e : impl_readItem.f ⟨(Lib.cut (⟨t.toArray⟩ : ByteArray).data.toList (⟨#[10]⟩ : ByteArray).data.toList).1.toArray⟩ = some q := hq
        rw [e]
        simp only [Option.bind_some]
        rw [if_pos (by omega)]) h'⟩
theorem txt_last : ∀ (c : List It), c ≠ [] → ∃ p, impl_ChainText.txt c = p ++ [10]
  | [], h => absurd rfl h
  | [x], _ => ⟨((((impl_ChainText.dec x.f0 ++ (⟨#[58]⟩ : ByteArray)) ++ impl_ChainText.dec x.f1.f0) ++ impl_ChainText.dec x.f1.f1) ++ impl_ChainText.dec x.f1.f2).data.toList, by rw [txt_cons, impl_ChainText.item, ByteArray.data_append, Array.toList_append]; simp only [impl_ChainText.txt, List.flatMap_nil, List.append_nil]⟩
  | x :: y :: c, _ => by
    obtain ⟨p, hp⟩ := txt_last (y :: c) (by simp)
    exact ⟨(impl_ChainText.item x).data.toList ++ p, by rw [txt_cons, hp, List.append_assoc]⟩
/-- What doesn't end with a line's end is no chain's text. -/
theorem read_not (p : List UInt8) (b : UInt8) (hb : b ≠ 10) (hl : p.length ≤ 900) : Evt (fun k => impl_ChainRead.f k ⟨(p ++ [b]).toArray⟩) (fun r => r.2 = false) := by
  unfold impl_ChainRead.f
  refine Evt.ite (fun _ => Evt.now _ rfl) fun _ => ?_
  obtain ⟨c', h⟩ := read_total ⟨(p ++ [b]).toArray⟩ 901 [] (p ++ [b]) (by simp; omega) (by simp)
  refine h.mono fun r hr => ?_
  rw [hr]
  split
  · rename_i hc
    split
    · rename_i he
      exfalso
      have e : (⟨(p ++ [b]).toArray⟩ : ByteArray).toList = p ++ [b] := by simp [ByteArray.toList_eq]
      rw [e, chainText, if_pos hc] at he
      by_cases h0 : c' = []
      · subst h0; simp [impl_ChainText.txt] at he
      · obtain ⟨p', hp'⟩ := txt_last c' h0
        rw [hp'] at he
        have := (List.append_inj' he rfl).2
        simp only [List.cons.injEq, and_true] at this
        exact hb this.symm
    · rfl
  · rfl

end Go.Proofs.YthjpkfcejdddkaaDoor.Pure
