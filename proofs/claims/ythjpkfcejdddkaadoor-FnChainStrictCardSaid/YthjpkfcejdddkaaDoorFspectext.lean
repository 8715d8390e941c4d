/- Plain facts on what the printed functions compute (spectext). Conditions: each theorem's own. -/
import Derived.Test.YthjpkfcejdddkaaDoorPx0
import Derived.Test.YthjpkfcejdddkaaDoorPx4
import Derived.Test.YthjpkfcejdddkaaDoorPx10
import Derived.Test.YthjpkfcejdddkaaDoorFspecall
import Derived.Test.YthjpkfcejdddkaaDoorPlain
namespace Go.Proofs.YthjpkfcejdddkaaDoor.Pure
open Go.RowKit Go.Proofs.YthjpkfcejdddkaaDoor.P Go.Proofs.YthjpkfcejdddkaaDoorW.PrintWords Go.Proofs.YthjpkfcejdddkaaDoorW.PrintLast Go.Proofs.YthjpkfcejdddkaaDoorW.PrintMore Go.Proofs.YthjpkfcejdddkaaDoorE
set_option linter.unusedVariables false
set_option linter.unusedSimpArgs false

theorem impl_text (c : List It) (hc : chainOk c = true) (hl : (chainText c).length ≤ 130) : Evt (fun k => impl_ChainRead.f k (toB (chainText c))) (fun r => r = (c, true)) := by
  have ht : chainText c = impl_ChainText.txt c := by rw [chainText, if_pos hc]
  have hsz : (toB (chainText c)).size = (chainText c).length := rfl
  unfold impl_ChainRead.f
  refine Evt.neg (by rw [hsz]; omega) ?_
  have h := read_loop c hc c.length 0 (by omega)
  rw [List.drop_zero, List.take_zero, ← ht] at h
  exact h
theorem spec_text_loop (c : List It) (hc : chainOk c = true) : ∀ (d i : Nat), i + d = c.length → Evt (fun k => spec_ChainRead.l0 k (toB (chainText c)) (c.take i) ((c.map lineOf ++ [[]]).map toB) (i : Int)) (fun r => r = (c, true)) := by
  have hs := chainOk_small hc
  have hlen : ((c.map lineOf ++ [[]]).map toB).length = c.length + 1 := by simp
  intro d
  induction d with
  | zero =>
    intro i hd
    rw [List.take_of_length_le (by omega)]
    refine (spec_stop (chainText c) c ((c.map lineOf ++ [[]]).map toB) i (by omega) (by rw [hlen]; omega) (by omega)).mono fun r hr => ?_
    rw [hr, if_pos hc, if_pos rfl]
  | succ d ih =>
    intro i hd
    have hi : i < c.length := by omega
    have hm : rd_T48 c (i : Int) ∈ c := List.mem_of_getElem? (rdIt_get hi)
    have hx := chainOk_items hc _ hm
    obtain ⟨h0, h1, h2, h3⟩ := itemOk_bounds hx
    have hsn : c.take i ++ [rd_T48 c (i : Int)] = c.take (i + 1) := by
      rw [List.take_add_one, rdIt_get hi]; rfl
    have eci : c[i] = rd_T48 c (i : Int) := by
      have h := rdIt_get hi
      rw [List.getElem?_eq_getElem hi] at h
      exact Option.some.inj h
    have er : rdOf ByteArray.empty ((c.map lineOf ++ [[]]).map toB) (i : Int) = toB (lineOf (rd_T48 c (i : Int))) := by
      rw [rdOf_map _ i (by simp; omega), List.getElem_append_left (by simpa using hi), List.getElem_map, eci]
    have htk : (c.take i).length < 4398046511104 := by rw [List.length_take]; omega
    refine Evt.step (fun k => by simp only [spec_ChainRead.l0]; rw [wrap_succ (by omega), if_pos (by rw [hlen]; omega), if_pos (by omega), if_pos (by rw [hlen]; omega), er]) ?_
    generalize hg : rd_T48 c (i : Int) = x at hx h0 h1 h2 h3 hsn
    have n1 : (58 : UInt8) ∉ Lib.decDigits x.f0.toNat := fun hm => by
      obtain ⟨u, hu, e⟩ := dec_mem (n := x.f0.toNat) (by omega) _ hm
      exact ten_ne u hu e.symm
    have n2 : (58 : UInt8) ∉ [UInt8.ofNat (48 + x.f1.f0.toNat), UInt8.ofNat (48 + x.f1.f1.toNat), UInt8.ofNat (48 + x.f1.f2.toNat)] := fun hm => by
      simp only [List.mem_cons, List.not_mem_nil, or_false] at hm
      rcases hm with e | e | e
      · exact ten_ne _ (by omega) e.symm
      · exact ten_ne _ (by omega) e.symm
      · exact ten_ne _ (by omega) e.symm
    have ecut : cutsAt 58 (lineOf x) = [Lib.decDigits x.f0.toNat, [UInt8.ofNat (48 + x.f1.f0.toNat), UInt8.ofNat (48 + x.f1.f1.toNat), UInt8.ofNat (48 + x.f1.f2.toNat)]] := by
      rw [lineOf, cutsAt_app n1, cutsAt_none n2]
    have hll : (lineOf x).length ≤ 100000 := by
      have := dec_size (n := x.f0) (by omega) (by omega)
      have e : (impl_ChainText.dec x.f0).size = (Lib.decDigits x.f0.toNat).length := rfl
      rw [lineOf, List.length_append]
      simp only [List.length_cons, List.length_nil]
      omega
    refine Evt.bind (P := fun r => r = (cutsAt 58 (lineOf x)).map toB) (l1Cut_ends (lineOf x) 58 hll) fun z hz => ?_
    rw [ecut] at hz
    subst hz
    have e0 : ∀ a b : ByteArray, rdOf ByteArray.empty [a, b] 0 = a := fun _ _ => rfl
    have e1 : ∀ a b : ByteArray, rdOf ByteArray.empty [a, b] 1 = b := fun _ _ => rfl
    simp only [List.map_cons, List.map_nil, e0, e1]
    refine Evt.pos (by simp) (Evt.pos (by simp) ?_)
    refine Evt.bind (l1Dec_dec (n := x.f0) (by omega) (by omega)) fun a ha => ?_
    refine Evt.pos (by simp) (Evt.bind (l1Pay_three (a := x.f1.f0) (b := x.f1.f1) (c := x.f1.f2) (by omega) (by omega) (by omega)) fun b hb => Evt.pos (by omega) ?_)
    subst ha hb
    have hsn' : c.take i ++ [(⟨x.f0, ⟨x.f1.f0, x.f1.f1, x.f1.f2⟩⟩ : It)] = c.take (i + 1) := hsn
    rw [hsn']
    exact ih (i + 1) (by omega)
theorem spec_text (c : List It) (hc : chainOk c = true) (hl : (chainText c).length ≤ 130) : Evt (fun k => spec_ChainRead.f k (toB (chainText c))) (fun r => r = (c, true)) := by
  have ht : chainText c = impl_ChainText.txt c := by rw [chainText, if_pos hc]
  have hsz : (toB (chainText c)).size = (chainText c).length := rfl
  unfold spec_ChainRead.f
  simp only [Option.bind_some]
  refine Evt.neg (by rw [hsz]; omega) ?_
  refine Evt.bind (P := fun r => r = (cutsAt 10 (chainText c)).map toB) (l1Cut_ends (chainText c) 10 (by omega)) fun z hz => ?_
  rw [show cutsAt 10 (chainText c) = c.map lineOf ++ [[]] by rw [ht]; exact cutsAt_txt c (chainOk_items hc)] at hz
  subst hz
  have h := spec_text_loop c hc c.length 0 (by omega)
  rw [List.take_zero] at h
  exact h

end Go.Proofs.YthjpkfcejdddkaaDoor.Pure
