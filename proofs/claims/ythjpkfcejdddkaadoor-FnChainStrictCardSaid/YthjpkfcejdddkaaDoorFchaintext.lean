/- Plain facts on what the printed functions compute (chaintext). Conditions: each theorem's own. -/
import Derived.Test.YthjpkfcejdddkaaDoorPx0
import Derived.Test.YthjpkfcejdddkaaDoorPx4
import Derived.Test.YthjpkfcejdddkaaDoorPx7
import Derived.Test.YthjpkfcejdddkaaDoorPx8
import Derived.Test.YthjpkfcejdddkaaDoorFchain
import Derived.Test.YthjpkfcejdddkaaDoorPlain
namespace Go.Proofs.YthjpkfcejdddkaaDoor.Pure
open Go.RowKit Go.Proofs.YthjpkfcejdddkaaDoor.P Go.Proofs.YthjpkfcejdddkaaDoorW.PrintWords Go.Proofs.YthjpkfcejdddkaaDoorW.PrintLast Go.Proofs.YthjpkfcejdddkaaDoorW.PrintMore Go.Proofs.YthjpkfcejdddkaaDoorE
set_option linter.unusedVariables false
set_option linter.unusedSimpArgs false

theorem decLow {u : Nat} (h : u < 10) : Lib.decDigits u = [UInt8.ofNat (48 + u)] := by rw [Lib.decDigits, dif_pos h]
theorem decTwo {u : Nat} (h : 10 ≤ u) (h2 : u < 100) : Lib.decDigits u = [UInt8.ofNat (48 + u / 10), UInt8.ofNat (48 + u % 10)] := by
  rw [Lib.decDigits, dif_neg (by omega), decLow (by omega)]; rfl
theorem dec_size {n : Int} (h0 : 0 ≤ n) (h1 : n < 100) : (impl_ChainText.dec n).size ≤ 2 := by
  show (Lib.decDigits n.toNat).length ≤ 2
  by_cases h : n.toNat < 10
  · rw [decLow h]; simp
  · rw [decTwo (by omega) (by omega)]; simp
theorem l6Dec_one {n : Int} (h0 : 0 ≤ n) (h1 : n < 10) (k : Nat) : spec_l6Dec.f (k + 1) n = some (impl_ChainText.dec n) := by
  simp only [spec_l6Dec.f]
  rw [if_neg (by omega), if_neg (by omega), if_pos h1, wrap64_small (by omega) (by omega), Int.emod_eq_of_lt (by omega) (by omega)]
  congr 1
  unfold impl_ChainText.dec strOfNums
  rw [decLow (by omega)]
  simp only [List.map_cons, List.map_nil]
  rw [show (48 + n).toNat = 48 + n.toNat by omega]
theorem l6Dec_ends {n : Int} (h0 : 0 ≤ n) (h1 : n < 100) : Evt (fun k => spec_l6Dec.f k n) (fun r => r = impl_ChainText.dec n) := by
  by_cases h : n < 10
  · exact Evt.step (fun k => l6Dec_one h0 h k) (Evt.now _ rfl)
  have e1 : Int.tdiv n 10 = n / 10 := Int.tdiv_eq_ediv_of_nonneg h0
  have e2 : Int.tmod n 10 = n % 10 := Int.tmod_eq_emod_of_nonneg h0
  refine Evt.step (f := fun k => (spec_l6Dec.f k (n / 10)).bind fun t => ((some (([(wrap64 (48 + (Int.tmod n 10))) % 256] : List Int) : List Int)).bind fun y => (if t.size + (strOfNums y).size ≤ 9223372036854775807 then (some (t ++ (strOfNums y))) else (none)))) (fun k => by
    simp only [spec_l6Dec.f]
    rw [if_neg (by omega), if_neg (by omega), if_neg h, e1, wrap64_small (n := n / 10) (by omega) (by omega)]) ?_
  refine Evt.bind (P := fun r => r = impl_ChainText.dec (n / 10)) (Evt.step (fun k => l6Dec_one (by omega) (by omega) k) (Evt.now _ rfl)) fun t ht => ?_
  refine Evt.bind (P := fun r => r = [48 + n % 10]) (Evt.now _ (by rw [e2, wrap64_small (by omega) (by omega), Int.emod_eq_of_lt (by omega) (by omega)])) fun y hy => ?_
  subst ht hy
  have hs := dec_size (n := n / 10) (by omega) (by omega)
  refine Evt.pos (by rw [strOfNums_size]; simp only [List.length_cons, List.length_nil]; omega) (Evt.now _ ?_)
  refine ByteArray.ext (Array.toList_inj.1 ?_)
  rw [ByteArray.data_append, Array.toList_append, strOfNums_data]
  show Lib.decDigits (n / 10).toNat ++ _ = Lib.decDigits n.toNat
  rw [decLow (by omega), decTwo (u := n.toNat) (by omega) (by omega)]
  simp only [List.map_cons, List.map_nil, List.cons_append, List.nil_append]
  rw [show (48 + n % 10).toNat = 48 + n.toNat % 10 by omega, show (n / 10).toNat = n.toNat / 10 by omega]
theorem okFrom_mem : ∀ {l : List It} {e : Int}, okFrom e l = true → ∀ x ∈ l, itemOk x = true
  | [], _, _, x, hx => by cases hx
  | y :: l, e, h, x, hx => by
    simp only [okFrom, Bool.and_eq_true] at h
    rcases List.mem_cons.1 hx with rfl | hx
    · exact h.1
    · exact okFrom_mem h.2.2 x hx
theorem itemOk_small {x : It} (h : itemOk x = true) : impl_ChainText.small x := by
  simp only [itemOk, payOk, Bool.and_eq_true, decide_eq_true_eq] at h
  have one : ∀ n : Int, 0 ≤ n → n < 100 → impl_ChainText.low n := fun n h0 h1 => ⟨⟨h0, h1⟩, Nat.le_trans (dec_size h0 h1) (by omega)⟩
  exact ⟨one _ (by omega) (by omega), one _ (by omega) (by omega), one _ (by omega) (by omega), one _ (by omega) (by omega)⟩
theorem chainOk_small {l : List It} (h : chainOk l = true) : l.length ≤ 16 ∧ ∀ x ∈ l, impl_ChainText.small x := by
  simp only [chainOk, Bool.and_eq_true, decide_eq_true_eq] at h
  exact ⟨h.2, fun x hx => itemOk_small (okFrom_mem h.1 x hx)⟩
/-- The text of a chain. -/
def chainText (l : List It) : List UInt8 := if chainOk l = true then impl_ChainText.txt l else []
theorem chainText_impl (l : List It) (hl : l.length ≤ 4611686018427387900) : Evt (fun k => impl_ChainText.f k l) (fun r => r = ⟨(chainText l).toArray⟩) := by
  unfold impl_ChainText.f chainText
  refine Evt.bind (chainOk_impl l hl) fun t ht => ?_
  rw [ht]
  refine Evt.ite (fun h => ?_) fun h => Evt.now _ (by rw [if_neg h])
  have hs := chainOk_small h
  exact Evt.pos ⟨by omega, hs.2⟩ (Evt.now _ (by rw [if_pos h]))
theorem chainText_loop (l : List It) (hl : l.length ≤ 16) (hs : ∀ x ∈ l, impl_ChainText.small x) : ∀ (d i : Nat) (x : ByteArray), i + d = l.length → x.size ≤ 1000 * i → Evt (fun k => spec_ChainText.l0 k l x (i : Int)) (fun r => r.data.toList = x.data.toList ++ impl_ChainText.txt (l.drop i)) := by
  intro d
  induction d with
  | zero =>
    intro i x hd _
    rw [List.drop_eq_nil_of_le (by omega)]
    refine Evt.step (f := fun _ => some x) (fun k => by simp only [spec_ChainText.l0]; rw [if_neg (by omega)]) (Evt.now _ ?_)
    simp [impl_ChainText.txt]
  | succ d ih =>
    intro i x hd hx
    have hm : rd_T48 l (i : Int) ∈ l := List.mem_of_getElem? (rdIt_get (l := l) (i := i) (by omega))
    obtain ⟨⟨⟨a0, a1⟩, _⟩, ⟨⟨b0, b1⟩, _⟩, ⟨⟨c0, c1⟩, _⟩, ⟨⟨d0, d1⟩, _⟩⟩ := hs _ hm
    have sa := dec_size a0 a1
    have sb := dec_size b0 b1
    have sc := dec_size c0 c1
    have sd := dec_size d0 d1
    have e1 : (⟨#[58]⟩ : ByteArray).size = 1 := rfl
    have e2 : (⟨#[10]⟩ : ByteArray).size = 1 := rfl
    have e : ∀ k, spec_ChainText.l0 (k + 1) l x (i : Int) = _ := fun k => by rw [spec_ChainText.l0, if_pos (by omega), if_pos (by omega), wrap_succ (by omega)]
    refine Evt.step e ?_
    refine Evt.bind (l6Dec_ends a0 a1) fun t ht => ?_
    subst ht
    refine Evt.pos (by omega) (Evt.pos (by rw [ByteArray.size_append]; omega) ?_)
    refine Evt.bind (l6Dec_ends b0 b1) fun t ht => ?_
    subst ht
    refine Evt.pos (by simp only [ByteArray.size_append, e1]; omega) ?_
    refine Evt.bind (l6Dec_ends c0 c1) fun t ht => ?_
    subst ht
    refine Evt.pos (by simp only [ByteArray.size_append, e1]; omega) ?_
    refine Evt.bind (l6Dec_ends d0 d1) fun t ht => ?_
    subst ht
    refine Evt.pos (by simp only [ByteArray.size_append, e1]; omega) (Evt.pos (by simp only [ByteArray.size_append, e1]; omega) ?_)
    refine (ih (i + 1) _ (by omega) (by simp only [ByteArray.size_append, e1, e2]; omega)).mono fun r hr => ?_
    rw [hr, drop_it (l := l) (i := i) (by omega)]
    have e3 : ∀ y (ys : List It), impl_ChainText.txt (y :: ys) = (impl_ChainText.item y).data.toList ++ impl_ChainText.txt ys := fun _ _ => rfl
    rw [e3]
    simp only [impl_ChainText.item, ByteArray.data_append, Array.toList_append, List.append_assoc]
theorem chainText_spec (l : List It) (hl : l.length ≤ 4611686018427387900) : Evt (fun k => spec_ChainText.f k l) (fun r => r = ⟨(chainText l).toArray⟩) := by
  unfold spec_ChainText.f chainText
  refine Evt.bind (chainOk_spec l hl) fun t ht => ?_
  rw [ht]
  refine Evt.ite (fun h => ?_) fun h => Evt.now _ (by rw [if_neg h])
  have hs := chainOk_small h
  refine (chainText_loop l hs.1 hs.2 l.length 0 _ (by omega) (by simp [ByteArray.size])).mono fun r hr => ?_
  rw [if_pos h]
  refine ByteArray.ext (Array.toList_inj.1 ?_)
  rw [hr]
  simp

end Go.Proofs.YthjpkfcejdddkaaDoor.Pure
