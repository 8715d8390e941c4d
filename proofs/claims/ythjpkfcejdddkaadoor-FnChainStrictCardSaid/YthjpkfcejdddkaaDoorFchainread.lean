/- Plain facts on what the printed functions compute (chainread). Conditions: each theorem's own. -/
import Derived.Test.YthjpkfcejdddkaaDoorPx0
import Derived.Test.YthjpkfcejdddkaaDoorPx4
import Derived.Test.YthjpkfcejdddkaaDoorFtextinj
import Derived.Test.YthjpkfcejdddkaaDoorPlain
namespace Go.Proofs.YthjpkfcejdddkaaDoor.Pure
open Go.RowKit Go.Proofs.YthjpkfcejdddkaaDoor.P Go.Proofs.YthjpkfcejdddkaaDoorW.PrintWords Go.Proofs.YthjpkfcejdddkaaDoorW.PrintLast Go.Proofs.YthjpkfcejdddkaaDoorW.PrintMore Go.Proofs.YthjpkfcejdddkaaDoorE
set_option linter.unusedVariables false
set_option linter.unusedSimpArgs false

theorem indexByte_app {a q : List UInt8} {c : UInt8} (h : c ∉ a) : Lib.indexByte (a ++ c :: q) c = (a.length : Int) := by
  induction a with
  | nil => simp [Lib.indexByte]
  | cons x a ih =>
    have hx : (x == c) = false := beq_eq_false_iff_ne.2 (fun e => h (by rw [e]; exact List.mem_cons_self))
    have hi := ih (fun hm => h (List.mem_cons_of_mem _ hm))
    rw [List.cons_append, Lib.indexByte, hx, hi, if_neg (by decide), if_neg (by first | (simp; done) | (simp; omega)), List.length_cons]
    omega
theorem cut_app {a q : List UInt8} {c : UInt8} (h : c ∉ a) : Lib.cut (a ++ c :: q) [c] = (a, q, true) := by
  unfold Lib.cut
  rw [Lib.index_one, indexByte_app h, if_pos (by omega)]
  simp
theorem split_app {a q : List UInt8} {c : UInt8} (h : c ∉ a) (h2 : c ∉ q) : Lib.splitB ⟨#[c]⟩ 0 (Lib.countB ⟨(a ++ c :: q).toArray⟩ ⟨#[c]⟩) ⟨(a ++ c :: q).toArray⟩ = [⟨a.toArray⟩, ⟨q.toArray⟩] := by
  have e1 : Lib.countB ⟨(a ++ c :: q).toArray⟩ ⟨#[c]⟩ = (a ++ c :: q).count c := Lib.count_one c _
  have e2 : (a ++ c :: q).count c = 1 := by
    rw [List.count_append, List.count_cons_self, List.count_eq_zero_of_not_mem h, List.count_eq_zero_of_not_mem h2]
  have e3 : Lib.indexB ⟨(a ++ c :: q).toArray⟩ ⟨#[c]⟩ = (a.length : Int) := (Lib.index_one _ _).trans (indexByte_app h)
  rw [e1, e2, Lib.splitB, e3, if_neg (by first | (simp; done) | (simp; omega)), Lib.splitB_zero]
  have e4 : (⟨#[c]⟩ : ByteArray).size = 1 := rfl
  rw [e4]
  simp only [Int.toNat_natCast, Nat.add_zero, List.cons.injEq, and_true]
  constructor
  · refine ByteArray.ext (Array.toList_inj.1 ?_)
    rw [ByteArray.data_extract, Array.toList_extract]
    simp [List.extract]
  · refine ByteArray.ext (Array.toList_inj.1 ?_)
    rw [ByteArray.data_extract, Array.toList_extract]
    have e5 : (⟨(a ++ c :: q).toArray⟩ : ByteArray).size = (a ++ c :: q).length := rfl
    have e6 : (a ++ c :: q).drop (a.length + 1) = q := by
      have : a ++ c :: q = (a ++ [c]) ++ q := by simp
      rw [this]; exact List.drop_left' (by simp)
    rw [e5, List.extract_eq_take_drop]
    show ((a ++ c :: q).drop (a.length + 1)).take _ = q
    rw [e6, List.take_of_length_le (by simp only [List.length_append, List.length_cons]; omega)]
theorem dig_nat {u : Nat} (h : u < 10) : (UInt8.ofNat (48 + u)).toNat = 48 + u := by
  simp only [UInt8.toNat_ofNat']
  omega
theorem digL_cons {u : Nat} (h : u < 10) (l : List UInt8) (n : Int) : impl_digits.digL (UInt8.ofNat (48 + u) :: l) n = impl_digits.digL l (10 * n + (u : Int)) := by
  rw [impl_digits.digL, dig_nat h, if_neg (by omega)]
  congr 1
  omega
theorem digits_dec {n : Int} (h0 : 0 ≤ n) (h1 : n < 100) : impl_digits.res ⟨(Lib.decDigits n.toNat).toArray⟩ 1 2 = (n, true) := by
  unfold impl_digits.res
  show (if 1 ≤ ((Lib.decDigits n.toNat).length : Int) ∧ ((Lib.decDigits n.toNat).length : Int) ≤ 2 then impl_digits.digL (Lib.decDigits n.toNat) 0 else (0, false)) = _
  by_cases h : n.toNat < 10
  · rw [decLow h, if_pos (by simp), digL_cons h, impl_digits.digL]
    simp; omega
  · rw [decTwo (by omega) (by omega), if_pos (by simp), digL_cons (by omega), digL_cons (by omega), impl_digits.digL]
    simp only [Prod.mk.injEq, and_true]
    omega
theorem digits_three {a b c : Nat} (ha : a < 10) (hb : b < 10) (hc : c < 10) : impl_digits.res ⟨#[UInt8.ofNat (48 + a), UInt8.ofNat (48 + b), UInt8.ofNat (48 + c)]⟩ 3 3 = (100 * (a : Int) + 10 * b + c, true) := by
  unfold impl_digits.res
  show (if (3 : Int) ≤ ((3 : Nat) : Int) ∧ ((3 : Nat) : Int) ≤ 3 then impl_digits.digL [UInt8.ofNat (48 + a), UInt8.ofNat (48 + b), UInt8.ofNat (48 + c)] 0 else (0, false)) = _
  rw [if_pos (by omega), digL_cons ha, digL_cons hb, digL_cons hc, impl_digits.digL]
  simp only [Prod.mk.injEq, and_true]
  omega
theorem readPay_three {a b c : Int} (ha : 0 ≤ a ∧ a < 10) (hb : 0 ≤ b ∧ b < 10) (hc : 0 ≤ c ∧ c < 10) : impl_readPay.f ⟨#[UInt8.ofNat (48 + a.toNat), UInt8.ofNat (48 + b.toNat), UInt8.ofNat (48 + c.toNat)]⟩ = some (a, b, c) := by
  unfold impl_readPay.f impl_digits.f
  rw [if_pos (by decide), digits_three (by omega) (by omega) (by omega)]
  simp only [Option.bind_some]
  have e0 : 100 * ((a.toNat : Nat) : Int) + 10 * (b.toNat : Int) + (c.toNat : Int) = 100 * a + 10 * b + c := by omega
  rw [if_pos trivial, e0, Int.tdiv_eq_ediv_of_nonneg (by omega), Int.tdiv_eq_ediv_of_nonneg (by omega), wrap64_small (by omega) (by omega), wrap64_small (by omega) (by omega), Int.tmod_eq_emod_of_nonneg (by omega), Int.tmod_eq_emod_of_nonneg (by omega)]
  congr 2
  · omega
  · congr 1 <;> omega
theorem ten_ne (u : Nat) (h : u < 10) : UInt8.ofNat (48 + u) ≠ 58 := by
  intro e
  have := congrArg UInt8.toNat e
  rw [dig_nat h] at this
  have e2 : (58 : UInt8).toNat = 58 := rfl
  omega
theorem readItem_line {x : It} (h : itemOk x = true) : impl_readItem.f ⟨(lineOf x).toArray⟩ = some (x.f0, x.f1.f0, x.f1.f1, x.f1.f2) := by
  obtain ⟨h0, h1, h2, h3⟩ := itemOk_bounds h
  have n1 : (58 : UInt8) ∉ Lib.decDigits x.f0.toNat := fun hm => by
    obtain ⟨u, hu, e⟩ := dec_mem (n := x.f0.toNat) (by omega) _ hm
    exact ten_ne u hu e.symm
  have n2 : (58 : UInt8) ∉ [UInt8.ofNat (48 + x.f1.f0.toNat), UInt8.ofNat (48 + x.f1.f1.toNat), UInt8.ofNat (48 + x.f1.f2.toNat)] := fun hm => by
    simp only [List.mem_cons, List.not_mem_nil, or_false] at hm
    rcases hm with e | e | e
    · exact ten_ne _ (by omega) e.symm
    · exact ten_ne _ (by omega) e.symm
    · exact ten_ne _ (by omega) e.symm
  have hl : (⟨(lineOf x).toArray⟩ : ByteArray).size < 1000000 := by
    show (lineOf x).length < 1000000
    have := dec_size (n := x.f0) (by omega) (by omega)
    have e : (impl_ChainText.dec x.f0).size = (Lib.decDigits x.f0.toNat).length := rfl
    rw [lineOf, List.length_append]
    simp only [List.length_cons, List.length_nil]
    omega
  unfold impl_readItem.f strings_Split.f
  rw [if_pos ⟨rfl, hl⟩]
  simp only [Option.bind_some]
  have e1 : Lib.splitB ⟨#[58]⟩ 0 (Lib.countB ⟨(lineOf x).toArray⟩ ⟨#[58]⟩) ⟨(lineOf x).toArray⟩ = _ := split_app n1 n2
  rw [e1]
  have e2 : ∀ a b : ByteArray, rdOf ByteArray.empty [a, b] 0 = a := fun _ _ => rfl
  have e3 : ∀ a b : ByteArray, rdOf ByteArray.empty [a, b] 1 = b := fun _ _ => rfl
  rw [if_pos (by simp), if_pos (by simp), e2, e3]
  unfold impl_digits.f
  rw [if_pos (by decide), digits_dec (by omega) (by omega)]
  simp only [Option.bind_some]
  rw [if_pos trivial, if_pos (by simp), readPay_three (a := x.f1.f0) (b := x.f1.f1) (c := x.f1.f2) (by omega) (by omega) (by omega)]
  rfl
/-- The text of a chain is read back. -/
theorem read_loop (c : List It) (hc : chainOk c = true) : ∀ (d i : Nat), i + d = c.length → Evt (fun k => impl_ChainRead.l0 k ⟨(chainText c).toArray⟩ (c.take i) ⟨(impl_ChainText.txt (c.drop i)).toArray⟩) (fun r => r = (c, true)) := by
  have hs := chainOk_small hc
  have ht : chainText c = impl_ChainText.txt c := by rw [chainText, if_pos hc]
  intro d
  induction d with
  | zero =>
    intro i hd
    rw [List.drop_eq_nil_of_le (by omega), List.take_of_length_le (by omega)]
    refine Evt.step (fun k => by simp only [impl_ChainRead.l0]; rw [if_pos (by simp [ByteArray.toList_eq, impl_ChainText.txt])]) ?_
    refine Evt.bind (chainOk_impl c (by omega)) fun t h1 => ?_
    refine Evt.pos (by rw [h1, hc]) (Evt.bind (chainText_impl c (by omega)) fun t h2 => ?_)
    subst h2
    exact Evt.pos rfl (Evt.now _ rfl)
  | succ d ih =>
    intro i hd
    have hi : i < c.length := by omega
    have hm : rd_T48 c (i : Int) ∈ c := List.mem_of_getElem? (rdIt_get hi)
    have hx := chainOk_items hc _ hm
    have et : impl_ChainText.txt (c.drop i) = lineOf (rd_T48 c (i : Int)) ++ 10 :: impl_ChainText.txt (c.drop (i + 1)) := by
      rw [drop_it hi, txt_cons, item_line hx, List.append_assoc, List.singleton_append]
    have hl : (⟨(impl_ChainText.txt (c.drop i)).toArray⟩ : ByteArray).size < 1000000 := by
      show (impl_ChainText.txt (c.drop i)).length < 1000000
      have := impl_ChainText.txt_len (c.drop i) (fun y hy => hs.2 y (List.mem_of_mem_drop hy))
      rw [List.length_drop] at this
      omega
    have ecut : strings_Cut.f ⟨(impl_ChainText.txt (c.drop i)).toArray⟩ ⟨#[10]⟩ = some (⟨(lineOf (rd_T48 c (i : Int))).toArray⟩, ⟨(impl_ChainText.txt (c.drop (i + 1))).toArray⟩, true) := by
      unfold strings_Cut.f
      rw [if_pos ⟨rfl, hl⟩]
      have e : Lib.cut (impl_ChainText.txt (c.drop i)) [10] = _ := (congrArg (fun z => Lib.cut z [10]) et).trans (cut_app (line_ten hx))
      have e1 : (⟨(impl_ChainText.txt (c.drop i)).toArray⟩ : ByteArray).data.toList = impl_ChainText.txt (c.drop i) := rfl
      have e2 : (⟨#[10]⟩ : ByteArray).data.toList = [10] := rfl
      rw [e1, e2, e]
    have htk : (c.take i).length < 4398046511104 := by rw [List.length_take]; omega
    have hsn : c.take i ++ [rd_T48 c (i : Int)] = c.take (i + 1) := by
      rw [List.take_add_one, rdIt_get hi]; rfl
    have ihs := ih (i + 1) (by omega)
    rw [← hsn] at ihs
    refine Evt.step (fun k => by
      simp only [impl_ChainRead.l0]
      rw [if_neg (by rw [ByteArray.toList_eq]; show ¬ impl_ChainText.txt (c.drop i) = []; rw [et]; simp), ecut]
      simp only [Option.bind_some]
      rw [readItem_line hx]
      simp only [Option.bind_some]
      rw [if_pos htk]) ihs
theorem read_text (c : List It) (hc : chainOk c = true) (hl : c.length ≤ 9) : Evt (fun k => impl_ChainRead.f k ⟨(chainText c).toArray⟩) (fun r => r = (c, true)) := by
  have ht : chainText c = impl_ChainText.txt c := by rw [chainText, if_pos hc]
  have hn : (impl_ChainText.txt c).length ≤ 10 * c.length := by
    clear ht hl
    have hi := chainOk_items hc
    clear hc
    induction c with
    | nil => simp [impl_ChainText.txt]
    | cons x c ih =>
      have hx := hi x List.mem_cons_self
      obtain ⟨h0, _⟩ := itemOk_bounds hx
      have := ih (fun y hy => hi y (List.mem_cons_of_mem _ hy))
      have hd := dec_size (n := x.f0) (by omega) (by omega)
      have e : (impl_ChainText.dec x.f0).size = (Lib.decDigits x.f0.toNat).length := rfl
      rw [txt_cons, item_line hx, List.length_append, List.length_append, lineOf, List.length_append, List.length_cons]
      simp only [List.length_cons, List.length_nil]
      omega
  unfold impl_ChainRead.f
  refine Evt.neg (by show ¬ (((chainText c).length : Nat) : Int) > 130; rw [ht]; omega) ?_
  have := read_loop c hc c.length 0 (by omega)
  rw [ht] at this ⊢
  simpa using this

end Go.Proofs.YthjpkfcejdddkaaDoor.Pure
