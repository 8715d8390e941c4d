/- What is cut off a drawn chain's text leaves the text of the chain without its last item, or none. The plain part: what the printed functions compute answers true. Conditions: the argument fits the machine, as the row says. -/
import Derived.Test.YthjpkfcejdddkaaDoorPx5
import Derived.Test.YthjpkfcejdddkaaDoorPx10
import Derived.Test.YthjpkfcejdddkaaDoorFlwsame
import Derived.Test.YthjpkfcejdddkaaDoorFdrawtext
import Derived.Test.YthjpkfcejdddkaaDoorFreadany
import Derived.Test.YthjpkfcejdddkaaDoorFchaintake
import Derived.Test.YthjpkfcejdddkaaDoorPlain
namespace Go.Proofs.YthjpkfcejdddkaaDoor.Pure
open Go.RowKit Go.Proofs.YthjpkfcejdddkaaDoor.P Go.Proofs.YthjpkfcejdddkaaDoorW.PrintWords Go.Proofs.YthjpkfcejdddkaaDoorW.PrintLast Go.Proofs.YthjpkfcejdddkaaDoorW.PrintMore Go.Proofs.YthjpkfcejdddkaaDoorE
set_option linter.unusedVariables false
set_option linter.unusedSimpArgs false

theorem cut_end (a : List It) (ha : a.length ≤ 9) : Evt (fun k => laws_FnChainCut.j0 k a ⟨(chainText a).toArray⟩ true) (fun r => r = true) := by
  refine Evt.step (fun k => by simp only [laws_FnChainCut.j0]; rw [if_pos trivial]) ?_
  refine Evt.bind (chainText_spec a (by omega)) fun y hy => ?_
  subst hy
  exact Evt.now _ (by simp)
theorem bt_app (a : List UInt8) (b : UInt8) (q : List UInt8) : bt ⟨(a ++ b :: q).toArray⟩ (a.length : Int) = (b.toNat : Int) := by
  have hh : ((a.length : Int)).toNat < (⟨(a ++ b :: q).toArray⟩ : ByteArray).size := by show a.length < (a ++ b :: q).length; simp
  rw [bt, dif_pos hh]
  show (((a ++ b :: q)[a.length]'(by simp)).toNat : Int) = _
  simp
theorem ten_nat (b : UInt8) : ((b.toNat : Int) = 10) ↔ b = 10 := by
  constructor
  · intro h
    apply UInt8.toNat.inj
    have e : (10 : UInt8).toNat = 10 := rfl
    omega
  · rintro rfl
    rfl
theorem extract_take (l : List UInt8) (n : Nat) : (⟨l.toArray⟩ : ByteArray).extract 0 n = ⟨(l.take n).toArray⟩ := by
  refine ByteArray.ext (Array.toList_inj.1 ?_)
  rw [ByteArray.data_extract, Array.toList_extract]
  simp [List.extract]
/-- The place of the last line, from its end down. -/
theorem cut_loop (c : List It) (m : List It) (s : ByteArray) (hJ : Evt (fun k => laws_FnChainCut.j2 k c s ((impl_ChainText.txt m).length : Int)) (fun r => r = true)) (hm : (impl_ChainText.txt m).length ≤ 90000) :
    ∀ (b : List UInt8) (q : List UInt8), s = ⟨(impl_ChainText.txt m ++ (b.reverse ++ q)).toArray⟩ → b.length ≤ 1000 → (10 : UInt8) ∉ b → Evt (fun k => laws_FnChainCut.l0 k c s (((impl_ChainText.txt m).length + b.length : Nat) : Int)) (fun r => r = true) := by
  intro b
  induction b with
  | nil =>
    intro q hs _ _
    have hsz : s.size = (impl_ChainText.txt m ++ q).length := by rw [hs]; rfl
    rw [List.length_append] at hsz
    simp only [List.length_nil, Nat.add_zero]
    by_cases h0 : m = []
    · subst h0
      refine Evt.step (fun k => by simp only [laws_FnChainCut.l0]; rw [if_neg (by simp [impl_ChainText.txt])]) hJ
    · obtain ⟨p, hp⟩ := txt_last m h0
      have hl : (impl_ChainText.txt m).length = p.length + 1 := by rw [hp]; simp
      have hb : bt s (p.length : Int) = 10 := by
        rw [hs, hp, List.reverse_nil, List.nil_append, List.append_assoc, List.singleton_append, bt_app]; rfl
      refine Evt.step (fun k => by
        simp only [laws_FnChainCut.l0]
        have e : wrap64 (((impl_ChainText.txt m).length : Int) - 1) = (p.length : Int) := by rw [wrap64_small (by omega) (by omega)]; omega
        rw [if_pos (by omega), e, if_pos (by omega), if_pos (by omega), if_pos hb]) hJ
  | cons x b ih =>
    intro q hs hl hx
    have hsz : s.size = (impl_ChainText.txt m ++ ((x :: b).reverse ++ q)).length := by rw [hs]; rfl
    simp only [List.length_append, List.length_reverse, List.length_cons] at hsz
    have hne : x ≠ 10 := fun e => hx (e ▸ List.mem_cons_self)
    have hs2 : s = ⟨(impl_ChainText.txt m ++ (b.reverse ++ (x :: q))).toArray⟩ := by rw [hs, List.reverse_cons, List.append_assoc, List.singleton_append]
    have hb : bt s (((impl_ChainText.txt m).length + b.length : Nat) : Int) = (x.toNat : Int) := by
      have := bt_app (impl_ChainText.txt m ++ b.reverse) x q
      rw [List.length_append, List.length_reverse, List.append_assoc] at this
      rw [hs2]; exact this
    simp only [List.length_cons] at hl
    refine Evt.step (fun k => by
      simp only [laws_FnChainCut.l0]
      have e : wrap64 ((((impl_ChainText.txt m).length + (x :: b).length : Nat) : Int) - 1) = (((impl_ChainText.txt m).length + b.length : Nat) : Int) := by
        rw [List.length_cons, wrap64_small (by omega) (by omega)]; omega
      rw [if_pos (by rw [List.length_cons]; omega), e, if_pos (by omega), if_pos (by omega), hb, if_neg (fun h => hne ((ten_nat _).1 h))]) (ih (x :: q) hs2 (by omega) (fun h => hx (List.mem_cons_of_mem _ h)))
theorem line_ends (x : It) : ∃ p b, lineOf x = p ++ [b] := ⟨Lib.decDigits x.f0.toNat ++ [58, UInt8.ofNat (48 + x.f1.f0.toNat), UInt8.ofNat (48 + x.f1.f1.toNat)], UInt8.ofNat (48 + x.f1.f2.toNat), by simp [lineOf]⟩
theorem cut_main (c m : List It) (x : It) (hcm : c = m ++ [x]) (hc : chainOk c = true) (hl : c.length ≤ 9) (hn : (chainText c).length ≤ 200) : Evt (fun k => laws_FnChainCut.j2 k c ⟨(chainText c).toArray⟩ ((impl_ChainText.txt m).length : Int)) (fun r => r = true) := by
  have ht : chainText c = impl_ChainText.txt c := by rw [chainText, if_pos hc]
  have hx := chainOk_items hc x (by rw [hcm]; simp)
  have hml : m.length + 1 = c.length := by rw [hcm]; simp
  have htk : c.take m.length = m := by rw [hcm]; simp
  have hm : chainOk m = true := by rw [← htk]; exact chainOk_take _ hc
  have htm : chainText m = impl_ChainText.txt m := by rw [chainText, if_pos hm]
  have e : chainText c = impl_ChainText.txt m ++ lineOf x ++ [10] := by
    rw [ht, hcm, impl_ChainText.txt, List.flatMap_append, List.flatMap_singleton, item_line hx, ← List.append_assoc]; rfl
  obtain ⟨p, b, hp⟩ := line_ends x
  have hb : b ≠ 10 := fun h => line_ten hx (by rw [hp, h]; simp)
  have hlen : (chainText c).length = (impl_ChainText.txt m).length + p.length + 2 := by rw [e, hp]; simp; omega
  have hsz : (⟨(chainText c).toArray⟩ : ByteArray).size = (chainText c).length := rfl
  have ew : wrap64 (((⟨(chainText c).toArray⟩ : ByteArray).size : Int) - 1) = (((chainText c).length - 1 : Nat) : Int) := by
    rw [hsz, wrap64_small (by omega) (by omega)]; omega
  have ec : wrap64 ((c.length : Int) - 1) = (m.length : Int) := by rw [wrap64_small (by omega) (by omega)]; omega
  have t1 : (chainText c).take ((chainText c).length - 1) = (impl_ChainText.txt m ++ p) ++ [b] := by
    have : (chainText c).length - 1 = (impl_ChainText.txt m ++ lineOf x).length := by rw [e]; simp
    rw [this, e, List.take_left, hp, List.append_assoc]
  have t2 : (chainText c).take (impl_ChainText.txt m).length = chainText m := by rw [e, List.append_assoc, List.take_left, htm]
  have t3 : (⟨(chainText c).toArray⟩ : ByteArray) ++ (⟨#[32]⟩ : ByteArray) = ⟨(chainText c ++ [32]).toArray⟩ := by
    refine ByteArray.ext (Array.toList_inj.1 ?_)
    rw [ByteArray.data_append, Array.toList_append]
  refine Evt.step (fun k => by
    simp only [laws_FnChainCut.j2, ew, ec, Int.toNat_natCast, extract_take, t1, t2, t3]
    rw [if_pos (by omega), if_pos (by rw [hsz]; omega)]) ?_
  refine Evt.bind (read_not _ b hb (by rw [List.length_append]; omega)) fun r1 h1 => ?_
  refine Evt.pos (by omega) (Evt.pos (by rw [hsz]; omega) ?_)
  refine Evt.bind (read_text m hm (by omega)) fun r2 h2 => ?_
  subst h2
  refine Evt.pos (by rw [hsz]; omega) ?_
  refine Evt.bind (read_not _ 32 (by decide) (by omega)) fun r3 h3 => ?_
  refine Evt.neg (by rw [h1]; decide) (Evt.pos rfl (Evt.neg (by rw [h3]; decide) (Evt.pos (by omega) (Evt.pos (by omega) ?_))))
  rw [htk]
  exact Evt.bind (lwSame_ends m m (by omega)) fun t h4 => Evt.now _ (by rw [h4]; simp)
theorem txt_short (c : List It) (hi : ∀ x ∈ c, itemOk x = true) : (impl_ChainText.txt c).length ≤ 10 * c.length := by
  induction c with
  | nil => simp [impl_ChainText.txt]
  | cons x c ih =>
    have hx := hi x List.mem_cons_self
    obtain ⟨h0, _⟩ := itemOk_bounds hx
    have := ih (fun y hy => hi y (List.mem_cons_of_mem _ hy))
    have hd := dec_size (n := x.f0) (by omega) (by omega)
    have e : (impl_ChainText.dec x.f0).size = (Lib.decDigits x.f0.toNat).length := rfl
    rw [txt_cons, item_line hx, List.length_append, List.length_append, lineOf, List.length_append, List.length_cons]
    simp only [List.length_cons, List.length_nil]
    omega
theorem FnChainCut : laws_FnChainCut.Pure := by
  intro l _ hw
  have hl := bytes_of hw
  refine Evt.get ?_
  simp only [laws_FnChainCut.f]
  refine Evt.ite (fun _ => Evt.now _ rfl) fun h => ?_
  refine Evt.bind (drawText_ends hl) fun c ha => ?_
  refine Evt.bind (chainText_impl c (by omega)) fun s hs => ?_
  subst hs
  refine Evt.bind (chainText_spec c (by omega)) fun s hs => ?_
  subst hs
  refine Evt.pos rfl ?_
  by_cases h0 : chainText c = []
  · have e : ((⟨(chainText c).toArray⟩ : ByteArray).toList == ([] : List UInt8)) = true := by rw [ByteArray.toList_eq]; simp [h0]
    rw [e]; exact cut_end c ha
  · have e : ((⟨(chainText c).toArray⟩ : ByteArray).toList == ([] : List UInt8)) = false := by rw [ByteArray.toList_eq]; simp [h0]
    rw [e]
    have hc : chainOk c = true := by
      by_cases hx : chainOk c = true
      · exact hx
      · exact absurd (by rw [chainText, if_neg hx]) h0
    have ht : chainText c = impl_ChainText.txt c := by rw [chainText, if_pos hc]
    have hn : (chainText c).length ≤ 200 := by
      have := txt_short c (chainOk_items hc)
      rw [ht]; omega
    have hne : c ≠ [] := fun hx => h0 (by rw [ht, hx]; rfl)
    obtain ⟨m, x, hcm⟩ : ∃ m x, c = m ++ [x] := ⟨c.dropLast, c.getLast hne, (List.dropLast_concat_getLast hne).symm⟩
    have hx := chainOk_items hc x (by rw [hcm]; simp)
    have e2 : chainText c = impl_ChainText.txt m ++ (lineOf x ++ [10]) := by
      rw [ht, hcm, impl_ChainText.txt, List.flatMap_append, List.flatMap_singleton, item_line hx]; rfl
    have hlen : (chainText c).length = (impl_ChainText.txt m).length + (lineOf x).length + 1 := by rw [e2]; simp; omega
    refine Evt.step (fun k => by
      simp only [laws_FnChainCut.j0]
      have ew : wrap64 (((⟨(chainText c).toArray⟩ : ByteArray).size : Int) - 1) = (((impl_ChainText.txt m).length + (lineOf x).reverse.length : Nat) : Int) := by
        rw [List.length_reverse]
        show wrap64 (((chainText c).length : Int) - 1) = _
        rw [wrap64_small (by omega) (by omega)]; omega
      rw [if_neg (by decide), ew]) (cut_loop c m _ (cut_main c m x hcm hc ha hn) (by omega) (lineOf x).reverse [10] (by rw [e2, List.reverse_reverse]) (by rw [List.length_reverse]; omega) (by rw [List.mem_reverse]; exact line_ten hx))

end Go.Proofs.YthjpkfcejdddkaaDoor.Pure
