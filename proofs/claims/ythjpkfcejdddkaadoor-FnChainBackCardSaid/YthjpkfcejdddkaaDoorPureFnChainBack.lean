/- A drawn chain is read back from its text, and its text has as many lines as it has items. The plain part: what the printed functions compute answers true. Conditions: the argument fits the machine, as the row says. -/
import Derived.Test.YthjpkfcejdddkaaDoorPx5
import Derived.Test.YthjpkfcejdddkaaDoorPx9
import Derived.Test.YthjpkfcejdddkaaDoorFlwsame
import Derived.Test.YthjpkfcejdddkaaDoorFdrawtext
import Derived.Test.YthjpkfcejdddkaaDoorFchainread
import Derived.Test.YthjpkfcejdddkaaDoorPlain
namespace Go.Proofs.YthjpkfcejdddkaaDoor.Pure
open Go.RowKit Go.Proofs.YthjpkfcejdddkaaDoor.P Go.Proofs.YthjpkfcejdddkaaDoorW.PrintWords Go.Proofs.YthjpkfcejdddkaaDoorW.PrintLast Go.Proofs.YthjpkfcejdddkaaDoorW.PrintMore Go.Proofs.YthjpkfcejdddkaaDoorE
set_option linter.unusedVariables false
set_option linter.unusedSimpArgs false

theorem back_end (a : List It) (ha : a.length ≤ 9) : Evt (fun k => laws_FnChainBack.j0 k a ⟨(chainText a).toArray⟩ true) (fun r => r = true) := by
  refine Evt.step (fun k => by simp only [laws_FnChainBack.j0]; rw [if_pos trivial]) ?_
  refine Evt.bind (chainText_spec a (by omega)) fun y hy => ?_
  subst hy
  exact Evt.now _ (by simp)
theorem bt_list (l : List UInt8) (i : Nat) (h : i < l.length) : bt ⟨l.toArray⟩ (i : Int) = ((l[i]'h).toNat : Int) := by
  have hh : ((i : Int)).toNat < (⟨l.toArray⟩ : ByteArray).size := h
  rw [bt, dif_pos hh]
  rfl
theorem ten_nat (b : UInt8) : ((b.toNat : Int) = 10) ↔ b = 10 := by
  constructor
  · intro h
    apply UInt8.toNat.inj
    have e : (10 : UInt8).toNat = 10 := rfl
    omega
  · rintro rfl
    rfl
theorem back_loop (c : List It) (l : List UInt8) (hl : l.length ≤ 100000) (hc : c.length ≤ 9) : ∀ (d i n : Nat), i + d = l.length → n ≤ i → n + (l.drop i).count 10 = c.length → Evt (fun k => laws_FnChainBack.l0 k c ⟨l.toArray⟩ c true (n : Int) (i : Int)) (fun r => r = true) := by
  have hsz : (⟨l.toArray⟩ : ByteArray).size = l.length := rfl
  intro d
  induction d with
  | zero =>
    intro i n hd hni hn
    rw [List.drop_eq_nil_of_le (by omega), List.count_nil] at hn
    refine Evt.step (fun k => by simp only [laws_FnChainBack.l0]; rw [if_neg (by rw [hsz]; omega), if_pos trivial]) ?_
    refine Evt.bind (lwSame_ends c c (by omega)) fun t ht => ?_
    refine Evt.pos (by rw [ht]; simp) (Evt.now _ ?_)
    have : (n : Int) = (c.length : Int) := by omega
    simp [this]
  | succ d ih =>
    intro i n hd hni hn
    have hi : i < l.length := by omega
    rw [List.drop_eq_getElem_cons hi, List.count_cons] at hn
    by_cases hb : l[i] = 10
    · rw [if_pos (by simp [hb])] at hn
      refine Evt.step (fun k => by
        simp only [laws_FnChainBack.l0]
        rw [if_pos (by rw [hsz]; omega), if_pos (by omega), bt_list l i hi, if_pos ((ten_nat _).2 hb), wrap_succ (by omega), wrap_succ (by omega)]) (ih (i + 1) (n + 1) (by omega) (by omega) (by omega))
    · rw [if_neg (by simp [hb])] at hn
      refine Evt.step (fun k => by
        simp only [laws_FnChainBack.l0]
        rw [if_pos (by rw [hsz]; omega), if_pos (by omega), bt_list l i hi, if_neg (fun h => hb ((ten_nat _).1 h)), wrap_succ (by omega)]) (ih (i + 1) n (by omega) (by omega) (by omega))
theorem txt_tens : ∀ (c : List It), (∀ x ∈ c, itemOk x = true) → (impl_ChainText.txt c).count 10 = c.length
  | [], _ => by simp [impl_ChainText.txt]
  | x :: c, h => by
    have hx := h x List.mem_cons_self
    rw [txt_cons, item_line hx, List.count_append, List.count_append, List.count_eq_zero_of_not_mem (line_ten hx), txt_tens c (fun y hy => h y (List.mem_cons_of_mem _ hy)), List.length_cons]
    simp
    omega
theorem FnChainBack : laws_FnChainBack.Pure := by
  intro l _ hw
  have hl := bytes_of hw
  refine Evt.get ?_
  simp only [laws_FnChainBack.f]
  refine Evt.ite (fun _ => Evt.now _ rfl) fun h => ?_
  refine Evt.bind (drawText_ends hl) fun a ha => ?_
  refine Evt.bind (chainText_impl a (by omega)) fun s hs => ?_
  subst hs
  refine Evt.bind (chainText_spec a (by omega)) fun s hs => ?_
  subst hs
  refine Evt.pos rfl (Evt.bind (chainOk_spec a (by omega)) fun s hs => ?_)
  cases h1 : chainOk a with
  | false => rw [hs, h1]; exact back_end a ha
  | true =>
    rw [hs, h1]
    refine Evt.step (fun k => by simp only [laws_FnChainBack.j0]; rw [if_neg (by decide)]) ?_
    refine Evt.bind (read_text a h1 ha) fun r hr => ?_
    subst hr
    have ht : chainText a = impl_ChainText.txt a := by rw [chainText, if_pos h1]
    have hn := text_len (l := a)
    have := back_loop a (chainText a) (by omega) ha (chainText a).length 0 0 (by omega) (by omega) (by rw [List.drop_zero, ht, txt_tens a (chainOk_items h1)]; omega)
    exact this

end Go.Proofs.YthjpkfcejdddkaaDoor.Pure
