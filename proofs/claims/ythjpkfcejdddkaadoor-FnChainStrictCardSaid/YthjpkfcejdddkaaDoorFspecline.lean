/- Plain facts on what the printed functions compute (specline). Conditions: each theorem's own. -/
import Derived.Test.YthjpkfcejdddkaaDoorPx9
import Derived.Test.YthjpkfcejdddkaaDoorFspecread
import Derived.Test.YthjpkfcejdddkaaDoorPlain
namespace Go.Proofs.YthjpkfcejdddkaaDoor.Pure
open Go.RowKit Go.Proofs.YthjpkfcejdddkaaDoor.P Go.Proofs.YthjpkfcejdddkaaDoorW.PrintWords Go.Proofs.YthjpkfcejdddkaaDoorW.PrintLast Go.Proofs.YthjpkfcejdddkaaDoorW.PrintMore Go.Proofs.YthjpkfcejdddkaaDoorE
set_option linter.unusedVariables false
set_option linter.unusedSimpArgs false

theorem bt_dig (s : List UInt8) (i u : Nat) (h : s[i]? = some (UInt8.ofNat (48 + u))) (hu : u < 10) : bt (toB s) (i : Int) = 48 + (u : Int) := by
  obtain ⟨hi, e⟩ := List.getElem?_eq_some_iff.1 h
  have := bt_at_list s i hi
  rw [e, dig_nat hu] at this
  show bt ⟨s.toArray⟩ (i : Int) = _
  rw [this]
  omega
theorem l1Dec_step (s : List UInt8) (i u : Nat) (n : Int) (h : s[i]? = some (UInt8.ofNat (48 + u))) (hu : u < 10) (h0 : 0 ≤ n) (h1 : n ≤ 1000) (hi : i ≤ 1000) (k : Nat) :
    spec_l1Dec.l0 (k + 1) (toB s) n (i : Int) = spec_l1Dec.l0 k (toB s) (10 * n + (u : Int)) ((i + 1 : Nat) : Int) := by
  have hsz : (toB s).size = s.length := rfl
  obtain ⟨hl, _⟩ := List.getElem?_eq_some_iff.1 h
  simp only [spec_l1Dec.l0]
  rw [if_pos (by rw [hsz]; omega), if_pos (by omega), bt_dig s i u h hu, if_neg (by omega), if_neg (by omega), wrap_succ (by omega), wrap64_small (n := 10 * n) (by omega) (by omega), wrap64_small (by omega) (by omega)]
  congr 1
  omega
theorem l1Dec_dec {n : Int} (h0 : 0 ≤ n) (h1 : n < 100) : Evt (fun k => spec_l1Dec.f k (toB (Lib.decDigits n.toNat))) (fun r => r = n) := by
  have stop : ∀ (s : List UInt8) (m : Int) (i : Nat), i = s.length → Evt (fun k => spec_l1Dec.l0 k (toB s) m (i : Int)) (fun r => r = m) := by
    intro s m i hi
    have hsz : (toB s).size = s.length := rfl
    exact Evt.step (f := fun _ => some m) (fun k => by simp only [spec_l1Dec.l0]; rw [if_neg (by rw [hsz]; omega)]) (Evt.now _ rfl)
  have start : ∀ s : List UInt8, 1 ≤ s.length → s.length ≤ 2 → Evt (fun k => spec_l1Dec.l0 k (toB s) 0 ((0 : Nat) : Int)) (fun r => r = n) → Evt (fun k => spec_l1Dec.f k (toB s)) (fun r => r = n) := by
    intro s a b h
    have hsz : (toB s).size = s.length := rfl
    refine Evt.congr (fun k => ?_) h
    unfold spec_l1Dec.f
    rw [l6In_eq, decide_eq_true (show (1 : Int) ≤ ((toB s).size : Int) ∧ ((toB s).size : Int) ≤ 2 by rw [hsz]; omega)]
    simp
  by_cases h : n.toNat < 10
  · rw [decLow h]
    refine start _ (by simp) (by simp) (Evt.step (fun k => l1Dec_step _ 0 n.toNat 0 rfl h (by omega) (by omega) (by omega) k) ((stop _ _ 1 rfl).mono fun r hr => ?_))
    rw [hr]; omega
  · rw [decTwo (by omega) (by omega)]
    refine start _ (by simp) (by simp) (Evt.step (fun k => l1Dec_step _ 0 (n.toNat / 10) 0 rfl (by omega) (by omega) (by omega) (by omega) k) ?_)
    refine Evt.step (fun k => l1Dec_step _ 1 (n.toNat % 10) _ rfl (by omega) (by omega) (by omega) (by omega) k) ((stop _ _ 2 rfl).mono fun r hr => ?_)
    rw [hr]; omega
theorem l1Pay_three {a b c : Int} (ha : 0 ≤ a ∧ a < 10) (hb : 0 ≤ b ∧ b < 10) (hc : 0 ≤ c ∧ c < 10) : Evt (fun k => spec_l1Pay.f k (toB [UInt8.ofNat (48 + a.toNat), UInt8.ofNat (48 + b.toNat), UInt8.ofNat (48 + c.toNat)])) (fun r => r = (a, b, c)) := by
  have hsz : (toB [UInt8.ofNat (48 + a.toNat), UInt8.ofNat (48 + b.toNat), UInt8.ofNat (48 + c.toNat)]).size = 3 := rfl
  have one : ∀ x : Int, 0 ≤ x ∧ x < 10 → Evt (fun k => spec_l1Dec.f k (toB [UInt8.ofNat (48 + x.toNat)])) (fun r => r = x) := fun x hx => by
    have := l1Dec_dec (n := x) hx.1 (by omega)
    rw [decLow (by omega)] at this
    exact this
  unfold spec_l1Pay.f
  rw [hsz]
  refine Evt.pos (by decide) (Evt.pos (by decide) (Evt.pos (by decide) ?_))
  refine Evt.bind (P := fun r => r = a) (one a ha) fun x hx => ?_
  refine Evt.pos (by decide) (Evt.pos (by decide) ?_)
  refine Evt.bind (P := fun r => r = b) (one b hb) fun y hy => ?_
  refine Evt.bind (P := fun r => r = c) (one c hc) fun z hz => ?_
  exact Evt.now _ (by rw [hx, hy, hz])

end Go.Proofs.YthjpkfcejdddkaaDoor.Pure
