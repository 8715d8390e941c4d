/- Plain facts on what the printed functions compute (specread). Conditions: each theorem's own. -/
import Derived.Test.YthjpkfcejdddkaaDoorPx9
import Derived.Test.YthjpkfcejdddkaaDoorFl1cut
import Derived.Test.YthjpkfcejdddkaaDoorFchainread
import Derived.Test.YthjpkfcejdddkaaDoorPlain
namespace Go.Proofs.YthjpkfcejdddkaaDoor.Pure
open Go.RowKit Go.Proofs.YthjpkfcejdddkaaDoor.P Go.Proofs.YthjpkfcejdddkaaDoorW.PrintWords Go.Proofs.YthjpkfcejdddkaaDoorW.PrintLast Go.Proofs.YthjpkfcejdddkaaDoorW.PrintMore Go.Proofs.YthjpkfcejdddkaaDoorE
set_option linter.unusedVariables false
set_option linter.unusedSimpArgs false

theorem l1Dec_ends (s : List UInt8) : ∃ n, Evt (fun k => spec_l1Dec.f k (toB s)) (fun r => r = n) := by
  have hsz : (toB s).size = s.length := rfl
  by_cases h : (1 : Int) ≤ ((toB s).size : Int) ∧ ((toB s).size : Int) ≤ 2
  case neg =>
    refine ⟨-1, Evt.congr (f := fun _ => some (-1)) (fun k => ?_) (Evt.now _ rfl)⟩
    unfold spec_l1Dec.f
    rw [l6In_eq, decide_eq_false h]
    simp
  case pos =>
    have key : ∀ (d i : Nat) (n : Int), i + d = s.length → ∃ m, Evt (fun k => spec_l1Dec.l0 k (toB s) n (i : Int)) (fun r => r = m) := by
      intro d
      induction d with
      | zero =>
        intro i n hd
        exact ⟨n, Evt.step (f := fun _ => some n) (fun k => by simp only [spec_l1Dec.l0]; rw [if_neg (by rw [hsz]; omega)]) (Evt.now _ rfl)⟩
      | succ d ih =>
        intro i n hd
        by_cases h1 : bt (toB s) (i : Int) < 48
        · exact ⟨-1, Evt.step (f := fun _ => some (-1)) (fun k => by simp only [spec_l1Dec.l0]; rw [if_pos (by rw [hsz]; omega), if_pos (by omega), if_pos h1]) (Evt.now _ rfl)⟩
        by_cases h2 : bt (toB s) (i : Int) > 57
        · exact ⟨-1, Evt.step (f := fun _ => some (-1)) (fun k => by simp only [spec_l1Dec.l0]; rw [if_pos (by rw [hsz]; omega), if_pos (by omega), if_neg h1, if_pos h2]) (Evt.now _ rfl)⟩
        obtain ⟨m, hm⟩ := ih (i + 1) (wrap64 ((wrap64 (10 * n)) + (((bt (toB s) (i : Int)) - 48) % 256))) (by omega)
        exact ⟨m, Evt.step (fun k => by simp only [spec_l1Dec.l0]; rw [if_pos (by rw [hsz]; omega), if_pos (by omega), if_neg h1, if_neg h2, wrap_succ (by omega)]) hm⟩
    obtain ⟨m, hm⟩ := key s.length 0 0 (by omega)
    refine ⟨m, Evt.congr (fun k => ?_) hm⟩
    unfold spec_l1Dec.f
    rw [l6In_eq, decide_eq_true h]
    simp
theorem l1Pay_ends (s : List UInt8) : ∃ q, Evt (fun k => spec_l1Pay.f k (toB s)) (fun r => r = q) := by
  have hsz : (toB s).size = s.length := rfl
  unfold spec_l1Pay.f
  by_cases h : ((toB s).size : Int) = 3
  case neg => exact ⟨(0, 0, 0), Evt.neg h (Evt.now _ rfl)⟩
  have cutB : ∀ a b : Nat, (toB s).extract a b = toB (((toB s).extract a b).data.toList) := fun _ _ => rfl
  obtain ⟨n1, h1⟩ := l1Dec_ends ((toB s).extract 0 1).data.toList
  obtain ⟨n2, h2⟩ := l1Dec_ends ((toB s).extract 1 2).data.toList
  obtain ⟨n3, h3⟩ := l1Dec_ends ((toB s).extract 2 (toB s).size).data.toList
  refine ⟨(n1, n2, n3), Evt.pos h (Evt.pos (by omega) (Evt.pos (by omega) ?_))⟩
  refine Evt.bind (P := fun r => r = n1) h1 fun a ha => ?_
  refine Evt.pos (by omega) (Evt.pos (by omega) ?_)
  refine Evt.bind (P := fun r => r = n2) h2 fun b hb => ?_
  refine Evt.bind (P := fun r => r = n3) h3 fun c hc => ?_
  exact Evt.now _ (by rw [ha, hb, hc])

end Go.Proofs.YthjpkfcejdddkaaDoor.Pure
