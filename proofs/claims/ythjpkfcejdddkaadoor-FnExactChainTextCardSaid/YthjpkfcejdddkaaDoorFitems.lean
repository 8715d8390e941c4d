/- Plain facts on what the printed functions compute (items). Conditions: each theorem's own. -/
import Derived.Test.YthjpkfcejdddkaaDoorPx0
import Derived.Test.YthjpkfcejdddkaaDoorPx6
import Derived.Test.YthjpkfcejdddkaaDoorPx7
import Derived.Test.YthjpkfcejdddkaaDoorFchain
import Derived.Test.YthjpkfcejdddkaaDoorPlain
namespace Go.Proofs.YthjpkfcejdddkaaDoor.Pure
open Go.RowKit Go.Proofs.YthjpkfcejdddkaaDoor.P Go.Proofs.YthjpkfcejdddkaaDoorW.PrintWords Go.Proofs.YthjpkfcejdddkaaDoorW.PrintLast Go.Proofs.YthjpkfcejdddkaaDoorW.PrintMore Go.Proofs.YthjpkfcejdddkaaDoorE
set_option linter.unusedVariables false
set_option linter.unusedSimpArgs false

abbrev LIt := S71
def toIt (x : LIt) : It := ⟨x.f0, ⟨x.f1.f0, x.f1.f1, x.f1.f2⟩⟩
theorem rdLIt_get {l : List LIt} {i : Nat} {x : LIt} (h : l[i]? = some x) : rd_T71 l (i : Int) = x := by
  show l.getD ((i : Int)).toNat _ = x
  rw [Int.toNat_natCast, List.getD_eq_getElem?_getD, h]
  rfl
theorem toItem_eq (a b c d : Int) : laws_toItem.f a b c d = some (a, b, c, d) := rfl
theorem toItemS_ends (l : List LIt) (hl : l.length ≤ 1048576) : Evt (fun k => laws_toItemS.f k l) (fun r => r = l.map toIt) := by
  have h := copy_loop toIt l (fun k xs i => laws_toItemS.l0 k l xs (i : Int)) (fun k xs => by simp only [laws_toItemS.l0]; rw [if_neg (by omega)])
    (fun i x hx k xs hxs => by
      have hil : i < l.length := (List.getElem?_eq_some_iff.1 hx).1
      simp only [laws_toItemS.l0, toItem_eq, Option.bind_some]
      rw [if_pos (by omega), if_pos (by omega), if_pos (by omega), wrap_succ (by omega), Int.toNat_natCast, rdLIt_get hx]
      rfl) (List.replicate l.length z48) (by simp)
  exact Evt.congr (fun k => by unfold laws_toItemS.f; rw [if_pos (by omega), if_pos (by omega), Int.toNat_natCast]; rfl) h
theorem eqItem_eq (x y : It) : laws_eqItem.f x.f0 x.f1.f0 x.f1.f1 x.f1.f2 y.f0 y.f1.f0 y.f1.f1 y.f1.f2 = some (decide (x = y)) := by
  obtain ⟨a, b, c, d⟩ := x
  obtain ⟨a', b', c', d'⟩ := y
  unfold laws_eqItem.f laws_eqPay.f
  simp only
  by_cases h1 : a = a' <;> by_cases h2 : b = b' <;> by_cases h3 : c = c' <;> by_cases h4 : d = d' <;> simp [h1, h2, h3, h4]
theorem eqItemS_ends (a b : List It) (hl : a.length ≤ 4611686018427387900) : Evt (fun k => laws_eqItemS.f k a b) (fun r => r = decide (a = b)) := by
  by_cases h : (a.length : Int) = (b.length : Int)
  · have hn : a.length = b.length := by omega
    have hc := cmp_loop a b a.length (fun k i => laws_eqItemS.l0 k a b (i : Int)) (fun k => by simp only [laws_eqItemS.l0]; rw [if_neg (by omega)])
      (fun i hi he k => by
        rw [rdIt_get (l := a) hi, rdIt_get (l := b) (by omega)] at he
        have he' := Option.some.inj he
        simp only [laws_eqItemS.l0]
        rw [if_pos (by omega), if_pos (by omega), if_pos (by omega), eqItem_eq, Option.bind_some, if_pos (by simp [he']), wrap_succ (by omega)])
      (fun i hi he k => by
        rw [rdIt_get (l := a) hi, rdIt_get (l := b) (by omega)] at he
        have he' : ¬ rd_T48 a (i : Int) = rd_T48 b (i : Int) := fun e => he (by rw [e])
        simp only [laws_eqItemS.l0]
        rw [if_pos (by omega), if_pos (by omega), if_pos (by omega), eqItem_eq, Option.bind_some, if_neg (by simpa using he')])
    refine (Evt.congr (fun k => by unfold laws_eqItemS.f; rw [if_pos h]; rfl) hc).mono fun r hr => decide_of ?_
    rw [hr, List.take_of_length_le (Nat.le_refl _), List.take_of_length_le (by omega)]
  · refine Evt.congr (fun k => by unfold laws_eqItemS.f; rw [if_neg h]) (Evt.now _ ?_)
    have : a ≠ b := by
      rintro rfl
      exact h rfl
    simp [this]
theorem szItemS_eq (l : List LIt) (n : Int) (h0 : 0 ≤ n) (h1 : n ≤ 1048576) (hl : l.length ≤ 9223372036854775807) : laws_szItemS.f l n = some (if n - (l.length : Int) < 0 then -1 else n - (l.length : Int)) := by
  unfold laws_szItemS.f
  have e : wrap64 (n - (l.length : Int)) = n - (l.length : Int) := by unfold wrap64; omega
  rw [e]
  split <;> rfl

end Go.Proofs.YthjpkfcejdddkaaDoor.Pure
