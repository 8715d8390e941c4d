/- Plain lemmas on lists and numbers: no program in sight. -/
import Derived.Test.YtnipfblhhmldpaaEnds
namespace Go.Proofs.YtnipfblhhmldpaaE
open Go.RowKit Go.Proofs.YtnipfblhhmldpaaW.PrintWords
theorem wrap64_small {n : Int} (h0 : -4611686018427387904 ≤ n) (h1 : n ≤ 4611686018427387904) : wrap64 n = n := by
  unfold wrap64
  omega
theorem wrap_succ {i : Nat} (h : i ≤ 4611686018427387903) : wrap64 ((i : Int) + 1) = ((i + 1 : Nat) : Int) := by
  unfold wrap64
  omega
theorem take_set_succ {α : Type} {xs l : List α} {i : Nat} {v : α} (hl : xs.length = l.length) (hi : i < l.length) (ht : xs.take i = l.take i) (hv : l[i]? = some v) : (xs.set i v).take (i + 1) = l.take (i + 1) := by
  rw [List.take_succ_eq_append_getElem (by rw [List.length_set]; omega), List.take_succ_eq_append_getElem hi]
  have h1 : (xs.set i v).take i = xs.take i := by rw [List.take_set_of_le (Nat.le_refl _)]
  rw [h1, ht]
  congr 1
  have h2 : l[i] = v := by
    rw [List.getElem?_eq_getElem hi] at hv
    exact Option.some.inj hv
  simp [h2]
theorem rd_get {l : List Int} {i : Nat} (h : i < l.length) : l[i]? = some (rd l (i : Int)) := by
  unfold rd
  rw [Int.toNat_natCast, List.getD_eq_getElem?_getD, List.getElem?_eq_getElem h]
  rfl
theorem drop_rd {l : List Int} {i : Nat} (h : i < l.length) : l.drop i = rd l (i : Int) :: l.drop (i + 1) := by
  have e := rd_get h
  rw [List.getElem?_eq_getElem h] at e
  rw [List.drop_eq_getElem_cons h, Option.some.inj e]
end Go.Proofs.YtnipfblhhmldpaaE
