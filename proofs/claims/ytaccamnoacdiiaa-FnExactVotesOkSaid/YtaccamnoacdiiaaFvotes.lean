/- Plain facts on what the printed functions compute (votes). Conditions: each theorem's own. -/
import Derived.Test.YtaccamnoacdiiaaPx0
import Derived.Test.YtaccamnoacdiiaaFvote
import Derived.Test.YtaccamnoacdiiaaPlain
namespace Go.Proofs.Ytaccamnoacdiiaa.Pure
open Go.RowKit Go.Proofs.Ytaccamnoacdiiaa.P Go.Proofs.YtaccamnoacdiiaaW.PrintWords Go.Proofs.YtaccamnoacdiiaaW.PrintLast Go.Proofs.YtaccamnoacdiiaaW.PrintMore Go.Proofs.YtaccamnoacdiiaaE
set_option linter.unusedVariables false
set_option linter.unusedSimpArgs false

abbrev Vt := S25
instance : DecidableEq Vt := fun ⟨a, b⟩ ⟨a', b'⟩ => decidable_of_iff (a = a' ∧ b = b') (by simp)
theorem rdVt_get {l : List Vt} {i : Nat} (h : i < l.length) : l[i]? = some (rd_T25 l (i : Int)) := by
  show _ = some (l.getD ((i : Int)).toNat _)
  rw [Int.toNat_natCast, List.getD_eq_getElem?_getD, List.getElem?_eq_getElem h]
  rfl
theorem drop_vt {l : List Vt} {i : Nat} (h : i < l.length) : l.drop i = rd_T25 l (i : Int) :: l.drop (i + 1) := by
  have e := rdVt_get h
  rw [List.getElem?_eq_getElem h] at e
  rw [List.drop_eq_getElem_cons h, Option.some.inj e]
theorem take_vt {l : List Vt} {i : Nat} (h : i < l.length) : l.take (i + 1) = l.take i ++ [rd_T25 l (i : Int)] := by
  rw [List.take_add_one, rdVt_get h]
  rfl
theorem rdVt_mem {l : List Vt} {i : Nat} (h : i < l.length) : rd_T25 l (i : Int) ∈ l := List.mem_of_getElem? (rdVt_get h)
/-- A vote of node n for chain c is among them. -/
def hasV (l : List Vt) (n : Int) (c : List It) : Bool := l.any fun v => decide (v.f0 = n) && decide (v.f1 = c)
def votesFrom (p : List Vt) : List Vt → Bool
  | [] => true
  | v :: vs => voteOk v.f0 v.f1 && (!hasV p v.f0 v.f1 && votesFrom (p ++ [v]) vs)
def votesOk (l : List Vt) : Bool := votesFrom [] l

end Go.Proofs.Ytaccamnoacdiiaa.Pure
