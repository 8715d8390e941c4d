/- Plain facts on what the printed functions compute (bookall). Conditions: each theorem's own. -/
import Derived.Test.YtbhaogmjcnnanaaPx0
import Derived.Test.YtbhaogmjcnnanaaFbookof
import Derived.Test.YtbhaogmjcnnanaaFpaycases
import Derived.Test.YtbhaogmjcnnanaaFchaintake
import Derived.Test.YtbhaogmjcnnanaaPlain
namespace Go.Proofs.Ytbhaogmjcnnanaa.Pure
open Go.RowKit Go.Proofs.Ytbhaogmjcnnanaa.P Go.Proofs.YtbhaogmjcnnanaaW.PrintWords Go.Proofs.YtbhaogmjcnnanaaW.PrintLast Go.Proofs.YtbhaogmjcnnanaaW.PrintMore Go.Proofs.YtbhaogmjcnnanaaE
set_option linter.unusedVariables false
set_option linter.unusedSimpArgs false

theorem bookOf_length (c : List It) : (bookOf c).length ≤ 3 := by
  unfold bookOf
  split
  · rw [payAll_length]; simp
  · simp
theorem payAll_ok {c : List It} : ∀ {b : List Int}, bookOk b = true → (∀ x, x ∈ c → payOk x.f1.f0 x.f1.f1 x.f1.f2 = true) → bookOk (payAll b c) = true := by
  induction c with
  | nil => intro b hb _; exact hb
  | cons x xs ih => intro b hb hi; exact ih (payL_ok hb (hi x (List.mem_cons_self ..))) fun y hy => hi y (List.mem_cons_of_mem _ hy)
theorem bookOf_ok {c : List It} (h : chainOk c = true) : bookOk (bookOf c) = true := by
  rw [bookOf, if_pos h]
  exact payAll_ok (bookOk_of (by omega) (by omega) (by omega) (by omega)) (chain_items h)

end Go.Proofs.Ytbhaogmjcnnanaa.Pure
