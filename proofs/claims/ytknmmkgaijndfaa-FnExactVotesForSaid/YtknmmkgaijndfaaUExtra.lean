/- A few words more on rows of the call's own. Conditions: each theorem's own. -/
import Derived.Test.YtknmmkgaijndfaaUMore
import Derived.Lib.LazyBuf
namespace Go.Proofs.YtknmmkgaijndfaaW.PrintWords
open Go.RowKit
/-- A row's capacity is no more than the model's greatest length. -/
theorem row_cap {α : Type} {d : Kd α} {e : Nat} {w : World} {base : Nat} {ok : Nat → Prop} {v : Value} {xs : List α} {A : Option Addr} {n c : Nat} (h : d.R e w base ok v xs) (hv : v = .slice A n c) : c ≤ 9223372036854775807 := by
  obtain ⟨_, inner, ho, _⟩ := h
  rcases ho.2 with ⟨rfl, _⟩ | ⟨g, cap, cur, rfl, _, _, _, hcm, _⟩
  · injection hv with _ _ h3
    omega
  · injection hv with _ _ h3
    subst h3
    exact hcm
/-- A row whose blocks are younger than was told. -/
theorem R_raise2 {α : Type} {d : Kd α} {e b b' : Nat} {ok : Nat → Prop} {W : World} {v : Value} {xs : List α} (hM : ∀ w ok x cs, (∀ k, ok k → b' ≤ k) → d.M w b ok x cs → d.M w b' ok x cs) (h : d.R e W b ok v xs) (hb : ∀ k, ok k → b' ≤ k) : d.R e W b' ok v xs := by
  obtain ⟨h0, inner, ho, hr⟩ := h
  exact ⟨h0, inner, Kd.own_raise ho (fun k e => hb k (h0 k e)), hr.imp_ (fun _ _ hp => hM _ _ _ _ (fun k hk => hb k hk.1) hp)⟩
/-- What was drawn leaves the cells as they were. -/
theorem cell_q {w w' : World} {n : Nat} {a : Addr} {v : Option Value} (h : w.cell? a = v) (e : World.drewN w n = w') : w'.cell? a = v := by
  subst e
  exact h
/-- A cut has its row's block. -/
theorem blk_cut {A : Option Addr} {n c n' c' k : Nat} (h : some k ≠ (Value.slice A n c).ownBlock) : some k ≠ (Value.slice A n' c').ownBlock := by
  cases A <;> exact h
/-- An element's block is its row's. -/
theorem cell_ne_row {a : Addr} {n : Nat} {r : Option Nat} (h : some a.block ≠ r) : some (a.add n).block ≠ r := by
  rw [add_block]
  exact h
section
open Go.Proofs.YtknmmkgaijndfaaW.PrintLast
variable {P : Program} {ops : Array Oper} {rest : List Oper} {oi : Oper} {a : Act} {Q : Exit → Act → World → Prop} {w : World}
/-- A call through a function value, by the function's contract: what is bound goes ahead of the arguments, what is captured behind them. -/
theorem goesF (N : Option Tmp) (hd : oi.dst = N) (hg : oi.guard = none) {f : FuncId} {fn : Func} {as : Array Operand} {ts : Array TypeId} (hf : P.funcs[f]? = some fn) (hname : (fn.name == "runtime.NumGoroutine") = false) (hb : fn.body.isSome = true) (p : Operand) (pre cap args : Array Value)
    (hop : oi.op = .call { callee := .value p, args := as, argTypes := ts }) (hp : a.eval p = .func (.func f) pre cap) (hargs : pre ++ as.map a.eval ++ cap = args)
    (h : Calls P f args w fun e w' => ∃ v, e = .returned v ∧ wpList P ops Q rest (a.put N v) w') : wpList P ops Q (oi :: rest) a w := by
  refine wpList_plain hg fun K hK => ?_
  have he := enters_ hf hname hb args w
  have hrun : (execOp a.eval oi).run P w = .ok (.enter f args) w := by
    unfold execOp
    simp only [hop, resolve, hp, Deferred.ofValue, invoke, Sem.run_bind, Sem.run_pure]
    show Sem.run P (callFunc f (pre ++ as.map a.eval ++ cap)) w = _
    rw [hargs]
    exact he
  unfold Oper.wp
  rw [hrun, Oper.upon_enter]
  refine h.mono fun e w'' hh => ?_
  obtain ⟨v, rfl, hk⟩ := hh
  subst hd
  exact hK _ _ hk
end
end Go.Proofs.YtknmmkgaijndfaaW.PrintWords
