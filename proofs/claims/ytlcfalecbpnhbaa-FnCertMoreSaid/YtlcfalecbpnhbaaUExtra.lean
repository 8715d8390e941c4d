/- A few words more on rows of the call's own. Conditions: each theorem's own. -/
import Derived.Test.YtlcfalecbpnhbaaUMore
import Derived.Lib.LazyBuf
namespace Go.Proofs.YtlcfalecbpnhbaaW.PrintWords
open Go.RowKit
/-- A row's capacity is no more than the model's greatest length. -/
theorem row_cap {α : Type} {d : Kd α} {e : Nat} {w : World} {base : Nat} {ok : Nat → Prop} {v : Value} {xs : List α} {A : Option Addr} {n c : Nat} (h : d.R e w base ok v xs) (hv : v = .slice A n c) : c ≤ 9223372036854775807 := by
  obtain ⟨_, inner, ho, _⟩ := h
  rcases ho.2 with ⟨rfl, _⟩ | ⟨g, cap, cur, rfl, _, _, _, hcm, _⟩
  · injection hv with _ _ h3
    omega
  · injection hv with _ _ h3
    subst h3
    exact hcm
/-- A row whose blocks are younger than was told. -/
theorem R_raise2 {α : Type} {d : Kd α} {e b b' : Nat} {ok : Nat → Prop} {W : World} {v : Value} {xs : List α} (hM : ∀ w ok x cs, (∀ k, ok k → b' ≤ k) → d.M w b ok x cs → d.M w b' ok x cs) (h : d.R e W b ok v xs) (hb : ∀ k, ok k → b' ≤ k) : d.R e W b' ok v xs := by
  obtain ⟨h0, inner, ho, hr⟩ := h
  exact ⟨h0, inner, Kd.own_raise ho (fun k e => hb k (h0 k e)), hr.imp_ (fun _ _ hp => hM _ _ _ _ (fun k hk => hb k hk.1) hp)⟩
/-- What was drawn leaves the cells as they were. -/
theorem cell_q {w w' : World} {n : Nat} {a : Addr} {v : Option Value} (h : w.cell? a = v) (e : World.drewN w n = w') : w'.cell? a = v := by
  subst e
  exact h
/-- A cut has its row's block. -/
theorem blk_cut {A : Option Addr} {n c n' c' k : Nat} (h : some k ≠ (Value.slice A n c).ownBlock) : some k ≠ (Value.slice A n' c').ownBlock := by
  cases A <;> exact h
/-- An element's block is its row's. -/
theorem cell_ne_row {a : Addr} {n : Nat} {r : Option Nat} (h : some a.block ≠ r) : some (a.add n).block ≠ r := by
  rw [add_block]
  exact h
section
open Go.Proofs.YtlcfalecbpnhbaaW.PrintLast
variable {P : Program} {ops : Array Oper} {rest : List Oper} {oi : Oper} {a : Act} {Q : Exit → Act → World → Prop} {w : World}
/-- A call through a function value, by the function's contract: what is bound goes ahead of the arguments, what is captured behind them. -/
theorem goesF (N : Option Tmp) (hd : oi.dst = N) (hg : oi.guard = none) {f : FuncId} {fn : Func} {as : Array Operand} {ts : Array TypeId} (hf : P.funcs[f]? = some fn) (hname : (fn.name == "runtime.NumGoroutine") = false) (hb : fn.body.isSome = true) (p : Operand) (pre cap args : Array Value)
    (hop : oi.op = .call { callee := .value p, args := as, argTypes := ts }) (hp : a.eval p = .func (.func f) pre cap) (hargs : pre ++ as.map a.eval ++ cap = args)
    (h : Calls P f args w fun e w' => ∃ v, e = .returned v ∧ wpList P ops Q rest (a.put N v) w') : wpList P ops Q (oi :: rest) a w := by
  refine wpList_plain hg fun K hK => ?_
  have he := enters_ hf hname hb args w
  have hrun : (execOp a.eval oi).run P w = .ok (.enter f args) w := by
    unfold execOp
    simp only [hop, resolve, hp, Deferred.ofValue, invoke, Sem.run_bind, Sem.run_pure]
    show Sem.run P (callFunc f (pre ++ as.map a.eval ++ cap)) w = _
    rw [hargs]
    exact he
  unfold Oper.wp
  rw [hrun, Oper.upon_enter]
  refine h.mono fun e w'' hh => ?_
  obtain ⟨v, rfl, hk⟩ := hh
  subst hd
  exact hK _ _ hk
end
section
variable {α : Type _}
/-- Short names of what the printed texts name most often. -/
abbrev bT : Bool := true
abbrev bF : Bool := false
theorem aM {p : Prop} (h : p) : Aside0 p := ⟨h⟩
theorem sI (l : List α) (i : Nat) (a : α) : l.toArray.setIfInBounds i a = (l.set i a).toArray := List.setIfInBounds_toArray l i a
theorem sZ {x : α} {xs : List α} {a : α} : (x :: xs).set 0 a = a :: xs := rfl
theorem sS {x : α} {xs : List α} {i : Nat} {a : α} : (x :: xs).set (i + 1) a = x :: xs.set i a := rfl
theorem bA {w W : World} (h : Below w.heap.size w W) (o : Obj) : Below w.heap.size w (W.alloc o) := below_alloc h o
theorem bN {B : Nat} {w W : World} (h : Below B w W) (n : Nat) : Below B w (W.drewN n) := pw_below_drewN h n
theorem bD {base : Nat} {w W : World} (h : Below base w W) : Below base w W.drew := below_drew1 h
theorem bL (w : World) {a : Addr} {u : Value} (h : w.cell? a = some u) : a.block < w.heap.size := World.block_lt_of_cell? w a h
end
section
theorem qk {P Q : Prop} (x : Aside0 Q) (h : Q → P := by intro hx_; (with_reducible repeat (first|refine blk_drewN ?_ _|refine blk_drew ?_|refine blk_alloc ?_ _)); exact hx_) : P := h x.out
theorem qR {P Q : Prop} (x : Aside0 Q) (h : Q → P := by intro hx_; (with_reducible repeat (first|apply Kd.R_alloc|apply Kd.R_drewN|apply Kd.R_drew)); exact hx_) : P := h x.out
theorem qN {P Q : Prop} (x : Aside0 Q) (h : Q → P := by intro hx_; (with_reducible repeat (first|apply Kd.N_alloc|apply Kd.N_drewN|apply Kd.N_drew)); exact hx_) : P := h x.out
theorem qV {P Q : Prop} (x : Aside0 Q) (h : Q → P := by intro hx_; (with_reducible repeat (first|apply Kd.V_alloc|apply Kd.V_drewN|apply Kd.V_drew)); exact hx_) : P := h x.out
theorem Q0 {P : Prop} (h : P := by repeat (first|(with_reducible first|exact HI0.out|apply IsS76.alloc|apply IsS76.drewN|apply IsS76.drew|apply IsS76.set_1)|exact HI0.out)) : P := h
theorem Q1 {P : Prop} (h : P := by (try simp only [List.map_toArray,List.map_cons,List.map_nil]);first|done|rfl|(simp only [List.length_drop,List.length_take];rfl)) : P := h
theorem Q2 {P : Prop} (h : P := by repeat (first|(with_reducible first|exact HK.out|apply KeepBut.set_|apply keep_drewN|apply keep_drew|apply keep_alloc)|exact HK.out)) : P := h
theorem Q3 {P : Prop} (h : P := by repeat (first|(with_reducible first|exact HB.out|apply bA|apply bN|apply bD)|exact HB.out)) : P := h
theorem Q4 {P : Prop} (h : P := by repeat (first|(with_reducible first|exact HB.out|apply bA|apply bN|apply bD|refine below_set ?_ (IsS76.ge HI0.out))|exact HB.out)) : P := h
theorem Q5 {P : Prop} (h : P := by first|(with_reducible assumption)|assumption) : P := h
theorem Q6 {P : Prop} (h : P := by first|rfl|(simp only [i64_w,i32_w];done)|(simp only [i64_w,i32_w];rfl)|(simp [errW_none,errW_some] <;> rfl)|(simp [*,errW_none,errW_some] <;> rfl)) : P := h
theorem Q7 {P : Prop} (h : P := by repeat (first|(with_reducible first|exact HK.out|apply KeepBut.set_|apply keep_drewN|apply keep_drew|apply keep_alloc|refine keep_far ?_ GW446.out _|refine keep_far ?_ GW458.out _)|exact HK.out)) : P := h
theorem Q8 {P : Prop} (h : P := by repeat (first|(with_reducible first|exact HI0.out|apply IsS76.alloc|apply IsS76.drewN|apply IsS76.drew|apply IsS76.set_1|refine IsS76.far ?_ NB0_446.out _|refine IsS76.far ?_ NB0_458.out _)|exact HI0.out)) : P := h
theorem Q9 {P : Prop} (h : P := by repeat (first|(with_reducible first|exact HB.out|apply bA|apply bN|apply bD|refine below_set ?_ (IsS76.ge HI0.out)|refine below_set ?_ GE446.out|refine below_set ?_ GE458.out)|exact HB.out)) : P := h
theorem Q10 {P : Prop} (h : P := by repeat (first|(with_reducible first|exact HB.out|apply bA|apply bN|apply bD|refine below_set ?_ GE514.out|refine below_set ?_ GE524.out|refine below_set ?_ GE535.out)|exact HB.out)) : P := h
theorem Q11 {P : Prop} (h : P := by first|rfl|(simp;done)|(simp [*];done)) : P := h
theorem Q12 {P : Prop} (h : P := by first|(rw [add_block];exact Kd.own_blk (IsS76.own_ne HI0.out HO_4.out (by decide)))|(show (Addr.add _ _).block ≠ _;rw [add_block];exact Kd.own_blk (IsS76.own_ne HI0.out HO_4.out (by decide)))|exact Kd.own_blk (IsS76.own_ne HI0.out HO_4.out (by decide))) : P := h
theorem Q13 {P : Prop} (h : P := by (with_reducible repeat (first|refine blk_drewN ?_ _|refine blk_drew ?_|refine blk_alloc ?_ _));refine blk_put (cs:=#[.int .i64 ((rd_T40 l0 x7_1).f0),.int .i64 ((rd_T40 l0 x7_1).f1.f0),.int .i64 ((rd_T40 l0 x7_1).f1.f1),.int .i64 0]) ?_ 3 _ rfl;(with_reducible repeat (first|refine blk_drewN ?_ _|refine blk_drew ?_|refine blk_alloc ?_ _));refine blk_put (cs:=#[.int .i64 ((rd_T40 l0 x7_1).f0),.int .i64 ((rd_T40 l0 x7_1).f1.f0),.int .i64 0,.int .i64 0]) ?_ 2 _ rfl;(with_reducible repeat (first|refine blk_drewN ?_ _|refine blk_drew ?_|refine blk_alloc ?_ _));refine blk_put (cs:=#[.int .i64 ((rd_T40 l0 x7_1).f0),.int .i64 0,.int .i64 0,.int .i64 0]) ?_ 1 _ rfl;(with_reducible repeat (first|refine blk_drewN ?_ _|refine blk_drew ?_|refine blk_alloc ?_ _));refine blk_put (cs:=#[.int .i64 0,.int .i64 0,.int .i64 0,.int .i64 0]) ?_ 0 _ rfl;(with_reducible repeat (first|refine blk_drewN ?_ _|refine blk_drew ?_|refine blk_alloc ?_ _));exact BK133.out) : P := h
theorem Q14 {P : Prop} (h : P := by kernel_rfl) : P := h
theorem Q15 {P : Prop} (h : P := by repeat (first|(with_reducible first|exact HB.out|apply bA|apply bN|apply bD|refine below_set ?_ GE514.out|refine below_set ?_ GE524.out)|exact HB.out)) : P := h
theorem Q16 {P : Prop} (h : P := by first|(go_simp;done)|(go_simp;rfl)) : P := h
theorem Q17 {P : Prop} (h : P := by omega) : P := h
theorem Q18 {P : Prop} (h : P := by repeat (first|(with_reducible first|exact HB.out|apply bA|apply bN|apply bD|refine below_set ?_ GE514.out|refine below_set ?_ GE524.out|refine below_set ?_ GE535.out|refine below_set ?_ GE549.out)|exact HB.out)) : P := h
theorem Q19 {P : Prop} (h : P := by repeat (first|exact (Kd.C_below HR0.out HB.out)|(with_reducible refine Kd.C_alloc ?_ _)|(with_reducible refine Kd.C_drewN ?_ _)|(with_reducible refine Kd.C_drew ?_))) : P := h
theorem Q20 {P : Prop} (h : P := by repeat (first|exact (Kd.C_below HR0_0.out HB.out)|(with_reducible refine Kd.C_alloc ?_ _)|(with_reducible refine Kd.C_drewN ?_ _)|(with_reducible refine Kd.C_drew ?_))) : P := h
theorem Q21 {P : Prop} (h : P := by repeat (first|(with_reducible first|exact HI0.out|apply IsS76.alloc|apply IsS76.drewN|apply IsS76.drew|apply IsS76.set_1|refine IsS76.far ?_ NB0_198.out _|refine IsS76.far ?_ NB0_203.out _)|exact HI0.out)) : P := h
theorem Q22 {P : Prop} (h : P := by repeat (first|(with_reducible first|exact HI0.out|apply IsS76.alloc|apply IsS76.drewN|apply IsS76.drew|apply IsS76.set_1|refine IsS76.far ?_ NB0_198.out _)|exact HI0.out)) : P := h
theorem Q23 {P : Prop} (h : P := by repeat (first|(with_reducible first|exact HK.out|apply KeepBut.set_|apply keep_drewN|apply keep_drew|apply keep_alloc|refine keep_far ?_ GW198.out _|refine keep_far ?_ GW203.out _)|exact HK.out)) : P := h
theorem Q24 {P : Prop} (h : P := by repeat (first|(with_reducible first|exact HK.out|apply KeepBut.set_|apply keep_drewN|apply keep_drew|apply keep_alloc|refine keep_far ?_ GW198.out _)|exact HK.out)) : P := h
theorem Q25 {P : Prop} (h : P := by repeat (first|(with_reducible first|exact HB.out|apply bA|apply bN|apply bD|refine below_set ?_ GE514.out)|exact HB.out)) : P := h
theorem Q26 {P : Prop} (h : P := by repeat (first|(with_reducible first|exact HB.out|apply bA|apply bN|apply bD|refine below_set ?_ GE428.out)|exact HB.out)) : P := h
theorem Q27 {P : Prop} (h : P := by repeat (first|exact Drawn0.refl _|apply Drawn0.step)) : P := h
theorem Q28 {P : Prop} (h : P := by repeat (first|(with_reducible first|exact HB.out|apply bA|apply bN|apply bD|refine below_set ?_ (IsS76.ge HI0.out)|refine below_set ?_ GE198.out|refine below_set ?_ GE203.out)|exact HB.out)) : P := h
theorem Q29 {P : Prop} (h : P := by repeat (first|(with_reducible first|exact HB.out|apply bA|apply bN|apply bD|refine below_set ?_ GE119.out)|exact HB.out)) : P := h
theorem Q30 {P : Prop} (h : P := by (with_reducible repeat (first|refine blk_drewN ?_ _|refine blk_drew ?_|refine blk_alloc ?_ _));refine blk_put (cs:=#[.int .i64 t199,.int .i64 t200,.int .i64 0]) ?_ 2 _ rfl;(with_reducible repeat (first|refine blk_drewN ?_ _|refine blk_drew ?_|refine blk_alloc ?_ _));refine blk_put (cs:=#[.int .i64 t199,.int .i64 0,.int .i64 0]) ?_ 1 _ rfl;(with_reducible repeat (first|refine blk_drewN ?_ _|refine blk_drew ?_|refine blk_alloc ?_ _));refine blk_put (cs:=#[.int .i64 0,.int .i64 0,.int .i64 0]) ?_ 0 _ rfl;(with_reducible repeat (first|refine blk_drewN ?_ _|refine blk_drew ?_|refine blk_alloc ?_ _));exact BK203.out) : P := h
theorem Q31 {P : Prop} (h : P := by repeat (first|(with_reducible first|exact HK.out|apply KeepBut.set_|apply keep_drewN|apply keep_drew|apply keep_alloc|refine keep_far ?_ GW446.out _)|exact HK.out)) : P := h
theorem Q32 {P : Prop} (h : P := by repeat (first|(with_reducible first|exact HB.out|apply bA|apply bN|apply bD|refine below_set ?_ GE133.out)|exact HB.out)) : P := h
theorem Q33 {P : Prop} (h : P := by repeat (first|(with_reducible first|exact HK.out|apply Kept.alloc|apply Kept.drewN|apply Kept.drew|refine Kept.setCell ?_ (.inr GW189.out) _)|exact HK.out)) : P := h
theorem Q34 {P : Prop} (h : P := by (with_reducible repeat (first|refine blk_drewN ?_ _|refine blk_drew ?_|refine blk_alloc ?_ _));refine blk_far ?_ NB198_203.out _;(with_reducible repeat (first|refine blk_drewN ?_ _|refine blk_drew ?_|refine blk_alloc ?_ _));refine blk_far ?_ NB198_203.out _;(with_reducible repeat (first|refine blk_drewN ?_ _|refine blk_drew ?_|refine blk_alloc ?_ _));refine blk_far ?_ NB198_203.out _;(with_reducible repeat (first|refine blk_drewN ?_ _|refine blk_drew ?_|refine blk_alloc ?_ _));exact BK198.out) : P := h
theorem Q35 {P : Prop} (h : P := by repeat (first|(with_reducible first|exact HB.out|apply bA|apply bN|apply bD|refine below_set ?_ (IsS76.ge HI496.out)|refine below_set ?_ GE493.out)|exact HB.out)) : P := h
theorem Q36 {P : Prop} (h : P := by decide) : P := h
theorem Q37 {P : Prop} (h : P := by rw [hg];exact (below_size (Q3))) : P := h
theorem Q38 {P : Prop} (h : P := by repeat (first|(with_reducible first|exact HB.out|apply bA|apply bN|apply bD|refine below_set ?_ GE141.out)|exact HB.out)) : P := h
theorem Q39 {P : Prop} (h : P := by repeat (first|(with_reducible first|exact HB.out|apply bA|apply bN|apply bD|refine below_set ?_ (IsS76.ge HI0.out)|refine below_set ?_ GE198.out)|exact HB.out)) : P := h
theorem Q40 {P : Prop} (h : P := by repeat (first|(with_reducible first|exact HI0.out|apply IsS76.alloc|apply IsS76.drewN|apply IsS76.drew|apply IsS76.set_1|refine IsS76.far ?_ NB0_446.out _)|exact HI0.out)) : P := h
theorem Q41 {P : Prop} (h : P := by repeat (first|(with_reducible first|exact HB.out|apply bA|apply bN|apply bD|refine below_set ?_ GE408.out|refine below_set ?_ GE417.out)|exact HB.out)) : P := h
theorem Q42 {P : Prop} (h : P := by repeat (first|(with_reducible first|exact HI496.out|apply IsS76.alloc|apply IsS76.drewN|apply IsS76.drew|apply IsS76.set_1|refine IsS76.far ?_ NB496_493.out _)|exact HI496.out)) : P := h
theorem Q43 {P : Prop} (h : P := by repeat (first|exact (Kd.C_below HR370_1.out HB.out)|(with_reducible refine Kd.C_alloc ?_ _)|(with_reducible refine Kd.C_drewN ?_ _)|(with_reducible refine Kd.C_drew ?_))) : P := h
theorem Q44 {P : Prop} (h : P := by repeat (first|exact (Kd.C_below HR176_1.out HB.out)|(with_reducible refine Kd.C_alloc ?_ _)|(with_reducible refine Kd.C_drewN ?_ _)|(with_reducible refine Kd.C_drew ?_))) : P := h
theorem Q45 {P : Prop} (h : P := by repeat (first|exact (Kd.C_below HR121_0.out HB.out)|(with_reducible refine Kd.C_alloc ?_ _)|(with_reducible refine Kd.C_drewN ?_ _)|(with_reducible refine Kd.C_drew ?_))) : P := h
theorem Q46 {P : Prop} (h : P := by repeat (first|(with_reducible first|exact HB.out|apply bA|apply bN|apply bD|refine below_set ?_ GE408.out)|exact HB.out)) : P := h
theorem Q47 {P : Prop} (h : P := by repeat (first|(with_reducible first|exact HB.out|apply bA|apply bN|apply bD|refine below_set ?_ GE189.out)|exact HB.out)) : P := h
theorem Q48 {P : Prop} (h : P := by repeat (first|exact (Kd.C_below HR1_1.out HB.out)|(with_reducible refine Kd.C_alloc ?_ _)|(with_reducible refine Kd.C_drewN ?_ _)|(with_reducible refine Kd.C_drew ?_))) : P := h
theorem Q49 {P : Prop} (h : P := by rw [hg];exact Nat.ne_of_lt (blk_lt (g:=gb524) (o:=.cells #[.slice Ao11 t508.length co11,.slice (some ⟨go29,0,none⟩) y521.length co50] 30 (0,0)) (qk BK524))) : P := h
theorem Q50 {P : Prop} (h : P := by rw [hg];exact Nat.ne_of_gt (blk_lt (g:=gb524) (o:=.cells #[.slice Ao11 t508.length co11,.slice (some ⟨go29,0,none⟩) y521.length co50] 30 (0,0)) (qk BK524))) : P := h
theorem Q51 {P : Prop} (h : P := by simp) : P := h
theorem Q52 {P : Prop} (h : P := by first|exact Kd.R_nil _ _ _ _ _|exact Kd.N_nil _ _ _ _ _|exact Kd.V_nil _ _ _ _ _|exact Kd.Q_nil _ _ _ _ _|exact Kd.S_nil _ _ _ _ _) : P := h
theorem Q53 {P : Prop} (h : P := by repeat (first|(with_reducible exact HR436_0.out)|(with_reducible refine Kd.C_alloc ?_ _)|(with_reducible refine Kd.C_drewN ?_ _)|(with_reducible refine Kd.C_drew ?_)|exact HR436_0.out)) : P := h
theorem Q54 {P : Prop} (h : P := by repeat (first|(with_reducible first|exact HB.out|apply bA|apply bN|apply bD|refine below_set ?_ GE343.out)|exact HB.out)) : P := h
theorem Q55 {P : Prop} (h : P := by rw [hg];exact Nat.ne_of_lt (blk_lt (g:=gb514) (o:=.cells #[.slice Ao11 t508.length co11,.slice Ao13 t511.length co13] 30 (0,0)) (qk BK514))) : P := h
theorem Q56 {P : Prop} (h : P := by rw [hg];exact Nat.ne_of_gt (blk_lt (g:=gb514) (o:=.cells #[.slice Ao11 t508.length co11,.slice Ao13 t511.length co13] 30 (0,0)) (qk BK514))) : P := h
theorem Q57 {P : Prop} (h : P := by repeat (first|exact (by repeat (first|(with_reducible exact HR367_0.out)|(with_reducible refine Kd.C_alloc ?_ _)|(with_reducible refine Kd.C_drewN ?_ _)|(with_reducible refine Kd.C_drew ?_)|exact HR367_0.out))|(with_reducible refine Kd.C_alloc ?_ _)|(with_reducible refine Kd.C_drewN ?_ _)|(with_reducible refine Kd.C_drew ?_))) : P := h
theorem Q58 {P : Prop} (h : P := by rw [hg];exact (keep_size (w:=w) (g:=g) (row:=none) (Q2))) : P := h
theorem Q59 {P : Prop} (h : P := by repeat (first|(with_reducible exact HR329.out)|(with_reducible refine Kd.C_alloc ?_ _)|(with_reducible refine Kd.C_drewN ?_ _)|(with_reducible refine Kd.C_drew ?_)|exact HR329.out)) : P := h
theorem Q60 {P : Prop} (h : P := by have:=HK1.out;omega) : P := h
theorem Q61 {P : Prop} (h : P := by repeat (first|(with_reducible first|exact HI0.out|apply IsS76.alloc|apply IsS76.drewN|apply IsS76.drew|apply IsS76.set_1|refine IsS76.far ?_ NB0_148.out _)|exact HI0.out)) : P := h
theorem Q62 {P : Prop} (h : P := by repeat (first|exact (Kd.R_reads' HO_515000.out).2.2|(with_reducible refine Kd.C_alloc ?_ _)|(with_reducible refine Kd.C_drewN ?_ _)|(with_reducible refine Kd.C_drew ?_))) : P := h
theorem Q63 {P : Prop} (h : P := by repeat (first|exact (Kd.C_below HR1.out HB.out)|(with_reducible refine Kd.C_alloc ?_ _)|(with_reducible refine Kd.C_drewN ?_ _)|(with_reducible refine Kd.C_drew ?_))) : P := h
theorem Q64 {P : Prop} (h : P := by repeat (first|(with_reducible first|exact HK.out|apply KeepBut.set_|apply keep_drewN|apply keep_drew|apply keep_alloc|refine keep_far ?_ GW148.out _)|exact HK.out)) : P := h
theorem Q65 {P : Prop} (h : P := by repeat (first|(with_reducible first|exact HB.out|apply bA|apply bN|apply bD|refine below_set ?_ GE174.out)|exact HB.out)) : P := h
theorem Q66 {P : Prop} (h : P := by repeat (first|(with_reducible first|exact HB.out|apply bA|apply bN|apply bD|refine below_set ?_ (IsS76.ge HI0.out)|refine below_set ?_ GE148.out)|exact HB.out)) : P := h
theorem Q67 {P : Prop} (h : P := by (with_reducible repeat (first|apply Kd.N_alloc|apply Kd.N_drewN|apply Kd.N_drew));exact Kd.N_mono HO_4.out (fun _ hk => ⟨⟨hk.1.1,⟨hk.1.2.1,⟨hk.2,⟨hk.1.2.2.2.1,⟨hk.1.2.2.2.2.1,hk.1.2.2.2.2.2⟩⟩⟩⟩⟩,hk.1.2.2.1⟩)) : P := h
theorem Q68 {P : Prop} (h : P := by repeat (first|exact HR0.out|(with_reducible refine Kd.C_alloc ?_ _)|(with_reducible refine Kd.C_drewN ?_ _)|(with_reducible refine Kd.C_drew ?_))) : P := h
theorem Q69 {P : Prop} (h : P := by (with_reducible repeat (first|refine blk_drewN ?_ _|refine blk_drew ?_|refine blk_alloc ?_ _));refine blk_put (cs:=#[.slice none 0 0,.slice none 0 0]) ?_ 1 _ rfl;(with_reducible repeat (first|refine blk_drewN ?_ _|refine blk_drew ?_|refine blk_alloc ?_ _));refine blk_put (cs:=#[.slice none 0 0,.slice none 0 0]) ?_ 0 _ rfl;(with_reducible repeat (first|refine blk_drewN ?_ _|refine blk_drew ?_|refine blk_alloc ?_ _));exact BK428.out) : P := h
theorem Q70 {P : Prop} (h : P := by rfl) : P := h
theorem Q71 {P : Prop} (h : P := by rw [hg];exact (keep_size (w:=w) (g:=g) (row:=none) (Q24))) : P := h
theorem Q72 {P : Prop} (h : P := by rw [hg];exact Nat.ne_of_lt (IsS76.lt (show IsS76 w0 _ g s0_0 s0_1 from Q0))) : P := h
theorem Q73 {P : Prop} (h : P := by rw [hg];exact Nat.ne_of_gt (IsS76.lt (show IsS76 w0 _ g s0_0 s0_1 from Q0))) : P := h
theorem Q74 {P : Prop} (h : P := by (with_reducible repeat (first|apply Kd.R_alloc|apply Kd.R_drewN|apply Kd.R_drew));exact Kd.R_mono HO_4.out (fun _ hk => hk.2)) : P := h
theorem Q75 {P : Prop} (h : P := by rw [hg];exact (below_size (by repeat (first|(with_reducible first|exact HBW.out|apply bA|apply bN|apply bD)|exact HBW.out)))) : P := h
theorem Q76 {P : Prop} (h : P := by repeat (first|(with_reducible exact HR389_0.out)|(with_reducible refine Kd.C_alloc ?_ _)|(with_reducible refine Kd.C_drewN ?_ _)|(with_reducible refine Kd.C_drew ?_)|exact HR389_0.out)) : P := h
theorem Q77 {P : Prop} (h : P := by (with_reducible repeat (first|refine blk_drewN ?_ _|refine blk_drew ?_|refine blk_alloc ?_ _));refine blk_far ?_ NB446_458.out _;(with_reducible repeat (first|refine blk_drewN ?_ _|refine blk_drew ?_|refine blk_alloc ?_ _));refine blk_far ?_ NB446_458.out _;(with_reducible repeat (first|refine blk_drewN ?_ _|refine blk_drew ?_|refine blk_alloc ?_ _));exact BK446.out) : P := h
theorem Q78 {P : Prop} (h : P := by (with_reducible repeat (first|apply Kd.N_alloc|apply Kd.N_drewN|apply Kd.N_drew));exact (Kd.N_mono (Kd.N_far (p:=⟨gb514,1,none⟩) (Kd.N_far (p:=⟨gb514,0,none⟩) (Kd.N_mono HO513.out (fun k_ hk => (⟨hk,hk.2⟩ : _ ∧ k_ ≠ gb514))) (fun _ hk => hk.2) (.slice Ao11 t508.length co11)) (fun _ hk => hk.2) (.slice Ao13 t511.length co13)) (fun _ h_ => h_.1))) : P := h
theorem Q79 {P : Prop} (h : P := by repeat (first|(with_reducible first|exact HB.out|apply bA|apply bN|apply bD|refine below_set ?_ GE128.out)|exact HB.out)) : P := h
theorem Q80 {P : Prop} (h : P := by repeat (first|(with_reducible first|exact HB.out|apply bA|apply bN|apply bD|refine below_set ?_ GE105.out)|exact HB.out)) : P := h
theorem Q81 {P : Prop} (h : P := by rw [hg];exact Nat.ne_of_lt (blk_lt (g:=gb198) (o:=.cells #[.int .i64 0,.int .i64 0,.int .i64 0] 38 (0,0)) (qk BK198))) : P := h
theorem Q82 {P : Prop} (h : P := by rw [hg];exact Nat.ne_of_gt (blk_lt (g:=gb198) (o:=.cells #[.int .i64 0,.int .i64 0,.int .i64 0] 38 (0,0)) (qk BK198))) : P := h
theorem Q83 {P : Prop} (h : P := by repeat (first|(with_reducible first|exact HK.out|apply Kept.alloc|apply Kept.drewN|apply Kept.drew)|exact HK.out)) : P := h
theorem Q84 {P : Prop} (h : P := by repeat (first|exact (Kd.C_below HR368_1.out HB.out)|(with_reducible refine Kd.C_alloc ?_ _)|(with_reducible refine Kd.C_drewN ?_ _)|(with_reducible refine Kd.C_drew ?_))) : P := h
theorem Q85 {P : Prop} (h : P := by repeat (first|exact (Kd.C_below HR346_1.out HB.out)|(with_reducible refine Kd.C_alloc ?_ _)|(with_reducible refine Kd.C_drewN ?_ _)|(with_reducible refine Kd.C_drew ?_))) : P := h
theorem Q86 {P : Prop} (h : P := by repeat (first|exact (Kd.C_below HR372_1.out (Q3))|(with_reducible refine Kd.C_alloc ?_ _)|(with_reducible refine Kd.C_drewN ?_ _)|(with_reducible refine Kd.C_drew ?_))) : P := h
theorem Q87 {P : Prop} (h : P := by (with_reducible repeat (first|apply Kd.R_alloc|apply Kd.R_drewN|apply Kd.R_drew));exact (Kd.R_mono (Kd.R_far (p:=⟨gb514,1,none⟩) (Kd.R_far (p:=⟨gb514,0,none⟩) (Kd.R_types HO510.out BK514.out (Q36)) (fun _ hk => hk.2) (.slice Ao11 t508.length co11)) (fun _ hk => hk.2) (.slice Ao13 t511.length co13)) (fun _ h_ => h_.1))) : P := h
theorem Q88 {P : Prop} (h : P := by rw [hg];exact Nat.ne_of_lt (blk_lt (g:=gb535) (o:=.cells #[.slice Ao11 t508.length co11,.slice (some ⟨go34,0,none⟩) y532.length co66] 30 (0,0)) (qk BK535))) : P := h
theorem Q89 {P : Prop} (h : P := by rw [hg];exact Nat.ne_of_gt (blk_lt (g:=gb535) (o:=.cells #[.slice Ao11 t508.length co11,.slice (some ⟨go34,0,none⟩) y532.length co66] 30 (0,0)) (qk BK535))) : P := h
theorem Q90 {P : Prop} (h : P := by repeat (first|(with_reducible first|exact HB.out|apply bA|apply bN|apply bD|refine below_set ?_ (IsS76.ge HI0.out)|refine below_set ?_ GE446.out)|exact HB.out)) : P := h
theorem Q91 {P : Prop} (h : P := by repeat (first|(with_reducible first|exact HB.out|apply bA|apply bN|apply bD|refine below_set ?_ GE184.out|refine below_set ?_ GE185.out)|exact HB.out)) : P := h
theorem Q92 {P : Prop} (h : P := by rw [hg];exact Nat.ne_of_lt (blk_lt (g:=gb514) (o:=.cells #[.slice Ao11 t508.length co11,.slice (some ad536) t511.length co13] 30 (0,0)) (qk BK514))) : P := h
theorem Q93 {P : Prop} (h : P := by rw [hg];exact Nat.ne_of_gt (blk_lt (g:=gb514) (o:=.cells #[.slice Ao11 t508.length co11,.slice (some ad536) t511.length co13] 30 (0,0)) (qk BK514))) : P := h
theorem Q94 {P : Prop} (h : P := by repeat (first|exact HR1.out|(with_reducible refine Kd.C_alloc ?_ _)|(with_reducible refine Kd.C_drewN ?_ _)|(with_reducible refine Kd.C_drew ?_))) : P := h
theorem Q95 {P : Prop} (h : P := by repeat (first|exact (Q53)|(with_reducible refine Kd.C_alloc ?_ _)|(with_reducible refine Kd.C_drewN ?_ _)|(with_reducible refine Kd.C_drew ?_))) : P := h
theorem Q96 {P : Prop} (h : P := by (with_reducible repeat (first|apply Kd.V_alloc|apply Kd.V_drewN|apply Kd.V_drew));exact Kd.V_mono HL536_0.out (fun _ hk => ⟨hk.1.2.2.1,⟨hk.1.2.2.2.1,⟨hk.2,⟨hk.1.1,⟨hk.1.2.1,⟨hk.1.2.2.2.2.1,⟨hk.1.2.2.2.2.2.1,⟨hk.1.2.2.2.2.2.2.1,hk.1.2.2.2.2.2.2.2⟩⟩⟩⟩⟩⟩⟩⟩)) : P := h
theorem Q97 {P : Prop} (h : P := by (with_reducible repeat (first|apply Kd.V_alloc|apply Kd.V_drewN|apply Kd.V_drew));exact Kd.V_mono HO541.out (fun _ hk => ⟨hk.1.2.2.1,⟨hk.1.2.2.2.1,⟨hk.2,⟨hk.1.1,⟨hk.1.2.1,⟨hk.1.2.2.2.2.1,⟨hk.1.2.2.2.2.2.1,⟨hk.1.2.2.2.2.2.2.1,hk.1.2.2.2.2.2.2.2⟩⟩⟩⟩⟩⟩⟩⟩)) : P := h
theorem Q98 {P : Prop} (h : P := by simp only [putAll,Act.put,sI,sZ,sS]) : P := h
theorem Q99 {P : Prop} (h : P := by (with_reducible repeat (first|apply Kd.N_alloc|apply Kd.N_drewN|apply Kd.N_drew));exact Kd.N_mono HO_515001.out (fun _ hk => ⟨hk.1.2.1,⟨hk.1.2.2.1,⟨hk.2,⟨hk.1.1,⟨hk.1.2.2.2.1,⟨hk.1.2.2.2.2.1,⟨hk.1.2.2.2.2.2.1,hk.1.2.2.2.2.2.2⟩⟩⟩⟩⟩⟩⟩)) : P := h
theorem Q100 {P : Prop} (h : P := by (with_reducible repeat (first|apply Kd.R_alloc|apply Kd.R_drewN|apply Kd.R_drew));exact Kd.R_mono HO251.out (fun _ hk => hk.2)) : P := h
theorem Q101 {P : Prop} (h : P := by (with_reducible repeat (first|apply Kd.N_alloc|apply Kd.N_drewN|apply Kd.N_drew));exact Kd.N_mono HO_3.out (fun _ hk => hk.1)) : P := h
theorem Q102 {P : Prop} (h : P := by repeat (first|(with_reducible first|exact HB.out|apply bA|apply bN|apply bD|refine below_set ?_ GE184.out)|exact HB.out)) : P := h
theorem Q103 {P : Prop} (h : P := by (with_reducible repeat (first|apply Kd.N_alloc|apply Kd.N_drewN|apply Kd.N_drew));exact Kd.N_mono HO548.out (fun _ hk => ⟨hk.2.1,⟨hk.2.2.1,⟨hk.1,⟨hk.2.2.2.1,⟨hk.2.2.2.2.1,⟨hk.2.2.2.2.2.1,hk.2.2.2.2.2.2⟩⟩⟩⟩⟩⟩)) : P := h
theorem Q104 {P : Prop} (h : P := by (with_reducible repeat (first|apply Kd.N_alloc|apply Kd.N_drewN|apply Kd.N_drew));exact Kd.N_mono HO534.out (fun _ hk => ⟨hk.1.2.1,⟨hk.2,⟨hk.1.1,⟨hk.1.2.2.1,⟨hk.1.2.2.2.1,⟨hk.1.2.2.2.2.1,hk.1.2.2.2.2.2⟩⟩⟩⟩⟩⟩)) : P := h
theorem Q105 {P : Prop} (h : P := by (with_reducible repeat (first|apply Kd.N_alloc|apply Kd.N_drewN|apply Kd.N_drew));exact Kd.N_mono HO523.out (fun _ hk => ⟨hk.1.2.1,⟨hk.2,⟨hk.1.1,⟨hk.1.2.2.1,⟨hk.1.2.2.2.1,⟨hk.1.2.2.2.2.1,hk.1.2.2.2.2.2⟩⟩⟩⟩⟩⟩)) : P := h
theorem Q106 {P : Prop} (h : P := by rw [hg];exact Nat.ne_of_lt (IsS76.lt (show IsS76 w0 _ g s0_0 t202 from Q22))) : P := h
theorem Q107 {P : Prop} (h : P := by rw [hg];exact Nat.ne_of_gt (IsS76.lt (show IsS76 w0 _ g s0_0 t202 from Q22))) : P := h
theorem Q108 {P : Prop} (h : P := by have hq:=hc 0 _ rfl;rwa [Nat.mul_one,Nat.add_zero] at hq) : P := h
theorem Q109 {P : Prop} (h : P := by first|rfl|(simp only [i64_w,i32_w];done)|(simp only [i64_w,i32_w];rfl)|(simp [errW_none,errW_some] <;> rfl)|(simp only [← hji9];first|rfl|(simp [errW_none,errW_some] <;> rfl))|(simp [*,errW_none,errW_some] <;> rfl)) : P := h
theorem Q110 {P : Prop} (h : P := by (with_reducible repeat (first|apply Kd.N_alloc|apply Kd.N_drewN|apply Kd.N_drew));exact Kd.N_mono HO_515001.out (fun _ hk => ⟨hk.1.2.1,⟨hk.2,⟨hk.1.1,⟨hk.1.2.2.1,⟨hk.1.2.2.2.1,hk.1.2.2.2.2⟩⟩⟩⟩⟩)) : P := h
theorem Q111 {P : Prop} (h : P := by simp;omega) : P := h
theorem Q112 {P : Prop} (h : P := by (with_reducible repeat (first|apply Kd.N_alloc|apply Kd.N_drewN|apply Kd.N_drew));exact Kd.N_mono HO_459001.out (fun _ hk => ⟨hk.1,⟨hk.2.1,⟨hk.2.2.1,⟨hk.2.2.2.2.1,hk.2.2.2.2.2⟩⟩⟩⟩)) : P := h
theorem Q113 {P : Prop} (h : P := by (with_reducible repeat (first|apply Kd.N_alloc|apply Kd.N_drewN|apply Kd.N_drew));exact Kd.N_mono HO534.out (fun _ hk => ⟨hk.2.1,⟨hk.1,⟨hk.2.2.1,⟨hk.2.2.2.1,hk.2.2.2.2⟩⟩⟩⟩)) : P := h
theorem Q114 {P : Prop} (h : P := by (with_reducible repeat (first|apply Kd.N_alloc|apply Kd.N_drewN|apply Kd.N_drew));exact Kd.N_mono HO523.out (fun _ hk => ⟨hk.2,⟨hk.1.1,⟨hk.1.2.1,⟨hk.1.2.2.1,hk.1.2.2.2⟩⟩⟩⟩)) : P := h
theorem Q115 {P : Prop} (h : P := by first|omega|exact Nat.le_refl _) : P := h
theorem Q116 {P : Prop} (h : P := by repeat (first|(with_reducible exact HR438_0.out)|(with_reducible refine Kd.C_alloc ?_ _)|(with_reducible refine Kd.C_drewN ?_ _)|(with_reducible refine Kd.C_drew ?_)|exact HR438_0.out)) : P := h
theorem Q117 {P : Prop} (h : P := by rw [Bool.eq_false_iff.2 h];rfl) : P := h
theorem Q118 {P : Prop} (h : P := by rw [e_];rfl) : P := h
theorem Q119 {P : Prop} (h : P := by first|exact q436|exact of_decide_eq_true (Q5)|(have e_:=(Kd.N_reads' HO_4.out).1;omega)) : P := h
theorem Q120 {P : Prop} (h : P := by (with_reducible repeat (first|apply Kd.N_alloc|apply Kd.N_drewN|apply Kd.N_drew));exact Kd.N_mono HO_515001.out (fun _ hk => ⟨hk.2,⟨hk.1.1,⟨hk.1.2.1,hk.1.2.2⟩⟩⟩)) : P := h
theorem Q121 {P : Prop} (h : P := by repeat (first|exact (Kd.C_below HR352_1.out HB.out)|(with_reducible refine Kd.C_alloc ?_ _)|(with_reducible refine Kd.C_drewN ?_ _)|(with_reducible refine Kd.C_drew ?_))) : P := h
theorem Q122 {P : Prop} (h : P := by repeat (first|exact (Kd.C_below HR351.out HB.out)|(with_reducible refine Kd.C_alloc ?_ _)|(with_reducible refine Kd.C_drewN ?_ _)|(with_reducible refine Kd.C_drew ?_))) : P := h
theorem Q123 {P : Prop} (h : P := by repeat (first|exact (Kd.C_below HR0_1.out (Q54))|(with_reducible refine Kd.C_alloc ?_ _)|(with_reducible refine Kd.C_drewN ?_ _)|(with_reducible refine Kd.C_drew ?_))) : P := h
theorem Q124 {P : Prop} (h : P := by repeat (first|exact (Kd.R_reads' HO510.out).2.2|(with_reducible refine Kd.C_alloc ?_ _)|(with_reducible refine Kd.C_drewN ?_ _)|(with_reducible refine Kd.C_drew ?_))) : P := h
theorem Q125 {P : Prop} (h : P := by repeat (first|exact (Kd.R_reads' HO340.out).2.2|(with_reducible refine Kd.C_alloc ?_ _)|(with_reducible refine Kd.C_drewN ?_ _)|(with_reducible refine Kd.C_drew ?_))) : P := h
theorem Q126 {P : Prop} (h : P := by repeat (first|exact (Kd.N_reads' HO513.out).2.2|(with_reducible refine Kd.C_alloc ?_ _)|(with_reducible refine Kd.C_drewN ?_ _)|(with_reducible refine Kd.C_drew ?_))) : P := h
theorem Q127 {P : Prop} (h : P := by repeat (first|exact (Kd.R_reads' HO_9.out).2.2|(with_reducible refine Kd.C_alloc ?_ _)|(with_reducible refine Kd.C_drewN ?_ _)|(with_reducible refine Kd.C_drew ?_))) : P := h
theorem Q128 {P : Prop} (h : P := by repeat (first|exact (Kd.R_reads' HO0.out).2.2|(with_reducible refine Kd.C_alloc ?_ _)|(with_reducible refine Kd.C_drewN ?_ _)|(with_reducible refine Kd.C_drew ?_))) : P := h
theorem Q129 {P : Prop} (h : P := by rw [hg];exact (below_size (Q25))) : P := h
theorem Q130 {P : Prop} (h : P := by rw [hg];exact (below_size (Q15))) : P := h
theorem Q131 {P : Prop} (h : P := by rw [hg];exact (below_size (Q10))) : P := h
theorem Q132 {P : Prop} (h : P := by have h_ : (1 : Int) < ((x459001_1.length : Int) : Int):=of_decide_eq_true (Q5);first|exact h_|(have e_:=(Kd.N_reads' HO_459001.out).1;omega)|simpa using h_) : P := h
theorem Q133 {P : Prop} (h : P := by have h_ : (0 : Int) < ((x459001_1.length : Int) : Int):=of_decide_eq_true (Q5);first|exact h_|(have e_:=(Kd.N_reads' HO_459001.out).1;omega)|simpa using h_) : P := h
theorem Q134 {P : Prop} (h : P := by have h_ : ((ji26) : Int) < ((y546.length : Int) : Int):=of_decide_eq_true (Q5);first|exact h_|(have e_:=(Kd.N_reads' HO548.out).1;omega)|simpa using h_) : P := h
theorem Q135 {P : Prop} (h : P := by have h_ : ((ji26) : Int) < ((y532.length : Int) : Int):=of_decide_eq_true (Q5);first|exact h_|(have e_:=(Kd.N_reads' HO534.out).1;omega)|simpa using h_) : P := h
theorem Q136 {P : Prop} (h : P := by have h_ : ((ji26) : Int) < ((y521.length : Int) : Int):=of_decide_eq_true (Q5);first|exact h_|(have e_:=(Kd.N_reads' HO523.out).1;omega)|simpa using h_) : P := h
theorem Q137 {P : Prop} (h : P := by repeat (first|exact HR354_1.out|(with_reducible refine Kd.C_alloc ?_ _)|(with_reducible refine Kd.C_drewN ?_ _)|(with_reducible refine Kd.C_drew ?_))) : P := h
theorem Q138 {P : Prop} (h : P := by have h_ : (t242 : Int) < ((t218.length : Int) : Int):=of_decide_eq_true (Q5);first|exact h_|(have e_:=(Kd.R_reads' HO220.out).1;omega)|simpa using h_) : P := h
theorem Q139 {P : Prop} (h : P := by have h_ : (t233 : Int) < ((t218.length : Int) : Int):=of_decide_eq_true (Q5);first|exact h_|(have e_:=(Kd.R_reads' HO220.out).1;omega)|simpa using h_) : P := h
theorem Q140 {P : Prop} (h : P := by repeat (first|exact HR359.out|(with_reducible refine Kd.C_alloc ?_ _)|(with_reducible refine Kd.C_drewN ?_ _)|(with_reducible refine Kd.C_drew ?_))) : P := h
theorem Q141 {P : Prop} (h : P := by have:=HK1.out;have:=HK2.out;have:=HJ22.out;omega) : P := h
theorem Q142 {P : Prop} (h : P := by repeat (first|exact (Q76)|(with_reducible refine Kd.C_alloc ?_ _)|(with_reducible refine Kd.C_drewN ?_ _)|(with_reducible refine Kd.C_drew ?_))) : P := h
theorem Q143 {P : Prop} (h : P := by repeat (first|exact (Q59)|(with_reducible refine Kd.C_alloc ?_ _)|(with_reducible refine Kd.C_drewN ?_ _)|(with_reducible refine Kd.C_drew ?_))) : P := h
theorem Q144 {P : Prop} (h : P := by (with_reducible repeat (first|apply Kd.R_alloc|apply Kd.R_drewN|apply Kd.R_drew));exact Kd.R_mono HO332.out (fun _ hk => ⟨hk.1.2,hk.2⟩)) : P := h
theorem Q145 {P : Prop} (h : P := by (with_reducible repeat (first|apply Kd.R_alloc|apply Kd.R_drewN|apply Kd.R_drew));exact Kd.R_mono HO251.out (fun _ hk => ⟨hk.1.2,hk.2⟩)) : P := h
theorem Q146 {P : Prop} (h : P := by (with_reducible repeat (first|apply Kd.R_alloc|apply Kd.R_drewN|apply Kd.R_drew));exact Kd.R_mono HO_3.out (fun _ hk => ⟨hk.1.1,hk.2⟩)) : P := h
theorem Q147 {P : Prop} (h : P := by (with_reducible repeat (first|apply Kd.R_alloc|apply Kd.R_drewN|apply Kd.R_drew));exact Kd.R_mono HO_4.out (fun _ hk => ⟨trivial,hk⟩)) : P := h
theorem Q148 {P : Prop} (h : P := by first|exact Kd.N_base ho1|exact Kd.R_base ho1) : P := h
theorem Q149 {P : Prop} (h : P := by have:=HK1.out;have:=HK2.out;omega) : P := h
theorem Q150 {P : Prop} (h : P := by (with_reducible repeat (first|apply Kd.R_alloc|apply Kd.R_drewN|apply Kd.R_drew));exact Kd.R_mono HO_4.out (fun _ hk => trivial)) : P := h
theorem Q151 {P : Prop} (h : P := by simpa using he) : P := h
theorem Q152 {P : Prop} (h : P := by (with_reducible repeat (first|apply Kd.R_alloc|apply Kd.R_drewN|apply Kd.R_drew));exact Kd.R_mono HO320.out (fun _ hk => hk.2)) : P := h
theorem Q153 {P : Prop} (h : P := by (with_reducible repeat (first|apply Kd.R_alloc|apply Kd.R_drewN|apply Kd.R_drew));exact Kd.R_mono HO255.out (fun _ hk => hk.2)) : P := h
theorem Q154 {P : Prop} (h : P := by (with_reducible repeat (first|apply Kd.R_alloc|apply Kd.R_drewN|apply Kd.R_drew));exact Kd.R_mono HO_3.out (fun _ hk => hk.2)) : P := h
end
section
open Go.Proofs.YtlcfalecbpnhbaaW.PrintLast
variable {P : Program} {ops : Array Oper} {Q : Exit → Act → World → Prop} {md : Region.Mode} {S : World → Prop} {ds : List Nat} {T : Bool × List (List Nat × List Nat)}
/-- One step of a region that draws: what only computes. -/
theorem pS (hT : Aside0 (rtab md ops = T)) (i n : Nat) {oi : Oper} {v : Value} {fuel : Nat} {l : Array Bool} {a a' : Act} {w : World} (h : wpAnyLast P md ops Q S ds fuel (l.setIfInBounds i true) a' w) (hi : ops[i]? = some oi := by exact rfl) (hN : oi.dst = some n := by exact rfl) (hc : anyT T l.toList (l.setIfInBounds i true).toList i = true := by kernel_rfl) (hQ : ∀ c a w, Q (.panic c) (a.put oi.dst v) w → Q (.panic c) a w := by exact fun _ _ _ h => h)
    (hy : Yields P ops oi v a := by refine Or.inl ⟨by rfl, ?_⟩; intro w'; go_simp; with_reducible rfl) (ha : a.put (some n) v = a' := by simp only [Act.put, List.setIfInBounds_toArray, List.set_cons_zero, List.set_cons_succ, i64_w, i32_w]; rfl) : wpAnyLast P md ops Q S ds (fuel + 1) l a w :=
  pure_ (i := i) (N := some n) _ hi hN (any_of hT.out hc) hQ hy ha h
/-- The same, of what isn't wanted. -/
theorem pU (hT : Aside0 (rtab md ops = T)) (i n : Nat) {oi : Oper} {fuel : Nat} {l : Array Bool} {a a' : Act} {w : World} (h : wpAnyLast P md ops Q S ds fuel (l.setIfInBounds i true) a' w) (hi : ops[i]? = some oi := by exact rfl) (hN : oi.dst = some n := by exact rfl) (hc : anyT T l.toList (l.setIfInBounds i true).toList i = true := by kernel_rfl) (hQ : ∀ c a w, Q (.panic c) (a.put oi.dst undef) w → Q (.panic c) a w := by exact fun _ _ _ h => h)
    (hy : Yields P ops oi undef a := by exact Or.inr ⟨by rfl, rfl⟩) (ha : a.put (some n) undef = a' := by simp only [Act.put, List.setIfInBounds_toArray, List.set_cons_zero, List.set_cons_succ, i64_w, i32_w]; rfl) : wpAnyLast P md ops Q S ds (fuel + 1) l a w :=
  pure_ (i := i) (N := some n) _ hi hN (any_of hT.out hc) hQ hy ha h
end
end Go.Proofs.YtlcfalecbpnhbaaW.PrintWords
