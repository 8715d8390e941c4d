/- The printed functions: what each Go function computes, as a Lean function, and that the Go code comes to just that. Conditions: none beyond each contract's own. -/
import Derived.Test.YtknmmkgaijndfaaPx0
import Derived.Test.YtknmmkgaijndfaaPx2
import Derived.Test.YtknmmkgaijndfaaPx5
import Derived.Test.YtknmmkgaijndfaaPx6
namespace Go.Proofs.Ytknmmkgaijndfaa.P
open Go.RowKit Go.Proofs.YtknmmkgaijndfaaW.PrintWords Go.Proofs.YtknmmkgaijndfaaW.PrintLast Go.Proofs.YtknmmkgaijndfaaW.PrintMore
attribute [local go_sem] max2_int min2_int max_two min_two max_three min_three max_four min_four   -- for this text's walks alone
set_option linter.unusedVariables false
set_option linter.unusedSimpArgs false

/-! ### impl_nodeOk: function 62 -/
def impl_nodeOk.f (a0 : Int) : Option (Bool):=(impl_within.f a0 1 4).bind fun t154 => (some t154)
set_option maxHeartbeats 8000000 in
set_option maxRecDepth 100000 in
theorem impl_nodeOk.calls (a0 : Int) (r : Bool) (w : World) (h : impl_nodeOk.f a0 = some r) :
  Calls Try.prog 62 #[.int .i64 a0] w fun e w' => e = .returned (.bool r) ∧ Drawn0 w w':=by
 have H : ((impl_within.f a0 1 4).bind fun t154 => (some t154)) = some r:=h
 clear h
 replace H:=Option.bind_eq_some_iff.mp H
 obtain ⟨t154,A20,H⟩:=H
 replace H : (some t154) = some r:=H
 have A2:=aM A20
 clear A20
 obtain rfl:=Option.some.inj H
 go_enter Try.func62,Try.ntmps62
 go_wp2_with (first|((with_reducible refine gate_callee (f:=65) rfl ?_);refine goesL_ (some 4) rfl rfl Try.func65 (by kernel_rfl) rfl #[.int .i64 a0,.int .i64 1,.int .i64 4] rfl (by (try simp only [List.map_toArray,List.map_cons,List.map_nil]);first|done|rfl|(simp only [List.length_drop,List.length_take];rfl)) ?_;(with_reducible refine (impl_within.calls a0 1 4 t154 _ A2.out).mono ?_);rintro e w' ⟨rfl,⟨nd,rfl⟩⟩;refine ⟨_,rfl,?_⟩))
 go_ret
 exact ⟨by first|rfl|(simp;done)|(simp [*];done),by repeat (first|exact Drawn0.refl _|apply Drawn0.step)⟩

/-! ### impl_VoteOk: function 52 -/
def impl_VoteOk.f (k : Nat) (a0_0 : Int) (l0_1 : List (S58)) : Option (Bool):=(impl_nodeOk.f a0_0).bind fun t156 => (if t156 = true then (if (l0_1.length : Int) > 0 then ((impl_ChainOk.f k l0_1).bind fun t157 => (some t157)) else (some false)) else (some false))
theorem impl_VoteOk.mono : ∀ a0 a1 k,LeO (impl_VoteOk.f k a0 a1) (impl_VoteOk.f (k + 1) a0 a1):=by
 intro a0 a1 k
 unfold impl_VoteOk.f
 repeat' first
   | exact LeO.refl _
   | exact impl_ChainOk.mono _ _
   | exact LeO.none _
   | refine LeO.ite ?_ ?_
   | refine LeO.bind ?_ (fun _ => ?_)
set_option maxHeartbeats 8000000 in
set_option maxRecDepth 100000 in
theorem impl_VoteOk.calls (k : Nat) (a0_0 : Int) (A0_1 : Option Addr) (c0_1 : Nat) (l0_1 : List (S58)) (r : Bool) (w : World) (hr0_1 : Kd.C k58 w A0_1 l0_1.length l0_1) (hc0_1 : l0_1.length ≤ c0_1) (h : impl_VoteOk.f k a0_0 l0_1 = some r) :
  Calls Try.prog 52 #[.agg #[.int .i64 a0_0,.slice A0_1 l0_1.length c0_1]] w fun e w' => e = .returned (.bool r) ∧ Below w.heap.size w w':=by
 have hu48:=Try.underlying48
 have HR0_1:=aM hr0_1
 have HC0_1:=aM hc0_1
 clear hr0_1 hc0_1
 have HB:=aM (Below.refl w.heap.size w)
 have H : ((impl_nodeOk.f a0_0).bind fun t156 => (if t156 = true then (if (l0_1.length : Int) > 0 then ((impl_ChainOk.f k l0_1).bind fun t157 => (some t157)) else (some false)) else (some false))) = some r:=h
 clear h
 replace H:=Option.bind_eq_some_iff.mp H
 obtain ⟨t156,A20,H⟩:=H
 replace H : (if t156 = true then (if (l0_1.length : Int) > 0 then ((impl_ChainOk.f k l0_1).bind fun t157 => (some t157)) else (some false)) else (some false)) = some r:=H
 have A2:=aM A20
 clear A20
 by_cases c3 : t156 = true
 ·subst c3
  have H1 : (if (l0_1.length : Int) > 0 then ((impl_ChainOk.f k l0_1).bind fun t157 => (some t157)) else (some false)) = some r:=by rw [if_pos rfl] at H;exact H
  clear H
  have H:=H1
  clear H1
  by_cases c4 : (l0_1.length : Int) > 0
  ·rw [if_pos c4] at H
   have c4b0 : decide (0 < (l0_1.length : Int)) = true:=decide_eq_true c4
   have c4b1 : decide (0 < l0_1.length) = true:=decide_eq_true (by omega)
   clear c4
   replace H:=Option.bind_eq_some_iff.mp H
   obtain ⟨t157,A50,H⟩:=H
   replace H : (some t157) = some r:=H
   have A5:=aM A50
   clear A50
   obtain rfl:=Option.some.inj H
   go_enter Try.func52,Try.ntmps52
   go_wp2_with (first|((with_reducible refine gate_dst (N:=1) rfl ?_);(try (refine gate_guard (by rfl) ?_;dsimp only));refine box_event ?hg (N:=1) ?hd (cs:=#[.int .i64 a0_0,.slice A0_1 l0_1.length c0_1]) (t:=48) ?hr ?_;(case hd => rfl);(case hg => rfl);(case hr => first|(go_simp;done)|(go_simp;rfl));intro gb155 hg w6 hbox hb;have n0_:=aM (below_step (by repeat (first|(with_reducible first|exact HB.out|apply bA|apply bN|apply bD)|exact HB.out)) hb);have n1_:=aM (hbox);have n2_:=aM ((by rw [hg];exact (below_size (by repeat (first|(with_reducible first|exact HB.out|apply bA|apply bN|apply bD)|exact HB.out))) : w.heap.size ≤ gb155));have n3_:=aM ((by rw [hg];exact (below_size (by repeat (first|(with_reducible first|exact HB.out|apply bA|apply bN|apply bD)|exact HB.out))) : w.heap.size ≤ gb155));clear HB;have HB:=n0_;have BK155:=n1_;have GW155:=n2_;have GE155:=n3_;clear n0_ n1_ n2_ n3_;clear hb hbox hg;have hcz7_0 : w6.cell? ⟨gb155,0,none⟩ = some (.int .i64 a0_0):=(blk_cell BK155.out 0).trans rfl;have hcz7_1 : w6.cell? ⟨gb155,1,none⟩ = some (.slice A0_1 l0_1.length c0_1):=(blk_cell BK155.out 1).trans rfl;have hfz7_0:=blk_frozen BK155.out 0;have hfz7_1:=blk_frozen BK155.out 1)|((with_reducible refine gate_callee (f:=62) rfl ?_);refine goesL_ (some 5) rfl rfl Try.func62 (by kernel_rfl) rfl #[.int .i64 a0_0] rfl (by (try simp only [List.map_toArray,List.map_cons,List.map_nil]);first|done|rfl|(simp only [List.length_drop,List.length_take];rfl)) ?_;(with_reducible refine (impl_nodeOk.calls a0_0 true _ A2.out).mono ?_);rintro e w' ⟨rfl,⟨nd,rfl⟩⟩;refine ⟨_,rfl,?_⟩)|(go_at_call 38;(with_reducible refine (impl_ChainOk.calls k _ _ l0_1 t157 _ ?side1 ?side2 A5.out).mono ?_);(case side1 => repeat (first|exact (Kd.C_below HR0_1.out (by repeat (first|(with_reducible first|exact HB.out|apply bA|apply bN|apply bD|refine below_set ?_ GE155.out)|exact HB.out)))|(with_reducible refine Kd.C_alloc ?_ _)|(with_reducible refine Kd.C_drewN ?_ _)|(with_reducible refine Kd.C_drew ?_)));(case side2 => exact HC0_1.out);rintro e w8 ⟨rfl,hb⟩;have n0_:=aM (blk_below (g:=gb155) (o:=.cells #[.int .i64 a0_0,.slice A0_1 l0_1.length c0_1] 48 (0,0)) (by (with_reducible repeat (first|refine blk_drewN ?_ _|refine blk_drew ?_|refine blk_alloc ?_ _));exact BK155.out) hb);have n1_:=aM (below_step (by repeat (first|(with_reducible first|exact HB.out|apply bA|apply bN|apply bD|refine below_set ?_ GE155.out)|exact HB.out)) hb);clear BK155;clear HB;have BK155:=n0_;have HB:=n1_;clear n0_ n1_;(try clear hb);(try clear hb2);(try clear hk);(try clear hi)))
   go_ret
   exact ⟨by first|rfl|(simp only [i64_w,i32_w];done)|(simp only [i64_w,i32_w];rfl)|(simp [errW_none,errW_some] <;> rfl)|(simp [*,errW_none,errW_some] <;> rfl),by repeat (first|(with_reducible first|exact HB.out|apply bA|apply bN|apply bD|refine below_set ?_ GE155.out)|exact HB.out)⟩
  ·rw [if_neg c4] at H
   have c4b0 : decide (0 < (l0_1.length : Int)) = false:=decide_eq_false c4
   have c4b1 : decide (0 < l0_1.length) = false:=decide_eq_false (by omega)
   clear c4
   obtain rfl:=Option.some.inj H
   go_enter Try.func52,Try.ntmps52
   go_wp2_with (first|((with_reducible refine gate_dst (N:=1) rfl ?_);(try (refine gate_guard (by rfl) ?_;dsimp only));refine box_event ?hg (N:=1) ?hd (cs:=#[.int .i64 a0_0,.slice A0_1 l0_1.length c0_1]) (t:=48) ?hr ?_;(case hd => rfl);(case hg => rfl);(case hr => first|(go_simp;done)|(go_simp;rfl));intro gb155 hg w9 hbox hb;have n0_:=aM (below_step (by repeat (first|(with_reducible first|exact HB.out|apply bA|apply bN|apply bD)|exact HB.out)) hb);have n1_:=aM (hbox);have n2_:=aM ((by rw [hg];exact (below_size (by repeat (first|(with_reducible first|exact HB.out|apply bA|apply bN|apply bD)|exact HB.out))) : w.heap.size ≤ gb155));have n3_:=aM ((by rw [hg];exact (below_size (by repeat (first|(with_reducible first|exact HB.out|apply bA|apply bN|apply bD)|exact HB.out))) : w.heap.size ≤ gb155));clear HB;have HB:=n0_;have BK155:=n1_;have GW155:=n2_;have GE155:=n3_;clear n0_ n1_ n2_ n3_;clear hb hbox hg;have hcz10_0 : w9.cell? ⟨gb155,0,none⟩ = some (.int .i64 a0_0):=(blk_cell BK155.out 0).trans rfl;have hcz10_1 : w9.cell? ⟨gb155,1,none⟩ = some (.slice A0_1 l0_1.length c0_1):=(blk_cell BK155.out 1).trans rfl;have hfz10_0:=blk_frozen BK155.out 0;have hfz10_1:=blk_frozen BK155.out 1)|((with_reducible refine gate_callee (f:=62) rfl ?_);refine goesL_ (some 5) rfl rfl Try.func62 (by kernel_rfl) rfl #[.int .i64 a0_0] rfl (by (try simp only [List.map_toArray,List.map_cons,List.map_nil]);first|done|rfl|(simp only [List.length_drop,List.length_take];rfl)) ?_;(with_reducible refine (impl_nodeOk.calls a0_0 true _ A2.out).mono ?_);rintro e w' ⟨rfl,⟨nd,rfl⟩⟩;refine ⟨_,rfl,?_⟩))
   go_ret
   exact ⟨by first|rfl|(simp only [i64_w,i32_w];done)|(simp only [i64_w,i32_w];rfl)|(simp [errW_none,errW_some] <;> rfl)|(simp [*,errW_none,errW_some] <;> rfl),by repeat (first|(with_reducible first|exact HB.out|apply bA|apply bN|apply bD|refine below_set ?_ GE155.out)|exact HB.out)⟩
 ·replace c3:=Bool.eq_false_iff.mpr c3
  subst c3
  have H1 : (some false) = some r:=by rw [if_neg (show ¬ (false = true) by decide)] at H;exact H
  clear H
  have H:=H1
  clear H1
  obtain rfl:=Option.some.inj H
  go_enter Try.func52,Try.ntmps52
  go_wp2_with (first|((with_reducible refine gate_dst (N:=1) rfl ?_);(try (refine gate_guard (by rfl) ?_;dsimp only));refine box_event ?hg (N:=1) ?hd (cs:=#[.int .i64 a0_0,.slice A0_1 l0_1.length c0_1]) (t:=48) ?hr ?_;(case hd => rfl);(case hg => rfl);(case hr => first|(go_simp;done)|(go_simp;rfl));intro gb155 hg w11 hbox hb;have n0_:=aM (below_step (by repeat (first|(with_reducible first|exact HB.out|apply bA|apply bN|apply bD)|exact HB.out)) hb);have n1_:=aM (hbox);have n2_:=aM ((by rw [hg];exact (below_size (by repeat (first|(with_reducible first|exact HB.out|apply bA|apply bN|apply bD)|exact HB.out))) : w.heap.size ≤ gb155));have n3_:=aM ((by rw [hg];exact (below_size (by repeat (first|(with_reducible first|exact HB.out|apply bA|apply bN|apply bD)|exact HB.out))) : w.heap.size ≤ gb155));clear HB;have HB:=n0_;have BK155:=n1_;have GW155:=n2_;have GE155:=n3_;clear n0_ n1_ n2_ n3_;clear hb hbox hg;have hcz12_0 : w11.cell? ⟨gb155,0,none⟩ = some (.int .i64 a0_0):=(blk_cell BK155.out 0).trans rfl;have hcz12_1 : w11.cell? ⟨gb155,1,none⟩ = some (.slice A0_1 l0_1.length c0_1):=(blk_cell BK155.out 1).trans rfl;have hfz12_0:=blk_frozen BK155.out 0;have hfz12_1:=blk_frozen BK155.out 1)|((with_reducible refine gate_callee (f:=62) rfl ?_);refine goesL_ (some 5) rfl rfl Try.func62 (by kernel_rfl) rfl #[.int .i64 a0_0] rfl (by (try simp only [List.map_toArray,List.map_cons,List.map_nil]);first|done|rfl|(simp only [List.length_drop,List.length_take];rfl)) ?_;(with_reducible refine (impl_nodeOk.calls a0_0 false _ A2.out).mono ?_);rintro e w' ⟨rfl,⟨nd,rfl⟩⟩;refine ⟨_,rfl,?_⟩))
  go_ret
  exact ⟨by first|rfl|(simp only [i64_w,i32_w];done)|(simp only [i64_w,i32_w];rfl)|(simp [errW_none,errW_some] <;> rfl)|(simp [*,errW_none,errW_some] <;> rfl),by repeat (first|(with_reducible first|exact HB.out|apply bA|apply bN|apply bD|refine below_set ?_ GE155.out)|exact HB.out)⟩

-- NOT PRINTED: function 71 (impl_Vote_71)

-- NOT PRINTED: function 63 (impl_Vote_63)

/-! ### impl_votes_has: function 53 -/
def impl_votes_has.l0 : Nat → List (S48) → Int → List (S58) → Int → Option (Bool)
 | 0,_,_,_,_ => none
 | k + 1,l,a,c,x => if x < (l.length : Int) then (if 0 ≤ x then ((impl_Vote_same.f k a c ((rd_T48 l x).f0) ((rd_T48 l x).f1)).bind fun t => (if t = true then (some true) else (impl_votes_has.l0 k l a c (wrap64 (x + 1))))) else (none)) else (some false)
def impl_votes_has.f (k : Nat) (l0 : List (S48)) (a1_0 : Int) (l1_1 : List (S58)) : Option (Bool):=impl_votes_has.l0 k l0 a1_0 l1_1 0
theorem impl_votes_has.mono_l : ∀ k,∀ y0 y1 y2 y3,LeO (impl_votes_has.l0 k y0 y1 y2 y3) (impl_votes_has.l0 (k + 1) y0 y1 y2 y3)
 | 0 => fun _ _ _ _ r h => by simp [impl_votes_has.l0] at h
 | k + 1 => by
  have ih0:=impl_votes_has.mono_l k
  intro y0 y1 y2 y3
  unfold impl_votes_has.l0
  repeat' first
    | exact ih0 _ _ _ _
    | exact impl_Vote_same.mono _ _ _ _ _
    | exact LeO.refl _
    | exact LeO.none _
    | refine LeO.ite ?_ ?_
    | refine LeO.bind ?_ (fun _ => ?_)
theorem impl_votes_has.mono : ∀ a0 a1 a2 k,LeO (impl_votes_has.f k a0 a1 a2) (impl_votes_has.f (k + 1) a0 a1 a2):=fun a0 a1 a2 k => impl_votes_has.mono_l k a0 a1 a2 0
set_option maxHeartbeats 8000000 in
set_option maxRecDepth 100000 in
theorem impl_votes_has.idx (k : Nat) (A0 : Option Addr) (c0 : Nat) (l0 : List (S48)) (a1_0 : Int) (A1_1 : Option Addr) (c1_1 : Nat) (l1_1 : List (S58)) (r : Bool) (w : World) (hr0 : Kd.C k48 w A0 l0.length l0) (hc0 : l0.length ≤ c0) (hr1_1 : Kd.C k58 w A1_1 l1_1.length l1_1) (hc1_1 : l1_1.length ≤ c1_1) (h : impl_votes_has.l0 k l0 a1_0 l1_1 0 = some r) :
  Calls Try.prog 71 #[.slice A0 l0.length c0,.func (.func 64) #[.agg #[.int .i64 a1_0,.slice A1_1 l1_1.length c1_1]] #[]] w fun e w' => ∃ n : Int,e = .returned (.int .i64 n) ∧ decide (0 ≤ n) = r ∧ Below w.heap.size w w':=by
 have HR0:=aM hr0
 have HR1:=aM hr1_1
 have HC1:=aM hc1_1
 have HL0:=aM h
 have HB:=aM (Below.refl w.heap.size w)
 clear hr0 hc0 hr1_1 hc1_1 h
 go_enter Try.func71,Try.ntmps71
 go_wp2
 go_loopg [5,8] k (fun kq _ v8 w' => ∃ x : Int,v8 = .int .i64 x ∧ Aside0 (impl_votes_has.l0 kq l0 a1_0 l1_1 x = some r) ∧ Aside0 (kq ≤ k) ∧ Aside0 (Below w.heap.size w w'))
 case atStart => exact ⟨0,rfl,HL0,⟨Nat.le_refl _⟩,HB⟩
 case round =>
  clear HL0
  obtain ⟨x,rfl,HA,HK,HB⟩:=hrel
  cases gk with
  | zero => exact absurd HA.out (by simp [impl_votes_has.l0])
  | succ k1 =>
   have H:=HA.out
   clear HA
   simp only [impl_votes_has.l0] at H
   by_cases c4 : x < (l0.length : Int)
   ·rw [if_pos c4] at H
    have c4b0 : decide (x < (l0.length : Int)) = true:=decide_eq_true c4
    by_cases p1 : 0 ≤ x
    case neg => exact absurd H (by rw [if_neg p1];simp)
    rw [if_pos p1] at H
    replace H:=Option.bind_eq_some_iff.mp H
    obtain ⟨t,A70,H⟩:=H
    have A7:=aM A70
    obtain ⟨ad,Ax,cx,ex,hx0,hx1,hlx,hix⟩:=at_T48 HR0.out x p1 c4
    cases ex
    replace hx0:=(HB.out.cell (bL w hx0)).trans hx0
    replace hx1:=(HB.out.cell (bL w hx1)).trans hx1
    have HRx:=aM hix
    have HCx:=aM hlx
    clear hix hlx A70
    have p1t:=eq_true p1
    have c4t:=eq_true c4
    clear c4
    by_cases c8 : t = true
    ·subst c8
     obtain rfl:=Option.some.inj ((if_pos (α:=Option Bool) rfl).symm.trans H)
     clear H
     go_wp2_with (go_at_call 64;refine (impl_Vote_same.calls k1 a1_0 _ _ l1_1 ((rd_T48 l0 x).f0) _ _ ((rd_T48 l0 x).f1) true _ (Kd.C_below HR1.out HB.out) HC1.out (Kd.C_below HRx.out HB.out) HCx.out A7.out).mono ?_;rintro e w' ⟨rfl,hb'⟩;have n0_:=aM (below_step HB.out hb');clear HB hb';have HB:=n0_;clear n0_)
     go_ret
     exact ⟨_,rfl,decide_eq_true p1,HB.out⟩
    ·replace c8:=Bool.eq_false_iff.mpr c8
     subst c8
     have H1:=(if_neg (α:=Option Bool) (show ¬ (false = true) by decide)).symm.trans H
     have H':=aM H1
     clear H H1
     go_wp2_with (go_at_call 64;refine (impl_Vote_same.calls k1 a1_0 _ _ l1_1 ((rd_T48 l0 x).f0) _ _ ((rd_T48 l0 x).f1) false _ (Kd.C_below HR1.out HB.out) HC1.out (Kd.C_below HRx.out HB.out) HCx.out A7.out).mono ?_;rintro e w' ⟨rfl,hb'⟩;have n0_:=aM (below_step HB.out hb');clear HB hb';have HB:=n0_;clear n0_)
     go_roundg k1
     case measure => have:=HK.out;omega
     case rel => exact ⟨wrap64 (x + 1),by first|rfl|(simp;done),H',⟨by have:=HK.out;omega⟩,HB⟩
   ·rw [if_neg c4] at H
    have c4b0 : decide (x < (l0.length : Int)) = false:=decide_eq_false c4
    clear c4
    obtain rfl:=Option.some.inj H
    clear H
    go_wp2
    go_ret
    exact ⟨_,rfl,rfl,HB.out⟩
set_option maxHeartbeats 8000000 in
set_option maxRecDepth 100000 in
theorem impl_votes_has.con (k : Nat) (A0 : Option Addr) (c0 : Nat) (l0 : List (S48)) (a1_0 : Int) (A1_1 : Option Addr) (c1_1 : Nat) (l1_1 : List (S58)) (r : Bool) (w : World) (hr0 : Kd.C k48 w A0 l0.length l0) (hc0 : l0.length ≤ c0) (hr1_1 : Kd.C k58 w A1_1 l1_1.length l1_1) (hc1_1 : l1_1.length ≤ c1_1) (h : impl_votes_has.l0 k l0 a1_0 l1_1 0 = some r) :
  Calls Try.prog 63 #[.slice A0 l0.length c0,.func (.func 64) #[.agg #[.int .i64 a1_0,.slice A1_1 l1_1.length c1_1]] #[]] w fun e w' => e = .returned (.bool r) ∧ Below w.heap.size w w':=by
 have HI:=aM (impl_votes_has.idx k A0 c0 l0 a1_0 A1_1 c1_1 l1_1 r w hr0 hc0 hr1_1 hc1_1 h)
 clear hr0 hc0 hr1_1 hc1_1 h
 go_enter Try.func63,Try.ntmps63
 go_wp2_with (go_at_call 71;refine HI.out.mono ?_;rintro e w' ⟨n,rfl,hn,hb⟩;have HN:=aM hn;have HB:=aM hb;clear hn hb)
 go_ret
 exact ⟨by rw [← HN.out];rfl,HB.out⟩
set_option maxHeartbeats 8000000 in
set_option maxRecDepth 100000 in
theorem impl_votes_has.calls (k : Nat) (A0 : Option Addr) (c0 : Nat) (l0 : List (S48)) (a1_0 : Int) (A1_1 : Option Addr) (c1_1 : Nat) (l1_1 : List (S58)) (r : Bool) (w : World) (hr0 : Kd.C k48 w A0 l0.length l0) (hc0 : l0.length ≤ c0) (hr1_1 : Kd.C k58 w A1_1 l1_1.length l1_1) (hc1_1 : l1_1.length ≤ c1_1) (h : impl_votes_has.f k l0 a1_0 l1_1 = some r) :
  Calls Try.prog 53 #[.slice A0 l0.length c0,.agg #[.int .i64 a1_0,.slice A1_1 l1_1.length c1_1]] w fun e w' => e = .returned (.bool r) ∧ Below w.heap.size w w':=by
 have HR0:=aM hr0
 have HC0:=aM hc0
 have HR1:=aM hr1_1
 have HC1:=aM hc1_1
 have HL0:=aM h
 have HB:=aM (Below.refl w.heap.size w)
 clear hr0 hc0 hr1_1 hc1_1 h
 go_enter Try.func53,Try.ntmps53
 go_wp2_with (first|(go_at_call 63;refine (impl_votes_has.con k A0 c0 l0 a1_0 A1_1 c1_1 l1_1 r _ (Kd.C_below HR0.out (by repeat (first|(with_reducible first|exact HB.out|apply bA|apply bN|apply bD)|exact HB.out))) HC0.out (Kd.C_below HR1.out (by repeat (first|(with_reducible first|exact HB.out|apply bA|apply bN|apply bD)|exact HB.out))) HC1.out HL0.out).mono ?_;rintro e w' ⟨rfl,hb⟩;have n0_:=aM (below_step (by repeat (first|(with_reducible first|exact HB.out|apply bA|apply bN|apply bD)|exact HB.out)) hb);clear HB hb;have HB:=n0_;clear n0_))
 go_ret
 exact ⟨rfl,HB.out⟩

/-! ### impl_VotesOk: function 37 -/
def impl_VotesOk.l0 : Nat → List (S48) → List (S48) → Int → Int → Option (Bool)
 | 0,_,_,_,_ => none
 | k + 1,x0,x5,x6,x7 => if x7 < x6 then (if 0 ≤ x7 then (if x7 < (x5.length : Int) then ((impl_VoteOk.f k ((rd_T48 x5 x7).f0) ((rd_T48 x5 x7).f1)).bind fun t160 => (if t160 = true then (if x7 ≤ (x0.length : Int) then ((impl_votes_has.f k (x0.take (x7 : Int).toNat) ((rd_T48 x5 x7).f0) ((rd_T48 x5 x7).f1)).bind fun t165 => (if t165 = true then (some false) else (impl_VotesOk.l0 k x0 x5 x6 (wrap64 (x7 + 1))))) else (none)) else (some false))) else (none)) else (none)) else (some true)
def impl_VotesOk.f (k : Nat) (l0 : List (S48)) : Option (Bool):=impl_VotesOk.l0 k l0 l0 (l0.length : Int) 0
theorem impl_VotesOk.mono_l : ∀ k,(∀ y0 y1 y2 y3,LeO (impl_VotesOk.l0 k y0 y1 y2 y3) (impl_VotesOk.l0 (k + 1) y0 y1 y2 y3))
 | 0 => fun _ _ _ _ r h => by simp [impl_VotesOk.l0] at h
 | k + 1 => by
  have ih0:=impl_VotesOk.mono_l k
  ·intro y0 y1 y2 y3
   unfold impl_VotesOk.l0
   repeat' first
   | exact LeO.refl _
   | exact ih0 _ _ _ _
   | exact impl_VoteOk.mono _ _ _
   | exact impl_votes_has.mono _ _ _ _
   | exact LeO.none _
   | refine LeO.ite ?_ ?_
   | refine LeO.bind ?_ (fun _ => ?_)
theorem impl_VotesOk.mono : ∀ a0 k,LeO (impl_VotesOk.f k a0) (impl_VotesOk.f (k + 1) a0):=by
 intro a0 k
 have ih0:=impl_VotesOk.mono_l k
 unfold impl_VotesOk.f
 repeat' first
   | exact LeO.refl _
   | exact ih0 _ _ _ _
   | exact impl_VoteOk.mono _ _ _
   | exact impl_votes_has.mono _ _ _ _
   | exact LeO.none _
   | refine LeO.ite ?_ ?_
   | refine LeO.bind ?_ (fun _ => ?_)
def impl_VotesOk.T4 : Bool × List (List Nat × List Nat):=(true,[([],[]),([0],[0]),([1],[1]),([2,1],[2]),([3],[3]),([3],[3]),([4,5,3],[3,4,5]),([3],[3]),([6,7,3,3],[3,6,7]),([3,8],[3,8])])
def impl_VotesOk.B4 : List Nat:=[0,1,3,7,15,15,63,15,255,511]
theorem impl_VotesOk.tab4 : rtab .any (opsOf Try.f37 4) = impl_VotesOk.T4:=by kernel_rfl
theorem impl_VotesOk.bits4 : waitsOk impl_VotesOk.T4.2 impl_VotesOk.B4 = true:=by kernel_rfl
set_option maxHeartbeats 8000000 in
set_option maxRecDepth 100000 in
theorem impl_VotesOk.calls (k : Nat) (A0 : Option Addr) (c0 : Nat) (l0 : List (S48)) (r : Bool) (w : World) (hr0 : Kd.C k48 w A0 l0.length l0) (hc0 : l0.length ≤ c0) (h : impl_VotesOk.f k l0 = some r) :
  Calls Try.prog 37 #[.slice A0 l0.length c0] w fun e w' => e = .returned (.bool r) ∧ Below w.heap.size w w':=by
 have hu48:=Try.underlying48
 have HR0:=aM hr0
 have HC0:=aM hc0
 clear hr0 hc0
 have HB:=aM (Below.refl w.heap.size w)
 have H : (impl_VotesOk.l0 k l0 l0 (l0.length : Int) 0) = some r:=h
 clear h
 have H':=aM H
 clear H
 go_enter Try.func37,Try.ntmps37
 go_wp2
 go_loopg [7] k (fun kq v7 w' => ∃ (x7_1 : Int),v7 = .int .i64 x7_1 ∧ Aside0 (impl_VotesOk.l0 kq l0 l0 (l0.length : Int) x7_1 = some r) ∧ Aside0 (kq ≤ k) ∧ Aside0 (Below w.heap.size w w'))
 case atStart => exact ⟨(0),(by first|rfl|(simp;done)|(simp [*];done)),H',⟨Nat.le_refl _⟩,⟨by repeat (first|(with_reducible first|exact HB.out|apply bA|apply bN|apply bD)|exact HB.out)⟩⟩
 case round =>
  clear H'
  obtain ⟨x7_1,rfl,HA,HK1,HB⟩:=hrel
  cases gk with
  | zero => exact absurd HA.out (by simp [impl_VotesOk.l0])
  | succ k1 =>
   have H:=HA.out
   clear HA
   simp only [impl_VotesOk.l0] at H
   by_cases c2 : x7_1 < (l0.length : Int)
   ·rw [if_pos c2] at H
    have c2b0 : decide (x7_1 < (l0.length : Int)) = true:=decide_eq_true c2
    clear c2
    by_cases c3 : 0 ≤ x7_1
    case neg => rw [if_neg c3] at H;exact absurd H (by simp)
    rw [if_pos c3] at H
    have c3b0 : decide (0 ≤ x7_1) = true:=decide_eq_true c3
    clear c3
    by_cases c4 : x7_1 < (l0.length : Int)
    case neg => rw [if_neg c4] at H;exact absurd H (by simp)
    rw [if_pos c4] at H
    have c4b0 : decide (x7_1 < (l0.length : Int)) = true:=decide_eq_true c4
    clear c4
    replace H:=Option.bind_eq_some_iff.mp H
    obtain ⟨t160,A50,H⟩:=H
    replace H : (if t160 = true then (if x7_1 ≤ (l0.length : Int) then ((impl_votes_has.f k1 (l0.take (x7_1 : Int).toNat) ((rd_T48 l0 x7_1).f0) ((rd_T48 l0 x7_1).f1)).bind fun t165 => (if t165 = true then (some false) else (impl_VotesOk.l0 k1 l0 l0 (l0.length : Int) (wrap64 (x7_1 + 1))))) else (none)) else (some false)) = some r:=H
    have A5:=aM A50
    clear A50
    by_cases c6 : t160 = true
    ·subst c6
     have H1 : (if x7_1 ≤ (l0.length : Int) then ((impl_votes_has.f k1 (l0.take (x7_1 : Int).toNat) ((rd_T48 l0 x7_1).f0) ((rd_T48 l0 x7_1).f1)).bind fun t165 => (if t165 = true then (some false) else (impl_VotesOk.l0 k1 l0 l0 (l0.length : Int) (wrap64 (x7_1 + 1))))) else (none)) = some r:=by rw [if_pos rfl] at H;exact H
     clear H
     have H:=H1
     clear H1
     have c7b0:=eq_true (of_decide_eq_true (by first|(with_reducible assumption)|assumption) : 0 ≤ x7_1)
     by_cases c8 : x7_1 ≤ (l0.length : Int)
     case neg => rw [if_neg c8] at H;exact absurd H (by simp)
     rw [if_pos c8] at H
     have c8b0:=eq_true c8
     have c8b1 : decide (x7_1 ≤ (l0.length : Int)) = true:=decide_eq_true c8
     clear c8
     obtain ⟨y161,hy161⟩ : ∃ y_ : List (S48),y_ = (l0.take (x7_1 : Int).toNat):=⟨_,rfl⟩
     replace H : ((impl_votes_has.f k1 y161 ((rd_T48 l0 x7_1).f0) ((rd_T48 l0 x7_1).f1)).bind fun t165 => (if t165 = true then (some false) else (impl_VotesOk.l0 k1 l0 l0 (l0.length : Int) (wrap64 (x7_1 + 1))))) = some r:=by first|(rw [hy161];with_reducible exact H)|(have H2_:=(Option.bind_some _ _).symm.trans H;rw [hy161];with_reducible exact H2_)|(have H2_:=(Option.bind_some _ _).symm.trans H;with_reducible exact H2_)|with_reducible exact H|(rw [hy161];exact H)|exact H
     have Ny161:=aM hy161
     clear hy161
     replace H:=Option.bind_eq_some_iff.mp H
     obtain ⟨t165,A90,H⟩:=H
     replace H : (if t165 = true then (some false) else (impl_VotesOk.l0 k1 l0 l0 (l0.length : Int) (wrap64 (x7_1 + 1)))) = some r:=H
     have A9:=aM A90
     clear A90
     by_cases c10 : t165 = true
     ·subst c10
      have H1 : (some false) = some r:=by rw [if_pos rfl] at H;exact H
      clear H
      have H:=H1
      clear H1
      obtain rfl:=Option.some.inj H
      have p158 : 0 ≤ (x7_1 : Int):=of_decide_eq_true (by first|(with_reducible assumption)|assumption)
      have q158 : x7_1 < (l0.length : Int):=of_decide_eq_true (by first|(with_reducible assumption)|assumption)
      obtain ⟨ad158,A158_1,c158_1,e158,hx158_0,hx158_1,hl158_1,hi158_1⟩:=at_T48 HR0.out x7_1 p158 q158
      cases e158
      replace hx158_0:=(HB.out.cell (bL w hx158_0)).trans hx158_0
      replace hx158_1:=(HB.out.cell (bL w hx158_1)).trans hx158_1
      have HR158_1:=aM hi158_1
      have HC158_1:=aM hl158_1
      clear hi158_1 hl158_1
      replace p158:=eq_true p158
      replace q158:=eq_true q158
      try go_wp2_with (first|((with_reducible refine gate_dst (N:=4) rfl ?_);refine box_event ?hg (N:=4) ?hd (cs:=#[.int .i64 0,.slice none 0 0]) (t:=48) ?hr ?_;(case hd => rfl);(case hg => rfl);(case hr => first|(go_simp;done)|(go_simp;rfl));intro gb159 hg w11 hbox hb;have n0_:=aM (below_step (by repeat (first|(with_reducible first|exact HB.out|apply bA|apply bN|apply bD)|exact HB.out)) hb);have n1_:=aM (hbox);have n2_:=aM ((by rw [hg];exact (below_size (by repeat (first|(with_reducible first|exact HB.out|apply bA|apply bN|apply bD)|exact HB.out))) : w.heap.size ≤ gb159));have n3_:=aM ((by rw [hg];exact (below_size (by repeat (first|(with_reducible first|exact HB.out|apply bA|apply bN|apply bD)|exact HB.out))) : w.heap.size ≤ gb159));clear HB;have HB:=n0_;have BK159:=n1_;have GW159:=n2_;have GE159:=n3_;clear n0_ n1_ n2_ n3_;clear hb hbox hg;have hcz12_0 : w11.cell? ⟨gb159,0,none⟩ = some (.int .i64 0):=(blk_cell BK159.out 0).trans rfl;have hcz12_1 : w11.cell? ⟨gb159,1,none⟩ = some (.slice none 0 0):=(blk_cell BK159.out 1).trans rfl;have hfz12_0:=blk_frozen BK159.out 0;have hfz12_1:=blk_frozen BK159.out 1))
      have n0_ : Aside0 (((w11.setCell ⟨gb159,0,none⟩ (.int .i64 ((rd_T48 l0 x7_1).f0))).setCell ⟨gb159,1,none⟩ (.slice A158_1 ((rd_T48 l0 x7_1).f1).length c158_1)).heap[gb159]? = some (.cells #[.int .i64 ((rd_T48 l0 x7_1).f0),.slice A158_1 ((rd_T48 l0 x7_1).f1).length c158_1] 48 (0,0))):=⟨by (with_reducible repeat (first|refine blk_drewN ?_ _|refine blk_drew ?_|refine blk_alloc ?_ _));refine blk_put (cs:=#[.int .i64 ((rd_T48 l0 x7_1).f0),.slice none 0 0]) ?_ 1 _ rfl;(with_reducible repeat (first|refine blk_drewN ?_ _|refine blk_drew ?_|refine blk_alloc ?_ _));refine blk_put (cs:=#[.int .i64 0,.slice none 0 0]) ?_ 0 _ rfl;(with_reducible repeat (first|refine blk_drewN ?_ _|refine blk_drew ?_|refine blk_alloc ?_ _));exact BK159.out⟩
      have n1_ : Aside0 (Below w.heap.size w ((w11.setCell ⟨gb159,0,none⟩ (.int .i64 ((rd_T48 l0 x7_1).f0))).setCell ⟨gb159,1,none⟩ (.slice A158_1 ((rd_T48 l0 x7_1).f1).length c158_1))):=⟨by repeat (first|(with_reducible first|exact HB.out|apply bA|apply bN|apply bD|refine below_set ?_ GE159.out)|exact HB.out)⟩
      (try clear BK159)
      (try clear HB)
      generalize ((w11.setCell ⟨gb159,0,none⟩ (.int .i64 ((rd_T48 l0 x7_1).f0))).setCell ⟨gb159,1,none⟩ (.slice A158_1 ((rd_T48 l0 x7_1).f1).length c158_1)) = w13 at n0_ n1_ ⊢
      have BK159:=n0_
      have HB:=n1_
      clear n0_ n1_
      have n0_:=aM (blk_drew BK159.out)
      have n1_:=aM (bD HB.out)
      clear BK159
      clear HB
      have BK159:=n0_
      have HB:=n1_
      clear n0_ n1_
      refine start_ (n:=10) (S:=fun w' => w'.cell? ⟨gb159,0,none⟩ = some (.int .i64 ((rd_T48 l0 x7_1).f0)) ∧ w'.cell? ⟨gb159,1,none⟩ = some (.slice A158_1 ((rd_T48 l0 x7_1).f1).length c158_1)) (ds:=[]) #[bF,bF,bF,bF,bF,bF,bF,bF,bF,bF] (by kernel_rfl) rfl rfl ⟨(blk_cell BK159.out 0).trans rfl,(blk_cell BK159.out 1).trans rfl⟩ (fun hHeld => ?_);refine with_tabW impl_VotesOk.tab4 impl_VotesOk.bits4 (fun HT_ HW_ => ?_)
      generalize w13.drew = w14 at BK159 HB hHeld ⊢
      refine take_ (i:=0) (N:=some 12) (v:=?_) (a':=?_) #[bT,bF,bF,bF,bF,bF,bF,bF,bF,bF] rfl rfl (take_ofW HT_.out HW_.out (by kernel_rfl)) (fun _ _ _ h => h) (Or.inl ⟨by rfl,?_⟩) hHeld ?_ ?_
      rotate_left
      ·rintro w' ⟨s0,s1⟩
       (try simp only [Int.toNat_natCast] at s0 s1)
       go_simp
       with_reducible rfl
      rotate_left
      ·simp only [Act.put,sI,sZ,sS,i64_w,i32_w]
       rfl
      refine one_ (i:=1) (N:=some 13) #[bT,bT,bF,bF,bF,bF,bF,bF,bF,bF] rfl rfl (one_of HT_.out (by kernel_rfl)) (by decide) (fun K hK => ?_)
      refine goes_ Try.func52 (by kernel_rfl) rfl #[.agg #[.int .i64 ((rd_T48 l0 x7_1).f0),.slice A158_1 ((rd_T48 l0 x7_1).f1).length c158_1]] (by rfl) rfl rfl (by (try simp only [List.map_toArray,List.map_cons,List.map_nil]);first|done|rfl|(simp only [List.length_drop,List.length_take];rfl)) ?_
      with_reducible refine (impl_VoteOk.calls k1 ((rd_T48 l0 x7_1).f0) _ _ ((rd_T48 l0 x7_1).f1) true _ ?side1 ?side2 A5.out).mono ?_
      (case side1 => repeat (first|exact (Kd.C_below HR158_1.out HB.out)|(with_reducible refine Kd.C_alloc ?_ _)|(with_reducible refine Kd.C_drewN ?_ _)|(with_reducible refine Kd.C_drew ?_)))
      (case side2 => exact HC158_1.out)
      rintro e w15 ⟨rfl,hb⟩
      refine ⟨_,rfl,?_⟩
      have n0_:=aM (blk_below (g:=gb159) (o:=.cells #[.int .i64 ((rd_T48 l0 x7_1).f0),.slice A158_1 ((rd_T48 l0 x7_1).f1).length c158_1] 48 (0,0)) (by (with_reducible repeat (first|refine blk_drewN ?_ _|refine blk_drew ?_|refine blk_alloc ?_ _));exact BK159.out) hb)
      have n1_:=aM (below_step (by repeat (first|(with_reducible first|exact HB.out|apply bA|apply bN|apply bD|refine below_set ?_ GE159.out)|exact HB.out)) hb)
      clear BK159
      clear HB
      have BK159:=n0_
      have HB:=n1_
      clear n0_ n1_
      (try clear hb)
      (try clear hb2)
      (try clear hk)
      (try clear hi)
      have q16 : (x7_1 : Int) ≤ ((l0.length : Int) : Int):=of_decide_eq_true (by first|(with_reducible assumption)|assumption)
      obtain ⟨i016,hi016,_,hsz16,_⟩:=info_parts info48
      have hroom16 : l0.length ≤ c0:=HC0.out
      have hC16 : Kd.C k48 _ (some ad158) l0.length l0:=HR0.out
      have hcut16:=cut_to (P:=Try.prog) 27 48 .i64 Try.underlying27 hi016 (some ad158) l0.length c0 x7_1 (of_decide_eq_true (by first|(with_reducible assumption)|assumption)) q16 hroom16
      have hr16:=Kd.C_take (m:=(x7_1 : Int).toNat) hC16 (by omega)
      have hy16 : y161.length = (x7_1 : Int).toNat:=(by rw [Ny161.out,List.length_take];omega)
      rw [← Ny161.out] at hr16
      rw [← hy16] at hcut16
      have HR164:=aM hr16
      have HC164:=aM (show y161.length ≤ c0 from by omega)
      clear hr16 hC16 hroom16 hi016 hsz16
      have KY16:=aM hy16
      clear hy16
      replace q16:=eq_true q16
      refine hK.out _ _ ⟨(blk_cell BK159.out 0).trans rfl,(blk_cell BK159.out 1).trans rfl⟩ (fun hHeld => ?_)
      clear hK K
      refine norm_ (a':=?_) ?_ ?_
      rotate_left
      ·show Act.put _ (some 13) _ = _
       simp only [Act.put,sI,sZ,sS,i64_w,i32_w]
       rfl
      refine pure_ (i:=2) (N:=some 14) (v:=?_) (a':=?_) #[bT,bT,bT,bF,bF,bF,bF,bF,bF,bF] rfl rfl (any_of HT_.out (by kernel_rfl)) (fun _ _ _ h => h) (Or.inl ⟨by rfl,?_⟩) ?_ ?_
      rotate_left;(· intro w';go_simp;with_reducible rfl);rotate_left;(· simp only [Act.put,sI,sZ,sS,i64_w,i32_w];rfl)
      refine pure_ (i:=3) (N:=some 15) (v:=?_) (a':=?_) #[bT,bT,bT,bT,bF,bF,bF,bF,bF,bF] rfl rfl (any_of HT_.out (by kernel_rfl)) (fun _ _ _ h => h) (Or.inl ⟨by rfl,?_⟩) ?_ ?_
      rotate_left;(· intro w';go_simp;with_reducible rfl);rotate_left;(· simp only [Act.put,sI,sZ,sS,i64_w,i32_w];rfl)
      refine pure_ (i:=4) (N:=some 16) (v:=?_) (a':=?_) #[bT,bT,bT,bT,bT,bF,bF,bF,bF,bF] rfl rfl (any_of HT_.out (by kernel_rfl)) (fun _ _ _ h => h) (Or.inl ⟨by rfl,?_⟩) ?_ ?_
      rotate_left;(· intro w';go_simp;with_reducible rfl);rotate_left;(· simp only [Act.put,sI,sZ,sS,i64_w,i32_w];rfl)
      refine pure_ (i:=5) (N:=some 17) (v:=?_) (a':=?_) #[bT,bT,bT,bT,bT,bT,bF,bF,bF,bF] rfl rfl (any_of HT_.out (by kernel_rfl)) (fun _ _ _ h => h) (Or.inl ⟨by rfl,?_⟩) ?_ ?_
      rotate_left;(· intro w';go_simp;with_reducible rfl);rotate_left;(· simp only [Act.put,sI,sZ,sS,i64_w,i32_w];rfl)
      refine pure_ (i:=6) (N:=some 18) (v:=?_) (a':=?_) #[bT,bT,bT,bT,bT,bT,bT,bF,bF,bF] rfl rfl (any_of HT_.out (by kernel_rfl)) (fun _ _ _ h => h) (Or.inl ⟨by rfl,?_⟩) ?_ ?_
      rotate_left;(· intro w';go_simp;with_reducible rfl);rotate_left;(· simp only [Act.put,sI,sZ,sS,i64_w,i32_w];rfl)
      refine take_ (i:=7) (N:=some 19) (v:=?_) (a':=?_) #[bT,bT,bT,bT,bT,bT,bT,bT,bF,bF] rfl rfl (take_ofW HT_.out HW_.out (by kernel_rfl)) (fun _ _ _ h => h) (Or.inl ⟨by rfl,?_⟩) hHeld ?_ ?_
      rotate_left
      ·rintro w' ⟨s0,s1⟩
       (try simp only [Int.toNat_natCast] at s0 s1)
       go_simp
       with_reducible rfl
      rotate_left
      ·simp only [Act.put,sI,sZ,sS,i64_w,i32_w]
       rfl
      refine one_ (i:=8) (N:=some 20) #[bT,bT,bT,bT,bT,bT,bT,bT,bT,bF] rfl rfl (one_of HT_.out (by kernel_rfl)) (by decide) (fun K hK => ?_)
      refine goes_ Try.func53 (by kernel_rfl) rfl #[.slice (some ad158) y161.length c0,.agg #[.int .i64 ((rd_T48 l0 x7_1).f0),.slice A158_1 ((rd_T48 l0 x7_1).f1).length c158_1]] (by rfl) rfl rfl (by (try simp only [List.map_toArray,List.map_cons,List.map_nil]);first|done|rfl|(simp only [List.length_drop,List.length_take];rfl)) ?_
      with_reducible refine (impl_votes_has.calls k1 _ _ y161 ((rd_T48 l0 x7_1).f0) _ _ ((rd_T48 l0 x7_1).f1) true _ ?side1 ?side2 ?side3 ?side4 A9.out).mono ?_
      (case side1 => repeat (first|exact (Kd.C_below HR164.out HB.out)|(with_reducible refine Kd.C_alloc ?_ _)|(with_reducible refine Kd.C_drewN ?_ _)|(with_reducible refine Kd.C_drew ?_)))
      (case side2 => exact HC164.out)
      (case side3 => repeat (first|exact (Kd.C_below HR158_1.out HB.out)|(with_reducible refine Kd.C_alloc ?_ _)|(with_reducible refine Kd.C_drewN ?_ _)|(with_reducible refine Kd.C_drew ?_)))
      (case side4 => exact HC158_1.out)
      rintro e w17 ⟨rfl,hb⟩
      refine ⟨_,rfl,?_⟩
      have n0_:=aM (blk_below (g:=gb159) (o:=.cells #[.int .i64 ((rd_T48 l0 x7_1).f0),.slice A158_1 ((rd_T48 l0 x7_1).f1).length c158_1] 48 (0,0)) (by (with_reducible repeat (first|refine blk_drewN ?_ _|refine blk_drew ?_|refine blk_alloc ?_ _));exact BK159.out) hb)
      have n1_:=aM (below_step (by repeat (first|(with_reducible first|exact HB.out|apply bA|apply bN|apply bD|refine below_set ?_ GE159.out)|exact HB.out)) hb)
      clear BK159
      clear HB
      have BK159:=n0_
      have HB:=n1_
      clear n0_ n1_
      (try clear hb)
      (try clear hb2)
      (try clear hk)
      (try clear hi)
      refine hK.out _ _ ⟨(blk_cell BK159.out 0).trans rfl,(blk_cell BK159.out 1).trans rfl⟩ (fun hHeld => ?_)
      clear hK K
      refine norm_ (a':=?_) ?_ ?_
      rotate_left
      ·show Act.put _ (some 20) _ = _
       simp only [Act.put,sI,sZ,sS,i64_w,i32_w]
       rfl
      refine pure_ (i:=9) (N:=some 21) (v:=?_) (a':=?_) #[bT,bT,bT,bT,bT,bT,bT,bT,bT,bT] rfl rfl (any_of HT_.out (by kernel_rfl)) (fun _ _ _ h => h) (Or.inl ⟨by rfl,?_⟩) ?_ ?_
      rotate_left;(· intro w';go_simp;with_reducible rfl);rotate_left;(· simp only [Act.put,sI,sZ,sS,i64_w,i32_w];rfl)
      refine done_ (done_of HT_.out (by kernel_rfl)) ?_
      try go_wp2
      go_ret
      exact ⟨by first|rfl|(simp only [i64_w,i32_w];done)|(simp only [i64_w,i32_w];rfl)|(simp [errW_none,errW_some] <;> rfl)|(simp [*,errW_none,errW_some] <;> rfl),by repeat (first|(with_reducible first|exact HB.out|apply bA|apply bN|apply bD|refine below_set ?_ GE159.out)|exact HB.out)⟩
     ·replace c10:=Bool.eq_false_iff.mpr c10
      subst c10
      have H1 : (impl_VotesOk.l0 k1 l0 l0 (l0.length : Int) (wrap64 (x7_1 + 1))) = some r:=by rw [if_neg (show ¬ (false = true) by decide)] at H;exact H
      clear H
      have H:=H1
      clear H1
      have H':=aM H
      clear H
      have p158 : 0 ≤ (x7_1 : Int):=of_decide_eq_true (by first|(with_reducible assumption)|assumption)
      have q158 : x7_1 < (l0.length : Int):=of_decide_eq_true (by first|(with_reducible assumption)|assumption)
      obtain ⟨ad158,A158_1,c158_1,e158,hx158_0,hx158_1,hl158_1,hi158_1⟩:=at_T48 HR0.out x7_1 p158 q158
      cases e158
      replace hx158_0:=(HB.out.cell (bL w hx158_0)).trans hx158_0
      replace hx158_1:=(HB.out.cell (bL w hx158_1)).trans hx158_1
      have HR158_1:=aM hi158_1
      have HC158_1:=aM hl158_1
      clear hi158_1 hl158_1
      replace p158:=eq_true p158
      replace q158:=eq_true q158
      try go_wp2_with (first|((with_reducible refine gate_dst (N:=4) rfl ?_);refine box_event ?hg (N:=4) ?hd (cs:=#[.int .i64 0,.slice none 0 0]) (t:=48) ?hr ?_;(case hd => rfl);(case hg => rfl);(case hr => first|(go_simp;done)|(go_simp;rfl));intro gb159 hg w18 hbox hb;have n0_:=aM (below_step (by repeat (first|(with_reducible first|exact HB.out|apply bA|apply bN|apply bD)|exact HB.out)) hb);have n1_:=aM (hbox);have n2_:=aM ((by rw [hg];exact (below_size (by repeat (first|(with_reducible first|exact HB.out|apply bA|apply bN|apply bD)|exact HB.out))) : w.heap.size ≤ gb159));have n3_:=aM ((by rw [hg];exact (below_size (by repeat (first|(with_reducible first|exact HB.out|apply bA|apply bN|apply bD)|exact HB.out))) : w.heap.size ≤ gb159));clear HB;have HB:=n0_;have BK159:=n1_;have GW159:=n2_;have GE159:=n3_;clear n0_ n1_ n2_ n3_;clear hb hbox hg;have hcz19_0 : w18.cell? ⟨gb159,0,none⟩ = some (.int .i64 0):=(blk_cell BK159.out 0).trans rfl;have hcz19_1 : w18.cell? ⟨gb159,1,none⟩ = some (.slice none 0 0):=(blk_cell BK159.out 1).trans rfl;have hfz19_0:=blk_frozen BK159.out 0;have hfz19_1:=blk_frozen BK159.out 1))
      have n0_ : Aside0 (((w18.setCell ⟨gb159,0,none⟩ (.int .i64 ((rd_T48 l0 x7_1).f0))).setCell ⟨gb159,1,none⟩ (.slice A158_1 ((rd_T48 l0 x7_1).f1).length c158_1)).heap[gb159]? = some (.cells #[.int .i64 ((rd_T48 l0 x7_1).f0),.slice A158_1 ((rd_T48 l0 x7_1).f1).length c158_1] 48 (0,0))):=⟨by (with_reducible repeat (first|refine blk_drewN ?_ _|refine blk_drew ?_|refine blk_alloc ?_ _));refine blk_put (cs:=#[.int .i64 ((rd_T48 l0 x7_1).f0),.slice none 0 0]) ?_ 1 _ rfl;(with_reducible repeat (first|refine blk_drewN ?_ _|refine blk_drew ?_|refine blk_alloc ?_ _));refine blk_put (cs:=#[.int .i64 0,.slice none 0 0]) ?_ 0 _ rfl;(with_reducible repeat (first|refine blk_drewN ?_ _|refine blk_drew ?_|refine blk_alloc ?_ _));exact BK159.out⟩
      have n1_ : Aside0 (Below w.heap.size w ((w18.setCell ⟨gb159,0,none⟩ (.int .i64 ((rd_T48 l0 x7_1).f0))).setCell ⟨gb159,1,none⟩ (.slice A158_1 ((rd_T48 l0 x7_1).f1).length c158_1))):=⟨by repeat (first|(with_reducible first|exact HB.out|apply bA|apply bN|apply bD|refine below_set ?_ GE159.out)|exact HB.out)⟩
      (try clear BK159)
      (try clear HB)
      generalize ((w18.setCell ⟨gb159,0,none⟩ (.int .i64 ((rd_T48 l0 x7_1).f0))).setCell ⟨gb159,1,none⟩ (.slice A158_1 ((rd_T48 l0 x7_1).f1).length c158_1)) = w20 at n0_ n1_ ⊢
      have BK159:=n0_
      have HB:=n1_
      clear n0_ n1_
      have n0_:=aM (blk_drew BK159.out)
      have n1_:=aM (bD HB.out)
      clear BK159
      clear HB
      have BK159:=n0_
      have HB:=n1_
      clear n0_ n1_
      refine start_ (n:=10) (S:=fun w' => w'.cell? ⟨gb159,0,none⟩ = some (.int .i64 ((rd_T48 l0 x7_1).f0)) ∧ w'.cell? ⟨gb159,1,none⟩ = some (.slice A158_1 ((rd_T48 l0 x7_1).f1).length c158_1)) (ds:=[]) #[bF,bF,bF,bF,bF,bF,bF,bF,bF,bF] (by kernel_rfl) rfl rfl ⟨(blk_cell BK159.out 0).trans rfl,(blk_cell BK159.out 1).trans rfl⟩ (fun hHeld => ?_);refine with_tabW impl_VotesOk.tab4 impl_VotesOk.bits4 (fun HT_ HW_ => ?_)
      generalize w20.drew = w21 at BK159 HB hHeld ⊢
      refine take_ (i:=0) (N:=some 12) (v:=?_) (a':=?_) #[bT,bF,bF,bF,bF,bF,bF,bF,bF,bF] rfl rfl (take_ofW HT_.out HW_.out (by kernel_rfl)) (fun _ _ _ h => h) (Or.inl ⟨by rfl,?_⟩) hHeld ?_ ?_
      rotate_left
      ·rintro w' ⟨s0,s1⟩
       (try simp only [Int.toNat_natCast] at s0 s1)
       go_simp
       with_reducible rfl
      rotate_left
      ·simp only [Act.put,sI,sZ,sS,i64_w,i32_w]
       rfl
      refine one_ (i:=1) (N:=some 13) #[bT,bT,bF,bF,bF,bF,bF,bF,bF,bF] rfl rfl (one_of HT_.out (by kernel_rfl)) (by decide) (fun K hK => ?_)
      refine goes_ Try.func52 (by kernel_rfl) rfl #[.agg #[.int .i64 ((rd_T48 l0 x7_1).f0),.slice A158_1 ((rd_T48 l0 x7_1).f1).length c158_1]] (by rfl) rfl rfl (by (try simp only [List.map_toArray,List.map_cons,List.map_nil]);first|done|rfl|(simp only [List.length_drop,List.length_take];rfl)) ?_
      with_reducible refine (impl_VoteOk.calls k1 ((rd_T48 l0 x7_1).f0) _ _ ((rd_T48 l0 x7_1).f1) true _ ?side1 ?side2 A5.out).mono ?_
      (case side1 => repeat (first|exact (Kd.C_below HR158_1.out HB.out)|(with_reducible refine Kd.C_alloc ?_ _)|(with_reducible refine Kd.C_drewN ?_ _)|(with_reducible refine Kd.C_drew ?_)))
      (case side2 => exact HC158_1.out)
      rintro e w22 ⟨rfl,hb⟩
      refine ⟨_,rfl,?_⟩
      have n0_:=aM (blk_below (g:=gb159) (o:=.cells #[.int .i64 ((rd_T48 l0 x7_1).f0),.slice A158_1 ((rd_T48 l0 x7_1).f1).length c158_1] 48 (0,0)) (by (with_reducible repeat (first|refine blk_drewN ?_ _|refine blk_drew ?_|refine blk_alloc ?_ _));exact BK159.out) hb)
      have n1_:=aM (below_step (by repeat (first|(with_reducible first|exact HB.out|apply bA|apply bN|apply bD|refine below_set ?_ GE159.out)|exact HB.out)) hb)
      clear BK159
      clear HB
      have BK159:=n0_
      have HB:=n1_
      clear n0_ n1_
      (try clear hb)
      (try clear hb2)
      (try clear hk)
      (try clear hi)
      have q23 : (x7_1 : Int) ≤ ((l0.length : Int) : Int):=of_decide_eq_true (by first|(with_reducible assumption)|assumption)
      obtain ⟨i023,hi023,_,hsz23,_⟩:=info_parts info48
      have hroom23 : l0.length ≤ c0:=HC0.out
      have hC23 : Kd.C k48 _ (some ad158) l0.length l0:=HR0.out
      have hcut23:=cut_to (P:=Try.prog) 27 48 .i64 Try.underlying27 hi023 (some ad158) l0.length c0 x7_1 (of_decide_eq_true (by first|(with_reducible assumption)|assumption)) q23 hroom23
      have hr23:=Kd.C_take (m:=(x7_1 : Int).toNat) hC23 (by omega)
      have hy23 : y161.length = (x7_1 : Int).toNat:=(by rw [Ny161.out,List.length_take];omega)
      rw [← Ny161.out] at hr23
      rw [← hy23] at hcut23
      have HR164:=aM hr23
      have HC164:=aM (show y161.length ≤ c0 from by omega)
      clear hr23 hC23 hroom23 hi023 hsz23
      have KY23:=aM hy23
      clear hy23
      replace q23:=eq_true q23
      refine hK.out _ _ ⟨(blk_cell BK159.out 0).trans rfl,(blk_cell BK159.out 1).trans rfl⟩ (fun hHeld => ?_)
      clear hK K
      refine norm_ (a':=?_) ?_ ?_
      rotate_left
      ·show Act.put _ (some 13) _ = _
       simp only [Act.put,sI,sZ,sS,i64_w,i32_w]
       rfl
      refine pure_ (i:=2) (N:=some 14) (v:=?_) (a':=?_) #[bT,bT,bT,bF,bF,bF,bF,bF,bF,bF] rfl rfl (any_of HT_.out (by kernel_rfl)) (fun _ _ _ h => h) (Or.inl ⟨by rfl,?_⟩) ?_ ?_
      rotate_left;(· intro w';go_simp;with_reducible rfl);rotate_left;(· simp only [Act.put,sI,sZ,sS,i64_w,i32_w];rfl)
      refine pure_ (i:=3) (N:=some 15) (v:=?_) (a':=?_) #[bT,bT,bT,bT,bF,bF,bF,bF,bF,bF] rfl rfl (any_of HT_.out (by kernel_rfl)) (fun _ _ _ h => h) (Or.inl ⟨by rfl,?_⟩) ?_ ?_
      rotate_left;(· intro w';go_simp;with_reducible rfl);rotate_left;(· simp only [Act.put,sI,sZ,sS,i64_w,i32_w];rfl)
      refine pure_ (i:=4) (N:=some 16) (v:=?_) (a':=?_) #[bT,bT,bT,bT,bT,bF,bF,bF,bF,bF] rfl rfl (any_of HT_.out (by kernel_rfl)) (fun _ _ _ h => h) (Or.inl ⟨by rfl,?_⟩) ?_ ?_
      rotate_left;(· intro w';go_simp;with_reducible rfl);rotate_left;(· simp only [Act.put,sI,sZ,sS,i64_w,i32_w];rfl)
      refine pure_ (i:=5) (N:=some 17) (v:=?_) (a':=?_) #[bT,bT,bT,bT,bT,bT,bF,bF,bF,bF] rfl rfl (any_of HT_.out (by kernel_rfl)) (fun _ _ _ h => h) (Or.inl ⟨by rfl,?_⟩) ?_ ?_
      rotate_left;(· intro w';go_simp;with_reducible rfl);rotate_left;(· simp only [Act.put,sI,sZ,sS,i64_w,i32_w];rfl)
      refine pure_ (i:=6) (N:=some 18) (v:=?_) (a':=?_) #[bT,bT,bT,bT,bT,bT,bT,bF,bF,bF] rfl rfl (any_of HT_.out (by kernel_rfl)) (fun _ _ _ h => h) (Or.inl ⟨by rfl,?_⟩) ?_ ?_
      rotate_left;(· intro w';go_simp;with_reducible rfl);rotate_left;(· simp only [Act.put,sI,sZ,sS,i64_w,i32_w];rfl)
      refine take_ (i:=7) (N:=some 19) (v:=?_) (a':=?_) #[bT,bT,bT,bT,bT,bT,bT,bT,bF,bF] rfl rfl (take_ofW HT_.out HW_.out (by kernel_rfl)) (fun _ _ _ h => h) (Or.inl ⟨by rfl,?_⟩) hHeld ?_ ?_
      rotate_left
      ·rintro w' ⟨s0,s1⟩
       (try simp only [Int.toNat_natCast] at s0 s1)
       go_simp
       with_reducible rfl
      rotate_left
      ·simp only [Act.put,sI,sZ,sS,i64_w,i32_w]
       rfl
      refine one_ (i:=8) (N:=some 20) #[bT,bT,bT,bT,bT,bT,bT,bT,bT,bF] rfl rfl (one_of HT_.out (by kernel_rfl)) (by decide) (fun K hK => ?_)
      refine goes_ Try.func53 (by kernel_rfl) rfl #[.slice (some ad158) y161.length c0,.agg #[.int .i64 ((rd_T48 l0 x7_1).f0),.slice A158_1 ((rd_T48 l0 x7_1).f1).length c158_1]] (by rfl) rfl rfl (by (try simp only [List.map_toArray,List.map_cons,List.map_nil]);first|done|rfl|(simp only [List.length_drop,List.length_take];rfl)) ?_
      with_reducible refine (impl_votes_has.calls k1 _ _ y161 ((rd_T48 l0 x7_1).f0) _ _ ((rd_T48 l0 x7_1).f1) false _ ?side1 ?side2 ?side3 ?side4 A9.out).mono ?_
      (case side1 => repeat (first|exact (Kd.C_below HR164.out HB.out)|(with_reducible refine Kd.C_alloc ?_ _)|(with_reducible refine Kd.C_drewN ?_ _)|(with_reducible refine Kd.C_drew ?_)))
      (case side2 => exact HC164.out)
      (case side3 => repeat (first|exact (Kd.C_below HR158_1.out HB.out)|(with_reducible refine Kd.C_alloc ?_ _)|(with_reducible refine Kd.C_drewN ?_ _)|(with_reducible refine Kd.C_drew ?_)))
      (case side4 => exact HC158_1.out)
      rintro e w24 ⟨rfl,hb⟩
      refine ⟨_,rfl,?_⟩
      have n0_:=aM (blk_below (g:=gb159) (o:=.cells #[.int .i64 ((rd_T48 l0 x7_1).f0),.slice A158_1 ((rd_T48 l0 x7_1).f1).length c158_1] 48 (0,0)) (by (with_reducible repeat (first|refine blk_drewN ?_ _|refine blk_drew ?_|refine blk_alloc ?_ _));exact BK159.out) hb)
      have n1_:=aM (below_step (by repeat (first|(with_reducible first|exact HB.out|apply bA|apply bN|apply bD|refine below_set ?_ GE159.out)|exact HB.out)) hb)
      clear BK159
      clear HB
      have BK159:=n0_
      have HB:=n1_
      clear n0_ n1_
      (try clear hb)
      (try clear hb2)
      (try clear hk)
      (try clear hi)
      refine hK.out _ _ ⟨(blk_cell BK159.out 0).trans rfl,(blk_cell BK159.out 1).trans rfl⟩ (fun hHeld => ?_)
      clear hK K
      refine norm_ (a':=?_) ?_ ?_
      rotate_left
      ·show Act.put _ (some 20) _ = _
       simp only [Act.put,sI,sZ,sS,i64_w,i32_w]
       rfl
      refine pure_ (i:=9) (N:=some 21) (v:=?_) (a':=?_) #[bT,bT,bT,bT,bT,bT,bT,bT,bT,bT] rfl rfl (any_of HT_.out (by kernel_rfl)) (fun _ _ _ h => h) (Or.inl ⟨by rfl,?_⟩) ?_ ?_
      rotate_left;(· intro w';go_simp;with_reducible rfl);rotate_left;(· simp only [Act.put,sI,sZ,sS,i64_w,i32_w];rfl)
      refine done_ (done_of HT_.out (by kernel_rfl)) ?_
      try go_wp2
      go_roundg k1
      case measure => have:=HK1.out;omega
      case rel => exact ⟨(wrap64 (x7_1 + 1)),(by first|rfl|(simp;done)|(simp [*];done)),H',⟨by have:=HK1.out;omega⟩,⟨by repeat (first|(with_reducible first|exact HB.out|apply bA|apply bN|apply bD|refine below_set ?_ GE159.out)|exact HB.out)⟩⟩
    ·replace c6:=Bool.eq_false_iff.mpr c6
     subst c6
     have H1 : (some false) = some r:=by rw [if_neg (show ¬ (false = true) by decide)] at H;exact H
     clear H
     have H:=H1
     clear H1
     obtain rfl:=Option.some.inj H
     have p158 : 0 ≤ (x7_1 : Int):=of_decide_eq_true (by first|(with_reducible assumption)|assumption)
     have q158 : x7_1 < (l0.length : Int):=of_decide_eq_true (by first|(with_reducible assumption)|assumption)
     obtain ⟨ad158,A158_1,c158_1,e158,hx158_0,hx158_1,hl158_1,hi158_1⟩:=at_T48 HR0.out x7_1 p158 q158
     cases e158
     replace hx158_0:=(HB.out.cell (bL w hx158_0)).trans hx158_0
     replace hx158_1:=(HB.out.cell (bL w hx158_1)).trans hx158_1
     have HR158_1:=aM hi158_1
     have HC158_1:=aM hl158_1
     clear hi158_1 hl158_1
     replace p158:=eq_true p158
     replace q158:=eq_true q158
     try go_wp2_with (first|((with_reducible refine gate_dst (N:=4) rfl ?_);refine box_event ?hg (N:=4) ?hd (cs:=#[.int .i64 0,.slice none 0 0]) (t:=48) ?hr ?_;(case hd => rfl);(case hg => rfl);(case hr => first|(go_simp;done)|(go_simp;rfl));intro gb159 hg w25 hbox hb;have n0_:=aM (below_step (by repeat (first|(with_reducible first|exact HB.out|apply bA|apply bN|apply bD)|exact HB.out)) hb);have n1_:=aM (hbox);have n2_:=aM ((by rw [hg];exact (below_size (by repeat (first|(with_reducible first|exact HB.out|apply bA|apply bN|apply bD)|exact HB.out))) : w.heap.size ≤ gb159));have n3_:=aM ((by rw [hg];exact (below_size (by repeat (first|(with_reducible first|exact HB.out|apply bA|apply bN|apply bD)|exact HB.out))) : w.heap.size ≤ gb159));clear HB;have HB:=n0_;have BK159:=n1_;have GW159:=n2_;have GE159:=n3_;clear n0_ n1_ n2_ n3_;clear hb hbox hg;have hcz26_0 : w25.cell? ⟨gb159,0,none⟩ = some (.int .i64 0):=(blk_cell BK159.out 0).trans rfl;have hcz26_1 : w25.cell? ⟨gb159,1,none⟩ = some (.slice none 0 0):=(blk_cell BK159.out 1).trans rfl;have hfz26_0:=blk_frozen BK159.out 0;have hfz26_1:=blk_frozen BK159.out 1))
     have n0_ : Aside0 (((w25.setCell ⟨gb159,0,none⟩ (.int .i64 ((rd_T48 l0 x7_1).f0))).setCell ⟨gb159,1,none⟩ (.slice A158_1 ((rd_T48 l0 x7_1).f1).length c158_1)).heap[gb159]? = some (.cells #[.int .i64 ((rd_T48 l0 x7_1).f0),.slice A158_1 ((rd_T48 l0 x7_1).f1).length c158_1] 48 (0,0))):=⟨by (with_reducible repeat (first|refine blk_drewN ?_ _|refine blk_drew ?_|refine blk_alloc ?_ _));refine blk_put (cs:=#[.int .i64 ((rd_T48 l0 x7_1).f0),.slice none 0 0]) ?_ 1 _ rfl;(with_reducible repeat (first|refine blk_drewN ?_ _|refine blk_drew ?_|refine blk_alloc ?_ _));refine blk_put (cs:=#[.int .i64 0,.slice none 0 0]) ?_ 0 _ rfl;(with_reducible repeat (first|refine blk_drewN ?_ _|refine blk_drew ?_|refine blk_alloc ?_ _));exact BK159.out⟩
     have n1_ : Aside0 (Below w.heap.size w ((w25.setCell ⟨gb159,0,none⟩ (.int .i64 ((rd_T48 l0 x7_1).f0))).setCell ⟨gb159,1,none⟩ (.slice A158_1 ((rd_T48 l0 x7_1).f1).length c158_1))):=⟨by repeat (first|(with_reducible first|exact HB.out|apply bA|apply bN|apply bD|refine below_set ?_ GE159.out)|exact HB.out)⟩
     (try clear BK159)
     (try clear HB)
     generalize ((w25.setCell ⟨gb159,0,none⟩ (.int .i64 ((rd_T48 l0 x7_1).f0))).setCell ⟨gb159,1,none⟩ (.slice A158_1 ((rd_T48 l0 x7_1).f1).length c158_1)) = w27 at n0_ n1_ ⊢
     have BK159:=n0_
     have HB:=n1_
     clear n0_ n1_
     have n0_:=aM (blk_drew BK159.out)
     have n1_:=aM (bD HB.out)
     clear BK159
     clear HB
     have BK159:=n0_
     have HB:=n1_
     clear n0_ n1_
     refine start_ (n:=10) (S:=fun w' => w'.cell? ⟨gb159,0,none⟩ = some (.int .i64 ((rd_T48 l0 x7_1).f0)) ∧ w'.cell? ⟨gb159,1,none⟩ = some (.slice A158_1 ((rd_T48 l0 x7_1).f1).length c158_1)) (ds:=[]) #[bF,bF,bF,bF,bF,bF,bF,bF,bF,bF] (by kernel_rfl) rfl rfl ⟨(blk_cell BK159.out 0).trans rfl,(blk_cell BK159.out 1).trans rfl⟩ (fun hHeld => ?_);refine with_tabW impl_VotesOk.tab4 impl_VotesOk.bits4 (fun HT_ HW_ => ?_)
     generalize w27.drew = w28 at BK159 HB hHeld ⊢
     refine take_ (i:=0) (N:=some 12) (v:=?_) (a':=?_) #[bT,bF,bF,bF,bF,bF,bF,bF,bF,bF] rfl rfl (take_ofW HT_.out HW_.out (by kernel_rfl)) (fun _ _ _ h => h) (Or.inl ⟨by rfl,?_⟩) hHeld ?_ ?_
     rotate_left
     ·rintro w' ⟨s0,s1⟩
      (try simp only [Int.toNat_natCast] at s0 s1)
      go_simp
      with_reducible rfl
     rotate_left
     ·simp only [Act.put,sI,sZ,sS,i64_w,i32_w]
      rfl
     refine one_ (i:=1) (N:=some 13) #[bT,bT,bF,bF,bF,bF,bF,bF,bF,bF] rfl rfl (one_of HT_.out (by kernel_rfl)) (by decide) (fun K hK => ?_)
     refine goes_ Try.func52 (by kernel_rfl) rfl #[.agg #[.int .i64 ((rd_T48 l0 x7_1).f0),.slice A158_1 ((rd_T48 l0 x7_1).f1).length c158_1]] (by rfl) rfl rfl (by (try simp only [List.map_toArray,List.map_cons,List.map_nil]);first|done|rfl|(simp only [List.length_drop,List.length_take];rfl)) ?_
     with_reducible refine (impl_VoteOk.calls k1 ((rd_T48 l0 x7_1).f0) _ _ ((rd_T48 l0 x7_1).f1) false _ ?side1 ?side2 A5.out).mono ?_
     (case side1 => repeat (first|exact (Kd.C_below HR158_1.out HB.out)|(with_reducible refine Kd.C_alloc ?_ _)|(with_reducible refine Kd.C_drewN ?_ _)|(with_reducible refine Kd.C_drew ?_)))
     (case side2 => exact HC158_1.out)
     rintro e w29 ⟨rfl,hb⟩
     refine ⟨_,rfl,?_⟩
     have n0_:=aM (blk_below (g:=gb159) (o:=.cells #[.int .i64 ((rd_T48 l0 x7_1).f0),.slice A158_1 ((rd_T48 l0 x7_1).f1).length c158_1] 48 (0,0)) (by (with_reducible repeat (first|refine blk_drewN ?_ _|refine blk_drew ?_|refine blk_alloc ?_ _));exact BK159.out) hb)
     have n1_:=aM (below_step (by repeat (first|(with_reducible first|exact HB.out|apply bA|apply bN|apply bD|refine below_set ?_ GE159.out)|exact HB.out)) hb)
     clear BK159
     clear HB
     have BK159:=n0_
     have HB:=n1_
     clear n0_ n1_
     (try clear hb)
     (try clear hb2)
     (try clear hk)
     (try clear hi)
     refine hK.out _ _ ⟨(blk_cell BK159.out 0).trans rfl,(blk_cell BK159.out 1).trans rfl⟩ (fun hHeld => ?_)
     clear hK K
     refine norm_ (a':=?_) ?_ ?_
     rotate_left
     ·show Act.put _ (some 13) _ = _
      simp only [Act.put,sI,sZ,sS,i64_w,i32_w]
      rfl
     refine pure_ (i:=2) (N:=some 14) (v:=?_) (a':=?_) #[bT,bT,bT,bF,bF,bF,bF,bF,bF,bF] rfl rfl (any_of HT_.out (by kernel_rfl)) (fun _ _ _ h => h) (Or.inl ⟨by rfl,?_⟩) ?_ ?_
     rotate_left;(· intro w';go_simp;with_reducible rfl);rotate_left;(· simp only [Act.put,sI,sZ,sS,i64_w,i32_w];rfl)
     refine pure_ (i:=3) (N:=some 15) (v:=?_) (a':=?_) #[bT,bT,bT,bT,bF,bF,bF,bF,bF,bF] rfl rfl (any_of HT_.out (by kernel_rfl)) (fun _ _ _ h => h) (Or.inl ⟨by rfl,?_⟩) ?_ ?_
     rotate_left;(· intro w';go_simp;with_reducible rfl);rotate_left;(· simp only [Act.put,sI,sZ,sS,i64_w,i32_w];rfl)
     refine pure_ (i:=4) (N:=some 16) (v:=undef) (a':=?_) #[bT,bT,bT,bT,bT,bF,bF,bF,bF,bF] rfl rfl (any_of HT_.out (by kernel_rfl)) (fun _ _ _ h => h) (Or.inr ⟨by rfl,rfl⟩) ?_ ?_
     rotate_left
     ·simp only [Act.put,sI,sZ,sS,i64_w,i32_w]
      rfl
     refine pure_ (i:=5) (N:=some 17) (v:=undef) (a':=?_) #[bT,bT,bT,bT,bT,bT,bF,bF,bF,bF] rfl rfl (any_of HT_.out (by kernel_rfl)) (fun _ _ _ h => h) (Or.inr ⟨by rfl,rfl⟩) ?_ ?_
     rotate_left
     ·simp only [Act.put,sI,sZ,sS,i64_w,i32_w]
      rfl
     refine pure_ (i:=6) (N:=some 18) (v:=undef) (a':=?_) #[bT,bT,bT,bT,bT,bT,bT,bF,bF,bF] rfl rfl (any_of HT_.out (by kernel_rfl)) (fun _ _ _ h => h) (Or.inr ⟨by rfl,rfl⟩) ?_ ?_
     rotate_left
     ·simp only [Act.put,sI,sZ,sS,i64_w,i32_w]
      rfl
     refine pure_ (i:=7) (N:=some 19) (v:=undef) (a':=?_) #[bT,bT,bT,bT,bT,bT,bT,bT,bF,bF] rfl rfl (any_of HT_.out (by kernel_rfl)) (fun _ _ _ h => h) (Or.inr ⟨by rfl,rfl⟩) ?_ ?_
     rotate_left
     ·simp only [Act.put,sI,sZ,sS,i64_w,i32_w]
      rfl
     refine pure_ (i:=8) (N:=some 20) (v:=undef) (a':=?_) #[bT,bT,bT,bT,bT,bT,bT,bT,bT,bF] rfl rfl (any_of HT_.out (by kernel_rfl)) (fun _ _ _ h => h) (Or.inr ⟨by rfl,rfl⟩) ?_ ?_
     rotate_left
     ·simp only [Act.put,sI,sZ,sS,i64_w,i32_w]
      rfl
     refine pure_ (i:=9) (N:=some 21) (v:=?_) (a':=?_) #[bT,bT,bT,bT,bT,bT,bT,bT,bT,bT] rfl rfl (any_of HT_.out (by kernel_rfl)) (fun _ _ _ h => h) (Or.inl ⟨by rfl,?_⟩) ?_ ?_
     rotate_left;(· intro w';go_simp;with_reducible rfl);rotate_left;(· simp only [Act.put,sI,sZ,sS,i64_w,i32_w];rfl)
     refine done_ (done_of HT_.out (by kernel_rfl)) ?_
     try go_wp2
     go_ret
     exact ⟨by first|rfl|(simp only [i64_w,i32_w];done)|(simp only [i64_w,i32_w];rfl)|(simp [errW_none,errW_some] <;> rfl)|(simp [*,errW_none,errW_some] <;> rfl),by repeat (first|(with_reducible first|exact HB.out|apply bA|apply bN|apply bD|refine below_set ?_ GE159.out)|exact HB.out)⟩
   ·rw [if_neg c2] at H
    have c2b0 : decide (x7_1 < (l0.length : Int)) = false:=decide_eq_false c2
    clear c2
    obtain rfl:=Option.some.inj H
    go_wp2
    go_ret
    exact ⟨by first|rfl|(simp only [i64_w,i32_w];done)|(simp only [i64_w,i32_w];rfl)|(simp [errW_none,errW_some] <;> rfl)|(simp [*,errW_none,errW_some] <;> rfl),by repeat (first|(with_reducible first|exact HB.out|apply bA|apply bN|apply bD)|exact HB.out)⟩

end Go.Proofs.Ytknmmkgaijndfaa.P
