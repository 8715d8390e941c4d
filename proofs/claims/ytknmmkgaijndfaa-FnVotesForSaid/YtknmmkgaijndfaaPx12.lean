/- The printed functions: what each Go function computes, as a Lean function, and that the Go code comes to just that. Conditions: none beyond each contract's own. -/
import Derived.Test.YtknmmkgaijndfaaPx0
import Derived.Test.YtknmmkgaijndfaaPx1
namespace Go.Proofs.Ytknmmkgaijndfaa.P
open Go.RowKit Go.Proofs.YtknmmkgaijndfaaW.PrintWords Go.Proofs.YtknmmkgaijndfaaW.PrintLast Go.Proofs.YtknmmkgaijndfaaW.PrintMore
attribute [local go_sem] max2_int min2_int max_two min_two max_three min_three max_four min_four   -- for this text's walks alone
set_option linter.unusedVariables false
set_option linter.unusedSimpArgs false

attribute [local go_sem high] eqA58
/-! ### laws_lwSame: function 30 -/
def laws_lwSame.l0 : Nat → List (S58) → List (S58) → Int → Option (Bool)
 | 0,_,_,_ => none
 | k + 1,x0,x1,x5 => if x5 < (x0.length : Int) then (if 0 ≤ x5 then (if x5 < (x1.length : Int) then (if (!(((rd_T58 x0 x5).f0) == ((rd_T58 x1 x5).f0)) || ((!(((rd_T58 x0 x5).f1.f0) == ((rd_T58 x1 x5).f1.f0)) || (!(((rd_T58 x0 x5).f1.f1) == ((rd_T58 x1 x5).f1.f1)) || (!(((rd_T58 x0 x5).f1.f2) == ((rd_T58 x1 x5).f1.f2))))))) = true then (some false) else (laws_lwSame.l0 k x0 x1 (wrap64 (x5 + 1)))) else (none)) else (none)) else (some true)
def laws_lwSame.f (k : Nat) (l0 : List (S58)) (l1 : List (S58)) : Option (Bool):=if (l0.length : Int) = (l1.length : Int) then (laws_lwSame.l0 k l0 l1 0) else (some false)
theorem laws_lwSame.mono_l : ∀ k,(∀ y0 y1 y2,LeO (laws_lwSame.l0 k y0 y1 y2) (laws_lwSame.l0 (k + 1) y0 y1 y2))
 | 0 => fun _ _ _ r h => by simp [laws_lwSame.l0] at h
 | k + 1 => by
  have ih0:=laws_lwSame.mono_l k
  ·intro y0 y1 y2
   unfold laws_lwSame.l0
   repeat' first
   | exact LeO.refl _
   | exact ih0 _ _ _
   | exact LeO.none _
   | refine LeO.ite ?_ ?_
   | refine LeO.bind ?_ (fun _ => ?_)
theorem laws_lwSame.mono : ∀ a0 a1 k,LeO (laws_lwSame.f k a0 a1) (laws_lwSame.f (k + 1) a0 a1):=by
 intro a0 a1 k
 have ih0:=laws_lwSame.mono_l k
 unfold laws_lwSame.f
 repeat' first
   | exact LeO.refl _
   | exact ih0 _ _ _
   | exact LeO.none _
   | refine LeO.ite ?_ ?_
   | refine LeO.bind ?_ (fun _ => ?_)
set_option maxHeartbeats 8000000 in
set_option maxRecDepth 100000 in
theorem laws_lwSame.calls (k : Nat) (A0 : Option Addr) (c0 : Nat) (l0 : List (S58)) (A1 : Option Addr) (c1 : Nat) (l1 : List (S58)) (r : Bool) (w : World) (hr0 : Kd.C k58 w A0 l0.length l0) (hc0 : l0.length ≤ c0) (hr1 : Kd.C k58 w A1 l1.length l1) (hc1 : l1.length ≤ c1) (h : laws_lwSame.f k l0 l1 = some r) :
  Calls Try.prog 30 #[.slice A0 l0.length c0,.slice A1 l1.length c1] w fun e w' => e = .returned (.bool r) ∧ Drawn0 w w':=by
 have hu58:=Try.underlying58
 have HR0:=aM hr0
 have HC0:=aM hc0
 clear hr0 hc0
 have HR1:=aM hr1
 have HC1:=aM hc1
 clear hr1 hc1
 have H : (if (l0.length : Int) = (l1.length : Int) then (laws_lwSame.l0 k l0 l1 0) else (some false)) = some r:=h
 clear h
 by_cases c3 : (l0.length : Int) = (l1.length : Int)
 ·rw [if_pos c3] at H
  have c3b0 : ((l0.length : Int) == (l1.length : Int)) = true:=beq_iff_eq.mpr c3
  have c3b1 : ((l0.length : Int) != (l1.length : Int)) = false:=bne_eq_false_iff_eq.mpr c3
  have c3b2 : (l0.length == l1.length) = true:=by first|simpa using c3|(simp at c3 ⊢;omega)
  clear c3
  have H':=aM H
  clear H
  go_enter Try.func30,Try.ntmps30
  go_wp2
  repeat (go_quiet (fail);try go_wp2)
  go_loopg [5] k (fun kq v5 w' => ∃ (x5_1 : Int),v5 = .int .i64 x5_1 ∧ Aside0 (laws_lwSame.l0 kq l0 l1 x5_1 = some r) ∧ Aside0 (kq ≤ k) ∧ Drawn0 w w')
  case atStart => exact ⟨(0),(by first|rfl|(simp;done)|(simp [*];done)),H',⟨Nat.le_refl _⟩,by repeat (first|exact Drawn0.refl _|apply Drawn0.step)⟩
  case round =>
   clear H'
   try clear c1
   try clear p2
   try clear c3
   try clear c3b0
   try clear c3b1
   try clear c3b2
   obtain ⟨x5_1,rfl,HA,HK1,⟨m1,rfl⟩⟩:=hrel
   cases gk with
   | zero => exact absurd HA.out (by simp [laws_lwSame.l0])
   | succ k1 =>
    have H:=HA.out
    clear HA
    simp only [laws_lwSame.l0] at H
    by_cases c4 : x5_1 < (l0.length : Int)
    ·rw [if_pos c4] at H
     have c4b0 : decide (x5_1 < (l0.length : Int)) = true:=decide_eq_true c4
     clear c4
     by_cases c5 : 0 ≤ x5_1
     case neg => rw [if_neg c5] at H;exact absurd H (by simp)
     rw [if_pos c5] at H
     have c5b0 : decide (0 ≤ x5_1) = true:=decide_eq_true c5
     clear c5
     by_cases c6 : x5_1 < (l1.length : Int)
     case neg => rw [if_neg c6] at H;exact absurd H (by simp)
     rw [if_pos c6] at H
     have c6b0 : decide (x5_1 < (l1.length : Int)) = true:=decide_eq_true c6
     clear c6
     by_cases c7 : (!(((rd_T58 l0 x5_1).f0) == ((rd_T58 l1 x5_1).f0)) || ((!(((rd_T58 l0 x5_1).f1.f0) == ((rd_T58 l1 x5_1).f1.f0)) || (!(((rd_T58 l0 x5_1).f1.f1) == ((rd_T58 l1 x5_1).f1.f1)) || (!(((rd_T58 l0 x5_1).f1.f2) == ((rd_T58 l1 x5_1).f1.f2))))))) = true
     ·rw [if_pos c7] at H
      have c7b0 : (!(((rd_T58 l0 x5_1).f0) == ((rd_T58 l1 x5_1).f0)) || ((!(((rd_T58 l0 x5_1).f1.f0) == ((rd_T58 l1 x5_1).f1.f0)) || (!(((rd_T58 l0 x5_1).f1.f1) == ((rd_T58 l1 x5_1).f1.f1)) || (!(((rd_T58 l0 x5_1).f1.f2) == ((rd_T58 l1 x5_1).f1.f2))))))) = true:=c7
      clear c7
      obtain rfl:=Option.some.inj H
      have p437 : 0 ≤ (x5_1 : Int):=of_decide_eq_true (by first|(with_reducible assumption)|assumption)
      have q437 : x5_1 < (l0.length : Int):=of_decide_eq_true (by first|(with_reducible assumption)|assumption)
      obtain ⟨ad437,e437,hx437_0,hx437_1,hx437_2,hx437_3⟩:=at_T58 HR0.out x5_1 p437 q437
      cases e437
      replace p437:=eq_true p437
      replace q437:=eq_true q437
      have p438 : 0 ≤ (x5_1 : Int):=of_decide_eq_true (by first|(with_reducible assumption)|assumption)
      have q438 : x5_1 < (l1.length : Int):=of_decide_eq_true (by first|(with_reducible assumption)|assumption)
      obtain ⟨ad438,e438,hx438_0,hx438_1,hx438_2,hx438_3⟩:=at_T58 HR1.out x5_1 p438 q438
      cases e438
      replace p438:=eq_true p438
      replace q438:=eq_true q438
      go_wp2
      repeat (go_quiet (fail);try go_wp2)
      go_ret
      exact ⟨by first|rfl|(simp;done)|(simp [*];done),by repeat (first|exact Drawn0.refl _|apply Drawn0.step)⟩
     ·rw [if_neg c7] at H
      have c7b0 : (!(((rd_T58 l0 x5_1).f0) == ((rd_T58 l1 x5_1).f0)) || ((!(((rd_T58 l0 x5_1).f1.f0) == ((rd_T58 l1 x5_1).f1.f0)) || (!(((rd_T58 l0 x5_1).f1.f1) == ((rd_T58 l1 x5_1).f1.f1)) || (!(((rd_T58 l0 x5_1).f1.f2) == ((rd_T58 l1 x5_1).f1.f2))))))) = false:=by simpa using c7
      clear c7
      have H':=aM H
      clear H
      have p437 : 0 ≤ (x5_1 : Int):=of_decide_eq_true (by first|(with_reducible assumption)|assumption)
      have q437 : x5_1 < (l0.length : Int):=of_decide_eq_true (by first|(with_reducible assumption)|assumption)
      obtain ⟨ad437,e437,hx437_0,hx437_1,hx437_2,hx437_3⟩:=at_T58 HR0.out x5_1 p437 q437
      cases e437
      replace p437:=eq_true p437
      replace q437:=eq_true q437
      have p438 : 0 ≤ (x5_1 : Int):=of_decide_eq_true (by first|(with_reducible assumption)|assumption)
      have q438 : x5_1 < (l1.length : Int):=of_decide_eq_true (by first|(with_reducible assumption)|assumption)
      obtain ⟨ad438,e438,hx438_0,hx438_1,hx438_2,hx438_3⟩:=at_T58 HR1.out x5_1 p438 q438
      cases e438
      replace p438:=eq_true p438
      replace q438:=eq_true q438
      go_wp2
      repeat (go_quiet (fail);try go_wp2)
      go_roundg k1
      case measure => have:=HK1.out;omega
      case rel => exact ⟨(wrap64 (x5_1 + 1)),(by first|rfl|(simp;done)|(simp [*];done)),H',⟨by have:=HK1.out;omega⟩,by repeat (first|exact Drawn0.refl _|apply Drawn0.step)⟩
    ·rw [if_neg c4] at H
     have c4b0 : decide (x5_1 < (l0.length : Int)) = false:=decide_eq_false c4
     clear c4
     obtain rfl:=Option.some.inj H
     go_wp2
     repeat (go_quiet (fail);try go_wp2)
     go_ret
     exact ⟨by first|rfl|(simp;done)|(simp [*];done),by repeat (first|exact Drawn0.refl _|apply Drawn0.step)⟩
 ·rw [if_neg c3] at H
  have c3b0 : ((l0.length : Int) == (l1.length : Int)) = false:=beq_eq_false_iff_ne.mpr c3
  have c3b1 : ((l0.length : Int) != (l1.length : Int)) = true:=bne_iff_ne.mpr c3
  have c3b2 : (l0.length == l1.length) = false:=by first|simpa using c3|(simp at c3 ⊢;omega)
  obtain rfl:=Option.some.inj H
  go_enter Try.func30,Try.ntmps30
  go_wp2
  repeat (go_quiet (fail);try go_wp2)
  go_ret
  exact ⟨by first|rfl|(simp;done)|(simp [*];done),by repeat (first|exact Drawn0.refl _|apply Drawn0.step)⟩

/-! ### laws_lwVote: function 49 -/
def laws_lwVote.f (k : Nat) (a0_0 : Int) (l0_1 : List (S58)) (a1_0 : Int) (l1_1 : List (S58)) : Option (Bool):=if a0_0 = a1_0 then ((laws_lwSame.f k l0_1 l1_1).bind fun t441 => (some t441)) else (some false)
theorem laws_lwVote.mono : ∀ a0 a1 a2 a3 k,LeO (laws_lwVote.f k a0 a1 a2 a3) (laws_lwVote.f (k + 1) a0 a1 a2 a3):=by
 intro a0 a1 a2 a3 k
 unfold laws_lwVote.f
 repeat' first
   | exact LeO.refl _
   | exact laws_lwSame.mono _ _ _
   | exact LeO.none _
   | refine LeO.ite ?_ ?_
   | refine LeO.bind ?_ (fun _ => ?_)
set_option maxHeartbeats 8000000 in
set_option maxRecDepth 100000 in
theorem laws_lwVote.calls (k : Nat) (a0_0 : Int) (A0_1 : Option Addr) (c0_1 : Nat) (l0_1 : List (S58)) (a1_0 : Int) (A1_1 : Option Addr) (c1_1 : Nat) (l1_1 : List (S58)) (r : Bool) (w : World) (hr0_1 : Kd.C k58 w A0_1 l0_1.length l0_1) (hc0_1 : l0_1.length ≤ c0_1) (hr1_1 : Kd.C k58 w A1_1 l1_1.length l1_1) (hc1_1 : l1_1.length ≤ c1_1) (h : laws_lwVote.f k a0_0 l0_1 a1_0 l1_1 = some r) :
  Calls Try.prog 49 #[.agg #[.int .i64 a0_0,.slice A0_1 l0_1.length c0_1],.agg #[.int .i64 a1_0,.slice A1_1 l1_1.length c1_1]] w fun e w' => e = .returned (.bool r) ∧ Below w.heap.size w w':=by
 have hu48:=Try.underlying48
 have HR0_1:=aM hr0_1
 have HC0_1:=aM hc0_1
 clear hr0_1 hc0_1
 have HR1_1:=aM hr1_1
 have HC1_1:=aM hc1_1
 clear hr1_1 hc1_1
 have HB:=aM (Below.refl w.heap.size w)
 have H : (if a0_0 = a1_0 then ((laws_lwSame.f k l0_1 l1_1).bind fun t441 => (some t441)) else (some false)) = some r:=h
 clear h
 by_cases c3 : a0_0 = a1_0
 ·rw [if_pos c3] at H
  have c3b0 : (a0_0 == a1_0) = true:=beq_iff_eq.mpr c3
  have c3b1 : (a0_0 != a1_0) = false:=bne_eq_false_iff_eq.mpr c3
  clear c3
  replace H:=Option.bind_eq_some_iff.mp H
  obtain ⟨t441,A40,H⟩:=H
  replace H : (some t441) = some r:=H
  have A4:=aM A40
  clear A40
  obtain rfl:=Option.some.inj H
  go_enter Try.func49,Try.ntmps49
  go_wp2_with (first|((with_reducible refine gate_dst (N:=2) rfl ?_);refine box_event ?hg (N:=2) ?hd (cs:=#[.int .i64 a0_0,.slice A0_1 l0_1.length c0_1]) (t:=48) ?hr ?_;(case hd => rfl);(case hg => rfl);(case hr => first|(go_simp;done)|(go_simp;rfl));intro gb439 hg w5 hbox hb;have n0_:=aM (below_step (by repeat (first|(with_reducible first|exact HB.out|apply bA|apply bN|apply bD)|exact HB.out)) hb);have n1_:=aM (hbox);have n2_:=aM ((by rw [hg];exact (below_size (by repeat (first|(with_reducible first|exact HB.out|apply bA|apply bN|apply bD)|exact HB.out))) : w.heap.size ≤ gb439));have n3_:=aM ((by rw [hg];exact (below_size (by repeat (first|(with_reducible first|exact HB.out|apply bA|apply bN|apply bD)|exact HB.out))) : w.heap.size ≤ gb439));clear HB;have HB:=n0_;have BK439:=n1_;have GW439:=n2_;have GE439:=n3_;clear n0_ n1_ n2_ n3_;clear hb hbox hg)|((with_reducible refine gate_dst (N:=3) rfl ?_);refine box_event ?hg (N:=3) ?hd (cs:=#[.int .i64 a1_0,.slice A1_1 l1_1.length c1_1]) (t:=48) ?hr ?_;(case hd => rfl);(case hg => rfl);(case hr => first|(go_simp;done)|(go_simp;rfl));intro gb440 hg w6 hbox hb;have n0_:=aM (blk_below (g:=gb439) (o:=.cells #[.int .i64 a0_0,.slice A0_1 l0_1.length c0_1] 48 (0,0)) (by (with_reducible repeat (first|refine blk_drewN ?_ _|refine blk_drew ?_|refine blk_alloc ?_ _));exact BK439.out) hb);have n1_:=aM (below_step (by repeat (first|(with_reducible first|exact HB.out|apply bA|apply bN|apply bD|refine below_set ?_ GE439.out)|exact HB.out)) hb);have n2_:=aM (hbox);have n3_:=aM ((by rw [hg];exact (below_size (by repeat (first|(with_reducible first|exact HB.out|apply bA|apply bN|apply bD|refine below_set ?_ GE439.out)|exact HB.out))) : w.heap.size ≤ gb440));have n4_:=aM ((by rw [hg];exact (below_size (by repeat (first|(with_reducible first|exact HB.out|apply bA|apply bN|apply bD|refine below_set ?_ GE439.out)|exact HB.out))) : w.heap.size ≤ gb440));have n5_:=aM ((by rw [hg];exact Nat.ne_of_lt (blk_lt (g:=gb439) (o:=.cells #[.int .i64 a0_0,.slice A0_1 l0_1.length c0_1] 48 (0,0)) (by (with_reducible repeat (first|refine blk_drewN ?_ _|refine blk_drew ?_|refine blk_alloc ?_ _));exact BK439.out)) : gb439 ≠ gb440));have n6_:=aM ((by rw [hg];exact Nat.ne_of_gt (blk_lt (g:=gb439) (o:=.cells #[.int .i64 a0_0,.slice A0_1 l0_1.length c0_1] 48 (0,0)) (by (with_reducible repeat (first|refine blk_drewN ?_ _|refine blk_drew ?_|refine blk_alloc ?_ _));exact BK439.out)) : gb440 ≠ gb439));clear BK439;clear HB;have BK439:=n0_;have HB:=n1_;have BK440:=n2_;have GW440:=n3_;have GE440:=n4_;have NB439_440:=n5_;have NB440_439:=n6_;clear n0_ n1_ n2_ n3_ n4_ n5_ n6_;clear hb hbox hg;have hnb7:=NB439_440.out;have hnc7:=NB440_439.out;have hcz8_0 : w6.cell? ⟨gb439,0,none⟩ = some (.int .i64 a0_0):=(blk_cell BK439.out 0).trans rfl;have hcz8_1 : w6.cell? ⟨gb439,1,none⟩ = some (.slice A0_1 l0_1.length c0_1):=(blk_cell BK439.out 1).trans rfl;have hfz8_0:=blk_frozen BK439.out 0;have hfz8_1:=blk_frozen BK439.out 1;have hcz9_0 : w6.cell? ⟨gb440,0,none⟩ = some (.int .i64 a1_0):=(blk_cell BK440.out 0).trans rfl;have hcz9_1 : w6.cell? ⟨gb440,1,none⟩ = some (.slice A1_1 l1_1.length c1_1):=(blk_cell BK440.out 1).trans rfl;have hfz9_0:=blk_frozen BK440.out 0;have hfz9_1:=blk_frozen BK440.out 1)|(go_at_call 30;(with_reducible refine (laws_lwSame.calls k _ _ l0_1 _ _ l1_1 t441 _ ?side1 ?side2 ?side3 ?side4 A4.out).mono ?_);(case side1 => repeat (first|exact (Kd.C_below HR0_1.out HB.out)|(with_reducible refine Kd.C_alloc ?_ _)|(with_reducible refine Kd.C_drewN ?_ _)|(with_reducible refine Kd.C_drew ?_)));(case side2 => exact HC0_1.out);(case side3 => repeat (first|exact (Kd.C_below HR1_1.out HB.out)|(with_reducible refine Kd.C_alloc ?_ _)|(with_reducible refine Kd.C_drewN ?_ _)|(with_reducible refine Kd.C_drew ?_)));(case side4 => exact HC1_1.out);rintro e w' ⟨rfl,⟨nd,rfl⟩⟩))
  go_ret
  exact ⟨by first|rfl|(simp only [i64_w,i32_w];done)|(simp only [i64_w,i32_w];rfl)|(simp [errW_none,errW_some] <;> rfl)|(simp [*,errW_none,errW_some] <;> rfl),by repeat (first|(with_reducible first|exact HB.out|apply bA|apply bN|apply bD|refine below_set ?_ GE439.out|refine below_set ?_ GE440.out)|exact HB.out)⟩
 ·rw [if_neg c3] at H
  have c3b0 : (a0_0 == a1_0) = false:=beq_eq_false_iff_ne.mpr c3
  have c3b1 : (a0_0 != a1_0) = true:=bne_iff_ne.mpr c3
  obtain rfl:=Option.some.inj H
  go_enter Try.func49,Try.ntmps49
  go_wp2_with (first|((with_reducible refine gate_dst (N:=2) rfl ?_);refine box_event ?hg (N:=2) ?hd (cs:=#[.int .i64 a0_0,.slice A0_1 l0_1.length c0_1]) (t:=48) ?hr ?_;(case hd => rfl);(case hg => rfl);(case hr => first|(go_simp;done)|(go_simp;rfl));intro gb439 hg w10 hbox hb;have n0_:=aM (below_step (by repeat (first|(with_reducible first|exact HB.out|apply bA|apply bN|apply bD)|exact HB.out)) hb);have n1_:=aM (hbox);have n2_:=aM ((by rw [hg];exact (below_size (by repeat (first|(with_reducible first|exact HB.out|apply bA|apply bN|apply bD)|exact HB.out))) : w.heap.size ≤ gb439));have n3_:=aM ((by rw [hg];exact (below_size (by repeat (first|(with_reducible first|exact HB.out|apply bA|apply bN|apply bD)|exact HB.out))) : w.heap.size ≤ gb439));clear HB;have HB:=n0_;have BK439:=n1_;have GW439:=n2_;have GE439:=n3_;clear n0_ n1_ n2_ n3_;clear hb hbox hg)|((with_reducible refine gate_dst (N:=3) rfl ?_);refine box_event ?hg (N:=3) ?hd (cs:=#[.int .i64 a1_0,.slice A1_1 l1_1.length c1_1]) (t:=48) ?hr ?_;(case hd => rfl);(case hg => rfl);(case hr => first|(go_simp;done)|(go_simp;rfl));intro gb440 hg w11 hbox hb;have n0_:=aM (blk_below (g:=gb439) (o:=.cells #[.int .i64 a0_0,.slice A0_1 l0_1.length c0_1] 48 (0,0)) (by (with_reducible repeat (first|refine blk_drewN ?_ _|refine blk_drew ?_|refine blk_alloc ?_ _));exact BK439.out) hb);have n1_:=aM (below_step (by repeat (first|(with_reducible first|exact HB.out|apply bA|apply bN|apply bD|refine below_set ?_ GE439.out)|exact HB.out)) hb);have n2_:=aM (hbox);have n3_:=aM ((by rw [hg];exact (below_size (by repeat (first|(with_reducible first|exact HB.out|apply bA|apply bN|apply bD|refine below_set ?_ GE439.out)|exact HB.out))) : w.heap.size ≤ gb440));have n4_:=aM ((by rw [hg];exact (below_size (by repeat (first|(with_reducible first|exact HB.out|apply bA|apply bN|apply bD|refine below_set ?_ GE439.out)|exact HB.out))) : w.heap.size ≤ gb440));have n5_:=aM ((by rw [hg];exact Nat.ne_of_lt (blk_lt (g:=gb439) (o:=.cells #[.int .i64 a0_0,.slice A0_1 l0_1.length c0_1] 48 (0,0)) (by (with_reducible repeat (first|refine blk_drewN ?_ _|refine blk_drew ?_|refine blk_alloc ?_ _));exact BK439.out)) : gb439 ≠ gb440));have n6_:=aM ((by rw [hg];exact Nat.ne_of_gt (blk_lt (g:=gb439) (o:=.cells #[.int .i64 a0_0,.slice A0_1 l0_1.length c0_1] 48 (0,0)) (by (with_reducible repeat (first|refine blk_drewN ?_ _|refine blk_drew ?_|refine blk_alloc ?_ _));exact BK439.out)) : gb440 ≠ gb439));clear BK439;clear HB;have BK439:=n0_;have HB:=n1_;have BK440:=n2_;have GW440:=n3_;have GE440:=n4_;have NB439_440:=n5_;have NB440_439:=n6_;clear n0_ n1_ n2_ n3_ n4_ n5_ n6_;clear hb hbox hg;have hnb12:=NB439_440.out;have hnc12:=NB440_439.out;have hcz13_0 : w11.cell? ⟨gb439,0,none⟩ = some (.int .i64 a0_0):=(blk_cell BK439.out 0).trans rfl;have hcz13_1 : w11.cell? ⟨gb439,1,none⟩ = some (.slice A0_1 l0_1.length c0_1):=(blk_cell BK439.out 1).trans rfl;have hfz13_0:=blk_frozen BK439.out 0;have hfz13_1:=blk_frozen BK439.out 1;have hcz14_0 : w11.cell? ⟨gb440,0,none⟩ = some (.int .i64 a1_0):=(blk_cell BK440.out 0).trans rfl;have hcz14_1 : w11.cell? ⟨gb440,1,none⟩ = some (.slice A1_1 l1_1.length c1_1):=(blk_cell BK440.out 1).trans rfl;have hfz14_0:=blk_frozen BK440.out 0;have hfz14_1:=blk_frozen BK440.out 1))
  go_ret
  exact ⟨by first|rfl|(simp only [i64_w,i32_w];done)|(simp only [i64_w,i32_w];rfl)|(simp [errW_none,errW_some] <;> rfl)|(simp [*,errW_none,errW_some] <;> rfl),by repeat (first|(with_reducible first|exact HB.out|apply bA|apply bN|apply bD|refine below_set ?_ GE439.out|refine below_set ?_ GE440.out)|exact HB.out)⟩

/-! ### laws_lwHas: function 31 -/
def laws_lwHas.l0 : Nat → List (S48) → Int → Int → List (S58) → Option (Bool)
 | 0,_,_,_,_ => none
 | k + 1,x0,x5,x443000,x443001 => if x5 < (x0.length : Int) then (if 0 ≤ x5 then ((laws_lwVote.f k ((rd_T48 x0 x5).f0) ((rd_T48 x0 x5).f1) x443000 x443001).bind fun t444 => (if t444 = true then (some true) else (laws_lwHas.l0 k x0 (wrap64 (x5 + 1)) x443000 x443001))) else (none)) else (some false)
def laws_lwHas.f (k : Nat) (l0 : List (S48)) (a1_0 : Int) (l1_1 : List (S58)) : Option (Bool):=laws_lwHas.l0 k l0 0 a1_0 l1_1
theorem laws_lwHas.mono_l : ∀ k,(∀ y0 y1 y2 y3,LeO (laws_lwHas.l0 k y0 y1 y2 y3) (laws_lwHas.l0 (k + 1) y0 y1 y2 y3))
 | 0 => fun _ _ _ _ r h => by simp [laws_lwHas.l0] at h
 | k + 1 => by
  have ih0:=laws_lwHas.mono_l k
  ·intro y0 y1 y2 y3
   unfold laws_lwHas.l0
   repeat' first
   | exact LeO.refl _
   | exact ih0 _ _ _ _
   | exact laws_lwVote.mono _ _ _ _ _
   | exact LeO.none _
   | refine LeO.ite ?_ ?_
   | refine LeO.bind ?_ (fun _ => ?_)
theorem laws_lwHas.mono : ∀ a0 a1 a2 k,LeO (laws_lwHas.f k a0 a1 a2) (laws_lwHas.f (k + 1) a0 a1 a2):=by
 intro a0 a1 a2 k
 have ih0:=laws_lwHas.mono_l k
 unfold laws_lwHas.f
 repeat' first
   | exact LeO.refl _
   | exact ih0 _ _ _ _
   | exact laws_lwVote.mono _ _ _ _ _
   | exact LeO.none _
   | refine LeO.ite ?_ ?_
   | refine LeO.bind ?_ (fun _ => ?_)
set_option maxHeartbeats 8000000 in
set_option maxRecDepth 100000 in
theorem laws_lwHas.calls (k : Nat) (A0 : Option Addr) (c0 : Nat) (l0 : List (S48)) (a1_0 : Int) (A1_1 : Option Addr) (c1_1 : Nat) (l1_1 : List (S58)) (r : Bool) (w : World) (hr0 : Kd.C k48 w A0 l0.length l0) (hc0 : l0.length ≤ c0) (hr1_1 : Kd.C k58 w A1_1 l1_1.length l1_1) (hc1_1 : l1_1.length ≤ c1_1) (h : laws_lwHas.f k l0 a1_0 l1_1 = some r) :
  Calls Try.prog 31 #[.slice A0 l0.length c0,.agg #[.int .i64 a1_0,.slice A1_1 l1_1.length c1_1]] w fun e w' => e = .returned (.bool r) ∧ Below w.heap.size w w':=by
 have hu48:=Try.underlying48
 have HR0:=aM hr0
 have HC0:=aM hc0
 clear hr0 hc0
 have HR1_1:=aM hr1_1
 have HC1_1:=aM hc1_1
 clear hr1_1 hc1_1
 have HB:=aM (Below.refl w.heap.size w)
 have H : (laws_lwHas.l0 k l0 0 a1_0 l1_1) = some r:=h
 clear h
 have H':=aM H
 clear H
 go_enter Try.func31,Try.ntmps31
 go_wp2_with (first|((with_reducible refine gate_dst (N:=3) rfl ?_);refine box_event ?hg (N:=3) ?hd (cs:=#[.int .i64 a1_0,.slice A1_1 l1_1.length c1_1]) (t:=48) ?hr ?_;(case hd => rfl);(case hg => rfl);(case hr => first|(go_simp;done)|(go_simp;rfl));intro gb442 hg w3 hbox hb;have n0_:=aM (below_step (by repeat (first|(with_reducible first|exact HB.out|apply bA|apply bN|apply bD)|exact HB.out)) hb);have n1_:=aM (hbox);have n2_:=aM ((by rw [hg];exact (below_size (by repeat (first|(with_reducible first|exact HB.out|apply bA|apply bN|apply bD)|exact HB.out))) : w.heap.size ≤ gb442));have n3_:=aM ((by rw [hg];exact (below_size (by repeat (first|(with_reducible first|exact HB.out|apply bA|apply bN|apply bD)|exact HB.out))) : w.heap.size ≤ gb442));clear HB;have HB:=n0_;have BK442:=n1_;have GW442:=n2_;have GE442:=n3_;clear n0_ n1_ n2_ n3_;clear hb hbox hg))
 go_loopg [5] k (fun kq v5 w' => ∃ (x5_1 : Int),v5 = .int .i64 x5_1 ∧ Aside0 (laws_lwHas.l0 kq l0 x5_1 a1_0 l1_1 = some r) ∧ Aside0 (kq ≤ k) ∧ Aside0 (w'.heap[gb442]? = some (.cells #[.int .i64 a1_0,(.slice A1_1 l1_1.length c1_1)] 48 (0,0))) ∧ Aside0 (Below w.heap.size w w'))
 case atStart => exact ⟨(0),(by first|rfl|(simp;done)|(simp [*];done)),H',⟨Nat.le_refl _⟩,⟨by (with_reducible repeat (first|refine blk_drewN ?_ _|refine blk_drew ?_|refine blk_alloc ?_ _));exact BK442.out⟩,⟨by repeat (first|(with_reducible first|exact HB.out|apply bA|apply bN|apply bD|refine below_set ?_ GE442.out)|exact HB.out)⟩⟩
 case round =>
  clear H'
  try clear c1
  try clear p2
  try clear c3
  obtain ⟨x5_1,rfl,HA,HK1,BK442,HB⟩:=hrel
  cases gk with
  | zero => exact absurd HA.out (by simp [laws_lwHas.l0])
  | succ k1 =>
   have H:=HA.out
   clear HA
   simp only [laws_lwHas.l0] at H
   by_cases c4 : x5_1 < (l0.length : Int)
   ·rw [if_pos c4] at H
    have c4b0 : decide (x5_1 < (l0.length : Int)) = true:=decide_eq_true c4
    clear c4
    by_cases c5 : 0 ≤ x5_1
    case neg => rw [if_neg c5] at H;exact absurd H (by simp)
    rw [if_pos c5] at H
    have c5b0 : decide (0 ≤ x5_1) = true:=decide_eq_true c5
    clear c5
    replace H:=Option.bind_eq_some_iff.mp H
    obtain ⟨t444,A60,H⟩:=H
    replace H : (if t444 = true then (some true) else (laws_lwHas.l0 k1 l0 (wrap64 (x5_1 + 1)) a1_0 l1_1)) = some r:=H
    have A6:=aM A60
    clear A60
    by_cases c7 : t444 = true
    ·subst c7
     have H1 : (some true) = some r:=by rw [if_pos rfl] at H;exact H
     clear H
     have H:=H1
     clear H1
     obtain rfl:=Option.some.inj H
     try go_wp2
     have n0_:=aM (blk_drew BK442.out)
     have n1_:=aM (bD HB.out)
     clear BK442
     clear HB
     have BK442:=n0_
     have HB:=n1_
     clear n0_ n1_
     have p443 : 0 ≤ (x5_1 : Int):=of_decide_eq_true (by first|(with_reducible assumption)|assumption)
     have q443 : x5_1 < (l0.length : Int):=of_decide_eq_true (by first|(with_reducible assumption)|assumption)
     obtain ⟨ad443,A443_1,c443_1,e443,hx443_0,hx443_1,hl443_1,hi443_1⟩:=at_T48 HR0.out x5_1 p443 q443
     have hw443_1:=hx443_1
     have hw443_0:=hx443_0
     cases e443
     replace hx443_0:=(HB.out.cell (bL w hx443_0)).trans hx443_0
     replace hx443_1:=(HB.out.cell (bL w hx443_1)).trans hx443_1
     have HR443_1:=aM hi443_1
     have HC443_1:=aM hl443_1
     clear hi443_1 hl443_1
     replace p443:=eq_true p443
     replace q443:=eq_true q443
     refine start_ (n:=6) (S:=fun w' => w'.cell? ⟨gb442,0,none⟩ = some (.int .i64 a1_0) ∧ w'.cell? ⟨gb442,1,none⟩ = some (.slice A1_1 l1_1.length c1_1) ∧ w'.cell? (ad443.add ((x5_1).toNat * 2)) = some (.int .i64 ((rd_T48 l0 x5_1).f0)) ∧ w'.cell? ⟨(ad443.add ((x5_1).toNat * 2)).block,(ad443.add ((x5_1).toNat * 2)).off + 1,none⟩ = some (.slice A443_1 ((rd_T48 l0 x5_1).f1).length c443_1)) (ds:=[]) #[bF,bF,bF,bF,bF,bF] (by kernel_rfl) rfl rfl ⟨(blk_cell BK442.out 0).trans rfl,(blk_cell BK442.out 1).trans rfl,((HB.out.cell (bL w hw443_0)).trans hw443_0),((HB.out.cell (bL w hw443_1)).trans hw443_1)⟩ (fun hHeld => ?_)
     generalize wr.drew = w8 at BK442 HB HR443_1 hx443_0 hx443_1 hHeld ⊢
     refine pure_ (i:=0) (N:=some 12) (v:=?_) (a':=?_) #[bT,bF,bF,bF,bF,bF] rfl rfl (by kernel_rfl) (fun _ _ _ h => h) (Or.inl ⟨by rfl,?_⟩) ?_ ?_
     rotate_left;(· intro w';go_simp;with_reducible rfl);rotate_left;(· simp only [Act.put,sI,sZ,sS,i64_w,i32_w];rfl)
     refine pure_ (i:=1) (N:=some 13) (v:=?_) (a':=?_) #[bT,bT,bF,bF,bF,bF] rfl rfl (by kernel_rfl) (fun _ _ _ h => h) (Or.inl ⟨by rfl,?_⟩) ?_ ?_
     rotate_left;(· intro w';go_simp;with_reducible rfl);rotate_left;(· simp only [Act.put,sI,sZ,sS,i64_w,i32_w];rfl)
     refine pure_ (i:=2) (N:=some 14) (v:=?_) (a':=?_) #[bT,bT,bT,bF,bF,bF] rfl rfl (by kernel_rfl) (fun _ _ _ h => h) (Or.inl ⟨by rfl,?_⟩) ?_ ?_
     rotate_left;(· intro w';go_simp;with_reducible rfl);rotate_left;(· simp only [Act.put,sI,sZ,sS,i64_w,i32_w];rfl)
     refine take_ (i:=3) (N:=some 15) (v:=?_) (a':=?_) #[bT,bT,bT,bT,bF,bF] rfl rfl (by kernel_rfl) (fun _ _ _ h => h) (Or.inl ⟨by rfl,?_⟩) hHeld ?_ ?_
     rotate_left
     ·rintro w' ⟨s0,s1,s2,s3⟩
      (try simp only [Int.toNat_natCast] at s0 s1 s2 s3)
      go_simp
      with_reducible rfl
     rotate_left
     ·simp only [Act.put,sI,sZ,sS,i64_w,i32_w]
      rfl
     refine take_ (i:=4) (N:=some 16) (v:=?_) (a':=?_) #[bT,bT,bT,bT,bT,bF] rfl rfl (by kernel_rfl) (fun _ _ _ h => h) (Or.inl ⟨by rfl,?_⟩) hHeld ?_ ?_
     rotate_left
     ·rintro w' ⟨s0,s1,s2,s3⟩
      (try simp only [Int.toNat_natCast] at s0 s1 s2 s3)
      go_simp
      with_reducible rfl
     rotate_left
     ·simp only [Act.put,sI,sZ,sS,i64_w,i32_w]
      rfl
     refine one_ (i:=5) (N:=some 17) #[bT,bT,bT,bT,bT,bT] rfl rfl (by kernel_rfl) (by decide) (fun K hK => ?_)
     refine goes_ Try.func49 (by kernel_rfl) rfl #[.agg #[.int .i64 ((rd_T48 l0 x5_1).f0),.slice A443_1 ((rd_T48 l0 x5_1).f1).length c443_1],.agg #[.int .i64 a1_0,.slice A1_1 l1_1.length c1_1]] (by rfl) rfl rfl (by (try simp only [List.map_toArray,List.map_cons,List.map_nil]);first|done|rfl|(simp only [List.length_drop,List.length_take];rfl)) ?_
     with_reducible refine (laws_lwVote.calls k1 ((rd_T48 l0 x5_1).f0) _ _ ((rd_T48 l0 x5_1).f1) a1_0 _ _ l1_1 true _ ?side1 ?side2 ?side3 ?side4 A6.out).mono ?_
     (case side1 => repeat (first|exact (Kd.C_below HR443_1.out HB.out)|(with_reducible refine Kd.C_alloc ?_ _)|(with_reducible refine Kd.C_drewN ?_ _)|(with_reducible refine Kd.C_drew ?_)))
     (case side2 => exact HC443_1.out)
     (case side3 => repeat (first|exact (Kd.C_below HR1_1.out HB.out)|(with_reducible refine Kd.C_alloc ?_ _)|(with_reducible refine Kd.C_drewN ?_ _)|(with_reducible refine Kd.C_drew ?_)))
     (case side4 => exact HC1_1.out)
     rintro e w9 ⟨rfl,hb⟩
     refine ⟨_,rfl,?_⟩
     have n0_:=aM (blk_below (g:=gb442) (o:=.cells #[.int .i64 a1_0,.slice A1_1 l1_1.length c1_1] 48 (0,0)) (by (with_reducible repeat (first|refine blk_drewN ?_ _|refine blk_drew ?_|refine blk_alloc ?_ _));exact BK442.out) hb)
     have n1_:=aM (below_step (by repeat (first|(with_reducible first|exact HB.out|apply bA|apply bN|apply bD|refine below_set ?_ GE442.out)|exact HB.out)) hb)
     clear BK442
     clear HB
     have BK442:=n0_
     have HB:=n1_
     clear n0_ n1_
     (try clear hb)
     (try clear hb2)
     (try clear hk)
     (try clear hi)
     refine hK.out _ _ ⟨(blk_cell BK442.out 0).trans rfl,(blk_cell BK442.out 1).trans rfl,((HB.out.cell (bL w hw443_0)).trans hw443_0),((HB.out.cell (bL w hw443_1)).trans hw443_1)⟩ (fun hHeld => ?_)
     clear hK K
     refine norm_ (a':=?_) ?_ ?_
     rotate_left
     ·show Act.put _ (some 17) _ = _
      simp only [Act.put,sI,sZ,sS,i64_w,i32_w]
      rfl
     refine done_ (by kernel_rfl) ?_
     try go_wp2
     go_ret
     exact ⟨by first|rfl|(simp only [i64_w,i32_w];done)|(simp only [i64_w,i32_w];rfl)|(simp [errW_none,errW_some] <;> rfl)|(simp [*,errW_none,errW_some] <;> rfl),by repeat (first|(with_reducible first|exact HB.out|apply bA|apply bN|apply bD|refine below_set ?_ GE442.out)|exact HB.out)⟩
    ·replace c7:=Bool.eq_false_iff.mpr c7
     subst c7
     have H1 : (laws_lwHas.l0 k1 l0 (wrap64 (x5_1 + 1)) a1_0 l1_1) = some r:=by rw [if_neg (show ¬ (false = true) by decide)] at H;exact H
     clear H
     have H:=H1
     clear H1
     have H':=aM H
     clear H
     try go_wp2
     have n0_:=aM (blk_drew BK442.out)
     have n1_:=aM (bD HB.out)
     clear BK442
     clear HB
     have BK442:=n0_
     have HB:=n1_
     clear n0_ n1_
     have p443 : 0 ≤ (x5_1 : Int):=of_decide_eq_true (by first|(with_reducible assumption)|assumption)
     have q443 : x5_1 < (l0.length : Int):=of_decide_eq_true (by first|(with_reducible assumption)|assumption)
     obtain ⟨ad443,A443_1,c443_1,e443,hx443_0,hx443_1,hl443_1,hi443_1⟩:=at_T48 HR0.out x5_1 p443 q443
     have hw443_1:=hx443_1
     have hw443_0:=hx443_0
     cases e443
     replace hx443_0:=(HB.out.cell (bL w hx443_0)).trans hx443_0
     replace hx443_1:=(HB.out.cell (bL w hx443_1)).trans hx443_1
     have HR443_1:=aM hi443_1
     have HC443_1:=aM hl443_1
     clear hi443_1 hl443_1
     replace p443:=eq_true p443
     replace q443:=eq_true q443
     refine start_ (n:=6) (S:=fun w' => w'.cell? ⟨gb442,0,none⟩ = some (.int .i64 a1_0) ∧ w'.cell? ⟨gb442,1,none⟩ = some (.slice A1_1 l1_1.length c1_1) ∧ w'.cell? (ad443.add ((x5_1).toNat * 2)) = some (.int .i64 ((rd_T48 l0 x5_1).f0)) ∧ w'.cell? ⟨(ad443.add ((x5_1).toNat * 2)).block,(ad443.add ((x5_1).toNat * 2)).off + 1,none⟩ = some (.slice A443_1 ((rd_T48 l0 x5_1).f1).length c443_1)) (ds:=[]) #[bF,bF,bF,bF,bF,bF] (by kernel_rfl) rfl rfl ⟨(blk_cell BK442.out 0).trans rfl,(blk_cell BK442.out 1).trans rfl,((HB.out.cell (bL w hw443_0)).trans hw443_0),((HB.out.cell (bL w hw443_1)).trans hw443_1)⟩ (fun hHeld => ?_)
     generalize wr.drew = w10 at BK442 HB HR443_1 hx443_0 hx443_1 hHeld ⊢
     refine pure_ (i:=0) (N:=some 12) (v:=?_) (a':=?_) #[bT,bF,bF,bF,bF,bF] rfl rfl (by kernel_rfl) (fun _ _ _ h => h) (Or.inl ⟨by rfl,?_⟩) ?_ ?_
     rotate_left;(· intro w';go_simp;with_reducible rfl);rotate_left;(· simp only [Act.put,sI,sZ,sS,i64_w,i32_w];rfl)
     refine pure_ (i:=1) (N:=some 13) (v:=?_) (a':=?_) #[bT,bT,bF,bF,bF,bF] rfl rfl (by kernel_rfl) (fun _ _ _ h => h) (Or.inl ⟨by rfl,?_⟩) ?_ ?_
     rotate_left;(· intro w';go_simp;with_reducible rfl);rotate_left;(· simp only [Act.put,sI,sZ,sS,i64_w,i32_w];rfl)
     refine pure_ (i:=2) (N:=some 14) (v:=?_) (a':=?_) #[bT,bT,bT,bF,bF,bF] rfl rfl (by kernel_rfl) (fun _ _ _ h => h) (Or.inl ⟨by rfl,?_⟩) ?_ ?_
     rotate_left;(· intro w';go_simp;with_reducible rfl);rotate_left;(· simp only [Act.put,sI,sZ,sS,i64_w,i32_w];rfl)
     refine take_ (i:=3) (N:=some 15) (v:=?_) (a':=?_) #[bT,bT,bT,bT,bF,bF] rfl rfl (by kernel_rfl) (fun _ _ _ h => h) (Or.inl ⟨by rfl,?_⟩) hHeld ?_ ?_
     rotate_left
     ·rintro w' ⟨s0,s1,s2,s3⟩
      (try simp only [Int.toNat_natCast] at s0 s1 s2 s3)
      go_simp
      with_reducible rfl
     rotate_left
     ·simp only [Act.put,sI,sZ,sS,i64_w,i32_w]
      rfl
     refine take_ (i:=4) (N:=some 16) (v:=?_) (a':=?_) #[bT,bT,bT,bT,bT,bF] rfl rfl (by kernel_rfl) (fun _ _ _ h => h) (Or.inl ⟨by rfl,?_⟩) hHeld ?_ ?_
     rotate_left
     ·rintro w' ⟨s0,s1,s2,s3⟩
      (try simp only [Int.toNat_natCast] at s0 s1 s2 s3)
      go_simp
      with_reducible rfl
     rotate_left
     ·simp only [Act.put,sI,sZ,sS,i64_w,i32_w]
      rfl
     refine one_ (i:=5) (N:=some 17) #[bT,bT,bT,bT,bT,bT] rfl rfl (by kernel_rfl) (by decide) (fun K hK => ?_)
     refine goes_ Try.func49 (by kernel_rfl) rfl #[.agg #[.int .i64 ((rd_T48 l0 x5_1).f0),.slice A443_1 ((rd_T48 l0 x5_1).f1).length c443_1],.agg #[.int .i64 a1_0,.slice A1_1 l1_1.length c1_1]] (by rfl) rfl rfl (by (try simp only [List.map_toArray,List.map_cons,List.map_nil]);first|done|rfl|(simp only [List.length_drop,List.length_take];rfl)) ?_
     with_reducible refine (laws_lwVote.calls k1 ((rd_T48 l0 x5_1).f0) _ _ ((rd_T48 l0 x5_1).f1) a1_0 _ _ l1_1 false _ ?side1 ?side2 ?side3 ?side4 A6.out).mono ?_
     (case side1 => repeat (first|exact (Kd.C_below HR443_1.out HB.out)|(with_reducible refine Kd.C_alloc ?_ _)|(with_reducible refine Kd.C_drewN ?_ _)|(with_reducible refine Kd.C_drew ?_)))
     (case side2 => exact HC443_1.out)
     (case side3 => repeat (first|exact (Kd.C_below HR1_1.out HB.out)|(with_reducible refine Kd.C_alloc ?_ _)|(with_reducible refine Kd.C_drewN ?_ _)|(with_reducible refine Kd.C_drew ?_)))
     (case side4 => exact HC1_1.out)
     rintro e w11 ⟨rfl,hb⟩
     refine ⟨_,rfl,?_⟩
     have n0_:=aM (blk_below (g:=gb442) (o:=.cells #[.int .i64 a1_0,.slice A1_1 l1_1.length c1_1] 48 (0,0)) (by (with_reducible repeat (first|refine blk_drewN ?_ _|refine blk_drew ?_|refine blk_alloc ?_ _));exact BK442.out) hb)
     have n1_:=aM (below_step (by repeat (first|(with_reducible first|exact HB.out|apply bA|apply bN|apply bD|refine below_set ?_ GE442.out)|exact HB.out)) hb)
     clear BK442
     clear HB
     have BK442:=n0_
     have HB:=n1_
     clear n0_ n1_
     (try clear hb)
     (try clear hb2)
     (try clear hk)
     (try clear hi)
     refine hK.out _ _ ⟨(blk_cell BK442.out 0).trans rfl,(blk_cell BK442.out 1).trans rfl,((HB.out.cell (bL w hw443_0)).trans hw443_0),((HB.out.cell (bL w hw443_1)).trans hw443_1)⟩ (fun hHeld => ?_)
     clear hK K
     refine norm_ (a':=?_) ?_ ?_
     rotate_left
     ·show Act.put _ (some 17) _ = _
      simp only [Act.put,sI,sZ,sS,i64_w,i32_w]
      rfl
     refine done_ (by kernel_rfl) ?_
     try go_wp2
     go_roundg k1
     case measure => have:=HK1.out;omega
     case rel => exact ⟨(wrap64 (x5_1 + 1)),(by first|rfl|(simp;done)|(simp [*];done)),H',⟨by have:=HK1.out;omega⟩,⟨by (with_reducible repeat (first|refine blk_drewN ?_ _|refine blk_drew ?_|refine blk_alloc ?_ _));exact BK442.out⟩,⟨by repeat (first|(with_reducible first|exact HB.out|apply bA|apply bN|apply bD|refine below_set ?_ GE442.out)|exact HB.out)⟩⟩
   ·rw [if_neg c4] at H
    have c4b0 : decide (x5_1 < (l0.length : Int)) = false:=decide_eq_false c4
    clear c4
    obtain rfl:=Option.some.inj H
    go_wp2
    go_ret
    exact ⟨by first|rfl|(simp only [i64_w,i32_w];done)|(simp only [i64_w,i32_w];rfl)|(simp [errW_none,errW_some] <;> rfl)|(simp [*,errW_none,errW_some] <;> rfl),by repeat (first|(with_reducible first|exact HB.out|apply bA|apply bN|apply bD|refine below_set ?_ GE442.out)|exact HB.out)⟩

/-! ### laws_lwBack: function 32 -/
def laws_lwBack.l0 : Nat → List (S48) → List (S48) → Int → Option ((List (S48)))
 | 0,_,_,_ => none
 | k + 1,x0,x3,x4 => if x4 ≥ 0 then (if 0 ≤ x4 then (if x4 < (x0.length : Int) then (if x3.length < 4398046511104 then (laws_lwBack.l0 k x0 (x3 ++ [(⟨(rd_T48 x0 x4).f0,(rd_T48 x0 x4).f1⟩ : S48)]) (wrap64 (x4 - 1))) else (none)) else (none)) else (none)) else (some x3)
def laws_lwBack.f (k : Nat) (l0 : List (S48)) : Option ((List (S48))):=laws_lwBack.l0 k l0 (([] : List (S48))) (wrap64 ((l0.length : Int) - 1))
theorem laws_lwBack.mono_l : ∀ k,(∀ y0 y1 y2,LeO (laws_lwBack.l0 k y0 y1 y2) (laws_lwBack.l0 (k + 1) y0 y1 y2))
 | 0 => fun _ _ _ r h => by simp [laws_lwBack.l0] at h
 | k + 1 => by
  have ih0:=laws_lwBack.mono_l k
  ·intro y0 y1 y2
   unfold laws_lwBack.l0
   repeat' first
   | exact LeO.refl _
   | exact ih0 _ _ _
   | exact LeO.none _
   | refine LeO.ite ?_ ?_
   | refine LeO.bind ?_ (fun _ => ?_)
theorem laws_lwBack.mono : ∀ a0 k,LeO (laws_lwBack.f k a0) (laws_lwBack.f (k + 1) a0):=by
 intro a0 k
 have ih0:=laws_lwBack.mono_l k
 unfold laws_lwBack.f
 repeat' first
   | exact LeO.refl _
   | exact ih0 _ _ _
   | exact LeO.none _
   | refine LeO.ite ?_ ?_
   | refine LeO.bind ?_ (fun _ => ?_)
set_option maxHeartbeats 8000000 in
set_option maxRecDepth 100000 in
theorem laws_lwBack.calls (k : Nat) (P0_ : Nat → Prop) (A0 : Option Addr) (c0 : Nat) (l0 : List (S48)) (r : List (S48)) (w : World) (hs0 : Kd.V k48 48 w w.heap.size (fun k_ => P0_ k_) (.slice A0 l0.length c0) l0) (h : laws_lwBack.f k l0 = some r) :
  Calls Try.prog 32 #[.slice A0 l0.length c0] w fun e w' => ∃ v0_ : Value,e = .returned (v0_) ∧ Kd.N k48 48 w' w.heap.size (fun k_ => (P0_ k_ ∨ w.heap.size ≤ k_)) v0_ r ∧ Below w.heap.size w w':=by
 have hu48:=Try.underlying48
 have HO0:=aM (show Kd.V k48 48 w w.heap.size (fun k_ => (P0_ k_ ∨ w.heap.size ≤ k_)) (.slice A0 l0.length c0) l0 from Kd.V_mono hs0 (fun k_ hk => .inl hk))
 have HB:=aM (Below.refl w.heap.size w)
 have H : (laws_lwBack.l0 k l0 (([] : List (S48))) (wrap64 ((l0.length : Int) - 1))) = some r:=h
 clear h
 obtain ⟨y445,hy445⟩ : ∃ y_ : List (S48),y_ = (([] : List (S48))):=⟨_,rfl⟩
 replace H : (laws_lwBack.l0 k l0 y445 (wrap64 ((l0.length : Int) - 1))) = some r:=by first|(rw [hy445];with_reducible exact H)|(have H2_:=(Option.bind_some _ _).symm.trans H;rw [hy445];with_reducible exact H2_)|(have H2_:=(Option.bind_some _ _).symm.trans H;with_reducible exact H2_)|with_reducible exact H|(rw [hy445];exact H)|exact H
 have Ny445:=aM hy445
 clear hy445
 have H':=aM H
 clear H
 go_enter Try.func32,Try.ntmps32
 go_wp2_with (first|((with_reducible refine gate_dst (N:=5) rfl ?_);refine Kd.N_lit k48 _ 48 ?hg (N':=5) ?hd (xs:=([] : List (S48))) (inner:=[]) (ok:=(fun k_ => (P0_ k_ ∨ w.heap.size ≤ k_))) (okp:=(fun k_ => (P0_ k_ ∨ w.heap.size ≤ k_))) ?hr ?hp (fun _ hk => hk) ((show ∀ k_,w.heap.size ≤ k_ → (fun k_ => (P0_ k_ ∨ w.heap.size ≤ k_)) k_ from fun k_ hk => (.inr (Nat.le_trans (below_size (by repeat (first|(with_reducible first|exact HB.out|apply bA|apply bN|apply bD)|exact HB.out))) hk))) _ (Nat.le_refl _)) (Below.refl _ _) (Nat.le_refl _) (by simp) ?_;(case hd => rfl);(case hg => rfl);(case hr => first|(go_simp;done)|(go_simp;rfl));(case hp => exact (Reps.none _ _));intro v446 w2 ho3 hb hg_ hnew_;clear hg_ hnew_;(first|rw [← Ny445.out] at ho3|(simp only [Int.reduceToNat] at ho3;rw [← Ny445.out] at ho3));have n0_:=aM (Kd.V_elder' (by (with_reducible repeat (first|apply Kd.V_alloc|apply Kd.V_drewN|apply Kd.V_drew));exact HO0.out) (Kd.N_base ho3) hb);have n1_:=aM (Kd.N_lower ho3 (below_size (by repeat (first|(with_reducible first|exact HB.out|apply bA|apply bN|apply bD)|exact HB.out))));have n2_:=aM (below_step (by repeat (first|(with_reducible first|exact HB.out|apply bA|apply bN|apply bD)|exact HB.out)) hb);clear HO0;clear HB;have HO0:=n0_;have HO447:=n1_;have HB:=n2_;clear n0_ n1_ n2_;clear hb ho3))
 go_loopg [3,4] k (fun kq v3 v4 w' => ∃ (x3_1 : List (S48)) (x4_1 : Int),v4 = .int .i64 x4_1 ∧ Aside0 (laws_lwBack.l0 kq l0 x3_1 x4_1 = some r) ∧ Aside0 (kq ≤ k) ∧ Aside0 (Kd.V k48 48 w' w.heap.size (fun k_ => (P0_ k_ ∨ w.heap.size ≤ k_) ∧ some k_ ≠ (v3 : Value).ownBlock) (.slice A0 l0.length c0) l0) ∧ Aside0 (Kd.N k48 48 w' w.heap.size (fun k_ => (P0_ k_ ∨ w.heap.size ≤ k_)) v3 x3_1) ∧ Aside0 (Below w.heap.size w w'))
 case atStart => exact ⟨(y445),(wrap64 ((l0.length : Int) - 1)),(by first|rfl|(simp;done)|(simp [*];done)),H',⟨Nat.le_refl _⟩,⟨by (with_reducible repeat (first|apply Kd.V_alloc|apply Kd.V_drewN|apply Kd.V_drew));exact HO0.out⟩,⟨by (with_reducible repeat (first|apply Kd.N_alloc|apply Kd.N_drewN|apply Kd.N_drew));exact HO447.out⟩,⟨by repeat (first|(with_reducible first|exact HB.out|apply bA|apply bN|apply bD)|exact HB.out)⟩⟩
 case round =>
  clear H'
  try clear p2
  try clear c3
  obtain ⟨x3_1,x4_1,rfl,HA,HK1,HO_0,HO_3,HB⟩:=hrel
  cases gk with
  | zero => exact absurd HA.out (by simp [laws_lwBack.l0])
  | succ k1 =>
   have H:=HA.out
   clear HA
   simp only [laws_lwBack.l0] at H
   by_cases c4 : x4_1 ≥ 0
   ·rw [if_pos c4] at H
    have c4b0 : decide (0 ≤ x4_1) = true:=decide_eq_true c4
    clear c4
    by_cases c5 : 0 ≤ x4_1
    case neg => rw [if_neg c5] at H;exact absurd H (by simp)
    rw [if_pos c5] at H
    have c5b0 : decide (0 ≤ x4_1) = true:=decide_eq_true c5
    clear c5
    by_cases c6 : x4_1 < (l0.length : Int)
    case neg => rw [if_neg c6] at H;exact absurd H (by simp)
    rw [if_pos c6] at H
    have c6b0 : decide (x4_1 < (l0.length : Int)) = true:=decide_eq_true c6
    clear c6
    by_cases c7 : x3_1.length < 4398046511104
    case neg => rw [if_neg c7] at H;exact absurd H (by simp)
    rw [if_pos c7] at H
    have LMc7:=aM c7
    clear c7
    obtain ⟨y449,hy449⟩ : ∃ y_ : List (S48),y_ = (x3_1 ++ [(⟨(rd_T48 l0 x4_1).f0,(rd_T48 l0 x4_1).f1⟩ : S48)]):=⟨_,rfl⟩
    replace H : (laws_lwBack.l0 k1 l0 y449 (wrap64 (x4_1 - 1))) = some r:=by first|(rw [hy449];with_reducible exact H)|(have H2_:=(Option.bind_some _ _).symm.trans H;rw [hy449];with_reducible exact H2_)|(have H2_:=(Option.bind_some _ _).symm.trans H;with_reducible exact H2_)|with_reducible exact H|(rw [hy449];exact H)|exact H
    have Ny449:=aM hy449
    clear hy449
    have H':=aM H
    clear H
    have p448 : 0 ≤ (x4_1 : Int):=of_decide_eq_true (by first|(with_reducible assumption)|assumption)
    have q448 : x4_1 < (l0.length : Int):=of_decide_eq_true (by first|(with_reducible assumption)|assumption)
    obtain ⟨ad448,A448_1,c448_1,e448,hx448_0,hx448_1,hl448_1,hi448_1⟩:=at_T48 (Kd.V_reads' HO_0.out).2.2 x4_1 p448 q448
    cases e448
    obtain ⟨ce448,hce448,hMe448,hcc448⟩:=Kd.V_get HO_0.out z48 x4_1 p448 (by first|exact q448|exact of_decide_eq_true (by first|(with_reducible assumption)|assumption)|(have e_:=(Kd.V_reads' HO_0.out).1;omega))
    obtain ⟨ua448_1,uc448_1,rfl,ul448_1,ge448_1⟩:=k48_openF hMe448
    have hv448_1:=hcc448 1 _ rfl
    rw [add_field _ _ 1 (by omega)] at hv448_1
    replace hv448_1:=Option.some.inj (hv448_1.symm.trans hx448_1)
    injection hv448_1 with hva_ hvn_ hvc_
    rw [hva_] at ge448_1
    rw [hvc_] at ul448_1
    have HL448_1:=aM (show Kd.V k58 58 _ w.heap.size _ _ ((rd_T48 l0 x4_1).f1) from Kd.V_mk ul448_1 ge448_1)
    clear hva_ hvn_ hvc_ ge448_1 ul448_1
    clear hcc448 hce448
    have HR448_1:=aM hi448_1
    have HC448_1:=aM hl448_1
    clear hi448_1 hl448_1
    replace p448:=eq_true p448
    replace q448:=eq_true q448
    go_wp2_with (first|((with_reducible refine gate_builtin (b:=.append) (xs:=#[.tmp 13,.tmp 18]) rfl ?_);at_builtin;refine Kd.N_append k48 (w0:=w) w.heap.size rfl (.tmp 13) (.tmp 18) 27 48 (.agg #[(.int .i64 0),(.slice none 0 0)]) 32 rfl Try.underlying27 info48 rfl (by decide) (by omega) u3 x3_1 (⟨(rd_T48 l0 x4_1).f0,(rd_T48 l0 x4_1).f1⟩ : S48) [.int .i64 ((rd_T48 l0 x4_1).f0),.slice A448_1 ((rd_T48 l0 x4_1).f1).length c448_1] (fun k_ => (P0_ k_ ∨ w.heap.size ≤ k_)) (fun k_ => ((fun k_ => (P0_ k_ ∨ w.heap.size ≤ k_))) k_ ∧ some k_ ≠ (u3 : Value).ownBlock) rfl rfl ?aP (fun _ hk => hk) ?aF ?aO ?aB ?aS ?aL ?_;(case aP => exact (k48_mkF _ _ (⟨(rd_T48 l0 x4_1).f0,(rd_T48 l0 x4_1).f1⟩ : S48) (Kd.V_reads' (Kd.V_mono (ok':=(fun k_ => ((fun k_ => (P0_ k_ ∨ w.heap.size ≤ k_))) k_ ∧ some k_ ≠ (u3 : Value).ownBlock)) (HL448_1.out) (fun k_ hk => ⟨hk.1,hk.2⟩))).2.1 (Kd.V_F (Kd.V_mono (ok':=(fun k_ => ((fun k_ => (P0_ k_ ∨ w.heap.size ≤ k_))) k_ ∧ some k_ ≠ (u3 : Value).ownBlock)) (HL448_1.out) (fun k_ hk => ⟨hk.1,hk.2⟩)))));(case aB => exact (by repeat (first|(with_reducible first|exact HB.out|apply bA|apply bN|apply bD)|exact HB.out)));(case aF => exact (fun k_ hk => (.inr (Nat.le_trans (below_size (by repeat (first|(with_reducible first|exact HB.out|apply bA|apply bN|apply bD)|exact HB.out))) hk))));(case aO => exact (by (with_reducible repeat (first|apply Kd.N_alloc|apply Kd.N_drewN|apply Kd.N_drew));exact HO_3.out));(case aS => exact (below_size (by repeat (first|(with_reducible first|exact HB.out|apply bA|apply bN|apply bD)|exact HB.out))));(case aL => have:=LMc7.out;omega);intro v450 w8 ho hb hg hat;rw [← Ny449.out] at ho;have n0_:=aM (Kd.V_afterv (ok:=(fun k_ => (P0_ k_ ∨ w.heap.size ≤ k_))) (by (with_reducible repeat (first|apply Kd.V_alloc|apply Kd.V_drewN|apply Kd.V_drew));exact HO_0.out) hg hat);have n1_:=aM (Kd.V_afterv (ok:=(fun k_ => (P0_ k_ ∨ w.heap.size ≤ k_))) (by (with_reducible repeat (first|apply Kd.V_alloc|apply Kd.V_drewN|apply Kd.V_drew));exact HL448_1.out) hg hat);have n2_:=aM (hb);have n3_:=aM (ho);clear HO_0;clear HL448_1;clear HB;clear HO_3;have HO_0:=n0_;have HL448_1:=n1_;have HB:=n2_;have HO451:=n3_;clear n0_ n1_ n2_ n3_;clear ho hb hg hat))
    go_roundg k1
    case measure => have:=HK1.out;omega
    case rel => exact ⟨(y449),(wrap64 (x4_1 - 1)),(by first|rfl|(simp;done)|(simp [*];done)),H',⟨by have:=HK1.out;omega⟩,⟨by (with_reducible repeat (first|apply Kd.V_alloc|apply Kd.V_drewN|apply Kd.V_drew));exact HO_0.out⟩,⟨by (with_reducible repeat (first|apply Kd.N_alloc|apply Kd.N_drewN|apply Kd.N_drew));exact HO451.out⟩,⟨by repeat (first|(with_reducible first|exact HB.out|apply bA|apply bN|apply bD)|exact HB.out)⟩⟩
   ·rw [if_neg c4] at H
    have c4b0 : decide (0 ≤ x4_1) = false:=decide_eq_false c4
    clear c4
    obtain rfl:=Option.some.inj H
    go_wp2
    go_ret
    exact ⟨_,by first|rfl|(simp only [i64_w,i32_w];done)|(simp only [i64_w,i32_w];rfl)|(simp [errW_none,errW_some] <;> rfl)|(simp [*,errW_none,errW_some] <;> rfl),by (with_reducible repeat (first|apply Kd.N_alloc|apply Kd.N_drewN|apply Kd.N_drew));exact HO_3.out,by repeat (first|(with_reducible first|exact HB.out|apply bA|apply bN|apply bD)|exact HB.out)⟩

end Go.Proofs.Ytknmmkgaijndfaa.P
