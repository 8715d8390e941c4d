/- The printed functions: what each Go function computes, as a Lean function, and that the Go code comes to just that. Conditions: none beyond each contract's own. -/
import Derived.Test.YtaccamnoacdiiaaPx0
import Derived.Test.YtaccamnoacdiiaaPx2
namespace Go.Proofs.Ytaccamnoacdiiaa.P
open Go.RowKit Go.Proofs.YtaccamnoacdiiaaW.PrintWords Go.Proofs.YtaccamnoacdiiaaW.PrintLast Go.Proofs.YtaccamnoacdiiaaW.PrintMore
attribute [local go_sem] max2_int min2_int max_two min_two max_three min_three max_four min_four   -- for this text's walks alone
set_option linter.unusedVariables false
set_option linter.unusedSimpArgs false

/-! ### laws_eqVote: function 15 -/
def laws_eqVote.f (k : Nat) (a0_0 : Int) (l0_1 : List (S65)) (a1_0 : Int) (l1_1 : List (S65)) : Option (Bool):=if a0_0 = a1_0 then ((laws_eqItemS.f k l0_1 l1_1).bind fun t126 => (if t126 = true then (some true) else (some false))) else (some false)
theorem laws_eqVote.mono : ∀ a0 a1 a2 a3 k,LeO (laws_eqVote.f k a0 a1 a2 a3) (laws_eqVote.f (k + 1) a0 a1 a2 a3):=by
 intro a0 a1 a2 a3 k
 unfold laws_eqVote.f
 repeat' first
   | exact LeO.refl _
   | exact laws_eqItemS.mono _ _ _
   | exact LeO.none _
   | refine LeO.ite ?_ ?_
   | refine LeO.bind ?_ (fun _ => ?_)
set_option maxHeartbeats 8000000 in
set_option maxRecDepth 100000 in
theorem laws_eqVote.calls (k : Nat) (a0_0 : Int) (A0_1 : Option Addr) (c0_1 : Nat) (l0_1 : List (S65)) (a1_0 : Int) (A1_1 : Option Addr) (c1_1 : Nat) (l1_1 : List (S65)) (r : Bool) (w : World) (hr0_1 : Kd.C k65 w A0_1 l0_1.length l0_1) (hc0_1 : l0_1.length ≤ c0_1) (hr1_1 : Kd.C k65 w A1_1 l1_1.length l1_1) (hc1_1 : l1_1.length ≤ c1_1) (h : laws_eqVote.f k a0_0 l0_1 a1_0 l1_1 = some r) :
  Calls Try.prog 15 #[.agg #[.int .i64 a0_0,.slice A0_1 l0_1.length c0_1],.agg #[.int .i64 a1_0,.slice A1_1 l1_1.length c1_1]] w fun e w' => e = .returned (.bool r) ∧ Below w.heap.size w w':=by
 have hu25:=Try.underlying25
 have HR0_1:=aM hr0_1
 have HC0_1:=aM hc0_1
 clear hr0_1 hc0_1
 have HR1_1:=aM hr1_1
 have HC1_1:=aM hc1_1
 clear hr1_1 hc1_1
 have HB:=aM (Below.refl w.heap.size w)
 have H : (if a0_0 = a1_0 then ((laws_eqItemS.f k l0_1 l1_1).bind fun t126 => (if t126 = true then (some true) else (some false))) else (some false)) = some r:=h
 clear h
 by_cases c3 : a0_0 = a1_0
 ·rw [if_pos c3] at H
  have c3b0 : (a0_0 == a1_0) = true:=beq_iff_eq.mpr c3
  have c3b1 : (a0_0 != a1_0) = false:=bne_eq_false_iff_eq.mpr c3
  clear c3
  replace H:=Option.bind_eq_some_iff.mp H
  obtain ⟨t126,A40,H⟩:=H
  replace H : (if t126 = true then (some true) else (some false)) = some r:=H
  have A4:=aM A40
  clear A40
  by_cases c5 : t126 = true
  ·subst c5
   have H1 : (some true) = some r:=by rw [if_pos rfl] at H;exact H
   clear H
   have H:=H1
   clear H1
   obtain rfl:=Option.some.inj H
   go_enter Try.func15,Try.ntmps15
   go_wp2_with (first|((with_reducible refine gate_dst (N:=2) rfl ?_);refine box_event ?hg (N:=2) ?hd (cs:=#[.int .i64 a0_0,.slice A0_1 l0_1.length c0_1]) (t:=25) ?hr ?_;(case hd => rfl);(case hg => rfl);(case hr => first|(go_simp;done)|(go_simp;rfl));intro gb124 hg w6 hbox hb;have n0_:=aM (below_step (by repeat (first|(with_reducible first|exact HB.out|apply bA|apply bN|apply bD)|exact HB.out)) hb);have n1_:=aM (hbox);have n2_:=aM ((by rw [hg];exact (below_size (by repeat (first|(with_reducible first|exact HB.out|apply bA|apply bN|apply bD)|exact HB.out))) : w.heap.size ≤ gb124));have n3_:=aM ((by rw [hg];exact (below_size (by repeat (first|(with_reducible first|exact HB.out|apply bA|apply bN|apply bD)|exact HB.out))) : w.heap.size ≤ gb124));clear HB;have HB:=n0_;have BK124:=n1_;have GW124:=n2_;have GE124:=n3_;clear n0_ n1_ n2_ n3_;clear hb hbox hg)|((with_reducible refine gate_dst (N:=3) rfl ?_);refine box_event ?hg (N:=3) ?hd (cs:=#[.int .i64 a1_0,.slice A1_1 l1_1.length c1_1]) (t:=25) ?hr ?_;(case hd => rfl);(case hg => rfl);(case hr => first|(go_simp;done)|(go_simp;rfl));intro gb125 hg w7 hbox hb;have n0_:=aM (blk_below (g:=gb124) (o:=.cells #[.int .i64 a0_0,.slice A0_1 l0_1.length c0_1] 25 (0,0)) (by (with_reducible repeat (first|refine blk_drewN ?_ _|refine blk_drew ?_|refine blk_alloc ?_ _));exact BK124.out) hb);have n1_:=aM (below_step (by repeat (first|(with_reducible first|exact HB.out|apply bA|apply bN|apply bD|refine below_set ?_ GE124.out)|exact HB.out)) hb);have n2_:=aM (hbox);have n3_:=aM ((by rw [hg];exact (below_size (by repeat (first|(with_reducible first|exact HB.out|apply bA|apply bN|apply bD|refine below_set ?_ GE124.out)|exact HB.out))) : w.heap.size ≤ gb125));have n4_:=aM ((by rw [hg];exact (below_size (by repeat (first|(with_reducible first|exact HB.out|apply bA|apply bN|apply bD|refine below_set ?_ GE124.out)|exact HB.out))) : w.heap.size ≤ gb125));have n5_:=aM ((by rw [hg];exact Nat.ne_of_lt (blk_lt (g:=gb124) (o:=.cells #[.int .i64 a0_0,.slice A0_1 l0_1.length c0_1] 25 (0,0)) (by (with_reducible repeat (first|refine blk_drewN ?_ _|refine blk_drew ?_|refine blk_alloc ?_ _));exact BK124.out)) : gb124 ≠ gb125));have n6_:=aM ((by rw [hg];exact Nat.ne_of_gt (blk_lt (g:=gb124) (o:=.cells #[.int .i64 a0_0,.slice A0_1 l0_1.length c0_1] 25 (0,0)) (by (with_reducible repeat (first|refine blk_drewN ?_ _|refine blk_drew ?_|refine blk_alloc ?_ _));exact BK124.out)) : gb125 ≠ gb124));clear BK124;clear HB;have BK124:=n0_;have HB:=n1_;have BK125:=n2_;have GW125:=n3_;have GE125:=n4_;have NB124_125:=n5_;have NB125_124:=n6_;clear n0_ n1_ n2_ n3_ n4_ n5_ n6_;clear hb hbox hg;have hnb8:=NB124_125.out;have hnc8:=NB125_124.out;have hcz9_0 : w7.cell? ⟨gb124,0,none⟩ = some (.int .i64 a0_0):=(blk_cell BK124.out 0).trans rfl;have hcz9_1 : w7.cell? ⟨gb124,1,none⟩ = some (.slice A0_1 l0_1.length c0_1):=(blk_cell BK124.out 1).trans rfl;have hfz9_0:=blk_frozen BK124.out 0;have hfz9_1:=blk_frozen BK124.out 1;have hcz10_0 : w7.cell? ⟨gb125,0,none⟩ = some (.int .i64 a1_0):=(blk_cell BK125.out 0).trans rfl;have hcz10_1 : w7.cell? ⟨gb125,1,none⟩ = some (.slice A1_1 l1_1.length c1_1):=(blk_cell BK125.out 1).trans rfl;have hfz10_0:=blk_frozen BK125.out 0;have hfz10_1:=blk_frozen BK125.out 1)|((with_reducible refine gate_callee (f:=40) rfl ?_);refine goesL_ (some 14) rfl rfl Try.func40 (by kernel_rfl) rfl #[.slice A0_1 l0_1.length c0_1,.slice A1_1 l1_1.length c1_1] rfl (by (try simp only [List.map_toArray,List.map_cons,List.map_nil]);first|done|rfl|(simp only [List.length_drop,List.length_take];rfl)) ?_;(with_reducible refine (laws_eqItemS.calls k _ _ l0_1 _ _ l1_1 true _ ?side1 ?side2 ?side3 ?side4 A4.out).mono ?_);(case side1 => repeat (first|exact (Kd.C_below HR0_1.out HB.out)|(with_reducible refine Kd.C_alloc ?_ _)|(with_reducible refine Kd.C_drewN ?_ _)|(with_reducible refine Kd.C_drew ?_)));(case side2 => exact HC0_1.out);(case side3 => repeat (first|exact (Kd.C_below HR1_1.out HB.out)|(with_reducible refine Kd.C_alloc ?_ _)|(with_reducible refine Kd.C_drewN ?_ _)|(with_reducible refine Kd.C_drew ?_)));(case side4 => exact HC1_1.out);rintro e w11 ⟨rfl,hb⟩;refine ⟨_,rfl,?_⟩;have n0_:=aM (blk_below (g:=gb124) (o:=.cells #[.int .i64 a0_0,.slice A0_1 l0_1.length c0_1] 25 (0,0)) (by (with_reducible repeat (first|refine blk_drewN ?_ _|refine blk_drew ?_|refine blk_alloc ?_ _));exact BK124.out) hb);have n1_:=aM (blk_below (g:=gb125) (o:=.cells #[.int .i64 a1_0,.slice A1_1 l1_1.length c1_1] 25 (0,0)) (by (with_reducible repeat (first|refine blk_drewN ?_ _|refine blk_drew ?_|refine blk_alloc ?_ _));exact BK125.out) hb);have n2_:=aM (below_step (by repeat (first|(with_reducible first|exact HB.out|apply bA|apply bN|apply bD|refine below_set ?_ GE124.out|refine below_set ?_ GE125.out)|exact HB.out)) hb);clear BK124;clear BK125;clear HB;have BK124:=n0_;have BK125:=n1_;have HB:=n2_;clear n0_ n1_ n2_;(try clear hb);(try clear hb2);(try clear hk);(try clear hi)))
   go_ret
   exact ⟨by first|rfl|(simp only [i64_w,i32_w];done)|(simp only [i64_w,i32_w];rfl)|(simp [errW_none,errW_some] <;> rfl)|(simp [*,errW_none,errW_some] <;> rfl),by repeat (first|(with_reducible first|exact HB.out|apply bA|apply bN|apply bD|refine below_set ?_ GE124.out|refine below_set ?_ GE125.out)|exact HB.out)⟩
  ·replace c5:=Bool.eq_false_iff.mpr c5
   subst c5
   have H1 : (some false) = some r:=by rw [if_neg (show ¬ (false = true) by decide)] at H;exact H
   clear H
   have H:=H1
   clear H1
   obtain rfl:=Option.some.inj H
   go_enter Try.func15,Try.ntmps15
   go_wp2_with (first|((with_reducible refine gate_dst (N:=2) rfl ?_);refine box_event ?hg (N:=2) ?hd (cs:=#[.int .i64 a0_0,.slice A0_1 l0_1.length c0_1]) (t:=25) ?hr ?_;(case hd => rfl);(case hg => rfl);(case hr => first|(go_simp;done)|(go_simp;rfl));intro gb124 hg w12 hbox hb;have n0_:=aM (below_step (by repeat (first|(with_reducible first|exact HB.out|apply bA|apply bN|apply bD)|exact HB.out)) hb);have n1_:=aM (hbox);have n2_:=aM ((by rw [hg];exact (below_size (by repeat (first|(with_reducible first|exact HB.out|apply bA|apply bN|apply bD)|exact HB.out))) : w.heap.size ≤ gb124));have n3_:=aM ((by rw [hg];exact (below_size (by repeat (first|(with_reducible first|exact HB.out|apply bA|apply bN|apply bD)|exact HB.out))) : w.heap.size ≤ gb124));clear HB;have HB:=n0_;have BK124:=n1_;have GW124:=n2_;have GE124:=n3_;clear n0_ n1_ n2_ n3_;clear hb hbox hg)|((with_reducible refine gate_dst (N:=3) rfl ?_);refine box_event ?hg (N:=3) ?hd (cs:=#[.int .i64 a1_0,.slice A1_1 l1_1.length c1_1]) (t:=25) ?hr ?_;(case hd => rfl);(case hg => rfl);(case hr => first|(go_simp;done)|(go_simp;rfl));intro gb125 hg w13 hbox hb;have n0_:=aM (blk_below (g:=gb124) (o:=.cells #[.int .i64 a0_0,.slice A0_1 l0_1.length c0_1] 25 (0,0)) (by (with_reducible repeat (first|refine blk_drewN ?_ _|refine blk_drew ?_|refine blk_alloc ?_ _));exact BK124.out) hb);have n1_:=aM (below_step (by repeat (first|(with_reducible first|exact HB.out|apply bA|apply bN|apply bD|refine below_set ?_ GE124.out)|exact HB.out)) hb);have n2_:=aM (hbox);have n3_:=aM ((by rw [hg];exact (below_size (by repeat (first|(with_reducible first|exact HB.out|apply bA|apply bN|apply bD|refine below_set ?_ GE124.out)|exact HB.out))) : w.heap.size ≤ gb125));have n4_:=aM ((by rw [hg];exact (below_size (by repeat (first|(with_reducible first|exact HB.out|apply bA|apply bN|apply bD|refine below_set ?_ GE124.out)|exact HB.out))) : w.heap.size ≤ gb125));have n5_:=aM ((by rw [hg];exact Nat.ne_of_lt (blk_lt (g:=gb124) (o:=.cells #[.int .i64 a0_0,.slice A0_1 l0_1.length c0_1] 25 (0,0)) (by (with_reducible repeat (first|refine blk_drewN ?_ _|refine blk_drew ?_|refine blk_alloc ?_ _));exact BK124.out)) : gb124 ≠ gb125));have n6_:=aM ((by rw [hg];exact Nat.ne_of_gt (blk_lt (g:=gb124) (o:=.cells #[.int .i64 a0_0,.slice A0_1 l0_1.length c0_1] 25 (0,0)) (by (with_reducible repeat (first|refine blk_drewN ?_ _|refine blk_drew ?_|refine blk_alloc ?_ _));exact BK124.out)) : gb125 ≠ gb124));clear BK124;clear HB;have BK124:=n0_;have HB:=n1_;have BK125:=n2_;have GW125:=n3_;have GE125:=n4_;have NB124_125:=n5_;have NB125_124:=n6_;clear n0_ n1_ n2_ n3_ n4_ n5_ n6_;clear hb hbox hg;have hnb14:=NB124_125.out;have hnc14:=NB125_124.out;have hcz15_0 : w13.cell? ⟨gb124,0,none⟩ = some (.int .i64 a0_0):=(blk_cell BK124.out 0).trans rfl;have hcz15_1 : w13.cell? ⟨gb124,1,none⟩ = some (.slice A0_1 l0_1.length c0_1):=(blk_cell BK124.out 1).trans rfl;have hfz15_0:=blk_frozen BK124.out 0;have hfz15_1:=blk_frozen BK124.out 1;have hcz16_0 : w13.cell? ⟨gb125,0,none⟩ = some (.int .i64 a1_0):=(blk_cell BK125.out 0).trans rfl;have hcz16_1 : w13.cell? ⟨gb125,1,none⟩ = some (.slice A1_1 l1_1.length c1_1):=(blk_cell BK125.out 1).trans rfl;have hfz16_0:=blk_frozen BK125.out 0;have hfz16_1:=blk_frozen BK125.out 1)|((with_reducible refine gate_callee (f:=40) rfl ?_);refine goesL_ (some 14) rfl rfl Try.func40 (by kernel_rfl) rfl #[.slice A0_1 l0_1.length c0_1,.slice A1_1 l1_1.length c1_1] rfl (by (try simp only [List.map_toArray,List.map_cons,List.map_nil]);first|done|rfl|(simp only [List.length_drop,List.length_take];rfl)) ?_;(with_reducible refine (laws_eqItemS.calls k _ _ l0_1 _ _ l1_1 false _ ?side1 ?side2 ?side3 ?side4 A4.out).mono ?_);(case side1 => repeat (first|exact (Kd.C_below HR0_1.out HB.out)|(with_reducible refine Kd.C_alloc ?_ _)|(with_reducible refine Kd.C_drewN ?_ _)|(with_reducible refine Kd.C_drew ?_)));(case side2 => exact HC0_1.out);(case side3 => repeat (first|exact (Kd.C_below HR1_1.out HB.out)|(with_reducible refine Kd.C_alloc ?_ _)|(with_reducible refine Kd.C_drewN ?_ _)|(with_reducible refine Kd.C_drew ?_)));(case side4 => exact HC1_1.out);rintro e w17 ⟨rfl,hb⟩;refine ⟨_,rfl,?_⟩;have n0_:=aM (blk_below (g:=gb124) (o:=.cells #[.int .i64 a0_0,.slice A0_1 l0_1.length c0_1] 25 (0,0)) (by (with_reducible repeat (first|refine blk_drewN ?_ _|refine blk_drew ?_|refine blk_alloc ?_ _));exact BK124.out) hb);have n1_:=aM (blk_below (g:=gb125) (o:=.cells #[.int .i64 a1_0,.slice A1_1 l1_1.length c1_1] 25 (0,0)) (by (with_reducible repeat (first|refine blk_drewN ?_ _|refine blk_drew ?_|refine blk_alloc ?_ _));exact BK125.out) hb);have n2_:=aM (below_step (by repeat (first|(with_reducible first|exact HB.out|apply bA|apply bN|apply bD|refine below_set ?_ GE124.out|refine below_set ?_ GE125.out)|exact HB.out)) hb);clear BK124;clear BK125;clear HB;have BK124:=n0_;have BK125:=n1_;have HB:=n2_;clear n0_ n1_ n2_;(try clear hb);(try clear hb2);(try clear hk);(try clear hi)))
   go_ret
   exact ⟨by first|rfl|(simp only [i64_w,i32_w];done)|(simp only [i64_w,i32_w];rfl)|(simp [errW_none,errW_some] <;> rfl)|(simp [*,errW_none,errW_some] <;> rfl),by repeat (first|(with_reducible first|exact HB.out|apply bA|apply bN|apply bD|refine below_set ?_ GE124.out|refine below_set ?_ GE125.out)|exact HB.out)⟩
 ·rw [if_neg c3] at H
  have c3b0 : (a0_0 == a1_0) = false:=beq_eq_false_iff_ne.mpr c3
  have c3b1 : (a0_0 != a1_0) = true:=bne_iff_ne.mpr c3
  obtain rfl:=Option.some.inj H
  go_enter Try.func15,Try.ntmps15
  go_wp2_with (first|((with_reducible refine gate_dst (N:=2) rfl ?_);refine box_event ?hg (N:=2) ?hd (cs:=#[.int .i64 a0_0,.slice A0_1 l0_1.length c0_1]) (t:=25) ?hr ?_;(case hd => rfl);(case hg => rfl);(case hr => first|(go_simp;done)|(go_simp;rfl));intro gb124 hg w18 hbox hb;have n0_:=aM (below_step (by repeat (first|(with_reducible first|exact HB.out|apply bA|apply bN|apply bD)|exact HB.out)) hb);have n1_:=aM (hbox);have n2_:=aM ((by rw [hg];exact (below_size (by repeat (first|(with_reducible first|exact HB.out|apply bA|apply bN|apply bD)|exact HB.out))) : w.heap.size ≤ gb124));have n3_:=aM ((by rw [hg];exact (below_size (by repeat (first|(with_reducible first|exact HB.out|apply bA|apply bN|apply bD)|exact HB.out))) : w.heap.size ≤ gb124));clear HB;have HB:=n0_;have BK124:=n1_;have GW124:=n2_;have GE124:=n3_;clear n0_ n1_ n2_ n3_;clear hb hbox hg)|((with_reducible refine gate_dst (N:=3) rfl ?_);refine box_event ?hg (N:=3) ?hd (cs:=#[.int .i64 a1_0,.slice A1_1 l1_1.length c1_1]) (t:=25) ?hr ?_;(case hd => rfl);(case hg => rfl);(case hr => first|(go_simp;done)|(go_simp;rfl));intro gb125 hg w19 hbox hb;have n0_:=aM (blk_below (g:=gb124) (o:=.cells #[.int .i64 a0_0,.slice A0_1 l0_1.length c0_1] 25 (0,0)) (by (with_reducible repeat (first|refine blk_drewN ?_ _|refine blk_drew ?_|refine blk_alloc ?_ _));exact BK124.out) hb);have n1_:=aM (below_step (by repeat (first|(with_reducible first|exact HB.out|apply bA|apply bN|apply bD|refine below_set ?_ GE124.out)|exact HB.out)) hb);have n2_:=aM (hbox);have n3_:=aM ((by rw [hg];exact (below_size (by repeat (first|(with_reducible first|exact HB.out|apply bA|apply bN|apply bD|refine below_set ?_ GE124.out)|exact HB.out))) : w.heap.size ≤ gb125));have n4_:=aM ((by rw [hg];exact (below_size (by repeat (first|(with_reducible first|exact HB.out|apply bA|apply bN|apply bD|refine below_set ?_ GE124.out)|exact HB.out))) : w.heap.size ≤ gb125));have n5_:=aM ((by rw [hg];exact Nat.ne_of_lt (blk_lt (g:=gb124) (o:=.cells #[.int .i64 a0_0,.slice A0_1 l0_1.length c0_1] 25 (0,0)) (by (with_reducible repeat (first|refine blk_drewN ?_ _|refine blk_drew ?_|refine blk_alloc ?_ _));exact BK124.out)) : gb124 ≠ gb125));have n6_:=aM ((by rw [hg];exact Nat.ne_of_gt (blk_lt (g:=gb124) (o:=.cells #[.int .i64 a0_0,.slice A0_1 l0_1.length c0_1] 25 (0,0)) (by (with_reducible repeat (first|refine blk_drewN ?_ _|refine blk_drew ?_|refine blk_alloc ?_ _));exact BK124.out)) : gb125 ≠ gb124));clear BK124;clear HB;have BK124:=n0_;have HB:=n1_;have BK125:=n2_;have GW125:=n3_;have GE125:=n4_;have NB124_125:=n5_;have NB125_124:=n6_;clear n0_ n1_ n2_ n3_ n4_ n5_ n6_;clear hb hbox hg;have hnb20:=NB124_125.out;have hnc20:=NB125_124.out;have hcz21_0 : w19.cell? ⟨gb124,0,none⟩ = some (.int .i64 a0_0):=(blk_cell BK124.out 0).trans rfl;have hcz21_1 : w19.cell? ⟨gb124,1,none⟩ = some (.slice A0_1 l0_1.length c0_1):=(blk_cell BK124.out 1).trans rfl;have hfz21_0:=blk_frozen BK124.out 0;have hfz21_1:=blk_frozen BK124.out 1;have hcz22_0 : w19.cell? ⟨gb125,0,none⟩ = some (.int .i64 a1_0):=(blk_cell BK125.out 0).trans rfl;have hcz22_1 : w19.cell? ⟨gb125,1,none⟩ = some (.slice A1_1 l1_1.length c1_1):=(blk_cell BK125.out 1).trans rfl;have hfz22_0:=blk_frozen BK125.out 0;have hfz22_1:=blk_frozen BK125.out 1))
  go_ret
  exact ⟨by first|rfl|(simp only [i64_w,i32_w];done)|(simp only [i64_w,i32_w];rfl)|(simp [errW_none,errW_some] <;> rfl)|(simp [*,errW_none,errW_some] <;> rfl),by repeat (first|(with_reducible first|exact HB.out|apply bA|apply bN|apply bD|refine below_set ?_ GE124.out|refine below_set ?_ GE125.out)|exact HB.out)⟩

/-! ### laws_eqVoteS: function 25 -/
def laws_eqVoteS.l0 : Nat → List (S25) → List (S25) → Int → Option (Bool)
 | 0,_,_,_ => none
 | k + 1,x0,x1,x5 => if x5 < (x0.length : Int) then (if 0 ≤ x5 then (if x5 < (x1.length : Int) then ((laws_eqVote.f k ((rd_T25 x0 x5).f0) ((rd_T25 x0 x5).f1) ((rd_T25 x1 x5).f0) ((rd_T25 x1 x5).f1)).bind fun t129 => (if t129 = true then (laws_eqVoteS.l0 k x0 x1 (wrap64 (x5 + 1))) else (some false))) else (none)) else (none)) else (some true)
def laws_eqVoteS.f (k : Nat) (l0 : List (S25)) (l1 : List (S25)) : Option (Bool):=if (l0.length : Int) = (l1.length : Int) then (laws_eqVoteS.l0 k l0 l1 0) else (some false)
theorem laws_eqVoteS.mono_l : ∀ k,(∀ y0 y1 y2,LeO (laws_eqVoteS.l0 k y0 y1 y2) (laws_eqVoteS.l0 (k + 1) y0 y1 y2))
 | 0 => fun _ _ _ r h => by simp [laws_eqVoteS.l0] at h
 | k + 1 => by
  have ih0:=laws_eqVoteS.mono_l k
  ·intro y0 y1 y2
   unfold laws_eqVoteS.l0
   repeat' first
   | exact LeO.refl _
   | exact ih0 _ _ _
   | exact laws_eqVote.mono _ _ _ _ _
   | exact LeO.none _
   | refine LeO.ite ?_ ?_
   | refine LeO.bind ?_ (fun _ => ?_)
theorem laws_eqVoteS.mono : ∀ a0 a1 k,LeO (laws_eqVoteS.f k a0 a1) (laws_eqVoteS.f (k + 1) a0 a1):=by
 intro a0 a1 k
 have ih0:=laws_eqVoteS.mono_l k
 unfold laws_eqVoteS.f
 repeat' first
   | exact LeO.refl _
   | exact ih0 _ _ _
   | exact laws_eqVote.mono _ _ _ _ _
   | exact LeO.none _
   | refine LeO.ite ?_ ?_
   | refine LeO.bind ?_ (fun _ => ?_)
def laws_eqVoteS.T6 : Bool × List (List Nat × List Nat):=(true,[([],[]),([],[]),([0,1],[0,1]),([2],[2]),([],[]),([],[]),([4,5],[4,5]),([6],[6]),([3,7],[3,7]),([8],[8])])
def laws_eqVoteS.B6 : List Nat:=[0,0,3,7,0,0,48,112,255,511]
theorem laws_eqVoteS.tab6 : rtab .any (opsOf Try.f25 6) = laws_eqVoteS.T6:=by kernel_rfl
theorem laws_eqVoteS.bits6 : waitsOk laws_eqVoteS.T6.2 laws_eqVoteS.B6 = true:=by kernel_rfl
set_option maxHeartbeats 8000000 in
set_option maxRecDepth 100000 in
theorem laws_eqVoteS.calls (k : Nat) (A0 : Option Addr) (c0 : Nat) (l0 : List (S25)) (A1 : Option Addr) (c1 : Nat) (l1 : List (S25)) (r : Bool) (w : World) (hr0 : Kd.C k25 w A0 l0.length l0) (hc0 : l0.length ≤ c0) (hr1 : Kd.C k25 w A1 l1.length l1) (hc1 : l1.length ≤ c1) (h : laws_eqVoteS.f k l0 l1 = some r) :
  Calls Try.prog 25 #[.slice A0 l0.length c0,.slice A1 l1.length c1] w fun e w' => e = .returned (.bool r) ∧ Below w.heap.size w w':=by
 have hu25:=Try.underlying25
 have HR0:=aM hr0
 have HC0:=aM hc0
 clear hr0 hc0
 have HR1:=aM hr1
 have HC1:=aM hc1
 clear hr1 hc1
 have HB:=aM (Below.refl w.heap.size w)
 have H : (if (l0.length : Int) = (l1.length : Int) then (laws_eqVoteS.l0 k l0 l1 0) else (some false)) = some r:=h
 clear h
 by_cases c3 : (l0.length : Int) = (l1.length : Int)
 ·rw [if_pos c3] at H
  have c3b0 : ((l0.length : Int) == (l1.length : Int)) = true:=beq_iff_eq.mpr c3
  have c3b1 : ((l0.length : Int) != (l1.length : Int)) = false:=bne_eq_false_iff_eq.mpr c3
  have c3b2 : (l0.length == l1.length) = true:=by first|simpa using c3|(simp at c3 ⊢;omega)
  clear c3
  have H':=aM H
  clear H
  go_enter Try.func25,Try.ntmps25
  go_wp2
  go_loopg [5] k (fun kq v5 w' => ∃ (x5_1 : Int),v5 = .int .i64 x5_1 ∧ Aside0 (laws_eqVoteS.l0 kq l0 l1 x5_1 = some r) ∧ Aside0 (kq ≤ k) ∧ Aside0 (Below w.heap.size w w'))
  case atStart => exact ⟨(0),(by first|rfl|(simp;done)|(simp [*];done)),H',⟨Nat.le_refl _⟩,⟨by repeat (first|(with_reducible first|exact HB.out|apply bA|apply bN|apply bD)|exact HB.out)⟩⟩
  case round =>
   clear H'
   try clear c1
   try clear c2
   try clear p2
   try clear c3
   try clear c3b0
   try clear c3b1
   try clear c3b2
   obtain ⟨x5_1,rfl,HA,HK1,HB⟩:=hrel
   cases gk with
   | zero => exact absurd HA.out (by simp [laws_eqVoteS.l0])
   | succ k1 =>
    have H:=HA.out
    clear HA
    simp only [laws_eqVoteS.l0] at H
    by_cases c4 : x5_1 < (l0.length : Int)
    ·rw [if_pos c4] at H
     have c4b0 : decide (x5_1 < (l0.length : Int)) = true:=decide_eq_true c4
     clear c4
     by_cases c5 : 0 ≤ x5_1
     case neg => rw [if_neg c5] at H;exact absurd H (by simp)
     rw [if_pos c5] at H
     have c5b0 : decide (0 ≤ x5_1) = true:=decide_eq_true c5
     clear c5
     by_cases c6 : x5_1 < (l1.length : Int)
     case neg => rw [if_neg c6] at H;exact absurd H (by simp)
     rw [if_pos c6] at H
     have c6b0 : decide (x5_1 < (l1.length : Int)) = true:=decide_eq_true c6
     clear c6
     replace H:=Option.bind_eq_some_iff.mp H
     obtain ⟨t129,A70,H⟩:=H
     replace H : (if t129 = true then (laws_eqVoteS.l0 k1 l0 l1 (wrap64 (x5_1 + 1))) else (some false)) = some r:=H
     have A7:=aM A70
     clear A70
     by_cases c8 : t129 = true
     ·subst c8
      have H1 : (laws_eqVoteS.l0 k1 l0 l1 (wrap64 (x5_1 + 1))) = some r:=by rw [if_pos rfl] at H;exact H
      clear H
      have H:=H1
      clear H1
      have H':=aM H
      clear H
      try go_wp2
      have n0_:=aM (bD HB.out)
      clear HB
      have HB:=n0_
      clear n0_
      have p127 : 0 ≤ (x5_1 : Int):=of_decide_eq_true (by first|(with_reducible assumption)|assumption)
      have q127 : x5_1 < (l0.length : Int):=of_decide_eq_true (by first|(with_reducible assumption)|assumption)
      obtain ⟨ad127,A127_1,c127_1,e127,hx127_0,hx127_1,hl127_1,hi127_1⟩:=at_T25 HR0.out x5_1 p127 q127
      have hw127_1:=hx127_1
      have hw127_0:=hx127_0
      cases e127
      replace hx127_0:=(HB.out.cell (bL w hx127_0)).trans hx127_0
      replace hx127_1:=(HB.out.cell (bL w hx127_1)).trans hx127_1
      have HR127_1:=aM hi127_1
      have HC127_1:=aM hl127_1
      clear hi127_1 hl127_1
      replace p127:=eq_true p127
      replace q127:=eq_true q127
      have p128 : 0 ≤ (x5_1 : Int):=of_decide_eq_true (by first|(with_reducible assumption)|assumption)
      have q128 : x5_1 < (l1.length : Int):=of_decide_eq_true (by first|(with_reducible assumption)|assumption)
      obtain ⟨ad128,A128_1,c128_1,e128,hx128_0,hx128_1,hl128_1,hi128_1⟩:=at_T25 HR1.out x5_1 p128 q128
      have hw128_1:=hx128_1
      have hw128_0:=hx128_0
      cases e128
      replace hx128_0:=(HB.out.cell (bL w hx128_0)).trans hx128_0
      replace hx128_1:=(HB.out.cell (bL w hx128_1)).trans hx128_1
      have HR128_1:=aM hi128_1
      have HC128_1:=aM hl128_1
      clear hi128_1 hl128_1
      replace p128:=eq_true p128
      replace q128:=eq_true q128
      refine start_ (n:=10) (S:=fun w' => w'.cell? (ad127.add ((x5_1).toNat * 2)) = some (.int .i64 ((rd_T25 l0 x5_1).f0)) ∧ w'.cell? ⟨(ad127.add ((x5_1).toNat * 2)).block,(ad127.add ((x5_1).toNat * 2)).off + 1,none⟩ = some (.slice A127_1 ((rd_T25 l0 x5_1).f1).length c127_1) ∧ w'.cell? (ad128.add ((x5_1).toNat * 2)) = some (.int .i64 ((rd_T25 l1 x5_1).f0)) ∧ w'.cell? ⟨(ad128.add ((x5_1).toNat * 2)).block,(ad128.add ((x5_1).toNat * 2)).off + 1,none⟩ = some (.slice A128_1 ((rd_T25 l1 x5_1).f1).length c128_1)) (ds:=[]) #[bF,bF,bF,bF,bF,bF,bF,bF,bF,bF] (by kernel_rfl) rfl rfl ⟨((HB.out.cell (bL w hw127_0)).trans hw127_0),((HB.out.cell (bL w hw127_1)).trans hw127_1),((HB.out.cell (bL w hw128_0)).trans hw128_0),((HB.out.cell (bL w hw128_1)).trans hw128_1)⟩ (fun hHeld => ?_);refine with_tabW laws_eqVoteS.tab6 laws_eqVoteS.bits6 (fun HT_ HW_ => ?_)
      generalize wr.drew = w9 at HB HR127_1 HR128_1 hx127_0 hx127_1 hx128_0 hx128_1 hHeld ⊢
      refine pure_ (i:=0) (N:=some 17) (v:=?_) (a':=?_) #[bT,bF,bF,bF,bF,bF,bF,bF,bF,bF] rfl rfl (any_of HT_.out (by kernel_rfl)) (fun _ _ _ h => h) (Or.inl ⟨by rfl,?_⟩) ?_ ?_
      rotate_left;(· intro w';go_simp;with_reducible rfl);rotate_left;(· simp only [Act.put,sI,sZ,sS,i64_w,i32_w];rfl)
      refine pure_ (i:=1) (N:=some 18) (v:=?_) (a':=?_) #[bT,bT,bF,bF,bF,bF,bF,bF,bF,bF] rfl rfl (any_of HT_.out (by kernel_rfl)) (fun _ _ _ h => h) (Or.inl ⟨by rfl,?_⟩) ?_ ?_
      rotate_left;(· intro w';go_simp;with_reducible rfl);rotate_left;(· simp only [Act.put,sI,sZ,sS,i64_w,i32_w];rfl)
      refine pure_ (i:=2) (N:=some 19) (v:=?_) (a':=?_) #[bT,bT,bT,bF,bF,bF,bF,bF,bF,bF] rfl rfl (any_of HT_.out (by kernel_rfl)) (fun _ _ _ h => h) (Or.inl ⟨by rfl,?_⟩) ?_ ?_
      rotate_left;(· intro w';go_simp;with_reducible rfl);rotate_left;(· simp only [Act.put,sI,sZ,sS,i64_w,i32_w];rfl)
      refine pure_ (i:=4) (N:=some 21) (v:=?_) (a':=?_) #[bT,bT,bT,bF,bT,bF,bF,bF,bF,bF] rfl rfl (any_of HT_.out (by kernel_rfl)) (fun _ _ _ h => h) (Or.inl ⟨by rfl,?_⟩) ?_ ?_
      rotate_left;(· intro w';go_simp;with_reducible rfl);rotate_left;(· simp only [Act.put,sI,sZ,sS,i64_w,i32_w];rfl)
      refine pure_ (i:=5) (N:=some 22) (v:=?_) (a':=?_) #[bT,bT,bT,bF,bT,bT,bF,bF,bF,bF] rfl rfl (any_of HT_.out (by kernel_rfl)) (fun _ _ _ h => h) (Or.inl ⟨by rfl,?_⟩) ?_ ?_
      rotate_left;(· intro w';go_simp;with_reducible rfl);rotate_left;(· simp only [Act.put,sI,sZ,sS,i64_w,i32_w];rfl)
      refine pure_ (i:=6) (N:=some 23) (v:=?_) (a':=?_) #[bT,bT,bT,bF,bT,bT,bT,bF,bF,bF] rfl rfl (any_of HT_.out (by kernel_rfl)) (fun _ _ _ h => h) (Or.inl ⟨by rfl,?_⟩) ?_ ?_
      rotate_left;(· intro w';go_simp;with_reducible rfl);rotate_left;(· simp only [Act.put,sI,sZ,sS,i64_w,i32_w];rfl)
      refine take_ (i:=3) (N:=some 20) (v:=?_) (a':=?_) #[bT,bT,bT,bT,bT,bT,bT,bF,bF,bF] rfl rfl (take_ofW HT_.out HW_.out (by kernel_rfl)) (fun _ _ _ h => h) (Or.inl ⟨by rfl,?_⟩) hHeld ?_ ?_
      rotate_left
      ·rintro w' ⟨s0,s1,s2,s3⟩
       (try simp only [Int.toNat_natCast] at s0 s1 s2 s3)
       go_simp
       with_reducible rfl
      rotate_left
      ·simp only [Act.put,sI,sZ,sS,i64_w,i32_w]
       rfl
      refine take_ (i:=7) (N:=some 24) (v:=?_) (a':=?_) #[bT,bT,bT,bT,bT,bT,bT,bT,bF,bF] rfl rfl (take_ofW HT_.out HW_.out (by kernel_rfl)) (fun _ _ _ h => h) (Or.inl ⟨by rfl,?_⟩) hHeld ?_ ?_
      rotate_left
      ·rintro w' ⟨s0,s1,s2,s3⟩
       (try simp only [Int.toNat_natCast] at s0 s1 s2 s3)
       go_simp
       with_reducible rfl
      rotate_left
      ·simp only [Act.put,sI,sZ,sS,i64_w,i32_w]
       rfl
      refine one_ (i:=8) (N:=some 25) #[bT,bT,bT,bT,bT,bT,bT,bT,bT,bF] rfl rfl (one_of HT_.out (by kernel_rfl)) (by decide) (fun K hK => ?_)
      refine goes_ Try.func15 (by kernel_rfl) rfl #[.agg #[.int .i64 ((rd_T25 l0 x5_1).f0),.slice A127_1 ((rd_T25 l0 x5_1).f1).length c127_1],.agg #[.int .i64 ((rd_T25 l1 x5_1).f0),.slice A128_1 ((rd_T25 l1 x5_1).f1).length c128_1]] (by rfl) rfl rfl (by (try simp only [List.map_toArray,List.map_cons,List.map_nil]);first|done|rfl|(simp only [List.length_drop,List.length_take];rfl)) ?_
      with_reducible refine (laws_eqVote.calls k1 ((rd_T25 l0 x5_1).f0) _ _ ((rd_T25 l0 x5_1).f1) ((rd_T25 l1 x5_1).f0) _ _ ((rd_T25 l1 x5_1).f1) true _ ?side1 ?side2 ?side3 ?side4 A7.out).mono ?_
      (case side1 => repeat (first|exact (Kd.C_below HR127_1.out HB.out)|(with_reducible refine Kd.C_alloc ?_ _)|(with_reducible refine Kd.C_drewN ?_ _)|(with_reducible refine Kd.C_drew ?_)))
      (case side2 => exact HC127_1.out)
      (case side3 => repeat (first|exact (Kd.C_below HR128_1.out HB.out)|(with_reducible refine Kd.C_alloc ?_ _)|(with_reducible refine Kd.C_drewN ?_ _)|(with_reducible refine Kd.C_drew ?_)))
      (case side4 => exact HC128_1.out)
      rintro e w10 ⟨rfl,hb⟩
      refine ⟨_,rfl,?_⟩
      have n0_:=aM (below_step (by repeat (first|(with_reducible first|exact HB.out|apply bA|apply bN|apply bD)|exact HB.out)) hb)
      clear HB
      have HB:=n0_
      clear n0_
      (try clear hb)
      (try clear hb2)
      (try clear hk)
      (try clear hi)
      refine hK.out _ _ ⟨((HB.out.cell (bL w hw127_0)).trans hw127_0),((HB.out.cell (bL w hw127_1)).trans hw127_1),((HB.out.cell (bL w hw128_0)).trans hw128_0),((HB.out.cell (bL w hw128_1)).trans hw128_1)⟩ (fun hHeld => ?_)
      clear hK K
      refine norm_ (a':=?_) ?_ ?_
      rotate_left
      ·show Act.put _ (some 25) _ = _
       simp only [Act.put,sI,sZ,sS,i64_w,i32_w]
       rfl
      refine pure_ (i:=9) (N:=some 26) (v:=?_) (a':=?_) #[bT,bT,bT,bT,bT,bT,bT,bT,bT,bT] rfl rfl (any_of HT_.out (by kernel_rfl)) (fun _ _ _ h => h) (Or.inl ⟨by rfl,?_⟩) ?_ ?_
      rotate_left;(· intro w';go_simp;with_reducible rfl);rotate_left;(· simp only [Act.put,sI,sZ,sS,i64_w,i32_w];rfl)
      refine done_ (done_of HT_.out (by kernel_rfl)) ?_
      try go_wp2
      go_roundg k1
      case measure => have:=HK1.out;omega
      case rel => exact ⟨(wrap64 (x5_1 + 1)),(by first|rfl|(simp;done)|(simp [*];done)),H',⟨by have:=HK1.out;omega⟩,⟨by repeat (first|(with_reducible first|exact HB.out|apply bA|apply bN|apply bD)|exact HB.out)⟩⟩
     ·replace c8:=Bool.eq_false_iff.mpr c8
      subst c8
      have H1 : (some false) = some r:=by rw [if_neg (show ¬ (false = true) by decide)] at H;exact H
      clear H
      have H:=H1
      clear H1
      obtain rfl:=Option.some.inj H
      try go_wp2
      have n0_:=aM (bD HB.out)
      clear HB
      have HB:=n0_
      clear n0_
      have p127 : 0 ≤ (x5_1 : Int):=of_decide_eq_true (by first|(with_reducible assumption)|assumption)
      have q127 : x5_1 < (l0.length : Int):=of_decide_eq_true (by first|(with_reducible assumption)|assumption)
      obtain ⟨ad127,A127_1,c127_1,e127,hx127_0,hx127_1,hl127_1,hi127_1⟩:=at_T25 HR0.out x5_1 p127 q127
      have hw127_1:=hx127_1
      have hw127_0:=hx127_0
      cases e127
      replace hx127_0:=(HB.out.cell (bL w hx127_0)).trans hx127_0
      replace hx127_1:=(HB.out.cell (bL w hx127_1)).trans hx127_1
      have HR127_1:=aM hi127_1
      have HC127_1:=aM hl127_1
      clear hi127_1 hl127_1
      replace p127:=eq_true p127
      replace q127:=eq_true q127
      have p128 : 0 ≤ (x5_1 : Int):=of_decide_eq_true (by first|(with_reducible assumption)|assumption)
      have q128 : x5_1 < (l1.length : Int):=of_decide_eq_true (by first|(with_reducible assumption)|assumption)
      obtain ⟨ad128,A128_1,c128_1,e128,hx128_0,hx128_1,hl128_1,hi128_1⟩:=at_T25 HR1.out x5_1 p128 q128
      have hw128_1:=hx128_1
      have hw128_0:=hx128_0
      cases e128
      replace hx128_0:=(HB.out.cell (bL w hx128_0)).trans hx128_0
      replace hx128_1:=(HB.out.cell (bL w hx128_1)).trans hx128_1
      have HR128_1:=aM hi128_1
      have HC128_1:=aM hl128_1
      clear hi128_1 hl128_1
      replace p128:=eq_true p128
      replace q128:=eq_true q128
      refine start_ (n:=10) (S:=fun w' => w'.cell? (ad127.add ((x5_1).toNat * 2)) = some (.int .i64 ((rd_T25 l0 x5_1).f0)) ∧ w'.cell? ⟨(ad127.add ((x5_1).toNat * 2)).block,(ad127.add ((x5_1).toNat * 2)).off + 1,none⟩ = some (.slice A127_1 ((rd_T25 l0 x5_1).f1).length c127_1) ∧ w'.cell? (ad128.add ((x5_1).toNat * 2)) = some (.int .i64 ((rd_T25 l1 x5_1).f0)) ∧ w'.cell? ⟨(ad128.add ((x5_1).toNat * 2)).block,(ad128.add ((x5_1).toNat * 2)).off + 1,none⟩ = some (.slice A128_1 ((rd_T25 l1 x5_1).f1).length c128_1)) (ds:=[]) #[bF,bF,bF,bF,bF,bF,bF,bF,bF,bF] (by kernel_rfl) rfl rfl ⟨((HB.out.cell (bL w hw127_0)).trans hw127_0),((HB.out.cell (bL w hw127_1)).trans hw127_1),((HB.out.cell (bL w hw128_0)).trans hw128_0),((HB.out.cell (bL w hw128_1)).trans hw128_1)⟩ (fun hHeld => ?_);refine with_tabW laws_eqVoteS.tab6 laws_eqVoteS.bits6 (fun HT_ HW_ => ?_)
      generalize wr.drew = w11 at HB HR127_1 HR128_1 hx127_0 hx127_1 hx128_0 hx128_1 hHeld ⊢
      refine pure_ (i:=0) (N:=some 17) (v:=?_) (a':=?_) #[bT,bF,bF,bF,bF,bF,bF,bF,bF,bF] rfl rfl (any_of HT_.out (by kernel_rfl)) (fun _ _ _ h => h) (Or.inl ⟨by rfl,?_⟩) ?_ ?_
      rotate_left;(· intro w';go_simp;with_reducible rfl);rotate_left;(· simp only [Act.put,sI,sZ,sS,i64_w,i32_w];rfl)
      refine pure_ (i:=1) (N:=some 18) (v:=?_) (a':=?_) #[bT,bT,bF,bF,bF,bF,bF,bF,bF,bF] rfl rfl (any_of HT_.out (by kernel_rfl)) (fun _ _ _ h => h) (Or.inl ⟨by rfl,?_⟩) ?_ ?_
      rotate_left;(· intro w';go_simp;with_reducible rfl);rotate_left;(· simp only [Act.put,sI,sZ,sS,i64_w,i32_w];rfl)
      refine pure_ (i:=2) (N:=some 19) (v:=?_) (a':=?_) #[bT,bT,bT,bF,bF,bF,bF,bF,bF,bF] rfl rfl (any_of HT_.out (by kernel_rfl)) (fun _ _ _ h => h) (Or.inl ⟨by rfl,?_⟩) ?_ ?_
      rotate_left;(· intro w';go_simp;with_reducible rfl);rotate_left;(· simp only [Act.put,sI,sZ,sS,i64_w,i32_w];rfl)
      refine pure_ (i:=4) (N:=some 21) (v:=?_) (a':=?_) #[bT,bT,bT,bF,bT,bF,bF,bF,bF,bF] rfl rfl (any_of HT_.out (by kernel_rfl)) (fun _ _ _ h => h) (Or.inl ⟨by rfl,?_⟩) ?_ ?_
      rotate_left;(· intro w';go_simp;with_reducible rfl);rotate_left;(· simp only [Act.put,sI,sZ,sS,i64_w,i32_w];rfl)
      refine pure_ (i:=5) (N:=some 22) (v:=?_) (a':=?_) #[bT,bT,bT,bF,bT,bT,bF,bF,bF,bF] rfl rfl (any_of HT_.out (by kernel_rfl)) (fun _ _ _ h => h) (Or.inl ⟨by rfl,?_⟩) ?_ ?_
      rotate_left;(· intro w';go_simp;with_reducible rfl);rotate_left;(· simp only [Act.put,sI,sZ,sS,i64_w,i32_w];rfl)
      refine pure_ (i:=6) (N:=some 23) (v:=?_) (a':=?_) #[bT,bT,bT,bF,bT,bT,bT,bF,bF,bF] rfl rfl (any_of HT_.out (by kernel_rfl)) (fun _ _ _ h => h) (Or.inl ⟨by rfl,?_⟩) ?_ ?_
      rotate_left;(· intro w';go_simp;with_reducible rfl);rotate_left;(· simp only [Act.put,sI,sZ,sS,i64_w,i32_w];rfl)
      refine take_ (i:=3) (N:=some 20) (v:=?_) (a':=?_) #[bT,bT,bT,bT,bT,bT,bT,bF,bF,bF] rfl rfl (take_ofW HT_.out HW_.out (by kernel_rfl)) (fun _ _ _ h => h) (Or.inl ⟨by rfl,?_⟩) hHeld ?_ ?_
      rotate_left
      ·rintro w' ⟨s0,s1,s2,s3⟩
       (try simp only [Int.toNat_natCast] at s0 s1 s2 s3)
       go_simp
       with_reducible rfl
      rotate_left
      ·simp only [Act.put,sI,sZ,sS,i64_w,i32_w]
       rfl
      refine take_ (i:=7) (N:=some 24) (v:=?_) (a':=?_) #[bT,bT,bT,bT,bT,bT,bT,bT,bF,bF] rfl rfl (take_ofW HT_.out HW_.out (by kernel_rfl)) (fun _ _ _ h => h) (Or.inl ⟨by rfl,?_⟩) hHeld ?_ ?_
      rotate_left
      ·rintro w' ⟨s0,s1,s2,s3⟩
       (try simp only [Int.toNat_natCast] at s0 s1 s2 s3)
       go_simp
       with_reducible rfl
      rotate_left
      ·simp only [Act.put,sI,sZ,sS,i64_w,i32_w]
       rfl
      refine one_ (i:=8) (N:=some 25) #[bT,bT,bT,bT,bT,bT,bT,bT,bT,bF] rfl rfl (one_of HT_.out (by kernel_rfl)) (by decide) (fun K hK => ?_)
      refine goes_ Try.func15 (by kernel_rfl) rfl #[.agg #[.int .i64 ((rd_T25 l0 x5_1).f0),.slice A127_1 ((rd_T25 l0 x5_1).f1).length c127_1],.agg #[.int .i64 ((rd_T25 l1 x5_1).f0),.slice A128_1 ((rd_T25 l1 x5_1).f1).length c128_1]] (by rfl) rfl rfl (by (try simp only [List.map_toArray,List.map_cons,List.map_nil]);first|done|rfl|(simp only [List.length_drop,List.length_take];rfl)) ?_
      with_reducible refine (laws_eqVote.calls k1 ((rd_T25 l0 x5_1).f0) _ _ ((rd_T25 l0 x5_1).f1) ((rd_T25 l1 x5_1).f0) _ _ ((rd_T25 l1 x5_1).f1) false _ ?side1 ?side2 ?side3 ?side4 A7.out).mono ?_
      (case side1 => repeat (first|exact (Kd.C_below HR127_1.out HB.out)|(with_reducible refine Kd.C_alloc ?_ _)|(with_reducible refine Kd.C_drewN ?_ _)|(with_reducible refine Kd.C_drew ?_)))
      (case side2 => exact HC127_1.out)
      (case side3 => repeat (first|exact (Kd.C_below HR128_1.out HB.out)|(with_reducible refine Kd.C_alloc ?_ _)|(with_reducible refine Kd.C_drewN ?_ _)|(with_reducible refine Kd.C_drew ?_)))
      (case side4 => exact HC128_1.out)
      rintro e w12 ⟨rfl,hb⟩
      refine ⟨_,rfl,?_⟩
      have n0_:=aM (below_step (by repeat (first|(with_reducible first|exact HB.out|apply bA|apply bN|apply bD)|exact HB.out)) hb)
      clear HB
      have HB:=n0_
      clear n0_
      (try clear hb)
      (try clear hb2)
      (try clear hk)
      (try clear hi)
      refine hK.out _ _ ⟨((HB.out.cell (bL w hw127_0)).trans hw127_0),((HB.out.cell (bL w hw127_1)).trans hw127_1),((HB.out.cell (bL w hw128_0)).trans hw128_0),((HB.out.cell (bL w hw128_1)).trans hw128_1)⟩ (fun hHeld => ?_)
      clear hK K
      refine norm_ (a':=?_) ?_ ?_
      rotate_left
      ·show Act.put _ (some 25) _ = _
       simp only [Act.put,sI,sZ,sS,i64_w,i32_w]
       rfl
      refine pure_ (i:=9) (N:=some 26) (v:=?_) (a':=?_) #[bT,bT,bT,bT,bT,bT,bT,bT,bT,bT] rfl rfl (any_of HT_.out (by kernel_rfl)) (fun _ _ _ h => h) (Or.inl ⟨by rfl,?_⟩) ?_ ?_
      rotate_left;(· intro w';go_simp;with_reducible rfl);rotate_left;(· simp only [Act.put,sI,sZ,sS,i64_w,i32_w];rfl)
      refine done_ (done_of HT_.out (by kernel_rfl)) ?_
      try go_wp2
      go_ret
      exact ⟨by first|rfl|(simp only [i64_w,i32_w];done)|(simp only [i64_w,i32_w];rfl)|(simp [errW_none,errW_some] <;> rfl)|(simp [*,errW_none,errW_some] <;> rfl),by repeat (first|(with_reducible first|exact HB.out|apply bA|apply bN|apply bD)|exact HB.out)⟩
    ·rw [if_neg c4] at H
     have c4b0 : decide (x5_1 < (l0.length : Int)) = false:=decide_eq_false c4
     clear c4
     obtain rfl:=Option.some.inj H
     go_wp2
     go_ret
     exact ⟨by first|rfl|(simp only [i64_w,i32_w];done)|(simp only [i64_w,i32_w];rfl)|(simp [errW_none,errW_some] <;> rfl)|(simp [*,errW_none,errW_some] <;> rfl),by repeat (first|(with_reducible first|exact HB.out|apply bA|apply bN|apply bD)|exact HB.out)⟩
 ·rw [if_neg c3] at H
  have c3b0 : ((l0.length : Int) == (l1.length : Int)) = false:=beq_eq_false_iff_ne.mpr c3
  have c3b1 : ((l0.length : Int) != (l1.length : Int)) = true:=bne_iff_ne.mpr c3
  have c3b2 : (l0.length == l1.length) = false:=by first|simpa using c3|(simp at c3 ⊢;omega)
  obtain rfl:=Option.some.inj H
  go_enter Try.func25,Try.ntmps25
  go_wp2
  go_ret
  exact ⟨by first|rfl|(simp only [i64_w,i32_w];done)|(simp only [i64_w,i32_w];rfl)|(simp [errW_none,errW_some] <;> rfl)|(simp [*,errW_none,errW_some] <;> rfl),by repeat (first|(with_reducible first|exact HB.out|apply bA|apply bN|apply bD)|exact HB.out)⟩

/-! ### laws_eqNode: function 18 -/
def laws_eqNode.f (k : Nat) (a0_0 : Int) (a0_1 : Int) (a0_2 : Int) (l0_3 : List (S25)) (a1_0 : Int) (a1_1 : Int) (a1_2 : Int) (l1_3 : List (S25)) : Option (Bool):=if a0_0 = a1_0 then (if a0_1 = a1_1 then (if a0_2 = a1_2 then ((laws_eqVoteS.f k l0_3 l1_3).bind fun t132 => (if t132 = true then (some true) else (some false))) else (some false)) else (some false)) else (some false)
theorem laws_eqNode.mono : ∀ a0 a1 a2 a3 a4 a5 a6 a7 k,LeO (laws_eqNode.f k a0 a1 a2 a3 a4 a5 a6 a7) (laws_eqNode.f (k + 1) a0 a1 a2 a3 a4 a5 a6 a7):=by
 intro a0 a1 a2 a3 a4 a5 a6 a7 k
 unfold laws_eqNode.f
 repeat' first
   | exact LeO.refl _
   | exact laws_eqVoteS.mono _ _ _
   | exact LeO.none _
   | refine LeO.ite ?_ ?_
   | refine LeO.bind ?_ (fun _ => ?_)
set_option maxHeartbeats 8000000 in
set_option maxRecDepth 100000 in
theorem laws_eqNode.calls (k : Nat) (a0_0 : Int) (a0_1 : Int) (a0_2 : Int) (A0_3 : Option Addr) (c0_3 : Nat) (l0_3 : List (S25)) (a1_0 : Int) (a1_1 : Int) (a1_2 : Int) (A1_3 : Option Addr) (c1_3 : Nat) (l1_3 : List (S25)) (r : Bool) (w : World) (hr0_3 : Kd.C k25 w A0_3 l0_3.length l0_3) (hc0_3 : l0_3.length ≤ c0_3) (hr1_3 : Kd.C k25 w A1_3 l1_3.length l1_3) (hc1_3 : l1_3.length ≤ c1_3) (h : laws_eqNode.f k a0_0 a0_1 a0_2 l0_3 a1_0 a1_1 a1_2 l1_3 = some r) :
  Calls Try.prog 18 #[.agg #[.int .i64 a0_0,.int .i64 a0_1,.int .i64 a0_2,.slice A0_3 l0_3.length c0_3],.agg #[.int .i64 a1_0,.int .i64 a1_1,.int .i64 a1_2,.slice A1_3 l1_3.length c1_3]] w fun e w' => e = .returned (.bool r) ∧ Below w.heap.size w w':=by
 have hu39:=Try.underlying39
 have HR0_3:=aM hr0_3
 have HC0_3:=aM hc0_3
 clear hr0_3 hc0_3
 have HR1_3:=aM hr1_3
 have HC1_3:=aM hc1_3
 clear hr1_3 hc1_3
 have HB:=aM (Below.refl w.heap.size w)
 have H : (if a0_0 = a1_0 then (if a0_1 = a1_1 then (if a0_2 = a1_2 then ((laws_eqVoteS.f k l0_3 l1_3).bind fun t132 => (if t132 = true then (some true) else (some false))) else (some false)) else (some false)) else (some false)) = some r:=h
 clear h
 by_cases c3 : a0_0 = a1_0
 ·rw [if_pos c3] at H
  have c3b0 : (a0_0 == a1_0) = true:=beq_iff_eq.mpr c3
  have c3b1 : (a0_0 != a1_0) = false:=bne_eq_false_iff_eq.mpr c3
  clear c3
  by_cases c4 : a0_1 = a1_1
  ·rw [if_pos c4] at H
   have c4b0 : (a0_1 == a1_1) = true:=beq_iff_eq.mpr c4
   have c4b1 : (a0_1 != a1_1) = false:=bne_eq_false_iff_eq.mpr c4
   clear c4
   by_cases c5 : a0_2 = a1_2
   ·rw [if_pos c5] at H
    have c5b0 : (a0_2 == a1_2) = true:=beq_iff_eq.mpr c5
    have c5b1 : (a0_2 != a1_2) = false:=bne_eq_false_iff_eq.mpr c5
    clear c5
    replace H:=Option.bind_eq_some_iff.mp H
    obtain ⟨t132,A60,H⟩:=H
    replace H : (if t132 = true then (some true) else (some false)) = some r:=H
    have A6:=aM A60
    clear A60
    by_cases c7 : t132 = true
    ·subst c7
     have H1 : (some true) = some r:=by rw [if_pos rfl] at H;exact H
     clear H
     have H:=H1
     clear H1
     obtain rfl:=Option.some.inj H
     go_enter Try.func18,Try.ntmps18
     go_wp2_with (first|((with_reducible refine gate_dst (N:=2) rfl ?_);refine box_event ?hg (N:=2) ?hd (cs:=#[.int .i64 a0_0,.int .i64 a0_1,.int .i64 a0_2,.slice A0_3 l0_3.length c0_3]) (t:=39) ?hr ?_;(case hd => rfl);(case hg => rfl);(case hr => first|(go_simp;done)|(go_simp;rfl));intro gb130 hg w8 hbox hb;have n0_:=aM (below_step (by repeat (first|(with_reducible first|exact HB.out|apply bA|apply bN|apply bD)|exact HB.out)) hb);have n1_:=aM (hbox);have n2_:=aM ((by rw [hg];exact (below_size (by repeat (first|(with_reducible first|exact HB.out|apply bA|apply bN|apply bD)|exact HB.out))) : w.heap.size ≤ gb130));have n3_:=aM ((by rw [hg];exact (below_size (by repeat (first|(with_reducible first|exact HB.out|apply bA|apply bN|apply bD)|exact HB.out))) : w.heap.size ≤ gb130));clear HB;have HB:=n0_;have BK130:=n1_;have GW130:=n2_;have GE130:=n3_;clear n0_ n1_ n2_ n3_;clear hb hbox hg)|((with_reducible refine gate_dst (N:=3) rfl ?_);refine box_event ?hg (N:=3) ?hd (cs:=#[.int .i64 a1_0,.int .i64 a1_1,.int .i64 a1_2,.slice A1_3 l1_3.length c1_3]) (t:=39) ?hr ?_;(case hd => rfl);(case hg => rfl);(case hr => first|(go_simp;done)|(go_simp;rfl));intro gb131 hg w9 hbox hb;have n0_:=aM (blk_below (g:=gb130) (o:=.cells #[.int .i64 a0_0,.int .i64 a0_1,.int .i64 a0_2,.slice A0_3 l0_3.length c0_3] 39 (0,0)) (by (with_reducible repeat (first|refine blk_drewN ?_ _|refine blk_drew ?_|refine blk_alloc ?_ _));exact BK130.out) hb);have n1_:=aM (below_step (by repeat (first|(with_reducible first|exact HB.out|apply bA|apply bN|apply bD|refine below_set ?_ GE130.out)|exact HB.out)) hb);have n2_:=aM (hbox);have n3_:=aM ((by rw [hg];exact (below_size (by repeat (first|(with_reducible first|exact HB.out|apply bA|apply bN|apply bD|refine below_set ?_ GE130.out)|exact HB.out))) : w.heap.size ≤ gb131));have n4_:=aM ((by rw [hg];exact (below_size (by repeat (first|(with_reducible first|exact HB.out|apply bA|apply bN|apply bD|refine below_set ?_ GE130.out)|exact HB.out))) : w.heap.size ≤ gb131));have n5_:=aM ((by rw [hg];exact Nat.ne_of_lt (blk_lt (g:=gb130) (o:=.cells #[.int .i64 a0_0,.int .i64 a0_1,.int .i64 a0_2,.slice A0_3 l0_3.length c0_3] 39 (0,0)) (by (with_reducible repeat (first|refine blk_drewN ?_ _|refine blk_drew ?_|refine blk_alloc ?_ _));exact BK130.out)) : gb130 ≠ gb131));have n6_:=aM ((by rw [hg];exact Nat.ne_of_gt (blk_lt (g:=gb130) (o:=.cells #[.int .i64 a0_0,.int .i64 a0_1,.int .i64 a0_2,.slice A0_3 l0_3.length c0_3] 39 (0,0)) (by (with_reducible repeat (first|refine blk_drewN ?_ _|refine blk_drew ?_|refine blk_alloc ?_ _));exact BK130.out)) : gb131 ≠ gb130));clear BK130;clear HB;have BK130:=n0_;have HB:=n1_;have BK131:=n2_;have GW131:=n3_;have GE131:=n4_;have NB130_131:=n5_;have NB131_130:=n6_;clear n0_ n1_ n2_ n3_ n4_ n5_ n6_;clear hb hbox hg;have hnb10:=NB130_131.out;have hnc10:=NB131_130.out;have hcz11_0 : w9.cell? ⟨gb130,0,none⟩ = some (.int .i64 a0_0):=(blk_cell BK130.out 0).trans rfl;have hcz11_1 : w9.cell? ⟨gb130,1,none⟩ = some (.int .i64 a0_1):=(blk_cell BK130.out 1).trans rfl;have hcz11_2 : w9.cell? ⟨gb130,2,none⟩ = some (.int .i64 a0_2):=(blk_cell BK130.out 2).trans rfl;have hcz11_3 : w9.cell? ⟨gb130,3,none⟩ = some (.slice A0_3 l0_3.length c0_3):=(blk_cell BK130.out 3).trans rfl;have hfz11_0:=blk_frozen BK130.out 0;have hfz11_1:=blk_frozen BK130.out 1;have hfz11_2:=blk_frozen BK130.out 2;have hfz11_3:=blk_frozen BK130.out 3;have hcz12_0 : w9.cell? ⟨gb131,0,none⟩ = some (.int .i64 a1_0):=(blk_cell BK131.out 0).trans rfl;have hcz12_1 : w9.cell? ⟨gb131,1,none⟩ = some (.int .i64 a1_1):=(blk_cell BK131.out 1).trans rfl;have hcz12_2 : w9.cell? ⟨gb131,2,none⟩ = some (.int .i64 a1_2):=(blk_cell BK131.out 2).trans rfl;have hcz12_3 : w9.cell? ⟨gb131,3,none⟩ = some (.slice A1_3 l1_3.length c1_3):=(blk_cell BK131.out 3).trans rfl;have hfz12_0:=blk_frozen BK131.out 0;have hfz12_1:=blk_frozen BK131.out 1;have hfz12_2:=blk_frozen BK131.out 2;have hfz12_3:=blk_frozen BK131.out 3)|((with_reducible refine gate_callee (f:=25) rfl ?_);refine goesL_ (some 24) rfl rfl Try.func25 (by kernel_rfl) rfl #[.slice A0_3 l0_3.length c0_3,.slice A1_3 l1_3.length c1_3] rfl (by (try simp only [List.map_toArray,List.map_cons,List.map_nil]);first|done|rfl|(simp only [List.length_drop,List.length_take];rfl)) ?_;(with_reducible refine (laws_eqVoteS.calls k _ _ l0_3 _ _ l1_3 true _ ?side1 ?side2 ?side3 ?side4 A6.out).mono ?_);(case side1 => repeat (first|exact (Kd.C_below HR0_3.out HB.out)|(with_reducible refine Kd.C_alloc ?_ _)|(with_reducible refine Kd.C_drewN ?_ _)|(with_reducible refine Kd.C_drew ?_)));(case side2 => exact HC0_3.out);(case side3 => repeat (first|exact (Kd.C_below HR1_3.out HB.out)|(with_reducible refine Kd.C_alloc ?_ _)|(with_reducible refine Kd.C_drewN ?_ _)|(with_reducible refine Kd.C_drew ?_)));(case side4 => exact HC1_3.out);rintro e w13 ⟨rfl,hb⟩;refine ⟨_,rfl,?_⟩;have n0_:=aM (blk_below (g:=gb130) (o:=.cells #[.int .i64 a0_0,.int .i64 a0_1,.int .i64 a0_2,.slice A0_3 l0_3.length c0_3] 39 (0,0)) (by (with_reducible repeat (first|refine blk_drewN ?_ _|refine blk_drew ?_|refine blk_alloc ?_ _));exact BK130.out) hb);have n1_:=aM (blk_below (g:=gb131) (o:=.cells #[.int .i64 a1_0,.int .i64 a1_1,.int .i64 a1_2,.slice A1_3 l1_3.length c1_3] 39 (0,0)) (by (with_reducible repeat (first|refine blk_drewN ?_ _|refine blk_drew ?_|refine blk_alloc ?_ _));exact BK131.out) hb);have n2_:=aM (below_step (by repeat (first|(with_reducible first|exact HB.out|apply bA|apply bN|apply bD|refine below_set ?_ GE130.out|refine below_set ?_ GE131.out)|exact HB.out)) hb);clear BK130;clear BK131;clear HB;have BK130:=n0_;have BK131:=n1_;have HB:=n2_;clear n0_ n1_ n2_;(try clear hb);(try clear hb2);(try clear hk);(try clear hi)))
     go_ret
     exact ⟨by first|rfl|(simp only [i64_w,i32_w];done)|(simp only [i64_w,i32_w];rfl)|(simp [errW_none,errW_some] <;> rfl)|(simp [*,errW_none,errW_some] <;> rfl),by repeat (first|(with_reducible first|exact HB.out|apply bA|apply bN|apply bD|refine below_set ?_ GE130.out|refine below_set ?_ GE131.out)|exact HB.out)⟩
    ·replace c7:=Bool.eq_false_iff.mpr c7
     subst c7
     have H1 : (some false) = some r:=by rw [if_neg (show ¬ (false = true) by decide)] at H;exact H
     clear H
     have H:=H1
     clear H1
     obtain rfl:=Option.some.inj H
     go_enter Try.func18,Try.ntmps18
     go_wp2_with (first|((with_reducible refine gate_dst (N:=2) rfl ?_);refine box_event ?hg (N:=2) ?hd (cs:=#[.int .i64 a0_0,.int .i64 a0_1,.int .i64 a0_2,.slice A0_3 l0_3.length c0_3]) (t:=39) ?hr ?_;(case hd => rfl);(case hg => rfl);(case hr => first|(go_simp;done)|(go_simp;rfl));intro gb130 hg w14 hbox hb;have n0_:=aM (below_step (by repeat (first|(with_reducible first|exact HB.out|apply bA|apply bN|apply bD)|exact HB.out)) hb);have n1_:=aM (hbox);have n2_:=aM ((by rw [hg];exact (below_size (by repeat (first|(with_reducible first|exact HB.out|apply bA|apply bN|apply bD)|exact HB.out))) : w.heap.size ≤ gb130));have n3_:=aM ((by rw [hg];exact (below_size (by repeat (first|(with_reducible first|exact HB.out|apply bA|apply bN|apply bD)|exact HB.out))) : w.heap.size ≤ gb130));clear HB;have HB:=n0_;have BK130:=n1_;have GW130:=n2_;have GE130:=n3_;clear n0_ n1_ n2_ n3_;clear hb hbox hg)|((with_reducible refine gate_dst (N:=3) rfl ?_);refine box_event ?hg (N:=3) ?hd (cs:=#[.int .i64 a1_0,.int .i64 a1_1,.int .i64 a1_2,.slice A1_3 l1_3.length c1_3]) (t:=39) ?hr ?_;(case hd => rfl);(case hg => rfl);(case hr => first|(go_simp;done)|(go_simp;rfl));intro gb131 hg w15 hbox hb;have n0_:=aM (blk_below (g:=gb130) (o:=.cells #[.int .i64 a0_0,.int .i64 a0_1,.int .i64 a0_2,.slice A0_3 l0_3.length c0_3] 39 (0,0)) (by (with_reducible repeat (first|refine blk_drewN ?_ _|refine blk_drew ?_|refine blk_alloc ?_ _));exact BK130.out) hb);have n1_:=aM (below_step (by repeat (first|(with_reducible first|exact HB.out|apply bA|apply bN|apply bD|refine below_set ?_ GE130.out)|exact HB.out)) hb);have n2_:=aM (hbox);have n3_:=aM ((by rw [hg];exact (below_size (by repeat (first|(with_reducible first|exact HB.out|apply bA|apply bN|apply bD|refine below_set ?_ GE130.out)|exact HB.out))) : w.heap.size ≤ gb131));have n4_:=aM ((by rw [hg];exact (below_size (by repeat (first|(with_reducible first|exact HB.out|apply bA|apply bN|apply bD|refine below_set ?_ GE130.out)|exact HB.out))) : w.heap.size ≤ gb131));have n5_:=aM ((by rw [hg];exact Nat.ne_of_lt (blk_lt (g:=gb130) (o:=.cells #[.int .i64 a0_0,.int .i64 a0_1,.int .i64 a0_2,.slice A0_3 l0_3.length c0_3] 39 (0,0)) (by (with_reducible repeat (first|refine blk_drewN ?_ _|refine blk_drew ?_|refine blk_alloc ?_ _));exact BK130.out)) : gb130 ≠ gb131));have n6_:=aM ((by rw [hg];exact Nat.ne_of_gt (blk_lt (g:=gb130) (o:=.cells #[.int .i64 a0_0,.int .i64 a0_1,.int .i64 a0_2,.slice A0_3 l0_3.length c0_3] 39 (0,0)) (by (with_reducible repeat (first|refine blk_drewN ?_ _|refine blk_drew ?_|refine blk_alloc ?_ _));exact BK130.out)) : gb131 ≠ gb130));clear BK130;clear HB;have BK130:=n0_;have HB:=n1_;have BK131:=n2_;have GW131:=n3_;have GE131:=n4_;have NB130_131:=n5_;have NB131_130:=n6_;clear n0_ n1_ n2_ n3_ n4_ n5_ n6_;clear hb hbox hg;have hnb16:=NB130_131.out;have hnc16:=NB131_130.out;have hcz17_0 : w15.cell? ⟨gb130,0,none⟩ = some (.int .i64 a0_0):=(blk_cell BK130.out 0).trans rfl;have hcz17_1 : w15.cell? ⟨gb130,1,none⟩ = some (.int .i64 a0_1):=(blk_cell BK130.out 1).trans rfl;have hcz17_2 : w15.cell? ⟨gb130,2,none⟩ = some (.int .i64 a0_2):=(blk_cell BK130.out 2).trans rfl;have hcz17_3 : w15.cell? ⟨gb130,3,none⟩ = some (.slice A0_3 l0_3.length c0_3):=(blk_cell BK130.out 3).trans rfl;have hfz17_0:=blk_frozen BK130.out 0;have hfz17_1:=blk_frozen BK130.out 1;have hfz17_2:=blk_frozen BK130.out 2;have hfz17_3:=blk_frozen BK130.out 3;have hcz18_0 : w15.cell? ⟨gb131,0,none⟩ = some (.int .i64 a1_0):=(blk_cell BK131.out 0).trans rfl;have hcz18_1 : w15.cell? ⟨gb131,1,none⟩ = some (.int .i64 a1_1):=(blk_cell BK131.out 1).trans rfl;have hcz18_2 : w15.cell? ⟨gb131,2,none⟩ = some (.int .i64 a1_2):=(blk_cell BK131.out 2).trans rfl;have hcz18_3 : w15.cell? ⟨gb131,3,none⟩ = some (.slice A1_3 l1_3.length c1_3):=(blk_cell BK131.out 3).trans rfl;have hfz18_0:=blk_frozen BK131.out 0;have hfz18_1:=blk_frozen BK131.out 1;have hfz18_2:=blk_frozen BK131.out 2;have hfz18_3:=blk_frozen BK131.out 3)|((with_reducible refine gate_callee (f:=25) rfl ?_);refine goesL_ (some 24) rfl rfl Try.func25 (by kernel_rfl) rfl #[.slice A0_3 l0_3.length c0_3,.slice A1_3 l1_3.length c1_3] rfl (by (try simp only [List.map_toArray,List.map_cons,List.map_nil]);first|done|rfl|(simp only [List.length_drop,List.length_take];rfl)) ?_;(with_reducible refine (laws_eqVoteS.calls k _ _ l0_3 _ _ l1_3 false _ ?side1 ?side2 ?side3 ?side4 A6.out).mono ?_);(case side1 => repeat (first|exact (Kd.C_below HR0_3.out HB.out)|(with_reducible refine Kd.C_alloc ?_ _)|(with_reducible refine Kd.C_drewN ?_ _)|(with_reducible refine Kd.C_drew ?_)));(case side2 => exact HC0_3.out);(case side3 => repeat (first|exact (Kd.C_below HR1_3.out HB.out)|(with_reducible refine Kd.C_alloc ?_ _)|(with_reducible refine Kd.C_drewN ?_ _)|(with_reducible refine Kd.C_drew ?_)));(case side4 => exact HC1_3.out);rintro e w19 ⟨rfl,hb⟩;refine ⟨_,rfl,?_⟩;have n0_:=aM (blk_below (g:=gb130) (o:=.cells #[.int .i64 a0_0,.int .i64 a0_1,.int .i64 a0_2,.slice A0_3 l0_3.length c0_3] 39 (0,0)) (by (with_reducible repeat (first|refine blk_drewN ?_ _|refine blk_drew ?_|refine blk_alloc ?_ _));exact BK130.out) hb);have n1_:=aM (blk_below (g:=gb131) (o:=.cells #[.int .i64 a1_0,.int .i64 a1_1,.int .i64 a1_2,.slice A1_3 l1_3.length c1_3] 39 (0,0)) (by (with_reducible repeat (first|refine blk_drewN ?_ _|refine blk_drew ?_|refine blk_alloc ?_ _));exact BK131.out) hb);have n2_:=aM (below_step (by repeat (first|(with_reducible first|exact HB.out|apply bA|apply bN|apply bD|refine below_set ?_ GE130.out|refine below_set ?_ GE131.out)|exact HB.out)) hb);clear BK130;clear BK131;clear HB;have BK130:=n0_;have BK131:=n1_;have HB:=n2_;clear n0_ n1_ n2_;(try clear hb);(try clear hb2);(try clear hk);(try clear hi)))
     go_ret
     exact ⟨by first|rfl|(simp only [i64_w,i32_w];done)|(simp only [i64_w,i32_w];rfl)|(simp [errW_none,errW_some] <;> rfl)|(simp [*,errW_none,errW_some] <;> rfl),by repeat (first|(with_reducible first|exact HB.out|apply bA|apply bN|apply bD|refine below_set ?_ GE130.out|refine below_set ?_ GE131.out)|exact HB.out)⟩
   ·rw [if_neg c5] at H
    have c5b0 : (a0_2 == a1_2) = false:=beq_eq_false_iff_ne.mpr c5
    have c5b1 : (a0_2 != a1_2) = true:=bne_iff_ne.mpr c5
    obtain rfl:=Option.some.inj H
    go_enter Try.func18,Try.ntmps18
    go_wp2_with (first|((with_reducible refine gate_dst (N:=2) rfl ?_);refine box_event ?hg (N:=2) ?hd (cs:=#[.int .i64 a0_0,.int .i64 a0_1,.int .i64 a0_2,.slice A0_3 l0_3.length c0_3]) (t:=39) ?hr ?_;(case hd => rfl);(case hg => rfl);(case hr => first|(go_simp;done)|(go_simp;rfl));intro gb130 hg w20 hbox hb;have n0_:=aM (below_step (by repeat (first|(with_reducible first|exact HB.out|apply bA|apply bN|apply bD)|exact HB.out)) hb);have n1_:=aM (hbox);have n2_:=aM ((by rw [hg];exact (below_size (by repeat (first|(with_reducible first|exact HB.out|apply bA|apply bN|apply bD)|exact HB.out))) : w.heap.size ≤ gb130));have n3_:=aM ((by rw [hg];exact (below_size (by repeat (first|(with_reducible first|exact HB.out|apply bA|apply bN|apply bD)|exact HB.out))) : w.heap.size ≤ gb130));clear HB;have HB:=n0_;have BK130:=n1_;have GW130:=n2_;have GE130:=n3_;clear n0_ n1_ n2_ n3_;clear hb hbox hg)|((with_reducible refine gate_dst (N:=3) rfl ?_);refine box_event ?hg (N:=3) ?hd (cs:=#[.int .i64 a1_0,.int .i64 a1_1,.int .i64 a1_2,.slice A1_3 l1_3.length c1_3]) (t:=39) ?hr ?_;(case hd => rfl);(case hg => rfl);(case hr => first|(go_simp;done)|(go_simp;rfl));intro gb131 hg w21 hbox hb;have n0_:=aM (blk_below (g:=gb130) (o:=.cells #[.int .i64 a0_0,.int .i64 a0_1,.int .i64 a0_2,.slice A0_3 l0_3.length c0_3] 39 (0,0)) (by (with_reducible repeat (first|refine blk_drewN ?_ _|refine blk_drew ?_|refine blk_alloc ?_ _));exact BK130.out) hb);have n1_:=aM (below_step (by repeat (first|(with_reducible first|exact HB.out|apply bA|apply bN|apply bD|refine below_set ?_ GE130.out)|exact HB.out)) hb);have n2_:=aM (hbox);have n3_:=aM ((by rw [hg];exact (below_size (by repeat (first|(with_reducible first|exact HB.out|apply bA|apply bN|apply bD|refine below_set ?_ GE130.out)|exact HB.out))) : w.heap.size ≤ gb131));have n4_:=aM ((by rw [hg];exact (below_size (by repeat (first|(with_reducible first|exact HB.out|apply bA|apply bN|apply bD|refine below_set ?_ GE130.out)|exact HB.out))) : w.heap.size ≤ gb131));have n5_:=aM ((by rw [hg];exact Nat.ne_of_lt (blk_lt (g:=gb130) (o:=.cells #[.int .i64 a0_0,.int .i64 a0_1,.int .i64 a0_2,.slice A0_3 l0_3.length c0_3] 39 (0,0)) (by (with_reducible repeat (first|refine blk_drewN ?_ _|refine blk_drew ?_|refine blk_alloc ?_ _));exact BK130.out)) : gb130 ≠ gb131));have n6_:=aM ((by rw [hg];exact Nat.ne_of_gt (blk_lt (g:=gb130) (o:=.cells #[.int .i64 a0_0,.int .i64 a0_1,.int .i64 a0_2,.slice A0_3 l0_3.length c0_3] 39 (0,0)) (by (with_reducible repeat (first|refine blk_drewN ?_ _|refine blk_drew ?_|refine blk_alloc ?_ _));exact BK130.out)) : gb131 ≠ gb130));clear BK130;clear HB;have BK130:=n0_;have HB:=n1_;have BK131:=n2_;have GW131:=n3_;have GE131:=n4_;have NB130_131:=n5_;have NB131_130:=n6_;clear n0_ n1_ n2_ n3_ n4_ n5_ n6_;clear hb hbox hg;have hnb22:=NB130_131.out;have hnc22:=NB131_130.out;have hcz23_0 : w21.cell? ⟨gb130,0,none⟩ = some (.int .i64 a0_0):=(blk_cell BK130.out 0).trans rfl;have hcz23_1 : w21.cell? ⟨gb130,1,none⟩ = some (.int .i64 a0_1):=(blk_cell BK130.out 1).trans rfl;have hcz23_2 : w21.cell? ⟨gb130,2,none⟩ = some (.int .i64 a0_2):=(blk_cell BK130.out 2).trans rfl;have hcz23_3 : w21.cell? ⟨gb130,3,none⟩ = some (.slice A0_3 l0_3.length c0_3):=(blk_cell BK130.out 3).trans rfl;have hfz23_0:=blk_frozen BK130.out 0;have hfz23_1:=blk_frozen BK130.out 1;have hfz23_2:=blk_frozen BK130.out 2;have hfz23_3:=blk_frozen BK130.out 3;have hcz24_0 : w21.cell? ⟨gb131,0,none⟩ = some (.int .i64 a1_0):=(blk_cell BK131.out 0).trans rfl;have hcz24_1 : w21.cell? ⟨gb131,1,none⟩ = some (.int .i64 a1_1):=(blk_cell BK131.out 1).trans rfl;have hcz24_2 : w21.cell? ⟨gb131,2,none⟩ = some (.int .i64 a1_2):=(blk_cell BK131.out 2).trans rfl;have hcz24_3 : w21.cell? ⟨gb131,3,none⟩ = some (.slice A1_3 l1_3.length c1_3):=(blk_cell BK131.out 3).trans rfl;have hfz24_0:=blk_frozen BK131.out 0;have hfz24_1:=blk_frozen BK131.out 1;have hfz24_2:=blk_frozen BK131.out 2;have hfz24_3:=blk_frozen BK131.out 3))
    go_ret
    exact ⟨by first|rfl|(simp only [i64_w,i32_w];done)|(simp only [i64_w,i32_w];rfl)|(simp [errW_none,errW_some] <;> rfl)|(simp [*,errW_none,errW_some] <;> rfl),by repeat (first|(with_reducible first|exact HB.out|apply bA|apply bN|apply bD|refine below_set ?_ GE130.out|refine below_set ?_ GE131.out)|exact HB.out)⟩
  ·rw [if_neg c4] at H
   have c4b0 : (a0_1 == a1_1) = false:=beq_eq_false_iff_ne.mpr c4
   have c4b1 : (a0_1 != a1_1) = true:=bne_iff_ne.mpr c4
   obtain rfl:=Option.some.inj H
   go_enter Try.func18,Try.ntmps18
   go_wp2_with (first|((with_reducible refine gate_dst (N:=2) rfl ?_);refine box_event ?hg (N:=2) ?hd (cs:=#[.int .i64 a0_0,.int .i64 a0_1,.int .i64 a0_2,.slice A0_3 l0_3.length c0_3]) (t:=39) ?hr ?_;(case hd => rfl);(case hg => rfl);(case hr => first|(go_simp;done)|(go_simp;rfl));intro gb130 hg w25 hbox hb;have n0_:=aM (below_step (by repeat (first|(with_reducible first|exact HB.out|apply bA|apply bN|apply bD)|exact HB.out)) hb);have n1_:=aM (hbox);have n2_:=aM ((by rw [hg];exact (below_size (by repeat (first|(with_reducible first|exact HB.out|apply bA|apply bN|apply bD)|exact HB.out))) : w.heap.size ≤ gb130));have n3_:=aM ((by rw [hg];exact (below_size (by repeat (first|(with_reducible first|exact HB.out|apply bA|apply bN|apply bD)|exact HB.out))) : w.heap.size ≤ gb130));clear HB;have HB:=n0_;have BK130:=n1_;have GW130:=n2_;have GE130:=n3_;clear n0_ n1_ n2_ n3_;clear hb hbox hg)|((with_reducible refine gate_dst (N:=3) rfl ?_);refine box_event ?hg (N:=3) ?hd (cs:=#[.int .i64 a1_0,.int .i64 a1_1,.int .i64 a1_2,.slice A1_3 l1_3.length c1_3]) (t:=39) ?hr ?_;(case hd => rfl);(case hg => rfl);(case hr => first|(go_simp;done)|(go_simp;rfl));intro gb131 hg w26 hbox hb;have n0_:=aM (blk_below (g:=gb130) (o:=.cells #[.int .i64 a0_0,.int .i64 a0_1,.int .i64 a0_2,.slice A0_3 l0_3.length c0_3] 39 (0,0)) (by (with_reducible repeat (first|refine blk_drewN ?_ _|refine blk_drew ?_|refine blk_alloc ?_ _));exact BK130.out) hb);have n1_:=aM (below_step (by repeat (first|(with_reducible first|exact HB.out|apply bA|apply bN|apply bD|refine below_set ?_ GE130.out)|exact HB.out)) hb);have n2_:=aM (hbox);have n3_:=aM ((by rw [hg];exact (below_size (by repeat (first|(with_reducible first|exact HB.out|apply bA|apply bN|apply bD|refine below_set ?_ GE130.out)|exact HB.out))) : w.heap.size ≤ gb131));have n4_:=aM ((by rw [hg];exact (below_size (by repeat (first|(with_reducible first|exact HB.out|apply bA|apply bN|apply bD|refine below_set ?_ GE130.out)|exact HB.out))) : w.heap.size ≤ gb131));have n5_:=aM ((by rw [hg];exact Nat.ne_of_lt (blk_lt (g:=gb130) (o:=.cells #[.int .i64 a0_0,.int .i64 a0_1,.int .i64 a0_2,.slice A0_3 l0_3.length c0_3] 39 (0,0)) (by (with_reducible repeat (first|refine blk_drewN ?_ _|refine blk_drew ?_|refine blk_alloc ?_ _));exact BK130.out)) : gb130 ≠ gb131));have n6_:=aM ((by rw [hg];exact Nat.ne_of_gt (blk_lt (g:=gb130) (o:=.cells #[.int .i64 a0_0,.int .i64 a0_1,.int .i64 a0_2,.slice A0_3 l0_3.length c0_3] 39 (0,0)) (by (with_reducible repeat (first|refine blk_drewN ?_ _|refine blk_drew ?_|refine blk_alloc ?_ _));exact BK130.out)) : gb131 ≠ gb130));clear BK130;clear HB;have BK130:=n0_;have HB:=n1_;have BK131:=n2_;have GW131:=n3_;have GE131:=n4_;have NB130_131:=n5_;have NB131_130:=n6_;clear n0_ n1_ n2_ n3_ n4_ n5_ n6_;clear hb hbox hg;have hnb27:=NB130_131.out;have hnc27:=NB131_130.out;have hcz28_0 : w26.cell? ⟨gb130,0,none⟩ = some (.int .i64 a0_0):=(blk_cell BK130.out 0).trans rfl;have hcz28_1 : w26.cell? ⟨gb130,1,none⟩ = some (.int .i64 a0_1):=(blk_cell BK130.out 1).trans rfl;have hcz28_2 : w26.cell? ⟨gb130,2,none⟩ = some (.int .i64 a0_2):=(blk_cell BK130.out 2).trans rfl;have hcz28_3 : w26.cell? ⟨gb130,3,none⟩ = some (.slice A0_3 l0_3.length c0_3):=(blk_cell BK130.out 3).trans rfl;have hfz28_0:=blk_frozen BK130.out 0;have hfz28_1:=blk_frozen BK130.out 1;have hfz28_2:=blk_frozen BK130.out 2;have hfz28_3:=blk_frozen BK130.out 3;have hcz29_0 : w26.cell? ⟨gb131,0,none⟩ = some (.int .i64 a1_0):=(blk_cell BK131.out 0).trans rfl;have hcz29_1 : w26.cell? ⟨gb131,1,none⟩ = some (.int .i64 a1_1):=(blk_cell BK131.out 1).trans rfl;have hcz29_2 : w26.cell? ⟨gb131,2,none⟩ = some (.int .i64 a1_2):=(blk_cell BK131.out 2).trans rfl;have hcz29_3 : w26.cell? ⟨gb131,3,none⟩ = some (.slice A1_3 l1_3.length c1_3):=(blk_cell BK131.out 3).trans rfl;have hfz29_0:=blk_frozen BK131.out 0;have hfz29_1:=blk_frozen BK131.out 1;have hfz29_2:=blk_frozen BK131.out 2;have hfz29_3:=blk_frozen BK131.out 3))
   go_ret
   exact ⟨by first|rfl|(simp only [i64_w,i32_w];done)|(simp only [i64_w,i32_w];rfl)|(simp [errW_none,errW_some] <;> rfl)|(simp [*,errW_none,errW_some] <;> rfl),by repeat (first|(with_reducible first|exact HB.out|apply bA|apply bN|apply bD|refine below_set ?_ GE130.out|refine below_set ?_ GE131.out)|exact HB.out)⟩
 ·rw [if_neg c3] at H
  have c3b0 : (a0_0 == a1_0) = false:=beq_eq_false_iff_ne.mpr c3
  have c3b1 : (a0_0 != a1_0) = true:=bne_iff_ne.mpr c3
  obtain rfl:=Option.some.inj H
  go_enter Try.func18,Try.ntmps18
  go_wp2_with (first|((with_reducible refine gate_dst (N:=2) rfl ?_);refine box_event ?hg (N:=2) ?hd (cs:=#[.int .i64 a0_0,.int .i64 a0_1,.int .i64 a0_2,.slice A0_3 l0_3.length c0_3]) (t:=39) ?hr ?_;(case hd => rfl);(case hg => rfl);(case hr => first|(go_simp;done)|(go_simp;rfl));intro gb130 hg w30 hbox hb;have n0_:=aM (below_step (by repeat (first|(with_reducible first|exact HB.out|apply bA|apply bN|apply bD)|exact HB.out)) hb);have n1_:=aM (hbox);have n2_:=aM ((by rw [hg];exact (below_size (by repeat (first|(with_reducible first|exact HB.out|apply bA|apply bN|apply bD)|exact HB.out))) : w.heap.size ≤ gb130));have n3_:=aM ((by rw [hg];exact (below_size (by repeat (first|(with_reducible first|exact HB.out|apply bA|apply bN|apply bD)|exact HB.out))) : w.heap.size ≤ gb130));clear HB;have HB:=n0_;have BK130:=n1_;have GW130:=n2_;have GE130:=n3_;clear n0_ n1_ n2_ n3_;clear hb hbox hg)|((with_reducible refine gate_dst (N:=3) rfl ?_);refine box_event ?hg (N:=3) ?hd (cs:=#[.int .i64 a1_0,.int .i64 a1_1,.int .i64 a1_2,.slice A1_3 l1_3.length c1_3]) (t:=39) ?hr ?_;(case hd => rfl);(case hg => rfl);(case hr => first|(go_simp;done)|(go_simp;rfl));intro gb131 hg w31 hbox hb;have n0_:=aM (blk_below (g:=gb130) (o:=.cells #[.int .i64 a0_0,.int .i64 a0_1,.int .i64 a0_2,.slice A0_3 l0_3.length c0_3] 39 (0,0)) (by (with_reducible repeat (first|refine blk_drewN ?_ _|refine blk_drew ?_|refine blk_alloc ?_ _));exact BK130.out) hb);have n1_:=aM (below_step (by repeat (first|(with_reducible first|exact HB.out|apply bA|apply bN|apply bD|refine below_set ?_ GE130.out)|exact HB.out)) hb);have n2_:=aM (hbox);have n3_:=aM ((by rw [hg];exact (below_size (by repeat (first|(with_reducible first|exact HB.out|apply bA|apply bN|apply bD|refine below_set ?_ GE130.out)|exact HB.out))) : w.heap.size ≤ gb131));have n4_:=aM ((by rw [hg];exact (below_size (by repeat (first|(with_reducible first|exact HB.out|apply bA|apply bN|apply bD|refine below_set ?_ GE130.out)|exact HB.out))) : w.heap.size ≤ gb131));have n5_:=aM ((by rw [hg];exact Nat.ne_of_lt (blk_lt (g:=gb130) (o:=.cells #[.int .i64 a0_0,.int .i64 a0_1,.int .i64 a0_2,.slice A0_3 l0_3.length c0_3] 39 (0,0)) (by (with_reducible repeat (first|refine blk_drewN ?_ _|refine blk_drew ?_|refine blk_alloc ?_ _));exact BK130.out)) : gb130 ≠ gb131));have n6_:=aM ((by rw [hg];exact Nat.ne_of_gt (blk_lt (g:=gb130) (o:=.cells #[.int .i64 a0_0,.int .i64 a0_1,.int .i64 a0_2,.slice A0_3 l0_3.length c0_3] 39 (0,0)) (by (with_reducible repeat (first|refine blk_drewN ?_ _|refine blk_drew ?_|refine blk_alloc ?_ _));exact BK130.out)) : gb131 ≠ gb130));clear BK130;clear HB;have BK130:=n0_;have HB:=n1_;have BK131:=n2_;have GW131:=n3_;have GE131:=n4_;have NB130_131:=n5_;have NB131_130:=n6_;clear n0_ n1_ n2_ n3_ n4_ n5_ n6_;clear hb hbox hg;have hnb32:=NB130_131.out;have hnc32:=NB131_130.out;have hcz33_0 : w31.cell? ⟨gb130,0,none⟩ = some (.int .i64 a0_0):=(blk_cell BK130.out 0).trans rfl;have hcz33_1 : w31.cell? ⟨gb130,1,none⟩ = some (.int .i64 a0_1):=(blk_cell BK130.out 1).trans rfl;have hcz33_2 : w31.cell? ⟨gb130,2,none⟩ = some (.int .i64 a0_2):=(blk_cell BK130.out 2).trans rfl;have hcz33_3 : w31.cell? ⟨gb130,3,none⟩ = some (.slice A0_3 l0_3.length c0_3):=(blk_cell BK130.out 3).trans rfl;have hfz33_0:=blk_frozen BK130.out 0;have hfz33_1:=blk_frozen BK130.out 1;have hfz33_2:=blk_frozen BK130.out 2;have hfz33_3:=blk_frozen BK130.out 3;have hcz34_0 : w31.cell? ⟨gb131,0,none⟩ = some (.int .i64 a1_0):=(blk_cell BK131.out 0).trans rfl;have hcz34_1 : w31.cell? ⟨gb131,1,none⟩ = some (.int .i64 a1_1):=(blk_cell BK131.out 1).trans rfl;have hcz34_2 : w31.cell? ⟨gb131,2,none⟩ = some (.int .i64 a1_2):=(blk_cell BK131.out 2).trans rfl;have hcz34_3 : w31.cell? ⟨gb131,3,none⟩ = some (.slice A1_3 l1_3.length c1_3):=(blk_cell BK131.out 3).trans rfl;have hfz34_0:=blk_frozen BK131.out 0;have hfz34_1:=blk_frozen BK131.out 1;have hfz34_2:=blk_frozen BK131.out 2;have hfz34_3:=blk_frozen BK131.out 3))
  go_ret
  exact ⟨by first|rfl|(simp only [i64_w,i32_w];done)|(simp only [i64_w,i32_w];rfl)|(simp [errW_none,errW_some] <;> rfl)|(simp [*,errW_none,errW_some] <;> rfl),by repeat (first|(with_reducible first|exact HB.out|apply bA|apply bN|apply bD|refine below_set ?_ GE130.out|refine below_set ?_ GE131.out)|exact HB.out)⟩

/-! ### laws_markItemS: function 57 -/
def laws_markItemS.l0 : Nat → List (S65) → Int → Int → Option (Int × (List (S65)))
 | 0,_,_,_ => none
 | k + 1,x0,x1,x5 => if x5 < (x0.length : Int) then (if 0 ≤ x5 then ((some (x0.set (x5 : Int).toNat (⟨x1,(⟨(rd_T65 x0 x5).f1.f0,(rd_T65 x0 x5).f1.f1,(rd_T65 x0 x5).f1.f2⟩ : S63)⟩ : S65) : List (S65))).bind fun y133 => ((some (y133.set (x5 : Int).toNat (⟨(rd_T65 y133 x5).f0,(⟨wrap64 (x1 + 1),(rd_T65 y133 x5).f1.f1,(rd_T65 y133 x5).f1.f2⟩ : S63)⟩ : S65) : List (S65))).bind fun y134 => ((some (y134.set (x5 : Int).toNat (⟨(rd_T65 y134 x5).f0,(⟨(rd_T65 y134 x5).f1.f0,wrap64 ((wrap64 (x1 + 1)) + 1),(rd_T65 y134 x5).f1.f2⟩ : S63)⟩ : S65) : List (S65))).bind fun y135 => (laws_markItemS.l0 k (y135.set (x5 : Int).toNat (⟨(rd_T65 y135 x5).f0,(⟨(rd_T65 y135 x5).f1.f0,(rd_T65 y135 x5).f1.f1,wrap64 ((wrap64 ((wrap64 (x1 + 1)) + 1)) + 1)⟩ : S63)⟩ : S65)) (wrap64 ((wrap64 ((wrap64 ((wrap64 (x1 + 1)) + 1)) + 1)) + 1)) (wrap64 (x5 + 1)))))) else (none)) else (some (x1,x0))
def laws_markItemS.f (k : Nat) (l0 : List (S65)) (a1 : Int) : Option (Int × (List (S65))):=laws_markItemS.l0 k l0 a1 0
theorem laws_markItemS.mono_l : ∀ k,(∀ y0 y1 y2,LeO (laws_markItemS.l0 k y0 y1 y2) (laws_markItemS.l0 (k + 1) y0 y1 y2))
 | 0 => fun _ _ _ r h => by simp [laws_markItemS.l0] at h
 | k + 1 => by
  have ih0:=laws_markItemS.mono_l k
  ·intro y0 y1 y2
   unfold laws_markItemS.l0
   repeat' first
   | exact LeO.refl _
   | exact ih0 _ _ _
   | exact LeO.none _
   | refine LeO.ite ?_ ?_
   | refine LeO.bind ?_ (fun _ => ?_)
theorem laws_markItemS.mono : ∀ a0 a1 k,LeO (laws_markItemS.f k a0 a1) (laws_markItemS.f (k + 1) a0 a1):=by
 intro a0 a1 k
 have ih0:=laws_markItemS.mono_l k
 unfold laws_markItemS.f
 repeat' first
   | exact LeO.refl _
   | exact ih0 _ _ _
   | exact LeO.none _
   | refine LeO.ite ?_ ?_
   | refine LeO.bind ?_ (fun _ => ?_)
set_option maxHeartbeats 8000000 in
set_option maxRecDepth 100000 in
theorem laws_markItemS.calls (k : Nat) (P0_ : Nat → Prop) (u9000_ : Value) (l0 : List (S65)) (a1 : Int) (r1 : Int) (r2 : List (S65)) (w0 w : World) (hB : Below w0.heap.size w0 w) (ho0 : Kd.R k65 65 w w0.heap.size P0_ u9000_ l0) (h : laws_markItemS.f k l0 a1 = some (r1,r2)) :
  Calls Try.prog 57 #[u9000_,.int .i64 a1] w fun e w' => e = .returned (.int .i64 r1) ∧ Kd.R k65 65 w' w0.heap.size (fun k_ => (P0_ k_ ∨ w.heap.size ≤ k_)) u9000_ r2 ∧ Below w0.heap.size w0 w' ∧ Kept w w' (fun k_ => P0_ k_):=by
 have HO0:=aM (show Kd.R k65 65 w w0.heap.size (fun k_ => (P0_ k_ ∨ w.heap.size ≤ k_)) u9000_ l0 from Kd.R_mono ho0 (fun k_ hk => (.inl hk)))
 have HK:=aM (Kept.refl w (fun k_ => P0_ k_))
 have HW0:=aM hB.size
 have HB:=aM hB
 clear hB
 have H : (laws_markItemS.l0 k l0 a1 0) = some (r1,r2):=h
 clear h
 have H':=aM H
 clear H
 go_enter Try.func57,Try.ntmps57
 go_wp2
 go_loopg [1,5] k (fun kq v1 v5 w' => ∃ (x0_1 : List (S65)) (x1_1 : Int) (x5_1 : Int),v1 = .int .i64 x1_1 ∧ v5 = .int .i64 x5_1 ∧ Aside0 (laws_markItemS.l0 kq x0_1 x1_1 x5_1 = some (r1,r2)) ∧ Aside0 (kq ≤ k) ∧ Aside0 (Kd.R k65 65 w' w0.heap.size (fun k_ => (P0_ k_ ∨ w.heap.size ≤ k_)) u9000_ x0_1) ∧ Aside0 (Kept w w' (fun k_ => P0_ k_)) ∧ Aside0 (Below w0.heap.size w0 w'))
 case atStart => exact ⟨(l0),(a1),(0),(by first|rfl|(simp;done)|(simp [*];done)),(by first|rfl|(simp;done)|(simp [*];done)),H',⟨Nat.le_refl _⟩,⟨by (with_reducible repeat (first|apply Kd.R_alloc|apply Kd.R_drewN|apply Kd.R_drew));exact HO0.out⟩,⟨by repeat (first|(with_reducible first|exact HK.out|apply Kept.alloc|apply Kept.drewN|apply Kept.drew)|exact HK.out)⟩,⟨by repeat (first|(with_reducible first|exact HB.out|apply bA|apply bN|apply bD)|exact HB.out)⟩⟩
 case round =>
  clear H'
  try clear p2
  obtain ⟨x0_1,x1_1,x5_1,rfl,rfl,HA,HK1,HO_0,HK,HB⟩:=hrel
  cases gk with
  | zero => exact absurd HA.out (by simp [laws_markItemS.l0])
  | succ k1 =>
   have H:=HA.out
   clear HA
   simp only [laws_markItemS.l0] at H
   by_cases c3 : x5_1 < (x0_1.length : Int)
   ·rw [if_pos c3] at H
    have c3b0 : decide (x5_1 < (x0_1.length : Int)) = true:=decide_eq_true c3
    clear c3
    by_cases c4 : 0 ≤ x5_1
    case neg => rw [if_neg c4] at H;exact absurd H (by simp)
    rw [if_pos c4] at H
    have c4b0 : decide (0 ≤ x5_1) = true:=decide_eq_true c4
    clear c4
    obtain ⟨y133,hy133⟩ : ∃ y_ : List (S65),y_ = (x0_1.set (x5_1 : Int).toNat (⟨x1_1,(⟨(rd_T65 x0_1 x5_1).f1.f0,(rd_T65 x0_1 x5_1).f1.f1,(rd_T65 x0_1 x5_1).f1.f2⟩ : S63)⟩ : S65)):=⟨_,rfl⟩
    replace H : ((some (y133.set (x5_1 : Int).toNat (⟨(rd_T65 y133 x5_1).f0,(⟨wrap64 (x1_1 + 1),(rd_T65 y133 x5_1).f1.f1,(rd_T65 y133 x5_1).f1.f2⟩ : S63)⟩ : S65) : List (S65))).bind fun y134 => ((some (y134.set (x5_1 : Int).toNat (⟨(rd_T65 y134 x5_1).f0,(⟨(rd_T65 y134 x5_1).f1.f0,wrap64 ((wrap64 (x1_1 + 1)) + 1),(rd_T65 y134 x5_1).f1.f2⟩ : S63)⟩ : S65) : List (S65))).bind fun y135 => (laws_markItemS.l0 k1 (y135.set (x5_1 : Int).toNat (⟨(rd_T65 y135 x5_1).f0,(⟨(rd_T65 y135 x5_1).f1.f0,(rd_T65 y135 x5_1).f1.f1,wrap64 ((wrap64 ((wrap64 (x1_1 + 1)) + 1)) + 1)⟩ : S63)⟩ : S65)) (wrap64 ((wrap64 ((wrap64 ((wrap64 (x1_1 + 1)) + 1)) + 1)) + 1)) (wrap64 (x5_1 + 1))))) = some (r1,r2):=by first|(rw [hy133];with_reducible exact H)|(have H2_:=(Option.bind_some _ _).symm.trans H;rw [hy133];with_reducible exact H2_)|(have H2_:=(Option.bind_some _ _).symm.trans H;with_reducible exact H2_)|with_reducible exact H|(rw [hy133];exact H)|exact H
    have Ny133:=aM hy133
    clear hy133
    obtain ⟨y134,hy134⟩ : ∃ y_ : List (S65),y_ = (y133.set (x5_1 : Int).toNat (⟨(rd_T65 y133 x5_1).f0,(⟨wrap64 (x1_1 + 1),(rd_T65 y133 x5_1).f1.f1,(rd_T65 y133 x5_1).f1.f2⟩ : S63)⟩ : S65)):=⟨_,rfl⟩
    replace H : ((some (y134.set (x5_1 : Int).toNat (⟨(rd_T65 y134 x5_1).f0,(⟨(rd_T65 y134 x5_1).f1.f0,wrap64 ((wrap64 (x1_1 + 1)) + 1),(rd_T65 y134 x5_1).f1.f2⟩ : S63)⟩ : S65) : List (S65))).bind fun y135 => (laws_markItemS.l0 k1 (y135.set (x5_1 : Int).toNat (⟨(rd_T65 y135 x5_1).f0,(⟨(rd_T65 y135 x5_1).f1.f0,(rd_T65 y135 x5_1).f1.f1,wrap64 ((wrap64 ((wrap64 (x1_1 + 1)) + 1)) + 1)⟩ : S63)⟩ : S65)) (wrap64 ((wrap64 ((wrap64 ((wrap64 (x1_1 + 1)) + 1)) + 1)) + 1)) (wrap64 (x5_1 + 1)))) = some (r1,r2):=by first|(rw [hy134];with_reducible exact H)|(have H2_:=(Option.bind_some _ _).symm.trans H;rw [hy134];with_reducible exact H2_)|(have H2_:=(Option.bind_some _ _).symm.trans H;with_reducible exact H2_)|with_reducible exact H|(rw [hy134];exact H)|exact H
    have Ny134:=aM hy134
    clear hy134
    obtain ⟨y135,hy135⟩ : ∃ y_ : List (S65),y_ = (y134.set (x5_1 : Int).toNat (⟨(rd_T65 y134 x5_1).f0,(⟨(rd_T65 y134 x5_1).f1.f0,wrap64 ((wrap64 (x1_1 + 1)) + 1),(rd_T65 y134 x5_1).f1.f2⟩ : S63)⟩ : S65)):=⟨_,rfl⟩
    replace H : (laws_markItemS.l0 k1 (y135.set (x5_1 : Int).toNat (⟨(rd_T65 y135 x5_1).f0,(⟨(rd_T65 y135 x5_1).f1.f0,(rd_T65 y135 x5_1).f1.f1,wrap64 ((wrap64 ((wrap64 (x1_1 + 1)) + 1)) + 1)⟩ : S63)⟩ : S65)) (wrap64 ((wrap64 ((wrap64 ((wrap64 (x1_1 + 1)) + 1)) + 1)) + 1)) (wrap64 (x5_1 + 1))) = some (r1,r2):=by first|(rw [hy135];with_reducible exact H)|(have H2_:=(Option.bind_some _ _).symm.trans H;rw [hy135];with_reducible exact H2_)|(have H2_:=(Option.bind_some _ _).symm.trans H;with_reducible exact H2_)|with_reducible exact H|(rw [hy135];exact H)|exact H
    have Ny135:=aM hy135
    clear hy135
    obtain ⟨y136,hy136⟩ : ∃ y_ : List (S65),y_ = (y135.set (x5_1 : Int).toNat (⟨(rd_T65 y135 x5_1).f0,(⟨(rd_T65 y135 x5_1).f1.f0,(rd_T65 y135 x5_1).f1.f1,wrap64 ((wrap64 ((wrap64 (x1_1 + 1)) + 1)) + 1)⟩ : S63)⟩ : S65)):=⟨_,rfl⟩
    replace H : (laws_markItemS.l0 k1 y136 (wrap64 ((wrap64 ((wrap64 ((wrap64 (x1_1 + 1)) + 1)) + 1)) + 1)) (wrap64 (x5_1 + 1))) = some (r1,r2):=by first|(rw [hy136];with_reducible exact H)|(have H2_:=(Option.bind_some _ _).symm.trans H;rw [hy136];with_reducible exact H2_)|(have H2_:=(Option.bind_some _ _).symm.trans H;with_reducible exact H2_)|with_reducible exact H|(rw [hy136];exact H)|exact H
    have Ny136:=aM hy136
    clear hy136
    have H':=aM H
    clear H
    obtain ⟨Ao9,co9,eo9⟩:=Kd.R_slice HO_0.out
    subst eo9
    have p5 : 0 ≤ (x5_1 : Int):=of_decide_eq_true (by first|(with_reducible assumption)|assumption)
    have q5 : (x5_1 : Int) < ((x0_1.length : Int) : Int):=of_decide_eq_true (by first|(with_reducible assumption)|assumption)
    obtain ⟨go5,co5,eo5,gb5,gl5,cl5,HG5⟩:=Kd.R_form HO_0.out (by omega)
    (first|cases eo5|(injection eo5 with ea_ en_ ec_;(first|subst ea_|(injection ea_ with ea_;subst ea_));subst ec_;clear en_))
    have GB5:=aM gb5
    have GG5:=aM HG5
    clear gb5 gl5 HG5
    have HMgo5:=aM (show (P0_ go5 ∨ w.heap.size ≤ go5) from (HO_0.out.1 _ rfl))
    obtain ⟨ce5,hcl5,hM5,hcc5,hfr5⟩:=Kd.R_elem HO_0.out z65 (x5_1 : Int) p5 q5
    obtain rfl:=k65_openM hM5
    have hx5_0 : wr.cell? ⟨go5,(x5_1 : Int).toNat * 4,none⟩ = some (.int .i64 ((rd_T65 x0_1 x5_1).f0)):=hcc5 0 _ rfl
    have hx5_1 : wr.cell? ⟨go5,(x5_1 : Int).toNat * 4 + 1,none⟩ = some (.int .i64 ((rd_T65 x0_1 x5_1).f1.f0)):=hcc5 1 _ rfl
    have hx5_2 : wr.cell? ⟨go5,(x5_1 : Int).toNat * 4 + 2,none⟩ = some (.int .i64 ((rd_T65 x0_1 x5_1).f1.f1)):=hcc5 2 _ rfl
    have hx5_3 : wr.cell? ⟨go5,(x5_1 : Int).toNat * 4 + 3,none⟩ = some (.int .i64 ((rd_T65 x0_1 x5_1).f1.f2)):=hcc5 3 _ rfl
    have hf5_0 : wr.frozen? ⟨go5,(x5_1 : Int).toNat * 4,none⟩ = false:=hfr5 0
    have hf5_1 : wr.frozen? ⟨go5,(x5_1 : Int).toNat * 4 + 1,none⟩ = false:=hfr5 1
    have hf5_2 : wr.frozen? ⟨go5,(x5_1 : Int).toNat * 4 + 2,none⟩ = false:=hfr5 2
    have hf5_3 : wr.frozen? ⟨go5,(x5_1 : Int).toNat * 4 + 3,none⟩ = false:=hfr5 3
    clear hcl5 hcc5 hfr5 hM5
    replace p5:=eq_true p5
    replace q5:=eq_true q5
    have HX10:=aM (show Kd.R k65 65 wr w0.heap.size (fun k_ => (P0_ k_ ∨ w.heap.size ≤ k_)) (.slice (some ⟨go5,0,none⟩) x0_1.length co9) x0_1 from (by (with_reducible repeat (first|apply Kd.R_alloc|apply Kd.R_drewN|apply Kd.R_drew));exact HO_0.out))
    obtain ⟨ce10,hcl10,hM10,hcc10,hfr10⟩:=Kd.R_elem HX10.out z65 (x5_1 : Int) (of_decide_eq_true (by first|(with_reducible assumption)|assumption)) (by have h_ : (x5_1 : Int) < ((x0_1.length : Int) : Int):=of_decide_eq_true (by first|(with_reducible assumption)|assumption);first|exact h_|(have e_:=(Kd.R_reads' HO_0.out).1;omega)|simpa using h_)
    obtain rfl:=k65_openM hM10
    have HP10:=Kd.R_seg HX10.out (x5_1 : Int) (of_decide_eq_true (by first|(with_reducible assumption)|assumption)) (by have h_ : (x5_1 : Int) < ((x0_1.length : Int) : Int):=of_decide_eq_true (by first|(with_reducible assumption)|assumption);first|exact h_|(have e_:=(Kd.R_reads' HO_0.out).1;omega)|simpa using h_) (seg:=[.int .i64 x1_1]) (j:=0) hcl10 hcc10 (show 1 ≤ 4 from by decide) (x':=(⟨x1_1,(⟨(rd_T65 x0_1 x5_1).f1.f0,(rd_T65 x0_1 x5_1).f1.f1,(rd_T65 x0_1 x5_1).f1.f2⟩ : S63)⟩ : S65)) (k65_mkM _ _ _ (⟨x1_1,(⟨(rd_T65 x0_1 x5_1).f1.f0,(rd_T65 x0_1 x5_1).f1.f1,(rd_T65 x0_1 x5_1).f1.f2⟩ : S63)⟩ : S65) ) (fun _ hk => hk)
    have hx10_0:=hcc10 0 _ rfl
    (try simp only [show (k65).sz = 4 from rfl,Nat.mul_one,Nat.add_zero] at hx10_0)
    have hf10_0:=hfr10 0
    (try simp only [show (k65).sz = 4 from rfl,Nat.mul_one,Nat.add_zero] at hf10_0)
    clear hcl10 hcc10 hfr10 hM10
    go_wp2_with (first|((with_reducible refine gate_store (t:=3) (p:=16) rfl ?_);refine store_event (t:=3) (p:=16) (v:=?vo_w11) (w1:=(wr.setCell ⟨go5,(x5_1 : Int).toNat * 4,none⟩ (.int .i64 x1_1))) ?hg ?ho ?hn ?hr ?_;(case ho => rfl);(case hg => rfl);(case hn => rfl);(case hr => first|(go_simp;done)|(go_simp;rfl));intro w11 hw;have hg : wr.grownBy w11 (some go5):=(by rw [hw];exact HP10.2);have hp_ : Kd.R k65 65 w11 w0.heap.size (fun k_ => (P0_ k_ ∨ w.heap.size ≤ k_)) (.slice (some ⟨go5,0,none⟩) x0_1.length co9) y133:=(by rw [hw,Ny133.out];exact HP10.1);clear HP10;have n0_:=aM (hp_);have n1_:=aM ((by rw [hw];exact below_set (HB.out) GB5.out : Below w0.heap.size w0 w11));have n2_:=aM (Kept.of_grown (S:=(fun k_ => P0_ k_)) hg (by repeat (first|(with_reducible first|exact HK.out|apply Kept.alloc|apply Kept.drewN|apply Kept.drew)|exact HK.out)) (fun k_ e_ => (HO_0.out.1 k_ e_)));clear HO_0;clear HB;clear HK;have HO_0:=n0_;have HB:=n1_;have HK:=n2_;clear n0_ n1_ n2_;clear hg hw hp_;have p6 : 0 ≤ (x5_1 : Int):=of_decide_eq_true (by first|(with_reducible assumption)|assumption);have q6 : (x5_1 : Int) < ((x0_1.length : Int) : Int):=of_decide_eq_true (by first|(with_reducible assumption)|assumption);obtain ⟨ce6,hcl6,hM6,hcc6,hfr6⟩:=Kd.R_elem HO_0.out z65 (x5_1 : Int) p6 q6;obtain rfl:=k65_openM hM6;have hx6_0 : w11.cell? ⟨go5,(x5_1 : Int).toNat * 4,none⟩ = some (.int .i64 ((rd_T65 y133 x5_1).f0)):=hcc6 0 _ rfl;have hx6_1 : w11.cell? ⟨go5,(x5_1 : Int).toNat * 4 + 1,none⟩ = some (.int .i64 ((rd_T65 y133 x5_1).f1.f0)):=hcc6 1 _ rfl;have hx6_2 : w11.cell? ⟨go5,(x5_1 : Int).toNat * 4 + 2,none⟩ = some (.int .i64 ((rd_T65 y133 x5_1).f1.f1)):=hcc6 2 _ rfl;have hx6_3 : w11.cell? ⟨go5,(x5_1 : Int).toNat * 4 + 3,none⟩ = some (.int .i64 ((rd_T65 y133 x5_1).f1.f2)):=hcc6 3 _ rfl;have hf6_0 : w11.frozen? ⟨go5,(x5_1 : Int).toNat * 4,none⟩ = false:=hfr6 0;have hf6_1 : w11.frozen? ⟨go5,(x5_1 : Int).toNat * 4 + 1,none⟩ = false:=hfr6 1;have hf6_2 : w11.frozen? ⟨go5,(x5_1 : Int).toNat * 4 + 2,none⟩ = false:=hfr6 2;have hf6_3 : w11.frozen? ⟨go5,(x5_1 : Int).toNat * 4 + 3,none⟩ = false:=hfr6 3;clear hcl6 hcc6 hfr6 hM6;replace p6:=eq_true p6;replace q6:=eq_true q6;have HX12:=aM (show Kd.R k65 65 w11 w0.heap.size (fun k_ => (P0_ k_ ∨ w.heap.size ≤ k_)) (.slice (some ⟨go5,0,none⟩) x0_1.length co9) y133 from (by (with_reducible repeat (first|apply Kd.R_alloc|apply Kd.R_drewN|apply Kd.R_drew));exact HO_0.out));obtain ⟨ce12,hcl12,hM12,hcc12,hfr12⟩:=Kd.R_elem HX12.out z65 (x5_1 : Int) (of_decide_eq_true (by first|(with_reducible assumption)|assumption)) (by have h_ : (x5_1 : Int) < ((x0_1.length : Int) : Int):=of_decide_eq_true (by first|(with_reducible assumption)|assumption);first|exact h_|(have e_:=(Kd.R_reads' HO_0.out).1;omega)|simpa using h_);obtain rfl:=k65_openM hM12;have HP12:=Kd.R_seg HX12.out (x5_1 : Int) (of_decide_eq_true (by first|(with_reducible assumption)|assumption)) (by have h_ : (x5_1 : Int) < ((x0_1.length : Int) : Int):=of_decide_eq_true (by first|(with_reducible assumption)|assumption);first|exact h_|(have e_:=(Kd.R_reads' HO_0.out).1;omega)|simpa using h_) (seg:=[.int .i64 (wrap64 (x1_1 + 1))]) (j:=1) hcl12 hcc12 (show 2 ≤ 4 from by decide) (x':=(⟨(rd_T65 y133 x5_1).f0,(⟨wrap64 (x1_1 + 1),(rd_T65 y133 x5_1).f1.f1,(rd_T65 y133 x5_1).f1.f2⟩ : S63)⟩ : S65)) (k65_mkM _ _ _ (⟨(rd_T65 y133 x5_1).f0,(⟨wrap64 (x1_1 + 1),(rd_T65 y133 x5_1).f1.f1,(rd_T65 y133 x5_1).f1.f2⟩ : S63)⟩ : S65) ) (fun _ hk => hk);have hx12_1:=hcc12 1 _ rfl;(try simp only [show (k65).sz = 4 from rfl,Nat.mul_one,Nat.add_zero] at hx12_1);have hf12_1:=hfr12 1;(try simp only [show (k65).sz = 4 from rfl,Nat.mul_one,Nat.add_zero] at hf12_1);clear hcl12 hcc12 hfr12 hM12)|((with_reducible refine gate_store (t:=3) (p:=24) rfl ?_);refine store_event (t:=3) (p:=24) (v:=?vo_w13) (w1:=(w11.setCell ⟨go5,(x5_1 : Int).toNat * 4 + 1,none⟩ (.int .i64 (wrap64 (x1_1 + 1))))) ?hg ?ho ?hn ?hr ?_;(case ho => rfl);(case hg => rfl);(case hn => rfl);(case hr => first|(go_simp;done)|(go_simp;rfl));intro w13 hw;have hg : w11.grownBy w13 (some go5):=(by rw [hw];exact HP12.2);have hp_ : Kd.R k65 65 w13 w0.heap.size (fun k_ => (P0_ k_ ∨ w.heap.size ≤ k_)) (.slice (some ⟨go5,0,none⟩) x0_1.length co9) y134:=(by rw [hw,Ny134.out];exact HP12.1);clear HP12;have n0_:=aM (hp_);have n1_:=aM ((by rw [hw];exact below_set (HB.out) GB5.out : Below w0.heap.size w0 w13));have n2_:=aM (Kept.of_grown (S:=(fun k_ => P0_ k_)) hg (by repeat (first|(with_reducible first|exact HK.out|apply Kept.alloc|apply Kept.drewN|apply Kept.drew)|exact HK.out)) (fun k_ e_ => (HO_0.out.1 k_ e_)));clear HO_0;clear HB;clear HK;have HO_0:=n0_;have HB:=n1_;have HK:=n2_;clear n0_ n1_ n2_;clear hg hw hp_;have p7 : 0 ≤ (x5_1 : Int):=of_decide_eq_true (by first|(with_reducible assumption)|assumption);have q7 : (x5_1 : Int) < ((x0_1.length : Int) : Int):=of_decide_eq_true (by first|(with_reducible assumption)|assumption);obtain ⟨ce7,hcl7,hM7,hcc7,hfr7⟩:=Kd.R_elem HO_0.out z65 (x5_1 : Int) p7 q7;obtain rfl:=k65_openM hM7;have hx7_0 : w13.cell? ⟨go5,(x5_1 : Int).toNat * 4,none⟩ = some (.int .i64 ((rd_T65 y134 x5_1).f0)):=hcc7 0 _ rfl;have hx7_1 : w13.cell? ⟨go5,(x5_1 : Int).toNat * 4 + 1,none⟩ = some (.int .i64 ((rd_T65 y134 x5_1).f1.f0)):=hcc7 1 _ rfl;have hx7_2 : w13.cell? ⟨go5,(x5_1 : Int).toNat * 4 + 2,none⟩ = some (.int .i64 ((rd_T65 y134 x5_1).f1.f1)):=hcc7 2 _ rfl;have hx7_3 : w13.cell? ⟨go5,(x5_1 : Int).toNat * 4 + 3,none⟩ = some (.int .i64 ((rd_T65 y134 x5_1).f1.f2)):=hcc7 3 _ rfl;have hf7_0 : w13.frozen? ⟨go5,(x5_1 : Int).toNat * 4,none⟩ = false:=hfr7 0;have hf7_1 : w13.frozen? ⟨go5,(x5_1 : Int).toNat * 4 + 1,none⟩ = false:=hfr7 1;have hf7_2 : w13.frozen? ⟨go5,(x5_1 : Int).toNat * 4 + 2,none⟩ = false:=hfr7 2;have hf7_3 : w13.frozen? ⟨go5,(x5_1 : Int).toNat * 4 + 3,none⟩ = false:=hfr7 3;clear hcl7 hcc7 hfr7 hM7;replace p7:=eq_true p7;replace q7:=eq_true q7;have HX14:=aM (show Kd.R k65 65 w13 w0.heap.size (fun k_ => (P0_ k_ ∨ w.heap.size ≤ k_)) (.slice (some ⟨go5,0,none⟩) x0_1.length co9) y134 from (by (with_reducible repeat (first|apply Kd.R_alloc|apply Kd.R_drewN|apply Kd.R_drew));exact HO_0.out));obtain ⟨ce14,hcl14,hM14,hcc14,hfr14⟩:=Kd.R_elem HX14.out z65 (x5_1 : Int) (of_decide_eq_true (by first|(with_reducible assumption)|assumption)) (by have h_ : (x5_1 : Int) < ((x0_1.length : Int) : Int):=of_decide_eq_true (by first|(with_reducible assumption)|assumption);first|exact h_|(have e_:=(Kd.R_reads' HO_0.out).1;omega)|simpa using h_);obtain rfl:=k65_openM hM14;have HP14:=Kd.R_seg HX14.out (x5_1 : Int) (of_decide_eq_true (by first|(with_reducible assumption)|assumption)) (by have h_ : (x5_1 : Int) < ((x0_1.length : Int) : Int):=of_decide_eq_true (by first|(with_reducible assumption)|assumption);first|exact h_|(have e_:=(Kd.R_reads' HO_0.out).1;omega)|simpa using h_) (seg:=[.int .i64 (wrap64 ((wrap64 (x1_1 + 1)) + 1))]) (j:=2) hcl14 hcc14 (show 3 ≤ 4 from by decide) (x':=(⟨(rd_T65 y134 x5_1).f0,(⟨(rd_T65 y134 x5_1).f1.f0,wrap64 ((wrap64 (x1_1 + 1)) + 1),(rd_T65 y134 x5_1).f1.f2⟩ : S63)⟩ : S65)) (k65_mkM _ _ _ (⟨(rd_T65 y134 x5_1).f0,(⟨(rd_T65 y134 x5_1).f1.f0,wrap64 ((wrap64 (x1_1 + 1)) + 1),(rd_T65 y134 x5_1).f1.f2⟩ : S63)⟩ : S65) ) (fun _ hk => hk);have hx14_2:=hcc14 2 _ rfl;(try simp only [show (k65).sz = 4 from rfl,Nat.mul_one,Nat.add_zero] at hx14_2);have hf14_2:=hfr14 2;(try simp only [show (k65).sz = 4 from rfl,Nat.mul_one,Nat.add_zero] at hf14_2);clear hcl14 hcc14 hfr14 hM14)|((with_reducible refine gate_store (t:=3) (p:=32) rfl ?_);refine store_event (t:=3) (p:=32) (v:=?vo_w15) (w1:=(w13.setCell ⟨go5,(x5_1 : Int).toNat * 4 + 2,none⟩ (.int .i64 (wrap64 ((wrap64 (x1_1 + 1)) + 1))))) ?hg ?ho ?hn ?hr ?_;(case ho => rfl);(case hg => rfl);(case hn => rfl);(case hr => first|(go_simp;done)|(go_simp;rfl));intro w15 hw;have hg : w13.grownBy w15 (some go5):=(by rw [hw];exact HP14.2);have hp_ : Kd.R k65 65 w15 w0.heap.size (fun k_ => (P0_ k_ ∨ w.heap.size ≤ k_)) (.slice (some ⟨go5,0,none⟩) x0_1.length co9) y135:=(by rw [hw,Ny135.out];exact HP14.1);clear HP14;have n0_:=aM (hp_);have n1_:=aM ((by rw [hw];exact below_set (HB.out) GB5.out : Below w0.heap.size w0 w15));have n2_:=aM (Kept.of_grown (S:=(fun k_ => P0_ k_)) hg (by repeat (first|(with_reducible first|exact HK.out|apply Kept.alloc|apply Kept.drewN|apply Kept.drew)|exact HK.out)) (fun k_ e_ => (HO_0.out.1 k_ e_)));clear HO_0;clear HB;clear HK;have HO_0:=n0_;have HB:=n1_;have HK:=n2_;clear n0_ n1_ n2_;clear hg hw hp_;have p8 : 0 ≤ (x5_1 : Int):=of_decide_eq_true (by first|(with_reducible assumption)|assumption);have q8 : (x5_1 : Int) < ((x0_1.length : Int) : Int):=of_decide_eq_true (by first|(with_reducible assumption)|assumption);obtain ⟨ce8,hcl8,hM8,hcc8,hfr8⟩:=Kd.R_elem HO_0.out z65 (x5_1 : Int) p8 q8;obtain rfl:=k65_openM hM8;have hx8_0 : w15.cell? ⟨go5,(x5_1 : Int).toNat * 4,none⟩ = some (.int .i64 ((rd_T65 y135 x5_1).f0)):=hcc8 0 _ rfl;have hx8_1 : w15.cell? ⟨go5,(x5_1 : Int).toNat * 4 + 1,none⟩ = some (.int .i64 ((rd_T65 y135 x5_1).f1.f0)):=hcc8 1 _ rfl;have hx8_2 : w15.cell? ⟨go5,(x5_1 : Int).toNat * 4 + 2,none⟩ = some (.int .i64 ((rd_T65 y135 x5_1).f1.f1)):=hcc8 2 _ rfl;have hx8_3 : w15.cell? ⟨go5,(x5_1 : Int).toNat * 4 + 3,none⟩ = some (.int .i64 ((rd_T65 y135 x5_1).f1.f2)):=hcc8 3 _ rfl;have hf8_0 : w15.frozen? ⟨go5,(x5_1 : Int).toNat * 4,none⟩ = false:=hfr8 0;have hf8_1 : w15.frozen? ⟨go5,(x5_1 : Int).toNat * 4 + 1,none⟩ = false:=hfr8 1;have hf8_2 : w15.frozen? ⟨go5,(x5_1 : Int).toNat * 4 + 2,none⟩ = false:=hfr8 2;have hf8_3 : w15.frozen? ⟨go5,(x5_1 : Int).toNat * 4 + 3,none⟩ = false:=hfr8 3;clear hcl8 hcc8 hfr8 hM8;replace p8:=eq_true p8;replace q8:=eq_true q8;have HX16:=aM (show Kd.R k65 65 w15 w0.heap.size (fun k_ => (P0_ k_ ∨ w.heap.size ≤ k_)) (.slice (some ⟨go5,0,none⟩) x0_1.length co9) y135 from (by (with_reducible repeat (first|apply Kd.R_alloc|apply Kd.R_drewN|apply Kd.R_drew));exact HO_0.out));obtain ⟨ce16,hcl16,hM16,hcc16,hfr16⟩:=Kd.R_elem HX16.out z65 (x5_1 : Int) (of_decide_eq_true (by first|(with_reducible assumption)|assumption)) (by have h_ : (x5_1 : Int) < ((x0_1.length : Int) : Int):=of_decide_eq_true (by first|(with_reducible assumption)|assumption);first|exact h_|(have e_:=(Kd.R_reads' HO_0.out).1;omega)|simpa using h_);obtain rfl:=k65_openM hM16;have HP16:=Kd.R_seg HX16.out (x5_1 : Int) (of_decide_eq_true (by first|(with_reducible assumption)|assumption)) (by have h_ : (x5_1 : Int) < ((x0_1.length : Int) : Int):=of_decide_eq_true (by first|(with_reducible assumption)|assumption);first|exact h_|(have e_:=(Kd.R_reads' HO_0.out).1;omega)|simpa using h_) (seg:=[.int .i64 (wrap64 ((wrap64 ((wrap64 (x1_1 + 1)) + 1)) + 1))]) (j:=3) hcl16 hcc16 (show 4 ≤ 4 from by decide) (x':=(⟨(rd_T65 y135 x5_1).f0,(⟨(rd_T65 y135 x5_1).f1.f0,(rd_T65 y135 x5_1).f1.f1,wrap64 ((wrap64 ((wrap64 (x1_1 + 1)) + 1)) + 1)⟩ : S63)⟩ : S65)) (k65_mkM _ _ _ (⟨(rd_T65 y135 x5_1).f0,(⟨(rd_T65 y135 x5_1).f1.f0,(rd_T65 y135 x5_1).f1.f1,wrap64 ((wrap64 ((wrap64 (x1_1 + 1)) + 1)) + 1)⟩ : S63)⟩ : S65) ) (fun _ hk => hk);have hx16_3:=hcc16 3 _ rfl;(try simp only [show (k65).sz = 4 from rfl,Nat.mul_one,Nat.add_zero] at hx16_3);have hf16_3:=hfr16 3;(try simp only [show (k65).sz = 4 from rfl,Nat.mul_one,Nat.add_zero] at hf16_3);clear hcl16 hcc16 hfr16 hM16)|((with_reducible refine gate_store (t:=3) (p:=40) rfl ?_);refine store_event (t:=3) (p:=40) (v:=?vo_w17) (w1:=(w15.setCell ⟨go5,(x5_1 : Int).toNat * 4 + 3,none⟩ (.int .i64 (wrap64 ((wrap64 ((wrap64 (x1_1 + 1)) + 1)) + 1))))) ?hg ?ho ?hn ?hr ?_;(case ho => rfl);(case hg => rfl);(case hn => rfl);(case hr => first|(go_simp;done)|(go_simp;rfl));intro w17 hw;have hg : w15.grownBy w17 (some go5):=(by rw [hw];exact HP16.2);have hp_ : Kd.R k65 65 w17 w0.heap.size (fun k_ => (P0_ k_ ∨ w.heap.size ≤ k_)) (.slice (some ⟨go5,0,none⟩) x0_1.length co9) y136:=(by rw [hw,Ny136.out];exact HP16.1);clear HP16;have n0_:=aM (hp_);have n1_:=aM ((by rw [hw];exact below_set (HB.out) GB5.out : Below w0.heap.size w0 w17));have n2_:=aM (Kept.of_grown (S:=(fun k_ => P0_ k_)) hg (by repeat (first|(with_reducible first|exact HK.out|apply Kept.alloc|apply Kept.drewN|apply Kept.drew)|exact HK.out)) (fun k_ e_ => (HO_0.out.1 k_ e_)));clear HO_0;clear HB;clear HK;have HO_0:=n0_;have HB:=n1_;have HK:=n2_;clear n0_ n1_ n2_;clear hg hw hp_))
    go_roundg k1
    case measure => have:=HK1.out;omega
    case rel => exact ⟨(y136),(wrap64 ((wrap64 ((wrap64 ((wrap64 (x1_1 + 1)) + 1)) + 1)) + 1)),(wrap64 (x5_1 + 1)),(by first|rfl|(simp;done)|(simp [*];done)),(by first|rfl|(simp;done)|(simp [*];done)),H',⟨by have:=HK1.out;omega⟩,⟨by (with_reducible repeat (first|apply Kd.R_alloc|apply Kd.R_drewN|apply Kd.R_drew));exact HO_0.out⟩,⟨by repeat (first|(with_reducible first|exact HK.out|apply Kept.alloc|apply Kept.drewN|apply Kept.drew)|exact HK.out)⟩,⟨by repeat (first|(with_reducible first|exact HB.out|apply bA|apply bN|apply bD)|exact HB.out)⟩⟩
   ·rw [if_neg c3] at H
    have c3b0 : decide (x5_1 < (x0_1.length : Int)) = false:=decide_eq_false c3
    clear c3
    simp only [Option.some.injEq,Prod.mk.injEq] at H
    obtain ⟨rfl,rfl⟩:=H
    obtain ⟨Ao18,co18,eo18⟩:=Kd.R_slice HO_0.out
    subst eo18
    go_wp2
    go_ret
    exact ⟨by first|rfl|(simp only [i64_w,i32_w];done)|(simp only [i64_w,i32_w];rfl)|(simp [errW_none,errW_some] <;> rfl)|(simp [*,errW_none,errW_some] <;> rfl),by (with_reducible repeat (first|apply Kd.R_alloc|apply Kd.R_drewN|apply Kd.R_drew));exact HO_0.out,by repeat (first|(with_reducible first|exact HB.out|apply bA|apply bN|apply bD)|exact HB.out),by repeat (first|(with_reducible first|exact HK.out|apply Kept.alloc|apply Kept.drewN|apply Kept.drew)|exact HK.out)⟩

/-! ### laws_markVoteS: function 42 -/
def laws_markVoteS.f (l0 : List (S25)) (a1 : Int) : Option (Int):=if l0.length = 0 then some a1 else none
set_option maxHeartbeats 8000000 in
set_option maxRecDepth 100000 in
/-- Where there is no vote nothing is marked, and nothing is written. -/
theorem laws_markVoteS.calls (A0 : Option Addr) (c0 : Nat) (l0 : List (S25)) (a1 : Int) (r : Int) (w : World) (hr0 : Kd.C k25 w A0 l0.length l0) (hc0 : l0.length ≤ c0) (h : laws_markVoteS.f l0 a1 = some r) :
  Calls Try.prog 42 #[.slice A0 l0.length c0,.int .i64 a1] w fun e w' => e = .returned (.int .i64 r) ∧ Drawn0 w w':=by
 have hl : l0 = []:=by
  unfold laws_markVoteS.f at h
  by_cases hx : l0.length = 0
  ·exact List.length_eq_zero_iff.1 hx
  ·rw [if_neg hx] at h
   cases h
 subst hl
 have h3 : a1 = r:=Option.some.inj h
 subst h3
 clear h hr0 hc0
 go_enter Try.func42,Try.ntmps42
 go_wp2
 go_loopg [1,5] 1 (fun kq v1 v5 w' => v1 = .int .i64 a1 ∧ v5 = .int .i64 0 ∧ Aside0 (w' = w))
 case atStart => exact ⟨rfl,rfl,⟨rfl⟩⟩
 case round =>
  obtain ⟨rfl,rfl,HW⟩:=hrel
  go_wp2
  go_ret
  exact ⟨rfl,⟨⟨0,by rw [HW.out];rfl⟩⟩⟩

/-! ### laws_markNode: function 19 -/
def laws_markNode.f (a0_0 : Int) (a0_1 : Int) (a0_2 : Int) (l0_3 : List (S25)) (a1 : Int) : Option (Int):=(laws_markVoteS.f l0_3 a1).bind fun t138 => (some t138)
set_option maxHeartbeats 8000000 in
set_option maxRecDepth 100000 in
theorem laws_markNode.calls (a0_0 : Int) (a0_1 : Int) (a0_2 : Int) (A0_3 : Option Addr) (c0_3 : Nat) (l0_3 : List (S25)) (a1 : Int) (r : Int) (w : World) (hr0_3 : Kd.C k25 w A0_3 l0_3.length l0_3) (hc0_3 : l0_3.length ≤ c0_3) (h : laws_markNode.f a0_0 a0_1 a0_2 l0_3 a1 = some r) :
  Calls Try.prog 19 #[.agg #[.int .i64 a0_0,.int .i64 a0_1,.int .i64 a0_2,.slice A0_3 l0_3.length c0_3],.int .i64 a1] w fun e w' => e = .returned (.int .i64 r) ∧ Below w.heap.size w w':=by
 have hu39:=Try.underlying39
 have HR0_3:=aM hr0_3
 have HC0_3:=aM hc0_3
 clear hr0_3 hc0_3
 have HB:=aM (Below.refl w.heap.size w)
 have H : ((laws_markVoteS.f l0_3 a1).bind fun t138 => (some t138)) = some r:=h
 clear h
 replace H:=Option.bind_eq_some_iff.mp H
 obtain ⟨t138,A30,H⟩:=H
 replace H : (some t138) = some r:=H
 have A3:=aM A30
 clear A30
 obtain rfl:=Option.some.inj H
 go_enter Try.func19,Try.ntmps19
 go_wp2_with (first|((with_reducible refine gate_dst (N:=2) rfl ?_);refine box_event ?hg (N:=2) ?hd (cs:=#[.int .i64 a0_0,.int .i64 a0_1,.int .i64 a0_2,.slice A0_3 l0_3.length c0_3]) (t:=39) ?hr ?_;(case hd => rfl);(case hg => rfl);(case hr => first|(go_simp;done)|(go_simp;rfl));intro gb137 hg w4 hbox hb;have n0_:=aM (below_step (by repeat (first|(with_reducible first|exact HB.out|apply bA|apply bN|apply bD)|exact HB.out)) hb);have n1_:=aM (hbox);have n2_:=aM ((by rw [hg];exact (below_size (by repeat (first|(with_reducible first|exact HB.out|apply bA|apply bN|apply bD)|exact HB.out))) : w.heap.size ≤ gb137));have n3_:=aM ((by rw [hg];exact (below_size (by repeat (first|(with_reducible first|exact HB.out|apply bA|apply bN|apply bD)|exact HB.out))) : w.heap.size ≤ gb137));clear HB;have HB:=n0_;have BK137:=n1_;have GW137:=n2_;have GE137:=n3_;clear n0_ n1_ n2_ n3_;clear hb hbox hg;have hcz5_0 : w4.cell? ⟨gb137,0,none⟩ = some (.int .i64 a0_0):=(blk_cell BK137.out 0).trans rfl;have hcz5_1 : w4.cell? ⟨gb137,1,none⟩ = some (.int .i64 a0_1):=(blk_cell BK137.out 1).trans rfl;have hcz5_2 : w4.cell? ⟨gb137,2,none⟩ = some (.int .i64 a0_2):=(blk_cell BK137.out 2).trans rfl;have hcz5_3 : w4.cell? ⟨gb137,3,none⟩ = some (.slice A0_3 l0_3.length c0_3):=(blk_cell BK137.out 3).trans rfl;have hfz5_0:=blk_frozen BK137.out 0;have hfz5_1:=blk_frozen BK137.out 1;have hfz5_2:=blk_frozen BK137.out 2;have hfz5_3:=blk_frozen BK137.out 3)|((with_reducible refine gate_callee (f:=42) rfl ?_);refine goesL_ (some 8) rfl rfl Try.func42 (by kernel_rfl) rfl #[.slice A0_3 l0_3.length c0_3,.int .i64 a1] rfl (by (try simp only [List.map_toArray,List.map_cons,List.map_nil]);first|done|rfl|(simp only [List.length_drop,List.length_take];rfl)) ?_;(with_reducible refine (laws_markVoteS.calls _ _ l0_3 a1 t138 _ ?side1 ?side2 A3.out).mono ?_);(case side1 => repeat (first|exact (Kd.C_below HR0_3.out HB.out)|(with_reducible refine Kd.C_alloc ?_ _)|(with_reducible refine Kd.C_drewN ?_ _)|(with_reducible refine Kd.C_drew ?_)));(case side2 => exact HC0_3.out);rintro e w' ⟨rfl,⟨nd,rfl⟩⟩;refine ⟨_,rfl,?_⟩))
 go_ret
 exact ⟨by first|rfl|(simp only [i64_w,i32_w];done)|(simp only [i64_w,i32_w];rfl)|(simp [errW_none,errW_some] <;> rfl)|(simp [*,errW_none,errW_some] <;> rfl),by repeat (first|(with_reducible first|exact HB.out|apply bA|apply bN|apply bD|refine below_set ?_ GE137.out)|exact HB.out)⟩

end Go.Proofs.Ytaccamnoacdiiaa.P
