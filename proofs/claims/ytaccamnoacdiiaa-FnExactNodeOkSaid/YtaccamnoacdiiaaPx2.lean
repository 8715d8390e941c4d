/- The printed functions: what each Go function computes, as a Lean function, and that the Go code comes to just that. Conditions: none beyond each contract's own. -/
import Derived.Test.YtaccamnoacdiiaaPx0
import Derived.Test.YtaccamnoacdiiaaPx1
namespace Go.Proofs.Ytaccamnoacdiiaa.P
open Go.RowKit Go.Proofs.YtaccamnoacdiiaaW.PrintWords Go.Proofs.YtaccamnoacdiiaaW.PrintLast Go.Proofs.YtaccamnoacdiiaaW.PrintMore
attribute [local go_sem] max2_int min2_int max_two min_two max_three min_three max_four min_four   -- for this text's walks alone
set_option linter.unusedVariables false
set_option linter.unusedSimpArgs false

attribute [local go_sem high] eqA65
/-! ### impl_Vote_last: function 51 -/
def impl_Vote_last.f (a0_0 : Int) (l0_1 : List (S65)) : Option (Int):=if 0 ≤ (wrap64 ((l0_1.length : Int) - 1)) then (if (wrap64 ((l0_1.length : Int) - 1)) < (l0_1.length : Int) then (some ((rd_T65 l0_1 (wrap64 ((l0_1.length : Int) - 1))).f0)) else (none)) else (none)
set_option maxHeartbeats 8000000 in
set_option maxRecDepth 100000 in
theorem impl_Vote_last.calls (a0_0 : Int) (A0_1 : Option Addr) (c0_1 : Nat) (l0_1 : List (S65)) (r : Int) (w : World) (hr0_1 : Kd.C k65 w A0_1 l0_1.length l0_1) (hc0_1 : l0_1.length ≤ c0_1) (h : impl_Vote_last.f a0_0 l0_1 = some r) :
  Calls Try.prog 51 #[.agg #[.int .i64 a0_0,.slice A0_1 l0_1.length c0_1]] w fun e w' => e = .returned (.int .i64 r) ∧ Below w.heap.size w w':=by
 have hu25:=Try.underlying25
 have HR0_1:=aM hr0_1
 have HC0_1:=aM hc0_1
 clear hr0_1 hc0_1
 have HB:=aM (Below.refl w.heap.size w)
 have H : (if 0 ≤ (wrap64 ((l0_1.length : Int) - 1)) then (if (wrap64 ((l0_1.length : Int) - 1)) < (l0_1.length : Int) then (some ((rd_T65 l0_1 (wrap64 ((l0_1.length : Int) - 1))).f0)) else (none)) else (none)) = some r:=h
 clear h
 obtain ⟨ji2,hji2⟩ : ∃ j_ : Int,(wrap64 ((l0_1.length : Int) - 1)) = j_:=⟨_,rfl⟩
 replace H : (if 0 ≤ (ji2) then (if (ji2) < (l0_1.length : Int) then (some ((rd_T65 l0_1 (ji2)).f0)) else (none)) else (none)) = some r:=by first|(rw [hji2] at H;exact H)|(simp only [hji2] at H ⊢;exact H)
 have hji2w : (IntKind.i64.wrap ((l0_1.length : Int) - 1)) = ji2:=(i64_w _).trans hji2
 by_cases c3 : 0 ≤ (ji2)
 case neg => rw [if_neg c3] at H;exact absurd H (by simp)
 rw [if_pos c3] at H
 have c3b0 : decide (0 ≤ (ji2)) = true:=decide_eq_true c3
 clear c3
 by_cases c4 : (ji2) < (l0_1.length : Int)
 case neg => rw [if_neg c4] at H;exact absurd H (by simp)
 rw [if_pos c4] at H
 have c4b0 : decide ((ji2) < (l0_1.length : Int)) = true:=decide_eq_true c4
 clear c4
 obtain rfl:=Option.some.inj H
 go_enter Try.func51,Try.ntmps51
 go_wp2_with (first|((with_reducible refine gate_dst (N:=1) rfl ?_);refine box_event ?hg (N:=1) ?hd (cs:=#[.int .i64 a0_0,.slice A0_1 l0_1.length c0_1]) (t:=25) ?hr ?_;(case hd => rfl);(case hg => rfl);(case hr => first|(go_simp;done)|(go_simp;rfl));intro gb101 hg w5 hbox hb;have n0_:=aM (below_step (by repeat (first|(with_reducible first|exact HB.out|apply bA|apply bN|apply bD)|exact HB.out)) hb);have n1_:=aM (hbox);have n2_:=aM ((by rw [hg];exact (below_size (by repeat (first|(with_reducible first|exact HB.out|apply bA|apply bN|apply bD)|exact HB.out))) : w.heap.size ≤ gb101));have n3_:=aM ((by rw [hg];exact (below_size (by repeat (first|(with_reducible first|exact HB.out|apply bA|apply bN|apply bD)|exact HB.out))) : w.heap.size ≤ gb101));clear HB;have HB:=n0_;have BK101:=n1_;have GW101:=n2_;have GE101:=n3_;clear n0_ n1_ n2_ n3_;clear hb hbox hg;have hcz6_0 : w5.cell? ⟨gb101,0,none⟩ = some (.int .i64 a0_0):=(blk_cell BK101.out 0).trans rfl;have hcz6_1 : w5.cell? ⟨gb101,1,none⟩ = some (.slice A0_1 l0_1.length c0_1):=(blk_cell BK101.out 1).trans rfl;have hfz6_0:=blk_frozen BK101.out 0;have hfz6_1:=blk_frozen BK101.out 1;have p102 : 0 ≤ ((ji2) : Int):=of_decide_eq_true (by first|(with_reducible assumption)|assumption);have q102 : (ji2) < (l0_1.length : Int):=of_decide_eq_true (by first|(with_reducible assumption)|assumption);obtain ⟨ad102,e102,hx102_0,hx102_1,hx102_2,hx102_3⟩:=at_T65 HR0_1.out (ji2) p102 q102;cases e102;replace hx102_0:=(HB.out.cell (bL w hx102_0)).trans hx102_0;replace hx102_1:=(HB.out.cell (bL w hx102_1)).trans hx102_1;replace hx102_2:=(HB.out.cell (bL w hx102_2)).trans hx102_2;replace hx102_3:=(HB.out.cell (bL w hx102_3)).trans hx102_3;replace p102:=eq_true p102;replace q102:=eq_true q102))
 go_ret
 exact ⟨by first|rfl|(simp only [i64_w,i32_w];done)|(simp only [i64_w,i32_w];rfl)|(simp [errW_none,errW_some] <;> rfl)|(simp only [← hji2];first|rfl|(simp [errW_none,errW_some] <;> rfl))|(simp [*,errW_none,errW_some] <;> rfl),by repeat (first|(with_reducible first|exact HB.out|apply bA|apply bN|apply bD|refine below_set ?_ GE101.out)|exact HB.out)⟩

/-! ### impl_Item: function 71 -/
def impl_Item.l0 : Nat → List (S65) → List (S65) → Int → Int → Option (Bool)
 | 0,_,_,_,_ => none
 | k + 1,x0,x1,x12,x13 => if x13 < x12 then (if 0 ≤ x13 then (if x13 < (x0.length : Int) then (if x13 < (x1.length : Int) then (if (!(((rd_T65 x0 x13).f0) == ((rd_T65 x1 x13).f0)) || ((!(((rd_T65 x0 x13).f1.f0) == ((rd_T65 x1 x13).f1.f0)) || (!(((rd_T65 x0 x13).f1.f1) == ((rd_T65 x1 x13).f1.f1)) || (!(((rd_T65 x0 x13).f1.f2) == ((rd_T65 x1 x13).f1.f2))))))) = true then (some false) else (impl_Item.l0 k x0 x1 x12 (wrap64 (x13 + 1)))) else (none)) else (none)) else (none)) else (some true)
def impl_Item.f (k : Nat) (l0 : List (S65)) (l1 : List (S65)) : Option (Bool):=if (l0.length : Int) = (l1.length : Int) then (impl_Item.l0 k l0 l1 (l0.length : Int) 0) else (some false)
theorem impl_Item.mono_l : ∀ k,(∀ y0 y1 y2 y3,LeO (impl_Item.l0 k y0 y1 y2 y3) (impl_Item.l0 (k + 1) y0 y1 y2 y3))
 | 0 => fun _ _ _ _ r h => by simp [impl_Item.l0] at h
 | k + 1 => by
  have ih0:=impl_Item.mono_l k
  ·intro y0 y1 y2 y3
   unfold impl_Item.l0
   repeat' first
   | exact LeO.refl _
   | exact ih0 _ _ _ _
   | exact LeO.none _
   | refine LeO.ite ?_ ?_
   | refine LeO.bind ?_ (fun _ => ?_)
theorem impl_Item.mono : ∀ a0 a1 k,LeO (impl_Item.f k a0 a1) (impl_Item.f (k + 1) a0 a1):=by
 intro a0 a1 k
 have ih0:=impl_Item.mono_l k
 unfold impl_Item.f
 repeat' first
   | exact LeO.refl _
   | exact ih0 _ _ _ _
   | exact LeO.none _
   | refine LeO.ite ?_ ?_
   | refine LeO.bind ?_ (fun _ => ?_)
set_option maxHeartbeats 8000000 in
set_option maxRecDepth 100000 in
theorem impl_Item.calls (k : Nat) (A0 : Option Addr) (c0 : Nat) (l0 : List (S65)) (A1 : Option Addr) (c1 : Nat) (l1 : List (S65)) (r : Bool) (w : World) (hr0 : Kd.C k65 w A0 l0.length l0) (hc0 : l0.length ≤ c0) (hr1 : Kd.C k65 w A1 l1.length l1) (hc1 : l1.length ≤ c1) (h : impl_Item.f k l0 l1 = some r) :
  Calls Try.prog 71 #[.slice A0 l0.length c0,.slice A1 l1.length c1] w fun e w' => e = .returned (.bool r) ∧ Drawn0 w w':=by
 have hu65:=Try.underlying65
 have HR0:=aM hr0
 have HC0:=aM hc0
 clear hr0 hc0
 have HR1:=aM hr1
 have HC1:=aM hc1
 clear hr1 hc1
 have H : (if (l0.length : Int) = (l1.length : Int) then (impl_Item.l0 k l0 l1 (l0.length : Int) 0) else (some false)) = some r:=h
 clear h
 by_cases c3 : (l0.length : Int) = (l1.length : Int)
 ·rw [if_pos c3] at H
  have c3b0 : ((l0.length : Int) == (l1.length : Int)) = true:=beq_iff_eq.mpr c3
  have c3b1 : ((l0.length : Int) != (l1.length : Int)) = false:=bne_eq_false_iff_eq.mpr c3
  have c3b2 : (l0.length == l1.length) = true:=by first|simpa using c3|(simp at c3 ⊢;omega)
  clear c3
  have H':=aM H
  clear H
  go_enter Try.func71,Try.ntmps71
  go_wp2
  repeat (go_quiet (fail);try go_wp2)
  go_loopg [13] k (fun kq v13 w' => ∃ (x13_1 : Int),v13 = .int .i64 x13_1 ∧ Aside0 (impl_Item.l0 kq l0 l1 (l0.length : Int) x13_1 = some r) ∧ Aside0 (kq ≤ k) ∧ Drawn0 w w')
  case atStart => exact ⟨(0),(by first|rfl|(simp;done)|(simp [*];done)),H',⟨Nat.le_refl _⟩,by repeat (first|exact Drawn0.refl _|apply Drawn0.step)⟩
  case round =>
   clear H'
   try clear c1
   try clear p2
   try clear c3
   try clear c3b0
   try clear c3b1
   try clear c3b2
   obtain ⟨x13_1,rfl,HA,HK1,⟨m1,rfl⟩⟩:=hrel
   cases gk with
   | zero => exact absurd HA.out (by simp [impl_Item.l0])
   | succ k1 =>
    have H:=HA.out
    clear HA
    simp only [impl_Item.l0] at H
    by_cases c4 : x13_1 < (l0.length : Int)
    ·rw [if_pos c4] at H
     have c4b0 : decide (x13_1 < (l0.length : Int)) = true:=decide_eq_true c4
     clear c4
     by_cases c5 : 0 ≤ x13_1
     case neg => rw [if_neg c5] at H;exact absurd H (by simp)
     rw [if_pos c5] at H
     have c5b0 : decide (0 ≤ x13_1) = true:=decide_eq_true c5
     clear c5
     by_cases c6 : x13_1 < (l0.length : Int)
     case neg => rw [if_neg c6] at H;exact absurd H (by simp)
     rw [if_pos c6] at H
     have c6b0 : decide (x13_1 < (l0.length : Int)) = true:=decide_eq_true c6
     clear c6
     by_cases c7 : x13_1 < (l1.length : Int)
     case neg => rw [if_neg c7] at H;exact absurd H (by simp)
     rw [if_pos c7] at H
     have c7b0 : decide (x13_1 < (l1.length : Int)) = true:=decide_eq_true c7
     clear c7
     by_cases c8 : (!(((rd_T65 l0 x13_1).f0) == ((rd_T65 l1 x13_1).f0)) || ((!(((rd_T65 l0 x13_1).f1.f0) == ((rd_T65 l1 x13_1).f1.f0)) || (!(((rd_T65 l0 x13_1).f1.f1) == ((rd_T65 l1 x13_1).f1.f1)) || (!(((rd_T65 l0 x13_1).f1.f2) == ((rd_T65 l1 x13_1).f1.f2))))))) = true
     ·rw [if_pos c8] at H
      have c8b0 : (!(((rd_T65 l0 x13_1).f0) == ((rd_T65 l1 x13_1).f0)) || ((!(((rd_T65 l0 x13_1).f1.f0) == ((rd_T65 l1 x13_1).f1.f0)) || (!(((rd_T65 l0 x13_1).f1.f1) == ((rd_T65 l1 x13_1).f1.f1)) || (!(((rd_T65 l0 x13_1).f1.f2) == ((rd_T65 l1 x13_1).f1.f2))))))) = true:=c8
      clear c8
      obtain rfl:=Option.some.inj H
      have p103 : 0 ≤ (x13_1 : Int):=of_decide_eq_true (by first|(with_reducible assumption)|assumption)
      have q103 : x13_1 < (l0.length : Int):=of_decide_eq_true (by first|(with_reducible assumption)|assumption)
      obtain ⟨ad103,e103,hx103_0,hx103_1,hx103_2,hx103_3⟩:=at_T65 HR0.out x13_1 p103 q103
      cases e103
      replace p103:=eq_true p103
      replace q103:=eq_true q103
      have p104 : 0 ≤ (x13_1 : Int):=of_decide_eq_true (by first|(with_reducible assumption)|assumption)
      have q104 : x13_1 < (l1.length : Int):=of_decide_eq_true (by first|(with_reducible assumption)|assumption)
      obtain ⟨ad104,e104,hx104_0,hx104_1,hx104_2,hx104_3⟩:=at_T65 HR1.out x13_1 p104 q104
      cases e104
      replace p104:=eq_true p104
      replace q104:=eq_true q104
      go_wp2
      repeat (go_quiet (fail);try go_wp2)
      go_ret
      exact ⟨by first|rfl|(simp;done)|(simp [*];done),by repeat (first|exact Drawn0.refl _|apply Drawn0.step)⟩
     ·rw [if_neg c8] at H
      have c8b0 : (!(((rd_T65 l0 x13_1).f0) == ((rd_T65 l1 x13_1).f0)) || ((!(((rd_T65 l0 x13_1).f1.f0) == ((rd_T65 l1 x13_1).f1.f0)) || (!(((rd_T65 l0 x13_1).f1.f1) == ((rd_T65 l1 x13_1).f1.f1)) || (!(((rd_T65 l0 x13_1).f1.f2) == ((rd_T65 l1 x13_1).f1.f2))))))) = false:=by simpa using c8
      clear c8
      have H':=aM H
      clear H
      have p103 : 0 ≤ (x13_1 : Int):=of_decide_eq_true (by first|(with_reducible assumption)|assumption)
      have q103 : x13_1 < (l0.length : Int):=of_decide_eq_true (by first|(with_reducible assumption)|assumption)
      obtain ⟨ad103,e103,hx103_0,hx103_1,hx103_2,hx103_3⟩:=at_T65 HR0.out x13_1 p103 q103
      cases e103
      replace p103:=eq_true p103
      replace q103:=eq_true q103
      have p104 : 0 ≤ (x13_1 : Int):=of_decide_eq_true (by first|(with_reducible assumption)|assumption)
      have q104 : x13_1 < (l1.length : Int):=of_decide_eq_true (by first|(with_reducible assumption)|assumption)
      obtain ⟨ad104,e104,hx104_0,hx104_1,hx104_2,hx104_3⟩:=at_T65 HR1.out x13_1 p104 q104
      cases e104
      replace p104:=eq_true p104
      replace q104:=eq_true q104
      go_wp2
      repeat (go_quiet (fail);try go_wp2)
      go_roundg k1
      case measure => have:=HK1.out;omega
      case rel => exact ⟨(wrap64 (x13_1 + 1)),(by first|rfl|(simp;done)|(simp [*];done)),H',⟨by have:=HK1.out;omega⟩,by repeat (first|exact Drawn0.refl _|apply Drawn0.step)⟩
    ·rw [if_neg c4] at H
     have c4b0 : decide (x13_1 < (l0.length : Int)) = false:=decide_eq_false c4
     clear c4
     obtain rfl:=Option.some.inj H
     go_wp2
     repeat (go_quiet (fail);try go_wp2)
     go_ret
     exact ⟨by first|rfl|(simp;done)|(simp [*];done),by repeat (first|exact Drawn0.refl _|apply Drawn0.step)⟩
 ·rw [if_neg c3] at H
  have c3b0 : ((l0.length : Int) == (l1.length : Int)) = false:=beq_eq_false_iff_ne.mpr c3
  have c3b1 : ((l0.length : Int) != (l1.length : Int)) = true:=bne_iff_ne.mpr c3
  have c3b2 : (l0.length == l1.length) = false:=by first|simpa using c3|(simp at c3 ⊢;omega)
  obtain rfl:=Option.some.inj H
  go_enter Try.func71,Try.ntmps71
  go_wp2
  repeat (go_quiet (fail);try go_wp2)
  go_ret
  exact ⟨by first|rfl|(simp;done)|(simp [*];done),by repeat (first|exact Drawn0.refl _|apply Drawn0.step)⟩

/-! ### impl_Vote_same: function 61 -/
def impl_Vote_same.f (k : Nat) (a0_0 : Int) (l0_1 : List (S65)) (a1_0 : Int) (l1_1 : List (S65)) : Option (Bool):=if a0_0 = a1_0 then ((impl_Item.f k l0_1 l1_1).bind fun t107 => (some t107)) else (some false)
theorem impl_Vote_same.mono : ∀ a0 a1 a2 a3 k,LeO (impl_Vote_same.f k a0 a1 a2 a3) (impl_Vote_same.f (k + 1) a0 a1 a2 a3):=by
 intro a0 a1 a2 a3 k
 unfold impl_Vote_same.f
 repeat' first
   | exact LeO.refl _
   | exact impl_Item.mono _ _ _
   | exact LeO.none _
   | refine LeO.ite ?_ ?_
   | refine LeO.bind ?_ (fun _ => ?_)
set_option maxHeartbeats 8000000 in
set_option maxRecDepth 100000 in
theorem impl_Vote_same.calls (k : Nat) (a0_0 : Int) (A0_1 : Option Addr) (c0_1 : Nat) (l0_1 : List (S65)) (a1_0 : Int) (A1_1 : Option Addr) (c1_1 : Nat) (l1_1 : List (S65)) (r : Bool) (w : World) (hr0_1 : Kd.C k65 w A0_1 l0_1.length l0_1) (hc0_1 : l0_1.length ≤ c0_1) (hr1_1 : Kd.C k65 w A1_1 l1_1.length l1_1) (hc1_1 : l1_1.length ≤ c1_1) (h : impl_Vote_same.f k a0_0 l0_1 a1_0 l1_1 = some r) :
  Calls Try.prog 61 #[.agg #[.int .i64 a0_0,.slice A0_1 l0_1.length c0_1],.agg #[.int .i64 a1_0,.slice A1_1 l1_1.length c1_1]] w fun e w' => e = .returned (.bool r) ∧ Below w.heap.size w w':=by
 have hu25:=Try.underlying25
 have HR0_1:=aM hr0_1
 have HC0_1:=aM hc0_1
 clear hr0_1 hc0_1
 have HR1_1:=aM hr1_1
 have HC1_1:=aM hc1_1
 clear hr1_1 hc1_1
 have HB:=aM (Below.refl w.heap.size w)
 have H : (if a0_0 = a1_0 then ((impl_Item.f k l0_1 l1_1).bind fun t107 => (some t107)) else (some false)) = some r:=h
 clear h
 by_cases c3 : a0_0 = a1_0
 ·rw [if_pos c3] at H
  have c3b0 : (a0_0 == a1_0) = true:=beq_iff_eq.mpr c3
  have c3b1 : (a0_0 != a1_0) = false:=bne_eq_false_iff_eq.mpr c3
  clear c3
  replace H:=Option.bind_eq_some_iff.mp H
  obtain ⟨t107,A40,H⟩:=H
  replace H : (some t107) = some r:=H
  have A4:=aM A40
  clear A40
  obtain rfl:=Option.some.inj H
  go_enter Try.func61,Try.ntmps61
  go_wp2_with (first|((with_reducible refine gate_dst (N:=2) rfl ?_);refine box_event ?hg (N:=2) ?hd (cs:=#[.int .i64 a0_0,.slice A0_1 l0_1.length c0_1]) (t:=25) ?hr ?_;(case hd => rfl);(case hg => rfl);(case hr => first|(go_simp;done)|(go_simp;rfl));intro gb105 hg w5 hbox hb;have n0_:=aM (below_step (by repeat (first|(with_reducible first|exact HB.out|apply bA|apply bN|apply bD)|exact HB.out)) hb);have n1_:=aM (hbox);have n2_:=aM ((by rw [hg];exact (below_size (by repeat (first|(with_reducible first|exact HB.out|apply bA|apply bN|apply bD)|exact HB.out))) : w.heap.size ≤ gb105));have n3_:=aM ((by rw [hg];exact (below_size (by repeat (first|(with_reducible first|exact HB.out|apply bA|apply bN|apply bD)|exact HB.out))) : w.heap.size ≤ gb105));clear HB;have HB:=n0_;have BK105:=n1_;have GW105:=n2_;have GE105:=n3_;clear n0_ n1_ n2_ n3_;clear hb hbox hg)|((with_reducible refine gate_dst (N:=3) rfl ?_);refine box_event ?hg (N:=3) ?hd (cs:=#[.int .i64 a1_0,.slice A1_1 l1_1.length c1_1]) (t:=25) ?hr ?_;(case hd => rfl);(case hg => rfl);(case hr => first|(go_simp;done)|(go_simp;rfl));intro gb106 hg w6 hbox hb;have n0_:=aM (blk_below (g:=gb105) (o:=.cells #[.int .i64 a0_0,.slice A0_1 l0_1.length c0_1] 25 (0,0)) (by (with_reducible repeat (first|refine blk_drewN ?_ _|refine blk_drew ?_|refine blk_alloc ?_ _));exact BK105.out) hb);have n1_:=aM (below_step (by repeat (first|(with_reducible first|exact HB.out|apply bA|apply bN|apply bD|refine below_set ?_ GE105.out)|exact HB.out)) hb);have n2_:=aM (hbox);have n3_:=aM ((by rw [hg];exact (below_size (by repeat (first|(with_reducible first|exact HB.out|apply bA|apply bN|apply bD|refine below_set ?_ GE105.out)|exact HB.out))) : w.heap.size ≤ gb106));have n4_:=aM ((by rw [hg];exact (below_size (by repeat (first|(with_reducible first|exact HB.out|apply bA|apply bN|apply bD|refine below_set ?_ GE105.out)|exact HB.out))) : w.heap.size ≤ gb106));have n5_:=aM ((by rw [hg];exact Nat.ne_of_lt (blk_lt (g:=gb105) (o:=.cells #[.int .i64 a0_0,.slice A0_1 l0_1.length c0_1] 25 (0,0)) (by (with_reducible repeat (first|refine blk_drewN ?_ _|refine blk_drew ?_|refine blk_alloc ?_ _));exact BK105.out)) : gb105 ≠ gb106));have n6_:=aM ((by rw [hg];exact Nat.ne_of_gt (blk_lt (g:=gb105) (o:=.cells #[.int .i64 a0_0,.slice A0_1 l0_1.length c0_1] 25 (0,0)) (by (with_reducible repeat (first|refine blk_drewN ?_ _|refine blk_drew ?_|refine blk_alloc ?_ _));exact BK105.out)) : gb106 ≠ gb105));clear BK105;clear HB;have BK105:=n0_;have HB:=n1_;have BK106:=n2_;have GW106:=n3_;have GE106:=n4_;have NB105_106:=n5_;have NB106_105:=n6_;clear n0_ n1_ n2_ n3_ n4_ n5_ n6_;clear hb hbox hg;have hnb7:=NB105_106.out;have hnc7:=NB106_105.out;have hcz8_0 : w6.cell? ⟨gb105,0,none⟩ = some (.int .i64 a0_0):=(blk_cell BK105.out 0).trans rfl;have hcz8_1 : w6.cell? ⟨gb105,1,none⟩ = some (.slice A0_1 l0_1.length c0_1):=(blk_cell BK105.out 1).trans rfl;have hfz8_0:=blk_frozen BK105.out 0;have hfz8_1:=blk_frozen BK105.out 1;have hcz9_0 : w6.cell? ⟨gb106,0,none⟩ = some (.int .i64 a1_0):=(blk_cell BK106.out 0).trans rfl;have hcz9_1 : w6.cell? ⟨gb106,1,none⟩ = some (.slice A1_1 l1_1.length c1_1):=(blk_cell BK106.out 1).trans rfl;have hfz9_0:=blk_frozen BK106.out 0;have hfz9_1:=blk_frozen BK106.out 1)|(go_at_call 71;(with_reducible refine (impl_Item.calls k _ _ l0_1 _ _ l1_1 t107 _ ?side1 ?side2 ?side3 ?side4 A4.out).mono ?_);(case side1 => repeat (first|exact (Kd.C_below HR0_1.out HB.out)|(with_reducible refine Kd.C_alloc ?_ _)|(with_reducible refine Kd.C_drewN ?_ _)|(with_reducible refine Kd.C_drew ?_)));(case side2 => exact HC0_1.out);(case side3 => repeat (first|exact (Kd.C_below HR1_1.out HB.out)|(with_reducible refine Kd.C_alloc ?_ _)|(with_reducible refine Kd.C_drewN ?_ _)|(with_reducible refine Kd.C_drew ?_)));(case side4 => exact HC1_1.out);rintro e w' ⟨rfl,⟨nd,rfl⟩⟩))
  go_ret
  exact ⟨by first|rfl|(simp only [i64_w,i32_w];done)|(simp only [i64_w,i32_w];rfl)|(simp [errW_none,errW_some] <;> rfl)|(simp [*,errW_none,errW_some] <;> rfl),by repeat (first|(with_reducible first|exact HB.out|apply bA|apply bN|apply bD|refine below_set ?_ GE105.out|refine below_set ?_ GE106.out)|exact HB.out)⟩
 ·rw [if_neg c3] at H
  have c3b0 : (a0_0 == a1_0) = false:=beq_eq_false_iff_ne.mpr c3
  have c3b1 : (a0_0 != a1_0) = true:=bne_iff_ne.mpr c3
  obtain rfl:=Option.some.inj H
  go_enter Try.func61,Try.ntmps61
  go_wp2_with (first|((with_reducible refine gate_dst (N:=2) rfl ?_);refine box_event ?hg (N:=2) ?hd (cs:=#[.int .i64 a0_0,.slice A0_1 l0_1.length c0_1]) (t:=25) ?hr ?_;(case hd => rfl);(case hg => rfl);(case hr => first|(go_simp;done)|(go_simp;rfl));intro gb105 hg w10 hbox hb;have n0_:=aM (below_step (by repeat (first|(with_reducible first|exact HB.out|apply bA|apply bN|apply bD)|exact HB.out)) hb);have n1_:=aM (hbox);have n2_:=aM ((by rw [hg];exact (below_size (by repeat (first|(with_reducible first|exact HB.out|apply bA|apply bN|apply bD)|exact HB.out))) : w.heap.size ≤ gb105));have n3_:=aM ((by rw [hg];exact (below_size (by repeat (first|(with_reducible first|exact HB.out|apply bA|apply bN|apply bD)|exact HB.out))) : w.heap.size ≤ gb105));clear HB;have HB:=n0_;have BK105:=n1_;have GW105:=n2_;have GE105:=n3_;clear n0_ n1_ n2_ n3_;clear hb hbox hg)|((with_reducible refine gate_dst (N:=3) rfl ?_);refine box_event ?hg (N:=3) ?hd (cs:=#[.int .i64 a1_0,.slice A1_1 l1_1.length c1_1]) (t:=25) ?hr ?_;(case hd => rfl);(case hg => rfl);(case hr => first|(go_simp;done)|(go_simp;rfl));intro gb106 hg w11 hbox hb;have n0_:=aM (blk_below (g:=gb105) (o:=.cells #[.int .i64 a0_0,.slice A0_1 l0_1.length c0_1] 25 (0,0)) (by (with_reducible repeat (first|refine blk_drewN ?_ _|refine blk_drew ?_|refine blk_alloc ?_ _));exact BK105.out) hb);have n1_:=aM (below_step (by repeat (first|(with_reducible first|exact HB.out|apply bA|apply bN|apply bD|refine below_set ?_ GE105.out)|exact HB.out)) hb);have n2_:=aM (hbox);have n3_:=aM ((by rw [hg];exact (below_size (by repeat (first|(with_reducible first|exact HB.out|apply bA|apply bN|apply bD|refine below_set ?_ GE105.out)|exact HB.out))) : w.heap.size ≤ gb106));have n4_:=aM ((by rw [hg];exact (below_size (by repeat (first|(with_reducible first|exact HB.out|apply bA|apply bN|apply bD|refine below_set ?_ GE105.out)|exact HB.out))) : w.heap.size ≤ gb106));have n5_:=aM ((by rw [hg];exact Nat.ne_of_lt (blk_lt (g:=gb105) (o:=.cells #[.int .i64 a0_0,.slice A0_1 l0_1.length c0_1] 25 (0,0)) (by (with_reducible repeat (first|refine blk_drewN ?_ _|refine blk_drew ?_|refine blk_alloc ?_ _));exact BK105.out)) : gb105 ≠ gb106));have n6_:=aM ((by rw [hg];exact Nat.ne_of_gt (blk_lt (g:=gb105) (o:=.cells #[.int .i64 a0_0,.slice A0_1 l0_1.length c0_1] 25 (0,0)) (by (with_reducible repeat (first|refine blk_drewN ?_ _|refine blk_drew ?_|refine blk_alloc ?_ _));exact BK105.out)) : gb106 ≠ gb105));clear BK105;clear HB;have BK105:=n0_;have HB:=n1_;have BK106:=n2_;have GW106:=n3_;have GE106:=n4_;have NB105_106:=n5_;have NB106_105:=n6_;clear n0_ n1_ n2_ n3_ n4_ n5_ n6_;clear hb hbox hg;have hnb12:=NB105_106.out;have hnc12:=NB106_105.out;have hcz13_0 : w11.cell? ⟨gb105,0,none⟩ = some (.int .i64 a0_0):=(blk_cell BK105.out 0).trans rfl;have hcz13_1 : w11.cell? ⟨gb105,1,none⟩ = some (.slice A0_1 l0_1.length c0_1):=(blk_cell BK105.out 1).trans rfl;have hfz13_0:=blk_frozen BK105.out 0;have hfz13_1:=blk_frozen BK105.out 1;have hcz14_0 : w11.cell? ⟨gb106,0,none⟩ = some (.int .i64 a1_0):=(blk_cell BK106.out 0).trans rfl;have hcz14_1 : w11.cell? ⟨gb106,1,none⟩ = some (.slice A1_1 l1_1.length c1_1):=(blk_cell BK106.out 1).trans rfl;have hfz14_0:=blk_frozen BK106.out 0;have hfz14_1:=blk_frozen BK106.out 1))
  go_ret
  exact ⟨by first|rfl|(simp only [i64_w,i32_w];done)|(simp only [i64_w,i32_w];rfl)|(simp [errW_none,errW_some] <;> rfl)|(simp [*,errW_none,errW_some] <;> rfl),by repeat (first|(with_reducible first|exact HB.out|apply bA|apply bN|apply bD|refine below_set ?_ GE105.out|refine below_set ?_ GE106.out)|exact HB.out)⟩

/-! ### laws_eqPay: function 68 -/
def laws_eqPay.f (a0_0 : Int) (a0_1 : Int) (a0_2 : Int) (a1_0 : Int) (a1_1 : Int) (a1_2 : Int) : Option (Bool):=if a0_0 = a1_0 then (if a0_1 = a1_1 then (if a0_2 = a1_2 then (some true) else (some false)) else (some false)) else (some false)
set_option maxHeartbeats 8000000 in
set_option maxRecDepth 100000 in
theorem laws_eqPay.calls (a0_0 : Int) (a0_1 : Int) (a0_2 : Int) (a1_0 : Int) (a1_1 : Int) (a1_2 : Int) (r : Bool) (w : World) (h : laws_eqPay.f a0_0 a0_1 a0_2 a1_0 a1_1 a1_2 = some r) :
  Calls Try.prog 68 #[.agg #[.int .i64 a0_0,.int .i64 a0_1,.int .i64 a0_2],.agg #[.int .i64 a1_0,.int .i64 a1_1,.int .i64 a1_2]] w fun e w' => e = .returned (.bool r) ∧ Below w.heap.size w w':=by
 have hu63:=Try.underlying63
 have HB:=aM (Below.refl w.heap.size w)
 have H : (if a0_0 = a1_0 then (if a0_1 = a1_1 then (if a0_2 = a1_2 then (some true) else (some false)) else (some false)) else (some false)) = some r:=h
 clear h
 by_cases c3 : a0_0 = a1_0
 ·rw [if_pos c3] at H
  have c3b0 : (a0_0 == a1_0) = true:=beq_iff_eq.mpr c3
  have c3b1 : (a0_0 != a1_0) = false:=bne_eq_false_iff_eq.mpr c3
  clear c3
  by_cases c4 : a0_1 = a1_1
  ·rw [if_pos c4] at H
   have c4b0 : (a0_1 == a1_1) = true:=beq_iff_eq.mpr c4
   have c4b1 : (a0_1 != a1_1) = false:=bne_eq_false_iff_eq.mpr c4
   clear c4
   by_cases c5 : a0_2 = a1_2
   ·rw [if_pos c5] at H
    have c5b0 : (a0_2 == a1_2) = true:=beq_iff_eq.mpr c5
    have c5b1 : (a0_2 != a1_2) = false:=bne_eq_false_iff_eq.mpr c5
    clear c5
    obtain rfl:=Option.some.inj H
    go_enter Try.func68,Try.ntmps68
    go_wp2_with (first|((with_reducible refine gate_dst (N:=2) rfl ?_);refine box_event ?hg (N:=2) ?hd (cs:=#[.int .i64 a0_0,.int .i64 a0_1,.int .i64 a0_2]) (t:=63) ?hr ?_;(case hd => rfl);(case hg => rfl);(case hr => first|(go_simp;done)|(go_simp;rfl));intro gb108 hg w6 hbox hb;have n0_:=aM (below_step (by repeat (first|(with_reducible first|exact HB.out|apply bA|apply bN|apply bD)|exact HB.out)) hb);have n1_:=aM (hbox);have n2_:=aM ((by rw [hg];exact (below_size (by repeat (first|(with_reducible first|exact HB.out|apply bA|apply bN|apply bD)|exact HB.out))) : w.heap.size ≤ gb108));have n3_:=aM ((by rw [hg];exact (below_size (by repeat (first|(with_reducible first|exact HB.out|apply bA|apply bN|apply bD)|exact HB.out))) : w.heap.size ≤ gb108));clear HB;have HB:=n0_;have BK108:=n1_;have GW108:=n2_;have GE108:=n3_;clear n0_ n1_ n2_ n3_;clear hb hbox hg)|((with_reducible refine gate_dst (N:=3) rfl ?_);refine box_event ?hg (N:=3) ?hd (cs:=#[.int .i64 a1_0,.int .i64 a1_1,.int .i64 a1_2]) (t:=63) ?hr ?_;(case hd => rfl);(case hg => rfl);(case hr => first|(go_simp;done)|(go_simp;rfl));intro gb109 hg w7 hbox hb;have n0_:=aM (blk_below (g:=gb108) (o:=.cells #[.int .i64 a0_0,.int .i64 a0_1,.int .i64 a0_2] 63 (0,0)) (by (with_reducible repeat (first|refine blk_drewN ?_ _|refine blk_drew ?_|refine blk_alloc ?_ _));exact BK108.out) hb);have n1_:=aM (below_step (by repeat (first|(with_reducible first|exact HB.out|apply bA|apply bN|apply bD|refine below_set ?_ GE108.out)|exact HB.out)) hb);have n2_:=aM (hbox);have n3_:=aM ((by rw [hg];exact (below_size (by repeat (first|(with_reducible first|exact HB.out|apply bA|apply bN|apply bD|refine below_set ?_ GE108.out)|exact HB.out))) : w.heap.size ≤ gb109));have n4_:=aM ((by rw [hg];exact (below_size (by repeat (first|(with_reducible first|exact HB.out|apply bA|apply bN|apply bD|refine below_set ?_ GE108.out)|exact HB.out))) : w.heap.size ≤ gb109));have n5_:=aM ((by rw [hg];exact Nat.ne_of_lt (blk_lt (g:=gb108) (o:=.cells #[.int .i64 a0_0,.int .i64 a0_1,.int .i64 a0_2] 63 (0,0)) (by (with_reducible repeat (first|refine blk_drewN ?_ _|refine blk_drew ?_|refine blk_alloc ?_ _));exact BK108.out)) : gb108 ≠ gb109));have n6_:=aM ((by rw [hg];exact Nat.ne_of_gt (blk_lt (g:=gb108) (o:=.cells #[.int .i64 a0_0,.int .i64 a0_1,.int .i64 a0_2] 63 (0,0)) (by (with_reducible repeat (first|refine blk_drewN ?_ _|refine blk_drew ?_|refine blk_alloc ?_ _));exact BK108.out)) : gb109 ≠ gb108));clear BK108;clear HB;have BK108:=n0_;have HB:=n1_;have BK109:=n2_;have GW109:=n3_;have GE109:=n4_;have NB108_109:=n5_;have NB109_108:=n6_;clear n0_ n1_ n2_ n3_ n4_ n5_ n6_;clear hb hbox hg;have hnb8:=NB108_109.out;have hnc8:=NB109_108.out;have hcz9_0 : w7.cell? ⟨gb108,0,none⟩ = some (.int .i64 a0_0):=(blk_cell BK108.out 0).trans rfl;have hcz9_1 : w7.cell? ⟨gb108,1,none⟩ = some (.int .i64 a0_1):=(blk_cell BK108.out 1).trans rfl;have hcz9_2 : w7.cell? ⟨gb108,2,none⟩ = some (.int .i64 a0_2):=(blk_cell BK108.out 2).trans rfl;have hfz9_0:=blk_frozen BK108.out 0;have hfz9_1:=blk_frozen BK108.out 1;have hfz9_2:=blk_frozen BK108.out 2;have hcz10_0 : w7.cell? ⟨gb109,0,none⟩ = some (.int .i64 a1_0):=(blk_cell BK109.out 0).trans rfl;have hcz10_1 : w7.cell? ⟨gb109,1,none⟩ = some (.int .i64 a1_1):=(blk_cell BK109.out 1).trans rfl;have hcz10_2 : w7.cell? ⟨gb109,2,none⟩ = some (.int .i64 a1_2):=(blk_cell BK109.out 2).trans rfl;have hfz10_0:=blk_frozen BK109.out 0;have hfz10_1:=blk_frozen BK109.out 1;have hfz10_2:=blk_frozen BK109.out 2))
    go_ret
    exact ⟨by first|rfl|(simp only [i64_w,i32_w];done)|(simp only [i64_w,i32_w];rfl)|(simp [errW_none,errW_some] <;> rfl)|(simp [*,errW_none,errW_some] <;> rfl),by repeat (first|(with_reducible first|exact HB.out|apply bA|apply bN|apply bD|refine below_set ?_ GE108.out|refine below_set ?_ GE109.out)|exact HB.out)⟩
   ·rw [if_neg c5] at H
    have c5b0 : (a0_2 == a1_2) = false:=beq_eq_false_iff_ne.mpr c5
    have c5b1 : (a0_2 != a1_2) = true:=bne_iff_ne.mpr c5
    obtain rfl:=Option.some.inj H
    go_enter Try.func68,Try.ntmps68
    go_wp2_with (first|((with_reducible refine gate_dst (N:=2) rfl ?_);refine box_event ?hg (N:=2) ?hd (cs:=#[.int .i64 a0_0,.int .i64 a0_1,.int .i64 a0_2]) (t:=63) ?hr ?_;(case hd => rfl);(case hg => rfl);(case hr => first|(go_simp;done)|(go_simp;rfl));intro gb108 hg w11 hbox hb;have n0_:=aM (below_step (by repeat (first|(with_reducible first|exact HB.out|apply bA|apply bN|apply bD)|exact HB.out)) hb);have n1_:=aM (hbox);have n2_:=aM ((by rw [hg];exact (below_size (by repeat (first|(with_reducible first|exact HB.out|apply bA|apply bN|apply bD)|exact HB.out))) : w.heap.size ≤ gb108));have n3_:=aM ((by rw [hg];exact (below_size (by repeat (first|(with_reducible first|exact HB.out|apply bA|apply bN|apply bD)|exact HB.out))) : w.heap.size ≤ gb108));clear HB;have HB:=n0_;have BK108:=n1_;have GW108:=n2_;have GE108:=n3_;clear n0_ n1_ n2_ n3_;clear hb hbox hg)|((with_reducible refine gate_dst (N:=3) rfl ?_);refine box_event ?hg (N:=3) ?hd (cs:=#[.int .i64 a1_0,.int .i64 a1_1,.int .i64 a1_2]) (t:=63) ?hr ?_;(case hd => rfl);(case hg => rfl);(case hr => first|(go_simp;done)|(go_simp;rfl));intro gb109 hg w12 hbox hb;have n0_:=aM (blk_below (g:=gb108) (o:=.cells #[.int .i64 a0_0,.int .i64 a0_1,.int .i64 a0_2] 63 (0,0)) (by (with_reducible repeat (first|refine blk_drewN ?_ _|refine blk_drew ?_|refine blk_alloc ?_ _));exact BK108.out) hb);have n1_:=aM (below_step (by repeat (first|(with_reducible first|exact HB.out|apply bA|apply bN|apply bD|refine below_set ?_ GE108.out)|exact HB.out)) hb);have n2_:=aM (hbox);have n3_:=aM ((by rw [hg];exact (below_size (by repeat (first|(with_reducible first|exact HB.out|apply bA|apply bN|apply bD|refine below_set ?_ GE108.out)|exact HB.out))) : w.heap.size ≤ gb109));have n4_:=aM ((by rw [hg];exact (below_size (by repeat (first|(with_reducible first|exact HB.out|apply bA|apply bN|apply bD|refine below_set ?_ GE108.out)|exact HB.out))) : w.heap.size ≤ gb109));have n5_:=aM ((by rw [hg];exact Nat.ne_of_lt (blk_lt (g:=gb108) (o:=.cells #[.int .i64 a0_0,.int .i64 a0_1,.int .i64 a0_2] 63 (0,0)) (by (with_reducible repeat (first|refine blk_drewN ?_ _|refine blk_drew ?_|refine blk_alloc ?_ _));exact BK108.out)) : gb108 ≠ gb109));have n6_:=aM ((by rw [hg];exact Nat.ne_of_gt (blk_lt (g:=gb108) (o:=.cells #[.int .i64 a0_0,.int .i64 a0_1,.int .i64 a0_2] 63 (0,0)) (by (with_reducible repeat (first|refine blk_drewN ?_ _|refine blk_drew ?_|refine blk_alloc ?_ _));exact BK108.out)) : gb109 ≠ gb108));clear BK108;clear HB;have BK108:=n0_;have HB:=n1_;have BK109:=n2_;have GW109:=n3_;have GE109:=n4_;have NB108_109:=n5_;have NB109_108:=n6_;clear n0_ n1_ n2_ n3_ n4_ n5_ n6_;clear hb hbox hg;have hnb13:=NB108_109.out;have hnc13:=NB109_108.out;have hcz14_0 : w12.cell? ⟨gb108,0,none⟩ = some (.int .i64 a0_0):=(blk_cell BK108.out 0).trans rfl;have hcz14_1 : w12.cell? ⟨gb108,1,none⟩ = some (.int .i64 a0_1):=(blk_cell BK108.out 1).trans rfl;have hcz14_2 : w12.cell? ⟨gb108,2,none⟩ = some (.int .i64 a0_2):=(blk_cell BK108.out 2).trans rfl;have hfz14_0:=blk_frozen BK108.out 0;have hfz14_1:=blk_frozen BK108.out 1;have hfz14_2:=blk_frozen BK108.out 2;have hcz15_0 : w12.cell? ⟨gb109,0,none⟩ = some (.int .i64 a1_0):=(blk_cell BK109.out 0).trans rfl;have hcz15_1 : w12.cell? ⟨gb109,1,none⟩ = some (.int .i64 a1_1):=(blk_cell BK109.out 1).trans rfl;have hcz15_2 : w12.cell? ⟨gb109,2,none⟩ = some (.int .i64 a1_2):=(blk_cell BK109.out 2).trans rfl;have hfz15_0:=blk_frozen BK109.out 0;have hfz15_1:=blk_frozen BK109.out 1;have hfz15_2:=blk_frozen BK109.out 2))
    go_ret
    exact ⟨by first|rfl|(simp only [i64_w,i32_w];done)|(simp only [i64_w,i32_w];rfl)|(simp [errW_none,errW_some] <;> rfl)|(simp [*,errW_none,errW_some] <;> rfl),by repeat (first|(with_reducible first|exact HB.out|apply bA|apply bN|apply bD|refine below_set ?_ GE108.out|refine below_set ?_ GE109.out)|exact HB.out)⟩
  ·rw [if_neg c4] at H
   have c4b0 : (a0_1 == a1_1) = false:=beq_eq_false_iff_ne.mpr c4
   have c4b1 : (a0_1 != a1_1) = true:=bne_iff_ne.mpr c4
   obtain rfl:=Option.some.inj H
   go_enter Try.func68,Try.ntmps68
   go_wp2_with (first|((with_reducible refine gate_dst (N:=2) rfl ?_);refine box_event ?hg (N:=2) ?hd (cs:=#[.int .i64 a0_0,.int .i64 a0_1,.int .i64 a0_2]) (t:=63) ?hr ?_;(case hd => rfl);(case hg => rfl);(case hr => first|(go_simp;done)|(go_simp;rfl));intro gb108 hg w16 hbox hb;have n0_:=aM (below_step (by repeat (first|(with_reducible first|exact HB.out|apply bA|apply bN|apply bD)|exact HB.out)) hb);have n1_:=aM (hbox);have n2_:=aM ((by rw [hg];exact (below_size (by repeat (first|(with_reducible first|exact HB.out|apply bA|apply bN|apply bD)|exact HB.out))) : w.heap.size ≤ gb108));have n3_:=aM ((by rw [hg];exact (below_size (by repeat (first|(with_reducible first|exact HB.out|apply bA|apply bN|apply bD)|exact HB.out))) : w.heap.size ≤ gb108));clear HB;have HB:=n0_;have BK108:=n1_;have GW108:=n2_;have GE108:=n3_;clear n0_ n1_ n2_ n3_;clear hb hbox hg)|((with_reducible refine gate_dst (N:=3) rfl ?_);refine box_event ?hg (N:=3) ?hd (cs:=#[.int .i64 a1_0,.int .i64 a1_1,.int .i64 a1_2]) (t:=63) ?hr ?_;(case hd => rfl);(case hg => rfl);(case hr => first|(go_simp;done)|(go_simp;rfl));intro gb109 hg w17 hbox hb;have n0_:=aM (blk_below (g:=gb108) (o:=.cells #[.int .i64 a0_0,.int .i64 a0_1,.int .i64 a0_2] 63 (0,0)) (by (with_reducible repeat (first|refine blk_drewN ?_ _|refine blk_drew ?_|refine blk_alloc ?_ _));exact BK108.out) hb);have n1_:=aM (below_step (by repeat (first|(with_reducible first|exact HB.out|apply bA|apply bN|apply bD|refine below_set ?_ GE108.out)|exact HB.out)) hb);have n2_:=aM (hbox);have n3_:=aM ((by rw [hg];exact (below_size (by repeat (first|(with_reducible first|exact HB.out|apply bA|apply bN|apply bD|refine below_set ?_ GE108.out)|exact HB.out))) : w.heap.size ≤ gb109));have n4_:=aM ((by rw [hg];exact (below_size (by repeat (first|(with_reducible first|exact HB.out|apply bA|apply bN|apply bD|refine below_set ?_ GE108.out)|exact HB.out))) : w.heap.size ≤ gb109));have n5_:=aM ((by rw [hg];exact Nat.ne_of_lt (blk_lt (g:=gb108) (o:=.cells #[.int .i64 a0_0,.int .i64 a0_1,.int .i64 a0_2] 63 (0,0)) (by (with_reducible repeat (first|refine blk_drewN ?_ _|refine blk_drew ?_|refine blk_alloc ?_ _));exact BK108.out)) : gb108 ≠ gb109));have n6_:=aM ((by rw [hg];exact Nat.ne_of_gt (blk_lt (g:=gb108) (o:=.cells #[.int .i64 a0_0,.int .i64 a0_1,.int .i64 a0_2] 63 (0,0)) (by (with_reducible repeat (first|refine blk_drewN ?_ _|refine blk_drew ?_|refine blk_alloc ?_ _));exact BK108.out)) : gb109 ≠ gb108));clear BK108;clear HB;have BK108:=n0_;have HB:=n1_;have BK109:=n2_;have GW109:=n3_;have GE109:=n4_;have NB108_109:=n5_;have NB109_108:=n6_;clear n0_ n1_ n2_ n3_ n4_ n5_ n6_;clear hb hbox hg;have hnb18:=NB108_109.out;have hnc18:=NB109_108.out;have hcz19_0 : w17.cell? ⟨gb108,0,none⟩ = some (.int .i64 a0_0):=(blk_cell BK108.out 0).trans rfl;have hcz19_1 : w17.cell? ⟨gb108,1,none⟩ = some (.int .i64 a0_1):=(blk_cell BK108.out 1).trans rfl;have hcz19_2 : w17.cell? ⟨gb108,2,none⟩ = some (.int .i64 a0_2):=(blk_cell BK108.out 2).trans rfl;have hfz19_0:=blk_frozen BK108.out 0;have hfz19_1:=blk_frozen BK108.out 1;have hfz19_2:=blk_frozen BK108.out 2;have hcz20_0 : w17.cell? ⟨gb109,0,none⟩ = some (.int .i64 a1_0):=(blk_cell BK109.out 0).trans rfl;have hcz20_1 : w17.cell? ⟨gb109,1,none⟩ = some (.int .i64 a1_1):=(blk_cell BK109.out 1).trans rfl;have hcz20_2 : w17.cell? ⟨gb109,2,none⟩ = some (.int .i64 a1_2):=(blk_cell BK109.out 2).trans rfl;have hfz20_0:=blk_frozen BK109.out 0;have hfz20_1:=blk_frozen BK109.out 1;have hfz20_2:=blk_frozen BK109.out 2))
   go_ret
   exact ⟨by first|rfl|(simp only [i64_w,i32_w];done)|(simp only [i64_w,i32_w];rfl)|(simp [errW_none,errW_some] <;> rfl)|(simp [*,errW_none,errW_some] <;> rfl),by repeat (first|(with_reducible first|exact HB.out|apply bA|apply bN|apply bD|refine below_set ?_ GE108.out|refine below_set ?_ GE109.out)|exact HB.out)⟩
 ·rw [if_neg c3] at H
  have c3b0 : (a0_0 == a1_0) = false:=beq_eq_false_iff_ne.mpr c3
  have c3b1 : (a0_0 != a1_0) = true:=bne_iff_ne.mpr c3
  obtain rfl:=Option.some.inj H
  go_enter Try.func68,Try.ntmps68
  go_wp2_with (first|((with_reducible refine gate_dst (N:=2) rfl ?_);refine box_event ?hg (N:=2) ?hd (cs:=#[.int .i64 a0_0,.int .i64 a0_1,.int .i64 a0_2]) (t:=63) ?hr ?_;(case hd => rfl);(case hg => rfl);(case hr => first|(go_simp;done)|(go_simp;rfl));intro gb108 hg w21 hbox hb;have n0_:=aM (below_step (by repeat (first|(with_reducible first|exact HB.out|apply bA|apply bN|apply bD)|exact HB.out)) hb);have n1_:=aM (hbox);have n2_:=aM ((by rw [hg];exact (below_size (by repeat (first|(with_reducible first|exact HB.out|apply bA|apply bN|apply bD)|exact HB.out))) : w.heap.size ≤ gb108));have n3_:=aM ((by rw [hg];exact (below_size (by repeat (first|(with_reducible first|exact HB.out|apply bA|apply bN|apply bD)|exact HB.out))) : w.heap.size ≤ gb108));clear HB;have HB:=n0_;have BK108:=n1_;have GW108:=n2_;have GE108:=n3_;clear n0_ n1_ n2_ n3_;clear hb hbox hg)|((with_reducible refine gate_dst (N:=3) rfl ?_);refine box_event ?hg (N:=3) ?hd (cs:=#[.int .i64 a1_0,.int .i64 a1_1,.int .i64 a1_2]) (t:=63) ?hr ?_;(case hd => rfl);(case hg => rfl);(case hr => first|(go_simp;done)|(go_simp;rfl));intro gb109 hg w22 hbox hb;have n0_:=aM (blk_below (g:=gb108) (o:=.cells #[.int .i64 a0_0,.int .i64 a0_1,.int .i64 a0_2] 63 (0,0)) (by (with_reducible repeat (first|refine blk_drewN ?_ _|refine blk_drew ?_|refine blk_alloc ?_ _));exact BK108.out) hb);have n1_:=aM (below_step (by repeat (first|(with_reducible first|exact HB.out|apply bA|apply bN|apply bD|refine below_set ?_ GE108.out)|exact HB.out)) hb);have n2_:=aM (hbox);have n3_:=aM ((by rw [hg];exact (below_size (by repeat (first|(with_reducible first|exact HB.out|apply bA|apply bN|apply bD|refine below_set ?_ GE108.out)|exact HB.out))) : w.heap.size ≤ gb109));have n4_:=aM ((by rw [hg];exact (below_size (by repeat (first|(with_reducible first|exact HB.out|apply bA|apply bN|apply bD|refine below_set ?_ GE108.out)|exact HB.out))) : w.heap.size ≤ gb109));have n5_:=aM ((by rw [hg];exact Nat.ne_of_lt (blk_lt (g:=gb108) (o:=.cells #[.int .i64 a0_0,.int .i64 a0_1,.int .i64 a0_2] 63 (0,0)) (by (with_reducible repeat (first|refine blk_drewN ?_ _|refine blk_drew ?_|refine blk_alloc ?_ _));exact BK108.out)) : gb108 ≠ gb109));have n6_:=aM ((by rw [hg];exact Nat.ne_of_gt (blk_lt (g:=gb108) (o:=.cells #[.int .i64 a0_0,.int .i64 a0_1,.int .i64 a0_2] 63 (0,0)) (by (with_reducible repeat (first|refine blk_drewN ?_ _|refine blk_drew ?_|refine blk_alloc ?_ _));exact BK108.out)) : gb109 ≠ gb108));clear BK108;clear HB;have BK108:=n0_;have HB:=n1_;have BK109:=n2_;have GW109:=n3_;have GE109:=n4_;have NB108_109:=n5_;have NB109_108:=n6_;clear n0_ n1_ n2_ n3_ n4_ n5_ n6_;clear hb hbox hg;have hnb23:=NB108_109.out;have hnc23:=NB109_108.out;have hcz24_0 : w22.cell? ⟨gb108,0,none⟩ = some (.int .i64 a0_0):=(blk_cell BK108.out 0).trans rfl;have hcz24_1 : w22.cell? ⟨gb108,1,none⟩ = some (.int .i64 a0_1):=(blk_cell BK108.out 1).trans rfl;have hcz24_2 : w22.cell? ⟨gb108,2,none⟩ = some (.int .i64 a0_2):=(blk_cell BK108.out 2).trans rfl;have hfz24_0:=blk_frozen BK108.out 0;have hfz24_1:=blk_frozen BK108.out 1;have hfz24_2:=blk_frozen BK108.out 2;have hcz25_0 : w22.cell? ⟨gb109,0,none⟩ = some (.int .i64 a1_0):=(blk_cell BK109.out 0).trans rfl;have hcz25_1 : w22.cell? ⟨gb109,1,none⟩ = some (.int .i64 a1_1):=(blk_cell BK109.out 1).trans rfl;have hcz25_2 : w22.cell? ⟨gb109,2,none⟩ = some (.int .i64 a1_2):=(blk_cell BK109.out 2).trans rfl;have hfz25_0:=blk_frozen BK109.out 0;have hfz25_1:=blk_frozen BK109.out 1;have hfz25_2:=blk_frozen BK109.out 2))
  go_ret
  exact ⟨by first|rfl|(simp only [i64_w,i32_w];done)|(simp only [i64_w,i32_w];rfl)|(simp [errW_none,errW_some] <;> rfl)|(simp [*,errW_none,errW_some] <;> rfl),by repeat (first|(with_reducible first|exact HB.out|apply bA|apply bN|apply bD|refine below_set ?_ GE108.out|refine below_set ?_ GE109.out)|exact HB.out)⟩

/-! ### laws_eqItem: function 56 -/
def laws_eqItem.f (a0_0 : Int) (a0_1 : Int) (a0_2 : Int) (a0_3 : Int) (a1_0 : Int) (a1_1 : Int) (a1_2 : Int) (a1_3 : Int) : Option (Bool):=if a0_0 = a1_0 then ((laws_eqPay.f a0_1 a0_2 a0_3 a1_1 a1_2 a1_3).bind fun t112 => (if t112 = true then (some true) else (some false))) else (some false)
set_option maxHeartbeats 8000000 in
set_option maxRecDepth 100000 in
theorem laws_eqItem.calls (a0_0 : Int) (a0_1 : Int) (a0_2 : Int) (a0_3 : Int) (a1_0 : Int) (a1_1 : Int) (a1_2 : Int) (a1_3 : Int) (r : Bool) (w : World) (h : laws_eqItem.f a0_0 a0_1 a0_2 a0_3 a1_0 a1_1 a1_2 a1_3 = some r) :
  Calls Try.prog 56 #[.agg #[.int .i64 a0_0,.int .i64 a0_1,.int .i64 a0_2,.int .i64 a0_3],.agg #[.int .i64 a1_0,.int .i64 a1_1,.int .i64 a1_2,.int .i64 a1_3]] w fun e w' => e = .returned (.bool r) ∧ Below w.heap.size w w':=by
 have hu65:=Try.underlying65
 have hu63:=Try.underlying63
 have HB:=aM (Below.refl w.heap.size w)
 have H : (if a0_0 = a1_0 then ((laws_eqPay.f a0_1 a0_2 a0_3 a1_1 a1_2 a1_3).bind fun t112 => (if t112 = true then (some true) else (some false))) else (some false)) = some r:=h
 clear h
 by_cases c3 : a0_0 = a1_0
 ·rw [if_pos c3] at H
  have c3b0 : (a0_0 == a1_0) = true:=beq_iff_eq.mpr c3
  have c3b1 : (a0_0 != a1_0) = false:=bne_eq_false_iff_eq.mpr c3
  clear c3
  replace H:=Option.bind_eq_some_iff.mp H
  obtain ⟨t112,A40,H⟩:=H
  replace H : (if t112 = true then (some true) else (some false)) = some r:=H
  have A4:=aM A40
  clear A40
  by_cases c5 : t112 = true
  ·subst c5
   have H1 : (some true) = some r:=by rw [if_pos rfl] at H;exact H
   clear H
   have H:=H1
   clear H1
   obtain rfl:=Option.some.inj H
   go_enter Try.func56,Try.ntmps56
   go_wp2_with (first|((with_reducible refine gate_dst (N:=2) rfl ?_);refine box_event ?hg (N:=2) ?hd (cs:=#[.int .i64 a0_0,.int .i64 a0_1,.int .i64 a0_2,.int .i64 a0_3]) (t:=65) ?hr ?_;(case hd => rfl);(case hg => rfl);(case hr => first|(go_simp;done)|(go_simp;rfl));intro gb110 hg w6 hbox hb;have n0_:=aM (below_step (by repeat (first|(with_reducible first|exact HB.out|apply bA|apply bN|apply bD)|exact HB.out)) hb);have n1_:=aM (hbox);have n2_:=aM ((by rw [hg];exact (below_size (by repeat (first|(with_reducible first|exact HB.out|apply bA|apply bN|apply bD)|exact HB.out))) : w.heap.size ≤ gb110));have n3_:=aM ((by rw [hg];exact (below_size (by repeat (first|(with_reducible first|exact HB.out|apply bA|apply bN|apply bD)|exact HB.out))) : w.heap.size ≤ gb110));clear HB;have HB:=n0_;have BK110:=n1_;have GW110:=n2_;have GE110:=n3_;clear n0_ n1_ n2_ n3_;clear hb hbox hg)|((with_reducible refine gate_dst (N:=3) rfl ?_);refine box_event ?hg (N:=3) ?hd (cs:=#[.int .i64 a1_0,.int .i64 a1_1,.int .i64 a1_2,.int .i64 a1_3]) (t:=65) ?hr ?_;(case hd => rfl);(case hg => rfl);(case hr => first|(go_simp;done)|(go_simp;rfl));intro gb111 hg w7 hbox hb;have n0_:=aM (blk_below (g:=gb110) (o:=.cells #[.int .i64 a0_0,.int .i64 a0_1,.int .i64 a0_2,.int .i64 a0_3] 65 (0,0)) (by (with_reducible repeat (first|refine blk_drewN ?_ _|refine blk_drew ?_|refine blk_alloc ?_ _));exact BK110.out) hb);have n1_:=aM (below_step (by repeat (first|(with_reducible first|exact HB.out|apply bA|apply bN|apply bD|refine below_set ?_ GE110.out)|exact HB.out)) hb);have n2_:=aM (hbox);have n3_:=aM ((by rw [hg];exact (below_size (by repeat (first|(with_reducible first|exact HB.out|apply bA|apply bN|apply bD|refine below_set ?_ GE110.out)|exact HB.out))) : w.heap.size ≤ gb111));have n4_:=aM ((by rw [hg];exact (below_size (by repeat (first|(with_reducible first|exact HB.out|apply bA|apply bN|apply bD|refine below_set ?_ GE110.out)|exact HB.out))) : w.heap.size ≤ gb111));have n5_:=aM ((by rw [hg];exact Nat.ne_of_lt (blk_lt (g:=gb110) (o:=.cells #[.int .i64 a0_0,.int .i64 a0_1,.int .i64 a0_2,.int .i64 a0_3] 65 (0,0)) (by (with_reducible repeat (first|refine blk_drewN ?_ _|refine blk_drew ?_|refine blk_alloc ?_ _));exact BK110.out)) : gb110 ≠ gb111));have n6_:=aM ((by rw [hg];exact Nat.ne_of_gt (blk_lt (g:=gb110) (o:=.cells #[.int .i64 a0_0,.int .i64 a0_1,.int .i64 a0_2,.int .i64 a0_3] 65 (0,0)) (by (with_reducible repeat (first|refine blk_drewN ?_ _|refine blk_drew ?_|refine blk_alloc ?_ _));exact BK110.out)) : gb111 ≠ gb110));clear BK110;clear HB;have BK110:=n0_;have HB:=n1_;have BK111:=n2_;have GW111:=n3_;have GE111:=n4_;have NB110_111:=n5_;have NB111_110:=n6_;clear n0_ n1_ n2_ n3_ n4_ n5_ n6_;clear hb hbox hg;have hnb8:=NB110_111.out;have hnc8:=NB111_110.out;have hcz9_0 : w7.cell? ⟨gb110,0,none⟩ = some (.int .i64 a0_0):=(blk_cell BK110.out 0).trans rfl;have hcz9_1 : w7.cell? ⟨gb110,1,none⟩ = some (.int .i64 a0_1):=(blk_cell BK110.out 1).trans rfl;have hcz9_2 : w7.cell? ⟨gb110,2,none⟩ = some (.int .i64 a0_2):=(blk_cell BK110.out 2).trans rfl;have hcz9_3 : w7.cell? ⟨gb110,3,none⟩ = some (.int .i64 a0_3):=(blk_cell BK110.out 3).trans rfl;have hfz9_0:=blk_frozen BK110.out 0;have hfz9_1:=blk_frozen BK110.out 1;have hfz9_2:=blk_frozen BK110.out 2;have hfz9_3:=blk_frozen BK110.out 3;have hcz10_0 : w7.cell? ⟨gb111,0,none⟩ = some (.int .i64 a1_0):=(blk_cell BK111.out 0).trans rfl;have hcz10_1 : w7.cell? ⟨gb111,1,none⟩ = some (.int .i64 a1_1):=(blk_cell BK111.out 1).trans rfl;have hcz10_2 : w7.cell? ⟨gb111,2,none⟩ = some (.int .i64 a1_2):=(blk_cell BK111.out 2).trans rfl;have hcz10_3 : w7.cell? ⟨gb111,3,none⟩ = some (.int .i64 a1_3):=(blk_cell BK111.out 3).trans rfl;have hfz10_0:=blk_frozen BK111.out 0;have hfz10_1:=blk_frozen BK111.out 1;have hfz10_2:=blk_frozen BK111.out 2;have hfz10_3:=blk_frozen BK111.out 3)|((with_reducible refine gate_callee (f:=68) rfl ?_);refine goesL_ (some 14) rfl rfl Try.func68 (by kernel_rfl) rfl #[.agg #[.int .i64 a0_1,.int .i64 a0_2,.int .i64 a0_3],.agg #[.int .i64 a1_1,.int .i64 a1_2,.int .i64 a1_3]] rfl (by (try simp only [List.map_toArray,List.map_cons,List.map_nil]);first|done|rfl|(simp only [List.length_drop,List.length_take];rfl)) ?_;(with_reducible refine (laws_eqPay.calls a0_1 a0_2 a0_3 a1_1 a1_2 a1_3 true _ A4.out).mono ?_);rintro e w11 ⟨rfl,hb⟩;refine ⟨_,rfl,?_⟩;have n0_:=aM (blk_below (g:=gb110) (o:=.cells #[.int .i64 a0_0,.int .i64 a0_1,.int .i64 a0_2,.int .i64 a0_3] 65 (0,0)) (by (with_reducible repeat (first|refine blk_drewN ?_ _|refine blk_drew ?_|refine blk_alloc ?_ _));exact BK110.out) hb);have n1_:=aM (blk_below (g:=gb111) (o:=.cells #[.int .i64 a1_0,.int .i64 a1_1,.int .i64 a1_2,.int .i64 a1_3] 65 (0,0)) (by (with_reducible repeat (first|refine blk_drewN ?_ _|refine blk_drew ?_|refine blk_alloc ?_ _));exact BK111.out) hb);have n2_:=aM (below_step (by repeat (first|(with_reducible first|exact HB.out|apply bA|apply bN|apply bD|refine below_set ?_ GE110.out|refine below_set ?_ GE111.out)|exact HB.out)) hb);clear BK110;clear BK111;clear HB;have BK110:=n0_;have BK111:=n1_;have HB:=n2_;clear n0_ n1_ n2_;(try clear hb);(try clear hb2);(try clear hk);(try clear hi)))
   go_ret
   exact ⟨by first|rfl|(simp only [i64_w,i32_w];done)|(simp only [i64_w,i32_w];rfl)|(simp [errW_none,errW_some] <;> rfl)|(simp [*,errW_none,errW_some] <;> rfl),by repeat (first|(with_reducible first|exact HB.out|apply bA|apply bN|apply bD|refine below_set ?_ GE110.out|refine below_set ?_ GE111.out)|exact HB.out)⟩
  ·replace c5:=Bool.eq_false_iff.mpr c5
   subst c5
   have H1 : (some false) = some r:=by rw [if_neg (show ¬ (false = true) by decide)] at H;exact H
   clear H
   have H:=H1
   clear H1
   obtain rfl:=Option.some.inj H
   go_enter Try.func56,Try.ntmps56
   go_wp2_with (first|((with_reducible refine gate_dst (N:=2) rfl ?_);refine box_event ?hg (N:=2) ?hd (cs:=#[.int .i64 a0_0,.int .i64 a0_1,.int .i64 a0_2,.int .i64 a0_3]) (t:=65) ?hr ?_;(case hd => rfl);(case hg => rfl);(case hr => first|(go_simp;done)|(go_simp;rfl));intro gb110 hg w12 hbox hb;have n0_:=aM (below_step (by repeat (first|(with_reducible first|exact HB.out|apply bA|apply bN|apply bD)|exact HB.out)) hb);have n1_:=aM (hbox);have n2_:=aM ((by rw [hg];exact (below_size (by repeat (first|(with_reducible first|exact HB.out|apply bA|apply bN|apply bD)|exact HB.out))) : w.heap.size ≤ gb110));have n3_:=aM ((by rw [hg];exact (below_size (by repeat (first|(with_reducible first|exact HB.out|apply bA|apply bN|apply bD)|exact HB.out))) : w.heap.size ≤ gb110));clear HB;have HB:=n0_;have BK110:=n1_;have GW110:=n2_;have GE110:=n3_;clear n0_ n1_ n2_ n3_;clear hb hbox hg)|((with_reducible refine gate_dst (N:=3) rfl ?_);refine box_event ?hg (N:=3) ?hd (cs:=#[.int .i64 a1_0,.int .i64 a1_1,.int .i64 a1_2,.int .i64 a1_3]) (t:=65) ?hr ?_;(case hd => rfl);(case hg => rfl);(case hr => first|(go_simp;done)|(go_simp;rfl));intro gb111 hg w13 hbox hb;have n0_:=aM (blk_below (g:=gb110) (o:=.cells #[.int .i64 a0_0,.int .i64 a0_1,.int .i64 a0_2,.int .i64 a0_3] 65 (0,0)) (by (with_reducible repeat (first|refine blk_drewN ?_ _|refine blk_drew ?_|refine blk_alloc ?_ _));exact BK110.out) hb);have n1_:=aM (below_step (by repeat (first|(with_reducible first|exact HB.out|apply bA|apply bN|apply bD|refine below_set ?_ GE110.out)|exact HB.out)) hb);have n2_:=aM (hbox);have n3_:=aM ((by rw [hg];exact (below_size (by repeat (first|(with_reducible first|exact HB.out|apply bA|apply bN|apply bD|refine below_set ?_ GE110.out)|exact HB.out))) : w.heap.size ≤ gb111));have n4_:=aM ((by rw [hg];exact (below_size (by repeat (first|(with_reducible first|exact HB.out|apply bA|apply bN|apply bD|refine below_set ?_ GE110.out)|exact HB.out))) : w.heap.size ≤ gb111));have n5_:=aM ((by rw [hg];exact Nat.ne_of_lt (blk_lt (g:=gb110) (o:=.cells #[.int .i64 a0_0,.int .i64 a0_1,.int .i64 a0_2,.int .i64 a0_3] 65 (0,0)) (by (with_reducible repeat (first|refine blk_drewN ?_ _|refine blk_drew ?_|refine blk_alloc ?_ _));exact BK110.out)) : gb110 ≠ gb111));have n6_:=aM ((by rw [hg];exact Nat.ne_of_gt (blk_lt (g:=gb110) (o:=.cells #[.int .i64 a0_0,.int .i64 a0_1,.int .i64 a0_2,.int .i64 a0_3] 65 (0,0)) (by (with_reducible repeat (first|refine blk_drewN ?_ _|refine blk_drew ?_|refine blk_alloc ?_ _));exact BK110.out)) : gb111 ≠ gb110));clear BK110;clear HB;have BK110:=n0_;have HB:=n1_;have BK111:=n2_;have GW111:=n3_;have GE111:=n4_;have NB110_111:=n5_;have NB111_110:=n6_;clear n0_ n1_ n2_ n3_ n4_ n5_ n6_;clear hb hbox hg;have hnb14:=NB110_111.out;have hnc14:=NB111_110.out;have hcz15_0 : w13.cell? ⟨gb110,0,none⟩ = some (.int .i64 a0_0):=(blk_cell BK110.out 0).trans rfl;have hcz15_1 : w13.cell? ⟨gb110,1,none⟩ = some (.int .i64 a0_1):=(blk_cell BK110.out 1).trans rfl;have hcz15_2 : w13.cell? ⟨gb110,2,none⟩ = some (.int .i64 a0_2):=(blk_cell BK110.out 2).trans rfl;have hcz15_3 : w13.cell? ⟨gb110,3,none⟩ = some (.int .i64 a0_3):=(blk_cell BK110.out 3).trans rfl;have hfz15_0:=blk_frozen BK110.out 0;have hfz15_1:=blk_frozen BK110.out 1;have hfz15_2:=blk_frozen BK110.out 2;have hfz15_3:=blk_frozen BK110.out 3;have hcz16_0 : w13.cell? ⟨gb111,0,none⟩ = some (.int .i64 a1_0):=(blk_cell BK111.out 0).trans rfl;have hcz16_1 : w13.cell? ⟨gb111,1,none⟩ = some (.int .i64 a1_1):=(blk_cell BK111.out 1).trans rfl;have hcz16_2 : w13.cell? ⟨gb111,2,none⟩ = some (.int .i64 a1_2):=(blk_cell BK111.out 2).trans rfl;have hcz16_3 : w13.cell? ⟨gb111,3,none⟩ = some (.int .i64 a1_3):=(blk_cell BK111.out 3).trans rfl;have hfz16_0:=blk_frozen BK111.out 0;have hfz16_1:=blk_frozen BK111.out 1;have hfz16_2:=blk_frozen BK111.out 2;have hfz16_3:=blk_frozen BK111.out 3)|((with_reducible refine gate_callee (f:=68) rfl ?_);refine goesL_ (some 14) rfl rfl Try.func68 (by kernel_rfl) rfl #[.agg #[.int .i64 a0_1,.int .i64 a0_2,.int .i64 a0_3],.agg #[.int .i64 a1_1,.int .i64 a1_2,.int .i64 a1_3]] rfl (by (try simp only [List.map_toArray,List.map_cons,List.map_nil]);first|done|rfl|(simp only [List.length_drop,List.length_take];rfl)) ?_;(with_reducible refine (laws_eqPay.calls a0_1 a0_2 a0_3 a1_1 a1_2 a1_3 false _ A4.out).mono ?_);rintro e w17 ⟨rfl,hb⟩;refine ⟨_,rfl,?_⟩;have n0_:=aM (blk_below (g:=gb110) (o:=.cells #[.int .i64 a0_0,.int .i64 a0_1,.int .i64 a0_2,.int .i64 a0_3] 65 (0,0)) (by (with_reducible repeat (first|refine blk_drewN ?_ _|refine blk_drew ?_|refine blk_alloc ?_ _));exact BK110.out) hb);have n1_:=aM (blk_below (g:=gb111) (o:=.cells #[.int .i64 a1_0,.int .i64 a1_1,.int .i64 a1_2,.int .i64 a1_3] 65 (0,0)) (by (with_reducible repeat (first|refine blk_drewN ?_ _|refine blk_drew ?_|refine blk_alloc ?_ _));exact BK111.out) hb);have n2_:=aM (below_step (by repeat (first|(with_reducible first|exact HB.out|apply bA|apply bN|apply bD|refine below_set ?_ GE110.out|refine below_set ?_ GE111.out)|exact HB.out)) hb);clear BK110;clear BK111;clear HB;have BK110:=n0_;have BK111:=n1_;have HB:=n2_;clear n0_ n1_ n2_;(try clear hb);(try clear hb2);(try clear hk);(try clear hi)))
   go_ret
   exact ⟨by first|rfl|(simp only [i64_w,i32_w];done)|(simp only [i64_w,i32_w];rfl)|(simp [errW_none,errW_some] <;> rfl)|(simp [*,errW_none,errW_some] <;> rfl),by repeat (first|(with_reducible first|exact HB.out|apply bA|apply bN|apply bD|refine below_set ?_ GE110.out|refine below_set ?_ GE111.out)|exact HB.out)⟩
 ·rw [if_neg c3] at H
  have c3b0 : (a0_0 == a1_0) = false:=beq_eq_false_iff_ne.mpr c3
  have c3b1 : (a0_0 != a1_0) = true:=bne_iff_ne.mpr c3
  obtain rfl:=Option.some.inj H
  go_enter Try.func56,Try.ntmps56
  go_wp2_with (first|((with_reducible refine gate_dst (N:=2) rfl ?_);refine box_event ?hg (N:=2) ?hd (cs:=#[.int .i64 a0_0,.int .i64 a0_1,.int .i64 a0_2,.int .i64 a0_3]) (t:=65) ?hr ?_;(case hd => rfl);(case hg => rfl);(case hr => first|(go_simp;done)|(go_simp;rfl));intro gb110 hg w18 hbox hb;have n0_:=aM (below_step (by repeat (first|(with_reducible first|exact HB.out|apply bA|apply bN|apply bD)|exact HB.out)) hb);have n1_:=aM (hbox);have n2_:=aM ((by rw [hg];exact (below_size (by repeat (first|(with_reducible first|exact HB.out|apply bA|apply bN|apply bD)|exact HB.out))) : w.heap.size ≤ gb110));have n3_:=aM ((by rw [hg];exact (below_size (by repeat (first|(with_reducible first|exact HB.out|apply bA|apply bN|apply bD)|exact HB.out))) : w.heap.size ≤ gb110));clear HB;have HB:=n0_;have BK110:=n1_;have GW110:=n2_;have GE110:=n3_;clear n0_ n1_ n2_ n3_;clear hb hbox hg)|((with_reducible refine gate_dst (N:=3) rfl ?_);refine box_event ?hg (N:=3) ?hd (cs:=#[.int .i64 a1_0,.int .i64 a1_1,.int .i64 a1_2,.int .i64 a1_3]) (t:=65) ?hr ?_;(case hd => rfl);(case hg => rfl);(case hr => first|(go_simp;done)|(go_simp;rfl));intro gb111 hg w19 hbox hb;have n0_:=aM (blk_below (g:=gb110) (o:=.cells #[.int .i64 a0_0,.int .i64 a0_1,.int .i64 a0_2,.int .i64 a0_3] 65 (0,0)) (by (with_reducible repeat (first|refine blk_drewN ?_ _|refine blk_drew ?_|refine blk_alloc ?_ _));exact BK110.out) hb);have n1_:=aM (below_step (by repeat (first|(with_reducible first|exact HB.out|apply bA|apply bN|apply bD|refine below_set ?_ GE110.out)|exact HB.out)) hb);have n2_:=aM (hbox);have n3_:=aM ((by rw [hg];exact (below_size (by repeat (first|(with_reducible first|exact HB.out|apply bA|apply bN|apply bD|refine below_set ?_ GE110.out)|exact HB.out))) : w.heap.size ≤ gb111));have n4_:=aM ((by rw [hg];exact (below_size (by repeat (first|(with_reducible first|exact HB.out|apply bA|apply bN|apply bD|refine below_set ?_ GE110.out)|exact HB.out))) : w.heap.size ≤ gb111));have n5_:=aM ((by rw [hg];exact Nat.ne_of_lt (blk_lt (g:=gb110) (o:=.cells #[.int .i64 a0_0,.int .i64 a0_1,.int .i64 a0_2,.int .i64 a0_3] 65 (0,0)) (by (with_reducible repeat (first|refine blk_drewN ?_ _|refine blk_drew ?_|refine blk_alloc ?_ _));exact BK110.out)) : gb110 ≠ gb111));have n6_:=aM ((by rw [hg];exact Nat.ne_of_gt (blk_lt (g:=gb110) (o:=.cells #[.int .i64 a0_0,.int .i64 a0_1,.int .i64 a0_2,.int .i64 a0_3] 65 (0,0)) (by (with_reducible repeat (first|refine blk_drewN ?_ _|refine blk_drew ?_|refine blk_alloc ?_ _));exact BK110.out)) : gb111 ≠ gb110));clear BK110;clear HB;have BK110:=n0_;have HB:=n1_;have BK111:=n2_;have GW111:=n3_;have GE111:=n4_;have NB110_111:=n5_;have NB111_110:=n6_;clear n0_ n1_ n2_ n3_ n4_ n5_ n6_;clear hb hbox hg;have hnb20:=NB110_111.out;have hnc20:=NB111_110.out;have hcz21_0 : w19.cell? ⟨gb110,0,none⟩ = some (.int .i64 a0_0):=(blk_cell BK110.out 0).trans rfl;have hcz21_1 : w19.cell? ⟨gb110,1,none⟩ = some (.int .i64 a0_1):=(blk_cell BK110.out 1).trans rfl;have hcz21_2 : w19.cell? ⟨gb110,2,none⟩ = some (.int .i64 a0_2):=(blk_cell BK110.out 2).trans rfl;have hcz21_3 : w19.cell? ⟨gb110,3,none⟩ = some (.int .i64 a0_3):=(blk_cell BK110.out 3).trans rfl;have hfz21_0:=blk_frozen BK110.out 0;have hfz21_1:=blk_frozen BK110.out 1;have hfz21_2:=blk_frozen BK110.out 2;have hfz21_3:=blk_frozen BK110.out 3;have hcz22_0 : w19.cell? ⟨gb111,0,none⟩ = some (.int .i64 a1_0):=(blk_cell BK111.out 0).trans rfl;have hcz22_1 : w19.cell? ⟨gb111,1,none⟩ = some (.int .i64 a1_1):=(blk_cell BK111.out 1).trans rfl;have hcz22_2 : w19.cell? ⟨gb111,2,none⟩ = some (.int .i64 a1_2):=(blk_cell BK111.out 2).trans rfl;have hcz22_3 : w19.cell? ⟨gb111,3,none⟩ = some (.int .i64 a1_3):=(blk_cell BK111.out 3).trans rfl;have hfz22_0:=blk_frozen BK111.out 0;have hfz22_1:=blk_frozen BK111.out 1;have hfz22_2:=blk_frozen BK111.out 2;have hfz22_3:=blk_frozen BK111.out 3))
  go_ret
  exact ⟨by first|rfl|(simp only [i64_w,i32_w];done)|(simp only [i64_w,i32_w];rfl)|(simp [errW_none,errW_some] <;> rfl)|(simp [*,errW_none,errW_some] <;> rfl),by repeat (first|(with_reducible first|exact HB.out|apply bA|apply bN|apply bD|refine below_set ?_ GE110.out|refine below_set ?_ GE111.out)|exact HB.out)⟩

/-! ### laws_eqItemS: function 40 -/
def laws_eqItemS.l0 : Nat → List (S65) → List (S65) → Int → Option (Bool)
 | 0,_,_,_ => none
 | k + 1,x0,x1,x5 => if x5 < (x0.length : Int) then (if 0 ≤ x5 then (if x5 < (x1.length : Int) then ((laws_eqItem.f ((rd_T65 x0 x5).f0) ((rd_T65 x0 x5).f1.f0) ((rd_T65 x0 x5).f1.f1) ((rd_T65 x0 x5).f1.f2) ((rd_T65 x1 x5).f0) ((rd_T65 x1 x5).f1.f0) ((rd_T65 x1 x5).f1.f1) ((rd_T65 x1 x5).f1.f2)).bind fun t115 => (if t115 = true then (laws_eqItemS.l0 k x0 x1 (wrap64 (x5 + 1))) else (some false))) else (none)) else (none)) else (some true)
def laws_eqItemS.f (k : Nat) (l0 : List (S65)) (l1 : List (S65)) : Option (Bool):=if (l0.length : Int) = (l1.length : Int) then (laws_eqItemS.l0 k l0 l1 0) else (some false)
theorem laws_eqItemS.mono_l : ∀ k,(∀ y0 y1 y2,LeO (laws_eqItemS.l0 k y0 y1 y2) (laws_eqItemS.l0 (k + 1) y0 y1 y2))
 | 0 => fun _ _ _ r h => by simp [laws_eqItemS.l0] at h
 | k + 1 => by
  have ih0:=laws_eqItemS.mono_l k
  ·intro y0 y1 y2
   unfold laws_eqItemS.l0
   repeat' first
   | exact LeO.refl _
   | exact ih0 _ _ _
   | exact LeO.none _
   | refine LeO.ite ?_ ?_
   | refine LeO.bind ?_ (fun _ => ?_)
theorem laws_eqItemS.mono : ∀ a0 a1 k,LeO (laws_eqItemS.f k a0 a1) (laws_eqItemS.f (k + 1) a0 a1):=by
 intro a0 a1 k
 have ih0:=laws_eqItemS.mono_l k
 unfold laws_eqItemS.f
 repeat' first
   | exact LeO.refl _
   | exact ih0 _ _ _
   | exact LeO.none _
   | refine LeO.ite ?_ ?_
   | refine LeO.bind ?_ (fun _ => ?_)
def laws_eqItemS.T6 : Bool × List (List Nat × List Nat):=(true,[([],[]),([],[]),([0,1],[0,1]),([2],[2]),([],[]),([],[]),([4,5],[4,5]),([6],[6]),([3,7],[3,7]),([8],[8])])
def laws_eqItemS.B6 : List Nat:=[0,0,3,7,0,0,48,112,255,511]
theorem laws_eqItemS.tab6 : rtab .any (opsOf Try.f40 6) = laws_eqItemS.T6:=by kernel_rfl
theorem laws_eqItemS.bits6 : waitsOk laws_eqItemS.T6.2 laws_eqItemS.B6 = true:=by kernel_rfl
set_option maxHeartbeats 8000000 in
set_option maxRecDepth 100000 in
theorem laws_eqItemS.calls (k : Nat) (A0 : Option Addr) (c0 : Nat) (l0 : List (S65)) (A1 : Option Addr) (c1 : Nat) (l1 : List (S65)) (r : Bool) (w : World) (hr0 : Kd.C k65 w A0 l0.length l0) (hc0 : l0.length ≤ c0) (hr1 : Kd.C k65 w A1 l1.length l1) (hc1 : l1.length ≤ c1) (h : laws_eqItemS.f k l0 l1 = some r) :
  Calls Try.prog 40 #[.slice A0 l0.length c0,.slice A1 l1.length c1] w fun e w' => e = .returned (.bool r) ∧ Below w.heap.size w w':=by
 have hu65:=Try.underlying65
 have HR0:=aM hr0
 have HC0:=aM hc0
 clear hr0 hc0
 have HR1:=aM hr1
 have HC1:=aM hc1
 clear hr1 hc1
 have HB:=aM (Below.refl w.heap.size w)
 have H : (if (l0.length : Int) = (l1.length : Int) then (laws_eqItemS.l0 k l0 l1 0) else (some false)) = some r:=h
 clear h
 by_cases c3 : (l0.length : Int) = (l1.length : Int)
 ·rw [if_pos c3] at H
  have c3b0 : ((l0.length : Int) == (l1.length : Int)) = true:=beq_iff_eq.mpr c3
  have c3b1 : ((l0.length : Int) != (l1.length : Int)) = false:=bne_eq_false_iff_eq.mpr c3
  have c3b2 : (l0.length == l1.length) = true:=by first|simpa using c3|(simp at c3 ⊢;omega)
  clear c3
  have H':=aM H
  clear H
  go_enter Try.func40,Try.ntmps40
  go_wp2
  go_loopg [5] k (fun kq v5 w' => ∃ (x5_1 : Int),v5 = .int .i64 x5_1 ∧ Aside0 (laws_eqItemS.l0 kq l0 l1 x5_1 = some r) ∧ Aside0 (kq ≤ k) ∧ Aside0 (Below w.heap.size w w'))
  case atStart => exact ⟨(0),(by first|rfl|(simp;done)|(simp [*];done)),H',⟨Nat.le_refl _⟩,⟨by repeat (first|(with_reducible first|exact HB.out|apply bA|apply bN|apply bD)|exact HB.out)⟩⟩
  case round =>
   clear H'
   try clear c1
   try clear p2
   try clear c3
   try clear c3b0
   try clear c3b1
   try clear c3b2
   obtain ⟨x5_1,rfl,HA,HK1,HB⟩:=hrel
   cases gk with
   | zero => exact absurd HA.out (by simp [laws_eqItemS.l0])
   | succ k1 =>
    have H:=HA.out
    clear HA
    simp only [laws_eqItemS.l0] at H
    by_cases c4 : x5_1 < (l0.length : Int)
    ·rw [if_pos c4] at H
     have c4b0 : decide (x5_1 < (l0.length : Int)) = true:=decide_eq_true c4
     clear c4
     by_cases c5 : 0 ≤ x5_1
     case neg => rw [if_neg c5] at H;exact absurd H (by simp)
     rw [if_pos c5] at H
     have c5b0 : decide (0 ≤ x5_1) = true:=decide_eq_true c5
     clear c5
     by_cases c6 : x5_1 < (l1.length : Int)
     case neg => rw [if_neg c6] at H;exact absurd H (by simp)
     rw [if_pos c6] at H
     have c6b0 : decide (x5_1 < (l1.length : Int)) = true:=decide_eq_true c6
     clear c6
     replace H:=Option.bind_eq_some_iff.mp H
     obtain ⟨t115,A70,H⟩:=H
     replace H : (if t115 = true then (laws_eqItemS.l0 k1 l0 l1 (wrap64 (x5_1 + 1))) else (some false)) = some r:=H
     have A7:=aM A70
     clear A70
     by_cases c8 : t115 = true
     ·subst c8
      have H1 : (laws_eqItemS.l0 k1 l0 l1 (wrap64 (x5_1 + 1))) = some r:=by rw [if_pos rfl] at H;exact H
      clear H
      have H:=H1
      clear H1
      have H':=aM H
      clear H
      try go_wp2
      have n0_:=aM (bD HB.out)
      clear HB
      have HB:=n0_
      clear n0_
      have p113 : 0 ≤ (x5_1 : Int):=of_decide_eq_true (by first|(with_reducible assumption)|assumption)
      have q113 : x5_1 < (l0.length : Int):=of_decide_eq_true (by first|(with_reducible assumption)|assumption)
      obtain ⟨ad113,e113,hx113_0,hx113_1,hx113_2,hx113_3⟩:=at_T65 HR0.out x5_1 p113 q113
      have hw113_3:=hx113_3
      have hw113_2:=hx113_2
      have hw113_1:=hx113_1
      have hw113_0:=hx113_0
      cases e113
      replace hx113_0:=(HB.out.cell (bL w hx113_0)).trans hx113_0
      replace hx113_1:=(HB.out.cell (bL w hx113_1)).trans hx113_1
      replace hx113_2:=(HB.out.cell (bL w hx113_2)).trans hx113_2
      replace hx113_3:=(HB.out.cell (bL w hx113_3)).trans hx113_3
      replace p113:=eq_true p113
      replace q113:=eq_true q113
      have p114 : 0 ≤ (x5_1 : Int):=of_decide_eq_true (by first|(with_reducible assumption)|assumption)
      have q114 : x5_1 < (l1.length : Int):=of_decide_eq_true (by first|(with_reducible assumption)|assumption)
      obtain ⟨ad114,e114,hx114_0,hx114_1,hx114_2,hx114_3⟩:=at_T65 HR1.out x5_1 p114 q114
      have hw114_3:=hx114_3
      have hw114_2:=hx114_2
      have hw114_1:=hx114_1
      have hw114_0:=hx114_0
      cases e114
      replace hx114_0:=(HB.out.cell (bL w hx114_0)).trans hx114_0
      replace hx114_1:=(HB.out.cell (bL w hx114_1)).trans hx114_1
      replace hx114_2:=(HB.out.cell (bL w hx114_2)).trans hx114_2
      replace hx114_3:=(HB.out.cell (bL w hx114_3)).trans hx114_3
      replace p114:=eq_true p114
      replace q114:=eq_true q114
      refine start_ (n:=10) (S:=fun w' => w'.cell? (ad113.add ((x5_1).toNat * 4)) = some (.int .i64 ((rd_T65 l0 x5_1).f0)) ∧ w'.cell? ⟨(ad113.add ((x5_1).toNat * 4)).block,(ad113.add ((x5_1).toNat * 4)).off + 1,none⟩ = some (.int .i64 ((rd_T65 l0 x5_1).f1.f0)) ∧ w'.cell? ⟨(ad113.add ((x5_1).toNat * 4)).block,(ad113.add ((x5_1).toNat * 4)).off + 2,none⟩ = some (.int .i64 ((rd_T65 l0 x5_1).f1.f1)) ∧ w'.cell? ⟨(ad113.add ((x5_1).toNat * 4)).block,(ad113.add ((x5_1).toNat * 4)).off + 3,none⟩ = some (.int .i64 ((rd_T65 l0 x5_1).f1.f2)) ∧ w'.cell? (ad114.add ((x5_1).toNat * 4)) = some (.int .i64 ((rd_T65 l1 x5_1).f0)) ∧ w'.cell? ⟨(ad114.add ((x5_1).toNat * 4)).block,(ad114.add ((x5_1).toNat * 4)).off + 1,none⟩ = some (.int .i64 ((rd_T65 l1 x5_1).f1.f0)) ∧ w'.cell? ⟨(ad114.add ((x5_1).toNat * 4)).block,(ad114.add ((x5_1).toNat * 4)).off + 2,none⟩ = some (.int .i64 ((rd_T65 l1 x5_1).f1.f1)) ∧ w'.cell? ⟨(ad114.add ((x5_1).toNat * 4)).block,(ad114.add ((x5_1).toNat * 4)).off + 3,none⟩ = some (.int .i64 ((rd_T65 l1 x5_1).f1.f2))) (ds:=[]) #[bF,bF,bF,bF,bF,bF,bF,bF,bF,bF] (by kernel_rfl) rfl rfl ⟨((HB.out.cell (bL w hw113_0)).trans hw113_0),((HB.out.cell (bL w hw113_1)).trans hw113_1),((HB.out.cell (bL w hw113_2)).trans hw113_2),((HB.out.cell (bL w hw113_3)).trans hw113_3),((HB.out.cell (bL w hw114_0)).trans hw114_0),((HB.out.cell (bL w hw114_1)).trans hw114_1),((HB.out.cell (bL w hw114_2)).trans hw114_2),((HB.out.cell (bL w hw114_3)).trans hw114_3)⟩ (fun hHeld => ?_);refine with_tabW laws_eqItemS.tab6 laws_eqItemS.bits6 (fun HT_ HW_ => ?_)
      generalize wr.drew = w9 at HB hx113_0 hx113_1 hx113_2 hx113_3 hx114_0 hx114_1 hx114_2 hx114_3 hHeld ⊢
      refine pure_ (i:=0) (N:=some 17) (v:=?_) (a':=?_) #[bT,bF,bF,bF,bF,bF,bF,bF,bF,bF] rfl rfl (any_of HT_.out (by kernel_rfl)) (fun _ _ _ h => h) (Or.inl ⟨by rfl,?_⟩) ?_ ?_
      rotate_left;(· intro w';go_simp;with_reducible rfl);rotate_left;(· simp only [Act.put,sI,sZ,sS,i64_w,i32_w];rfl)
      refine pure_ (i:=1) (N:=some 18) (v:=?_) (a':=?_) #[bT,bT,bF,bF,bF,bF,bF,bF,bF,bF] rfl rfl (any_of HT_.out (by kernel_rfl)) (fun _ _ _ h => h) (Or.inl ⟨by rfl,?_⟩) ?_ ?_
      rotate_left;(· intro w';go_simp;with_reducible rfl);rotate_left;(· simp only [Act.put,sI,sZ,sS,i64_w,i32_w];rfl)
      refine pure_ (i:=2) (N:=some 19) (v:=?_) (a':=?_) #[bT,bT,bT,bF,bF,bF,bF,bF,bF,bF] rfl rfl (any_of HT_.out (by kernel_rfl)) (fun _ _ _ h => h) (Or.inl ⟨by rfl,?_⟩) ?_ ?_
      rotate_left;(· intro w';go_simp;with_reducible rfl);rotate_left;(· simp only [Act.put,sI,sZ,sS,i64_w,i32_w];rfl)
      refine pure_ (i:=4) (N:=some 21) (v:=?_) (a':=?_) #[bT,bT,bT,bF,bT,bF,bF,bF,bF,bF] rfl rfl (any_of HT_.out (by kernel_rfl)) (fun _ _ _ h => h) (Or.inl ⟨by rfl,?_⟩) ?_ ?_
      rotate_left;(· intro w';go_simp;with_reducible rfl);rotate_left;(· simp only [Act.put,sI,sZ,sS,i64_w,i32_w];rfl)
      refine pure_ (i:=5) (N:=some 22) (v:=?_) (a':=?_) #[bT,bT,bT,bF,bT,bT,bF,bF,bF,bF] rfl rfl (any_of HT_.out (by kernel_rfl)) (fun _ _ _ h => h) (Or.inl ⟨by rfl,?_⟩) ?_ ?_
      rotate_left;(· intro w';go_simp;with_reducible rfl);rotate_left;(· simp only [Act.put,sI,sZ,sS,i64_w,i32_w];rfl)
      refine pure_ (i:=6) (N:=some 23) (v:=?_) (a':=?_) #[bT,bT,bT,bF,bT,bT,bT,bF,bF,bF] rfl rfl (any_of HT_.out (by kernel_rfl)) (fun _ _ _ h => h) (Or.inl ⟨by rfl,?_⟩) ?_ ?_
      rotate_left;(· intro w';go_simp;with_reducible rfl);rotate_left;(· simp only [Act.put,sI,sZ,sS,i64_w,i32_w];rfl)
      refine take_ (i:=3) (N:=some 20) (v:=?_) (a':=?_) #[bT,bT,bT,bT,bT,bT,bT,bF,bF,bF] rfl rfl (take_ofW HT_.out HW_.out (by kernel_rfl)) (fun _ _ _ h => h) (Or.inl ⟨by rfl,?_⟩) hHeld ?_ ?_
      rotate_left
      ·rintro w' ⟨s0,s1,s2,s3,s4,s5,s6,s7⟩
       (try simp only [Int.toNat_natCast] at s0 s1 s2 s3 s4 s5 s6 s7)
       go_simp
       with_reducible rfl
      rotate_left
      ·simp only [Act.put,sI,sZ,sS,i64_w,i32_w]
       rfl
      refine take_ (i:=7) (N:=some 24) (v:=?_) (a':=?_) #[bT,bT,bT,bT,bT,bT,bT,bT,bF,bF] rfl rfl (take_ofW HT_.out HW_.out (by kernel_rfl)) (fun _ _ _ h => h) (Or.inl ⟨by rfl,?_⟩) hHeld ?_ ?_
      rotate_left
      ·rintro w' ⟨s0,s1,s2,s3,s4,s5,s6,s7⟩
       (try simp only [Int.toNat_natCast] at s0 s1 s2 s3 s4 s5 s6 s7)
       go_simp
       with_reducible rfl
      rotate_left
      ·simp only [Act.put,sI,sZ,sS,i64_w,i32_w]
       rfl
      refine one_ (i:=8) (N:=some 25) #[bT,bT,bT,bT,bT,bT,bT,bT,bT,bF] rfl rfl (one_of HT_.out (by kernel_rfl)) (by decide) (fun K hK => ?_)
      refine goes_ Try.func56 (by kernel_rfl) rfl #[.agg #[.int .i64 ((rd_T65 l0 x5_1).f0),.int .i64 ((rd_T65 l0 x5_1).f1.f0),.int .i64 ((rd_T65 l0 x5_1).f1.f1),.int .i64 ((rd_T65 l0 x5_1).f1.f2)],.agg #[.int .i64 ((rd_T65 l1 x5_1).f0),.int .i64 ((rd_T65 l1 x5_1).f1.f0),.int .i64 ((rd_T65 l1 x5_1).f1.f1),.int .i64 ((rd_T65 l1 x5_1).f1.f2)]] (by rfl) rfl rfl (by (try simp only [List.map_toArray,List.map_cons,List.map_nil]);first|done|rfl|(simp only [List.length_drop,List.length_take];rfl)) ?_
      with_reducible refine (laws_eqItem.calls ((rd_T65 l0 x5_1).f0) ((rd_T65 l0 x5_1).f1.f0) ((rd_T65 l0 x5_1).f1.f1) ((rd_T65 l0 x5_1).f1.f2) ((rd_T65 l1 x5_1).f0) ((rd_T65 l1 x5_1).f1.f0) ((rd_T65 l1 x5_1).f1.f1) ((rd_T65 l1 x5_1).f1.f2) true _ A7.out).mono ?_
      rintro e w10 ⟨rfl,hb⟩
      refine ⟨_,rfl,?_⟩
      have n0_:=aM (below_step (by repeat (first|(with_reducible first|exact HB.out|apply bA|apply bN|apply bD)|exact HB.out)) hb)
      clear HB
      have HB:=n0_
      clear n0_
      (try clear hb)
      (try clear hb2)
      (try clear hk)
      (try clear hi)
      refine hK.out _ _ ⟨((HB.out.cell (bL w hw113_0)).trans hw113_0),((HB.out.cell (bL w hw113_1)).trans hw113_1),((HB.out.cell (bL w hw113_2)).trans hw113_2),((HB.out.cell (bL w hw113_3)).trans hw113_3),((HB.out.cell (bL w hw114_0)).trans hw114_0),((HB.out.cell (bL w hw114_1)).trans hw114_1),((HB.out.cell (bL w hw114_2)).trans hw114_2),((HB.out.cell (bL w hw114_3)).trans hw114_3)⟩ (fun hHeld => ?_)
      clear hK K
      refine norm_ (a':=?_) ?_ ?_
      rotate_left
      ·show Act.put _ (some 25) _ = _
       simp only [Act.put,sI,sZ,sS,i64_w,i32_w]
       rfl
      refine pure_ (i:=9) (N:=some 26) (v:=?_) (a':=?_) #[bT,bT,bT,bT,bT,bT,bT,bT,bT,bT] rfl rfl (any_of HT_.out (by kernel_rfl)) (fun _ _ _ h => h) (Or.inl ⟨by rfl,?_⟩) ?_ ?_
      rotate_left;(· intro w';go_simp;with_reducible rfl);rotate_left;(· simp only [Act.put,sI,sZ,sS,i64_w,i32_w];rfl)
      refine done_ (done_of HT_.out (by kernel_rfl)) ?_
      try go_wp2
      go_roundg k1
      case measure => have:=HK1.out;omega
      case rel => exact ⟨(wrap64 (x5_1 + 1)),(by first|rfl|(simp;done)|(simp [*];done)),H',⟨by have:=HK1.out;omega⟩,⟨by repeat (first|(with_reducible first|exact HB.out|apply bA|apply bN|apply bD)|exact HB.out)⟩⟩
     ·replace c8:=Bool.eq_false_iff.mpr c8
      subst c8
      have H1 : (some false) = some r:=by rw [if_neg (show ¬ (false = true) by decide)] at H;exact H
      clear H
      have H:=H1
      clear H1
      obtain rfl:=Option.some.inj H
      try go_wp2
      have n0_:=aM (bD HB.out)
      clear HB
      have HB:=n0_
      clear n0_
      have p113 : 0 ≤ (x5_1 : Int):=of_decide_eq_true (by first|(with_reducible assumption)|assumption)
      have q113 : x5_1 < (l0.length : Int):=of_decide_eq_true (by first|(with_reducible assumption)|assumption)
      obtain ⟨ad113,e113,hx113_0,hx113_1,hx113_2,hx113_3⟩:=at_T65 HR0.out x5_1 p113 q113
      have hw113_3:=hx113_3
      have hw113_2:=hx113_2
      have hw113_1:=hx113_1
      have hw113_0:=hx113_0
      cases e113
      replace hx113_0:=(HB.out.cell (bL w hx113_0)).trans hx113_0
      replace hx113_1:=(HB.out.cell (bL w hx113_1)).trans hx113_1
      replace hx113_2:=(HB.out.cell (bL w hx113_2)).trans hx113_2
      replace hx113_3:=(HB.out.cell (bL w hx113_3)).trans hx113_3
      replace p113:=eq_true p113
      replace q113:=eq_true q113
      have p114 : 0 ≤ (x5_1 : Int):=of_decide_eq_true (by first|(with_reducible assumption)|assumption)
      have q114 : x5_1 < (l1.length : Int):=of_decide_eq_true (by first|(with_reducible assumption)|assumption)
      obtain ⟨ad114,e114,hx114_0,hx114_1,hx114_2,hx114_3⟩:=at_T65 HR1.out x5_1 p114 q114
      have hw114_3:=hx114_3
      have hw114_2:=hx114_2
      have hw114_1:=hx114_1
      have hw114_0:=hx114_0
      cases e114
      replace hx114_0:=(HB.out.cell (bL w hx114_0)).trans hx114_0
      replace hx114_1:=(HB.out.cell (bL w hx114_1)).trans hx114_1
      replace hx114_2:=(HB.out.cell (bL w hx114_2)).trans hx114_2
      replace hx114_3:=(HB.out.cell (bL w hx114_3)).trans hx114_3
      replace p114:=eq_true p114
      replace q114:=eq_true q114
      refine start_ (n:=10) (S:=fun w' => w'.cell? (ad113.add ((x5_1).toNat * 4)) = some (.int .i64 ((rd_T65 l0 x5_1).f0)) ∧ w'.cell? ⟨(ad113.add ((x5_1).toNat * 4)).block,(ad113.add ((x5_1).toNat * 4)).off + 1,none⟩ = some (.int .i64 ((rd_T65 l0 x5_1).f1.f0)) ∧ w'.cell? ⟨(ad113.add ((x5_1).toNat * 4)).block,(ad113.add ((x5_1).toNat * 4)).off + 2,none⟩ = some (.int .i64 ((rd_T65 l0 x5_1).f1.f1)) ∧ w'.cell? ⟨(ad113.add ((x5_1).toNat * 4)).block,(ad113.add ((x5_1).toNat * 4)).off + 3,none⟩ = some (.int .i64 ((rd_T65 l0 x5_1).f1.f2)) ∧ w'.cell? (ad114.add ((x5_1).toNat * 4)) = some (.int .i64 ((rd_T65 l1 x5_1).f0)) ∧ w'.cell? ⟨(ad114.add ((x5_1).toNat * 4)).block,(ad114.add ((x5_1).toNat * 4)).off + 1,none⟩ = some (.int .i64 ((rd_T65 l1 x5_1).f1.f0)) ∧ w'.cell? ⟨(ad114.add ((x5_1).toNat * 4)).block,(ad114.add ((x5_1).toNat * 4)).off + 2,none⟩ = some (.int .i64 ((rd_T65 l1 x5_1).f1.f1)) ∧ w'.cell? ⟨(ad114.add ((x5_1).toNat * 4)).block,(ad114.add ((x5_1).toNat * 4)).off + 3,none⟩ = some (.int .i64 ((rd_T65 l1 x5_1).f1.f2))) (ds:=[]) #[bF,bF,bF,bF,bF,bF,bF,bF,bF,bF] (by kernel_rfl) rfl rfl ⟨((HB.out.cell (bL w hw113_0)).trans hw113_0),((HB.out.cell (bL w hw113_1)).trans hw113_1),((HB.out.cell (bL w hw113_2)).trans hw113_2),((HB.out.cell (bL w hw113_3)).trans hw113_3),((HB.out.cell (bL w hw114_0)).trans hw114_0),((HB.out.cell (bL w hw114_1)).trans hw114_1),((HB.out.cell (bL w hw114_2)).trans hw114_2),((HB.out.cell (bL w hw114_3)).trans hw114_3)⟩ (fun hHeld => ?_);refine with_tabW laws_eqItemS.tab6 laws_eqItemS.bits6 (fun HT_ HW_ => ?_)
      generalize wr.drew = w11 at HB hx113_0 hx113_1 hx113_2 hx113_3 hx114_0 hx114_1 hx114_2 hx114_3 hHeld ⊢
      refine pure_ (i:=0) (N:=some 17) (v:=?_) (a':=?_) #[bT,bF,bF,bF,bF,bF,bF,bF,bF,bF] rfl rfl (any_of HT_.out (by kernel_rfl)) (fun _ _ _ h => h) (Or.inl ⟨by rfl,?_⟩) ?_ ?_
      rotate_left;(· intro w';go_simp;with_reducible rfl);rotate_left;(· simp only [Act.put,sI,sZ,sS,i64_w,i32_w];rfl)
      refine pure_ (i:=1) (N:=some 18) (v:=?_) (a':=?_) #[bT,bT,bF,bF,bF,bF,bF,bF,bF,bF] rfl rfl (any_of HT_.out (by kernel_rfl)) (fun _ _ _ h => h) (Or.inl ⟨by rfl,?_⟩) ?_ ?_
      rotate_left;(· intro w';go_simp;with_reducible rfl);rotate_left;(· simp only [Act.put,sI,sZ,sS,i64_w,i32_w];rfl)
      refine pure_ (i:=2) (N:=some 19) (v:=?_) (a':=?_) #[bT,bT,bT,bF,bF,bF,bF,bF,bF,bF] rfl rfl (any_of HT_.out (by kernel_rfl)) (fun _ _ _ h => h) (Or.inl ⟨by rfl,?_⟩) ?_ ?_
      rotate_left;(· intro w';go_simp;with_reducible rfl);rotate_left;(· simp only [Act.put,sI,sZ,sS,i64_w,i32_w];rfl)
      refine pure_ (i:=4) (N:=some 21) (v:=?_) (a':=?_) #[bT,bT,bT,bF,bT,bF,bF,bF,bF,bF] rfl rfl (any_of HT_.out (by kernel_rfl)) (fun _ _ _ h => h) (Or.inl ⟨by rfl,?_⟩) ?_ ?_
      rotate_left;(· intro w';go_simp;with_reducible rfl);rotate_left;(· simp only [Act.put,sI,sZ,sS,i64_w,i32_w];rfl)
      refine pure_ (i:=5) (N:=some 22) (v:=?_) (a':=?_) #[bT,bT,bT,bF,bT,bT,bF,bF,bF,bF] rfl rfl (any_of HT_.out (by kernel_rfl)) (fun _ _ _ h => h) (Or.inl ⟨by rfl,?_⟩) ?_ ?_
      rotate_left;(· intro w';go_simp;with_reducible rfl);rotate_left;(· simp only [Act.put,sI,sZ,sS,i64_w,i32_w];rfl)
      refine pure_ (i:=6) (N:=some 23) (v:=?_) (a':=?_) #[bT,bT,bT,bF,bT,bT,bT,bF,bF,bF] rfl rfl (any_of HT_.out (by kernel_rfl)) (fun _ _ _ h => h) (Or.inl ⟨by rfl,?_⟩) ?_ ?_
      rotate_left;(· intro w';go_simp;with_reducible rfl);rotate_left;(· simp only [Act.put,sI,sZ,sS,i64_w,i32_w];rfl)
      refine take_ (i:=3) (N:=some 20) (v:=?_) (a':=?_) #[bT,bT,bT,bT,bT,bT,bT,bF,bF,bF] rfl rfl (take_ofW HT_.out HW_.out (by kernel_rfl)) (fun _ _ _ h => h) (Or.inl ⟨by rfl,?_⟩) hHeld ?_ ?_
      rotate_left
      ·rintro w' ⟨s0,s1,s2,s3,s4,s5,s6,s7⟩
       (try simp only [Int.toNat_natCast] at s0 s1 s2 s3 s4 s5 s6 s7)
       go_simp
       with_reducible rfl
      rotate_left
      ·simp only [Act.put,sI,sZ,sS,i64_w,i32_w]
       rfl
      refine take_ (i:=7) (N:=some 24) (v:=?_) (a':=?_) #[bT,bT,bT,bT,bT,bT,bT,bT,bF,bF] rfl rfl (take_ofW HT_.out HW_.out (by kernel_rfl)) (fun _ _ _ h => h) (Or.inl ⟨by rfl,?_⟩) hHeld ?_ ?_
      rotate_left
      ·rintro w' ⟨s0,s1,s2,s3,s4,s5,s6,s7⟩
       (try simp only [Int.toNat_natCast] at s0 s1 s2 s3 s4 s5 s6 s7)
       go_simp
       with_reducible rfl
      rotate_left
      ·simp only [Act.put,sI,sZ,sS,i64_w,i32_w]
       rfl
      refine one_ (i:=8) (N:=some 25) #[bT,bT,bT,bT,bT,bT,bT,bT,bT,bF] rfl rfl (one_of HT_.out (by kernel_rfl)) (by decide) (fun K hK => ?_)
      refine goes_ Try.func56 (by kernel_rfl) rfl #[.agg #[.int .i64 ((rd_T65 l0 x5_1).f0),.int .i64 ((rd_T65 l0 x5_1).f1.f0),.int .i64 ((rd_T65 l0 x5_1).f1.f1),.int .i64 ((rd_T65 l0 x5_1).f1.f2)],.agg #[.int .i64 ((rd_T65 l1 x5_1).f0),.int .i64 ((rd_T65 l1 x5_1).f1.f0),.int .i64 ((rd_T65 l1 x5_1).f1.f1),.int .i64 ((rd_T65 l1 x5_1).f1.f2)]] (by rfl) rfl rfl (by (try simp only [List.map_toArray,List.map_cons,List.map_nil]);first|done|rfl|(simp only [List.length_drop,List.length_take];rfl)) ?_
      with_reducible refine (laws_eqItem.calls ((rd_T65 l0 x5_1).f0) ((rd_T65 l0 x5_1).f1.f0) ((rd_T65 l0 x5_1).f1.f1) ((rd_T65 l0 x5_1).f1.f2) ((rd_T65 l1 x5_1).f0) ((rd_T65 l1 x5_1).f1.f0) ((rd_T65 l1 x5_1).f1.f1) ((rd_T65 l1 x5_1).f1.f2) false _ A7.out).mono ?_
      rintro e w12 ⟨rfl,hb⟩
      refine ⟨_,rfl,?_⟩
      have n0_:=aM (below_step (by repeat (first|(with_reducible first|exact HB.out|apply bA|apply bN|apply bD)|exact HB.out)) hb)
      clear HB
      have HB:=n0_
      clear n0_
      (try clear hb)
      (try clear hb2)
      (try clear hk)
      (try clear hi)
      refine hK.out _ _ ⟨((HB.out.cell (bL w hw113_0)).trans hw113_0),((HB.out.cell (bL w hw113_1)).trans hw113_1),((HB.out.cell (bL w hw113_2)).trans hw113_2),((HB.out.cell (bL w hw113_3)).trans hw113_3),((HB.out.cell (bL w hw114_0)).trans hw114_0),((HB.out.cell (bL w hw114_1)).trans hw114_1),((HB.out.cell (bL w hw114_2)).trans hw114_2),((HB.out.cell (bL w hw114_3)).trans hw114_3)⟩ (fun hHeld => ?_)
      clear hK K
      refine norm_ (a':=?_) ?_ ?_
      rotate_left
      ·show Act.put _ (some 25) _ = _
       simp only [Act.put,sI,sZ,sS,i64_w,i32_w]
       rfl
      refine pure_ (i:=9) (N:=some 26) (v:=?_) (a':=?_) #[bT,bT,bT,bT,bT,bT,bT,bT,bT,bT] rfl rfl (any_of HT_.out (by kernel_rfl)) (fun _ _ _ h => h) (Or.inl ⟨by rfl,?_⟩) ?_ ?_
      rotate_left;(· intro w';go_simp;with_reducible rfl);rotate_left;(· simp only [Act.put,sI,sZ,sS,i64_w,i32_w];rfl)
      refine done_ (done_of HT_.out (by kernel_rfl)) ?_
      try go_wp2
      go_ret
      exact ⟨by first|rfl|(simp only [i64_w,i32_w];done)|(simp only [i64_w,i32_w];rfl)|(simp [errW_none,errW_some] <;> rfl)|(simp [*,errW_none,errW_some] <;> rfl),by repeat (first|(with_reducible first|exact HB.out|apply bA|apply bN|apply bD)|exact HB.out)⟩
    ·rw [if_neg c4] at H
     have c4b0 : decide (x5_1 < (l0.length : Int)) = false:=decide_eq_false c4
     clear c4
     obtain rfl:=Option.some.inj H
     go_wp2
     go_ret
     exact ⟨by first|rfl|(simp only [i64_w,i32_w];done)|(simp only [i64_w,i32_w];rfl)|(simp [errW_none,errW_some] <;> rfl)|(simp [*,errW_none,errW_some] <;> rfl),by repeat (first|(with_reducible first|exact HB.out|apply bA|apply bN|apply bD)|exact HB.out)⟩
 ·rw [if_neg c3] at H
  have c3b0 : ((l0.length : Int) == (l1.length : Int)) = false:=beq_eq_false_iff_ne.mpr c3
  have c3b1 : ((l0.length : Int) != (l1.length : Int)) = true:=bne_iff_ne.mpr c3
  have c3b2 : (l0.length == l1.length) = false:=by first|simpa using c3|(simp at c3 ⊢;omega)
  obtain rfl:=Option.some.inj H
  go_enter Try.func40,Try.ntmps40
  go_wp2
  go_ret
  exact ⟨by first|rfl|(simp only [i64_w,i32_w];done)|(simp only [i64_w,i32_w];rfl)|(simp [errW_none,errW_some] <;> rfl)|(simp [*,errW_none,errW_some] <;> rfl),by repeat (first|(with_reducible first|exact HB.out|apply bA|apply bN|apply bD)|exact HB.out)⟩

/-! ### laws_eqVote: function 15 -/
def laws_eqVote.f (k : Nat) (a0_0 : Int) (l0_1 : List (S65)) (a1_0 : Int) (l1_1 : List (S65)) : Option (Bool):=if a0_0 = a1_0 then ((laws_eqItemS.f k l0_1 l1_1).bind fun t118 => (if t118 = true then (some true) else (some false))) else (some false)
theorem laws_eqVote.mono : ∀ a0 a1 a2 a3 k,LeO (laws_eqVote.f k a0 a1 a2 a3) (laws_eqVote.f (k + 1) a0 a1 a2 a3):=by
 intro a0 a1 a2 a3 k
 unfold laws_eqVote.f
 repeat' first
   | exact LeO.refl _
   | exact laws_eqItemS.mono _ _ _
   | exact LeO.none _
   | refine LeO.ite ?_ ?_
   | refine LeO.bind ?_ (fun _ => ?_)
set_option maxHeartbeats 8000000 in
set_option maxRecDepth 100000 in
theorem laws_eqVote.calls (k : Nat) (a0_0 : Int) (A0_1 : Option Addr) (c0_1 : Nat) (l0_1 : List (S65)) (a1_0 : Int) (A1_1 : Option Addr) (c1_1 : Nat) (l1_1 : List (S65)) (r : Bool) (w : World) (hr0_1 : Kd.C k65 w A0_1 l0_1.length l0_1) (hc0_1 : l0_1.length ≤ c0_1) (hr1_1 : Kd.C k65 w A1_1 l1_1.length l1_1) (hc1_1 : l1_1.length ≤ c1_1) (h : laws_eqVote.f k a0_0 l0_1 a1_0 l1_1 = some r) :
  Calls Try.prog 15 #[.agg #[.int .i64 a0_0,.slice A0_1 l0_1.length c0_1],.agg #[.int .i64 a1_0,.slice A1_1 l1_1.length c1_1]] w fun e w' => e = .returned (.bool r) ∧ Below w.heap.size w w':=by
 have hu25:=Try.underlying25
 have HR0_1:=aM hr0_1
 have HC0_1:=aM hc0_1
 clear hr0_1 hc0_1
 have HR1_1:=aM hr1_1
 have HC1_1:=aM hc1_1
 clear hr1_1 hc1_1
 have HB:=aM (Below.refl w.heap.size w)
 have H : (if a0_0 = a1_0 then ((laws_eqItemS.f k l0_1 l1_1).bind fun t118 => (if t118 = true then (some true) else (some false))) else (some false)) = some r:=h
 clear h
 by_cases c3 : a0_0 = a1_0
 ·rw [if_pos c3] at H
  have c3b0 : (a0_0 == a1_0) = true:=beq_iff_eq.mpr c3
  have c3b1 : (a0_0 != a1_0) = false:=bne_eq_false_iff_eq.mpr c3
  clear c3
  replace H:=Option.bind_eq_some_iff.mp H
  obtain ⟨t118,A40,H⟩:=H
  replace H : (if t118 = true then (some true) else (some false)) = some r:=H
  have A4:=aM A40
  clear A40
  by_cases c5 : t118 = true
  ·subst c5
   have H1 : (some true) = some r:=by rw [if_pos rfl] at H;exact H
   clear H
   have H:=H1
   clear H1
   obtain rfl:=Option.some.inj H
   go_enter Try.func15,Try.ntmps15
   go_wp2_with (first|((with_reducible refine gate_dst (N:=2) rfl ?_);refine box_event ?hg (N:=2) ?hd (cs:=#[.int .i64 a0_0,.slice A0_1 l0_1.length c0_1]) (t:=25) ?hr ?_;(case hd => rfl);(case hg => rfl);(case hr => first|(go_simp;done)|(go_simp;rfl));intro gb116 hg w6 hbox hb;have n0_:=aM (below_step (by repeat (first|(with_reducible first|exact HB.out|apply bA|apply bN|apply bD)|exact HB.out)) hb);have n1_:=aM (hbox);have n2_:=aM ((by rw [hg];exact (below_size (by repeat (first|(with_reducible first|exact HB.out|apply bA|apply bN|apply bD)|exact HB.out))) : w.heap.size ≤ gb116));have n3_:=aM ((by rw [hg];exact (below_size (by repeat (first|(with_reducible first|exact HB.out|apply bA|apply bN|apply bD)|exact HB.out))) : w.heap.size ≤ gb116));clear HB;have HB:=n0_;have BK116:=n1_;have GW116:=n2_;have GE116:=n3_;clear n0_ n1_ n2_ n3_;clear hb hbox hg)|((with_reducible refine gate_dst (N:=3) rfl ?_);refine box_event ?hg (N:=3) ?hd (cs:=#[.int .i64 a1_0,.slice A1_1 l1_1.length c1_1]) (t:=25) ?hr ?_;(case hd => rfl);(case hg => rfl);(case hr => first|(go_simp;done)|(go_simp;rfl));intro gb117 hg w7 hbox hb;have n0_:=aM (blk_below (g:=gb116) (o:=.cells #[.int .i64 a0_0,.slice A0_1 l0_1.length c0_1] 25 (0,0)) (by (with_reducible repeat (first|refine blk_drewN ?_ _|refine blk_drew ?_|refine blk_alloc ?_ _));exact BK116.out) hb);have n1_:=aM (below_step (by repeat (first|(with_reducible first|exact HB.out|apply bA|apply bN|apply bD|refine below_set ?_ GE116.out)|exact HB.out)) hb);have n2_:=aM (hbox);have n3_:=aM ((by rw [hg];exact (below_size (by repeat (first|(with_reducible first|exact HB.out|apply bA|apply bN|apply bD|refine below_set ?_ GE116.out)|exact HB.out))) : w.heap.size ≤ gb117));have n4_:=aM ((by rw [hg];exact (below_size (by repeat (first|(with_reducible first|exact HB.out|apply bA|apply bN|apply bD|refine below_set ?_ GE116.out)|exact HB.out))) : w.heap.size ≤ gb117));have n5_:=aM ((by rw [hg];exact Nat.ne_of_lt (blk_lt (g:=gb116) (o:=.cells #[.int .i64 a0_0,.slice A0_1 l0_1.length c0_1] 25 (0,0)) (by (with_reducible repeat (first|refine blk_drewN ?_ _|refine blk_drew ?_|refine blk_alloc ?_ _));exact BK116.out)) : gb116 ≠ gb117));have n6_:=aM ((by rw [hg];exact Nat.ne_of_gt (blk_lt (g:=gb116) (o:=.cells #[.int .i64 a0_0,.slice A0_1 l0_1.length c0_1] 25 (0,0)) (by (with_reducible repeat (first|refine blk_drewN ?_ _|refine blk_drew ?_|refine blk_alloc ?_ _));exact BK116.out)) : gb117 ≠ gb116));clear BK116;clear HB;have BK116:=n0_;have HB:=n1_;have BK117:=n2_;have GW117:=n3_;have GE117:=n4_;have NB116_117:=n5_;have NB117_116:=n6_;clear n0_ n1_ n2_ n3_ n4_ n5_ n6_;clear hb hbox hg;have hnb8:=NB116_117.out;have hnc8:=NB117_116.out;have hcz9_0 : w7.cell? ⟨gb116,0,none⟩ = some (.int .i64 a0_0):=(blk_cell BK116.out 0).trans rfl;have hcz9_1 : w7.cell? ⟨gb116,1,none⟩ = some (.slice A0_1 l0_1.length c0_1):=(blk_cell BK116.out 1).trans rfl;have hfz9_0:=blk_frozen BK116.out 0;have hfz9_1:=blk_frozen BK116.out 1;have hcz10_0 : w7.cell? ⟨gb117,0,none⟩ = some (.int .i64 a1_0):=(blk_cell BK117.out 0).trans rfl;have hcz10_1 : w7.cell? ⟨gb117,1,none⟩ = some (.slice A1_1 l1_1.length c1_1):=(blk_cell BK117.out 1).trans rfl;have hfz10_0:=blk_frozen BK117.out 0;have hfz10_1:=blk_frozen BK117.out 1)|((with_reducible refine gate_callee (f:=40) rfl ?_);refine goesL_ (some 14) rfl rfl Try.func40 (by kernel_rfl) rfl #[.slice A0_1 l0_1.length c0_1,.slice A1_1 l1_1.length c1_1] rfl (by (try simp only [List.map_toArray,List.map_cons,List.map_nil]);first|done|rfl|(simp only [List.length_drop,List.length_take];rfl)) ?_;(with_reducible refine (laws_eqItemS.calls k _ _ l0_1 _ _ l1_1 true _ ?side1 ?side2 ?side3 ?side4 A4.out).mono ?_);(case side1 => repeat (first|exact (Kd.C_below HR0_1.out HB.out)|(with_reducible refine Kd.C_alloc ?_ _)|(with_reducible refine Kd.C_drewN ?_ _)|(with_reducible refine Kd.C_drew ?_)));(case side2 => exact HC0_1.out);(case side3 => repeat (first|exact (Kd.C_below HR1_1.out HB.out)|(with_reducible refine Kd.C_alloc ?_ _)|(with_reducible refine Kd.C_drewN ?_ _)|(with_reducible refine Kd.C_drew ?_)));(case side4 => exact HC1_1.out);rintro e w11 ⟨rfl,hb⟩;refine ⟨_,rfl,?_⟩;have n0_:=aM (blk_below (g:=gb116) (o:=.cells #[.int .i64 a0_0,.slice A0_1 l0_1.length c0_1] 25 (0,0)) (by (with_reducible repeat (first|refine blk_drewN ?_ _|refine blk_drew ?_|refine blk_alloc ?_ _));exact BK116.out) hb);have n1_:=aM (blk_below (g:=gb117) (o:=.cells #[.int .i64 a1_0,.slice A1_1 l1_1.length c1_1] 25 (0,0)) (by (with_reducible repeat (first|refine blk_drewN ?_ _|refine blk_drew ?_|refine blk_alloc ?_ _));exact BK117.out) hb);have n2_:=aM (below_step (by repeat (first|(with_reducible first|exact HB.out|apply bA|apply bN|apply bD|refine below_set ?_ GE116.out|refine below_set ?_ GE117.out)|exact HB.out)) hb);clear BK116;clear BK117;clear HB;have BK116:=n0_;have BK117:=n1_;have HB:=n2_;clear n0_ n1_ n2_;(try clear hb);(try clear hb2);(try clear hk);(try clear hi)))
   go_ret
   exact ⟨by first|rfl|(simp only [i64_w,i32_w];done)|(simp only [i64_w,i32_w];rfl)|(simp [errW_none,errW_some] <;> rfl)|(simp [*,errW_none,errW_some] <;> rfl),by repeat (first|(with_reducible first|exact HB.out|apply bA|apply bN|apply bD|refine below_set ?_ GE116.out|refine below_set ?_ GE117.out)|exact HB.out)⟩
  ·replace c5:=Bool.eq_false_iff.mpr c5
   subst c5
   have H1 : (some false) = some r:=by rw [if_neg (show ¬ (false = true) by decide)] at H;exact H
   clear H
   have H:=H1
   clear H1
   obtain rfl:=Option.some.inj H
   go_enter Try.func15,Try.ntmps15
   go_wp2_with (first|((with_reducible refine gate_dst (N:=2) rfl ?_);refine box_event ?hg (N:=2) ?hd (cs:=#[.int .i64 a0_0,.slice A0_1 l0_1.length c0_1]) (t:=25) ?hr ?_;(case hd => rfl);(case hg => rfl);(case hr => first|(go_simp;done)|(go_simp;rfl));intro gb116 hg w12 hbox hb;have n0_:=aM (below_step (by repeat (first|(with_reducible first|exact HB.out|apply bA|apply bN|apply bD)|exact HB.out)) hb);have n1_:=aM (hbox);have n2_:=aM ((by rw [hg];exact (below_size (by repeat (first|(with_reducible first|exact HB.out|apply bA|apply bN|apply bD)|exact HB.out))) : w.heap.size ≤ gb116));have n3_:=aM ((by rw [hg];exact (below_size (by repeat (first|(with_reducible first|exact HB.out|apply bA|apply bN|apply bD)|exact HB.out))) : w.heap.size ≤ gb116));clear HB;have HB:=n0_;have BK116:=n1_;have GW116:=n2_;have GE116:=n3_;clear n0_ n1_ n2_ n3_;clear hb hbox hg)|((with_reducible refine gate_dst (N:=3) rfl ?_);refine box_event ?hg (N:=3) ?hd (cs:=#[.int .i64 a1_0,.slice A1_1 l1_1.length c1_1]) (t:=25) ?hr ?_;(case hd => rfl);(case hg => rfl);(case hr => first|(go_simp;done)|(go_simp;rfl));intro gb117 hg w13 hbox hb;have n0_:=aM (blk_below (g:=gb116) (o:=.cells #[.int .i64 a0_0,.slice A0_1 l0_1.length c0_1] 25 (0,0)) (by (with_reducible repeat (first|refine blk_drewN ?_ _|refine blk_drew ?_|refine blk_alloc ?_ _));exact BK116.out) hb);have n1_:=aM (below_step (by repeat (first|(with_reducible first|exact HB.out|apply bA|apply bN|apply bD|refine below_set ?_ GE116.out)|exact HB.out)) hb);have n2_:=aM (hbox);have n3_:=aM ((by rw [hg];exact (below_size (by repeat (first|(with_reducible first|exact HB.out|apply bA|apply bN|apply bD|refine below_set ?_ GE116.out)|exact HB.out))) : w.heap.size ≤ gb117));have n4_:=aM ((by rw [hg];exact (below_size (by repeat (first|(with_reducible first|exact HB.out|apply bA|apply bN|apply bD|refine below_set ?_ GE116.out)|exact HB.out))) : w.heap.size ≤ gb117));have n5_:=aM ((by rw [hg];exact Nat.ne_of_lt (blk_lt (g:=gb116) (o:=.cells #[.int .i64 a0_0,.slice A0_1 l0_1.length c0_1] 25 (0,0)) (by (with_reducible repeat (first|refine blk_drewN ?_ _|refine blk_drew ?_|refine blk_alloc ?_ _));exact BK116.out)) : gb116 ≠ gb117));have n6_:=aM ((by rw [hg];exact Nat.ne_of_gt (blk_lt (g:=gb116) (o:=.cells #[.int .i64 a0_0,.slice A0_1 l0_1.length c0_1] 25 (0,0)) (by (with_reducible repeat (first|refine blk_drewN ?_ _|refine blk_drew ?_|refine blk_alloc ?_ _));exact BK116.out)) : gb117 ≠ gb116));clear BK116;clear HB;have BK116:=n0_;have HB:=n1_;have BK117:=n2_;have GW117:=n3_;have GE117:=n4_;have NB116_117:=n5_;have NB117_116:=n6_;clear n0_ n1_ n2_ n3_ n4_ n5_ n6_;clear hb hbox hg;have hnb14:=NB116_117.out;have hnc14:=NB117_116.out;have hcz15_0 : w13.cell? ⟨gb116,0,none⟩ = some (.int .i64 a0_0):=(blk_cell BK116.out 0).trans rfl;have hcz15_1 : w13.cell? ⟨gb116,1,none⟩ = some (.slice A0_1 l0_1.length c0_1):=(blk_cell BK116.out 1).trans rfl;have hfz15_0:=blk_frozen BK116.out 0;have hfz15_1:=blk_frozen BK116.out 1;have hcz16_0 : w13.cell? ⟨gb117,0,none⟩ = some (.int .i64 a1_0):=(blk_cell BK117.out 0).trans rfl;have hcz16_1 : w13.cell? ⟨gb117,1,none⟩ = some (.slice A1_1 l1_1.length c1_1):=(blk_cell BK117.out 1).trans rfl;have hfz16_0:=blk_frozen BK117.out 0;have hfz16_1:=blk_frozen BK117.out 1)|((with_reducible refine gate_callee (f:=40) rfl ?_);refine goesL_ (some 14) rfl rfl Try.func40 (by kernel_rfl) rfl #[.slice A0_1 l0_1.length c0_1,.slice A1_1 l1_1.length c1_1] rfl (by (try simp only [List.map_toArray,List.map_cons,List.map_nil]);first|done|rfl|(simp only [List.length_drop,List.length_take];rfl)) ?_;(with_reducible refine (laws_eqItemS.calls k _ _ l0_1 _ _ l1_1 false _ ?side1 ?side2 ?side3 ?side4 A4.out).mono ?_);(case side1 => repeat (first|exact (Kd.C_below HR0_1.out HB.out)|(with_reducible refine Kd.C_alloc ?_ _)|(with_reducible refine Kd.C_drewN ?_ _)|(with_reducible refine Kd.C_drew ?_)));(case side2 => exact HC0_1.out);(case side3 => repeat (first|exact (Kd.C_below HR1_1.out HB.out)|(with_reducible refine Kd.C_alloc ?_ _)|(with_reducible refine Kd.C_drewN ?_ _)|(with_reducible refine Kd.C_drew ?_)));(case side4 => exact HC1_1.out);rintro e w17 ⟨rfl,hb⟩;refine ⟨_,rfl,?_⟩;have n0_:=aM (blk_below (g:=gb116) (o:=.cells #[.int .i64 a0_0,.slice A0_1 l0_1.length c0_1] 25 (0,0)) (by (with_reducible repeat (first|refine blk_drewN ?_ _|refine blk_drew ?_|refine blk_alloc ?_ _));exact BK116.out) hb);have n1_:=aM (blk_below (g:=gb117) (o:=.cells #[.int .i64 a1_0,.slice A1_1 l1_1.length c1_1] 25 (0,0)) (by (with_reducible repeat (first|refine blk_drewN ?_ _|refine blk_drew ?_|refine blk_alloc ?_ _));exact BK117.out) hb);have n2_:=aM (below_step (by repeat (first|(with_reducible first|exact HB.out|apply bA|apply bN|apply bD|refine below_set ?_ GE116.out|refine below_set ?_ GE117.out)|exact HB.out)) hb);clear BK116;clear BK117;clear HB;have BK116:=n0_;have BK117:=n1_;have HB:=n2_;clear n0_ n1_ n2_;(try clear hb);(try clear hb2);(try clear hk);(try clear hi)))
   go_ret
   exact ⟨by first|rfl|(simp only [i64_w,i32_w];done)|(simp only [i64_w,i32_w];rfl)|(simp [errW_none,errW_some] <;> rfl)|(simp [*,errW_none,errW_some] <;> rfl),by repeat (first|(with_reducible first|exact HB.out|apply bA|apply bN|apply bD|refine below_set ?_ GE116.out|refine below_set ?_ GE117.out)|exact HB.out)⟩
 ·rw [if_neg c3] at H
  have c3b0 : (a0_0 == a1_0) = false:=beq_eq_false_iff_ne.mpr c3
  have c3b1 : (a0_0 != a1_0) = true:=bne_iff_ne.mpr c3
  obtain rfl:=Option.some.inj H
  go_enter Try.func15,Try.ntmps15
  go_wp2_with (first|((with_reducible refine gate_dst (N:=2) rfl ?_);refine box_event ?hg (N:=2) ?hd (cs:=#[.int .i64 a0_0,.slice A0_1 l0_1.length c0_1]) (t:=25) ?hr ?_;(case hd => rfl);(case hg => rfl);(case hr => first|(go_simp;done)|(go_simp;rfl));intro gb116 hg w18 hbox hb;have n0_:=aM (below_step (by repeat (first|(with_reducible first|exact HB.out|apply bA|apply bN|apply bD)|exact HB.out)) hb);have n1_:=aM (hbox);have n2_:=aM ((by rw [hg];exact (below_size (by repeat (first|(with_reducible first|exact HB.out|apply bA|apply bN|apply bD)|exact HB.out))) : w.heap.size ≤ gb116));have n3_:=aM ((by rw [hg];exact (below_size (by repeat (first|(with_reducible first|exact HB.out|apply bA|apply bN|apply bD)|exact HB.out))) : w.heap.size ≤ gb116));clear HB;have HB:=n0_;have BK116:=n1_;have GW116:=n2_;have GE116:=n3_;clear n0_ n1_ n2_ n3_;clear hb hbox hg)|((with_reducible refine gate_dst (N:=3) rfl ?_);refine box_event ?hg (N:=3) ?hd (cs:=#[.int .i64 a1_0,.slice A1_1 l1_1.length c1_1]) (t:=25) ?hr ?_;(case hd => rfl);(case hg => rfl);(case hr => first|(go_simp;done)|(go_simp;rfl));intro gb117 hg w19 hbox hb;have n0_:=aM (blk_below (g:=gb116) (o:=.cells #[.int .i64 a0_0,.slice A0_1 l0_1.length c0_1] 25 (0,0)) (by (with_reducible repeat (first|refine blk_drewN ?_ _|refine blk_drew ?_|refine blk_alloc ?_ _));exact BK116.out) hb);have n1_:=aM (below_step (by repeat (first|(with_reducible first|exact HB.out|apply bA|apply bN|apply bD|refine below_set ?_ GE116.out)|exact HB.out)) hb);have n2_:=aM (hbox);have n3_:=aM ((by rw [hg];exact (below_size (by repeat (first|(with_reducible first|exact HB.out|apply bA|apply bN|apply bD|refine below_set ?_ GE116.out)|exact HB.out))) : w.heap.size ≤ gb117));have n4_:=aM ((by rw [hg];exact (below_size (by repeat (first|(with_reducible first|exact HB.out|apply bA|apply bN|apply bD|refine below_set ?_ GE116.out)|exact HB.out))) : w.heap.size ≤ gb117));have n5_:=aM ((by rw [hg];exact Nat.ne_of_lt (blk_lt (g:=gb116) (o:=.cells #[.int .i64 a0_0,.slice A0_1 l0_1.length c0_1] 25 (0,0)) (by (with_reducible repeat (first|refine blk_drewN ?_ _|refine blk_drew ?_|refine blk_alloc ?_ _));exact BK116.out)) : gb116 ≠ gb117));have n6_:=aM ((by rw [hg];exact Nat.ne_of_gt (blk_lt (g:=gb116) (o:=.cells #[.int .i64 a0_0,.slice A0_1 l0_1.length c0_1] 25 (0,0)) (by (with_reducible repeat (first|refine blk_drewN ?_ _|refine blk_drew ?_|refine blk_alloc ?_ _));exact BK116.out)) : gb117 ≠ gb116));clear BK116;clear HB;have BK116:=n0_;have HB:=n1_;have BK117:=n2_;have GW117:=n3_;have GE117:=n4_;have NB116_117:=n5_;have NB117_116:=n6_;clear n0_ n1_ n2_ n3_ n4_ n5_ n6_;clear hb hbox hg;have hnb20:=NB116_117.out;have hnc20:=NB117_116.out;have hcz21_0 : w19.cell? ⟨gb116,0,none⟩ = some (.int .i64 a0_0):=(blk_cell BK116.out 0).trans rfl;have hcz21_1 : w19.cell? ⟨gb116,1,none⟩ = some (.slice A0_1 l0_1.length c0_1):=(blk_cell BK116.out 1).trans rfl;have hfz21_0:=blk_frozen BK116.out 0;have hfz21_1:=blk_frozen BK116.out 1;have hcz22_0 : w19.cell? ⟨gb117,0,none⟩ = some (.int .i64 a1_0):=(blk_cell BK117.out 0).trans rfl;have hcz22_1 : w19.cell? ⟨gb117,1,none⟩ = some (.slice A1_1 l1_1.length c1_1):=(blk_cell BK117.out 1).trans rfl;have hfz22_0:=blk_frozen BK117.out 0;have hfz22_1:=blk_frozen BK117.out 1))
  go_ret
  exact ⟨by first|rfl|(simp only [i64_w,i32_w];done)|(simp only [i64_w,i32_w];rfl)|(simp [errW_none,errW_some] <;> rfl)|(simp [*,errW_none,errW_some] <;> rfl),by repeat (first|(with_reducible first|exact HB.out|apply bA|apply bN|apply bD|refine below_set ?_ GE116.out|refine below_set ?_ GE117.out)|exact HB.out)⟩

end Go.Proofs.Ytaccamnoacdiiaa.P
