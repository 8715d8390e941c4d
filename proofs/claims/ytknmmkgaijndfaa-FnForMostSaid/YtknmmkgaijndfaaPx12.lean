/- The printed functions: what each Go function computes, as a Lean function, and that the Go code comes to just that. Conditions: none beyond each contract's own. -/
import Derived.Test.YtknmmkgaijndfaaPx0
import Derived.Test.YtknmmkgaijndfaaPx1
import Derived.Test.YtknmmkgaijndfaaPx4
import Derived.Test.YtknmmkgaijndfaaPx5
import Derived.Test.YtknmmkgaijndfaaPx8
import Derived.Test.YtknmmkgaijndfaaPx11
namespace Go.Proofs.Ytknmmkgaijndfaa.P
open Go.RowKit Go.Proofs.YtknmmkgaijndfaaW.PrintWords Go.Proofs.YtknmmkgaijndfaaW.PrintLast Go.Proofs.YtknmmkgaijndfaaW.PrintMore
attribute [local go_sem] max2_int min2_int max_two min_two max_three min_three max_four min_four   -- for this text's walks alone
set_option linter.unusedVariables false
set_option linter.unusedSimpArgs false

attribute [local go_sem high] eqA58
/-! ### laws_lwSame: function 30 -/
def laws_lwSame.l0 : Nat → List (S58) → List (S58) → Int → Option (Bool)
 | 0,_,_,_ => none
 | k + 1,x0,x1,x5 => if x5 < (x0.length : Int) then (if 0 ≤ x5 then (if x5 < (x1.length : Int) then (if (!(((rd_T58 x0 x5).f0) == ((rd_T58 x1 x5).f0)) || ((!(((rd_T58 x0 x5).f1.f0) == ((rd_T58 x1 x5).f1.f0)) || (!(((rd_T58 x0 x5).f1.f1) == ((rd_T58 x1 x5).f1.f1)) || (!(((rd_T58 x0 x5).f1.f2) == ((rd_T58 x1 x5).f1.f2))))))) = true then (some false) else (laws_lwSame.l0 k x0 x1 (wrap64 (x5 + 1)))) else (none)) else (none)) else (some true)
def laws_lwSame.f (k : Nat) (l0 : List (S58)) (l1 : List (S58)) : Option (Bool):=if (l0.length : Int) = (l1.length : Int) then (laws_lwSame.l0 k l0 l1 0) else (some false)
theorem laws_lwSame.mono_l : ∀ k,(∀ y0 y1 y2,LeO (laws_lwSame.l0 k y0 y1 y2) (laws_lwSame.l0 (k + 1) y0 y1 y2))
 | 0 => fun _ _ _ r h => by simp [laws_lwSame.l0] at h
 | k + 1 => by
  have ih0:=laws_lwSame.mono_l k
  ·intro y0 y1 y2
   unfold laws_lwSame.l0
   repeat' first
   | exact LeO.refl _
   | exact ih0 _ _ _
   | exact LeO.none _
   | refine LeO.ite ?_ ?_
   | refine LeO.bind ?_ (fun _ => ?_)
theorem laws_lwSame.mono : ∀ a0 a1 k,LeO (laws_lwSame.f k a0 a1) (laws_lwSame.f (k + 1) a0 a1):=by
 intro a0 a1 k
 have ih0:=laws_lwSame.mono_l k
 unfold laws_lwSame.f
 repeat' first
   | exact LeO.refl _
   | exact ih0 _ _ _
   | exact LeO.none _
   | refine LeO.ite ?_ ?_
   | refine LeO.bind ?_ (fun _ => ?_)
set_option maxHeartbeats 8000000 in
set_option maxRecDepth 100000 in
theorem laws_lwSame.calls (k : Nat) (A0 : Option Addr) (c0 : Nat) (l0 : List (S58)) (A1 : Option Addr) (c1 : Nat) (l1 : List (S58)) (r : Bool) (w : World) (hr0 : Kd.C k58 w A0 l0.length l0) (hc0 : l0.length ≤ c0) (hr1 : Kd.C k58 w A1 l1.length l1) (hc1 : l1.length ≤ c1) (h : laws_lwSame.f k l0 l1 = some r) :
  Calls Try.prog 30 #[.slice A0 l0.length c0,.slice A1 l1.length c1] w fun e w' => e = .returned (.bool r) ∧ Drawn0 w w':=by
 have hu58:=Try.underlying58
 have HR0:=aM hr0
 have HC0:=aM hc0
 clear hr0 hc0
 have HR1:=aM hr1
 have HC1:=aM hc1
 clear hr1 hc1
 have H : (if (l0.length : Int) = (l1.length : Int) then (laws_lwSame.l0 k l0 l1 0) else (some false)) = some r:=h
 clear h
 by_cases c3 : (l0.length : Int) = (l1.length : Int)
 ·rw [if_pos c3] at H
  have c3b0 : ((l0.length : Int) == (l1.length : Int)) = true:=beq_iff_eq.mpr c3
  have c3b1 : ((l0.length : Int) != (l1.length : Int)) = false:=bne_eq_false_iff_eq.mpr c3
  have c3b2 : (l0.length == l1.length) = true:=by first|simpa using c3|(simp at c3 ⊢;omega)
  clear c3
  have H':=aM H
  clear H
  go_enter Try.func30,Try.ntmps30
  go_wp2
  repeat (go_quiet (fail);try go_wp2)
  go_loopg [5] k (fun kq v5 w' => ∃ (x5_1 : Int),v5 = .int .i64 x5_1 ∧ Aside0 (laws_lwSame.l0 kq l0 l1 x5_1 = some r) ∧ Aside0 (kq ≤ k) ∧ Drawn0 w w')
  case atStart => exact ⟨(0),(by first|rfl|(simp;done)|(simp [*];done)),H',⟨Nat.le_refl _⟩,by repeat (first|exact Drawn0.refl _|apply Drawn0.step)⟩
  case round =>
   clear H'
   try clear c1
   try clear p2
   try clear c3
   try clear c3b0
   try clear c3b1
   try clear c3b2
   obtain ⟨x5_1,rfl,HA,HK1,⟨m1,rfl⟩⟩:=hrel
   cases gk with
   | zero => exact absurd HA.out (by simp [laws_lwSame.l0])
   | succ k1 =>
    have H:=HA.out
    clear HA
    simp only [laws_lwSame.l0] at H
    by_cases c4 : x5_1 < (l0.length : Int)
    ·rw [if_pos c4] at H
     have c4b0 : decide (x5_1 < (l0.length : Int)) = true:=decide_eq_true c4
     clear c4
     by_cases c5 : 0 ≤ x5_1
     case neg => rw [if_neg c5] at H;exact absurd H (by simp)
     rw [if_pos c5] at H
     have c5b0 : decide (0 ≤ x5_1) = true:=decide_eq_true c5
     clear c5
     by_cases c6 : x5_1 < (l1.length : Int)
     case neg => rw [if_neg c6] at H;exact absurd H (by simp)
     rw [if_pos c6] at H
     have c6b0 : decide (x5_1 < (l1.length : Int)) = true:=decide_eq_true c6
     clear c6
     by_cases c7 : (!(((rd_T58 l0 x5_1).f0) == ((rd_T58 l1 x5_1).f0)) || ((!(((rd_T58 l0 x5_1).f1.f0) == ((rd_T58 l1 x5_1).f1.f0)) || (!(((rd_T58 l0 x5_1).f1.f1) == ((rd_T58 l1 x5_1).f1.f1)) || (!(((rd_T58 l0 x5_1).f1.f2) == ((rd_T58 l1 x5_1).f1.f2))))))) = true
     ·rw [if_pos c7] at H
      have c7b0 : (!(((rd_T58 l0 x5_1).f0) == ((rd_T58 l1 x5_1).f0)) || ((!(((rd_T58 l0 x5_1).f1.f0) == ((rd_T58 l1 x5_1).f1.f0)) || (!(((rd_T58 l0 x5_1).f1.f1) == ((rd_T58 l1 x5_1).f1.f1)) || (!(((rd_T58 l0 x5_1).f1.f2) == ((rd_T58 l1 x5_1).f1.f2))))))) = true:=c7
      clear c7
      obtain rfl:=Option.some.inj H
      have p437 : 0 ≤ (x5_1 : Int):=of_decide_eq_true (by first|(with_reducible assumption)|assumption)
      have q437 : x5_1 < (l0.length : Int):=of_decide_eq_true (by first|(with_reducible assumption)|assumption)
      obtain ⟨ad437,e437,hx437_0,hx437_1,hx437_2,hx437_3⟩:=at_T58 HR0.out x5_1 p437 q437
      cases e437
      replace p437:=eq_true p437
      replace q437:=eq_true q437
      have p438 : 0 ≤ (x5_1 : Int):=of_decide_eq_true (by first|(with_reducible assumption)|assumption)
      have q438 : x5_1 < (l1.length : Int):=of_decide_eq_true (by first|(with_reducible assumption)|assumption)
      obtain ⟨ad438,e438,hx438_0,hx438_1,hx438_2,hx438_3⟩:=at_T58 HR1.out x5_1 p438 q438
      cases e438
      replace p438:=eq_true p438
      replace q438:=eq_true q438
      go_wp2
      repeat (go_quiet (fail);try go_wp2)
      go_ret
      exact ⟨by first|rfl|(simp;done)|(simp [*];done),by repeat (first|exact Drawn0.refl _|apply Drawn0.step)⟩
     ·rw [if_neg c7] at H
      have c7b0 : (!(((rd_T58 l0 x5_1).f0) == ((rd_T58 l1 x5_1).f0)) || ((!(((rd_T58 l0 x5_1).f1.f0) == ((rd_T58 l1 x5_1).f1.f0)) || (!(((rd_T58 l0 x5_1).f1.f1) == ((rd_T58 l1 x5_1).f1.f1)) || (!(((rd_T58 l0 x5_1).f1.f2) == ((rd_T58 l1 x5_1).f1.f2))))))) = false:=by simpa using c7
      clear c7
      have H':=aM H
      clear H
      have p437 : 0 ≤ (x5_1 : Int):=of_decide_eq_true (by first|(with_reducible assumption)|assumption)
      have q437 : x5_1 < (l0.length : Int):=of_decide_eq_true (by first|(with_reducible assumption)|assumption)
      obtain ⟨ad437,e437,hx437_0,hx437_1,hx437_2,hx437_3⟩:=at_T58 HR0.out x5_1 p437 q437
      cases e437
      replace p437:=eq_true p437
      replace q437:=eq_true q437
      have p438 : 0 ≤ (x5_1 : Int):=of_decide_eq_true (by first|(with_reducible assumption)|assumption)
      have q438 : x5_1 < (l1.length : Int):=of_decide_eq_true (by first|(with_reducible assumption)|assumption)
      obtain ⟨ad438,e438,hx438_0,hx438_1,hx438_2,hx438_3⟩:=at_T58 HR1.out x5_1 p438 q438
      cases e438
      replace p438:=eq_true p438
      replace q438:=eq_true q438
      go_wp2
      repeat (go_quiet (fail);try go_wp2)
      go_roundg k1
      case measure => have:=HK1.out;omega
      case rel => exact ⟨(wrap64 (x5_1 + 1)),(by first|rfl|(simp;done)|(simp [*];done)),H',⟨by have:=HK1.out;omega⟩,by repeat (first|exact Drawn0.refl _|apply Drawn0.step)⟩
    ·rw [if_neg c4] at H
     have c4b0 : decide (x5_1 < (l0.length : Int)) = false:=decide_eq_false c4
     clear c4
     obtain rfl:=Option.some.inj H
     go_wp2
     repeat (go_quiet (fail);try go_wp2)
     go_ret
     exact ⟨by first|rfl|(simp;done)|(simp [*];done),by repeat (first|exact Drawn0.refl _|apply Drawn0.step)⟩
 ·rw [if_neg c3] at H
  have c3b0 : ((l0.length : Int) == (l1.length : Int)) = false:=beq_eq_false_iff_ne.mpr c3
  have c3b1 : ((l0.length : Int) != (l1.length : Int)) = true:=bne_iff_ne.mpr c3
  have c3b2 : (l0.length == l1.length) = false:=by first|simpa using c3|(simp at c3 ⊢;omega)
  obtain rfl:=Option.some.inj H
  go_enter Try.func30,Try.ntmps30
  go_wp2
  repeat (go_quiet (fail);try go_wp2)
  go_ret
  exact ⟨by first|rfl|(simp;done)|(simp [*];done),by repeat (first|exact Drawn0.refl _|apply Drawn0.step)⟩

/-! ### laws_FnForMost: function 7 -/
mutual
def laws_FnForMost.j0 : Nat → List (S48) → List (S58) → List Int → Bool → Option (Bool)
 | 0,_,_,_,_ => none
 | k + 1,x3,x4,x5,x32 => if x32 = true then ((spec_VotesFor.f k x3 x4).bind fun t453 => ((laws_lwInts.f k x5 t453).bind fun t456 => (some t456))) else (laws_FnForMost.l0 k x3 0 0)
def laws_FnForMost.l0 : Nat → List (S48) → Int → Int → Option (Bool)
 | 0,_,_,_ => none
 | k + 1,x3,x6,x7 => if x7 < (x3.length : Int) then (laws_FnForMost.l1 k x3 x6 x7 true 0) else (some (x6 == (x3.length : Int)))
def laws_FnForMost.l1 : Nat → List (S48) → Int → Int → Bool → Int → Option (Bool)
 | 0,_,_,_,_,_ => none
 | k + 1,x3,x6,x7,x8,x9 => if x9 < x7 then (if x8 = true then (if 0 ≤ x9 then (if x9 < (x3.length : Int) then (if 0 ≤ x7 then (if x7 < (x3.length : Int) then ((laws_lwSame.f k ((rd_T48 x3 x9).f1) ((rd_T48 x3 x7).f1)).bind fun t459 => (laws_FnForMost.l1 k x3 x6 x7 (!t459) (wrap64 (x9 + 1)))) else (none)) else (none)) else (none)) else (none)) else (laws_FnForMost.l1 k x3 x6 x7 false (wrap64 (x9 + 1)))) else (if x8 = true then (if 0 ≤ x7 then (if x7 < (x3.length : Int) then ((impl_VotesFor.f k x3 ((rd_T48 x3 x7).f1)).bind fun t461 => (if (t461.length : Int) < 1 then (some false) else (if (t461.length : Int) > 4 then (some false) else (laws_FnForMost.l0 k x3 (wrap64 (x6 + (t461.length : Int))) (wrap64 (x7 + 1)))))) else (none)) else (none)) else (laws_FnForMost.l0 k x3 x6 (wrap64 (x7 + 1))))
end
def laws_FnForMost.f (k : Nat) (l0 : List Int) : Option (Bool):=if (l0.length : Int) > 1048576 then (some true) else ((spec_DrawVotesFor.f k l0).bind fun bt439 => ((impl_VotesFor.f k bt439.1 bt439.2).bind fun t445 => ((spec_VotesFor.f k bt439.1 bt439.2).bind fun t448 => ((laws_lwInts.f k t445 t448).bind fun t451 => (if t451 = true then ((spec_VotesOk.f k bt439.1).bind fun t452 => (laws_FnForMost.j0 k bt439.1 bt439.2 t445 (!t452))) else (laws_FnForMost.j0 k bt439.1 bt439.2 t445 true))))))
theorem laws_FnForMost.mono_l : ∀ k,(∀ y0 y1 y2 y3,LeO (laws_FnForMost.j0 k y0 y1 y2 y3) (laws_FnForMost.j0 (k + 1) y0 y1 y2 y3)) ∧ (∀ y0 y1 y2,LeO (laws_FnForMost.l0 k y0 y1 y2) (laws_FnForMost.l0 (k + 1) y0 y1 y2)) ∧ (∀ y0 y1 y2 y3 y4,LeO (laws_FnForMost.l1 k y0 y1 y2 y3 y4) (laws_FnForMost.l1 (k + 1) y0 y1 y2 y3 y4))
 | 0 => ⟨fun _ _ _ _ r h => by simp [laws_FnForMost.j0] at h,fun _ _ _ r h => by simp [laws_FnForMost.l0] at h,fun _ _ _ _ _ r h => by simp [laws_FnForMost.l1] at h⟩
 | k + 1 => by
  obtain ⟨ih0,ih1,ih2⟩:=laws_FnForMost.mono_l k
  refine ⟨?_,?_,?_⟩
  ·intro y0 y1 y2 y3
   unfold laws_FnForMost.j0
   repeat' first
   | (with_reducible exact ih0 _ _ _ _)
   | (with_reducible exact ih1 _ _ _)
   | (with_reducible exact ih2 _ _ _ _ _)
   | (with_reducible exact impl_VotesFor.mono _ _ _)
   | (with_reducible exact laws_lwInts.mono _ _ _)
   | (with_reducible exact laws_lwSame.mono _ _ _)
   | (with_reducible exact spec_DrawVotesFor.mono _ _)
   | (with_reducible exact spec_VotesFor.mono _ _ _)
   | (with_reducible exact spec_VotesOk.mono _ _)
   | (with_reducible exact LeO.refl _)
   | (with_reducible exact LeO.none _)
   | (with_reducible refine LeO.ite ?_ ?_)
   | (with_reducible refine LeO.bind ?_ (fun _ => ?_))
   | exact ih0 _ _ _ _
   | exact ih1 _ _ _
   | exact ih2 _ _ _ _ _
   | exact impl_VotesFor.mono _ _ _
   | exact laws_lwInts.mono _ _ _
   | exact laws_lwSame.mono _ _ _
   | exact spec_DrawVotesFor.mono _ _
   | exact spec_VotesFor.mono _ _ _
   | exact spec_VotesOk.mono _ _
   | exact LeO.none _
   | refine LeO.ite ?_ ?_
   | refine LeO.bind ?_ (fun _ => ?_)
  ·intro y0 y1 y2
   unfold laws_FnForMost.l0
   repeat' first
   | (with_reducible exact ih0 _ _ _ _)
   | (with_reducible exact ih1 _ _ _)
   | (with_reducible exact ih2 _ _ _ _ _)
   | (with_reducible exact impl_VotesFor.mono _ _ _)
   | (with_reducible exact laws_lwInts.mono _ _ _)
   | (with_reducible exact laws_lwSame.mono _ _ _)
   | (with_reducible exact spec_DrawVotesFor.mono _ _)
   | (with_reducible exact spec_VotesFor.mono _ _ _)
   | (with_reducible exact spec_VotesOk.mono _ _)
   | (with_reducible exact LeO.refl _)
   | (with_reducible exact LeO.none _)
   | (with_reducible refine LeO.ite ?_ ?_)
   | (with_reducible refine LeO.bind ?_ (fun _ => ?_))
   | exact ih0 _ _ _ _
   | exact ih1 _ _ _
   | exact ih2 _ _ _ _ _
   | exact impl_VotesFor.mono _ _ _
   | exact laws_lwInts.mono _ _ _
   | exact laws_lwSame.mono _ _ _
   | exact spec_DrawVotesFor.mono _ _
   | exact spec_VotesFor.mono _ _ _
   | exact spec_VotesOk.mono _ _
   | exact LeO.none _
   | refine LeO.ite ?_ ?_
   | refine LeO.bind ?_ (fun _ => ?_)
  ·intro y0 y1 y2 y3 y4
   unfold laws_FnForMost.l1
   repeat' first
   | (with_reducible exact ih0 _ _ _ _)
   | (with_reducible exact ih1 _ _ _)
   | (with_reducible exact ih2 _ _ _ _ _)
   | (with_reducible exact impl_VotesFor.mono _ _ _)
   | (with_reducible exact laws_lwInts.mono _ _ _)
   | (with_reducible exact laws_lwSame.mono _ _ _)
   | (with_reducible exact spec_DrawVotesFor.mono _ _)
   | (with_reducible exact spec_VotesFor.mono _ _ _)
   | (with_reducible exact spec_VotesOk.mono _ _)
   | (with_reducible exact LeO.refl _)
   | (with_reducible exact LeO.none _)
   | (with_reducible refine LeO.ite ?_ ?_)
   | (with_reducible refine LeO.bind ?_ (fun _ => ?_))
   | exact ih0 _ _ _ _
   | exact ih1 _ _ _
   | exact ih2 _ _ _ _ _
   | exact impl_VotesFor.mono _ _ _
   | exact laws_lwInts.mono _ _ _
   | exact laws_lwSame.mono _ _ _
   | exact spec_DrawVotesFor.mono _ _
   | exact spec_VotesFor.mono _ _ _
   | exact spec_VotesOk.mono _ _
   | exact LeO.none _
   | refine LeO.ite ?_ ?_
   | refine LeO.bind ?_ (fun _ => ?_)
theorem laws_FnForMost.mono : ∀ a0 k,LeO (laws_FnForMost.f k a0) (laws_FnForMost.f (k + 1) a0):=by
 intro a0 k
 obtain ⟨ih0,ih1,ih2⟩:=laws_FnForMost.mono_l k
 unfold laws_FnForMost.f
 repeat' first
   | (with_reducible exact ih0 _ _ _ _)
   | (with_reducible exact ih1 _ _ _)
   | (with_reducible exact ih2 _ _ _ _ _)
   | (with_reducible exact impl_VotesFor.mono _ _ _)
   | (with_reducible exact laws_lwInts.mono _ _ _)
   | (with_reducible exact laws_lwSame.mono _ _ _)
   | (with_reducible exact spec_DrawVotesFor.mono _ _)
   | (with_reducible exact spec_VotesFor.mono _ _ _)
   | (with_reducible exact spec_VotesOk.mono _ _)
   | (with_reducible exact LeO.refl _)
   | (with_reducible exact LeO.none _)
   | (with_reducible refine LeO.ite ?_ ?_)
   | (with_reducible refine LeO.bind ?_ (fun _ => ?_))
   | exact ih0 _ _ _ _
   | exact ih1 _ _ _
   | exact ih2 _ _ _ _ _
   | exact impl_VotesFor.mono _ _ _
   | exact laws_lwInts.mono _ _ _
   | exact laws_lwSame.mono _ _ _
   | exact spec_DrawVotesFor.mono _ _
   | exact spec_VotesFor.mono _ _ _
   | exact spec_VotesOk.mono _ _
   | exact LeO.none _
   | refine LeO.ite ?_ ?_
   | refine LeO.bind ?_ (fun _ => ?_)
set_option maxHeartbeats 8000000 in
set_option maxRecDepth 100000 in
theorem laws_FnForMost.calls (k : Nat) (A0 : Option Addr) (c0 : Nat) (l0 : List Int) (r : Bool) (w : World) (hr0 : Kd.C (Kd.int .u8) w A0 l0.length l0) (hc0 : l0.length ≤ c0) (h : laws_FnForMost.f k l0 = some r) :
  Calls Try.prog 7 #[.slice A0 l0.length c0] w fun e w' => e = .returned (.bool r) ∧ Below w.heap.size w w':=by
 have HR0:=aM hr0
 have HC0:=aM hc0
 clear hr0 hc0
 have HB:=aM (Below.refl w.heap.size w)
 have H : (if (l0.length : Int) > 1048576 then (some true) else ((spec_DrawVotesFor.f k l0).bind fun bt439 => ((impl_VotesFor.f k bt439.1 bt439.2).bind fun t445 => ((spec_VotesFor.f k bt439.1 bt439.2).bind fun t448 => ((laws_lwInts.f k t445 t448).bind fun t451 => (if t451 = true then ((spec_VotesOk.f k bt439.1).bind fun t452 => (laws_FnForMost.j0 k bt439.1 bt439.2 t445 (!t452))) else (laws_FnForMost.j0 k bt439.1 bt439.2 t445 true))))))) = some r:=h
 clear h
 by_cases c2 : (l0.length : Int) > 1048576
 ·rw [if_pos c2] at H
  have c2b0 : decide (1048576 < (l0.length : Int)) = true:=decide_eq_true c2
  have c2b1 : decide (1048576 < l0.length) = true:=decide_eq_true (by omega)
  clear c2
  obtain rfl:=Option.some.inj H
  go_enter Try.func7,Try.ntmps7
  go_wp2
  repeat (go_quiet (fail);try go_wp2)
  go_ret
  exact ⟨by first|rfl|(simp only [i64_w,i32_w];done)|(simp only [i64_w,i32_w];rfl)|(simp [errW_none,errW_some] <;> rfl)|(simp [*,errW_none,errW_some] <;> rfl),by repeat (first|(with_reducible first|exact HB.out|apply bA|apply bN|apply bD)|exact HB.out)⟩
 ·rw [if_neg c2] at H
  have c2b0 : decide (1048576 < (l0.length : Int)) = false:=decide_eq_false c2
  have c2b1 : decide (1048576 < l0.length) = false:=decide_eq_false (by omega)
  clear c2
  replace H:=Option.bind_eq_some_iff.mp H
  obtain ⟨⟨t439,t442⟩,A30,H⟩:=H
  replace H : ((impl_VotesFor.f k t439 t442).bind fun t445 => ((spec_VotesFor.f k t439 t442).bind fun t448 => ((laws_lwInts.f k t445 t448).bind fun t451 => (if t451 = true then ((spec_VotesOk.f k t439).bind fun t452 => (laws_FnForMost.j0 k t439 t442 t445 (!t452))) else (laws_FnForMost.j0 k t439 t442 t445 true))))) = some r:=H
  have A3:=aM A30
  clear A30
  replace H:=Option.bind_eq_some_iff.mp H
  obtain ⟨t445,A40,H⟩:=H
  replace H : ((spec_VotesFor.f k t439 t442).bind fun t448 => ((laws_lwInts.f k t445 t448).bind fun t451 => (if t451 = true then ((spec_VotesOk.f k t439).bind fun t452 => (laws_FnForMost.j0 k t439 t442 t445 (!t452))) else (laws_FnForMost.j0 k t439 t442 t445 true)))) = some r:=H
  have A4:=aM A40
  clear A40
  have HC5:=aM H
  clear H
  go_enter Try.func7,Try.ntmps7
  go_upto_region 5 with (first|(go_at_call 28;(with_reducible refine (spec_DrawVotesFor.calls k _ _ l0 t439 t442 _ ?side1 ?side2 A3.out).mono ?_);(case side1 => repeat (first|exact HR0.out|(with_reducible refine Kd.C_alloc ?_ _)|(with_reducible refine Kd.C_drewN ?_ _)|(with_reducible refine Kd.C_drew ?_)));(case side2 => exact HC0.out);rintro e w6 ⟨v440,v443,rfl,ho0,ho1,hb⟩;have n0_:=aM (Kd.N_lower (Kd.N_mono (ok':=fun k_ => some k_ ≠ (v443 : Value).ownBlock) ho0 (fun k_ hk_ => hk_.2)) (below_size (by repeat (first|(with_reducible first|exact HB.out|apply bA|apply bN|apply bD)|exact HB.out))));have n1_:=aM (Kd.R_lower (Kd.R_mono (ok':=fun k_ => True) ho1 (fun _ hk_ => trivial)) (below_size (by repeat (first|(with_reducible first|exact HB.out|apply bA|apply bN|apply bD)|exact HB.out))));have n2_:=aM (below_step (by repeat (first|(with_reducible first|exact HB.out|apply bA|apply bN|apply bD)|exact HB.out)) hb);clear HB;have HO441:=n0_;have HO444:=n1_;have HB:=n2_;clear n0_ n1_ n2_;(try clear hb);(try clear hb2);(try clear hk);(try clear hi);(try clear ho0);(try clear ho1);obtain ⟨Ao7,co7,eo7⟩:=Kd.N_slice HO441.out;subst eo7;obtain ⟨Ao8,co8,eo8⟩:=Kd.R_slice HO444.out;subst eo8)|(go_at_call 19;(with_reducible refine (impl_VotesFor.calls k _ _ t439 _ _ t442 t445 _ ?side1 ?side2 ?side3 ?side4 A4.out).mono ?_);(case side1 => repeat (first|exact (Kd.N_reads' HO441.out).2.2|(with_reducible refine Kd.C_alloc ?_ _)|(with_reducible refine Kd.C_drewN ?_ _)|(with_reducible refine Kd.C_drew ?_)));(case side2 => exact (Kd.N_reads' HO441.out).2.1);(case side3 => repeat (first|exact (Kd.R_reads' HO444.out).2.2|(with_reducible refine Kd.C_alloc ?_ _)|(with_reducible refine Kd.C_drewN ?_ _)|(with_reducible refine Kd.C_drew ?_)));(case side4 => exact (Kd.R_reads' HO444.out).2.1);rintro e w9 ⟨v446,rfl,ho0,hb⟩;have n0_:=aM (Kd.N_below (by (with_reducible repeat (first|apply Kd.N_alloc|apply Kd.N_drewN|apply Kd.N_drew));exact HO441.out) hb);have n1_:=aM (Kd.R_below (by (with_reducible repeat (first|apply Kd.R_alloc|apply Kd.R_drewN|apply Kd.R_drew));exact HO444.out) hb);have n2_:=aM (Kd.V_lower (Kd.V_mono (ok':=fun k_ => some k_ ≠ (.slice Ao7 t439.length co7 : Value).ownBlock ∧ some k_ ≠ (.slice Ao8 t442.length co8 : Value).ownBlock) ho0 (fun k_ hk_ => ⟨(Kd.fresh' (Kd.N_lt (by (with_reducible repeat (first|apply Kd.N_alloc|apply Kd.N_drewN|apply Kd.N_drew));exact HO441.out)) k_ hk_),(Kd.fresh' (Kd.R_lt (by (with_reducible repeat (first|apply Kd.R_alloc|apply Kd.R_drewN|apply Kd.R_drew));exact HO444.out)) k_ hk_)⟩)) (below_size (by repeat (first|(with_reducible first|exact HB.out|apply bA|apply bN|apply bD)|exact HB.out))));have n3_:=aM (below_step (by repeat (first|(with_reducible first|exact HB.out|apply bA|apply bN|apply bD)|exact HB.out)) hb);clear HO441;clear HO444;clear HB;have HO441:=n0_;have HO444:=n1_;have HO447:=n2_;have HB:=n3_;clear n0_ n1_ n2_ n3_;(try clear hb);(try clear hb2);(try clear hk);(try clear hi);(try clear ho0)))
  repeat (go_quiet (first|(go_at_call 28;(with_reducible refine (spec_DrawVotesFor.calls k _ _ l0 t439 t442 _ ?side1 ?side2 A3.out).mono ?_);(case side1 => repeat (first|exact HR0.out|(with_reducible refine Kd.C_alloc ?_ _)|(with_reducible refine Kd.C_drewN ?_ _)|(with_reducible refine Kd.C_drew ?_)));(case side2 => exact HC0.out);rintro e w6 ⟨v440,v443,rfl,ho0,ho1,hb⟩;have n0_:=aM (Kd.N_lower (Kd.N_mono (ok':=fun k_ => some k_ ≠ (v443 : Value).ownBlock) ho0 (fun k_ hk_ => hk_.2)) (below_size (by repeat (first|(with_reducible first|exact HB.out|apply bA|apply bN|apply bD)|exact HB.out))));have n1_:=aM (Kd.R_lower (Kd.R_mono (ok':=fun k_ => True) ho1 (fun _ hk_ => trivial)) (below_size (by repeat (first|(with_reducible first|exact HB.out|apply bA|apply bN|apply bD)|exact HB.out))));have n2_:=aM (below_step (by repeat (first|(with_reducible first|exact HB.out|apply bA|apply bN|apply bD)|exact HB.out)) hb);clear HB;have HO441:=n0_;have HO444:=n1_;have HB:=n2_;clear n0_ n1_ n2_;(try clear hb);(try clear hb2);(try clear hk);(try clear hi);(try clear ho0);(try clear ho1);obtain ⟨Ao7,co7,eo7⟩:=Kd.N_slice HO441.out;subst eo7;obtain ⟨Ao8,co8,eo8⟩:=Kd.R_slice HO444.out;subst eo8)|(go_at_call 19;(with_reducible refine (impl_VotesFor.calls k _ _ t439 _ _ t442 t445 _ ?side1 ?side2 ?side3 ?side4 A4.out).mono ?_);(case side1 => repeat (first|exact (Kd.N_reads' HO441.out).2.2|(with_reducible refine Kd.C_alloc ?_ _)|(with_reducible refine Kd.C_drewN ?_ _)|(with_reducible refine Kd.C_drew ?_)));(case side2 => exact (Kd.N_reads' HO441.out).2.1);(case side3 => repeat (first|exact (Kd.R_reads' HO444.out).2.2|(with_reducible refine Kd.C_alloc ?_ _)|(with_reducible refine Kd.C_drewN ?_ _)|(with_reducible refine Kd.C_drew ?_)));(case side4 => exact (Kd.R_reads' HO444.out).2.1);rintro e w9 ⟨v446,rfl,ho0,hb⟩;have n0_:=aM (Kd.N_below (by (with_reducible repeat (first|apply Kd.N_alloc|apply Kd.N_drewN|apply Kd.N_drew));exact HO441.out) hb);have n1_:=aM (Kd.R_below (by (with_reducible repeat (first|apply Kd.R_alloc|apply Kd.R_drewN|apply Kd.R_drew));exact HO444.out) hb);have n2_:=aM (Kd.V_lower (Kd.V_mono (ok':=fun k_ => some k_ ≠ (.slice Ao7 t439.length co7 : Value).ownBlock ∧ some k_ ≠ (.slice Ao8 t442.length co8 : Value).ownBlock) ho0 (fun k_ hk_ => ⟨(Kd.fresh' (Kd.N_lt (by (with_reducible repeat (first|apply Kd.N_alloc|apply Kd.N_drewN|apply Kd.N_drew));exact HO441.out)) k_ hk_),(Kd.fresh' (Kd.R_lt (by (with_reducible repeat (first|apply Kd.R_alloc|apply Kd.R_drewN|apply Kd.R_drew));exact HO444.out)) k_ hk_)⟩)) (below_size (by repeat (first|(with_reducible first|exact HB.out|apply bA|apply bN|apply bD)|exact HB.out))));have n3_:=aM (below_step (by repeat (first|(with_reducible first|exact HB.out|apply bA|apply bN|apply bD)|exact HB.out)) hb);clear HO441;clear HO444;clear HB;have HO441:=n0_;have HO444:=n1_;have HO447:=n2_;have HB:=n3_;clear n0_ n1_ n2_ n3_;(try clear hb);(try clear hb2);(try clear hk);(try clear hi);(try clear ho0)));go_upto_region 5 with (first|(go_at_call 28;(with_reducible refine (spec_DrawVotesFor.calls k _ _ l0 t439 t442 _ ?side1 ?side2 A3.out).mono ?_);(case side1 => repeat (first|exact HR0.out|(with_reducible refine Kd.C_alloc ?_ _)|(with_reducible refine Kd.C_drewN ?_ _)|(with_reducible refine Kd.C_drew ?_)));(case side2 => exact HC0.out);rintro e w6 ⟨v440,v443,rfl,ho0,ho1,hb⟩;have n0_:=aM (Kd.N_lower (Kd.N_mono (ok':=fun k_ => some k_ ≠ (v443 : Value).ownBlock) ho0 (fun k_ hk_ => hk_.2)) (below_size (by repeat (first|(with_reducible first|exact HB.out|apply bA|apply bN|apply bD)|exact HB.out))));have n1_:=aM (Kd.R_lower (Kd.R_mono (ok':=fun k_ => True) ho1 (fun _ hk_ => trivial)) (below_size (by repeat (first|(with_reducible first|exact HB.out|apply bA|apply bN|apply bD)|exact HB.out))));have n2_:=aM (below_step (by repeat (first|(with_reducible first|exact HB.out|apply bA|apply bN|apply bD)|exact HB.out)) hb);clear HB;have HO441:=n0_;have HO444:=n1_;have HB:=n2_;clear n0_ n1_ n2_;(try clear hb);(try clear hb2);(try clear hk);(try clear hi);(try clear ho0);(try clear ho1);obtain ⟨Ao7,co7,eo7⟩:=Kd.N_slice HO441.out;subst eo7;obtain ⟨Ao8,co8,eo8⟩:=Kd.R_slice HO444.out;subst eo8)|(go_at_call 19;(with_reducible refine (impl_VotesFor.calls k _ _ t439 _ _ t442 t445 _ ?side1 ?side2 ?side3 ?side4 A4.out).mono ?_);(case side1 => repeat (first|exact (Kd.N_reads' HO441.out).2.2|(with_reducible refine Kd.C_alloc ?_ _)|(with_reducible refine Kd.C_drewN ?_ _)|(with_reducible refine Kd.C_drew ?_)));(case side2 => exact (Kd.N_reads' HO441.out).2.1);(case side3 => repeat (first|exact (Kd.R_reads' HO444.out).2.2|(with_reducible refine Kd.C_alloc ?_ _)|(with_reducible refine Kd.C_drewN ?_ _)|(with_reducible refine Kd.C_drew ?_)));(case side4 => exact (Kd.R_reads' HO444.out).2.1);rintro e w9 ⟨v446,rfl,ho0,hb⟩;have n0_:=aM (Kd.N_below (by (with_reducible repeat (first|apply Kd.N_alloc|apply Kd.N_drewN|apply Kd.N_drew));exact HO441.out) hb);have n1_:=aM (Kd.R_below (by (with_reducible repeat (first|apply Kd.R_alloc|apply Kd.R_drewN|apply Kd.R_drew));exact HO444.out) hb);have n2_:=aM (Kd.V_lower (Kd.V_mono (ok':=fun k_ => some k_ ≠ (.slice Ao7 t439.length co7 : Value).ownBlock ∧ some k_ ≠ (.slice Ao8 t442.length co8 : Value).ownBlock) ho0 (fun k_ hk_ => ⟨(Kd.fresh' (Kd.N_lt (by (with_reducible repeat (first|apply Kd.N_alloc|apply Kd.N_drewN|apply Kd.N_drew));exact HO441.out)) k_ hk_),(Kd.fresh' (Kd.R_lt (by (with_reducible repeat (first|apply Kd.R_alloc|apply Kd.R_drewN|apply Kd.R_drew));exact HO444.out)) k_ hk_)⟩)) (below_size (by repeat (first|(with_reducible first|exact HB.out|apply bA|apply bN|apply bD)|exact HB.out))));have n3_:=aM (below_step (by repeat (first|(with_reducible first|exact HB.out|apply bA|apply bN|apply bD)|exact HB.out)) hb);clear HO441;clear HO444;clear HB;have HO441:=n0_;have HO444:=n1_;have HO447:=n2_;have HB:=n3_;clear n0_ n1_ n2_ n3_;(try clear hb);(try clear hb2);(try clear hk);(try clear hi);(try clear ho0))))
  (try simp only [Act.put,sI,sZ,sS])
  go_cut [32] (fun v32 wc => ∃ (kq : Nat) (x32_4 : Bool),v32 = .bool x32_4 ∧ Aside0 (laws_FnForMost.j0 kq t439 t442 t445 x32_4 = some r) ∧ Aside0 (kq ≤ k) ∧ Aside0 (Kd.N k48 48 wc w.heap.size (fun k_ => some k_ ≠ ((.slice Ao8 t442.length co8) : Value).ownBlock) (.slice Ao7 t439.length co7) t439) ∧ Aside0 (Kd.R k58 58 wc w.heap.size (fun _ => True) (.slice Ao8 t442.length co8) t442) ∧ Aside0 (Kd.V (Kd.int .i64) 3 wc w.heap.size (fun k_ => some k_ ≠ ((.slice Ao7 t439.length co7) : Value).ownBlock ∧ some k_ ≠ ((.slice Ao8 t442.length co8) : Value).ownBlock) v446 t445) ∧ Aside0 (Below w.heap.size w wc))
  case first =>
   have H:=HC5.out
   clear HC5
   replace H:=Option.bind_eq_some_iff.mp H
   obtain ⟨t448,A100,H⟩:=H
   replace H : ((laws_lwInts.f k t445 t448).bind fun t451 => (if t451 = true then ((spec_VotesOk.f k t439).bind fun t452 => (laws_FnForMost.j0 k t439 t442 t445 (!t452))) else (laws_FnForMost.j0 k t439 t442 t445 true))) = some r:=H
   have A10:=aM A100
   clear A100
   replace H:=Option.bind_eq_some_iff.mp H
   obtain ⟨t451,A110,H⟩:=H
   replace H : (if t451 = true then ((spec_VotesOk.f k t439).bind fun t452 => (laws_FnForMost.j0 k t439 t442 t445 (!t452))) else (laws_FnForMost.j0 k t439 t442 t445 true)) = some r:=H
   have A11:=aM A110
   clear A110
   by_cases c12 : t451 = true
   ·subst c12
    have H1 : ((spec_VotesOk.f k t439).bind fun t452 => (laws_FnForMost.j0 k t439 t442 t445 (!t452))) = some r:=by rw [if_pos rfl] at H;exact H
    clear H
    have H:=H1
    clear H1
    replace H:=Option.bind_eq_some_iff.mp H
    obtain ⟨t452,A130,H⟩:=H
    replace H : (laws_FnForMost.j0 k t439 t442 t445 (!t452)) = some r:=H
    have A13:=aM A130
    clear A130
    have H':=aM H
    clear H
    go_wp2_with (first|(go_at_call 18;(with_reducible refine (spec_VotesFor.calls k _ _ t439 _ _ t442 t448 _ ?side1 ?side2 ?side3 ?side4 A10.out).mono ?_);(case side1 => repeat (first|exact (Kd.N_reads' HO441.out).2.2|(with_reducible refine Kd.C_alloc ?_ _)|(with_reducible refine Kd.C_drewN ?_ _)|(with_reducible refine Kd.C_drew ?_)));(case side2 => exact (Kd.N_reads' HO441.out).2.1);(case side3 => repeat (first|exact (Kd.R_reads' HO444.out).2.2|(with_reducible refine Kd.C_alloc ?_ _)|(with_reducible refine Kd.C_drewN ?_ _)|(with_reducible refine Kd.C_drew ?_)));(case side4 => exact (Kd.R_reads' HO444.out).2.1);rintro e w14 ⟨v449,rfl,ho0,hb⟩;have n0_:=aM (Kd.N_elder' (by (with_reducible repeat (first|apply Kd.N_alloc|apply Kd.N_drewN|apply Kd.N_drew));exact HO441.out) (Kd.R_base ho0) hb);have n1_:=aM (Kd.R_below (by (with_reducible repeat (first|apply Kd.R_alloc|apply Kd.R_drewN|apply Kd.R_drew));exact HO444.out) hb);have n2_:=aM (Kd.V_elder' (by (with_reducible repeat (first|apply Kd.V_alloc|apply Kd.V_drewN|apply Kd.V_drew));exact HO447.out) (Kd.R_base ho0) hb);have n3_:=aM (Kd.R_lower ho0 (below_size (by repeat (first|(with_reducible first|exact HB.out|apply bA|apply bN|apply bD)|exact HB.out))));have n4_:=aM (below_step (by repeat (first|(with_reducible first|exact HB.out|apply bA|apply bN|apply bD)|exact HB.out)) hb);clear HO441;clear HO444;clear HO447;clear HB;have HO441:=n0_;have HO444:=n1_;have HO447:=n2_;have HO450:=n3_;have HB:=n4_;clear n0_ n1_ n2_ n3_ n4_;(try clear hb);(try clear hb2);(try clear hk);(try clear hi);(try clear ho0);obtain ⟨Ao15,co15,eo15⟩:=Kd.V_slice HO447.out;subst eo15;obtain ⟨Ao16,co16,eo16⟩:=Kd.R_slice HO450.out;subst eo16)|(go_at_call 29;(with_reducible refine (laws_lwInts.calls k _ _ t445 _ _ t448 true _ ?side1 ?side2 ?side3 ?side4 A11.out).mono ?_);(case side1 => repeat (first|exact (Kd.V_reads' HO447.out).2.2|(with_reducible refine Kd.C_alloc ?_ _)|(with_reducible refine Kd.C_drewN ?_ _)|(with_reducible refine Kd.C_drew ?_)));(case side2 => exact (Kd.V_reads' HO447.out).2.1);(case side3 => repeat (first|exact (Kd.R_reads' HO450.out).2.2|(with_reducible refine Kd.C_alloc ?_ _)|(with_reducible refine Kd.C_drewN ?_ _)|(with_reducible refine Kd.C_drew ?_)));(case side4 => exact (Kd.R_reads' HO450.out).2.1);rintro e w' ⟨rfl,⟨nd,rfl⟩⟩;(try first|exact ⟨rfl,_,World.drewN_drewN _ _ _⟩|exact ⟨rfl,_,Eq.trans (World.drewN_drewN _ _ _) (congrArg (World.drewN _) (Nat.add_assoc _ _ _))⟩))|(go_at_call 26;(with_reducible refine (spec_VotesOk.calls k _ _ t439 t452 _ ?side1 ?side2 A13.out).mono ?_);(case side1 => repeat (first|exact (Kd.N_reads' HO441.out).2.2|(with_reducible refine Kd.C_alloc ?_ _)|(with_reducible refine Kd.C_drewN ?_ _)|(with_reducible refine Kd.C_drew ?_)));(case side2 => exact (Kd.N_reads' HO441.out).2.1);rintro e w17 ⟨rfl,hb⟩;have n0_:=aM (Kd.N_below (by (with_reducible repeat (first|apply Kd.N_alloc|apply Kd.N_drewN|apply Kd.N_drew));exact HO441.out) hb);have n1_:=aM (Kd.R_below (by (with_reducible repeat (first|apply Kd.R_alloc|apply Kd.R_drewN|apply Kd.R_drew));exact HO444.out) hb);have n2_:=aM (Kd.V_below (by (with_reducible repeat (first|apply Kd.V_alloc|apply Kd.V_drewN|apply Kd.V_drew));exact HO447.out) hb);have n3_:=aM (Kd.R_below (by (with_reducible repeat (first|apply Kd.R_alloc|apply Kd.R_drewN|apply Kd.R_drew));exact HO450.out) hb);have n4_:=aM (below_step (by repeat (first|(with_reducible first|exact HB.out|apply bA|apply bN|apply bD)|exact HB.out)) hb);clear HO441;clear HO444;clear HO447;clear HO450;clear HB;have HO441:=n0_;have HO444:=n1_;have HO447:=n2_;have HO450:=n3_;have HB:=n4_;clear n0_ n1_ n2_ n3_ n4_;(try clear hb);(try clear hb2);(try clear hk);(try clear hi)))
    repeat (go_quiet (first|(go_at_call 18;(with_reducible refine (spec_VotesFor.calls k _ _ t439 _ _ t442 t448 _ ?side1 ?side2 ?side3 ?side4 A10.out).mono ?_);(case side1 => repeat (first|exact (Kd.N_reads' HO441.out).2.2|(with_reducible refine Kd.C_alloc ?_ _)|(with_reducible refine Kd.C_drewN ?_ _)|(with_reducible refine Kd.C_drew ?_)));(case side2 => exact (Kd.N_reads' HO441.out).2.1);(case side3 => repeat (first|exact (Kd.R_reads' HO444.out).2.2|(with_reducible refine Kd.C_alloc ?_ _)|(with_reducible refine Kd.C_drewN ?_ _)|(with_reducible refine Kd.C_drew ?_)));(case side4 => exact (Kd.R_reads' HO444.out).2.1);rintro e w14 ⟨v449,rfl,ho0,hb⟩;have n0_:=aM (Kd.N_elder' (by (with_reducible repeat (first|apply Kd.N_alloc|apply Kd.N_drewN|apply Kd.N_drew));exact HO441.out) (Kd.R_base ho0) hb);have n1_:=aM (Kd.R_below (by (with_reducible repeat (first|apply Kd.R_alloc|apply Kd.R_drewN|apply Kd.R_drew));exact HO444.out) hb);have n2_:=aM (Kd.V_elder' (by (with_reducible repeat (first|apply Kd.V_alloc|apply Kd.V_drewN|apply Kd.V_drew));exact HO447.out) (Kd.R_base ho0) hb);have n3_:=aM (Kd.R_lower ho0 (below_size (by repeat (first|(with_reducible first|exact HB.out|apply bA|apply bN|apply bD)|exact HB.out))));have n4_:=aM (below_step (by repeat (first|(with_reducible first|exact HB.out|apply bA|apply bN|apply bD)|exact HB.out)) hb);clear HO441;clear HO444;clear HO447;clear HB;have HO441:=n0_;have HO444:=n1_;have HO447:=n2_;have HO450:=n3_;have HB:=n4_;clear n0_ n1_ n2_ n3_ n4_;(try clear hb);(try clear hb2);(try clear hk);(try clear hi);(try clear ho0);obtain ⟨Ao15,co15,eo15⟩:=Kd.V_slice HO447.out;subst eo15;obtain ⟨Ao16,co16,eo16⟩:=Kd.R_slice HO450.out;subst eo16)|(go_at_call 29;(with_reducible refine (laws_lwInts.calls k _ _ t445 _ _ t448 true _ ?side1 ?side2 ?side3 ?side4 A11.out).mono ?_);(case side1 => repeat (first|exact (Kd.V_reads' HO447.out).2.2|(with_reducible refine Kd.C_alloc ?_ _)|(with_reducible refine Kd.C_drewN ?_ _)|(with_reducible refine Kd.C_drew ?_)));(case side2 => exact (Kd.V_reads' HO447.out).2.1);(case side3 => repeat (first|exact (Kd.R_reads' HO450.out).2.2|(with_reducible refine Kd.C_alloc ?_ _)|(with_reducible refine Kd.C_drewN ?_ _)|(with_reducible refine Kd.C_drew ?_)));(case side4 => exact (Kd.R_reads' HO450.out).2.1);rintro e w' ⟨rfl,⟨nd,rfl⟩⟩;(try first|exact ⟨rfl,_,World.drewN_drewN _ _ _⟩|exact ⟨rfl,_,Eq.trans (World.drewN_drewN _ _ _) (congrArg (World.drewN _) (Nat.add_assoc _ _ _))⟩))|(go_at_call 26;(with_reducible refine (spec_VotesOk.calls k _ _ t439 t452 _ ?side1 ?side2 A13.out).mono ?_);(case side1 => repeat (first|exact (Kd.N_reads' HO441.out).2.2|(with_reducible refine Kd.C_alloc ?_ _)|(with_reducible refine Kd.C_drewN ?_ _)|(with_reducible refine Kd.C_drew ?_)));(case side2 => exact (Kd.N_reads' HO441.out).2.1);rintro e w17 ⟨rfl,hb⟩;have n0_:=aM (Kd.N_below (by (with_reducible repeat (first|apply Kd.N_alloc|apply Kd.N_drewN|apply Kd.N_drew));exact HO441.out) hb);have n1_:=aM (Kd.R_below (by (with_reducible repeat (first|apply Kd.R_alloc|apply Kd.R_drewN|apply Kd.R_drew));exact HO444.out) hb);have n2_:=aM (Kd.V_below (by (with_reducible repeat (first|apply Kd.V_alloc|apply Kd.V_drewN|apply Kd.V_drew));exact HO447.out) hb);have n3_:=aM (Kd.R_below (by (with_reducible repeat (first|apply Kd.R_alloc|apply Kd.R_drewN|apply Kd.R_drew));exact HO450.out) hb);have n4_:=aM (below_step (by repeat (first|(with_reducible first|exact HB.out|apply bA|apply bN|apply bD)|exact HB.out)) hb);clear HO441;clear HO444;clear HO447;clear HO450;clear HB;have HO441:=n0_;have HO444:=n1_;have HO447:=n2_;have HO450:=n3_;have HB:=n4_;clear n0_ n1_ n2_ n3_ n4_;(try clear hb);(try clear hb2);(try clear hk);(try clear hi)));try go_wp2_with (first|(go_at_call 18;(with_reducible refine (spec_VotesFor.calls k _ _ t439 _ _ t442 t448 _ ?side1 ?side2 ?side3 ?side4 A10.out).mono ?_);(case side1 => repeat (first|exact (Kd.N_reads' HO441.out).2.2|(with_reducible refine Kd.C_alloc ?_ _)|(with_reducible refine Kd.C_drewN ?_ _)|(with_reducible refine Kd.C_drew ?_)));(case side2 => exact (Kd.N_reads' HO441.out).2.1);(case side3 => repeat (first|exact (Kd.R_reads' HO444.out).2.2|(with_reducible refine Kd.C_alloc ?_ _)|(with_reducible refine Kd.C_drewN ?_ _)|(with_reducible refine Kd.C_drew ?_)));(case side4 => exact (Kd.R_reads' HO444.out).2.1);rintro e w14 ⟨v449,rfl,ho0,hb⟩;have n0_:=aM (Kd.N_elder' (by (with_reducible repeat (first|apply Kd.N_alloc|apply Kd.N_drewN|apply Kd.N_drew));exact HO441.out) (Kd.R_base ho0) hb);have n1_:=aM (Kd.R_below (by (with_reducible repeat (first|apply Kd.R_alloc|apply Kd.R_drewN|apply Kd.R_drew));exact HO444.out) hb);have n2_:=aM (Kd.V_elder' (by (with_reducible repeat (first|apply Kd.V_alloc|apply Kd.V_drewN|apply Kd.V_drew));exact HO447.out) (Kd.R_base ho0) hb);have n3_:=aM (Kd.R_lower ho0 (below_size (by repeat (first|(with_reducible first|exact HB.out|apply bA|apply bN|apply bD)|exact HB.out))));have n4_:=aM (below_step (by repeat (first|(with_reducible first|exact HB.out|apply bA|apply bN|apply bD)|exact HB.out)) hb);clear HO441;clear HO444;clear HO447;clear HB;have HO441:=n0_;have HO444:=n1_;have HO447:=n2_;have HO450:=n3_;have HB:=n4_;clear n0_ n1_ n2_ n3_ n4_;(try clear hb);(try clear hb2);(try clear hk);(try clear hi);(try clear ho0);obtain ⟨Ao15,co15,eo15⟩:=Kd.V_slice HO447.out;subst eo15;obtain ⟨Ao16,co16,eo16⟩:=Kd.R_slice HO450.out;subst eo16)|(go_at_call 29;(with_reducible refine (laws_lwInts.calls k _ _ t445 _ _ t448 true _ ?side1 ?side2 ?side3 ?side4 A11.out).mono ?_);(case side1 => repeat (first|exact (Kd.V_reads' HO447.out).2.2|(with_reducible refine Kd.C_alloc ?_ _)|(with_reducible refine Kd.C_drewN ?_ _)|(with_reducible refine Kd.C_drew ?_)));(case side2 => exact (Kd.V_reads' HO447.out).2.1);(case side3 => repeat (first|exact (Kd.R_reads' HO450.out).2.2|(with_reducible refine Kd.C_alloc ?_ _)|(with_reducible refine Kd.C_drewN ?_ _)|(with_reducible refine Kd.C_drew ?_)));(case side4 => exact (Kd.R_reads' HO450.out).2.1);rintro e w' ⟨rfl,⟨nd,rfl⟩⟩;(try first|exact ⟨rfl,_,World.drewN_drewN _ _ _⟩|exact ⟨rfl,_,Eq.trans (World.drewN_drewN _ _ _) (congrArg (World.drewN _) (Nat.add_assoc _ _ _))⟩))|(go_at_call 26;(with_reducible refine (spec_VotesOk.calls k _ _ t439 t452 _ ?side1 ?side2 A13.out).mono ?_);(case side1 => repeat (first|exact (Kd.N_reads' HO441.out).2.2|(with_reducible refine Kd.C_alloc ?_ _)|(with_reducible refine Kd.C_drewN ?_ _)|(with_reducible refine Kd.C_drew ?_)));(case side2 => exact (Kd.N_reads' HO441.out).2.1);rintro e w17 ⟨rfl,hb⟩;have n0_:=aM (Kd.N_below (by (with_reducible repeat (first|apply Kd.N_alloc|apply Kd.N_drewN|apply Kd.N_drew));exact HO441.out) hb);have n1_:=aM (Kd.R_below (by (with_reducible repeat (first|apply Kd.R_alloc|apply Kd.R_drewN|apply Kd.R_drew));exact HO444.out) hb);have n2_:=aM (Kd.V_below (by (with_reducible repeat (first|apply Kd.V_alloc|apply Kd.V_drewN|apply Kd.V_drew));exact HO447.out) hb);have n3_:=aM (Kd.R_below (by (with_reducible repeat (first|apply Kd.R_alloc|apply Kd.R_drewN|apply Kd.R_drew));exact HO450.out) hb);have n4_:=aM (below_step (by repeat (first|(with_reducible first|exact HB.out|apply bA|apply bN|apply bD)|exact HB.out)) hb);clear HO441;clear HO444;clear HO447;clear HO450;clear HB;have HO441:=n0_;have HO444:=n1_;have HO447:=n2_;have HO450:=n3_;have HB:=n4_;clear n0_ n1_ n2_ n3_ n4_;(try clear hb);(try clear hb2);(try clear hk);(try clear hi))))
    go_meet
    case rel => exact ⟨_,(!t452),(by first|rfl|(simp;done)|(simp [*];done)),H',⟨by first|omega|exact Nat.le_refl _⟩,⟨by (with_reducible repeat (first|apply Kd.N_alloc|apply Kd.N_drewN|apply Kd.N_drew));exact Kd.N_mono HO441.out (fun _ hk => hk.1)⟩,⟨by (with_reducible repeat (first|apply Kd.R_alloc|apply Kd.R_drewN|apply Kd.R_drew));exact HO444.out⟩,⟨by (with_reducible repeat (first|apply Kd.V_alloc|apply Kd.V_drewN|apply Kd.V_drew));exact Kd.V_mono HO447.out (fun _ hk => ⟨hk.1.1,hk.1.2⟩)⟩,⟨by repeat (first|(with_reducible first|exact HB.out|apply bA|apply bN|apply bD)|exact HB.out)⟩⟩
   ·replace c12:=Bool.eq_false_iff.mpr c12
    subst c12
    have H1 : (laws_FnForMost.j0 k t439 t442 t445 true) = some r:=by rw [if_neg (show ¬ (false = true) by decide)] at H;exact H
    clear H
    have H:=H1
    clear H1
    have H':=aM H
    clear H
    go_wp2_with (first|(go_at_call 18;(with_reducible refine (spec_VotesFor.calls k _ _ t439 _ _ t442 t448 _ ?side1 ?side2 ?side3 ?side4 A10.out).mono ?_);(case side1 => repeat (first|exact (Kd.N_reads' HO441.out).2.2|(with_reducible refine Kd.C_alloc ?_ _)|(with_reducible refine Kd.C_drewN ?_ _)|(with_reducible refine Kd.C_drew ?_)));(case side2 => exact (Kd.N_reads' HO441.out).2.1);(case side3 => repeat (first|exact (Kd.R_reads' HO444.out).2.2|(with_reducible refine Kd.C_alloc ?_ _)|(with_reducible refine Kd.C_drewN ?_ _)|(with_reducible refine Kd.C_drew ?_)));(case side4 => exact (Kd.R_reads' HO444.out).2.1);rintro e w18 ⟨v449,rfl,ho0,hb⟩;have n0_:=aM (Kd.N_elder' (by (with_reducible repeat (first|apply Kd.N_alloc|apply Kd.N_drewN|apply Kd.N_drew));exact HO441.out) (Kd.R_base ho0) hb);have n1_:=aM (Kd.R_below (by (with_reducible repeat (first|apply Kd.R_alloc|apply Kd.R_drewN|apply Kd.R_drew));exact HO444.out) hb);have n2_:=aM (Kd.V_elder' (by (with_reducible repeat (first|apply Kd.V_alloc|apply Kd.V_drewN|apply Kd.V_drew));exact HO447.out) (Kd.R_base ho0) hb);have n3_:=aM (Kd.R_lower ho0 (below_size (by repeat (first|(with_reducible first|exact HB.out|apply bA|apply bN|apply bD)|exact HB.out))));have n4_:=aM (below_step (by repeat (first|(with_reducible first|exact HB.out|apply bA|apply bN|apply bD)|exact HB.out)) hb);clear HO441;clear HO444;clear HO447;clear HB;have HO441:=n0_;have HO444:=n1_;have HO447:=n2_;have HO450:=n3_;have HB:=n4_;clear n0_ n1_ n2_ n3_ n4_;(try clear hb);(try clear hb2);(try clear hk);(try clear hi);(try clear ho0);obtain ⟨Ao19,co19,eo19⟩:=Kd.V_slice HO447.out;subst eo19;obtain ⟨Ao20,co20,eo20⟩:=Kd.R_slice HO450.out;subst eo20)|(go_at_call 29;(with_reducible refine (laws_lwInts.calls k _ _ t445 _ _ t448 false _ ?side1 ?side2 ?side3 ?side4 A11.out).mono ?_);(case side1 => repeat (first|exact (Kd.V_reads' HO447.out).2.2|(with_reducible refine Kd.C_alloc ?_ _)|(with_reducible refine Kd.C_drewN ?_ _)|(with_reducible refine Kd.C_drew ?_)));(case side2 => exact (Kd.V_reads' HO447.out).2.1);(case side3 => repeat (first|exact (Kd.R_reads' HO450.out).2.2|(with_reducible refine Kd.C_alloc ?_ _)|(with_reducible refine Kd.C_drewN ?_ _)|(with_reducible refine Kd.C_drew ?_)));(case side4 => exact (Kd.R_reads' HO450.out).2.1);rintro e w' ⟨rfl,⟨nd,rfl⟩⟩;(try first|exact ⟨rfl,_,World.drewN_drewN _ _ _⟩|exact ⟨rfl,_,Eq.trans (World.drewN_drewN _ _ _) (congrArg (World.drewN _) (Nat.add_assoc _ _ _))⟩)))
    repeat (go_quiet (first|(go_at_call 18;(with_reducible refine (spec_VotesFor.calls k _ _ t439 _ _ t442 t448 _ ?side1 ?side2 ?side3 ?side4 A10.out).mono ?_);(case side1 => repeat (first|exact (Kd.N_reads' HO441.out).2.2|(with_reducible refine Kd.C_alloc ?_ _)|(with_reducible refine Kd.C_drewN ?_ _)|(with_reducible refine Kd.C_drew ?_)));(case side2 => exact (Kd.N_reads' HO441.out).2.1);(case side3 => repeat (first|exact (Kd.R_reads' HO444.out).2.2|(with_reducible refine Kd.C_alloc ?_ _)|(with_reducible refine Kd.C_drewN ?_ _)|(with_reducible refine Kd.C_drew ?_)));(case side4 => exact (Kd.R_reads' HO444.out).2.1);rintro e w18 ⟨v449,rfl,ho0,hb⟩;have n0_:=aM (Kd.N_elder' (by (with_reducible repeat (first|apply Kd.N_alloc|apply Kd.N_drewN|apply Kd.N_drew));exact HO441.out) (Kd.R_base ho0) hb);have n1_:=aM (Kd.R_below (by (with_reducible repeat (first|apply Kd.R_alloc|apply Kd.R_drewN|apply Kd.R_drew));exact HO444.out) hb);have n2_:=aM (Kd.V_elder' (by (with_reducible repeat (first|apply Kd.V_alloc|apply Kd.V_drewN|apply Kd.V_drew));exact HO447.out) (Kd.R_base ho0) hb);have n3_:=aM (Kd.R_lower ho0 (below_size (by repeat (first|(with_reducible first|exact HB.out|apply bA|apply bN|apply bD)|exact HB.out))));have n4_:=aM (below_step (by repeat (first|(with_reducible first|exact HB.out|apply bA|apply bN|apply bD)|exact HB.out)) hb);clear HO441;clear HO444;clear HO447;clear HB;have HO441:=n0_;have HO444:=n1_;have HO447:=n2_;have HO450:=n3_;have HB:=n4_;clear n0_ n1_ n2_ n3_ n4_;(try clear hb);(try clear hb2);(try clear hk);(try clear hi);(try clear ho0);obtain ⟨Ao19,co19,eo19⟩:=Kd.V_slice HO447.out;subst eo19;obtain ⟨Ao20,co20,eo20⟩:=Kd.R_slice HO450.out;subst eo20)|(go_at_call 29;(with_reducible refine (laws_lwInts.calls k _ _ t445 _ _ t448 false _ ?side1 ?side2 ?side3 ?side4 A11.out).mono ?_);(case side1 => repeat (first|exact (Kd.V_reads' HO447.out).2.2|(with_reducible refine Kd.C_alloc ?_ _)|(with_reducible refine Kd.C_drewN ?_ _)|(with_reducible refine Kd.C_drew ?_)));(case side2 => exact (Kd.V_reads' HO447.out).2.1);(case side3 => repeat (first|exact (Kd.R_reads' HO450.out).2.2|(with_reducible refine Kd.C_alloc ?_ _)|(with_reducible refine Kd.C_drewN ?_ _)|(with_reducible refine Kd.C_drew ?_)));(case side4 => exact (Kd.R_reads' HO450.out).2.1);rintro e w' ⟨rfl,⟨nd,rfl⟩⟩;(try first|exact ⟨rfl,_,World.drewN_drewN _ _ _⟩|exact ⟨rfl,_,Eq.trans (World.drewN_drewN _ _ _) (congrArg (World.drewN _) (Nat.add_assoc _ _ _))⟩)));try go_wp2_with (first|(go_at_call 18;(with_reducible refine (spec_VotesFor.calls k _ _ t439 _ _ t442 t448 _ ?side1 ?side2 ?side3 ?side4 A10.out).mono ?_);(case side1 => repeat (first|exact (Kd.N_reads' HO441.out).2.2|(with_reducible refine Kd.C_alloc ?_ _)|(with_reducible refine Kd.C_drewN ?_ _)|(with_reducible refine Kd.C_drew ?_)));(case side2 => exact (Kd.N_reads' HO441.out).2.1);(case side3 => repeat (first|exact (Kd.R_reads' HO444.out).2.2|(with_reducible refine Kd.C_alloc ?_ _)|(with_reducible refine Kd.C_drewN ?_ _)|(with_reducible refine Kd.C_drew ?_)));(case side4 => exact (Kd.R_reads' HO444.out).2.1);rintro e w18 ⟨v449,rfl,ho0,hb⟩;have n0_:=aM (Kd.N_elder' (by (with_reducible repeat (first|apply Kd.N_alloc|apply Kd.N_drewN|apply Kd.N_drew));exact HO441.out) (Kd.R_base ho0) hb);have n1_:=aM (Kd.R_below (by (with_reducible repeat (first|apply Kd.R_alloc|apply Kd.R_drewN|apply Kd.R_drew));exact HO444.out) hb);have n2_:=aM (Kd.V_elder' (by (with_reducible repeat (first|apply Kd.V_alloc|apply Kd.V_drewN|apply Kd.V_drew));exact HO447.out) (Kd.R_base ho0) hb);have n3_:=aM (Kd.R_lower ho0 (below_size (by repeat (first|(with_reducible first|exact HB.out|apply bA|apply bN|apply bD)|exact HB.out))));have n4_:=aM (below_step (by repeat (first|(with_reducible first|exact HB.out|apply bA|apply bN|apply bD)|exact HB.out)) hb);clear HO441;clear HO444;clear HO447;clear HB;have HO441:=n0_;have HO444:=n1_;have HO447:=n2_;have HO450:=n3_;have HB:=n4_;clear n0_ n1_ n2_ n3_ n4_;(try clear hb);(try clear hb2);(try clear hk);(try clear hi);(try clear ho0);obtain ⟨Ao19,co19,eo19⟩:=Kd.V_slice HO447.out;subst eo19;obtain ⟨Ao20,co20,eo20⟩:=Kd.R_slice HO450.out;subst eo20)|(go_at_call 29;(with_reducible refine (laws_lwInts.calls k _ _ t445 _ _ t448 false _ ?side1 ?side2 ?side3 ?side4 A11.out).mono ?_);(case side1 => repeat (first|exact (Kd.V_reads' HO447.out).2.2|(with_reducible refine Kd.C_alloc ?_ _)|(with_reducible refine Kd.C_drewN ?_ _)|(with_reducible refine Kd.C_drew ?_)));(case side2 => exact (Kd.V_reads' HO447.out).2.1);(case side3 => repeat (first|exact (Kd.R_reads' HO450.out).2.2|(with_reducible refine Kd.C_alloc ?_ _)|(with_reducible refine Kd.C_drewN ?_ _)|(with_reducible refine Kd.C_drew ?_)));(case side4 => exact (Kd.R_reads' HO450.out).2.1);rintro e w' ⟨rfl,⟨nd,rfl⟩⟩;(try first|exact ⟨rfl,_,World.drewN_drewN _ _ _⟩|exact ⟨rfl,_,Eq.trans (World.drewN_drewN _ _ _) (congrArg (World.drewN _) (Nat.add_assoc _ _ _))⟩))))
    go_meet
    case rel => exact ⟨_,(true),(by first|rfl|(simp;done)|(simp [*];done)),H',⟨by first|omega|exact Nat.le_refl _⟩,⟨by (with_reducible repeat (first|apply Kd.N_alloc|apply Kd.N_drewN|apply Kd.N_drew));exact Kd.N_mono HO441.out (fun _ hk => hk.1)⟩,⟨by (with_reducible repeat (first|apply Kd.R_alloc|apply Kd.R_drewN|apply Kd.R_drew));exact HO444.out⟩,⟨by (with_reducible repeat (first|apply Kd.V_alloc|apply Kd.V_drewN|apply Kd.V_drew));exact Kd.V_mono HO447.out (fun _ hk => ⟨hk.1.1,hk.1.2⟩)⟩,⟨by repeat (first|(with_reducible first|exact HB.out|apply bA|apply bN|apply bD)|exact HB.out)⟩⟩
  case rest =>
   clear HC5
   try clear c1
   try clear c2
   try clear c2b0
   try clear c2b1
   try clear p2
   try clear c7
   try clear c12
   obtain ⟨kq,x32_4,rfl,HA,HJ4,HO_3,HO_4,HO_5,HB⟩:=hcut
   cases kq with
   | zero => exact absurd HA.out (by simp [laws_FnForMost.j0])
   | succ kj4 =>
    have H:=HA.out
    clear HA
    simp only [laws_FnForMost.j0] at H
    by_cases c21 : x32_4 = true
    ·subst c21
     have H1 : ((spec_VotesFor.f kj4 t439 t442).bind fun t453 => ((laws_lwInts.f kj4 t445 t453).bind fun t456 => (some t456))) = some r:=by rw [if_pos rfl] at H;exact H
     clear H
     have H:=H1
     clear H1
     replace H:=Option.bind_eq_some_iff.mp H
     obtain ⟨t453,A220,H⟩:=H
     replace H : ((laws_lwInts.f kj4 t445 t453).bind fun t456 => (some t456)) = some r:=H
     have A22:=aM A220
     clear A220
     replace H:=Option.bind_eq_some_iff.mp H
     obtain ⟨t456,A230,H⟩:=H
     replace H : (some t456) = some r:=H
     have A23:=aM A230
     clear A230
     obtain rfl:=Option.some.inj H
     go_wp2_with (first|(go_at_call 18;(with_reducible refine (spec_VotesFor.calls kj4 _ _ t439 _ _ t442 t453 _ ?side1 ?side2 ?side3 ?side4 A22.out).mono ?_);(case side1 => repeat (first|exact (Kd.N_reads' HO_3.out).2.2|(with_reducible refine Kd.C_alloc ?_ _)|(with_reducible refine Kd.C_drewN ?_ _)|(with_reducible refine Kd.C_drew ?_)));(case side2 => exact (Kd.N_reads' HO_3.out).2.1);(case side3 => repeat (first|exact (Kd.R_reads' HO_4.out).2.2|(with_reducible refine Kd.C_alloc ?_ _)|(with_reducible refine Kd.C_drewN ?_ _)|(with_reducible refine Kd.C_drew ?_)));(case side4 => exact (Kd.R_reads' HO_4.out).2.1);rintro e w24 ⟨v454,rfl,ho0,hb⟩;have n0_:=aM (Kd.N_elder' (by (with_reducible repeat (first|apply Kd.N_alloc|apply Kd.N_drewN|apply Kd.N_drew));exact HO_3.out) (Kd.R_base ho0) hb);have n1_:=aM (Kd.R_below (by (with_reducible repeat (first|apply Kd.R_alloc|apply Kd.R_drewN|apply Kd.R_drew));exact HO_4.out) hb);have n2_:=aM (Kd.V_elder' (by (with_reducible repeat (first|apply Kd.V_alloc|apply Kd.V_drewN|apply Kd.V_drew));exact HO_5.out) (Kd.R_base ho0) hb);have n3_:=aM (Kd.R_lower ho0 (below_size (by repeat (first|(with_reducible first|exact HB.out|apply bA|apply bN|apply bD)|exact HB.out))));have n4_:=aM (below_step (by repeat (first|(with_reducible first|exact HB.out|apply bA|apply bN|apply bD)|exact HB.out)) hb);clear HO_3;clear HO_4;clear HO_5;clear HB;have HO_3:=n0_;have HO_4:=n1_;have HO_5:=n2_;have HO455:=n3_;have HB:=n4_;clear n0_ n1_ n2_ n3_ n4_;(try clear hb);(try clear hb2);(try clear hk);(try clear hi);(try clear ho0);obtain ⟨Ao25,co25,eo25⟩:=Kd.V_slice HO_5.out;subst eo25;obtain ⟨Ao26,co26,eo26⟩:=Kd.R_slice HO455.out;subst eo26)|(go_at_call 29;(with_reducible refine (laws_lwInts.calls kj4 _ _ t445 _ _ t453 t456 _ ?side1 ?side2 ?side3 ?side4 A23.out).mono ?_);(case side1 => repeat (first|exact (Kd.V_reads' HO_5.out).2.2|(with_reducible refine Kd.C_alloc ?_ _)|(with_reducible refine Kd.C_drewN ?_ _)|(with_reducible refine Kd.C_drew ?_)));(case side2 => exact (Kd.V_reads' HO_5.out).2.1);(case side3 => repeat (first|exact (Kd.R_reads' HO455.out).2.2|(with_reducible refine Kd.C_alloc ?_ _)|(with_reducible refine Kd.C_drewN ?_ _)|(with_reducible refine Kd.C_drew ?_)));(case side4 => exact (Kd.R_reads' HO455.out).2.1);rintro e w' ⟨rfl,⟨nd,rfl⟩⟩;(try first|exact ⟨rfl,_,World.drewN_drewN _ _ _⟩|exact ⟨rfl,_,Eq.trans (World.drewN_drewN _ _ _) (congrArg (World.drewN _) (Nat.add_assoc _ _ _))⟩)))
     repeat (go_quiet (first|(go_at_call 18;(with_reducible refine (spec_VotesFor.calls kj4 _ _ t439 _ _ t442 t453 _ ?side1 ?side2 ?side3 ?side4 A22.out).mono ?_);(case side1 => repeat (first|exact (Kd.N_reads' HO_3.out).2.2|(with_reducible refine Kd.C_alloc ?_ _)|(with_reducible refine Kd.C_drewN ?_ _)|(with_reducible refine Kd.C_drew ?_)));(case side2 => exact (Kd.N_reads' HO_3.out).2.1);(case side3 => repeat (first|exact (Kd.R_reads' HO_4.out).2.2|(with_reducible refine Kd.C_alloc ?_ _)|(with_reducible refine Kd.C_drewN ?_ _)|(with_reducible refine Kd.C_drew ?_)));(case side4 => exact (Kd.R_reads' HO_4.out).2.1);rintro e w24 ⟨v454,rfl,ho0,hb⟩;have n0_:=aM (Kd.N_elder' (by (with_reducible repeat (first|apply Kd.N_alloc|apply Kd.N_drewN|apply Kd.N_drew));exact HO_3.out) (Kd.R_base ho0) hb);have n1_:=aM (Kd.R_below (by (with_reducible repeat (first|apply Kd.R_alloc|apply Kd.R_drewN|apply Kd.R_drew));exact HO_4.out) hb);have n2_:=aM (Kd.V_elder' (by (with_reducible repeat (first|apply Kd.V_alloc|apply Kd.V_drewN|apply Kd.V_drew));exact HO_5.out) (Kd.R_base ho0) hb);have n3_:=aM (Kd.R_lower ho0 (below_size (by repeat (first|(with_reducible first|exact HB.out|apply bA|apply bN|apply bD)|exact HB.out))));have n4_:=aM (below_step (by repeat (first|(with_reducible first|exact HB.out|apply bA|apply bN|apply bD)|exact HB.out)) hb);clear HO_3;clear HO_4;clear HO_5;clear HB;have HO_3:=n0_;have HO_4:=n1_;have HO_5:=n2_;have HO455:=n3_;have HB:=n4_;clear n0_ n1_ n2_ n3_ n4_;(try clear hb);(try clear hb2);(try clear hk);(try clear hi);(try clear ho0);obtain ⟨Ao25,co25,eo25⟩:=Kd.V_slice HO_5.out;subst eo25;obtain ⟨Ao26,co26,eo26⟩:=Kd.R_slice HO455.out;subst eo26)|(go_at_call 29;(with_reducible refine (laws_lwInts.calls kj4 _ _ t445 _ _ t453 t456 _ ?side1 ?side2 ?side3 ?side4 A23.out).mono ?_);(case side1 => repeat (first|exact (Kd.V_reads' HO_5.out).2.2|(with_reducible refine Kd.C_alloc ?_ _)|(with_reducible refine Kd.C_drewN ?_ _)|(with_reducible refine Kd.C_drew ?_)));(case side2 => exact (Kd.V_reads' HO_5.out).2.1);(case side3 => repeat (first|exact (Kd.R_reads' HO455.out).2.2|(with_reducible refine Kd.C_alloc ?_ _)|(with_reducible refine Kd.C_drewN ?_ _)|(with_reducible refine Kd.C_drew ?_)));(case side4 => exact (Kd.R_reads' HO455.out).2.1);rintro e w' ⟨rfl,⟨nd,rfl⟩⟩;(try first|exact ⟨rfl,_,World.drewN_drewN _ _ _⟩|exact ⟨rfl,_,Eq.trans (World.drewN_drewN _ _ _) (congrArg (World.drewN _) (Nat.add_assoc _ _ _))⟩)));try go_wp2_with (first|(go_at_call 18;(with_reducible refine (spec_VotesFor.calls kj4 _ _ t439 _ _ t442 t453 _ ?side1 ?side2 ?side3 ?side4 A22.out).mono ?_);(case side1 => repeat (first|exact (Kd.N_reads' HO_3.out).2.2|(with_reducible refine Kd.C_alloc ?_ _)|(with_reducible refine Kd.C_drewN ?_ _)|(with_reducible refine Kd.C_drew ?_)));(case side2 => exact (Kd.N_reads' HO_3.out).2.1);(case side3 => repeat (first|exact (Kd.R_reads' HO_4.out).2.2|(with_reducible refine Kd.C_alloc ?_ _)|(with_reducible refine Kd.C_drewN ?_ _)|(with_reducible refine Kd.C_drew ?_)));(case side4 => exact (Kd.R_reads' HO_4.out).2.1);rintro e w24 ⟨v454,rfl,ho0,hb⟩;have n0_:=aM (Kd.N_elder' (by (with_reducible repeat (first|apply Kd.N_alloc|apply Kd.N_drewN|apply Kd.N_drew));exact HO_3.out) (Kd.R_base ho0) hb);have n1_:=aM (Kd.R_below (by (with_reducible repeat (first|apply Kd.R_alloc|apply Kd.R_drewN|apply Kd.R_drew));exact HO_4.out) hb);have n2_:=aM (Kd.V_elder' (by (with_reducible repeat (first|apply Kd.V_alloc|apply Kd.V_drewN|apply Kd.V_drew));exact HO_5.out) (Kd.R_base ho0) hb);have n3_:=aM (Kd.R_lower ho0 (below_size (by repeat (first|(with_reducible first|exact HB.out|apply bA|apply bN|apply bD)|exact HB.out))));have n4_:=aM (below_step (by repeat (first|(with_reducible first|exact HB.out|apply bA|apply bN|apply bD)|exact HB.out)) hb);clear HO_3;clear HO_4;clear HO_5;clear HB;have HO_3:=n0_;have HO_4:=n1_;have HO_5:=n2_;have HO455:=n3_;have HB:=n4_;clear n0_ n1_ n2_ n3_ n4_;(try clear hb);(try clear hb2);(try clear hk);(try clear hi);(try clear ho0);obtain ⟨Ao25,co25,eo25⟩:=Kd.V_slice HO_5.out;subst eo25;obtain ⟨Ao26,co26,eo26⟩:=Kd.R_slice HO455.out;subst eo26)|(go_at_call 29;(with_reducible refine (laws_lwInts.calls kj4 _ _ t445 _ _ t453 t456 _ ?side1 ?side2 ?side3 ?side4 A23.out).mono ?_);(case side1 => repeat (first|exact (Kd.V_reads' HO_5.out).2.2|(with_reducible refine Kd.C_alloc ?_ _)|(with_reducible refine Kd.C_drewN ?_ _)|(with_reducible refine Kd.C_drew ?_)));(case side2 => exact (Kd.V_reads' HO_5.out).2.1);(case side3 => repeat (first|exact (Kd.R_reads' HO455.out).2.2|(with_reducible refine Kd.C_alloc ?_ _)|(with_reducible refine Kd.C_drewN ?_ _)|(with_reducible refine Kd.C_drew ?_)));(case side4 => exact (Kd.R_reads' HO455.out).2.1);rintro e w' ⟨rfl,⟨nd,rfl⟩⟩;(try first|exact ⟨rfl,_,World.drewN_drewN _ _ _⟩|exact ⟨rfl,_,Eq.trans (World.drewN_drewN _ _ _) (congrArg (World.drewN _) (Nat.add_assoc _ _ _))⟩))))
     go_ret
     exact ⟨by first|rfl|(simp only [i64_w,i32_w];done)|(simp only [i64_w,i32_w];rfl)|(simp [errW_none,errW_some] <;> rfl)|(simp [*,errW_none,errW_some] <;> rfl),by repeat (first|(with_reducible first|exact HB.out|apply bA|apply bN|apply bD)|exact HB.out)⟩
    ·replace c21:=Bool.eq_false_iff.mpr c21
     subst c21
     have H1 : (laws_FnForMost.l0 kj4 t439 0 0) = some r:=by rw [if_neg (show ¬ (false = true) by decide)] at H;exact H
     clear H
     have H:=H1
     clear H1
     have H':=aM H
     clear H
     go_wp2
     repeat (go_quiet (fail);try go_wp2)
     go_loopg [6,7] kj4 (fun kq v6 v7 w' => ∃ (x6_2 : Int) (x7_2 : Int),v6 = .int .i64 x6_2 ∧ v7 = .int .i64 x7_2 ∧ Aside0 (laws_FnForMost.l0 kq t439 x6_2 x7_2 = some r) ∧ Aside0 (kq ≤ kj4) ∧ Aside0 (Kd.N k48 48 w' w.heap.size (fun _ => True) (.slice Ao7 t439.length co7) t439) ∧ Aside0 (Below w.heap.size w w'))
     case atStart => exact ⟨(0),(0),(by first|rfl|(simp;done)|(simp [*];done)),(by first|rfl|(simp;done)|(simp [*];done)),H',⟨Nat.le_refl _⟩,⟨by (with_reducible repeat (first|apply Kd.N_alloc|apply Kd.N_drewN|apply Kd.N_drew));exact Kd.N_mono HO_3.out (fun _ hk => trivial)⟩,⟨by repeat (first|(with_reducible first|exact HB.out|apply bA|apply bN|apply bD)|exact HB.out)⟩⟩
     case round =>
      clear H'
      try clear c1
      try clear c2
      try clear c2b0
      try clear c2b1
      try clear p2
      try clear c7
      try clear c12
      try clear c21
      try clear p2
      obtain ⟨x6_2,x7_2,rfl,rfl,HA,HK2,HO_3,HB⟩:=hrel
      cases gk with
      | zero => exact absurd HA.out (by simp [laws_FnForMost.l0])
      | succ k2 =>
       have H:=HA.out
       clear HA
       simp only [laws_FnForMost.l0] at H
       by_cases c27 : x7_2 < (t439.length : Int)
       ·rw [if_pos c27] at H
        have c27b0 : decide (x7_2 < (t439.length : Int)) = true:=decide_eq_true c27
        clear c27
        have H':=aM H
        clear H
        go_wp2
        repeat (go_quiet (fail);try go_wp2)
        go_loopg [8,9] k2 (fun kq v8 v9 w' => ∃ (x8_3 : Bool) (x9_3 : Int),v8 = .bool x8_3 ∧ v9 = .int .i64 x9_3 ∧ Aside0 (laws_FnForMost.l1 kq t439 x6_2 x7_2 x8_3 x9_3 = some r) ∧ Aside0 (kq ≤ k2) ∧ Aside0 (Kd.N k48 48 w' w.heap.size (fun _ => True) (.slice Ao7 t439.length co7) t439) ∧ Aside0 (Below w.heap.size w w'))
        case atStart => exact ⟨(true),(0),(by first|rfl|(simp;done)|(simp [*];done)),(by first|rfl|(simp;done)|(simp [*];done)),H',⟨Nat.le_refl _⟩,⟨by (with_reducible repeat (first|apply Kd.N_alloc|apply Kd.N_drewN|apply Kd.N_drew));exact HO_3.out⟩,⟨by repeat (first|(with_reducible first|exact HB.out|apply bA|apply bN|apply bD)|exact HB.out)⟩⟩
        case round =>
         clear H'
         try clear c1
         try clear c2
         try clear c2b0
         try clear c2b1
         try clear p2
         try clear c7
         try clear c12
         try clear c21
         try clear c27
         try clear c27b0
         try clear p2
         obtain ⟨x8_3,x9_3,rfl,rfl,HA,HK3,HO_3,HB⟩:=hrel
         cases gk with
         | zero => exact absurd HA.out (by simp [laws_FnForMost.l1])
         | succ k3 =>
          have H:=HA.out
          clear HA
          simp only [laws_FnForMost.l1] at H
          by_cases c28 : x9_3 < x7_2
          ·rw [if_pos c28] at H
           have c28b0 : decide (x9_3 < x7_2) = true:=decide_eq_true c28
           clear c28
           by_cases c29 : x8_3 = true
           ·subst c29
            have H1 : (if 0 ≤ x9_3 then (if x9_3 < (t439.length : Int) then (if 0 ≤ x7_2 then (if x7_2 < (t439.length : Int) then ((laws_lwSame.f k3 ((rd_T48 t439 x9_3).f1) ((rd_T48 t439 x7_2).f1)).bind fun t459 => (laws_FnForMost.l1 k3 t439 x6_2 x7_2 (!t459) (wrap64 (x9_3 + 1)))) else (none)) else (none)) else (none)) else (none)) = some r:=by rw [if_pos rfl] at H;exact H
            clear H
            have H:=H1
            clear H1
            by_cases c30 : 0 ≤ x9_3
            case neg => rw [if_neg c30] at H;exact absurd H (by simp)
            rw [if_pos c30] at H
            have c30b0 : decide (0 ≤ x9_3) = true:=decide_eq_true c30
            clear c30
            by_cases c31 : x9_3 < (t439.length : Int)
            case neg => rw [if_neg c31] at H;exact absurd H (by simp)
            rw [if_pos c31] at H
            have c31b0 : decide (x9_3 < (t439.length : Int)) = true:=decide_eq_true c31
            clear c31
            by_cases c32 : 0 ≤ x7_2
            case neg => rw [if_neg c32] at H;exact absurd H (by simp)
            rw [if_pos c32] at H
            have c32b0 : decide (0 ≤ x7_2) = true:=decide_eq_true c32
            clear c32
            by_cases c33 : x7_2 < (t439.length : Int)
            case neg => rw [if_neg c33] at H;exact absurd H (by simp)
            rw [if_pos c33] at H
            have c33b0 : decide (x7_2 < (t439.length : Int)) = true:=decide_eq_true c33
            clear c33
            replace H:=Option.bind_eq_some_iff.mp H
            obtain ⟨t459,A340,H⟩:=H
            replace H : (laws_FnForMost.l1 k3 t439 x6_2 x7_2 (!t459) (wrap64 (x9_3 + 1))) = some r:=H
            have A34:=aM A340
            clear A340
            have H':=aM H
            clear H
            have p457 : 0 ≤ (x9_3 : Int):=of_decide_eq_true (by first|(with_reducible assumption)|assumption)
            have q457 : x9_3 < (t439.length : Int):=of_decide_eq_true (by first|(with_reducible assumption)|assumption)
            obtain ⟨ad457,A457_1,c457_1,e457,hx457_0,hx457_1,hl457_1,hi457_1⟩:=at_T48 (Kd.N_reads' HO_3.out).2.2 x9_3 p457 q457
            cases e457
            obtain ⟨ce457,hce457,hMe457,hcc457⟩:=Kd.N_get HO_3.out z48 x9_3 p457 (by first|exact q457|exact of_decide_eq_true (by first|(with_reducible assumption)|assumption)|(have e_:=(Kd.N_reads' HO_3.out).1;omega))
            obtain ⟨ua457_1,uc457_1,rfl,ul457_1,ge457_1⟩:=k48_openF hMe457
            have hv457_1:=hcc457 1 _ rfl
            rw [add_field _ _ 1 (by omega)] at hv457_1
            replace hv457_1:=Option.some.inj (hv457_1.symm.trans hx457_1)
            injection hv457_1 with hva_ hvn_ hvc_
            rw [hva_] at ge457_1
            rw [hvc_] at ul457_1
            have HL457_1:=aM (show Kd.V k58 58 _ w.heap.size _ _ ((rd_T48 t439 x9_3).f1) from Kd.V_mk ul457_1 ge457_1)
            clear hva_ hvn_ hvc_ ge457_1 ul457_1
            clear hcc457 hce457
            have HR457_1:=aM hi457_1
            have HC457_1:=aM hl457_1
            clear hi457_1 hl457_1
            replace p457:=eq_true p457
            replace q457:=eq_true q457
            have p458 : 0 ≤ (x7_2 : Int):=of_decide_eq_true (by first|(with_reducible assumption)|assumption)
            have q458 : x7_2 < (t439.length : Int):=of_decide_eq_true (by first|(with_reducible assumption)|assumption)
            obtain ⟨ad458,A458_1,c458_1,e458,hx458_0,hx458_1,hl458_1,hi458_1⟩:=at_T48 (Kd.N_reads' HO_3.out).2.2 x7_2 p458 q458
            obtain rfl : ad457 = ad458:=(by injection e458)
            obtain ⟨ce458,hce458,hMe458,hcc458⟩:=Kd.N_get HO_3.out z48 x7_2 p458 (by first|exact q458|exact of_decide_eq_true (by first|(with_reducible assumption)|assumption)|(have e_:=(Kd.N_reads' HO_3.out).1;omega))
            obtain ⟨ua458_1,uc458_1,rfl,ul458_1,ge458_1⟩:=k48_openF hMe458
            have hv458_1:=hcc458 1 _ rfl
            rw [add_field _ _ 1 (by omega)] at hv458_1
            replace hv458_1:=Option.some.inj (hv458_1.symm.trans hx458_1)
            injection hv458_1 with hva_ hvn_ hvc_
            rw [hva_] at ge458_1
            rw [hvc_] at ul458_1
            have HL458_1:=aM (show Kd.V k58 58 _ w.heap.size _ _ ((rd_T48 t439 x7_2).f1) from Kd.V_mk ul458_1 ge458_1)
            clear hva_ hvn_ hvc_ ge458_1 ul458_1
            clear hcc458 hce458
            have HR458_1:=aM hi458_1
            have HC458_1:=aM hl458_1
            clear hi458_1 hl458_1
            replace p458:=eq_true p458
            replace q458:=eq_true q458
            go_wp2_with (first|(go_at_call 30;(with_reducible refine (laws_lwSame.calls k3 _ _ ((rd_T48 t439 x9_3).f1) _ _ ((rd_T48 t439 x7_2).f1) t459 _ ?side1 ?side2 ?side3 ?side4 A34.out).mono ?_);(case side1 => repeat (first|exact (by repeat (first|(with_reducible exact HR457_1.out)|(with_reducible refine Kd.C_alloc ?_ _)|(with_reducible refine Kd.C_drewN ?_ _)|(with_reducible refine Kd.C_drew ?_)|exact HR457_1.out))|(with_reducible refine Kd.C_alloc ?_ _)|(with_reducible refine Kd.C_drewN ?_ _)|(with_reducible refine Kd.C_drew ?_)));(case side2 => exact HC457_1.out);(case side3 => repeat (first|exact (by repeat (first|(with_reducible exact HR458_1.out)|(with_reducible refine Kd.C_alloc ?_ _)|(with_reducible refine Kd.C_drewN ?_ _)|(with_reducible refine Kd.C_drew ?_)|exact HR458_1.out))|(with_reducible refine Kd.C_alloc ?_ _)|(with_reducible refine Kd.C_drewN ?_ _)|(with_reducible refine Kd.C_drew ?_)));(case side4 => exact HC458_1.out);rintro e w' ⟨rfl,⟨nd,rfl⟩⟩;(try first|exact ⟨rfl,_,World.drewN_drewN _ _ _⟩|exact ⟨rfl,_,Eq.trans (World.drewN_drewN _ _ _) (congrArg (World.drewN _) (Nat.add_assoc _ _ _))⟩)))
            repeat (go_quiet (first|(go_at_call 30;(with_reducible refine (laws_lwSame.calls k3 _ _ ((rd_T48 t439 x9_3).f1) _ _ ((rd_T48 t439 x7_2).f1) t459 _ ?side1 ?side2 ?side3 ?side4 A34.out).mono ?_);(case side1 => repeat (first|exact (by repeat (first|(with_reducible exact HR457_1.out)|(with_reducible refine Kd.C_alloc ?_ _)|(with_reducible refine Kd.C_drewN ?_ _)|(with_reducible refine Kd.C_drew ?_)|exact HR457_1.out))|(with_reducible refine Kd.C_alloc ?_ _)|(with_reducible refine Kd.C_drewN ?_ _)|(with_reducible refine Kd.C_drew ?_)));(case side2 => exact HC457_1.out);(case side3 => repeat (first|exact (by repeat (first|(with_reducible exact HR458_1.out)|(with_reducible refine Kd.C_alloc ?_ _)|(with_reducible refine Kd.C_drewN ?_ _)|(with_reducible refine Kd.C_drew ?_)|exact HR458_1.out))|(with_reducible refine Kd.C_alloc ?_ _)|(with_reducible refine Kd.C_drewN ?_ _)|(with_reducible refine Kd.C_drew ?_)));(case side4 => exact HC458_1.out);rintro e w' ⟨rfl,⟨nd,rfl⟩⟩;(try first|exact ⟨rfl,_,World.drewN_drewN _ _ _⟩|exact ⟨rfl,_,Eq.trans (World.drewN_drewN _ _ _) (congrArg (World.drewN _) (Nat.add_assoc _ _ _))⟩)));try go_wp2_with (first|(go_at_call 30;(with_reducible refine (laws_lwSame.calls k3 _ _ ((rd_T48 t439 x9_3).f1) _ _ ((rd_T48 t439 x7_2).f1) t459 _ ?side1 ?side2 ?side3 ?side4 A34.out).mono ?_);(case side1 => repeat (first|exact (by repeat (first|(with_reducible exact HR457_1.out)|(with_reducible refine Kd.C_alloc ?_ _)|(with_reducible refine Kd.C_drewN ?_ _)|(with_reducible refine Kd.C_drew ?_)|exact HR457_1.out))|(with_reducible refine Kd.C_alloc ?_ _)|(with_reducible refine Kd.C_drewN ?_ _)|(with_reducible refine Kd.C_drew ?_)));(case side2 => exact HC457_1.out);(case side3 => repeat (first|exact (by repeat (first|(with_reducible exact HR458_1.out)|(with_reducible refine Kd.C_alloc ?_ _)|(with_reducible refine Kd.C_drewN ?_ _)|(with_reducible refine Kd.C_drew ?_)|exact HR458_1.out))|(with_reducible refine Kd.C_alloc ?_ _)|(with_reducible refine Kd.C_drewN ?_ _)|(with_reducible refine Kd.C_drew ?_)));(case side4 => exact HC458_1.out);rintro e w' ⟨rfl,⟨nd,rfl⟩⟩;(try first|exact ⟨rfl,_,World.drewN_drewN _ _ _⟩|exact ⟨rfl,_,Eq.trans (World.drewN_drewN _ _ _) (congrArg (World.drewN _) (Nat.add_assoc _ _ _))⟩))))
            go_roundg k3
            case measure => have:=HJ4.out;have:=HK2.out;have:=HK3.out;omega
            case rel => exact ⟨(!t459),(wrap64 (x9_3 + 1)),(by first|rfl|(simp;done)|(simp [*];done)),(by first|rfl|(simp;done)|(simp [*];done)),H',⟨by have:=HJ4.out;have:=HK2.out;have:=HK3.out;omega⟩,⟨by (with_reducible repeat (first|apply Kd.N_alloc|apply Kd.N_drewN|apply Kd.N_drew));exact HO_3.out⟩,⟨by repeat (first|(with_reducible first|exact HB.out|apply bA|apply bN|apply bD)|exact HB.out)⟩⟩
           ·replace c29:=Bool.eq_false_iff.mpr c29
            subst c29
            have H1 : (laws_FnForMost.l1 k3 t439 x6_2 x7_2 false (wrap64 (x9_3 + 1))) = some r:=by rw [if_neg (show ¬ (false = true) by decide)] at H;exact H
            clear H
            have H:=H1
            clear H1
            have H':=aM H
            clear H
            go_wp2
            repeat (go_quiet (fail);try go_wp2)
            go_roundg k3
            case measure => have:=HJ4.out;have:=HK2.out;have:=HK3.out;omega
            case rel => exact ⟨(false),(wrap64 (x9_3 + 1)),(by first|rfl|(simp;done)|(simp [*];done)),(by first|rfl|(simp;done)|(simp [*];done)),H',⟨by have:=HJ4.out;have:=HK2.out;have:=HK3.out;omega⟩,⟨by (with_reducible repeat (first|apply Kd.N_alloc|apply Kd.N_drewN|apply Kd.N_drew));exact HO_3.out⟩,⟨by repeat (first|(with_reducible first|exact HB.out|apply bA|apply bN|apply bD)|exact HB.out)⟩⟩
          ·rw [if_neg c28] at H
           have c28b0 : decide (x9_3 < x7_2) = false:=decide_eq_false c28
           clear c28
           by_cases c35 : x8_3 = true
           ·subst c35
            have H1 : (if 0 ≤ x7_2 then (if x7_2 < (t439.length : Int) then ((impl_VotesFor.f k3 t439 ((rd_T48 t439 x7_2).f1)).bind fun t461 => (if (t461.length : Int) < 1 then (some false) else (if (t461.length : Int) > 4 then (some false) else (laws_FnForMost.l0 k3 t439 (wrap64 (x6_2 + (t461.length : Int))) (wrap64 (x7_2 + 1)))))) else (none)) else (none)) = some r:=by rw [if_pos rfl] at H;exact H
            clear H
            have H:=H1
            clear H1
            by_cases c36 : 0 ≤ x7_2
            case neg => rw [if_neg c36] at H;exact absurd H (by simp)
            rw [if_pos c36] at H
            have c36b0 : decide (0 ≤ x7_2) = true:=decide_eq_true c36
            clear c36
            by_cases c37 : x7_2 < (t439.length : Int)
            case neg => rw [if_neg c37] at H;exact absurd H (by simp)
            rw [if_pos c37] at H
            have c37b0 : decide (x7_2 < (t439.length : Int)) = true:=decide_eq_true c37
            clear c37
            replace H:=Option.bind_eq_some_iff.mp H
            obtain ⟨t461,A380,H⟩:=H
            replace H : (if (t461.length : Int) < 1 then (some false) else (if (t461.length : Int) > 4 then (some false) else (laws_FnForMost.l0 k3 t439 (wrap64 (x6_2 + (t461.length : Int))) (wrap64 (x7_2 + 1))))) = some r:=H
            have A38:=aM A380
            clear A380
            by_cases c39 : (t461.length : Int) < 1
            ·rw [if_pos c39] at H
             have c39b0 : decide ((t461.length : Int) < 1) = true:=decide_eq_true c39
             have c39b1 : decide (t461.length < 1) = true:=decide_eq_true (by omega)
             clear c39
             obtain rfl:=Option.some.inj H
             have p460 : 0 ≤ (x7_2 : Int):=of_decide_eq_true (by first|(with_reducible assumption)|assumption)
             have q460 : x7_2 < (t439.length : Int):=of_decide_eq_true (by first|(with_reducible assumption)|assumption)
             obtain ⟨ad460,A460_1,c460_1,e460,hx460_0,hx460_1,hl460_1,hi460_1⟩:=at_T48 (Kd.N_reads' HO_3.out).2.2 x7_2 p460 q460
             cases e460
             obtain ⟨ce460,hce460,hMe460,hcc460⟩:=Kd.N_get HO_3.out z48 x7_2 p460 (by first|exact q460|exact of_decide_eq_true (by first|(with_reducible assumption)|assumption)|(have e_:=(Kd.N_reads' HO_3.out).1;omega))
             obtain ⟨ua460_1,uc460_1,rfl,ul460_1,ge460_1⟩:=k48_openF hMe460
             have hv460_1:=hcc460 1 _ rfl
             rw [add_field _ _ 1 (by omega)] at hv460_1
             replace hv460_1:=Option.some.inj (hv460_1.symm.trans hx460_1)
             injection hv460_1 with hva_ hvn_ hvc_
             rw [hva_] at ge460_1
             rw [hvc_] at ul460_1
             have HL460_1:=aM (show Kd.V k58 58 _ w.heap.size _ _ ((rd_T48 t439 x7_2).f1) from Kd.V_mk ul460_1 ge460_1)
             clear hva_ hvn_ hvc_ ge460_1 ul460_1
             clear hcc460 hce460
             have HR460_1:=aM hi460_1
             have HC460_1:=aM hl460_1
             clear hi460_1 hl460_1
             replace p460:=eq_true p460
             replace q460:=eq_true q460
             go_wp2_with (first|(go_at_call 19;(with_reducible refine (impl_VotesFor.calls k3 _ _ t439 _ _ ((rd_T48 t439 x7_2).f1) t461 _ ?side1 ?side2 ?side3 ?side4 A38.out).mono ?_);(case side1 => repeat (first|exact (Kd.N_reads' HO_3.out).2.2|(with_reducible refine Kd.C_alloc ?_ _)|(with_reducible refine Kd.C_drewN ?_ _)|(with_reducible refine Kd.C_drew ?_)));(case side2 => exact (Kd.N_reads' HO_3.out).2.1);(case side3 => repeat (first|exact (by repeat (first|(with_reducible exact HR460_1.out)|(with_reducible refine Kd.C_alloc ?_ _)|(with_reducible refine Kd.C_drewN ?_ _)|(with_reducible refine Kd.C_drew ?_)|exact HR460_1.out))|(with_reducible refine Kd.C_alloc ?_ _)|(with_reducible refine Kd.C_drewN ?_ _)|(with_reducible refine Kd.C_drew ?_)));(case side4 => exact HC460_1.out);rintro e w40 ⟨v462,rfl,ho0,hb⟩;have n0_:=aM (Kd.N_below (by (with_reducible repeat (first|apply Kd.N_alloc|apply Kd.N_drewN|apply Kd.N_drew));exact HO_3.out) hb);have n1_:=aM (Kd.V_below (by (with_reducible repeat (first|apply Kd.V_alloc|apply Kd.V_drewN|apply Kd.V_drew));exact HL460_1.out) hb);have n2_:=aM (Kd.V_lower (Kd.V_mono (ok':=fun k_ => some k_ ≠ (.slice (some ad460) t439.length co7 : Value).ownBlock) ho0 (fun k_ hk_ => (Kd.fresh' (Kd.N_lt (by (with_reducible repeat (first|apply Kd.N_alloc|apply Kd.N_drewN|apply Kd.N_drew));exact HO_3.out)) k_ hk_))) (below_size (by repeat (first|(with_reducible first|exact HB.out|apply bA|apply bN|apply bD)|exact HB.out))));have n3_:=aM (Kd.C_below (by repeat (first|(with_reducible exact HR460_1.out)|(with_reducible refine Kd.C_alloc ?_ _)|(with_reducible refine Kd.C_drewN ?_ _)|(with_reducible refine Kd.C_drew ?_)|exact HR460_1.out)) hb);have n4_:=aM (below_step (by repeat (first|(with_reducible first|exact HB.out|apply bA|apply bN|apply bD)|exact HB.out)) hb);clear HO_3;clear HL460_1;clear HR460_1;clear HB;have HO_3:=n0_;have HL460_1:=n1_;have HO463:=n2_;have HR460_1:=n3_;have HB:=n4_;clear n0_ n1_ n2_ n3_ n4_;(try clear hb);(try clear hb2);(try clear hk);(try clear hi);(try clear ho0);obtain ⟨Ao41,co41,eo41⟩:=Kd.V_slice HO463.out;subst eo41))
             repeat (go_quiet (first|(go_at_call 19;(with_reducible refine (impl_VotesFor.calls k3 _ _ t439 _ _ ((rd_T48 t439 x7_2).f1) t461 _ ?side1 ?side2 ?side3 ?side4 A38.out).mono ?_);(case side1 => repeat (first|exact (Kd.N_reads' HO_3.out).2.2|(with_reducible refine Kd.C_alloc ?_ _)|(with_reducible refine Kd.C_drewN ?_ _)|(with_reducible refine Kd.C_drew ?_)));(case side2 => exact (Kd.N_reads' HO_3.out).2.1);(case side3 => repeat (first|exact (by repeat (first|(with_reducible exact HR460_1.out)|(with_reducible refine Kd.C_alloc ?_ _)|(with_reducible refine Kd.C_drewN ?_ _)|(with_reducible refine Kd.C_drew ?_)|exact HR460_1.out))|(with_reducible refine Kd.C_alloc ?_ _)|(with_reducible refine Kd.C_drewN ?_ _)|(with_reducible refine Kd.C_drew ?_)));(case side4 => exact HC460_1.out);rintro e w40 ⟨v462,rfl,ho0,hb⟩;have n0_:=aM (Kd.N_below (by (with_reducible repeat (first|apply Kd.N_alloc|apply Kd.N_drewN|apply Kd.N_drew));exact HO_3.out) hb);have n1_:=aM (Kd.V_below (by (with_reducible repeat (first|apply Kd.V_alloc|apply Kd.V_drewN|apply Kd.V_drew));exact HL460_1.out) hb);have n2_:=aM (Kd.V_lower (Kd.V_mono (ok':=fun k_ => some k_ ≠ (.slice (some ad460) t439.length co7 : Value).ownBlock) ho0 (fun k_ hk_ => (Kd.fresh' (Kd.N_lt (by (with_reducible repeat (first|apply Kd.N_alloc|apply Kd.N_drewN|apply Kd.N_drew));exact HO_3.out)) k_ hk_))) (below_size (by repeat (first|(with_reducible first|exact HB.out|apply bA|apply bN|apply bD)|exact HB.out))));have n3_:=aM (Kd.C_below (by repeat (first|(with_reducible exact HR460_1.out)|(with_reducible refine Kd.C_alloc ?_ _)|(with_reducible refine Kd.C_drewN ?_ _)|(with_reducible refine Kd.C_drew ?_)|exact HR460_1.out)) hb);have n4_:=aM (below_step (by repeat (first|(with_reducible first|exact HB.out|apply bA|apply bN|apply bD)|exact HB.out)) hb);clear HO_3;clear HL460_1;clear HR460_1;clear HB;have HO_3:=n0_;have HL460_1:=n1_;have HO463:=n2_;have HR460_1:=n3_;have HB:=n4_;clear n0_ n1_ n2_ n3_ n4_;(try clear hb);(try clear hb2);(try clear hk);(try clear hi);(try clear ho0);obtain ⟨Ao41,co41,eo41⟩:=Kd.V_slice HO463.out;subst eo41));try go_wp2_with (first|(go_at_call 19;(with_reducible refine (impl_VotesFor.calls k3 _ _ t439 _ _ ((rd_T48 t439 x7_2).f1) t461 _ ?side1 ?side2 ?side3 ?side4 A38.out).mono ?_);(case side1 => repeat (first|exact (Kd.N_reads' HO_3.out).2.2|(with_reducible refine Kd.C_alloc ?_ _)|(with_reducible refine Kd.C_drewN ?_ _)|(with_reducible refine Kd.C_drew ?_)));(case side2 => exact (Kd.N_reads' HO_3.out).2.1);(case side3 => repeat (first|exact (by repeat (first|(with_reducible exact HR460_1.out)|(with_reducible refine Kd.C_alloc ?_ _)|(with_reducible refine Kd.C_drewN ?_ _)|(with_reducible refine Kd.C_drew ?_)|exact HR460_1.out))|(with_reducible refine Kd.C_alloc ?_ _)|(with_reducible refine Kd.C_drewN ?_ _)|(with_reducible refine Kd.C_drew ?_)));(case side4 => exact HC460_1.out);rintro e w40 ⟨v462,rfl,ho0,hb⟩;have n0_:=aM (Kd.N_below (by (with_reducible repeat (first|apply Kd.N_alloc|apply Kd.N_drewN|apply Kd.N_drew));exact HO_3.out) hb);have n1_:=aM (Kd.V_below (by (with_reducible repeat (first|apply Kd.V_alloc|apply Kd.V_drewN|apply Kd.V_drew));exact HL460_1.out) hb);have n2_:=aM (Kd.V_lower (Kd.V_mono (ok':=fun k_ => some k_ ≠ (.slice (some ad460) t439.length co7 : Value).ownBlock) ho0 (fun k_ hk_ => (Kd.fresh' (Kd.N_lt (by (with_reducible repeat (first|apply Kd.N_alloc|apply Kd.N_drewN|apply Kd.N_drew));exact HO_3.out)) k_ hk_))) (below_size (by repeat (first|(with_reducible first|exact HB.out|apply bA|apply bN|apply bD)|exact HB.out))));have n3_:=aM (Kd.C_below (by repeat (first|(with_reducible exact HR460_1.out)|(with_reducible refine Kd.C_alloc ?_ _)|(with_reducible refine Kd.C_drewN ?_ _)|(with_reducible refine Kd.C_drew ?_)|exact HR460_1.out)) hb);have n4_:=aM (below_step (by repeat (first|(with_reducible first|exact HB.out|apply bA|apply bN|apply bD)|exact HB.out)) hb);clear HO_3;clear HL460_1;clear HR460_1;clear HB;have HO_3:=n0_;have HL460_1:=n1_;have HO463:=n2_;have HR460_1:=n3_;have HB:=n4_;clear n0_ n1_ n2_ n3_ n4_;(try clear hb);(try clear hb2);(try clear hk);(try clear hi);(try clear ho0);obtain ⟨Ao41,co41,eo41⟩:=Kd.V_slice HO463.out;subst eo41)))
             go_ret
             exact ⟨by first|rfl|(simp only [i64_w,i32_w];done)|(simp only [i64_w,i32_w];rfl)|(simp [errW_none,errW_some] <;> rfl)|(simp [*,errW_none,errW_some] <;> rfl),by repeat (first|(with_reducible first|exact HB.out|apply bA|apply bN|apply bD)|exact HB.out)⟩
            ·rw [if_neg c39] at H
             have c39b0 : decide ((t461.length : Int) < 1) = false:=decide_eq_false c39
             have c39b1 : decide (t461.length < 1) = false:=decide_eq_false (by omega)
             clear c39
             by_cases c42 : (t461.length : Int) > 4
             ·rw [if_pos c42] at H
              have c42b0 : decide (4 < (t461.length : Int)) = true:=decide_eq_true c42
              have c42b1 : decide (4 < t461.length) = true:=decide_eq_true (by omega)
              clear c42
              obtain rfl:=Option.some.inj H
              have p460 : 0 ≤ (x7_2 : Int):=of_decide_eq_true (by first|(with_reducible assumption)|assumption)
              have q460 : x7_2 < (t439.length : Int):=of_decide_eq_true (by first|(with_reducible assumption)|assumption)
              obtain ⟨ad460,A460_1,c460_1,e460,hx460_0,hx460_1,hl460_1,hi460_1⟩:=at_T48 (Kd.N_reads' HO_3.out).2.2 x7_2 p460 q460
              cases e460
              obtain ⟨ce460,hce460,hMe460,hcc460⟩:=Kd.N_get HO_3.out z48 x7_2 p460 (by first|exact q460|exact of_decide_eq_true (by first|(with_reducible assumption)|assumption)|(have e_:=(Kd.N_reads' HO_3.out).1;omega))
              obtain ⟨ua460_1,uc460_1,rfl,ul460_1,ge460_1⟩:=k48_openF hMe460
              have hv460_1:=hcc460 1 _ rfl
              rw [add_field _ _ 1 (by omega)] at hv460_1
              replace hv460_1:=Option.some.inj (hv460_1.symm.trans hx460_1)
              injection hv460_1 with hva_ hvn_ hvc_
              rw [hva_] at ge460_1
              rw [hvc_] at ul460_1
              have HL460_1:=aM (show Kd.V k58 58 _ w.heap.size _ _ ((rd_T48 t439 x7_2).f1) from Kd.V_mk ul460_1 ge460_1)
              clear hva_ hvn_ hvc_ ge460_1 ul460_1
              clear hcc460 hce460
              have HR460_1:=aM hi460_1
              have HC460_1:=aM hl460_1
              clear hi460_1 hl460_1
              replace p460:=eq_true p460
              replace q460:=eq_true q460
              go_wp2_with (first|(go_at_call 19;(with_reducible refine (impl_VotesFor.calls k3 _ _ t439 _ _ ((rd_T48 t439 x7_2).f1) t461 _ ?side1 ?side2 ?side3 ?side4 A38.out).mono ?_);(case side1 => repeat (first|exact (Kd.N_reads' HO_3.out).2.2|(with_reducible refine Kd.C_alloc ?_ _)|(with_reducible refine Kd.C_drewN ?_ _)|(with_reducible refine Kd.C_drew ?_)));(case side2 => exact (Kd.N_reads' HO_3.out).2.1);(case side3 => repeat (first|exact (by repeat (first|(with_reducible exact HR460_1.out)|(with_reducible refine Kd.C_alloc ?_ _)|(with_reducible refine Kd.C_drewN ?_ _)|(with_reducible refine Kd.C_drew ?_)|exact HR460_1.out))|(with_reducible refine Kd.C_alloc ?_ _)|(with_reducible refine Kd.C_drewN ?_ _)|(with_reducible refine Kd.C_drew ?_)));(case side4 => exact HC460_1.out);rintro e w43 ⟨v462,rfl,ho0,hb⟩;have n0_:=aM (Kd.N_below (by (with_reducible repeat (first|apply Kd.N_alloc|apply Kd.N_drewN|apply Kd.N_drew));exact HO_3.out) hb);have n1_:=aM (Kd.V_below (by (with_reducible repeat (first|apply Kd.V_alloc|apply Kd.V_drewN|apply Kd.V_drew));exact HL460_1.out) hb);have n2_:=aM (Kd.V_lower (Kd.V_mono (ok':=fun k_ => some k_ ≠ (.slice (some ad460) t439.length co7 : Value).ownBlock) ho0 (fun k_ hk_ => (Kd.fresh' (Kd.N_lt (by (with_reducible repeat (first|apply Kd.N_alloc|apply Kd.N_drewN|apply Kd.N_drew));exact HO_3.out)) k_ hk_))) (below_size (by repeat (first|(with_reducible first|exact HB.out|apply bA|apply bN|apply bD)|exact HB.out))));have n3_:=aM (Kd.C_below (by repeat (first|(with_reducible exact HR460_1.out)|(with_reducible refine Kd.C_alloc ?_ _)|(with_reducible refine Kd.C_drewN ?_ _)|(with_reducible refine Kd.C_drew ?_)|exact HR460_1.out)) hb);have n4_:=aM (below_step (by repeat (first|(with_reducible first|exact HB.out|apply bA|apply bN|apply bD)|exact HB.out)) hb);clear HO_3;clear HL460_1;clear HR460_1;clear HB;have HO_3:=n0_;have HL460_1:=n1_;have HO463:=n2_;have HR460_1:=n3_;have HB:=n4_;clear n0_ n1_ n2_ n3_ n4_;(try clear hb);(try clear hb2);(try clear hk);(try clear hi);(try clear ho0);obtain ⟨Ao44,co44,eo44⟩:=Kd.V_slice HO463.out;subst eo44))
              repeat (go_quiet (first|(go_at_call 19;(with_reducible refine (impl_VotesFor.calls k3 _ _ t439 _ _ ((rd_T48 t439 x7_2).f1) t461 _ ?side1 ?side2 ?side3 ?side4 A38.out).mono ?_);(case side1 => repeat (first|exact (Kd.N_reads' HO_3.out).2.2|(with_reducible refine Kd.C_alloc ?_ _)|(with_reducible refine Kd.C_drewN ?_ _)|(with_reducible refine Kd.C_drew ?_)));(case side2 => exact (Kd.N_reads' HO_3.out).2.1);(case side3 => repeat (first|exact (by repeat (first|(with_reducible exact HR460_1.out)|(with_reducible refine Kd.C_alloc ?_ _)|(with_reducible refine Kd.C_drewN ?_ _)|(with_reducible refine Kd.C_drew ?_)|exact HR460_1.out))|(with_reducible refine Kd.C_alloc ?_ _)|(with_reducible refine Kd.C_drewN ?_ _)|(with_reducible refine Kd.C_drew ?_)));(case side4 => exact HC460_1.out);rintro e w43 ⟨v462,rfl,ho0,hb⟩;have n0_:=aM (Kd.N_below (by (with_reducible repeat (first|apply Kd.N_alloc|apply Kd.N_drewN|apply Kd.N_drew));exact HO_3.out) hb);have n1_:=aM (Kd.V_below (by (with_reducible repeat (first|apply Kd.V_alloc|apply Kd.V_drewN|apply Kd.V_drew));exact HL460_1.out) hb);have n2_:=aM (Kd.V_lower (Kd.V_mono (ok':=fun k_ => some k_ ≠ (.slice (some ad460) t439.length co7 : Value).ownBlock) ho0 (fun k_ hk_ => (Kd.fresh' (Kd.N_lt (by (with_reducible repeat (first|apply Kd.N_alloc|apply Kd.N_drewN|apply Kd.N_drew));exact HO_3.out)) k_ hk_))) (below_size (by repeat (first|(with_reducible first|exact HB.out|apply bA|apply bN|apply bD)|exact HB.out))));have n3_:=aM (Kd.C_below (by repeat (first|(with_reducible exact HR460_1.out)|(with_reducible refine Kd.C_alloc ?_ _)|(with_reducible refine Kd.C_drewN ?_ _)|(with_reducible refine Kd.C_drew ?_)|exact HR460_1.out)) hb);have n4_:=aM (below_step (by repeat (first|(with_reducible first|exact HB.out|apply bA|apply bN|apply bD)|exact HB.out)) hb);clear HO_3;clear HL460_1;clear HR460_1;clear HB;have HO_3:=n0_;have HL460_1:=n1_;have HO463:=n2_;have HR460_1:=n3_;have HB:=n4_;clear n0_ n1_ n2_ n3_ n4_;(try clear hb);(try clear hb2);(try clear hk);(try clear hi);(try clear ho0);obtain ⟨Ao44,co44,eo44⟩:=Kd.V_slice HO463.out;subst eo44));try go_wp2_with (first|(go_at_call 19;(with_reducible refine (impl_VotesFor.calls k3 _ _ t439 _ _ ((rd_T48 t439 x7_2).f1) t461 _ ?side1 ?side2 ?side3 ?side4 A38.out).mono ?_);(case side1 => repeat (first|exact (Kd.N_reads' HO_3.out).2.2|(with_reducible refine Kd.C_alloc ?_ _)|(with_reducible refine Kd.C_drewN ?_ _)|(with_reducible refine Kd.C_drew ?_)));(case side2 => exact (Kd.N_reads' HO_3.out).2.1);(case side3 => repeat (first|exact (by repeat (first|(with_reducible exact HR460_1.out)|(with_reducible refine Kd.C_alloc ?_ _)|(with_reducible refine Kd.C_drewN ?_ _)|(with_reducible refine Kd.C_drew ?_)|exact HR460_1.out))|(with_reducible refine Kd.C_alloc ?_ _)|(with_reducible refine Kd.C_drewN ?_ _)|(with_reducible refine Kd.C_drew ?_)));(case side4 => exact HC460_1.out);rintro e w43 ⟨v462,rfl,ho0,hb⟩;have n0_:=aM (Kd.N_below (by (with_reducible repeat (first|apply Kd.N_alloc|apply Kd.N_drewN|apply Kd.N_drew));exact HO_3.out) hb);have n1_:=aM (Kd.V_below (by (with_reducible repeat (first|apply Kd.V_alloc|apply Kd.V_drewN|apply Kd.V_drew));exact HL460_1.out) hb);have n2_:=aM (Kd.V_lower (Kd.V_mono (ok':=fun k_ => some k_ ≠ (.slice (some ad460) t439.length co7 : Value).ownBlock) ho0 (fun k_ hk_ => (Kd.fresh' (Kd.N_lt (by (with_reducible repeat (first|apply Kd.N_alloc|apply Kd.N_drewN|apply Kd.N_drew));exact HO_3.out)) k_ hk_))) (below_size (by repeat (first|(with_reducible first|exact HB.out|apply bA|apply bN|apply bD)|exact HB.out))));have n3_:=aM (Kd.C_below (by repeat (first|(with_reducible exact HR460_1.out)|(with_reducible refine Kd.C_alloc ?_ _)|(with_reducible refine Kd.C_drewN ?_ _)|(with_reducible refine Kd.C_drew ?_)|exact HR460_1.out)) hb);have n4_:=aM (below_step (by repeat (first|(with_reducible first|exact HB.out|apply bA|apply bN|apply bD)|exact HB.out)) hb);clear HO_3;clear HL460_1;clear HR460_1;clear HB;have HO_3:=n0_;have HL460_1:=n1_;have HO463:=n2_;have HR460_1:=n3_;have HB:=n4_;clear n0_ n1_ n2_ n3_ n4_;(try clear hb);(try clear hb2);(try clear hk);(try clear hi);(try clear ho0);obtain ⟨Ao44,co44,eo44⟩:=Kd.V_slice HO463.out;subst eo44)))
              go_ret
              exact ⟨by first|rfl|(simp only [i64_w,i32_w];done)|(simp only [i64_w,i32_w];rfl)|(simp [errW_none,errW_some] <;> rfl)|(simp [*,errW_none,errW_some] <;> rfl),by repeat (first|(with_reducible first|exact HB.out|apply bA|apply bN|apply bD)|exact HB.out)⟩
             ·rw [if_neg c42] at H
              have c42b0 : decide (4 < (t461.length : Int)) = false:=decide_eq_false c42
              have c42b1 : decide (4 < t461.length) = false:=decide_eq_false (by omega)
              clear c42
              have H':=aM H
              clear H
              have p460 : 0 ≤ (x7_2 : Int):=of_decide_eq_true (by first|(with_reducible assumption)|assumption)
              have q460 : x7_2 < (t439.length : Int):=of_decide_eq_true (by first|(with_reducible assumption)|assumption)
              obtain ⟨ad460,A460_1,c460_1,e460,hx460_0,hx460_1,hl460_1,hi460_1⟩:=at_T48 (Kd.N_reads' HO_3.out).2.2 x7_2 p460 q460
              cases e460
              obtain ⟨ce460,hce460,hMe460,hcc460⟩:=Kd.N_get HO_3.out z48 x7_2 p460 (by first|exact q460|exact of_decide_eq_true (by first|(with_reducible assumption)|assumption)|(have e_:=(Kd.N_reads' HO_3.out).1;omega))
              obtain ⟨ua460_1,uc460_1,rfl,ul460_1,ge460_1⟩:=k48_openF hMe460
              have hv460_1:=hcc460 1 _ rfl
              rw [add_field _ _ 1 (by omega)] at hv460_1
              replace hv460_1:=Option.some.inj (hv460_1.symm.trans hx460_1)
              injection hv460_1 with hva_ hvn_ hvc_
              rw [hva_] at ge460_1
              rw [hvc_] at ul460_1
              have HL460_1:=aM (show Kd.V k58 58 _ w.heap.size _ _ ((rd_T48 t439 x7_2).f1) from Kd.V_mk ul460_1 ge460_1)
              clear hva_ hvn_ hvc_ ge460_1 ul460_1
              clear hcc460 hce460
              have HR460_1:=aM hi460_1
              have HC460_1:=aM hl460_1
              clear hi460_1 hl460_1
              replace p460:=eq_true p460
              replace q460:=eq_true q460
              go_wp2_with (first|(go_at_call 19;(with_reducible refine (impl_VotesFor.calls k3 _ _ t439 _ _ ((rd_T48 t439 x7_2).f1) t461 _ ?side1 ?side2 ?side3 ?side4 A38.out).mono ?_);(case side1 => repeat (first|exact (Kd.N_reads' HO_3.out).2.2|(with_reducible refine Kd.C_alloc ?_ _)|(with_reducible refine Kd.C_drewN ?_ _)|(with_reducible refine Kd.C_drew ?_)));(case side2 => exact (Kd.N_reads' HO_3.out).2.1);(case side3 => repeat (first|exact (by repeat (first|(with_reducible exact HR460_1.out)|(with_reducible refine Kd.C_alloc ?_ _)|(with_reducible refine Kd.C_drewN ?_ _)|(with_reducible refine Kd.C_drew ?_)|exact HR460_1.out))|(with_reducible refine Kd.C_alloc ?_ _)|(with_reducible refine Kd.C_drewN ?_ _)|(with_reducible refine Kd.C_drew ?_)));(case side4 => exact HC460_1.out);rintro e w45 ⟨v462,rfl,ho0,hb⟩;have n0_:=aM (Kd.N_below (by (with_reducible repeat (first|apply Kd.N_alloc|apply Kd.N_drewN|apply Kd.N_drew));exact HO_3.out) hb);have n1_:=aM (Kd.V_below (by (with_reducible repeat (first|apply Kd.V_alloc|apply Kd.V_drewN|apply Kd.V_drew));exact HL460_1.out) hb);have n2_:=aM (Kd.V_lower (Kd.V_mono (ok':=fun k_ => some k_ ≠ (.slice (some ad460) t439.length co7 : Value).ownBlock) ho0 (fun k_ hk_ => (Kd.fresh' (Kd.N_lt (by (with_reducible repeat (first|apply Kd.N_alloc|apply Kd.N_drewN|apply Kd.N_drew));exact HO_3.out)) k_ hk_))) (below_size (by repeat (first|(with_reducible first|exact HB.out|apply bA|apply bN|apply bD)|exact HB.out))));have n3_:=aM (Kd.C_below (by repeat (first|(with_reducible exact HR460_1.out)|(with_reducible refine Kd.C_alloc ?_ _)|(with_reducible refine Kd.C_drewN ?_ _)|(with_reducible refine Kd.C_drew ?_)|exact HR460_1.out)) hb);have n4_:=aM (below_step (by repeat (first|(with_reducible first|exact HB.out|apply bA|apply bN|apply bD)|exact HB.out)) hb);clear HO_3;clear HL460_1;clear HR460_1;clear HB;have HO_3:=n0_;have HL460_1:=n1_;have HO463:=n2_;have HR460_1:=n3_;have HB:=n4_;clear n0_ n1_ n2_ n3_ n4_;(try clear hb);(try clear hb2);(try clear hk);(try clear hi);(try clear ho0);obtain ⟨Ao46,co46,eo46⟩:=Kd.V_slice HO463.out;subst eo46))
              repeat (go_quiet (first|(go_at_call 19;(with_reducible refine (impl_VotesFor.calls k3 _ _ t439 _ _ ((rd_T48 t439 x7_2).f1) t461 _ ?side1 ?side2 ?side3 ?side4 A38.out).mono ?_);(case side1 => repeat (first|exact (Kd.N_reads' HO_3.out).2.2|(with_reducible refine Kd.C_alloc ?_ _)|(with_reducible refine Kd.C_drewN ?_ _)|(with_reducible refine Kd.C_drew ?_)));(case side2 => exact (Kd.N_reads' HO_3.out).2.1);(case side3 => repeat (first|exact (by repeat (first|(with_reducible exact HR460_1.out)|(with_reducible refine Kd.C_alloc ?_ _)|(with_reducible refine Kd.C_drewN ?_ _)|(with_reducible refine Kd.C_drew ?_)|exact HR460_1.out))|(with_reducible refine Kd.C_alloc ?_ _)|(with_reducible refine Kd.C_drewN ?_ _)|(with_reducible refine Kd.C_drew ?_)));(case side4 => exact HC460_1.out);rintro e w45 ⟨v462,rfl,ho0,hb⟩;have n0_:=aM (Kd.N_below (by (with_reducible repeat (first|apply Kd.N_alloc|apply Kd.N_drewN|apply Kd.N_drew));exact HO_3.out) hb);have n1_:=aM (Kd.V_below (by (with_reducible repeat (first|apply Kd.V_alloc|apply Kd.V_drewN|apply Kd.V_drew));exact HL460_1.out) hb);have n2_:=aM (Kd.V_lower (Kd.V_mono (ok':=fun k_ => some k_ ≠ (.slice (some ad460) t439.length co7 : Value).ownBlock) ho0 (fun k_ hk_ => (Kd.fresh' (Kd.N_lt (by (with_reducible repeat (first|apply Kd.N_alloc|apply Kd.N_drewN|apply Kd.N_drew));exact HO_3.out)) k_ hk_))) (below_size (by repeat (first|(with_reducible first|exact HB.out|apply bA|apply bN|apply bD)|exact HB.out))));have n3_:=aM (Kd.C_below (by repeat (first|(with_reducible exact HR460_1.out)|(with_reducible refine Kd.C_alloc ?_ _)|(with_reducible refine Kd.C_drewN ?_ _)|(with_reducible refine Kd.C_drew ?_)|exact HR460_1.out)) hb);have n4_:=aM (below_step (by repeat (first|(with_reducible first|exact HB.out|apply bA|apply bN|apply bD)|exact HB.out)) hb);clear HO_3;clear HL460_1;clear HR460_1;clear HB;have HO_3:=n0_;have HL460_1:=n1_;have HO463:=n2_;have HR460_1:=n3_;have HB:=n4_;clear n0_ n1_ n2_ n3_ n4_;(try clear hb);(try clear hb2);(try clear hk);(try clear hi);(try clear ho0);obtain ⟨Ao46,co46,eo46⟩:=Kd.V_slice HO463.out;subst eo46));try go_wp2_with (first|(go_at_call 19;(with_reducible refine (impl_VotesFor.calls k3 _ _ t439 _ _ ((rd_T48 t439 x7_2).f1) t461 _ ?side1 ?side2 ?side3 ?side4 A38.out).mono ?_);(case side1 => repeat (first|exact (Kd.N_reads' HO_3.out).2.2|(with_reducible refine Kd.C_alloc ?_ _)|(with_reducible refine Kd.C_drewN ?_ _)|(with_reducible refine Kd.C_drew ?_)));(case side2 => exact (Kd.N_reads' HO_3.out).2.1);(case side3 => repeat (first|exact (by repeat (first|(with_reducible exact HR460_1.out)|(with_reducible refine Kd.C_alloc ?_ _)|(with_reducible refine Kd.C_drewN ?_ _)|(with_reducible refine Kd.C_drew ?_)|exact HR460_1.out))|(with_reducible refine Kd.C_alloc ?_ _)|(with_reducible refine Kd.C_drewN ?_ _)|(with_reducible refine Kd.C_drew ?_)));(case side4 => exact HC460_1.out);rintro e w45 ⟨v462,rfl,ho0,hb⟩;have n0_:=aM (Kd.N_below (by (with_reducible repeat (first|apply Kd.N_alloc|apply Kd.N_drewN|apply Kd.N_drew));exact HO_3.out) hb);have n1_:=aM (Kd.V_below (by (with_reducible repeat (first|apply Kd.V_alloc|apply Kd.V_drewN|apply Kd.V_drew));exact HL460_1.out) hb);have n2_:=aM (Kd.V_lower (Kd.V_mono (ok':=fun k_ => some k_ ≠ (.slice (some ad460) t439.length co7 : Value).ownBlock) ho0 (fun k_ hk_ => (Kd.fresh' (Kd.N_lt (by (with_reducible repeat (first|apply Kd.N_alloc|apply Kd.N_drewN|apply Kd.N_drew));exact HO_3.out)) k_ hk_))) (below_size (by repeat (first|(with_reducible first|exact HB.out|apply bA|apply bN|apply bD)|exact HB.out))));have n3_:=aM (Kd.C_below (by repeat (first|(with_reducible exact HR460_1.out)|(with_reducible refine Kd.C_alloc ?_ _)|(with_reducible refine Kd.C_drewN ?_ _)|(with_reducible refine Kd.C_drew ?_)|exact HR460_1.out)) hb);have n4_:=aM (below_step (by repeat (first|(with_reducible first|exact HB.out|apply bA|apply bN|apply bD)|exact HB.out)) hb);clear HO_3;clear HL460_1;clear HR460_1;clear HB;have HO_3:=n0_;have HL460_1:=n1_;have HO463:=n2_;have HR460_1:=n3_;have HB:=n4_;clear n0_ n1_ n2_ n3_ n4_;(try clear hb);(try clear hb2);(try clear hk);(try clear hi);(try clear ho0);obtain ⟨Ao46,co46,eo46⟩:=Kd.V_slice HO463.out;subst eo46)))
              go_roundg k3
              case measure => have:=HJ4.out;have:=HK2.out;have:=HK3.out;omega
              case rel => exact ⟨(wrap64 (x6_2 + (t461.length : Int))),(wrap64 (x7_2 + 1)),(by first|rfl|(simp;done)|(simp [*];done)),(by first|rfl|(simp;done)|(simp [*];done)),H',⟨by have:=HJ4.out;have:=HK2.out;have:=HK3.out;omega⟩,⟨by (with_reducible repeat (first|apply Kd.N_alloc|apply Kd.N_drewN|apply Kd.N_drew));exact HO_3.out⟩,⟨by repeat (first|(with_reducible first|exact HB.out|apply bA|apply bN|apply bD)|exact HB.out)⟩⟩
           ·replace c35:=Bool.eq_false_iff.mpr c35
            subst c35
            have H1 : (laws_FnForMost.l0 k3 t439 x6_2 (wrap64 (x7_2 + 1))) = some r:=by rw [if_neg (show ¬ (false = true) by decide)] at H;exact H
            clear H
            have H:=H1
            clear H1
            have H':=aM H
            clear H
            go_wp2
            repeat (go_quiet (fail);try go_wp2)
            go_roundg k3
            case measure => have:=HJ4.out;have:=HK2.out;have:=HK3.out;omega
            case rel => exact ⟨(x6_2),(wrap64 (x7_2 + 1)),(by first|rfl|(simp;done)|(simp [*];done)),(by first|rfl|(simp;done)|(simp [*];done)),H',⟨by have:=HJ4.out;have:=HK2.out;have:=HK3.out;omega⟩,⟨by (with_reducible repeat (first|apply Kd.N_alloc|apply Kd.N_drewN|apply Kd.N_drew));exact HO_3.out⟩,⟨by repeat (first|(with_reducible first|exact HB.out|apply bA|apply bN|apply bD)|exact HB.out)⟩⟩
       ·rw [if_neg c27] at H
        have c27b0 : decide (x7_2 < (t439.length : Int)) = false:=decide_eq_false c27
        clear c27
        obtain rfl:=Option.some.inj H
        go_wp2
        repeat (go_quiet (fail);try go_wp2)
        go_ret
        exact ⟨by first|rfl|(simp only [i64_w,i32_w];done)|(simp only [i64_w,i32_w];rfl)|(simp [errW_none,errW_some] <;> rfl)|(simp [*,errW_none,errW_some] <;> rfl),by repeat (first|(with_reducible first|exact HB.out|apply bA|apply bN|apply bD)|exact HB.out)⟩

/-- What is left to prove of laws_FnForMost. -/
def laws_FnForMost.Pure : Prop:=∀ (l0 : List Int),l0.length ≤ 9223372036854775807 → (∀ x,x ∈ l0 → (Lit.int .u8 x).wf = true) → ∃ k,laws_FnForMost.f k l0 = some true

end Go.Proofs.Ytknmmkgaijndfaa.P
