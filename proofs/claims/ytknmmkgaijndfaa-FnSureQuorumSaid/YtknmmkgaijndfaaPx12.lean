/- The printed functions: what each Go function computes, as a Lean function, and that the Go code comes to just that. Conditions: none beyond each contract's own. -/
import Derived.Test.YtknmmkgaijndfaaPx0
import Derived.Test.YtknmmkgaijndfaaPx5
import Derived.Test.YtknmmkgaijndfaaPx8
import Derived.Test.YtknmmkgaijndfaaPx11
namespace Go.Proofs.Ytknmmkgaijndfaa.P
open Go.RowKit Go.Proofs.YtknmmkgaijndfaaW.PrintWords Go.Proofs.YtknmmkgaijndfaaW.PrintLast Go.Proofs.YtknmmkgaijndfaaW.PrintMore
attribute [local go_sem] max2_int min2_int max_two min_two max_three min_three max_four min_four   -- for this text's walks alone
set_option linter.unusedVariables false
set_option linter.unusedSimpArgs false

/-! ### laws_FnSureQuorum: function 8 -/
mutual
def laws_FnSureQuorum.j0 : Nat → List Int → List Int → Bool → Option (Bool)
 | 0,_,_,_ => none
 | k + 1,x0,x1,x19 => if x19 = true then (some true) else ((spec_DrawTreeSure.f k x0).bind fun bt449 => ((impl_TreeSure.f k bt449.1 bt449.2).bind fun t455 => ((spec_TreeSure.f k bt449.1 bt449.2).bind fun t456 => (if (t455 != t456) = true then (laws_FnSureQuorum.j1 k x1 bt449.1 bt449.2 t455 true) else (if t455 = true then (laws_FnSureQuorum.j1 k x1 bt449.1 bt449.2 t455 ((bt449.2.length : Int) == 0)) else (laws_FnSureQuorum.j1 k x1 bt449.1 bt449.2 t455 true))))))
def laws_FnSureQuorum.j1 : Nat → List Int → List (S48) → List (S58) → Bool → Bool → Option (Bool)
 | 0,_,_,_,_,_ => none
 | k + 1,x1,x5,x6,x7,x41 => if x41 = true then ((spec_TreeSure.f k x5 x6).bind fun t457 => (some (x7 == t457))) else (if (x6.length : Int) = 0 then (none) else (if 0 ≤ (wrap64 (1 + ((x1.length : Int) % (x6.length : Int)))) then (if (wrap64 (1 + ((x1.length : Int) % (x6.length : Int)))) ≤ (x6.length : Int) then ((impl_VotesFor.f k x5 (x6.take ((wrap64 (1 + ((x1.length : Int) % (x6.length : Int)))) : Int).toNat)).bind fun t463 => (laws_FnSureQuorum.l0 k x5 x6 (wrap64 (1 + ((x1.length : Int) % (x6.length : Int)))) t463 (([] : List (S48))) 0)) else (none)) else (none)))
def laws_FnSureQuorum.l0 : Nat → List (S48) → List (S58) → Int → List Int → List (S48) → Int → Option (Bool)
 | 0,_,_,_,_,_,_ => none
 | k + 1,x5,x6,x8,x9,x10,x11 => if x11 < (x5.length : Int) then (if 0 ≤ x11 then (if 0 < (x9.length : Int) then (if ((rd_T48 x5 x11).f0) = (rd x9 0) then (if 0 ≤ x8 then (if x8 ≤ (x6.length : Int) then ((laws_lwSame.f k ((rd_T48 x5 x11).f1) (x6.take (x8 : Int).toNat)).bind fun t477 => (if t477 = true then (laws_FnSureQuorum.l0 k x5 x6 x8 x9 x10 (wrap64 (x11 + 1))) else (if x10.length < 4398046511104 then (laws_FnSureQuorum.l0 k x5 x6 x8 x9 (x10 ++ [(⟨(rd_T48 x5 x11).f0,(rd_T48 x5 x11).f1⟩ : S48)]) (wrap64 (x11 + 1))) else (none)))) else (none)) else (none)) else (if x10.length < 4398046511104 then (laws_FnSureQuorum.l0 k x5 x6 x8 x9 (x10 ++ [(⟨(rd_T48 x5 x11).f0,(rd_T48 x5 x11).f1⟩ : S48)]) (wrap64 (x11 + 1))) else (none))) else (none)) else (none)) else (if (x10.length : Int) = (wrap64 ((x5.length : Int) - 1)) then ((impl_TreeSure.f k x10 x6).bind fun t486 => (some (t486 == (decide ((x9.length : Int) > 3))))) else (some false))
end
def laws_FnSureQuorum.f (k : Nat) (l0 : List Int) (l1 : List Int) : Option (Bool):=if (l0.length : Int) > 1048576 then (laws_FnSureQuorum.j0 k l0 l1 true) else (laws_FnSureQuorum.j0 k l0 l1 (decide ((l1.length : Int) > 1048576)))
theorem laws_FnSureQuorum.mono_l : ∀ k,(∀ y0 y1 y2,LeO (laws_FnSureQuorum.j0 k y0 y1 y2) (laws_FnSureQuorum.j0 (k + 1) y0 y1 y2)) ∧ (∀ y0 y1 y2 y3 y4,LeO (laws_FnSureQuorum.j1 k y0 y1 y2 y3 y4) (laws_FnSureQuorum.j1 (k + 1) y0 y1 y2 y3 y4)) ∧ (∀ y0 y1 y2 y3 y4 y5,LeO (laws_FnSureQuorum.l0 k y0 y1 y2 y3 y4 y5) (laws_FnSureQuorum.l0 (k + 1) y0 y1 y2 y3 y4 y5))
 | 0 => ⟨fun _ _ _ r h => by simp [laws_FnSureQuorum.j0] at h,fun _ _ _ _ _ r h => by simp [laws_FnSureQuorum.j1] at h,fun _ _ _ _ _ _ r h => by simp [laws_FnSureQuorum.l0] at h⟩
 | k + 1 => by
  obtain ⟨ih0,ih1,ih2⟩:=laws_FnSureQuorum.mono_l k
  refine ⟨?_,?_,?_⟩
  ·intro y0 y1 y2
   unfold laws_FnSureQuorum.j0
   repeat' first
   | (with_reducible exact ih0 _ _ _)
   | (with_reducible exact ih1 _ _ _ _ _)
   | (with_reducible exact ih2 _ _ _ _ _ _)
   | (with_reducible exact impl_TreeSure.mono _ _ _)
   | (with_reducible exact impl_VotesFor.mono _ _ _)
   | (with_reducible exact laws_lwSame.mono _ _ _)
   | (with_reducible exact spec_DrawTreeSure.mono _ _)
   | (with_reducible exact spec_TreeSure.mono _ _ _)
   | (with_reducible exact LeO.refl _)
   | (with_reducible exact LeO.none _)
   | (with_reducible refine LeO.ite ?_ ?_)
   | (with_reducible refine LeO.bind ?_ (fun _ => ?_))
   | exact ih0 _ _ _
   | exact ih1 _ _ _ _ _
   | exact ih2 _ _ _ _ _ _
   | exact impl_TreeSure.mono _ _ _
   | exact impl_VotesFor.mono _ _ _
   | exact laws_lwSame.mono _ _ _
   | exact spec_DrawTreeSure.mono _ _
   | exact spec_TreeSure.mono _ _ _
   | exact LeO.none _
   | refine LeO.ite ?_ ?_
   | refine LeO.bind ?_ (fun _ => ?_)
  ·intro y0 y1 y2 y3 y4
   unfold laws_FnSureQuorum.j1
   repeat' first
   | (with_reducible exact ih0 _ _ _)
   | (with_reducible exact ih1 _ _ _ _ _)
   | (with_reducible exact ih2 _ _ _ _ _ _)
   | (with_reducible exact impl_TreeSure.mono _ _ _)
   | (with_reducible exact impl_VotesFor.mono _ _ _)
   | (with_reducible exact laws_lwSame.mono _ _ _)
   | (with_reducible exact spec_DrawTreeSure.mono _ _)
   | (with_reducible exact spec_TreeSure.mono _ _ _)
   | (with_reducible exact LeO.refl _)
   | (with_reducible exact LeO.none _)
   | (with_reducible refine LeO.ite ?_ ?_)
   | (with_reducible refine LeO.bind ?_ (fun _ => ?_))
   | exact ih0 _ _ _
   | exact ih1 _ _ _ _ _
   | exact ih2 _ _ _ _ _ _
   | exact impl_TreeSure.mono _ _ _
   | exact impl_VotesFor.mono _ _ _
   | exact laws_lwSame.mono _ _ _
   | exact spec_DrawTreeSure.mono _ _
   | exact spec_TreeSure.mono _ _ _
   | exact LeO.none _
   | refine LeO.ite ?_ ?_
   | refine LeO.bind ?_ (fun _ => ?_)
  ·intro y0 y1 y2 y3 y4 y5
   unfold laws_FnSureQuorum.l0
   repeat' first
   | (with_reducible exact ih0 _ _ _)
   | (with_reducible exact ih1 _ _ _ _ _)
   | (with_reducible exact ih2 _ _ _ _ _ _)
   | (with_reducible exact impl_TreeSure.mono _ _ _)
   | (with_reducible exact impl_VotesFor.mono _ _ _)
   | (with_reducible exact laws_lwSame.mono _ _ _)
   | (with_reducible exact spec_DrawTreeSure.mono _ _)
   | (with_reducible exact spec_TreeSure.mono _ _ _)
   | (with_reducible exact LeO.refl _)
   | (with_reducible exact LeO.none _)
   | (with_reducible refine LeO.ite ?_ ?_)
   | (with_reducible refine LeO.bind ?_ (fun _ => ?_))
   | exact ih0 _ _ _
   | exact ih1 _ _ _ _ _
   | exact ih2 _ _ _ _ _ _
   | exact impl_TreeSure.mono _ _ _
   | exact impl_VotesFor.mono _ _ _
   | exact laws_lwSame.mono _ _ _
   | exact spec_DrawTreeSure.mono _ _
   | exact spec_TreeSure.mono _ _ _
   | exact LeO.none _
   | refine LeO.ite ?_ ?_
   | refine LeO.bind ?_ (fun _ => ?_)
theorem laws_FnSureQuorum.mono : ∀ a0 a1 k,LeO (laws_FnSureQuorum.f k a0 a1) (laws_FnSureQuorum.f (k + 1) a0 a1):=by
 intro a0 a1 k
 obtain ⟨ih0,ih1,ih2⟩:=laws_FnSureQuorum.mono_l k
 unfold laws_FnSureQuorum.f
 repeat' first
   | (with_reducible exact ih0 _ _ _)
   | (with_reducible exact ih1 _ _ _ _ _)
   | (with_reducible exact ih2 _ _ _ _ _ _)
   | (with_reducible exact impl_TreeSure.mono _ _ _)
   | (with_reducible exact impl_VotesFor.mono _ _ _)
   | (with_reducible exact laws_lwSame.mono _ _ _)
   | (with_reducible exact spec_DrawTreeSure.mono _ _)
   | (with_reducible exact spec_TreeSure.mono _ _ _)
   | (with_reducible exact LeO.refl _)
   | (with_reducible exact LeO.none _)
   | (with_reducible refine LeO.ite ?_ ?_)
   | (with_reducible refine LeO.bind ?_ (fun _ => ?_))
   | exact ih0 _ _ _
   | exact ih1 _ _ _ _ _
   | exact ih2 _ _ _ _ _ _
   | exact impl_TreeSure.mono _ _ _
   | exact impl_VotesFor.mono _ _ _
   | exact laws_lwSame.mono _ _ _
   | exact spec_DrawTreeSure.mono _ _
   | exact spec_TreeSure.mono _ _ _
   | exact LeO.none _
   | refine LeO.ite ?_ ?_
   | refine LeO.bind ?_ (fun _ => ?_)
set_option maxHeartbeats 8000000 in
set_option maxRecDepth 100000 in
theorem laws_FnSureQuorum.calls (k : Nat) (A0 : Option Addr) (c0 : Nat) (l0 : List Int) (A1 : Option Addr) (c1 : Nat) (l1 : List Int) (r : Bool) (w : World) (hr0 : Kd.C (Kd.int .u8) w A0 l0.length l0) (hc0 : l0.length ≤ c0) (hr1 : Kd.C (Kd.int .u8) w A1 l1.length l1) (hc1 : l1.length ≤ c1) (h : laws_FnSureQuorum.f k l0 l1 = some r) :
  Calls Try.prog 8 #[.slice A0 l0.length c0,.slice A1 l1.length c1] w fun e w' => e = .returned (.bool r) ∧ Below w.heap.size w w':=by
 have hu48:=Try.underlying48
 have HR0:=aM hr0
 have HC0:=aM hc0
 clear hr0 hc0
 have HR1:=aM hr1
 have HC1:=aM hc1
 clear hr1 hc1
 have HB:=aM (Below.refl w.heap.size w)
 have H : (if (l0.length : Int) > 1048576 then (laws_FnSureQuorum.j0 k l0 l1 true) else (laws_FnSureQuorum.j0 k l0 l1 (decide ((l1.length : Int) > 1048576)))) = some r:=h
 clear h
 have HC3:=aM H
 clear H
 go_enter Try.func8,Try.ntmps8
 go_upto_region 1 with (fail)
 repeat (go_quiet (fail);go_upto_region 1 with (fail))
 go_cut [19] (fun v19 wc => ∃ (kq : Nat) (x19_2 : Bool),v19 = .bool x19_2 ∧ Aside0 (laws_FnSureQuorum.j0 kq l0 l1 x19_2 = some r) ∧ Aside0 (kq ≤ k) ∧ Aside0 (Below w.heap.size w wc))
 case first =>
  have H:=HC3.out
  clear HC3
  by_cases c4 : (l0.length : Int) > 1048576
  ·rw [if_pos c4] at H
   have c4b0 : decide (1048576 < (l0.length : Int)) = true:=decide_eq_true c4
   have c4b1 : decide (1048576 < l0.length) = true:=decide_eq_true (by omega)
   clear c4
   (first|rw [c4b0]|rw [c4b1]|(simp only [i64_w,i32_w];rw [c4b0])|skip)
   have H':=aM H
   clear H
   go_wp2
   repeat (go_quiet (fail);try go_wp2)
   go_meet
   case rel => exact ⟨_,(true),(by first|rfl|(simp;done)|(simp [*];done)),H',⟨by first|omega|exact Nat.le_refl _⟩,⟨by repeat (first|(with_reducible first|exact HB.out|apply bA|apply bN|apply bD)|exact HB.out)⟩⟩
  ·rw [if_neg c4] at H
   have c4b0 : decide (1048576 < (l0.length : Int)) = false:=decide_eq_false c4
   have c4b1 : decide (1048576 < l0.length) = false:=decide_eq_false (by omega)
   clear c4
   (first|rw [c4b0]|rw [c4b1]|(simp only [i64_w,i32_w];rw [c4b0])|skip)
   have H':=aM H
   clear H
   go_wp2
   repeat (go_quiet (fail);try go_wp2)
   go_meet
   case rel => exact ⟨_,(decide ((l1.length : Int) > 1048576)),(by first|rfl|(simp;done)|(simp [*];done)),H',⟨by first|omega|exact Nat.le_refl _⟩,⟨by repeat (first|(with_reducible first|exact HB.out|apply bA|apply bN|apply bD)|exact HB.out)⟩⟩
 case rest =>
  clear HC3
  try clear c1
  try clear p2
  try clear c4
  try clear c4b0
  try clear c4b1
  obtain ⟨kq,x19_2,rfl,HA,HJ2,HB⟩:=hcut
  cases kq with
  | zero => exact absurd HA.out (by simp [laws_FnSureQuorum.j0])
  | succ kj2 =>
   have H:=HA.out
   clear HA
   simp only [laws_FnSureQuorum.j0] at H
   by_cases c5 : x19_2 = true
   ·subst c5
    have H1 : (some true) = some r:=by rw [if_pos rfl] at H;exact H
    clear H
    have H:=H1
    clear H1
    obtain rfl:=Option.some.inj H
    go_wp2
    repeat (go_quiet (fail);try go_wp2)
    go_ret
    exact ⟨by first|rfl|(simp only [i64_w,i32_w];done)|(simp only [i64_w,i32_w];rfl)|(simp [errW_none,errW_some] <;> rfl)|(simp [*,errW_none,errW_some] <;> rfl),by repeat (first|(with_reducible first|exact HB.out|apply bA|apply bN|apply bD)|exact HB.out)⟩
   ·replace c5:=Bool.eq_false_iff.mpr c5
    subst c5
    have H1 : ((spec_DrawTreeSure.f kj2 l0).bind fun bt449 => ((impl_TreeSure.f kj2 bt449.1 bt449.2).bind fun t455 => ((spec_TreeSure.f kj2 bt449.1 bt449.2).bind fun t456 => (if (t455 != t456) = true then (laws_FnSureQuorum.j1 kj2 l1 bt449.1 bt449.2 t455 true) else (if t455 = true then (laws_FnSureQuorum.j1 kj2 l1 bt449.1 bt449.2 t455 ((bt449.2.length : Int) == 0)) else (laws_FnSureQuorum.j1 kj2 l1 bt449.1 bt449.2 t455 true)))))) = some r:=by rw [if_neg (show ¬ (false = true) by decide)] at H;exact H
    clear H
    have H:=H1
    clear H1
    replace H:=Option.bind_eq_some_iff.mp H
    obtain ⟨⟨t449,t452⟩,A60,H⟩:=H
    replace H : ((impl_TreeSure.f kj2 t449 t452).bind fun t455 => ((spec_TreeSure.f kj2 t449 t452).bind fun t456 => (if (t455 != t456) = true then (laws_FnSureQuorum.j1 kj2 l1 t449 t452 t455 true) else (if t455 = true then (laws_FnSureQuorum.j1 kj2 l1 t449 t452 t455 ((t452.length : Int) == 0)) else (laws_FnSureQuorum.j1 kj2 l1 t449 t452 t455 true))))) = some r:=H
    have A6:=aM A60
    clear A60
    replace H:=Option.bind_eq_some_iff.mp H
    obtain ⟨t455,A70,H⟩:=H
    replace H : ((spec_TreeSure.f kj2 t449 t452).bind fun t456 => (if (t455 != t456) = true then (laws_FnSureQuorum.j1 kj2 l1 t449 t452 t455 true) else (if t455 = true then (laws_FnSureQuorum.j1 kj2 l1 t449 t452 t455 ((t452.length : Int) == 0)) else (laws_FnSureQuorum.j1 kj2 l1 t449 t452 t455 true)))) = some r:=H
    have A7:=aM A70
    clear A70
    have HC8:=aM H
    clear H
    go_upto_region 5 with (first|(go_at_call 25;(with_reducible refine (spec_DrawTreeSure.calls kj2 _ _ l0 t449 t452 _ ?side1 ?side2 A6.out).mono ?_);(case side1 => repeat (first|exact (Kd.C_below HR0.out HB.out)|(with_reducible refine Kd.C_alloc ?_ _)|(with_reducible refine Kd.C_drewN ?_ _)|(with_reducible refine Kd.C_drew ?_)));(case side2 => exact HC0.out);rintro e w9 ⟨v450,v453,rfl,ho0,ho1,hb⟩;have n0_:=aM (Kd.N_lower (Kd.N_mono (ok':=fun k_ => some k_ ≠ (v453 : Value).ownBlock) ho0 (fun k_ hk_ => hk_.2)) (below_size (by repeat (first|(with_reducible first|exact HB.out|apply bA|apply bN|apply bD)|exact HB.out))));have n1_:=aM (Kd.R_lower (Kd.R_mono (ok':=fun k_ => True) ho1 (fun _ hk_ => trivial)) (below_size (by repeat (first|(with_reducible first|exact HB.out|apply bA|apply bN|apply bD)|exact HB.out))));have n2_:=aM (below_step (by repeat (first|(with_reducible first|exact HB.out|apply bA|apply bN|apply bD)|exact HB.out)) hb);clear HB;have HO451:=n0_;have HO454:=n1_;have HB:=n2_;clear n0_ n1_ n2_;(try clear hb);(try clear hb2);(try clear hk);(try clear hi);(try clear ho0);(try clear ho1);obtain ⟨Ao10,co10,eo10⟩:=Kd.N_slice HO451.out;subst eo10;obtain ⟨Ao11,co11,eo11⟩:=Kd.R_slice HO454.out;subst eo11)|(go_at_call 15;(with_reducible refine (impl_TreeSure.calls kj2 _ _ t449 _ _ t452 t455 _ ?side1 ?side2 ?side3 ?side4 A7.out).mono ?_);(case side1 => repeat (first|exact (Kd.N_reads' HO451.out).2.2|(with_reducible refine Kd.C_alloc ?_ _)|(with_reducible refine Kd.C_drewN ?_ _)|(with_reducible refine Kd.C_drew ?_)));(case side2 => exact (Kd.N_reads' HO451.out).2.1);(case side3 => repeat (first|exact (Kd.R_reads' HO454.out).2.2|(with_reducible refine Kd.C_alloc ?_ _)|(with_reducible refine Kd.C_drewN ?_ _)|(with_reducible refine Kd.C_drew ?_)));(case side4 => exact (Kd.R_reads' HO454.out).2.1);rintro e w12 ⟨rfl,hb⟩;have n0_:=aM (Kd.N_below (by (with_reducible repeat (first|apply Kd.N_alloc|apply Kd.N_drewN|apply Kd.N_drew));exact HO451.out) hb);have n1_:=aM (Kd.R_below (by (with_reducible repeat (first|apply Kd.R_alloc|apply Kd.R_drewN|apply Kd.R_drew));exact HO454.out) hb);have n2_:=aM (below_step (by repeat (first|(with_reducible first|exact HB.out|apply bA|apply bN|apply bD)|exact HB.out)) hb);clear HO451;clear HO454;clear HB;have HO451:=n0_;have HO454:=n1_;have HB:=n2_;clear n0_ n1_ n2_;(try clear hb);(try clear hb2);(try clear hk);(try clear hi)))
    repeat (go_quiet (first|(go_at_call 25;(with_reducible refine (spec_DrawTreeSure.calls kj2 _ _ l0 t449 t452 _ ?side1 ?side2 A6.out).mono ?_);(case side1 => repeat (first|exact (Kd.C_below HR0.out HB.out)|(with_reducible refine Kd.C_alloc ?_ _)|(with_reducible refine Kd.C_drewN ?_ _)|(with_reducible refine Kd.C_drew ?_)));(case side2 => exact HC0.out);rintro e w9 ⟨v450,v453,rfl,ho0,ho1,hb⟩;have n0_:=aM (Kd.N_lower (Kd.N_mono (ok':=fun k_ => some k_ ≠ (v453 : Value).ownBlock) ho0 (fun k_ hk_ => hk_.2)) (below_size (by repeat (first|(with_reducible first|exact HB.out|apply bA|apply bN|apply bD)|exact HB.out))));have n1_:=aM (Kd.R_lower (Kd.R_mono (ok':=fun k_ => True) ho1 (fun _ hk_ => trivial)) (below_size (by repeat (first|(with_reducible first|exact HB.out|apply bA|apply bN|apply bD)|exact HB.out))));have n2_:=aM (below_step (by repeat (first|(with_reducible first|exact HB.out|apply bA|apply bN|apply bD)|exact HB.out)) hb);clear HB;have HO451:=n0_;have HO454:=n1_;have HB:=n2_;clear n0_ n1_ n2_;(try clear hb);(try clear hb2);(try clear hk);(try clear hi);(try clear ho0);(try clear ho1);obtain ⟨Ao10,co10,eo10⟩:=Kd.N_slice HO451.out;subst eo10;obtain ⟨Ao11,co11,eo11⟩:=Kd.R_slice HO454.out;subst eo11)|(go_at_call 15;(with_reducible refine (impl_TreeSure.calls kj2 _ _ t449 _ _ t452 t455 _ ?side1 ?side2 ?side3 ?side4 A7.out).mono ?_);(case side1 => repeat (first|exact (Kd.N_reads' HO451.out).2.2|(with_reducible refine Kd.C_alloc ?_ _)|(with_reducible refine Kd.C_drewN ?_ _)|(with_reducible refine Kd.C_drew ?_)));(case side2 => exact (Kd.N_reads' HO451.out).2.1);(case side3 => repeat (first|exact (Kd.R_reads' HO454.out).2.2|(with_reducible refine Kd.C_alloc ?_ _)|(with_reducible refine Kd.C_drewN ?_ _)|(with_reducible refine Kd.C_drew ?_)));(case side4 => exact (Kd.R_reads' HO454.out).2.1);rintro e w12 ⟨rfl,hb⟩;have n0_:=aM (Kd.N_below (by (with_reducible repeat (first|apply Kd.N_alloc|apply Kd.N_drewN|apply Kd.N_drew));exact HO451.out) hb);have n1_:=aM (Kd.R_below (by (with_reducible repeat (first|apply Kd.R_alloc|apply Kd.R_drewN|apply Kd.R_drew));exact HO454.out) hb);have n2_:=aM (below_step (by repeat (first|(with_reducible first|exact HB.out|apply bA|apply bN|apply bD)|exact HB.out)) hb);clear HO451;clear HO454;clear HB;have HO451:=n0_;have HO454:=n1_;have HB:=n2_;clear n0_ n1_ n2_;(try clear hb);(try clear hb2);(try clear hk);(try clear hi)));go_upto_region 5 with (first|(go_at_call 25;(with_reducible refine (spec_DrawTreeSure.calls kj2 _ _ l0 t449 t452 _ ?side1 ?side2 A6.out).mono ?_);(case side1 => repeat (first|exact (Kd.C_below HR0.out HB.out)|(with_reducible refine Kd.C_alloc ?_ _)|(with_reducible refine Kd.C_drewN ?_ _)|(with_reducible refine Kd.C_drew ?_)));(case side2 => exact HC0.out);rintro e w9 ⟨v450,v453,rfl,ho0,ho1,hb⟩;have n0_:=aM (Kd.N_lower (Kd.N_mono (ok':=fun k_ => some k_ ≠ (v453 : Value).ownBlock) ho0 (fun k_ hk_ => hk_.2)) (below_size (by repeat (first|(with_reducible first|exact HB.out|apply bA|apply bN|apply bD)|exact HB.out))));have n1_:=aM (Kd.R_lower (Kd.R_mono (ok':=fun k_ => True) ho1 (fun _ hk_ => trivial)) (below_size (by repeat (first|(with_reducible first|exact HB.out|apply bA|apply bN|apply bD)|exact HB.out))));have n2_:=aM (below_step (by repeat (first|(with_reducible first|exact HB.out|apply bA|apply bN|apply bD)|exact HB.out)) hb);clear HB;have HO451:=n0_;have HO454:=n1_;have HB:=n2_;clear n0_ n1_ n2_;(try clear hb);(try clear hb2);(try clear hk);(try clear hi);(try clear ho0);(try clear ho1);obtain ⟨Ao10,co10,eo10⟩:=Kd.N_slice HO451.out;subst eo10;obtain ⟨Ao11,co11,eo11⟩:=Kd.R_slice HO454.out;subst eo11)|(go_at_call 15;(with_reducible refine (impl_TreeSure.calls kj2 _ _ t449 _ _ t452 t455 _ ?side1 ?side2 ?side3 ?side4 A7.out).mono ?_);(case side1 => repeat (first|exact (Kd.N_reads' HO451.out).2.2|(with_reducible refine Kd.C_alloc ?_ _)|(with_reducible refine Kd.C_drewN ?_ _)|(with_reducible refine Kd.C_drew ?_)));(case side2 => exact (Kd.N_reads' HO451.out).2.1);(case side3 => repeat (first|exact (Kd.R_reads' HO454.out).2.2|(with_reducible refine Kd.C_alloc ?_ _)|(with_reducible refine Kd.C_drewN ?_ _)|(with_reducible refine Kd.C_drew ?_)));(case side4 => exact (Kd.R_reads' HO454.out).2.1);rintro e w12 ⟨rfl,hb⟩;have n0_:=aM (Kd.N_below (by (with_reducible repeat (first|apply Kd.N_alloc|apply Kd.N_drewN|apply Kd.N_drew));exact HO451.out) hb);have n1_:=aM (Kd.R_below (by (with_reducible repeat (first|apply Kd.R_alloc|apply Kd.R_drewN|apply Kd.R_drew));exact HO454.out) hb);have n2_:=aM (below_step (by repeat (first|(with_reducible first|exact HB.out|apply bA|apply bN|apply bD)|exact HB.out)) hb);clear HO451;clear HO454;clear HB;have HO451:=n0_;have HO454:=n1_;have HB:=n2_;clear n0_ n1_ n2_;(try clear hb);(try clear hb2);(try clear hk);(try clear hi))))
    (try simp only [Act.put,sI,sZ,sS])
    go_cut [41] (fun v41 wc => ∃ (kq : Nat) (x41_7 : Bool),v41 = .bool x41_7 ∧ Aside0 (laws_FnSureQuorum.j1 kq l1 t449 t452 t455 x41_7 = some r) ∧ Aside0 (kq ≤ kj2) ∧ Aside0 (Kd.N k48 48 wc w.heap.size (fun k_ => some k_ ≠ ((.slice Ao11 t452.length co11) : Value).ownBlock) (.slice Ao10 t449.length co10) t449) ∧ Aside0 (Kd.R k58 58 wc w.heap.size (fun _ => True) (.slice Ao11 t452.length co11) t452) ∧ Aside0 (Below w.heap.size w wc))
    case first =>
     have H:=HC8.out
     clear HC8
     replace H:=Option.bind_eq_some_iff.mp H
     obtain ⟨t456,A130,H⟩:=H
     replace H : (if (t455 != t456) = true then (laws_FnSureQuorum.j1 kj2 l1 t449 t452 t455 true) else (if t455 = true then (laws_FnSureQuorum.j1 kj2 l1 t449 t452 t455 ((t452.length : Int) == 0)) else (laws_FnSureQuorum.j1 kj2 l1 t449 t452 t455 true))) = some r:=H
     have A13:=aM A130
     clear A130
     by_cases c14 : (t455 != t456) = true
     ·rw [if_pos c14] at H
      have c14b0 : (t455 != t456) = true:=c14
      (try (have c14b1 : decide (t455 = t456) = false:=by simpa using c14))
      (try (have c14b2 : (t455 == t456) = false:=by simpa using c14))
      (try (have c14b3 : ¬ (t455 = t456):=by simpa using c14))
      clear c14
      (first|rw [c14b0]|rw [c14b1]|(simp only [i64_w,i32_w];rw [c14b0])|skip)
      have H':=aM H
      clear H
      go_wp2_with (first|(go_at_call 12;(with_reducible refine (spec_TreeSure.calls kj2 _ _ t449 _ _ t452 t456 _ ?side1 ?side2 ?side3 ?side4 A13.out).mono ?_);(case side1 => repeat (first|exact (Kd.N_reads' HO451.out).2.2|(with_reducible refine Kd.C_alloc ?_ _)|(with_reducible refine Kd.C_drewN ?_ _)|(with_reducible refine Kd.C_drew ?_)));(case side2 => exact (Kd.N_reads' HO451.out).2.1);(case side3 => repeat (first|exact (Kd.R_reads' HO454.out).2.2|(with_reducible refine Kd.C_alloc ?_ _)|(with_reducible refine Kd.C_drewN ?_ _)|(with_reducible refine Kd.C_drew ?_)));(case side4 => exact (Kd.R_reads' HO454.out).2.1);rintro e w15 ⟨rfl,hb⟩;have n0_:=aM (Kd.N_below (by (with_reducible repeat (first|apply Kd.N_alloc|apply Kd.N_drewN|apply Kd.N_drew));exact HO451.out) hb);have n1_:=aM (Kd.R_below (by (with_reducible repeat (first|apply Kd.R_alloc|apply Kd.R_drewN|apply Kd.R_drew));exact HO454.out) hb);have n2_:=aM (below_step (by repeat (first|(with_reducible first|exact HB.out|apply bA|apply bN|apply bD)|exact HB.out)) hb);clear HO451;clear HO454;clear HB;have HO451:=n0_;have HO454:=n1_;have HB:=n2_;clear n0_ n1_ n2_;(try clear hb);(try clear hb2);(try clear hk);(try clear hi)))
      repeat (go_quiet (first|(go_at_call 12;(with_reducible refine (spec_TreeSure.calls kj2 _ _ t449 _ _ t452 t456 _ ?side1 ?side2 ?side3 ?side4 A13.out).mono ?_);(case side1 => repeat (first|exact (Kd.N_reads' HO451.out).2.2|(with_reducible refine Kd.C_alloc ?_ _)|(with_reducible refine Kd.C_drewN ?_ _)|(with_reducible refine Kd.C_drew ?_)));(case side2 => exact (Kd.N_reads' HO451.out).2.1);(case side3 => repeat (first|exact (Kd.R_reads' HO454.out).2.2|(with_reducible refine Kd.C_alloc ?_ _)|(with_reducible refine Kd.C_drewN ?_ _)|(with_reducible refine Kd.C_drew ?_)));(case side4 => exact (Kd.R_reads' HO454.out).2.1);rintro e w15 ⟨rfl,hb⟩;have n0_:=aM (Kd.N_below (by (with_reducible repeat (first|apply Kd.N_alloc|apply Kd.N_drewN|apply Kd.N_drew));exact HO451.out) hb);have n1_:=aM (Kd.R_below (by (with_reducible repeat (first|apply Kd.R_alloc|apply Kd.R_drewN|apply Kd.R_drew));exact HO454.out) hb);have n2_:=aM (below_step (by repeat (first|(with_reducible first|exact HB.out|apply bA|apply bN|apply bD)|exact HB.out)) hb);clear HO451;clear HO454;clear HB;have HO451:=n0_;have HO454:=n1_;have HB:=n2_;clear n0_ n1_ n2_;(try clear hb);(try clear hb2);(try clear hk);(try clear hi)));try go_wp2_with (first|(go_at_call 12;(with_reducible refine (spec_TreeSure.calls kj2 _ _ t449 _ _ t452 t456 _ ?side1 ?side2 ?side3 ?side4 A13.out).mono ?_);(case side1 => repeat (first|exact (Kd.N_reads' HO451.out).2.2|(with_reducible refine Kd.C_alloc ?_ _)|(with_reducible refine Kd.C_drewN ?_ _)|(with_reducible refine Kd.C_drew ?_)));(case side2 => exact (Kd.N_reads' HO451.out).2.1);(case side3 => repeat (first|exact (Kd.R_reads' HO454.out).2.2|(with_reducible refine Kd.C_alloc ?_ _)|(with_reducible refine Kd.C_drewN ?_ _)|(with_reducible refine Kd.C_drew ?_)));(case side4 => exact (Kd.R_reads' HO454.out).2.1);rintro e w15 ⟨rfl,hb⟩;have n0_:=aM (Kd.N_below (by (with_reducible repeat (first|apply Kd.N_alloc|apply Kd.N_drewN|apply Kd.N_drew));exact HO451.out) hb);have n1_:=aM (Kd.R_below (by (with_reducible repeat (first|apply Kd.R_alloc|apply Kd.R_drewN|apply Kd.R_drew));exact HO454.out) hb);have n2_:=aM (below_step (by repeat (first|(with_reducible first|exact HB.out|apply bA|apply bN|apply bD)|exact HB.out)) hb);clear HO451;clear HO454;clear HB;have HO451:=n0_;have HO454:=n1_;have HB:=n2_;clear n0_ n1_ n2_;(try clear hb);(try clear hb2);(try clear hk);(try clear hi))))
      go_meet
      case rel => exact ⟨_,(true),(by first|rfl|(simp;done)|(simp [*];done)),H',⟨by have:=HJ2.out;first|omega|exact Nat.le_refl _⟩,⟨by (with_reducible repeat (first|apply Kd.N_alloc|apply Kd.N_drewN|apply Kd.N_drew));exact HO451.out⟩,⟨by (with_reducible repeat (first|apply Kd.R_alloc|apply Kd.R_drewN|apply Kd.R_drew));exact HO454.out⟩,⟨by repeat (first|(with_reducible first|exact HB.out|apply bA|apply bN|apply bD)|exact HB.out)⟩⟩
     ·rw [if_neg c14] at H
      have c14b0 : (t455 != t456) = false:=by simpa using c14
      (try (have c14b1 : decide (t455 = t456) = true:=by simpa using c14))
      (try (have c14b2 : (t455 == t456) = true:=by simpa using c14))
      clear c14
      (first|rw [c14b0]|rw [c14b1]|(simp only [i64_w,i32_w];rw [c14b0])|skip)
      by_cases c16 : t455 = true
      ·subst c16
       have H1 : (laws_FnSureQuorum.j1 kj2 l1 t449 t452 true ((t452.length : Int) == 0)) = some r:=by rw [if_pos rfl] at H;exact H
       clear H
       have H:=H1
       clear H1
       have H':=aM H
       clear H
       go_wp2_with (first|(go_at_call 12;(with_reducible refine (spec_TreeSure.calls kj2 _ _ t449 _ _ t452 t456 _ ?side1 ?side2 ?side3 ?side4 A13.out).mono ?_);(case side1 => repeat (first|exact (Kd.N_reads' HO451.out).2.2|(with_reducible refine Kd.C_alloc ?_ _)|(with_reducible refine Kd.C_drewN ?_ _)|(with_reducible refine Kd.C_drew ?_)));(case side2 => exact (Kd.N_reads' HO451.out).2.1);(case side3 => repeat (first|exact (Kd.R_reads' HO454.out).2.2|(with_reducible refine Kd.C_alloc ?_ _)|(with_reducible refine Kd.C_drewN ?_ _)|(with_reducible refine Kd.C_drew ?_)));(case side4 => exact (Kd.R_reads' HO454.out).2.1);rintro e w17 ⟨rfl,hb⟩;have n0_:=aM (Kd.N_below (by (with_reducible repeat (first|apply Kd.N_alloc|apply Kd.N_drewN|apply Kd.N_drew));exact HO451.out) hb);have n1_:=aM (Kd.R_below (by (with_reducible repeat (first|apply Kd.R_alloc|apply Kd.R_drewN|apply Kd.R_drew));exact HO454.out) hb);have n2_:=aM (below_step (by repeat (first|(with_reducible first|exact HB.out|apply bA|apply bN|apply bD)|exact HB.out)) hb);clear HO451;clear HO454;clear HB;have HO451:=n0_;have HO454:=n1_;have HB:=n2_;clear n0_ n1_ n2_;(try clear hb);(try clear hb2);(try clear hk);(try clear hi)))
       repeat (go_quiet (first|(go_at_call 12;(with_reducible refine (spec_TreeSure.calls kj2 _ _ t449 _ _ t452 t456 _ ?side1 ?side2 ?side3 ?side4 A13.out).mono ?_);(case side1 => repeat (first|exact (Kd.N_reads' HO451.out).2.2|(with_reducible refine Kd.C_alloc ?_ _)|(with_reducible refine Kd.C_drewN ?_ _)|(with_reducible refine Kd.C_drew ?_)));(case side2 => exact (Kd.N_reads' HO451.out).2.1);(case side3 => repeat (first|exact (Kd.R_reads' HO454.out).2.2|(with_reducible refine Kd.C_alloc ?_ _)|(with_reducible refine Kd.C_drewN ?_ _)|(with_reducible refine Kd.C_drew ?_)));(case side4 => exact (Kd.R_reads' HO454.out).2.1);rintro e w17 ⟨rfl,hb⟩;have n0_:=aM (Kd.N_below (by (with_reducible repeat (first|apply Kd.N_alloc|apply Kd.N_drewN|apply Kd.N_drew));exact HO451.out) hb);have n1_:=aM (Kd.R_below (by (with_reducible repeat (first|apply Kd.R_alloc|apply Kd.R_drewN|apply Kd.R_drew));exact HO454.out) hb);have n2_:=aM (below_step (by repeat (first|(with_reducible first|exact HB.out|apply bA|apply bN|apply bD)|exact HB.out)) hb);clear HO451;clear HO454;clear HB;have HO451:=n0_;have HO454:=n1_;have HB:=n2_;clear n0_ n1_ n2_;(try clear hb);(try clear hb2);(try clear hk);(try clear hi)));try go_wp2_with (first|(go_at_call 12;(with_reducible refine (spec_TreeSure.calls kj2 _ _ t449 _ _ t452 t456 _ ?side1 ?side2 ?side3 ?side4 A13.out).mono ?_);(case side1 => repeat (first|exact (Kd.N_reads' HO451.out).2.2|(with_reducible refine Kd.C_alloc ?_ _)|(with_reducible refine Kd.C_drewN ?_ _)|(with_reducible refine Kd.C_drew ?_)));(case side2 => exact (Kd.N_reads' HO451.out).2.1);(case side3 => repeat (first|exact (Kd.R_reads' HO454.out).2.2|(with_reducible refine Kd.C_alloc ?_ _)|(with_reducible refine Kd.C_drewN ?_ _)|(with_reducible refine Kd.C_drew ?_)));(case side4 => exact (Kd.R_reads' HO454.out).2.1);rintro e w17 ⟨rfl,hb⟩;have n0_:=aM (Kd.N_below (by (with_reducible repeat (first|apply Kd.N_alloc|apply Kd.N_drewN|apply Kd.N_drew));exact HO451.out) hb);have n1_:=aM (Kd.R_below (by (with_reducible repeat (first|apply Kd.R_alloc|apply Kd.R_drewN|apply Kd.R_drew));exact HO454.out) hb);have n2_:=aM (below_step (by repeat (first|(with_reducible first|exact HB.out|apply bA|apply bN|apply bD)|exact HB.out)) hb);clear HO451;clear HO454;clear HB;have HO451:=n0_;have HO454:=n1_;have HB:=n2_;clear n0_ n1_ n2_;(try clear hb);(try clear hb2);(try clear hk);(try clear hi))))
       go_meet
       case rel => exact ⟨_,(((t452.length : Int) == 0)),(by first|rfl|(simp;done)|(simp [*];done)),H',⟨by have:=HJ2.out;first|omega|exact Nat.le_refl _⟩,⟨by (with_reducible repeat (first|apply Kd.N_alloc|apply Kd.N_drewN|apply Kd.N_drew));exact HO451.out⟩,⟨by (with_reducible repeat (first|apply Kd.R_alloc|apply Kd.R_drewN|apply Kd.R_drew));exact HO454.out⟩,⟨by repeat (first|(with_reducible first|exact HB.out|apply bA|apply bN|apply bD)|exact HB.out)⟩⟩
      ·replace c16:=Bool.eq_false_iff.mpr c16
       subst c16
       have H1 : (laws_FnSureQuorum.j1 kj2 l1 t449 t452 false true) = some r:=by rw [if_neg (show ¬ (false = true) by decide)] at H;exact H
       clear H
       have H:=H1
       clear H1
       have H':=aM H
       clear H
       go_wp2_with (first|(go_at_call 12;(with_reducible refine (spec_TreeSure.calls kj2 _ _ t449 _ _ t452 t456 _ ?side1 ?side2 ?side3 ?side4 A13.out).mono ?_);(case side1 => repeat (first|exact (Kd.N_reads' HO451.out).2.2|(with_reducible refine Kd.C_alloc ?_ _)|(with_reducible refine Kd.C_drewN ?_ _)|(with_reducible refine Kd.C_drew ?_)));(case side2 => exact (Kd.N_reads' HO451.out).2.1);(case side3 => repeat (first|exact (Kd.R_reads' HO454.out).2.2|(with_reducible refine Kd.C_alloc ?_ _)|(with_reducible refine Kd.C_drewN ?_ _)|(with_reducible refine Kd.C_drew ?_)));(case side4 => exact (Kd.R_reads' HO454.out).2.1);rintro e w18 ⟨rfl,hb⟩;have n0_:=aM (Kd.N_below (by (with_reducible repeat (first|apply Kd.N_alloc|apply Kd.N_drewN|apply Kd.N_drew));exact HO451.out) hb);have n1_:=aM (Kd.R_below (by (with_reducible repeat (first|apply Kd.R_alloc|apply Kd.R_drewN|apply Kd.R_drew));exact HO454.out) hb);have n2_:=aM (below_step (by repeat (first|(with_reducible first|exact HB.out|apply bA|apply bN|apply bD)|exact HB.out)) hb);clear HO451;clear HO454;clear HB;have HO451:=n0_;have HO454:=n1_;have HB:=n2_;clear n0_ n1_ n2_;(try clear hb);(try clear hb2);(try clear hk);(try clear hi)))
       repeat (go_quiet (first|(go_at_call 12;(with_reducible refine (spec_TreeSure.calls kj2 _ _ t449 _ _ t452 t456 _ ?side1 ?side2 ?side3 ?side4 A13.out).mono ?_);(case side1 => repeat (first|exact (Kd.N_reads' HO451.out).2.2|(with_reducible refine Kd.C_alloc ?_ _)|(with_reducible refine Kd.C_drewN ?_ _)|(with_reducible refine Kd.C_drew ?_)));(case side2 => exact (Kd.N_reads' HO451.out).2.1);(case side3 => repeat (first|exact (Kd.R_reads' HO454.out).2.2|(with_reducible refine Kd.C_alloc ?_ _)|(with_reducible refine Kd.C_drewN ?_ _)|(with_reducible refine Kd.C_drew ?_)));(case side4 => exact (Kd.R_reads' HO454.out).2.1);rintro e w18 ⟨rfl,hb⟩;have n0_:=aM (Kd.N_below (by (with_reducible repeat (first|apply Kd.N_alloc|apply Kd.N_drewN|apply Kd.N_drew));exact HO451.out) hb);have n1_:=aM (Kd.R_below (by (with_reducible repeat (first|apply Kd.R_alloc|apply Kd.R_drewN|apply Kd.R_drew));exact HO454.out) hb);have n2_:=aM (below_step (by repeat (first|(with_reducible first|exact HB.out|apply bA|apply bN|apply bD)|exact HB.out)) hb);clear HO451;clear HO454;clear HB;have HO451:=n0_;have HO454:=n1_;have HB:=n2_;clear n0_ n1_ n2_;(try clear hb);(try clear hb2);(try clear hk);(try clear hi)));try go_wp2_with (first|(go_at_call 12;(with_reducible refine (spec_TreeSure.calls kj2 _ _ t449 _ _ t452 t456 _ ?side1 ?side2 ?side3 ?side4 A13.out).mono ?_);(case side1 => repeat (first|exact (Kd.N_reads' HO451.out).2.2|(with_reducible refine Kd.C_alloc ?_ _)|(with_reducible refine Kd.C_drewN ?_ _)|(with_reducible refine Kd.C_drew ?_)));(case side2 => exact (Kd.N_reads' HO451.out).2.1);(case side3 => repeat (first|exact (Kd.R_reads' HO454.out).2.2|(with_reducible refine Kd.C_alloc ?_ _)|(with_reducible refine Kd.C_drewN ?_ _)|(with_reducible refine Kd.C_drew ?_)));(case side4 => exact (Kd.R_reads' HO454.out).2.1);rintro e w18 ⟨rfl,hb⟩;have n0_:=aM (Kd.N_below (by (with_reducible repeat (first|apply Kd.N_alloc|apply Kd.N_drewN|apply Kd.N_drew));exact HO451.out) hb);have n1_:=aM (Kd.R_below (by (with_reducible repeat (first|apply Kd.R_alloc|apply Kd.R_drewN|apply Kd.R_drew));exact HO454.out) hb);have n2_:=aM (below_step (by repeat (first|(with_reducible first|exact HB.out|apply bA|apply bN|apply bD)|exact HB.out)) hb);clear HO451;clear HO454;clear HB;have HO451:=n0_;have HO454:=n1_;have HB:=n2_;clear n0_ n1_ n2_;(try clear hb);(try clear hb2);(try clear hk);(try clear hi))))
       go_meet
       case rel => exact ⟨_,(true),(by first|rfl|(simp;done)|(simp [*];done)),H',⟨by have:=HJ2.out;first|omega|exact Nat.le_refl _⟩,⟨by (with_reducible repeat (first|apply Kd.N_alloc|apply Kd.N_drewN|apply Kd.N_drew));exact HO451.out⟩,⟨by (with_reducible repeat (first|apply Kd.R_alloc|apply Kd.R_drewN|apply Kd.R_drew));exact HO454.out⟩,⟨by repeat (first|(with_reducible first|exact HB.out|apply bA|apply bN|apply bD)|exact HB.out)⟩⟩
    case rest =>
     clear HC8
     try clear c1
     try clear p2
     try clear c4
     try clear c4b0
     try clear c4b1
     try clear c5
     try clear c8
     try clear c14
     try clear c14b0
     try clear c14b1
     try clear c14b2
     try clear c16
     try clear p2
     obtain ⟨kq,x41_7,rfl,HA,HJ7,HO_5,HO_6,HB⟩:=hcut
     cases kq with
     | zero => exact absurd HA.out (by simp [laws_FnSureQuorum.j1])
     | succ kj7 =>
      have H:=HA.out
      clear HA
      simp only [laws_FnSureQuorum.j1] at H
      by_cases c19 : x41_7 = true
      ·subst c19
       have H1 : ((spec_TreeSure.f kj7 t449 t452).bind fun t457 => (some (t455 == t457))) = some r:=by rw [if_pos rfl] at H;exact H
       clear H
       have H:=H1
       clear H1
       replace H:=Option.bind_eq_some_iff.mp H
       obtain ⟨t457,A200,H⟩:=H
       replace H : (some (t455 == t457)) = some r:=H
       have A20:=aM A200
       clear A200
       obtain rfl:=Option.some.inj H
       go_wp2_with (first|(go_at_call 12;(with_reducible refine (spec_TreeSure.calls kj7 _ _ t449 _ _ t452 t457 _ ?side1 ?side2 ?side3 ?side4 A20.out).mono ?_);(case side1 => repeat (first|exact (Kd.N_reads' HO_5.out).2.2|(with_reducible refine Kd.C_alloc ?_ _)|(with_reducible refine Kd.C_drewN ?_ _)|(with_reducible refine Kd.C_drew ?_)));(case side2 => exact (Kd.N_reads' HO_5.out).2.1);(case side3 => repeat (first|exact (Kd.R_reads' HO_6.out).2.2|(with_reducible refine Kd.C_alloc ?_ _)|(with_reducible refine Kd.C_drewN ?_ _)|(with_reducible refine Kd.C_drew ?_)));(case side4 => exact (Kd.R_reads' HO_6.out).2.1);rintro e w21 ⟨rfl,hb⟩;have n0_:=aM (Kd.N_below (by (with_reducible repeat (first|apply Kd.N_alloc|apply Kd.N_drewN|apply Kd.N_drew));exact HO_5.out) hb);have n1_:=aM (Kd.R_below (by (with_reducible repeat (first|apply Kd.R_alloc|apply Kd.R_drewN|apply Kd.R_drew));exact HO_6.out) hb);have n2_:=aM (below_step (by repeat (first|(with_reducible first|exact HB.out|apply bA|apply bN|apply bD)|exact HB.out)) hb);clear HO_5;clear HO_6;clear HB;have HO_5:=n0_;have HO_6:=n1_;have HB:=n2_;clear n0_ n1_ n2_;(try clear hb);(try clear hb2);(try clear hk);(try clear hi)))
       repeat (go_quiet (first|(go_at_call 12;(with_reducible refine (spec_TreeSure.calls kj7 _ _ t449 _ _ t452 t457 _ ?side1 ?side2 ?side3 ?side4 A20.out).mono ?_);(case side1 => repeat (first|exact (Kd.N_reads' HO_5.out).2.2|(with_reducible refine Kd.C_alloc ?_ _)|(with_reducible refine Kd.C_drewN ?_ _)|(with_reducible refine Kd.C_drew ?_)));(case side2 => exact (Kd.N_reads' HO_5.out).2.1);(case side3 => repeat (first|exact (Kd.R_reads' HO_6.out).2.2|(with_reducible refine Kd.C_alloc ?_ _)|(with_reducible refine Kd.C_drewN ?_ _)|(with_reducible refine Kd.C_drew ?_)));(case side4 => exact (Kd.R_reads' HO_6.out).2.1);rintro e w21 ⟨rfl,hb⟩;have n0_:=aM (Kd.N_below (by (with_reducible repeat (first|apply Kd.N_alloc|apply Kd.N_drewN|apply Kd.N_drew));exact HO_5.out) hb);have n1_:=aM (Kd.R_below (by (with_reducible repeat (first|apply Kd.R_alloc|apply Kd.R_drewN|apply Kd.R_drew));exact HO_6.out) hb);have n2_:=aM (below_step (by repeat (first|(with_reducible first|exact HB.out|apply bA|apply bN|apply bD)|exact HB.out)) hb);clear HO_5;clear HO_6;clear HB;have HO_5:=n0_;have HO_6:=n1_;have HB:=n2_;clear n0_ n1_ n2_;(try clear hb);(try clear hb2);(try clear hk);(try clear hi)));try go_wp2_with (first|(go_at_call 12;(with_reducible refine (spec_TreeSure.calls kj7 _ _ t449 _ _ t452 t457 _ ?side1 ?side2 ?side3 ?side4 A20.out).mono ?_);(case side1 => repeat (first|exact (Kd.N_reads' HO_5.out).2.2|(with_reducible refine Kd.C_alloc ?_ _)|(with_reducible refine Kd.C_drewN ?_ _)|(with_reducible refine Kd.C_drew ?_)));(case side2 => exact (Kd.N_reads' HO_5.out).2.1);(case side3 => repeat (first|exact (Kd.R_reads' HO_6.out).2.2|(with_reducible refine Kd.C_alloc ?_ _)|(with_reducible refine Kd.C_drewN ?_ _)|(with_reducible refine Kd.C_drew ?_)));(case side4 => exact (Kd.R_reads' HO_6.out).2.1);rintro e w21 ⟨rfl,hb⟩;have n0_:=aM (Kd.N_below (by (with_reducible repeat (first|apply Kd.N_alloc|apply Kd.N_drewN|apply Kd.N_drew));exact HO_5.out) hb);have n1_:=aM (Kd.R_below (by (with_reducible repeat (first|apply Kd.R_alloc|apply Kd.R_drewN|apply Kd.R_drew));exact HO_6.out) hb);have n2_:=aM (below_step (by repeat (first|(with_reducible first|exact HB.out|apply bA|apply bN|apply bD)|exact HB.out)) hb);clear HO_5;clear HO_6;clear HB;have HO_5:=n0_;have HO_6:=n1_;have HB:=n2_;clear n0_ n1_ n2_;(try clear hb);(try clear hb2);(try clear hk);(try clear hi))))
       go_ret
       exact ⟨by first|rfl|(simp only [i64_w,i32_w];done)|(simp only [i64_w,i32_w];rfl)|(simp [errW_none,errW_some] <;> rfl)|(simp [*,errW_none,errW_some] <;> rfl),by repeat (first|(with_reducible first|exact HB.out|apply bA|apply bN|apply bD)|exact HB.out)⟩
      ·replace c19:=Bool.eq_false_iff.mpr c19
       subst c19
       have H1 : (if (t452.length : Int) = 0 then (none) else (if 0 ≤ (wrap64 (1 + ((l1.length : Int) % (t452.length : Int)))) then (if (wrap64 (1 + ((l1.length : Int) % (t452.length : Int)))) ≤ (t452.length : Int) then ((impl_VotesFor.f kj7 t449 (t452.take ((wrap64 (1 + ((l1.length : Int) % (t452.length : Int)))) : Int).toNat)).bind fun t463 => (laws_FnSureQuorum.l0 kj7 t449 t452 (wrap64 (1 + ((l1.length : Int) % (t452.length : Int)))) t463 (([] : List (S48))) 0)) else (none)) else (none))) = some r:=by rw [if_neg (show ¬ (false = true) by decide)] at H;exact H
       clear H
       have H:=H1
       clear H1
       by_cases c22 : (t452.length : Int) = 0
       ·rw [if_pos c22] at H
        exact absurd H (by simp)
       ·rw [if_neg c22] at H
        have c22b0 : ((t452.length : Int) == 0) = false:=beq_eq_false_iff_ne.mpr c22
        have c22b1 : ((t452.length : Int) != 0) = true:=bne_iff_ne.mpr c22
        have c22b2 : ¬ (t452 = []):=fun h_ => c22 (by rw [h_];rfl)
        obtain ⟨ji23,hji23⟩ : ∃ j_ : Int,(wrap64 (1 + ((l1.length : Int) % (t452.length : Int)))) = j_:=⟨_,rfl⟩
        replace H : (if 0 ≤ (ji23) then (if (ji23) ≤ (t452.length : Int) then ((impl_VotesFor.f kj7 t449 (t452.take ((ji23) : Int).toNat)).bind fun t463 => (laws_FnSureQuorum.l0 kj7 t449 t452 ji23 t463 (([] : List (S48))) 0)) else (none)) else (none)) = some r:=by first|(rw [hji23] at H;exact H)|(simp only [hji23] at H ⊢;exact H)
        have hji23w : (IntKind.i64.wrap (1 + ((l1.length : Int) % (t452.length : Int)))) = ji23:=(i64_w _).trans hji23
        by_cases c24 : 0 ≤ (ji23)
        case neg => rw [if_neg c24] at H;exact absurd H (by simp)
        rw [if_pos c24] at H
        have c24b0:=eq_true c24
        have c24b1 : decide (0 ≤ (ji23)) = true:=decide_eq_true c24
        clear c24
        by_cases c25 : (ji23) ≤ (t452.length : Int)
        case neg => rw [if_neg c25] at H;exact absurd H (by simp)
        rw [if_pos c25] at H
        have c25b0:=eq_true c25
        have c25b1 : decide ((ji23) ≤ (t452.length : Int)) = true:=decide_eq_true c25
        clear c25
        obtain ⟨y458,hy458⟩ : ∃ y_ : List (S58),y_ = (t452.take ((ji23) : Int).toNat):=⟨_,rfl⟩
        replace H : ((impl_VotesFor.f kj7 t449 y458).bind fun t463 => (laws_FnSureQuorum.l0 kj7 t449 t452 ji23 t463 (([] : List (S48))) 0)) = some r:=by first|(rw [hy458];with_reducible exact H)|(have H2_:=(Option.bind_some _ _).symm.trans H;rw [hy458];with_reducible exact H2_)|(have H2_:=(Option.bind_some _ _).symm.trans H;with_reducible exact H2_)|with_reducible exact H|(rw [hy458];exact H)|exact H
        have Ny458:=aM hy458
        clear hy458
        replace H:=Option.bind_eq_some_iff.mp H
        obtain ⟨t463,A260,H⟩:=H
        replace H : (laws_FnSureQuorum.l0 kj7 t449 t452 ji23 t463 (([] : List (S48))) 0) = some r:=H
        have A26:=aM A260
        clear A260
        obtain ⟨y466,hy466⟩ : ∃ y_ : List (S48),y_ = (([] : List (S48))):=⟨_,rfl⟩
        replace H : (laws_FnSureQuorum.l0 kj7 t449 t452 ji23 t463 y466 0) = some r:=by first|(rw [hy466];with_reducible exact H)|(have H2_:=(Option.bind_some _ _).symm.trans H;rw [hy466];with_reducible exact H2_)|(have H2_:=(Option.bind_some _ _).symm.trans H;with_reducible exact H2_)|with_reducible exact H|(rw [hy466];exact H)|exact H
        have Ny466:=aM hy466
        clear hy466
        have H':=aM H
        clear H
        have q27 : ((ji23) : Int) ≤ ((t452.length : Int) : Int):=of_decide_eq_true (by first|(with_reducible assumption)|assumption)
        obtain ⟨i027,hi027,_,hsz27,_⟩:=info_parts info58
        have hroom27 : t452.length ≤ co11:=(Kd.R_reads' HO_6.out).2.1
        have hC27 : Kd.F k58 _ _ Ao11 t452.length t452:=(Kd.V_at (base:=w.heap.size) (Kd.R_V (Kd.R_apart' (HO_6.out) (Kd.N_typed HO_5.out) (by decide)))).2.2
        have hcut27:=cut_to (P:=Try.prog) 29 58 .i64 Try.underlying29 hi027 Ao11 t452.length co11 (ji23) (of_decide_eq_true (by first|(with_reducible assumption)|assumption)) q27 hroom27
        have hr27:=Kd.F_take (m:=((ji23) : Int).toNat) hC27 (by omega)
        have hy27 : y458.length = ((ji23) : Int).toNat:=(by rw [Ny458.out,List.length_take];omega)
        rw [← Ny458.out] at hr27
        rw [← hy27] at hcut27
        have HO462:=aM (show Kd.V k58 58 _ w.heap.size _ (.slice Ao11 y458.length co11) y458 from Kd.V_mk (by omega) hr27)
        have HC462:=aM (show y458.length ≤ co11 from by omega)
        clear hr27 hC27 hroom27 hi027 hsz27
        have KY27:=aM hy27
        clear hy27
        replace q27:=eq_true q27
        go_wp2_with (first|(go_at_call 19;(with_reducible refine (impl_VotesFor.calls kj7 _ _ t449 _ _ y458 t463 _ ?side1 ?side2 ?side3 ?side4 A26.out).mono ?_);(case side1 => repeat (first|exact (Kd.N_reads' HO_5.out).2.2|(with_reducible refine Kd.C_alloc ?_ _)|(with_reducible refine Kd.C_drewN ?_ _)|(with_reducible refine Kd.C_drew ?_)));(case side2 => exact (Kd.N_reads' HO_5.out).2.1);(case side3 => repeat (first|exact (Kd.V_reads' HO462.out).2.2|(with_reducible refine Kd.C_alloc ?_ _)|(with_reducible refine Kd.C_drewN ?_ _)|(with_reducible refine Kd.C_drew ?_)));(case side4 => exact (Kd.V_reads' HO462.out).2.1);rintro e w28 ⟨v464,rfl,ho0,hb⟩;have n0_:=aM (Kd.N_below (by (with_reducible repeat (first|apply Kd.N_alloc|apply Kd.N_drewN|apply Kd.N_drew));exact HO_5.out) hb);have n1_:=aM (Kd.R_below (by (with_reducible repeat (first|apply Kd.R_alloc|apply Kd.R_drewN|apply Kd.R_drew));exact HO_6.out) hb);have n2_:=aM (Kd.V_below (by (with_reducible repeat (first|apply Kd.V_alloc|apply Kd.V_drewN|apply Kd.V_drew));exact HO462.out) hb);have n3_:=aM (Kd.V_lower (Kd.V_mono (ok':=fun k_ => some k_ ≠ (.slice Ao10 t449.length co10 : Value).ownBlock ∧ some k_ ≠ (.slice Ao11 t452.length co11 : Value).ownBlock) ho0 (fun k_ hk_ => ⟨(Kd.fresh' (Kd.N_lt (by (with_reducible repeat (first|apply Kd.N_alloc|apply Kd.N_drewN|apply Kd.N_drew));exact HO_5.out)) k_ hk_),(Kd.fresh' (Kd.R_lt (by (with_reducible repeat (first|apply Kd.R_alloc|apply Kd.R_drewN|apply Kd.R_drew));exact HO_6.out)) k_ hk_)⟩)) (below_size (by repeat (first|(with_reducible first|exact HB.out|apply bA|apply bN|apply bD)|exact HB.out))));have n4_:=aM (below_step (by repeat (first|(with_reducible first|exact HB.out|apply bA|apply bN|apply bD)|exact HB.out)) hb);clear HO_5;clear HO_6;clear HO462;clear HB;have HO_5:=n0_;have HO_6:=n1_;have HO462:=n2_;have HO465:=n3_;have HB:=n4_;clear n0_ n1_ n2_ n3_ n4_;(try clear hb);(try clear hb2);(try clear hk);(try clear hi);(try clear ho0))|((with_reducible refine gate_dst (N:=58) rfl ?_);(try (refine gate_guard (by rfl) ?_;dsimp only));refine Kd.N_lit k48 _ 48 ?hg (N':=58) ?hd (xs:=([] : List (S48))) (inner:=[]) (ok:=(fun k_ => some k_ ≠ (.slice Ao10 t449.length co10 : Value).ownBlock ∧ some k_ ≠ (.slice Ao11 t452.length co11 : Value).ownBlock)) (okp:=(fun k_ => some k_ ≠ (.slice Ao10 t449.length co10 : Value).ownBlock ∧ some k_ ≠ (.slice Ao11 t452.length co11 : Value).ownBlock)) ?hr ?hp (fun _ hk => hk) ((show ∀ k_,w28.heap.size ≤ k_ → (fun k_ => some k_ ≠ (.slice Ao10 t449.length co10 : Value).ownBlock ∧ some k_ ≠ (.slice Ao11 t452.length co11 : Value).ownBlock) k_ from fun k_ hk => ⟨Kd.fresh' (Kd.N_lt (by (with_reducible repeat (first|apply Kd.N_alloc|apply Kd.N_drewN|apply Kd.N_drew));exact HO_5.out)) k_ hk,Kd.fresh' (Kd.R_lt (by (with_reducible repeat (first|apply Kd.R_alloc|apply Kd.R_drewN|apply Kd.R_drew));exact HO_6.out)) k_ hk⟩) _ (Nat.le_refl _)) (Below.refl _ _) (Nat.le_refl _) (by simp) ?_;(case hd => rfl);(case hg => rfl);(case hr => first|(go_simp;done)|(go_simp;rfl));(case hp => exact (Reps.none _ _));intro v467 w29 ho30 hb hg_ hnew_;clear hg_ hnew_;(first|rw [← Ny466.out] at ho30|(simp only [Int.reduceToNat] at ho30;rw [← Ny466.out] at ho30));have n0_:=aM (Kd.N_elder' (by (with_reducible repeat (first|apply Kd.N_alloc|apply Kd.N_drewN|apply Kd.N_drew));exact HO_5.out) (Kd.N_base ho30) hb);have n1_:=aM (Kd.R_below (by (with_reducible repeat (first|apply Kd.R_alloc|apply Kd.R_drewN|apply Kd.R_drew));exact HO_6.out) hb);have n2_:=aM (Kd.V_elder' (by (with_reducible repeat (first|apply Kd.V_alloc|apply Kd.V_drewN|apply Kd.V_drew));exact HO462.out) (Kd.N_base ho30) hb);have n3_:=aM (Kd.V_elder' (by (with_reducible repeat (first|apply Kd.V_alloc|apply Kd.V_drewN|apply Kd.V_drew));exact HO465.out) (Kd.N_base ho30) hb);have n4_:=aM (Kd.N_lower ho30 (below_size (by repeat (first|(with_reducible first|exact HB.out|apply bA|apply bN|apply bD)|exact HB.out))));have n5_:=aM (below_step (by repeat (first|(with_reducible first|exact HB.out|apply bA|apply bN|apply bD)|exact HB.out)) hb);clear HO_5;clear HO_6;clear HO462;clear HO465;clear HB;have HO_5:=n0_;have HO_6:=n1_;have HO462:=n2_;have HO465:=n3_;have HO468:=n4_;have HB:=n5_;clear n0_ n1_ n2_ n3_ n4_ n5_;clear hb ho30))
        repeat (go_quiet (first|(go_at_call 19;(with_reducible refine (impl_VotesFor.calls kj7 _ _ t449 _ _ y458 t463 _ ?side1 ?side2 ?side3 ?side4 A26.out).mono ?_);(case side1 => repeat (first|exact (Kd.N_reads' HO_5.out).2.2|(with_reducible refine Kd.C_alloc ?_ _)|(with_reducible refine Kd.C_drewN ?_ _)|(with_reducible refine Kd.C_drew ?_)));(case side2 => exact (Kd.N_reads' HO_5.out).2.1);(case side3 => repeat (first|exact (Kd.V_reads' HO462.out).2.2|(with_reducible refine Kd.C_alloc ?_ _)|(with_reducible refine Kd.C_drewN ?_ _)|(with_reducible refine Kd.C_drew ?_)));(case side4 => exact (Kd.V_reads' HO462.out).2.1);rintro e w28 ⟨v464,rfl,ho0,hb⟩;have n0_:=aM (Kd.N_below (by (with_reducible repeat (first|apply Kd.N_alloc|apply Kd.N_drewN|apply Kd.N_drew));exact HO_5.out) hb);have n1_:=aM (Kd.R_below (by (with_reducible repeat (first|apply Kd.R_alloc|apply Kd.R_drewN|apply Kd.R_drew));exact HO_6.out) hb);have n2_:=aM (Kd.V_below (by (with_reducible repeat (first|apply Kd.V_alloc|apply Kd.V_drewN|apply Kd.V_drew));exact HO462.out) hb);have n3_:=aM (Kd.V_lower (Kd.V_mono (ok':=fun k_ => some k_ ≠ (.slice Ao10 t449.length co10 : Value).ownBlock ∧ some k_ ≠ (.slice Ao11 t452.length co11 : Value).ownBlock) ho0 (fun k_ hk_ => ⟨(Kd.fresh' (Kd.N_lt (by (with_reducible repeat (first|apply Kd.N_alloc|apply Kd.N_drewN|apply Kd.N_drew));exact HO_5.out)) k_ hk_),(Kd.fresh' (Kd.R_lt (by (with_reducible repeat (first|apply Kd.R_alloc|apply Kd.R_drewN|apply Kd.R_drew));exact HO_6.out)) k_ hk_)⟩)) (below_size (by repeat (first|(with_reducible first|exact HB.out|apply bA|apply bN|apply bD)|exact HB.out))));have n4_:=aM (below_step (by repeat (first|(with_reducible first|exact HB.out|apply bA|apply bN|apply bD)|exact HB.out)) hb);clear HO_5;clear HO_6;clear HO462;clear HB;have HO_5:=n0_;have HO_6:=n1_;have HO462:=n2_;have HO465:=n3_;have HB:=n4_;clear n0_ n1_ n2_ n3_ n4_;(try clear hb);(try clear hb2);(try clear hk);(try clear hi);(try clear ho0))|((with_reducible refine gate_dst (N:=58) rfl ?_);(try (refine gate_guard (by rfl) ?_;dsimp only));refine Kd.N_lit k48 _ 48 ?hg (N':=58) ?hd (xs:=([] : List (S48))) (inner:=[]) (ok:=(fun k_ => some k_ ≠ (.slice Ao10 t449.length co10 : Value).ownBlock ∧ some k_ ≠ (.slice Ao11 t452.length co11 : Value).ownBlock)) (okp:=(fun k_ => some k_ ≠ (.slice Ao10 t449.length co10 : Value).ownBlock ∧ some k_ ≠ (.slice Ao11 t452.length co11 : Value).ownBlock)) ?hr ?hp (fun _ hk => hk) ((show ∀ k_,w28.heap.size ≤ k_ → (fun k_ => some k_ ≠ (.slice Ao10 t449.length co10 : Value).ownBlock ∧ some k_ ≠ (.slice Ao11 t452.length co11 : Value).ownBlock) k_ from fun k_ hk => ⟨Kd.fresh' (Kd.N_lt (by (with_reducible repeat (first|apply Kd.N_alloc|apply Kd.N_drewN|apply Kd.N_drew));exact HO_5.out)) k_ hk,Kd.fresh' (Kd.R_lt (by (with_reducible repeat (first|apply Kd.R_alloc|apply Kd.R_drewN|apply Kd.R_drew));exact HO_6.out)) k_ hk⟩) _ (Nat.le_refl _)) (Below.refl _ _) (Nat.le_refl _) (by simp) ?_;(case hd => rfl);(case hg => rfl);(case hr => first|(go_simp;done)|(go_simp;rfl));(case hp => exact (Reps.none _ _));intro v467 w29 ho30 hb hg_ hnew_;clear hg_ hnew_;(first|rw [← Ny466.out] at ho30|(simp only [Int.reduceToNat] at ho30;rw [← Ny466.out] at ho30));have n0_:=aM (Kd.N_elder' (by (with_reducible repeat (first|apply Kd.N_alloc|apply Kd.N_drewN|apply Kd.N_drew));exact HO_5.out) (Kd.N_base ho30) hb);have n1_:=aM (Kd.R_below (by (with_reducible repeat (first|apply Kd.R_alloc|apply Kd.R_drewN|apply Kd.R_drew));exact HO_6.out) hb);have n2_:=aM (Kd.V_elder' (by (with_reducible repeat (first|apply Kd.V_alloc|apply Kd.V_drewN|apply Kd.V_drew));exact HO462.out) (Kd.N_base ho30) hb);have n3_:=aM (Kd.V_elder' (by (with_reducible repeat (first|apply Kd.V_alloc|apply Kd.V_drewN|apply Kd.V_drew));exact HO465.out) (Kd.N_base ho30) hb);have n4_:=aM (Kd.N_lower ho30 (below_size (by repeat (first|(with_reducible first|exact HB.out|apply bA|apply bN|apply bD)|exact HB.out))));have n5_:=aM (below_step (by repeat (first|(with_reducible first|exact HB.out|apply bA|apply bN|apply bD)|exact HB.out)) hb);clear HO_5;clear HO_6;clear HO462;clear HO465;clear HB;have HO_5:=n0_;have HO_6:=n1_;have HO462:=n2_;have HO465:=n3_;have HO468:=n4_;have HB:=n5_;clear n0_ n1_ n2_ n3_ n4_ n5_;clear hb ho30));try go_wp2_with (first|(go_at_call 19;(with_reducible refine (impl_VotesFor.calls kj7 _ _ t449 _ _ y458 t463 _ ?side1 ?side2 ?side3 ?side4 A26.out).mono ?_);(case side1 => repeat (first|exact (Kd.N_reads' HO_5.out).2.2|(with_reducible refine Kd.C_alloc ?_ _)|(with_reducible refine Kd.C_drewN ?_ _)|(with_reducible refine Kd.C_drew ?_)));(case side2 => exact (Kd.N_reads' HO_5.out).2.1);(case side3 => repeat (first|exact (Kd.V_reads' HO462.out).2.2|(with_reducible refine Kd.C_alloc ?_ _)|(with_reducible refine Kd.C_drewN ?_ _)|(with_reducible refine Kd.C_drew ?_)));(case side4 => exact (Kd.V_reads' HO462.out).2.1);rintro e w28 ⟨v464,rfl,ho0,hb⟩;have n0_:=aM (Kd.N_below (by (with_reducible repeat (first|apply Kd.N_alloc|apply Kd.N_drewN|apply Kd.N_drew));exact HO_5.out) hb);have n1_:=aM (Kd.R_below (by (with_reducible repeat (first|apply Kd.R_alloc|apply Kd.R_drewN|apply Kd.R_drew));exact HO_6.out) hb);have n2_:=aM (Kd.V_below (by (with_reducible repeat (first|apply Kd.V_alloc|apply Kd.V_drewN|apply Kd.V_drew));exact HO462.out) hb);have n3_:=aM (Kd.V_lower (Kd.V_mono (ok':=fun k_ => some k_ ≠ (.slice Ao10 t449.length co10 : Value).ownBlock ∧ some k_ ≠ (.slice Ao11 t452.length co11 : Value).ownBlock) ho0 (fun k_ hk_ => ⟨(Kd.fresh' (Kd.N_lt (by (with_reducible repeat (first|apply Kd.N_alloc|apply Kd.N_drewN|apply Kd.N_drew));exact HO_5.out)) k_ hk_),(Kd.fresh' (Kd.R_lt (by (with_reducible repeat (first|apply Kd.R_alloc|apply Kd.R_drewN|apply Kd.R_drew));exact HO_6.out)) k_ hk_)⟩)) (below_size (by repeat (first|(with_reducible first|exact HB.out|apply bA|apply bN|apply bD)|exact HB.out))));have n4_:=aM (below_step (by repeat (first|(with_reducible first|exact HB.out|apply bA|apply bN|apply bD)|exact HB.out)) hb);clear HO_5;clear HO_6;clear HO462;clear HB;have HO_5:=n0_;have HO_6:=n1_;have HO462:=n2_;have HO465:=n3_;have HB:=n4_;clear n0_ n1_ n2_ n3_ n4_;(try clear hb);(try clear hb2);(try clear hk);(try clear hi);(try clear ho0))|((with_reducible refine gate_dst (N:=58) rfl ?_);(try (refine gate_guard (by rfl) ?_;dsimp only));refine Kd.N_lit k48 _ 48 ?hg (N':=58) ?hd (xs:=([] : List (S48))) (inner:=[]) (ok:=(fun k_ => some k_ ≠ (.slice Ao10 t449.length co10 : Value).ownBlock ∧ some k_ ≠ (.slice Ao11 t452.length co11 : Value).ownBlock)) (okp:=(fun k_ => some k_ ≠ (.slice Ao10 t449.length co10 : Value).ownBlock ∧ some k_ ≠ (.slice Ao11 t452.length co11 : Value).ownBlock)) ?hr ?hp (fun _ hk => hk) ((show ∀ k_,w28.heap.size ≤ k_ → (fun k_ => some k_ ≠ (.slice Ao10 t449.length co10 : Value).ownBlock ∧ some k_ ≠ (.slice Ao11 t452.length co11 : Value).ownBlock) k_ from fun k_ hk => ⟨Kd.fresh' (Kd.N_lt (by (with_reducible repeat (first|apply Kd.N_alloc|apply Kd.N_drewN|apply Kd.N_drew));exact HO_5.out)) k_ hk,Kd.fresh' (Kd.R_lt (by (with_reducible repeat (first|apply Kd.R_alloc|apply Kd.R_drewN|apply Kd.R_drew));exact HO_6.out)) k_ hk⟩) _ (Nat.le_refl _)) (Below.refl _ _) (Nat.le_refl _) (by simp) ?_;(case hd => rfl);(case hg => rfl);(case hr => first|(go_simp;done)|(go_simp;rfl));(case hp => exact (Reps.none _ _));intro v467 w29 ho30 hb hg_ hnew_;clear hg_ hnew_;(first|rw [← Ny466.out] at ho30|(simp only [Int.reduceToNat] at ho30;rw [← Ny466.out] at ho30));have n0_:=aM (Kd.N_elder' (by (with_reducible repeat (first|apply Kd.N_alloc|apply Kd.N_drewN|apply Kd.N_drew));exact HO_5.out) (Kd.N_base ho30) hb);have n1_:=aM (Kd.R_below (by (with_reducible repeat (first|apply Kd.R_alloc|apply Kd.R_drewN|apply Kd.R_drew));exact HO_6.out) hb);have n2_:=aM (Kd.V_elder' (by (with_reducible repeat (first|apply Kd.V_alloc|apply Kd.V_drewN|apply Kd.V_drew));exact HO462.out) (Kd.N_base ho30) hb);have n3_:=aM (Kd.V_elder' (by (with_reducible repeat (first|apply Kd.V_alloc|apply Kd.V_drewN|apply Kd.V_drew));exact HO465.out) (Kd.N_base ho30) hb);have n4_:=aM (Kd.N_lower ho30 (below_size (by repeat (first|(with_reducible first|exact HB.out|apply bA|apply bN|apply bD)|exact HB.out))));have n5_:=aM (below_step (by repeat (first|(with_reducible first|exact HB.out|apply bA|apply bN|apply bD)|exact HB.out)) hb);clear HO_5;clear HO_6;clear HO462;clear HO465;clear HB;have HO_5:=n0_;have HO_6:=n1_;have HO462:=n2_;have HO465:=n3_;have HO468:=n4_;have HB:=n5_;clear n0_ n1_ n2_ n3_ n4_ n5_;clear hb ho30)))
        go_loopg [10,11] kj7 (fun kq v10 v11 w' => ∃ (x10_3 : List (S48)) (x11_3 : Int),v11 = .int .i64 x11_3 ∧ Aside0 (laws_FnSureQuorum.l0 kq t449 t452 ji23 t463 x10_3 x11_3 = some r) ∧ Aside0 (kq ≤ kj7) ∧ Aside0 (Kd.N k48 48 w' w.heap.size (fun k_ => some k_ ≠ ((.slice Ao11 t452.length co11) : Value).ownBlock ∧ some k_ ≠ (v10 : Value).ownBlock) (.slice Ao10 t449.length co10) t449) ∧ Aside0 (Kd.R k58 58 w' w.heap.size (fun _ => True) (.slice Ao11 t452.length co11) t452) ∧ Aside0 (Kd.V (Kd.int .i64) 3 w' w.heap.size (fun k_ => some k_ ≠ ((.slice Ao10 t449.length co10) : Value).ownBlock ∧ some k_ ≠ ((.slice Ao11 t452.length co11) : Value).ownBlock ∧ some k_ ≠ (v10 : Value).ownBlock) v464 t463) ∧ Aside0 (Kd.N k48 48 w' w.heap.size (fun k_ => some k_ ≠ ((.slice Ao10 t449.length co10) : Value).ownBlock ∧ some k_ ≠ ((.slice Ao11 t452.length co11) : Value).ownBlock) v10 x10_3) ∧ Aside0 (Below w.heap.size w w'))
        case atStart => exact ⟨(y466),(0),(by first|rfl|(simp;done)|(simp [*];done)),H',⟨Nat.le_refl _⟩,⟨by (with_reducible repeat (first|apply Kd.N_alloc|apply Kd.N_drewN|apply Kd.N_drew));exact HO_5.out⟩,⟨by (with_reducible repeat (first|apply Kd.R_alloc|apply Kd.R_drewN|apply Kd.R_drew));exact HO_6.out⟩,⟨by (with_reducible repeat (first|apply Kd.V_alloc|apply Kd.V_drewN|apply Kd.V_drew));exact Kd.V_mono HO465.out (fun _ hk => ⟨hk.1.1,⟨hk.1.2,hk.2⟩⟩)⟩,⟨by (with_reducible repeat (first|apply Kd.N_alloc|apply Kd.N_drewN|apply Kd.N_drew));exact HO468.out⟩,⟨by repeat (first|(with_reducible first|exact HB.out|apply bA|apply bN|apply bD)|exact HB.out)⟩⟩
        case round =>
         clear H'
         try clear c1
         try clear c2
         try clear p2
         try clear q2
         try clear c4
         try clear c4b0
         try clear c4b1
         try clear c5
         try clear p6
         try clear c8
         try clear c14
         try clear c14b0
         try clear c14b1
         try clear c14b2
         try clear c16
         try clear c19
         try clear c22
         try clear c22b0
         try clear c22b1
         try clear c22b2
         try clear c24
         try clear c24b0
         try clear c24b1
         try clear c25
         try clear c25b0
         try clear c25b1
         try clear q27
         try clear p2
         try clear q27
         obtain ⟨x10_3,x11_3,rfl,HA,HK3,HO_5,HO_6,HO_9,HO_10,HB⟩:=hrel
         cases gk with
         | zero => exact absurd HA.out (by simp [laws_FnSureQuorum.l0])
         | succ k3 =>
          have H:=HA.out
          clear HA
          simp only [laws_FnSureQuorum.l0] at H
          by_cases c31 : x11_3 < (t449.length : Int)
          ·rw [if_pos c31] at H
           have c31b0 : decide (x11_3 < (t449.length : Int)) = true:=decide_eq_true c31
           clear c31
           by_cases c32 : 0 ≤ x11_3
           case neg => rw [if_neg c32] at H;exact absurd H (by simp)
           rw [if_pos c32] at H
           have c32b0 : decide (0 ≤ x11_3) = true:=decide_eq_true c32
           clear c32
           by_cases c33 : 0 < (t463.length : Int)
           case neg => rw [if_neg c33] at H;exact absurd H (by simp)
           rw [if_pos c33] at H
           have c33b0 : decide (0 < (t463.length : Int)) = true:=decide_eq_true c33
           have c33b1 : decide (0 < t463.length) = true:=decide_eq_true (by omega)
           clear c33
           by_cases c34 : ((rd_T48 t449 x11_3).f0) = (rd t463 0)
           ·rw [if_pos c34] at H
            have c34b0 : (((rd_T48 t449 x11_3).f0) == (rd t463 0)) = true:=beq_iff_eq.mpr c34
            have c34b1 : (((rd_T48 t449 x11_3).f0) != (rd t463 0)) = false:=bne_eq_false_iff_eq.mpr c34
            clear c34
            by_cases c35 : 0 ≤ ji23
            case neg => rw [if_neg c35] at H;exact absurd H (by simp)
            rw [if_pos c35] at H
            have c35b0:=eq_true c35
            have c35b1 : decide (0 ≤ ji23) = true:=decide_eq_true c35
            clear c35
            by_cases c36 : ji23 ≤ (t452.length : Int)
            case neg => rw [if_neg c36] at H;exact absurd H (by simp)
            rw [if_pos c36] at H
            have c36b0:=eq_true c36
            have c36b1 : decide (ji23 ≤ (t452.length : Int)) = true:=decide_eq_true c36
            clear c36
            obtain ⟨y472,hy472⟩ : ∃ y_ : List (S58),y_ = (t452.take (ji23 : Int).toNat):=⟨_,rfl⟩
            replace H : ((laws_lwSame.f k3 ((rd_T48 t449 x11_3).f1) y472).bind fun t477 => (if t477 = true then (laws_FnSureQuorum.l0 k3 t449 t452 ji23 t463 x10_3 (wrap64 (x11_3 + 1))) else (if x10_3.length < 4398046511104 then (laws_FnSureQuorum.l0 k3 t449 t452 ji23 t463 (x10_3 ++ [(⟨(rd_T48 t449 x11_3).f0,(rd_T48 t449 x11_3).f1⟩ : S48)]) (wrap64 (x11_3 + 1))) else (none)))) = some r:=by first|(rw [hy472];with_reducible exact H)|(have H2_:=(Option.bind_some _ _).symm.trans H;rw [hy472];with_reducible exact H2_)|(have H2_:=(Option.bind_some _ _).symm.trans H;with_reducible exact H2_)|with_reducible exact H|(rw [hy472];exact H)|exact H
            have Ny472:=aM hy472
            have EY472:=aM (show y458.length = y472.length from congrArg List.length (Ny458.out.trans Ny472.out.symm))
            clear hy472
            replace H:=Option.bind_eq_some_iff.mp H
            obtain ⟨t477,A370,H⟩:=H
            replace H : (if t477 = true then (laws_FnSureQuorum.l0 k3 t449 t452 ji23 t463 x10_3 (wrap64 (x11_3 + 1))) else (if x10_3.length < 4398046511104 then (laws_FnSureQuorum.l0 k3 t449 t452 ji23 t463 (x10_3 ++ [(⟨(rd_T48 t449 x11_3).f0,(rd_T48 t449 x11_3).f1⟩ : S48)]) (wrap64 (x11_3 + 1))) else (none))) = some r:=H
            have A37:=aM A370
            clear A370
            by_cases c38 : t477 = true
            ·subst c38
             have H1 : (laws_FnSureQuorum.l0 k3 t449 t452 ji23 t463 x10_3 (wrap64 (x11_3 + 1))) = some r:=by rw [if_pos rfl] at H;exact H
             clear H
             have H:=H1
             clear H1
             have H':=aM H
             clear H
             have p469 : 0 ≤ (x11_3 : Int):=of_decide_eq_true (by first|(with_reducible assumption)|assumption)
             have q469 : x11_3 < (t449.length : Int):=of_decide_eq_true (by first|(with_reducible assumption)|assumption)
             obtain ⟨ad469,A469_1,c469_1,e469,hx469_0,hx469_1,hl469_1,hi469_1⟩:=at_T48 (Kd.N_reads' HO_5.out).2.2 x11_3 p469 q469
             cases e469
             obtain ⟨ce469,hce469,hMe469,hcc469⟩:=Kd.N_get HO_5.out z48 x11_3 p469 (by first|exact q469|exact of_decide_eq_true (by first|(with_reducible assumption)|assumption)|(have e_:=(Kd.N_reads' HO_5.out).1;omega))
             obtain ⟨ua469_1,uc469_1,rfl,ul469_1,ge469_1⟩:=k48_openF hMe469
             have hv469_1:=hcc469 1 _ rfl
             rw [add_field _ _ 1 (by omega)] at hv469_1
             replace hv469_1:=Option.some.inj (hv469_1.symm.trans hx469_1)
             injection hv469_1 with hva_ hvn_ hvc_
             rw [hva_] at ge469_1
             rw [hvc_] at ul469_1
             have HL469_1:=aM (show Kd.V k58 58 _ w.heap.size _ _ ((rd_T48 t449 x11_3).f1) from Kd.V_mk ul469_1 ge469_1)
             clear hva_ hvn_ hvc_ ge469_1 ul469_1
             clear hcc469 hce469
             have HR469_1:=aM hi469_1
             have HC469_1:=aM hl469_1
             clear hi469_1 hl469_1
             replace p469:=eq_true p469
             replace q469:=eq_true q469
             obtain ⟨Ao39,co39,eo39⟩:=Kd.V_slice HO_9.out
             subst eo39
             have p470 : 0 ≤ (0 : Int):=(by omega)
             have q470 : 0 < (t463.length : Int):=of_decide_eq_true (by first|(with_reducible assumption)|assumption)
             obtain ⟨ad470,e470,hx470_0⟩:=Kd.at_int (Kd.V_reads' HO_9.out).2.2 0 p470 q470
             cases e470
             have qi470 : (0 < t463.length) = True:=eq_true (by omega)
             (try rw [show ((0 : Int)).toNat = 0 from rfl] at hx470_0)
             (try rw [Addr.add_zero'] at hx470_0)
             replace p470:=eq_true p470
             replace q470:=eq_true q470
             have p471 : 0 ≤ (x11_3 : Int):=of_decide_eq_true (by first|(with_reducible assumption)|assumption)
             have q471 : x11_3 < (t449.length : Int):=of_decide_eq_true (by first|(with_reducible assumption)|assumption)
             obtain ⟨ad471,A471_1,c471_1,e471,hx471_0,hx471_1,hl471_1,hi471_1⟩:=at_T48 (Kd.N_reads' HO_5.out).2.2 x11_3 p471 q471
             obtain rfl : ad469 = ad471:=(by injection e471)
             obtain ⟨ce471,hce471,hMe471,hcc471⟩:=Kd.N_get HO_5.out z48 x11_3 p471 (by first|exact q471|exact of_decide_eq_true (by first|(with_reducible assumption)|assumption)|(have e_:=(Kd.N_reads' HO_5.out).1;omega))
             obtain ⟨ua471_1,uc471_1,rfl,ul471_1,ge471_1⟩:=k48_openF hMe471
             have hv471_1:=hcc471 1 _ rfl
             rw [add_field _ _ 1 (by omega)] at hv471_1
             replace hv471_1:=Option.some.inj (hv471_1.symm.trans hx471_1)
             injection hv471_1 with hva_ hvn_ hvc_
             rw [hva_] at ge471_1
             rw [hvc_] at ul471_1
             have HL471_1:=aM (show Kd.V k58 58 _ w.heap.size _ _ ((rd_T48 t449 x11_3).f1) from Kd.V_mk ul471_1 ge471_1)
             clear hva_ hvn_ hvc_ ge471_1 ul471_1
             clear hcc471 hce471
             have HR471_1:=aM hi471_1
             have HC471_1:=aM hl471_1
             clear hi471_1 hl471_1
             replace p471:=eq_true p471
             replace q471:=eq_true q471
             have ea_:=Option.some.inj (hx469_1.symm.trans hx471_1)
             injection ea_ with ea_ en_ ec_
             subst ea_
             subst ec_
             clear en_
             have q40 : (ji23 : Int) ≤ ((t452.length : Int) : Int):=of_decide_eq_true (by first|(with_reducible assumption)|assumption)
             obtain ⟨i040,hi040,_,hsz40,_⟩:=info_parts info58
             have hroom40 : t452.length ≤ co11:=(Kd.R_reads' HO_6.out).2.1
             have hC40 : Kd.F k58 _ _ Ao11 t452.length t452:=(Kd.V_at (base:=w.heap.size) (Kd.R_V (Kd.R_apart' (Kd.R_apart' (HO_6.out) (Kd.N_typed HO_5.out) (by decide)) (Kd.N_typed HO_10.out) (by decide)))).2.2
             have hcut40:=cut_to (P:=Try.prog) 29 58 .i64 Try.underlying29 hi040 Ao11 t452.length co11 ji23 (of_decide_eq_true (by first|(with_reducible assumption)|assumption)) q40 hroom40
             have hr40:=Kd.F_take (m:=(ji23 : Int).toNat) hC40 (by omega)
             have hy40 : y472.length = (ji23 : Int).toNat:=(by rw [Ny472.out,List.length_take];omega)
             rw [← Ny472.out] at hr40
             rw [← hy40] at hcut40
             have HO476:=aM (show Kd.V k58 58 _ w.heap.size _ (.slice Ao11 y472.length co11) y472 from Kd.V_mk (by omega) hr40)
             have HC476:=aM (show y472.length ≤ co11 from by omega)
             clear hr40 hC40 hroom40 hi040 hsz40
             have KY40:=aM hy40
             clear hy40
             replace q40:=eq_true q40
             go_wp2_with (first|(go_at_call 30;(try rw [EY472.out]);(with_reducible refine (laws_lwSame.calls k3 _ _ ((rd_T48 t449 x11_3).f1) _ _ y472 true _ ?side1 ?side2 ?side3 ?side4 A37.out).mono ?_);(case side1 => repeat (first|exact (by repeat (first|(with_reducible exact HR471_1.out)|(with_reducible refine Kd.C_alloc ?_ _)|(with_reducible refine Kd.C_drewN ?_ _)|(with_reducible refine Kd.C_drew ?_)|exact HR471_1.out))|(with_reducible refine Kd.C_alloc ?_ _)|(with_reducible refine Kd.C_drewN ?_ _)|(with_reducible refine Kd.C_drew ?_)));(case side2 => exact HC471_1.out);(case side3 => repeat (first|exact (Kd.V_reads' HO476.out).2.2|(with_reducible refine Kd.C_alloc ?_ _)|(with_reducible refine Kd.C_drewN ?_ _)|(with_reducible refine Kd.C_drew ?_)));(case side4 => exact (Kd.V_reads' HO476.out).2.1);rintro e w' ⟨rfl,⟨nd,rfl⟩⟩;(try first|exact ⟨rfl,_,World.drewN_drewN _ _ _⟩|exact ⟨rfl,_,Eq.trans (World.drewN_drewN _ _ _) (congrArg (World.drewN _) (Nat.add_assoc _ _ _))⟩)))
             repeat (go_quiet (first|(go_at_call 30;(try rw [EY472.out]);(with_reducible refine (laws_lwSame.calls k3 _ _ ((rd_T48 t449 x11_3).f1) _ _ y472 true _ ?side1 ?side2 ?side3 ?side4 A37.out).mono ?_);(case side1 => repeat (first|exact (by repeat (first|(with_reducible exact HR471_1.out)|(with_reducible refine Kd.C_alloc ?_ _)|(with_reducible refine Kd.C_drewN ?_ _)|(with_reducible refine Kd.C_drew ?_)|exact HR471_1.out))|(with_reducible refine Kd.C_alloc ?_ _)|(with_reducible refine Kd.C_drewN ?_ _)|(with_reducible refine Kd.C_drew ?_)));(case side2 => exact HC471_1.out);(case side3 => repeat (first|exact (Kd.V_reads' HO476.out).2.2|(with_reducible refine Kd.C_alloc ?_ _)|(with_reducible refine Kd.C_drewN ?_ _)|(with_reducible refine Kd.C_drew ?_)));(case side4 => exact (Kd.V_reads' HO476.out).2.1);rintro e w' ⟨rfl,⟨nd,rfl⟩⟩;(try first|exact ⟨rfl,_,World.drewN_drewN _ _ _⟩|exact ⟨rfl,_,Eq.trans (World.drewN_drewN _ _ _) (congrArg (World.drewN _) (Nat.add_assoc _ _ _))⟩)));try go_wp2_with (first|(go_at_call 30;(try rw [EY472.out]);(with_reducible refine (laws_lwSame.calls k3 _ _ ((rd_T48 t449 x11_3).f1) _ _ y472 true _ ?side1 ?side2 ?side3 ?side4 A37.out).mono ?_);(case side1 => repeat (first|exact (by repeat (first|(with_reducible exact HR471_1.out)|(with_reducible refine Kd.C_alloc ?_ _)|(with_reducible refine Kd.C_drewN ?_ _)|(with_reducible refine Kd.C_drew ?_)|exact HR471_1.out))|(with_reducible refine Kd.C_alloc ?_ _)|(with_reducible refine Kd.C_drewN ?_ _)|(with_reducible refine Kd.C_drew ?_)));(case side2 => exact HC471_1.out);(case side3 => repeat (first|exact (Kd.V_reads' HO476.out).2.2|(with_reducible refine Kd.C_alloc ?_ _)|(with_reducible refine Kd.C_drewN ?_ _)|(with_reducible refine Kd.C_drew ?_)));(case side4 => exact (Kd.V_reads' HO476.out).2.1);rintro e w' ⟨rfl,⟨nd,rfl⟩⟩;(try first|exact ⟨rfl,_,World.drewN_drewN _ _ _⟩|exact ⟨rfl,_,Eq.trans (World.drewN_drewN _ _ _) (congrArg (World.drewN _) (Nat.add_assoc _ _ _))⟩))))
             go_roundg k3
             case measure => have:=HJ2.out;have:=HJ7.out;have:=HK3.out;omega
             case rel => exact ⟨(x10_3),(wrap64 (x11_3 + 1)),(by first|rfl|(simp;done)|(simp [*];done)),H',⟨by have:=HJ2.out;have:=HJ7.out;have:=HK3.out;omega⟩,⟨by (with_reducible repeat (first|apply Kd.N_alloc|apply Kd.N_drewN|apply Kd.N_drew));exact HO_5.out⟩,⟨by (with_reducible repeat (first|apply Kd.R_alloc|apply Kd.R_drewN|apply Kd.R_drew));exact HO_6.out⟩,⟨by (with_reducible repeat (first|apply Kd.V_alloc|apply Kd.V_drewN|apply Kd.V_drew));exact HO_9.out⟩,⟨by (with_reducible repeat (first|apply Kd.N_alloc|apply Kd.N_drewN|apply Kd.N_drew));exact HO_10.out⟩,⟨by repeat (first|(with_reducible first|exact HB.out|apply bA|apply bN|apply bD)|exact HB.out)⟩⟩
            ·replace c38:=Bool.eq_false_iff.mpr c38
             subst c38
             have H1 : (if x10_3.length < 4398046511104 then (laws_FnSureQuorum.l0 k3 t449 t452 ji23 t463 (x10_3 ++ [(⟨(rd_T48 t449 x11_3).f0,(rd_T48 t449 x11_3).f1⟩ : S48)]) (wrap64 (x11_3 + 1))) else (none)) = some r:=by rw [if_neg (show ¬ (false = true) by decide)] at H;exact H
             clear H
             have H:=H1
             clear H1
             by_cases c41 : x10_3.length < 4398046511104
             case neg => rw [if_neg c41] at H;exact absurd H (by simp)
             rw [if_pos c41] at H
             have LMc41:=aM c41
             clear c41
             obtain ⟨y479,hy479⟩ : ∃ y_ : List (S48),y_ = (x10_3 ++ [(⟨(rd_T48 t449 x11_3).f0,(rd_T48 t449 x11_3).f1⟩ : S48)]):=⟨_,rfl⟩
             replace H : (laws_FnSureQuorum.l0 k3 t449 t452 ji23 t463 y479 (wrap64 (x11_3 + 1))) = some r:=by first|(rw [hy479];with_reducible exact H)|(have H2_:=(Option.bind_some _ _).symm.trans H;rw [hy479];with_reducible exact H2_)|(have H2_:=(Option.bind_some _ _).symm.trans H;with_reducible exact H2_)|with_reducible exact H|(rw [hy479];exact H)|exact H
             have Ny479:=aM hy479
             clear hy479
             have H':=aM H
             clear H
             have p469 : 0 ≤ (x11_3 : Int):=of_decide_eq_true (by first|(with_reducible assumption)|assumption)
             have q469 : x11_3 < (t449.length : Int):=of_decide_eq_true (by first|(with_reducible assumption)|assumption)
             obtain ⟨ad469,A469_1,c469_1,e469,hx469_0,hx469_1,hl469_1,hi469_1⟩:=at_T48 (Kd.N_reads' HO_5.out).2.2 x11_3 p469 q469
             cases e469
             obtain ⟨ce469,hce469,hMe469,hcc469⟩:=Kd.N_get HO_5.out z48 x11_3 p469 (by first|exact q469|exact of_decide_eq_true (by first|(with_reducible assumption)|assumption)|(have e_:=(Kd.N_reads' HO_5.out).1;omega))
             obtain ⟨ua469_1,uc469_1,rfl,ul469_1,ge469_1⟩:=k48_openF hMe469
             have hv469_1:=hcc469 1 _ rfl
             rw [add_field _ _ 1 (by omega)] at hv469_1
             replace hv469_1:=Option.some.inj (hv469_1.symm.trans hx469_1)
             injection hv469_1 with hva_ hvn_ hvc_
             rw [hva_] at ge469_1
             rw [hvc_] at ul469_1
             have HL469_1:=aM (show Kd.V k58 58 _ w.heap.size _ _ ((rd_T48 t449 x11_3).f1) from Kd.V_mk ul469_1 ge469_1)
             clear hva_ hvn_ hvc_ ge469_1 ul469_1
             clear hcc469 hce469
             have HR469_1:=aM hi469_1
             have HC469_1:=aM hl469_1
             clear hi469_1 hl469_1
             replace p469:=eq_true p469
             replace q469:=eq_true q469
             obtain ⟨Ao42,co42,eo42⟩:=Kd.V_slice HO_9.out
             subst eo42
             have p470 : 0 ≤ (0 : Int):=(by omega)
             have q470 : 0 < (t463.length : Int):=of_decide_eq_true (by first|(with_reducible assumption)|assumption)
             obtain ⟨ad470,e470,hx470_0⟩:=Kd.at_int (Kd.V_reads' HO_9.out).2.2 0 p470 q470
             cases e470
             have qi470 : (0 < t463.length) = True:=eq_true (by omega)
             (try rw [show ((0 : Int)).toNat = 0 from rfl] at hx470_0)
             (try rw [Addr.add_zero'] at hx470_0)
             replace p470:=eq_true p470
             replace q470:=eq_true q470
             have p471 : 0 ≤ (x11_3 : Int):=of_decide_eq_true (by first|(with_reducible assumption)|assumption)
             have q471 : x11_3 < (t449.length : Int):=of_decide_eq_true (by first|(with_reducible assumption)|assumption)
             obtain ⟨ad471,A471_1,c471_1,e471,hx471_0,hx471_1,hl471_1,hi471_1⟩:=at_T48 (Kd.N_reads' HO_5.out).2.2 x11_3 p471 q471
             obtain rfl : ad469 = ad471:=(by injection e471)
             obtain ⟨ce471,hce471,hMe471,hcc471⟩:=Kd.N_get HO_5.out z48 x11_3 p471 (by first|exact q471|exact of_decide_eq_true (by first|(with_reducible assumption)|assumption)|(have e_:=(Kd.N_reads' HO_5.out).1;omega))
             obtain ⟨ua471_1,uc471_1,rfl,ul471_1,ge471_1⟩:=k48_openF hMe471
             have hv471_1:=hcc471 1 _ rfl
             rw [add_field _ _ 1 (by omega)] at hv471_1
             replace hv471_1:=Option.some.inj (hv471_1.symm.trans hx471_1)
             injection hv471_1 with hva_ hvn_ hvc_
             rw [hva_] at ge471_1
             rw [hvc_] at ul471_1
             have HL471_1:=aM (show Kd.V k58 58 _ w.heap.size _ _ ((rd_T48 t449 x11_3).f1) from Kd.V_mk ul471_1 ge471_1)
             clear hva_ hvn_ hvc_ ge471_1 ul471_1
             clear hcc471 hce471
             have HR471_1:=aM hi471_1
             have HC471_1:=aM hl471_1
             clear hi471_1 hl471_1
             replace p471:=eq_true p471
             replace q471:=eq_true q471
             have ea_:=Option.some.inj (hx469_1.symm.trans hx471_1)
             injection ea_ with ea_ en_ ec_
             subst ea_
             subst ec_
             clear en_
             have q43 : (ji23 : Int) ≤ ((t452.length : Int) : Int):=of_decide_eq_true (by first|(with_reducible assumption)|assumption)
             obtain ⟨i043,hi043,_,hsz43,_⟩:=info_parts info58
             have hroom43 : t452.length ≤ co11:=(Kd.R_reads' HO_6.out).2.1
             have hC43 : Kd.F k58 _ _ Ao11 t452.length t452:=(Kd.V_at (base:=w.heap.size) (Kd.R_V (Kd.R_apart' (Kd.R_apart' (HO_6.out) (Kd.N_typed HO_5.out) (by decide)) (Kd.N_typed HO_10.out) (by decide)))).2.2
             have hcut43:=cut_to (P:=Try.prog) 29 58 .i64 Try.underlying29 hi043 Ao11 t452.length co11 ji23 (of_decide_eq_true (by first|(with_reducible assumption)|assumption)) q43 hroom43
             have hr43:=Kd.F_take (m:=(ji23 : Int).toNat) hC43 (by omega)
             have hy43 : y472.length = (ji23 : Int).toNat:=(by rw [Ny472.out,List.length_take];omega)
             rw [← Ny472.out] at hr43
             rw [← hy43] at hcut43
             have HO476:=aM (show Kd.V k58 58 _ w.heap.size _ (.slice Ao11 y472.length co11) y472 from Kd.V_mk (by omega) hr43)
             have HC476:=aM (show y472.length ≤ co11 from by omega)
             clear hr43 hC43 hroom43 hi043 hsz43
             have KY43:=aM hy43
             clear hy43
             replace q43:=eq_true q43
             go_wp2_with (first|(go_at_call 30;(try rw [EY472.out]);(with_reducible refine (laws_lwSame.calls k3 _ _ ((rd_T48 t449 x11_3).f1) _ _ y472 false _ ?side1 ?side2 ?side3 ?side4 A37.out).mono ?_);(case side1 => repeat (first|exact (by repeat (first|(with_reducible exact HR471_1.out)|(with_reducible refine Kd.C_alloc ?_ _)|(with_reducible refine Kd.C_drewN ?_ _)|(with_reducible refine Kd.C_drew ?_)|exact HR471_1.out))|(with_reducible refine Kd.C_alloc ?_ _)|(with_reducible refine Kd.C_drewN ?_ _)|(with_reducible refine Kd.C_drew ?_)));(case side2 => exact HC471_1.out);(case side3 => repeat (first|exact (Kd.V_reads' HO476.out).2.2|(with_reducible refine Kd.C_alloc ?_ _)|(with_reducible refine Kd.C_drewN ?_ _)|(with_reducible refine Kd.C_drew ?_)));(case side4 => exact (Kd.V_reads' HO476.out).2.1);rintro e w' ⟨rfl,⟨nd,rfl⟩⟩;(try first|exact ⟨rfl,_,World.drewN_drewN _ _ _⟩|exact ⟨rfl,_,Eq.trans (World.drewN_drewN _ _ _) (congrArg (World.drewN _) (Nat.add_assoc _ _ _))⟩);have p478 : 0 ≤ (x11_3 : Int):=of_decide_eq_true (by first|(with_reducible assumption)|assumption);have q478 : x11_3 < (t449.length : Int):=of_decide_eq_true (by first|(with_reducible assumption)|assumption);obtain ⟨ad478,A478_1,c478_1,e478,hx478_0,hx478_1,hl478_1,hi478_1⟩:=at_T48 (Kd.N_reads' HO_5.out).2.2 x11_3 p478 q478;obtain rfl : ad469 = ad478:=(by injection e478);obtain ⟨ce478,hce478,hMe478,hcc478⟩:=Kd.N_get HO_5.out z48 x11_3 p478 (by first|exact q478|exact of_decide_eq_true (by first|(with_reducible assumption)|assumption)|(have e_:=(Kd.N_reads' HO_5.out).1;omega));obtain ⟨ua478_1,uc478_1,rfl,ul478_1,ge478_1⟩:=k48_openF hMe478;have hv478_1:=hcc478 1 _ rfl;rw [add_field _ _ 1 (by omega)] at hv478_1;replace hv478_1:=Option.some.inj (hv478_1.symm.trans hx478_1);injection hv478_1 with hva_ hvn_ hvc_;rw [hva_] at ge478_1;rw [hvc_] at ul478_1;have HL478_1:=aM (show Kd.V k58 58 _ w.heap.size _ _ ((rd_T48 t449 x11_3).f1) from Kd.V_mk ul478_1 ge478_1);clear hva_ hvn_ hvc_ ge478_1 ul478_1;clear hcc478 hce478;have HR478_1:=aM hi478_1;have HC478_1:=aM hl478_1;clear hi478_1 hl478_1;replace p478:=eq_true p478;replace q478:=eq_true q478;have ea_:=Option.some.inj (hx469_1.symm.trans hx478_1);injection ea_ with ea_ en_ ec_;subst ea_;subst ec_;clear en_)|((with_reducible refine gate_builtin (b:=.append) (xs:=#[.tmp 86,.tmp 91]) rfl ?_);(try (refine gate_guard (by rfl) ?_;dsimp only));at_builtin;refine Kd.N_append k48 (w0:=w) w.heap.size rfl (.tmp 86) (.tmp 91) 27 48 (.agg #[(.int .i64 0),(.slice none 0 0)]) 32 rfl Try.underlying27 info48 rfl (by decide) (by omega) u10 x10_3 (⟨(rd_T48 t449 x11_3).f0,(rd_T48 t449 x11_3).f1⟩ : S48) [.int .i64 ((rd_T48 t449 x11_3).f0),.slice A469_1 ((rd_T48 t449 x11_3).f1).length c469_1] (fun k_ => some k_ ≠ (.slice (some ad469) t449.length co10 : Value).ownBlock ∧ some k_ ≠ (.slice Ao11 t452.length co11 : Value).ownBlock) (fun k_ => ((fun k_ => some k_ ≠ (.slice (some ad469) t449.length co10 : Value).ownBlock ∧ some k_ ≠ (.slice Ao11 t452.length co11 : Value).ownBlock)) k_ ∧ some k_ ≠ (u10 : Value).ownBlock) rfl rfl ?aP (fun _ hk => hk) ?aF ?aO ?aB ?aS ?aL ?_;(case aP => exact (k48_mkF _ _ (⟨(rd_T48 t449 x11_3).f0,(rd_T48 t449 x11_3).f1⟩ : S48) (Kd.V_reads' (Kd.V_mono (ok':=(fun k_ => ((fun k_ => some k_ ≠ (.slice (some ad469) t449.length co10 : Value).ownBlock ∧ some k_ ≠ (.slice Ao11 t452.length co11 : Value).ownBlock)) k_ ∧ some k_ ≠ (u10 : Value).ownBlock)) (HL478_1.out) (fun k_ hk => ⟨⟨hk.2,hk.1.1⟩,hk.1.2⟩))).2.1 (Kd.V_F (e:=58) (base:=w.heap.size) (Kd.V_mono (ok':=(fun k_ => ((fun k_ => some k_ ≠ (.slice (some ad469) t449.length co10 : Value).ownBlock ∧ some k_ ≠ (.slice Ao11 t452.length co11 : Value).ownBlock)) k_ ∧ some k_ ≠ (u10 : Value).ownBlock)) (HL478_1.out) (fun k_ hk => ⟨⟨hk.2,hk.1.1⟩,hk.1.2⟩)))));(case aB => exact (by repeat (first|(with_reducible first|exact HB.out|apply bA|apply bN|apply bD)|exact HB.out)));(case aF => exact (fun k_ hk => ⟨Kd.fresh' (Kd.N_lt (by (with_reducible repeat (first|apply Kd.N_alloc|apply Kd.N_drewN|apply Kd.N_drew));exact HO_5.out)) k_ hk,Kd.fresh' (Kd.R_lt (by (with_reducible repeat (first|apply Kd.R_alloc|apply Kd.R_drewN|apply Kd.R_drew));exact HO_6.out)) k_ hk⟩));(case aO => exact (by (with_reducible repeat (first|apply Kd.N_alloc|apply Kd.N_drewN|apply Kd.N_drew));exact HO_10.out));(case aS => exact (below_size (by repeat (first|(with_reducible first|exact HB.out|apply bA|apply bN|apply bD)|exact HB.out))));(case aL => have:=LMc41.out;omega);intro v480 w44 ho hb hg hat;rw [← Ny479.out] at ho;have n0_:=aM (Kd.N_afterv (ok:=(fun k_ => some k_ ≠ (.slice Ao11 t452.length co11 : Value).ownBlock)) (by (with_reducible repeat (first|apply Kd.N_alloc|apply Kd.N_drewN|apply Kd.N_drew));exact HO_5.out) hg hat);have n1_:=aM (Kd.R_over' (by (with_reducible repeat (first|apply Kd.R_alloc|apply Kd.R_drewN|apply Kd.R_drew));exact HO_6.out) (Kd.N_typed (by (with_reducible repeat (first|apply Kd.N_alloc|apply Kd.N_drewN|apply Kd.N_drew));exact HO_10.out)) (by decide) hg);have n2_:=aM (Kd.V_afterv (ok:=(fun k_ => some k_ ≠ (.slice (some ad469) t449.length co10 : Value).ownBlock ∧ some k_ ≠ (.slice Ao11 t452.length co11 : Value).ownBlock)) (by (with_reducible repeat (first|apply Kd.V_alloc|apply Kd.V_drewN|apply Kd.V_drew));exact Kd.V_mono HO_9.out (fun _ hk => ⟨⟨hk.1,hk.2.1⟩,hk.2.2⟩)) hg hat);have n3_:=aM (Kd.V_afterv (ok:=(fun k_ => some k_ ≠ (.slice (some ad469) t449.length co10 : Value).ownBlock ∧ some k_ ≠ (.slice Ao11 t452.length co11 : Value).ownBlock)) (by (with_reducible repeat (first|apply Kd.V_alloc|apply Kd.V_drewN|apply Kd.V_drew));exact Kd.V_mono HL469_1.out (fun _ hk => ⟨⟨hk.2,hk.1.1⟩,hk.1.2⟩)) hg hat);have n4_:=aM (Kd.V_afterv (ok:=(fun k_ => some k_ ≠ (.slice (some ad469) t449.length co10 : Value).ownBlock ∧ some k_ ≠ (.slice Ao11 t452.length co11 : Value).ownBlock)) (by (with_reducible repeat (first|apply Kd.V_alloc|apply Kd.V_drewN|apply Kd.V_drew));exact Kd.V_mono HL471_1.out (fun _ hk => ⟨⟨hk.2,hk.1.1⟩,hk.1.2⟩)) hg hat);have n5_:=aM (Kd.V_afterv (ok:=(fun k_ => some k_ ≠ (.slice (some ad469) t449.length co10 : Value).ownBlock)) (by (with_reducible repeat (first|apply Kd.V_alloc|apply Kd.V_drewN|apply Kd.V_drew));exact Kd.V_mono HO476.out (fun _ hk => ⟨hk.1.2,hk.2⟩)) hg hat);have n6_:=aM (Kd.V_afterv (ok:=(fun k_ => some k_ ≠ (.slice (some ad469) t449.length co10 : Value).ownBlock ∧ some k_ ≠ (.slice Ao11 t452.length co11 : Value).ownBlock)) (by (with_reducible repeat (first|apply Kd.V_alloc|apply Kd.V_drewN|apply Kd.V_drew));exact Kd.V_mono HL478_1.out (fun _ hk => ⟨⟨hk.2,hk.1.1⟩,hk.1.2⟩)) hg hat);have n7_:=aM (hb);have n8_:=aM (ho);clear HO_5;clear HO_6;clear HO_9;clear HL469_1;clear HL471_1;clear HO476;clear HL478_1;clear HB;clear HO_10;have HO_5:=n0_;have HO_6:=n1_;have HO_9:=n2_;have HL469_1:=n3_;have HL471_1:=n4_;have HO476:=n5_;have HL478_1:=n6_;have HB:=n7_;have HO481:=n8_;clear n0_ n1_ n2_ n3_ n4_ n5_ n6_ n7_ n8_;clear ho hb hg hat))
             repeat (go_quiet (first|(go_at_call 30;(try rw [EY472.out]);(with_reducible refine (laws_lwSame.calls k3 _ _ ((rd_T48 t449 x11_3).f1) _ _ y472 false _ ?side1 ?side2 ?side3 ?side4 A37.out).mono ?_);(case side1 => repeat (first|exact (by repeat (first|(with_reducible exact HR471_1.out)|(with_reducible refine Kd.C_alloc ?_ _)|(with_reducible refine Kd.C_drewN ?_ _)|(with_reducible refine Kd.C_drew ?_)|exact HR471_1.out))|(with_reducible refine Kd.C_alloc ?_ _)|(with_reducible refine Kd.C_drewN ?_ _)|(with_reducible refine Kd.C_drew ?_)));(case side2 => exact HC471_1.out);(case side3 => repeat (first|exact (Kd.V_reads' HO476.out).2.2|(with_reducible refine Kd.C_alloc ?_ _)|(with_reducible refine Kd.C_drewN ?_ _)|(with_reducible refine Kd.C_drew ?_)));(case side4 => exact (Kd.V_reads' HO476.out).2.1);rintro e w' ⟨rfl,⟨nd,rfl⟩⟩;(try first|exact ⟨rfl,_,World.drewN_drewN _ _ _⟩|exact ⟨rfl,_,Eq.trans (World.drewN_drewN _ _ _) (congrArg (World.drewN _) (Nat.add_assoc _ _ _))⟩);have p478 : 0 ≤ (x11_3 : Int):=of_decide_eq_true (by first|(with_reducible assumption)|assumption);have q478 : x11_3 < (t449.length : Int):=of_decide_eq_true (by first|(with_reducible assumption)|assumption);obtain ⟨ad478,A478_1,c478_1,e478,hx478_0,hx478_1,hl478_1,hi478_1⟩:=at_T48 (Kd.N_reads' HO_5.out).2.2 x11_3 p478 q478;obtain rfl : ad469 = ad478:=(by injection e478);obtain ⟨ce478,hce478,hMe478,hcc478⟩:=Kd.N_get HO_5.out z48 x11_3 p478 (by first|exact q478|exact of_decide_eq_true (by first|(with_reducible assumption)|assumption)|(have e_:=(Kd.N_reads' HO_5.out).1;omega));obtain ⟨ua478_1,uc478_1,rfl,ul478_1,ge478_1⟩:=k48_openF hMe478;have hv478_1:=hcc478 1 _ rfl;rw [add_field _ _ 1 (by omega)] at hv478_1;replace hv478_1:=Option.some.inj (hv478_1.symm.trans hx478_1);injection hv478_1 with hva_ hvn_ hvc_;rw [hva_] at ge478_1;rw [hvc_] at ul478_1;have HL478_1:=aM (show Kd.V k58 58 _ w.heap.size _ _ ((rd_T48 t449 x11_3).f1) from Kd.V_mk ul478_1 ge478_1);clear hva_ hvn_ hvc_ ge478_1 ul478_1;clear hcc478 hce478;have HR478_1:=aM hi478_1;have HC478_1:=aM hl478_1;clear hi478_1 hl478_1;replace p478:=eq_true p478;replace q478:=eq_true q478;have ea_:=Option.some.inj (hx469_1.symm.trans hx478_1);injection ea_ with ea_ en_ ec_;subst ea_;subst ec_;clear en_)|((with_reducible refine gate_builtin (b:=.append) (xs:=#[.tmp 86,.tmp 91]) rfl ?_);(try (refine gate_guard (by rfl) ?_;dsimp only));at_builtin;refine Kd.N_append k48 (w0:=w) w.heap.size rfl (.tmp 86) (.tmp 91) 27 48 (.agg #[(.int .i64 0),(.slice none 0 0)]) 32 rfl Try.underlying27 info48 rfl (by decide) (by omega) u10 x10_3 (⟨(rd_T48 t449 x11_3).f0,(rd_T48 t449 x11_3).f1⟩ : S48) [.int .i64 ((rd_T48 t449 x11_3).f0),.slice A469_1 ((rd_T48 t449 x11_3).f1).length c469_1] (fun k_ => some k_ ≠ (.slice (some ad469) t449.length co10 : Value).ownBlock ∧ some k_ ≠ (.slice Ao11 t452.length co11 : Value).ownBlock) (fun k_ => ((fun k_ => some k_ ≠ (.slice (some ad469) t449.length co10 : Value).ownBlock ∧ some k_ ≠ (.slice Ao11 t452.length co11 : Value).ownBlock)) k_ ∧ some k_ ≠ (u10 : Value).ownBlock) rfl rfl ?aP (fun _ hk => hk) ?aF ?aO ?aB ?aS ?aL ?_;(case aP => exact (k48_mkF _ _ (⟨(rd_T48 t449 x11_3).f0,(rd_T48 t449 x11_3).f1⟩ : S48) (Kd.V_reads' (Kd.V_mono (ok':=(fun k_ => ((fun k_ => some k_ ≠ (.slice (some ad469) t449.length co10 : Value).ownBlock ∧ some k_ ≠ (.slice Ao11 t452.length co11 : Value).ownBlock)) k_ ∧ some k_ ≠ (u10 : Value).ownBlock)) (HL478_1.out) (fun k_ hk => ⟨⟨hk.2,hk.1.1⟩,hk.1.2⟩))).2.1 (Kd.V_F (e:=58) (base:=w.heap.size) (Kd.V_mono (ok':=(fun k_ => ((fun k_ => some k_ ≠ (.slice (some ad469) t449.length co10 : Value).ownBlock ∧ some k_ ≠ (.slice Ao11 t452.length co11 : Value).ownBlock)) k_ ∧ some k_ ≠ (u10 : Value).ownBlock)) (HL478_1.out) (fun k_ hk => ⟨⟨hk.2,hk.1.1⟩,hk.1.2⟩)))));(case aB => exact (by repeat (first|(with_reducible first|exact HB.out|apply bA|apply bN|apply bD)|exact HB.out)));(case aF => exact (fun k_ hk => ⟨Kd.fresh' (Kd.N_lt (by (with_reducible repeat (first|apply Kd.N_alloc|apply Kd.N_drewN|apply Kd.N_drew));exact HO_5.out)) k_ hk,Kd.fresh' (Kd.R_lt (by (with_reducible repeat (first|apply Kd.R_alloc|apply Kd.R_drewN|apply Kd.R_drew));exact HO_6.out)) k_ hk⟩));(case aO => exact (by (with_reducible repeat (first|apply Kd.N_alloc|apply Kd.N_drewN|apply Kd.N_drew));exact HO_10.out));(case aS => exact (below_size (by repeat (first|(with_reducible first|exact HB.out|apply bA|apply bN|apply bD)|exact HB.out))));(case aL => have:=LMc41.out;omega);intro v480 w44 ho hb hg hat;rw [← Ny479.out] at ho;have n0_:=aM (Kd.N_afterv (ok:=(fun k_ => some k_ ≠ (.slice Ao11 t452.length co11 : Value).ownBlock)) (by (with_reducible repeat (first|apply Kd.N_alloc|apply Kd.N_drewN|apply Kd.N_drew));exact HO_5.out) hg hat);have n1_:=aM (Kd.R_over' (by (with_reducible repeat (first|apply Kd.R_alloc|apply Kd.R_drewN|apply Kd.R_drew));exact HO_6.out) (Kd.N_typed (by (with_reducible repeat (first|apply Kd.N_alloc|apply Kd.N_drewN|apply Kd.N_drew));exact HO_10.out)) (by decide) hg);have n2_:=aM (Kd.V_afterv (ok:=(fun k_ => some k_ ≠ (.slice (some ad469) t449.length co10 : Value).ownBlock ∧ some k_ ≠ (.slice Ao11 t452.length co11 : Value).ownBlock)) (by (with_reducible repeat (first|apply Kd.V_alloc|apply Kd.V_drewN|apply Kd.V_drew));exact Kd.V_mono HO_9.out (fun _ hk => ⟨⟨hk.1,hk.2.1⟩,hk.2.2⟩)) hg hat);have n3_:=aM (Kd.V_afterv (ok:=(fun k_ => some k_ ≠ (.slice (some ad469) t449.length co10 : Value).ownBlock ∧ some k_ ≠ (.slice Ao11 t452.length co11 : Value).ownBlock)) (by (with_reducible repeat (first|apply Kd.V_alloc|apply Kd.V_drewN|apply Kd.V_drew));exact Kd.V_mono HL469_1.out (fun _ hk => ⟨⟨hk.2,hk.1.1⟩,hk.1.2⟩)) hg hat);have n4_:=aM (Kd.V_afterv (ok:=(fun k_ => some k_ ≠ (.slice (some ad469) t449.length co10 : Value).ownBlock ∧ some k_ ≠ (.slice Ao11 t452.length co11 : Value).ownBlock)) (by (with_reducible repeat (first|apply Kd.V_alloc|apply Kd.V_drewN|apply Kd.V_drew));exact Kd.V_mono HL471_1.out (fun _ hk => ⟨⟨hk.2,hk.1.1⟩,hk.1.2⟩)) hg hat);have n5_:=aM (Kd.V_afterv (ok:=(fun k_ => some k_ ≠ (.slice (some ad469) t449.length co10 : Value).ownBlock)) (by (with_reducible repeat (first|apply Kd.V_alloc|apply Kd.V_drewN|apply Kd.V_drew));exact Kd.V_mono HO476.out (fun _ hk => ⟨hk.1.2,hk.2⟩)) hg hat);have n6_:=aM (Kd.V_afterv (ok:=(fun k_ => some k_ ≠ (.slice (some ad469) t449.length co10 : Value).ownBlock ∧ some k_ ≠ (.slice Ao11 t452.length co11 : Value).ownBlock)) (by (with_reducible repeat (first|apply Kd.V_alloc|apply Kd.V_drewN|apply Kd.V_drew));exact Kd.V_mono HL478_1.out (fun _ hk => ⟨⟨hk.2,hk.1.1⟩,hk.1.2⟩)) hg hat);have n7_:=aM (hb);have n8_:=aM (ho);clear HO_5;clear HO_6;clear HO_9;clear HL469_1;clear HL471_1;clear HO476;clear HL478_1;clear HB;clear HO_10;have HO_5:=n0_;have HO_6:=n1_;have HO_9:=n2_;have HL469_1:=n3_;have HL471_1:=n4_;have HO476:=n5_;have HL478_1:=n6_;have HB:=n7_;have HO481:=n8_;clear n0_ n1_ n2_ n3_ n4_ n5_ n6_ n7_ n8_;clear ho hb hg hat));try go_wp2_with (first|(go_at_call 30;(try rw [EY472.out]);(with_reducible refine (laws_lwSame.calls k3 _ _ ((rd_T48 t449 x11_3).f1) _ _ y472 false _ ?side1 ?side2 ?side3 ?side4 A37.out).mono ?_);(case side1 => repeat (first|exact (by repeat (first|(with_reducible exact HR471_1.out)|(with_reducible refine Kd.C_alloc ?_ _)|(with_reducible refine Kd.C_drewN ?_ _)|(with_reducible refine Kd.C_drew ?_)|exact HR471_1.out))|(with_reducible refine Kd.C_alloc ?_ _)|(with_reducible refine Kd.C_drewN ?_ _)|(with_reducible refine Kd.C_drew ?_)));(case side2 => exact HC471_1.out);(case side3 => repeat (first|exact (Kd.V_reads' HO476.out).2.2|(with_reducible refine Kd.C_alloc ?_ _)|(with_reducible refine Kd.C_drewN ?_ _)|(with_reducible refine Kd.C_drew ?_)));(case side4 => exact (Kd.V_reads' HO476.out).2.1);rintro e w' ⟨rfl,⟨nd,rfl⟩⟩;(try first|exact ⟨rfl,_,World.drewN_drewN _ _ _⟩|exact ⟨rfl,_,Eq.trans (World.drewN_drewN _ _ _) (congrArg (World.drewN _) (Nat.add_assoc _ _ _))⟩);have p478 : 0 ≤ (x11_3 : Int):=of_decide_eq_true (by first|(with_reducible assumption)|assumption);have q478 : x11_3 < (t449.length : Int):=of_decide_eq_true (by first|(with_reducible assumption)|assumption);obtain ⟨ad478,A478_1,c478_1,e478,hx478_0,hx478_1,hl478_1,hi478_1⟩:=at_T48 (Kd.N_reads' HO_5.out).2.2 x11_3 p478 q478;obtain rfl : ad469 = ad478:=(by injection e478);obtain ⟨ce478,hce478,hMe478,hcc478⟩:=Kd.N_get HO_5.out z48 x11_3 p478 (by first|exact q478|exact of_decide_eq_true (by first|(with_reducible assumption)|assumption)|(have e_:=(Kd.N_reads' HO_5.out).1;omega));obtain ⟨ua478_1,uc478_1,rfl,ul478_1,ge478_1⟩:=k48_openF hMe478;have hv478_1:=hcc478 1 _ rfl;rw [add_field _ _ 1 (by omega)] at hv478_1;replace hv478_1:=Option.some.inj (hv478_1.symm.trans hx478_1);injection hv478_1 with hva_ hvn_ hvc_;rw [hva_] at ge478_1;rw [hvc_] at ul478_1;have HL478_1:=aM (show Kd.V k58 58 _ w.heap.size _ _ ((rd_T48 t449 x11_3).f1) from Kd.V_mk ul478_1 ge478_1);clear hva_ hvn_ hvc_ ge478_1 ul478_1;clear hcc478 hce478;have HR478_1:=aM hi478_1;have HC478_1:=aM hl478_1;clear hi478_1 hl478_1;replace p478:=eq_true p478;replace q478:=eq_true q478;have ea_:=Option.some.inj (hx469_1.symm.trans hx478_1);injection ea_ with ea_ en_ ec_;subst ea_;subst ec_;clear en_)|((with_reducible refine gate_builtin (b:=.append) (xs:=#[.tmp 86,.tmp 91]) rfl ?_);(try (refine gate_guard (by rfl) ?_;dsimp only));at_builtin;refine Kd.N_append k48 (w0:=w) w.heap.size rfl (.tmp 86) (.tmp 91) 27 48 (.agg #[(.int .i64 0),(.slice none 0 0)]) 32 rfl Try.underlying27 info48 rfl (by decide) (by omega) u10 x10_3 (⟨(rd_T48 t449 x11_3).f0,(rd_T48 t449 x11_3).f1⟩ : S48) [.int .i64 ((rd_T48 t449 x11_3).f0),.slice A469_1 ((rd_T48 t449 x11_3).f1).length c469_1] (fun k_ => some k_ ≠ (.slice (some ad469) t449.length co10 : Value).ownBlock ∧ some k_ ≠ (.slice Ao11 t452.length co11 : Value).ownBlock) (fun k_ => ((fun k_ => some k_ ≠ (.slice (some ad469) t449.length co10 : Value).ownBlock ∧ some k_ ≠ (.slice Ao11 t452.length co11 : Value).ownBlock)) k_ ∧ some k_ ≠ (u10 : Value).ownBlock) rfl rfl ?aP (fun _ hk => hk) ?aF ?aO ?aB ?aS ?aL ?_;(case aP => exact (k48_mkF _ _ (⟨(rd_T48 t449 x11_3).f0,(rd_T48 t449 x11_3).f1⟩ : S48) (Kd.V_reads' (Kd.V_mono (ok':=(fun k_ => ((fun k_ => some k_ ≠ (.slice (some ad469) t449.length co10 : Value).ownBlock ∧ some k_ ≠ (.slice Ao11 t452.length co11 : Value).ownBlock)) k_ ∧ some k_ ≠ (u10 : Value).ownBlock)) (HL478_1.out) (fun k_ hk => ⟨⟨hk.2,hk.1.1⟩,hk.1.2⟩))).2.1 (Kd.V_F (e:=58) (base:=w.heap.size) (Kd.V_mono (ok':=(fun k_ => ((fun k_ => some k_ ≠ (.slice (some ad469) t449.length co10 : Value).ownBlock ∧ some k_ ≠ (.slice Ao11 t452.length co11 : Value).ownBlock)) k_ ∧ some k_ ≠ (u10 : Value).ownBlock)) (HL478_1.out) (fun k_ hk => ⟨⟨hk.2,hk.1.1⟩,hk.1.2⟩)))));(case aB => exact (by repeat (first|(with_reducible first|exact HB.out|apply bA|apply bN|apply bD)|exact HB.out)));(case aF => exact (fun k_ hk => ⟨Kd.fresh' (Kd.N_lt (by (with_reducible repeat (first|apply Kd.N_alloc|apply Kd.N_drewN|apply Kd.N_drew));exact HO_5.out)) k_ hk,Kd.fresh' (Kd.R_lt (by (with_reducible repeat (first|apply Kd.R_alloc|apply Kd.R_drewN|apply Kd.R_drew));exact HO_6.out)) k_ hk⟩));(case aO => exact (by (with_reducible repeat (first|apply Kd.N_alloc|apply Kd.N_drewN|apply Kd.N_drew));exact HO_10.out));(case aS => exact (below_size (by repeat (first|(with_reducible first|exact HB.out|apply bA|apply bN|apply bD)|exact HB.out))));(case aL => have:=LMc41.out;omega);intro v480 w44 ho hb hg hat;rw [← Ny479.out] at ho;have n0_:=aM (Kd.N_afterv (ok:=(fun k_ => some k_ ≠ (.slice Ao11 t452.length co11 : Value).ownBlock)) (by (with_reducible repeat (first|apply Kd.N_alloc|apply Kd.N_drewN|apply Kd.N_drew));exact HO_5.out) hg hat);have n1_:=aM (Kd.R_over' (by (with_reducible repeat (first|apply Kd.R_alloc|apply Kd.R_drewN|apply Kd.R_drew));exact HO_6.out) (Kd.N_typed (by (with_reducible repeat (first|apply Kd.N_alloc|apply Kd.N_drewN|apply Kd.N_drew));exact HO_10.out)) (by decide) hg);have n2_:=aM (Kd.V_afterv (ok:=(fun k_ => some k_ ≠ (.slice (some ad469) t449.length co10 : Value).ownBlock ∧ some k_ ≠ (.slice Ao11 t452.length co11 : Value).ownBlock)) (by (with_reducible repeat (first|apply Kd.V_alloc|apply Kd.V_drewN|apply Kd.V_drew));exact Kd.V_mono HO_9.out (fun _ hk => ⟨⟨hk.1,hk.2.1⟩,hk.2.2⟩)) hg hat);have n3_:=aM (Kd.V_afterv (ok:=(fun k_ => some k_ ≠ (.slice (some ad469) t449.length co10 : Value).ownBlock ∧ some k_ ≠ (.slice Ao11 t452.length co11 : Value).ownBlock)) (by (with_reducible repeat (first|apply Kd.V_alloc|apply Kd.V_drewN|apply Kd.V_drew));exact Kd.V_mono HL469_1.out (fun _ hk => ⟨⟨hk.2,hk.1.1⟩,hk.1.2⟩)) hg hat);have n4_:=aM (Kd.V_afterv (ok:=(fun k_ => some k_ ≠ (.slice (some ad469) t449.length co10 : Value).ownBlock ∧ some k_ ≠ (.slice Ao11 t452.length co11 : Value).ownBlock)) (by (with_reducible repeat (first|apply Kd.V_alloc|apply Kd.V_drewN|apply Kd.V_drew));exact Kd.V_mono HL471_1.out (fun _ hk => ⟨⟨hk.2,hk.1.1⟩,hk.1.2⟩)) hg hat);have n5_:=aM (Kd.V_afterv (ok:=(fun k_ => some k_ ≠ (.slice (some ad469) t449.length co10 : Value).ownBlock)) (by (with_reducible repeat (first|apply Kd.V_alloc|apply Kd.V_drewN|apply Kd.V_drew));exact Kd.V_mono HO476.out (fun _ hk => ⟨hk.1.2,hk.2⟩)) hg hat);have n6_:=aM (Kd.V_afterv (ok:=(fun k_ => some k_ ≠ (.slice (some ad469) t449.length co10 : Value).ownBlock ∧ some k_ ≠ (.slice Ao11 t452.length co11 : Value).ownBlock)) (by (with_reducible repeat (first|apply Kd.V_alloc|apply Kd.V_drewN|apply Kd.V_drew));exact Kd.V_mono HL478_1.out (fun _ hk => ⟨⟨hk.2,hk.1.1⟩,hk.1.2⟩)) hg hat);have n7_:=aM (hb);have n8_:=aM (ho);clear HO_5;clear HO_6;clear HO_9;clear HL469_1;clear HL471_1;clear HO476;clear HL478_1;clear HB;clear HO_10;have HO_5:=n0_;have HO_6:=n1_;have HO_9:=n2_;have HL469_1:=n3_;have HL471_1:=n4_;have HO476:=n5_;have HL478_1:=n6_;have HB:=n7_;have HO481:=n8_;clear n0_ n1_ n2_ n3_ n4_ n5_ n6_ n7_ n8_;clear ho hb hg hat)))
             go_roundg k3
             case measure => have:=HJ2.out;have:=HJ7.out;have:=HK3.out;omega
             case rel => exact ⟨(y479),(wrap64 (x11_3 + 1)),(by first|rfl|(simp;done)|(simp [*];done)),H',⟨by have:=HJ2.out;have:=HJ7.out;have:=HK3.out;omega⟩,⟨by (with_reducible repeat (first|apply Kd.N_alloc|apply Kd.N_drewN|apply Kd.N_drew));exact HO_5.out⟩,⟨by (with_reducible repeat (first|apply Kd.R_alloc|apply Kd.R_drewN|apply Kd.R_drew));exact HO_6.out⟩,⟨by (with_reducible repeat (first|apply Kd.V_alloc|apply Kd.V_drewN|apply Kd.V_drew));exact Kd.V_mono HO_9.out (fun _ hk => ⟨hk.1.1,⟨hk.1.2,hk.2⟩⟩)⟩,⟨by (with_reducible repeat (first|apply Kd.N_alloc|apply Kd.N_drewN|apply Kd.N_drew));exact HO481.out⟩,⟨by repeat (first|(with_reducible first|exact HB.out|apply bA|apply bN|apply bD)|exact HB.out)⟩⟩
           ·rw [if_neg c34] at H
            have c34b0 : (((rd_T48 t449 x11_3).f0) == (rd t463 0)) = false:=beq_eq_false_iff_ne.mpr c34
            have c34b1 : (((rd_T48 t449 x11_3).f0) != (rd t463 0)) = true:=bne_iff_ne.mpr c34
            by_cases c45 : x10_3.length < 4398046511104
            case neg => rw [if_neg c45] at H;exact absurd H (by simp)
            rw [if_pos c45] at H
            have LMc45:=aM c45
            clear c45
            obtain ⟨y483,hy483⟩ : ∃ y_ : List (S48),y_ = (x10_3 ++ [(⟨(rd_T48 t449 x11_3).f0,(rd_T48 t449 x11_3).f1⟩ : S48)]):=⟨_,rfl⟩
            replace H : (laws_FnSureQuorum.l0 k3 t449 t452 ji23 t463 y483 (wrap64 (x11_3 + 1))) = some r:=by first|(rw [hy483];with_reducible exact H)|(have H2_:=(Option.bind_some _ _).symm.trans H;rw [hy483];with_reducible exact H2_)|(have H2_:=(Option.bind_some _ _).symm.trans H;with_reducible exact H2_)|with_reducible exact H|(rw [hy483];exact H)|exact H
            have Ny483:=aM hy483
            clear hy483
            have H':=aM H
            clear H
            have p469 : 0 ≤ (x11_3 : Int):=of_decide_eq_true (by first|(with_reducible assumption)|assumption)
            have q469 : x11_3 < (t449.length : Int):=of_decide_eq_true (by first|(with_reducible assumption)|assumption)
            obtain ⟨ad469,A469_1,c469_1,e469,hx469_0,hx469_1,hl469_1,hi469_1⟩:=at_T48 (Kd.N_reads' HO_5.out).2.2 x11_3 p469 q469
            cases e469
            obtain ⟨ce469,hce469,hMe469,hcc469⟩:=Kd.N_get HO_5.out z48 x11_3 p469 (by first|exact q469|exact of_decide_eq_true (by first|(with_reducible assumption)|assumption)|(have e_:=(Kd.N_reads' HO_5.out).1;omega))
            obtain ⟨ua469_1,uc469_1,rfl,ul469_1,ge469_1⟩:=k48_openF hMe469
            have hv469_1:=hcc469 1 _ rfl
            rw [add_field _ _ 1 (by omega)] at hv469_1
            replace hv469_1:=Option.some.inj (hv469_1.symm.trans hx469_1)
            injection hv469_1 with hva_ hvn_ hvc_
            rw [hva_] at ge469_1
            rw [hvc_] at ul469_1
            have HL469_1:=aM (show Kd.V k58 58 _ w.heap.size _ _ ((rd_T48 t449 x11_3).f1) from Kd.V_mk ul469_1 ge469_1)
            clear hva_ hvn_ hvc_ ge469_1 ul469_1
            clear hcc469 hce469
            have HR469_1:=aM hi469_1
            have HC469_1:=aM hl469_1
            clear hi469_1 hl469_1
            replace p469:=eq_true p469
            replace q469:=eq_true q469
            obtain ⟨Ao46,co46,eo46⟩:=Kd.V_slice HO_9.out
            subst eo46
            have p470 : 0 ≤ (0 : Int):=(by omega)
            have q470 : 0 < (t463.length : Int):=of_decide_eq_true (by first|(with_reducible assumption)|assumption)
            obtain ⟨ad470,e470,hx470_0⟩:=Kd.at_int (Kd.V_reads' HO_9.out).2.2 0 p470 q470
            cases e470
            have qi470 : (0 < t463.length) = True:=eq_true (by omega)
            (try rw [show ((0 : Int)).toNat = 0 from rfl] at hx470_0)
            (try rw [Addr.add_zero'] at hx470_0)
            replace p470:=eq_true p470
            replace q470:=eq_true q470
            have p482 : 0 ≤ (x11_3 : Int):=of_decide_eq_true (by first|(with_reducible assumption)|assumption)
            have q482 : x11_3 < (t449.length : Int):=of_decide_eq_true (by first|(with_reducible assumption)|assumption)
            obtain ⟨ad482,A482_1,c482_1,e482,hx482_0,hx482_1,hl482_1,hi482_1⟩:=at_T48 (Kd.N_reads' HO_5.out).2.2 x11_3 p482 q482
            obtain rfl : ad469 = ad482:=(by injection e482)
            obtain ⟨ce482,hce482,hMe482,hcc482⟩:=Kd.N_get HO_5.out z48 x11_3 p482 (by first|exact q482|exact of_decide_eq_true (by first|(with_reducible assumption)|assumption)|(have e_:=(Kd.N_reads' HO_5.out).1;omega))
            obtain ⟨ua482_1,uc482_1,rfl,ul482_1,ge482_1⟩:=k48_openF hMe482
            have hv482_1:=hcc482 1 _ rfl
            rw [add_field _ _ 1 (by omega)] at hv482_1
            replace hv482_1:=Option.some.inj (hv482_1.symm.trans hx482_1)
            injection hv482_1 with hva_ hvn_ hvc_
            rw [hva_] at ge482_1
            rw [hvc_] at ul482_1
            have HL482_1:=aM (show Kd.V k58 58 _ w.heap.size _ _ ((rd_T48 t449 x11_3).f1) from Kd.V_mk ul482_1 ge482_1)
            clear hva_ hvn_ hvc_ ge482_1 ul482_1
            clear hcc482 hce482
            have HR482_1:=aM hi482_1
            have HC482_1:=aM hl482_1
            clear hi482_1 hl482_1
            replace p482:=eq_true p482
            replace q482:=eq_true q482
            have ea_:=Option.some.inj (hx469_1.symm.trans hx482_1)
            injection ea_ with ea_ en_ ec_
            subst ea_
            subst ec_
            clear en_
            go_wp2_with (first|((with_reducible refine gate_builtin (b:=.append) (xs:=#[.tmp 86,.tmp 91]) rfl ?_);(try (refine gate_guard (by rfl) ?_;dsimp only));at_builtin;refine Kd.N_append k48 (w0:=w) w.heap.size rfl (.tmp 86) (.tmp 91) 27 48 (.agg #[(.int .i64 0),(.slice none 0 0)]) 32 rfl Try.underlying27 info48 rfl (by decide) (by omega) u10 x10_3 (⟨(rd_T48 t449 x11_3).f0,(rd_T48 t449 x11_3).f1⟩ : S48) [.int .i64 ((rd_T48 t449 x11_3).f0),.slice A469_1 ((rd_T48 t449 x11_3).f1).length c469_1] (fun k_ => some k_ ≠ (.slice (some ad469) t449.length co10 : Value).ownBlock ∧ some k_ ≠ (.slice Ao11 t452.length co11 : Value).ownBlock) (fun k_ => ((fun k_ => some k_ ≠ (.slice (some ad469) t449.length co10 : Value).ownBlock ∧ some k_ ≠ (.slice Ao11 t452.length co11 : Value).ownBlock)) k_ ∧ some k_ ≠ (u10 : Value).ownBlock) rfl rfl ?aP (fun _ hk => hk) ?aF ?aO ?aB ?aS ?aL ?_;(case aP => exact (k48_mkF _ _ (⟨(rd_T48 t449 x11_3).f0,(rd_T48 t449 x11_3).f1⟩ : S48) (Kd.V_reads' (Kd.V_mono (ok':=(fun k_ => ((fun k_ => some k_ ≠ (.slice (some ad469) t449.length co10 : Value).ownBlock ∧ some k_ ≠ (.slice Ao11 t452.length co11 : Value).ownBlock)) k_ ∧ some k_ ≠ (u10 : Value).ownBlock)) (HL482_1.out) (fun k_ hk => ⟨⟨hk.2,hk.1.1⟩,hk.1.2⟩))).2.1 (Kd.V_F (e:=58) (base:=w.heap.size) (Kd.V_mono (ok':=(fun k_ => ((fun k_ => some k_ ≠ (.slice (some ad469) t449.length co10 : Value).ownBlock ∧ some k_ ≠ (.slice Ao11 t452.length co11 : Value).ownBlock)) k_ ∧ some k_ ≠ (u10 : Value).ownBlock)) (HL482_1.out) (fun k_ hk => ⟨⟨hk.2,hk.1.1⟩,hk.1.2⟩)))));(case aB => exact (by repeat (first|(with_reducible first|exact HB.out|apply bA|apply bN|apply bD)|exact HB.out)));(case aF => exact (fun k_ hk => ⟨Kd.fresh' (Kd.N_lt (by (with_reducible repeat (first|apply Kd.N_alloc|apply Kd.N_drewN|apply Kd.N_drew));exact HO_5.out)) k_ hk,Kd.fresh' (Kd.R_lt (by (with_reducible repeat (first|apply Kd.R_alloc|apply Kd.R_drewN|apply Kd.R_drew));exact HO_6.out)) k_ hk⟩));(case aO => exact (by (with_reducible repeat (first|apply Kd.N_alloc|apply Kd.N_drewN|apply Kd.N_drew));exact HO_10.out));(case aS => exact (below_size (by repeat (first|(with_reducible first|exact HB.out|apply bA|apply bN|apply bD)|exact HB.out))));(case aL => have:=LMc45.out;omega);intro v484 w47 ho hb hg hat;rw [← Ny483.out] at ho;have n0_:=aM (Kd.N_afterv (ok:=(fun k_ => some k_ ≠ (.slice Ao11 t452.length co11 : Value).ownBlock)) (by (with_reducible repeat (first|apply Kd.N_alloc|apply Kd.N_drewN|apply Kd.N_drew));exact HO_5.out) hg hat);have n1_:=aM (Kd.R_over' (by (with_reducible repeat (first|apply Kd.R_alloc|apply Kd.R_drewN|apply Kd.R_drew));exact HO_6.out) (Kd.N_typed (by (with_reducible repeat (first|apply Kd.N_alloc|apply Kd.N_drewN|apply Kd.N_drew));exact HO_10.out)) (by decide) hg);have n2_:=aM (Kd.V_afterv (ok:=(fun k_ => some k_ ≠ (.slice (some ad469) t449.length co10 : Value).ownBlock ∧ some k_ ≠ (.slice Ao11 t452.length co11 : Value).ownBlock)) (by (with_reducible repeat (first|apply Kd.V_alloc|apply Kd.V_drewN|apply Kd.V_drew));exact Kd.V_mono HO_9.out (fun _ hk => ⟨⟨hk.1,hk.2.1⟩,hk.2.2⟩)) hg hat);have n3_:=aM (Kd.V_afterv (ok:=(fun k_ => some k_ ≠ (.slice (some ad469) t449.length co10 : Value).ownBlock ∧ some k_ ≠ (.slice Ao11 t452.length co11 : Value).ownBlock)) (by (with_reducible repeat (first|apply Kd.V_alloc|apply Kd.V_drewN|apply Kd.V_drew));exact Kd.V_mono HL469_1.out (fun _ hk => ⟨⟨hk.2,hk.1.1⟩,hk.1.2⟩)) hg hat);have n4_:=aM (Kd.V_afterv (ok:=(fun k_ => some k_ ≠ (.slice (some ad469) t449.length co10 : Value).ownBlock ∧ some k_ ≠ (.slice Ao11 t452.length co11 : Value).ownBlock)) (by (with_reducible repeat (first|apply Kd.V_alloc|apply Kd.V_drewN|apply Kd.V_drew));exact Kd.V_mono HL482_1.out (fun _ hk => ⟨⟨hk.2,hk.1.1⟩,hk.1.2⟩)) hg hat);have n5_:=aM (hb);have n6_:=aM (ho);clear HO_5;clear HO_6;clear HO_9;clear HL469_1;clear HL482_1;clear HB;clear HO_10;have HO_5:=n0_;have HO_6:=n1_;have HO_9:=n2_;have HL469_1:=n3_;have HL482_1:=n4_;have HB:=n5_;have HO485:=n6_;clear n0_ n1_ n2_ n3_ n4_ n5_ n6_;clear ho hb hg hat))
            repeat (go_quiet (first|((with_reducible refine gate_builtin (b:=.append) (xs:=#[.tmp 86,.tmp 91]) rfl ?_);(try (refine gate_guard (by rfl) ?_;dsimp only));at_builtin;refine Kd.N_append k48 (w0:=w) w.heap.size rfl (.tmp 86) (.tmp 91) 27 48 (.agg #[(.int .i64 0),(.slice none 0 0)]) 32 rfl Try.underlying27 info48 rfl (by decide) (by omega) u10 x10_3 (⟨(rd_T48 t449 x11_3).f0,(rd_T48 t449 x11_3).f1⟩ : S48) [.int .i64 ((rd_T48 t449 x11_3).f0),.slice A469_1 ((rd_T48 t449 x11_3).f1).length c469_1] (fun k_ => some k_ ≠ (.slice (some ad469) t449.length co10 : Value).ownBlock ∧ some k_ ≠ (.slice Ao11 t452.length co11 : Value).ownBlock) (fun k_ => ((fun k_ => some k_ ≠ (.slice (some ad469) t449.length co10 : Value).ownBlock ∧ some k_ ≠ (.slice Ao11 t452.length co11 : Value).ownBlock)) k_ ∧ some k_ ≠ (u10 : Value).ownBlock) rfl rfl ?aP (fun _ hk => hk) ?aF ?aO ?aB ?aS ?aL ?_;(case aP => exact (k48_mkF _ _ (⟨(rd_T48 t449 x11_3).f0,(rd_T48 t449 x11_3).f1⟩ : S48) (Kd.V_reads' (Kd.V_mono (ok':=(fun k_ => ((fun k_ => some k_ ≠ (.slice (some ad469) t449.length co10 : Value).ownBlock ∧ some k_ ≠ (.slice Ao11 t452.length co11 : Value).ownBlock)) k_ ∧ some k_ ≠ (u10 : Value).ownBlock)) (HL482_1.out) (fun k_ hk => ⟨⟨hk.2,hk.1.1⟩,hk.1.2⟩))).2.1 (Kd.V_F (e:=58) (base:=w.heap.size) (Kd.V_mono (ok':=(fun k_ => ((fun k_ => some k_ ≠ (.slice (some ad469) t449.length co10 : Value).ownBlock ∧ some k_ ≠ (.slice Ao11 t452.length co11 : Value).ownBlock)) k_ ∧ some k_ ≠ (u10 : Value).ownBlock)) (HL482_1.out) (fun k_ hk => ⟨⟨hk.2,hk.1.1⟩,hk.1.2⟩)))));(case aB => exact (by repeat (first|(with_reducible first|exact HB.out|apply bA|apply bN|apply bD)|exact HB.out)));(case aF => exact (fun k_ hk => ⟨Kd.fresh' (Kd.N_lt (by (with_reducible repeat (first|apply Kd.N_alloc|apply Kd.N_drewN|apply Kd.N_drew));exact HO_5.out)) k_ hk,Kd.fresh' (Kd.R_lt (by (with_reducible repeat (first|apply Kd.R_alloc|apply Kd.R_drewN|apply Kd.R_drew));exact HO_6.out)) k_ hk⟩));(case aO => exact (by (with_reducible repeat (first|apply Kd.N_alloc|apply Kd.N_drewN|apply Kd.N_drew));exact HO_10.out));(case aS => exact (below_size (by repeat (first|(with_reducible first|exact HB.out|apply bA|apply bN|apply bD)|exact HB.out))));(case aL => have:=LMc45.out;omega);intro v484 w47 ho hb hg hat;rw [← Ny483.out] at ho;have n0_:=aM (Kd.N_afterv (ok:=(fun k_ => some k_ ≠ (.slice Ao11 t452.length co11 : Value).ownBlock)) (by (with_reducible repeat (first|apply Kd.N_alloc|apply Kd.N_drewN|apply Kd.N_drew));exact HO_5.out) hg hat);have n1_:=aM (Kd.R_over' (by (with_reducible repeat (first|apply Kd.R_alloc|apply Kd.R_drewN|apply Kd.R_drew));exact HO_6.out) (Kd.N_typed (by (with_reducible repeat (first|apply Kd.N_alloc|apply Kd.N_drewN|apply Kd.N_drew));exact HO_10.out)) (by decide) hg);have n2_:=aM (Kd.V_afterv (ok:=(fun k_ => some k_ ≠ (.slice (some ad469) t449.length co10 : Value).ownBlock ∧ some k_ ≠ (.slice Ao11 t452.length co11 : Value).ownBlock)) (by (with_reducible repeat (first|apply Kd.V_alloc|apply Kd.V_drewN|apply Kd.V_drew));exact Kd.V_mono HO_9.out (fun _ hk => ⟨⟨hk.1,hk.2.1⟩,hk.2.2⟩)) hg hat);have n3_:=aM (Kd.V_afterv (ok:=(fun k_ => some k_ ≠ (.slice (some ad469) t449.length co10 : Value).ownBlock ∧ some k_ ≠ (.slice Ao11 t452.length co11 : Value).ownBlock)) (by (with_reducible repeat (first|apply Kd.V_alloc|apply Kd.V_drewN|apply Kd.V_drew));exact Kd.V_mono HL469_1.out (fun _ hk => ⟨⟨hk.2,hk.1.1⟩,hk.1.2⟩)) hg hat);have n4_:=aM (Kd.V_afterv (ok:=(fun k_ => some k_ ≠ (.slice (some ad469) t449.length co10 : Value).ownBlock ∧ some k_ ≠ (.slice Ao11 t452.length co11 : Value).ownBlock)) (by (with_reducible repeat (first|apply Kd.V_alloc|apply Kd.V_drewN|apply Kd.V_drew));exact Kd.V_mono HL482_1.out (fun _ hk => ⟨⟨hk.2,hk.1.1⟩,hk.1.2⟩)) hg hat);have n5_:=aM (hb);have n6_:=aM (ho);clear HO_5;clear HO_6;clear HO_9;clear HL469_1;clear HL482_1;clear HB;clear HO_10;have HO_5:=n0_;have HO_6:=n1_;have HO_9:=n2_;have HL469_1:=n3_;have HL482_1:=n4_;have HB:=n5_;have HO485:=n6_;clear n0_ n1_ n2_ n3_ n4_ n5_ n6_;clear ho hb hg hat));try go_wp2_with (first|((with_reducible refine gate_builtin (b:=.append) (xs:=#[.tmp 86,.tmp 91]) rfl ?_);(try (refine gate_guard (by rfl) ?_;dsimp only));at_builtin;refine Kd.N_append k48 (w0:=w) w.heap.size rfl (.tmp 86) (.tmp 91) 27 48 (.agg #[(.int .i64 0),(.slice none 0 0)]) 32 rfl Try.underlying27 info48 rfl (by decide) (by omega) u10 x10_3 (⟨(rd_T48 t449 x11_3).f0,(rd_T48 t449 x11_3).f1⟩ : S48) [.int .i64 ((rd_T48 t449 x11_3).f0),.slice A469_1 ((rd_T48 t449 x11_3).f1).length c469_1] (fun k_ => some k_ ≠ (.slice (some ad469) t449.length co10 : Value).ownBlock ∧ some k_ ≠ (.slice Ao11 t452.length co11 : Value).ownBlock) (fun k_ => ((fun k_ => some k_ ≠ (.slice (some ad469) t449.length co10 : Value).ownBlock ∧ some k_ ≠ (.slice Ao11 t452.length co11 : Value).ownBlock)) k_ ∧ some k_ ≠ (u10 : Value).ownBlock) rfl rfl ?aP (fun _ hk => hk) ?aF ?aO ?aB ?aS ?aL ?_;(case aP => exact (k48_mkF _ _ (⟨(rd_T48 t449 x11_3).f0,(rd_T48 t449 x11_3).f1⟩ : S48) (Kd.V_reads' (Kd.V_mono (ok':=(fun k_ => ((fun k_ => some k_ ≠ (.slice (some ad469) t449.length co10 : Value).ownBlock ∧ some k_ ≠ (.slice Ao11 t452.length co11 : Value).ownBlock)) k_ ∧ some k_ ≠ (u10 : Value).ownBlock)) (HL482_1.out) (fun k_ hk => ⟨⟨hk.2,hk.1.1⟩,hk.1.2⟩))).2.1 (Kd.V_F (e:=58) (base:=w.heap.size) (Kd.V_mono (ok':=(fun k_ => ((fun k_ => some k_ ≠ (.slice (some ad469) t449.length co10 : Value).ownBlock ∧ some k_ ≠ (.slice Ao11 t452.length co11 : Value).ownBlock)) k_ ∧ some k_ ≠ (u10 : Value).ownBlock)) (HL482_1.out) (fun k_ hk => ⟨⟨hk.2,hk.1.1⟩,hk.1.2⟩)))));(case aB => exact (by repeat (first|(with_reducible first|exact HB.out|apply bA|apply bN|apply bD)|exact HB.out)));(case aF => exact (fun k_ hk => ⟨Kd.fresh' (Kd.N_lt (by (with_reducible repeat (first|apply Kd.N_alloc|apply Kd.N_drewN|apply Kd.N_drew));exact HO_5.out)) k_ hk,Kd.fresh' (Kd.R_lt (by (with_reducible repeat (first|apply Kd.R_alloc|apply Kd.R_drewN|apply Kd.R_drew));exact HO_6.out)) k_ hk⟩));(case aO => exact (by (with_reducible repeat (first|apply Kd.N_alloc|apply Kd.N_drewN|apply Kd.N_drew));exact HO_10.out));(case aS => exact (below_size (by repeat (first|(with_reducible first|exact HB.out|apply bA|apply bN|apply bD)|exact HB.out))));(case aL => have:=LMc45.out;omega);intro v484 w47 ho hb hg hat;rw [← Ny483.out] at ho;have n0_:=aM (Kd.N_afterv (ok:=(fun k_ => some k_ ≠ (.slice Ao11 t452.length co11 : Value).ownBlock)) (by (with_reducible repeat (first|apply Kd.N_alloc|apply Kd.N_drewN|apply Kd.N_drew));exact HO_5.out) hg hat);have n1_:=aM (Kd.R_over' (by (with_reducible repeat (first|apply Kd.R_alloc|apply Kd.R_drewN|apply Kd.R_drew));exact HO_6.out) (Kd.N_typed (by (with_reducible repeat (first|apply Kd.N_alloc|apply Kd.N_drewN|apply Kd.N_drew));exact HO_10.out)) (by decide) hg);have n2_:=aM (Kd.V_afterv (ok:=(fun k_ => some k_ ≠ (.slice (some ad469) t449.length co10 : Value).ownBlock ∧ some k_ ≠ (.slice Ao11 t452.length co11 : Value).ownBlock)) (by (with_reducible repeat (first|apply Kd.V_alloc|apply Kd.V_drewN|apply Kd.V_drew));exact Kd.V_mono HO_9.out (fun _ hk => ⟨⟨hk.1,hk.2.1⟩,hk.2.2⟩)) hg hat);have n3_:=aM (Kd.V_afterv (ok:=(fun k_ => some k_ ≠ (.slice (some ad469) t449.length co10 : Value).ownBlock ∧ some k_ ≠ (.slice Ao11 t452.length co11 : Value).ownBlock)) (by (with_reducible repeat (first|apply Kd.V_alloc|apply Kd.V_drewN|apply Kd.V_drew));exact Kd.V_mono HL469_1.out (fun _ hk => ⟨⟨hk.2,hk.1.1⟩,hk.1.2⟩)) hg hat);have n4_:=aM (Kd.V_afterv (ok:=(fun k_ => some k_ ≠ (.slice (some ad469) t449.length co10 : Value).ownBlock ∧ some k_ ≠ (.slice Ao11 t452.length co11 : Value).ownBlock)) (by (with_reducible repeat (first|apply Kd.V_alloc|apply Kd.V_drewN|apply Kd.V_drew));exact Kd.V_mono HL482_1.out (fun _ hk => ⟨⟨hk.2,hk.1.1⟩,hk.1.2⟩)) hg hat);have n5_:=aM (hb);have n6_:=aM (ho);clear HO_5;clear HO_6;clear HO_9;clear HL469_1;clear HL482_1;clear HB;clear HO_10;have HO_5:=n0_;have HO_6:=n1_;have HO_9:=n2_;have HL469_1:=n3_;have HL482_1:=n4_;have HB:=n5_;have HO485:=n6_;clear n0_ n1_ n2_ n3_ n4_ n5_ n6_;clear ho hb hg hat)))
            go_roundg k3
            case measure => have:=HJ2.out;have:=HJ7.out;have:=HK3.out;omega
            case rel => exact ⟨(y483),(wrap64 (x11_3 + 1)),(by first|rfl|(simp;done)|(simp [*];done)),H',⟨by have:=HJ2.out;have:=HJ7.out;have:=HK3.out;omega⟩,⟨by (with_reducible repeat (first|apply Kd.N_alloc|apply Kd.N_drewN|apply Kd.N_drew));exact HO_5.out⟩,⟨by (with_reducible repeat (first|apply Kd.R_alloc|apply Kd.R_drewN|apply Kd.R_drew));exact HO_6.out⟩,⟨by (with_reducible repeat (first|apply Kd.V_alloc|apply Kd.V_drewN|apply Kd.V_drew));exact Kd.V_mono HO_9.out (fun _ hk => ⟨hk.1.1,⟨hk.1.2,hk.2⟩⟩)⟩,⟨by (with_reducible repeat (first|apply Kd.N_alloc|apply Kd.N_drewN|apply Kd.N_drew));exact HO485.out⟩,⟨by repeat (first|(with_reducible first|exact HB.out|apply bA|apply bN|apply bD)|exact HB.out)⟩⟩
          ·rw [if_neg c31] at H
           have c31b0 : decide (x11_3 < (t449.length : Int)) = false:=decide_eq_false c31
           clear c31
           by_cases c48 : (x10_3.length : Int) = (wrap64 ((t449.length : Int) - 1))
           ·rw [if_pos c48] at H
            have c48b0 : ((x10_3.length : Int) == (wrap64 ((t449.length : Int) - 1))) = true:=beq_iff_eq.mpr c48
            have c48b1 : ((x10_3.length : Int) != (wrap64 ((t449.length : Int) - 1))) = false:=bne_eq_false_iff_eq.mpr c48
            clear c48
            replace H:=Option.bind_eq_some_iff.mp H
            obtain ⟨t486,A490,H⟩:=H
            replace H : (some (t486 == (decide ((t463.length : Int) > 3)))) = some r:=H
            have A49:=aM A490
            clear A490
            obtain rfl:=Option.some.inj H
            obtain ⟨Ao50,co50,eo50⟩:=Kd.N_slice HO_10.out
            subst eo50
            go_wp2_with (first|(go_at_call 15;(with_reducible refine (impl_TreeSure.calls k3 _ _ x10_3 _ _ t452 t486 _ ?side1 ?side2 ?side3 ?side4 A49.out).mono ?_);(case side1 => repeat (first|exact (Kd.N_reads' HO_10.out).2.2|(with_reducible refine Kd.C_alloc ?_ _)|(with_reducible refine Kd.C_drewN ?_ _)|(with_reducible refine Kd.C_drew ?_)));(case side2 => exact (Kd.N_reads' HO_10.out).2.1);(case side3 => repeat (first|exact (Kd.R_reads' HO_6.out).2.2|(with_reducible refine Kd.C_alloc ?_ _)|(with_reducible refine Kd.C_drewN ?_ _)|(with_reducible refine Kd.C_drew ?_)));(case side4 => exact (Kd.R_reads' HO_6.out).2.1);rintro e w51 ⟨rfl,hb⟩;have n0_:=aM (Kd.N_below (by (with_reducible repeat (first|apply Kd.N_alloc|apply Kd.N_drewN|apply Kd.N_drew));exact HO_5.out) hb);have n1_:=aM (Kd.R_below (by (with_reducible repeat (first|apply Kd.R_alloc|apply Kd.R_drewN|apply Kd.R_drew));exact HO_6.out) hb);have n2_:=aM (Kd.V_below (by (with_reducible repeat (first|apply Kd.V_alloc|apply Kd.V_drewN|apply Kd.V_drew));exact HO_9.out) hb);have n3_:=aM (Kd.N_below (by (with_reducible repeat (first|apply Kd.N_alloc|apply Kd.N_drewN|apply Kd.N_drew));exact HO_10.out) hb);have n4_:=aM (below_step (by repeat (first|(with_reducible first|exact HB.out|apply bA|apply bN|apply bD)|exact HB.out)) hb);clear HO_5;clear HO_6;clear HO_9;clear HO_10;clear HB;have HO_5:=n0_;have HO_6:=n1_;have HO_9:=n2_;have HO_10:=n3_;have HB:=n4_;clear n0_ n1_ n2_ n3_ n4_;(try clear hb);(try clear hb2);(try clear hk);(try clear hi);obtain ⟨Ao52,co52,eo52⟩:=Kd.V_slice HO_9.out;subst eo52))
            repeat (go_quiet (first|(go_at_call 15;(with_reducible refine (impl_TreeSure.calls k3 _ _ x10_3 _ _ t452 t486 _ ?side1 ?side2 ?side3 ?side4 A49.out).mono ?_);(case side1 => repeat (first|exact (Kd.N_reads' HO_10.out).2.2|(with_reducible refine Kd.C_alloc ?_ _)|(with_reducible refine Kd.C_drewN ?_ _)|(with_reducible refine Kd.C_drew ?_)));(case side2 => exact (Kd.N_reads' HO_10.out).2.1);(case side3 => repeat (first|exact (Kd.R_reads' HO_6.out).2.2|(with_reducible refine Kd.C_alloc ?_ _)|(with_reducible refine Kd.C_drewN ?_ _)|(with_reducible refine Kd.C_drew ?_)));(case side4 => exact (Kd.R_reads' HO_6.out).2.1);rintro e w51 ⟨rfl,hb⟩;have n0_:=aM (Kd.N_below (by (with_reducible repeat (first|apply Kd.N_alloc|apply Kd.N_drewN|apply Kd.N_drew));exact HO_5.out) hb);have n1_:=aM (Kd.R_below (by (with_reducible repeat (first|apply Kd.R_alloc|apply Kd.R_drewN|apply Kd.R_drew));exact HO_6.out) hb);have n2_:=aM (Kd.V_below (by (with_reducible repeat (first|apply Kd.V_alloc|apply Kd.V_drewN|apply Kd.V_drew));exact HO_9.out) hb);have n3_:=aM (Kd.N_below (by (with_reducible repeat (first|apply Kd.N_alloc|apply Kd.N_drewN|apply Kd.N_drew));exact HO_10.out) hb);have n4_:=aM (below_step (by repeat (first|(with_reducible first|exact HB.out|apply bA|apply bN|apply bD)|exact HB.out)) hb);clear HO_5;clear HO_6;clear HO_9;clear HO_10;clear HB;have HO_5:=n0_;have HO_6:=n1_;have HO_9:=n2_;have HO_10:=n3_;have HB:=n4_;clear n0_ n1_ n2_ n3_ n4_;(try clear hb);(try clear hb2);(try clear hk);(try clear hi);obtain ⟨Ao52,co52,eo52⟩:=Kd.V_slice HO_9.out;subst eo52));try go_wp2_with (first|(go_at_call 15;(with_reducible refine (impl_TreeSure.calls k3 _ _ x10_3 _ _ t452 t486 _ ?side1 ?side2 ?side3 ?side4 A49.out).mono ?_);(case side1 => repeat (first|exact (Kd.N_reads' HO_10.out).2.2|(with_reducible refine Kd.C_alloc ?_ _)|(with_reducible refine Kd.C_drewN ?_ _)|(with_reducible refine Kd.C_drew ?_)));(case side2 => exact (Kd.N_reads' HO_10.out).2.1);(case side3 => repeat (first|exact (Kd.R_reads' HO_6.out).2.2|(with_reducible refine Kd.C_alloc ?_ _)|(with_reducible refine Kd.C_drewN ?_ _)|(with_reducible refine Kd.C_drew ?_)));(case side4 => exact (Kd.R_reads' HO_6.out).2.1);rintro e w51 ⟨rfl,hb⟩;have n0_:=aM (Kd.N_below (by (with_reducible repeat (first|apply Kd.N_alloc|apply Kd.N_drewN|apply Kd.N_drew));exact HO_5.out) hb);have n1_:=aM (Kd.R_below (by (with_reducible repeat (first|apply Kd.R_alloc|apply Kd.R_drewN|apply Kd.R_drew));exact HO_6.out) hb);have n2_:=aM (Kd.V_below (by (with_reducible repeat (first|apply Kd.V_alloc|apply Kd.V_drewN|apply Kd.V_drew));exact HO_9.out) hb);have n3_:=aM (Kd.N_below (by (with_reducible repeat (first|apply Kd.N_alloc|apply Kd.N_drewN|apply Kd.N_drew));exact HO_10.out) hb);have n4_:=aM (below_step (by repeat (first|(with_reducible first|exact HB.out|apply bA|apply bN|apply bD)|exact HB.out)) hb);clear HO_5;clear HO_6;clear HO_9;clear HO_10;clear HB;have HO_5:=n0_;have HO_6:=n1_;have HO_9:=n2_;have HO_10:=n3_;have HB:=n4_;clear n0_ n1_ n2_ n3_ n4_;(try clear hb);(try clear hb2);(try clear hk);(try clear hi);obtain ⟨Ao52,co52,eo52⟩:=Kd.V_slice HO_9.out;subst eo52)))
            go_ret
            exact ⟨by first|rfl|(simp only [i64_w,i32_w];done)|(simp only [i64_w,i32_w];rfl)|(simp [errW_none,errW_some] <;> rfl)|(simp only [← hji23];first|rfl|(simp [errW_none,errW_some] <;> rfl))|(simp [*,errW_none,errW_some] <;> rfl),by repeat (first|(with_reducible first|exact HB.out|apply bA|apply bN|apply bD)|exact HB.out)⟩
           ·rw [if_neg c48] at H
            have c48b0 : ((x10_3.length : Int) == (wrap64 ((t449.length : Int) - 1))) = false:=beq_eq_false_iff_ne.mpr c48
            have c48b1 : ((x10_3.length : Int) != (wrap64 ((t449.length : Int) - 1))) = true:=bne_iff_ne.mpr c48
            obtain rfl:=Option.some.inj H
            obtain ⟨Ao53,co53,eo53⟩:=Kd.N_slice HO_10.out
            subst eo53
            go_wp2
            repeat (go_quiet (fail);try go_wp2)
            go_ret
            exact ⟨by first|rfl|(simp only [i64_w,i32_w];done)|(simp only [i64_w,i32_w];rfl)|(simp [errW_none,errW_some] <;> rfl)|(simp only [← hji23];first|rfl|(simp [errW_none,errW_some] <;> rfl))|(simp [*,errW_none,errW_some] <;> rfl),by repeat (first|(with_reducible first|exact HB.out|apply bA|apply bN|apply bD)|exact HB.out)⟩

/-- What is left to prove of laws_FnSureQuorum. -/
def laws_FnSureQuorum.Pure : Prop:=∀ (l0 : List Int) (l1 : List Int),l0.length ≤ 9223372036854775807 → (∀ x,x ∈ l0 → (Lit.int .u8 x).wf = true) → l1.length ≤ 9223372036854775807 → (∀ x,x ∈ l1 → (Lit.int .u8 x).wf = true) → ∃ k,laws_FnSureQuorum.f k l0 l1 = some true

end Go.Proofs.Ytknmmkgaijndfaa.P
