/- The printed functions: what each Go function computes, as a Lean function, and that the Go code comes to just that. Conditions: none beyond each contract's own. -/
import Derived.Test.YtknmmkgaijndfaaPx0
import Derived.Test.YtknmmkgaijndfaaPx5
import Derived.Test.YtknmmkgaijndfaaPx8
import Derived.Test.YtknmmkgaijndfaaPx11
namespace Go.Proofs.Ytknmmkgaijndfaa.P
open Go.RowKit Go.Proofs.YtknmmkgaijndfaaW.PrintWords Go.Proofs.YtknmmkgaijndfaaW.PrintLast Go.Proofs.YtknmmkgaijndfaaW.PrintMore
attribute [local go_sem] max2_int min2_int max_two min_two max_three min_three max_four min_four   -- for this text's walks alone
set_option linter.unusedVariables false
set_option linter.unusedSimpArgs false

/-! ### laws_FnSureLess: function 6 -/
mutual
def laws_FnSureLess.j0 : Nat → List Int → List Int → Bool → Option (Bool)
 | 0,_,_,_ => none
 | k + 1,x0,x1,x16 => if x16 = true then (some true) else ((spec_DrawTreeSure.f k x0).bind fun bt447 => ((impl_TreeSure.f k bt447.1 bt447.2).bind fun t453 => ((spec_TreeSure.f k bt447.1 bt447.2).bind fun t454 => (if (t453 != t454) = true then (laws_FnSureLess.j1 k x1 bt447.1 bt447.2 t453 true) else (laws_FnSureLess.j1 k x1 bt447.1 bt447.2 t453 (!t453))))))
def laws_FnSureLess.j1 : Nat → List Int → List (S48) → List (S58) → Bool → Bool → Option (Bool)
 | 0,_,_,_,_,_ => none
 | k + 1,x1,x5,x6,x7,x33 => if x33 = true then ((spec_TreeSure.f k x5 x6).bind fun t455 => (some (x7 == t455))) else (if (wrap64 ((x6.length : Int) + 1)) = 0 then (none) else (if ((x1.length : Int) % (wrap64 ((x6.length : Int) + 1))) > 0 then (if 0 ≤ ((x1.length : Int) % (wrap64 ((x6.length : Int) + 1))) then (if ((x1.length : Int) % (wrap64 ((x6.length : Int) + 1))) ≤ (x6.length : Int) then ((impl_VotesFor.f k x5 (x6.take (((x1.length : Int) % (wrap64 ((x6.length : Int) + 1))) : Int).toNat)).bind fun t461 => (laws_FnSureLess.j2 k x5 x6 ((x1.length : Int) % (wrap64 ((x6.length : Int) + 1))) (decide ((t461.length : Int) < 3)))) else (none)) else (none)) else (laws_FnSureLess.j2 k x5 x6 ((x1.length : Int) % (wrap64 ((x6.length : Int) + 1))) false)))
def laws_FnSureLess.j2 : Nat → List (S48) → List (S58) → Int → Bool → Option (Bool)
 | 0,_,_,_,_ => none
 | k + 1,x5,x6,x8,x55 => if x55 = true then (some false) else (if 0 ≤ x8 then (if x8 ≤ (x6.length : Int) then ((impl_TreeSure.f k x5 (x6.take (x8 : Int).toNat)).bind fun t469 => (if t469 = true then ((impl_TreeSure.f k x5 ([] : List (S58))).bind fun t470 => (some t470)) else (some false))) else (none)) else (none))
end
def laws_FnSureLess.f (k : Nat) (l0 : List Int) (l1 : List Int) : Option (Bool):=if (l0.length : Int) > 1048576 then (laws_FnSureLess.j0 k l0 l1 true) else (laws_FnSureLess.j0 k l0 l1 (decide ((l1.length : Int) > 1048576)))
theorem laws_FnSureLess.mono_l : ∀ k,(∀ y0 y1 y2,LeO (laws_FnSureLess.j0 k y0 y1 y2) (laws_FnSureLess.j0 (k + 1) y0 y1 y2)) ∧ (∀ y0 y1 y2 y3 y4,LeO (laws_FnSureLess.j1 k y0 y1 y2 y3 y4) (laws_FnSureLess.j1 (k + 1) y0 y1 y2 y3 y4)) ∧ (∀ y0 y1 y2 y3,LeO (laws_FnSureLess.j2 k y0 y1 y2 y3) (laws_FnSureLess.j2 (k + 1) y0 y1 y2 y3))
 | 0 => ⟨fun _ _ _ r h => by simp [laws_FnSureLess.j0] at h,fun _ _ _ _ _ r h => by simp [laws_FnSureLess.j1] at h,fun _ _ _ _ r h => by simp [laws_FnSureLess.j2] at h⟩
 | k + 1 => by
  obtain ⟨ih0,ih1,ih2⟩:=laws_FnSureLess.mono_l k
  refine ⟨?_,?_,?_⟩
  ·intro y0 y1 y2
   unfold laws_FnSureLess.j0
   repeat' first
   | (with_reducible exact ih0 _ _ _)
   | (with_reducible exact ih1 _ _ _ _ _)
   | (with_reducible exact ih2 _ _ _ _)
   | (with_reducible exact impl_TreeSure.mono _ _ _)
   | (with_reducible exact impl_VotesFor.mono _ _ _)
   | (with_reducible exact spec_DrawTreeSure.mono _ _)
   | (with_reducible exact spec_TreeSure.mono _ _ _)
   | (with_reducible exact LeO.refl _)
   | (with_reducible exact LeO.none _)
   | (with_reducible refine LeO.ite ?_ ?_)
   | (with_reducible refine LeO.bind ?_ (fun _ => ?_))
   | exact ih0 _ _ _
   | exact ih1 _ _ _ _ _
   | exact ih2 _ _ _ _
   | exact impl_TreeSure.mono _ _ _
   | exact impl_VotesFor.mono _ _ _
   | exact spec_DrawTreeSure.mono _ _
   | exact spec_TreeSure.mono _ _ _
   | exact LeO.none _
   | refine LeO.ite ?_ ?_
   | refine LeO.bind ?_ (fun _ => ?_)
  ·intro y0 y1 y2 y3 y4
   unfold laws_FnSureLess.j1
   repeat' first
   | (with_reducible exact ih0 _ _ _)
   | (with_reducible exact ih1 _ _ _ _ _)
   | (with_reducible exact ih2 _ _ _ _)
   | (with_reducible exact impl_TreeSure.mono _ _ _)
   | (with_reducible exact impl_VotesFor.mono _ _ _)
   | (with_reducible exact spec_DrawTreeSure.mono _ _)
   | (with_reducible exact spec_TreeSure.mono _ _ _)
   | (with_reducible exact LeO.refl _)
   | (with_reducible exact LeO.none _)
   | (with_reducible refine LeO.ite ?_ ?_)
   | (with_reducible refine LeO.bind ?_ (fun _ => ?_))
   | exact ih0 _ _ _
   | exact ih1 _ _ _ _ _
   | exact ih2 _ _ _ _
   | exact impl_TreeSure.mono _ _ _
   | exact impl_VotesFor.mono _ _ _
   | exact spec_DrawTreeSure.mono _ _
   | exact spec_TreeSure.mono _ _ _
   | exact LeO.none _
   | refine LeO.ite ?_ ?_
   | refine LeO.bind ?_ (fun _ => ?_)
  ·intro y0 y1 y2 y3
   unfold laws_FnSureLess.j2
   repeat' first
   | (with_reducible exact ih0 _ _ _)
   | (with_reducible exact ih1 _ _ _ _ _)
   | (with_reducible exact ih2 _ _ _ _)
   | (with_reducible exact impl_TreeSure.mono _ _ _)
   | (with_reducible exact impl_VotesFor.mono _ _ _)
   | (with_reducible exact spec_DrawTreeSure.mono _ _)
   | (with_reducible exact spec_TreeSure.mono _ _ _)
   | (with_reducible exact LeO.refl _)
   | (with_reducible exact LeO.none _)
   | (with_reducible refine LeO.ite ?_ ?_)
   | (with_reducible refine LeO.bind ?_ (fun _ => ?_))
   | exact ih0 _ _ _
   | exact ih1 _ _ _ _ _
   | exact ih2 _ _ _ _
   | exact impl_TreeSure.mono _ _ _
   | exact impl_VotesFor.mono _ _ _
   | exact spec_DrawTreeSure.mono _ _
   | exact spec_TreeSure.mono _ _ _
   | exact LeO.none _
   | refine LeO.ite ?_ ?_
   | refine LeO.bind ?_ (fun _ => ?_)
theorem laws_FnSureLess.mono : ∀ a0 a1 k,LeO (laws_FnSureLess.f k a0 a1) (laws_FnSureLess.f (k + 1) a0 a1):=by
 intro a0 a1 k
 obtain ⟨ih0,ih1,ih2⟩:=laws_FnSureLess.mono_l k
 unfold laws_FnSureLess.f
 repeat' first
   | (with_reducible exact ih0 _ _ _)
   | (with_reducible exact ih1 _ _ _ _ _)
   | (with_reducible exact ih2 _ _ _ _)
   | (with_reducible exact impl_TreeSure.mono _ _ _)
   | (with_reducible exact impl_VotesFor.mono _ _ _)
   | (with_reducible exact spec_DrawTreeSure.mono _ _)
   | (with_reducible exact spec_TreeSure.mono _ _ _)
   | (with_reducible exact LeO.refl _)
   | (with_reducible exact LeO.none _)
   | (with_reducible refine LeO.ite ?_ ?_)
   | (with_reducible refine LeO.bind ?_ (fun _ => ?_))
   | exact ih0 _ _ _
   | exact ih1 _ _ _ _ _
   | exact ih2 _ _ _ _
   | exact impl_TreeSure.mono _ _ _
   | exact impl_VotesFor.mono _ _ _
   | exact spec_DrawTreeSure.mono _ _
   | exact spec_TreeSure.mono _ _ _
   | exact LeO.none _
   | refine LeO.ite ?_ ?_
   | refine LeO.bind ?_ (fun _ => ?_)
set_option maxHeartbeats 8000000 in
set_option maxRecDepth 100000 in
theorem laws_FnSureLess.calls (k : Nat) (A0 : Option Addr) (c0 : Nat) (l0 : List Int) (A1 : Option Addr) (c1 : Nat) (l1 : List Int) (r : Bool) (w : World) (hr0 : Kd.C (Kd.int .u8) w A0 l0.length l0) (hc0 : l0.length ≤ c0) (hr1 : Kd.C (Kd.int .u8) w A1 l1.length l1) (hc1 : l1.length ≤ c1) (h : laws_FnSureLess.f k l0 l1 = some r) :
  Calls Try.prog 6 #[.slice A0 l0.length c0,.slice A1 l1.length c1] w fun e w' => e = .returned (.bool r) ∧ Below w.heap.size w w':=by
 have HR0:=aM hr0
 have HC0:=aM hc0
 clear hr0 hc0
 have HR1:=aM hr1
 have HC1:=aM hc1
 clear hr1 hc1
 have HB:=aM (Below.refl w.heap.size w)
 have H : (if (l0.length : Int) > 1048576 then (laws_FnSureLess.j0 k l0 l1 true) else (laws_FnSureLess.j0 k l0 l1 (decide ((l1.length : Int) > 1048576)))) = some r:=h
 clear h
 have HC3:=aM H
 clear H
 go_enter Try.func6,Try.ntmps6
 go_upto_region 1 with (fail)
 go_cut [16] (fun v16 wc => ∃ (kq : Nat) (x16_2 : Bool),v16 = .bool x16_2 ∧ Aside0 (laws_FnSureLess.j0 kq l0 l1 x16_2 = some r) ∧ Aside0 (kq ≤ k) ∧ Aside0 (Below w.heap.size w wc))
 case first =>
  have H:=HC3.out
  clear HC3
  by_cases c4 : (l0.length : Int) > 1048576
  ·rw [if_pos c4] at H
   have c4b0 : decide (1048576 < (l0.length : Int)) = true:=decide_eq_true c4
   have c4b1 : decide (1048576 < l0.length) = true:=decide_eq_true (by omega)
   clear c4
   (first|rw [c4b0]|rw [c4b1]|(simp only [i64_w,i32_w];rw [c4b0])|skip)
   have H':=aM H
   clear H
   go_wp2
   go_meet
   case rel => exact ⟨_,(true),(by first|rfl|(simp;done)|(simp [*];done)),H',⟨by first|omega|exact Nat.le_refl _⟩,⟨by repeat (first|(with_reducible first|exact HB.out|apply bA|apply bN|apply bD)|exact HB.out)⟩⟩
  ·rw [if_neg c4] at H
   have c4b0 : decide (1048576 < (l0.length : Int)) = false:=decide_eq_false c4
   have c4b1 : decide (1048576 < l0.length) = false:=decide_eq_false (by omega)
   clear c4
   (first|rw [c4b0]|rw [c4b1]|(simp only [i64_w,i32_w];rw [c4b0])|skip)
   have H':=aM H
   clear H
   go_wp2
   go_meet
   case rel => exact ⟨_,(decide ((l1.length : Int) > 1048576)),(by first|rfl|(simp;done)|(simp [*];done)),H',⟨by first|omega|exact Nat.le_refl _⟩,⟨by repeat (first|(with_reducible first|exact HB.out|apply bA|apply bN|apply bD)|exact HB.out)⟩⟩
 case rest =>
  clear HC3
  try clear c1
  try clear p2
  try clear c4
  try clear c4b0
  try clear c4b1
  obtain ⟨kq,x16_2,rfl,HA,HJ2,HB⟩:=hcut
  cases kq with
  | zero => exact absurd HA.out (by simp [laws_FnSureLess.j0])
  | succ kj2 =>
   have H:=HA.out
   clear HA
   simp only [laws_FnSureLess.j0] at H
   by_cases c5 : x16_2 = true
   ·subst c5
    have H1 : (some true) = some r:=by rw [if_pos rfl] at H;exact H
    clear H
    have H:=H1
    clear H1
    obtain rfl:=Option.some.inj H
    go_wp2
    go_ret
    exact ⟨by first|rfl|(simp only [i64_w,i32_w];done)|(simp only [i64_w,i32_w];rfl)|(simp [errW_none,errW_some] <;> rfl)|(simp [*,errW_none,errW_some] <;> rfl),by repeat (first|(with_reducible first|exact HB.out|apply bA|apply bN|apply bD)|exact HB.out)⟩
   ·replace c5:=Bool.eq_false_iff.mpr c5
    subst c5
    have H1 : ((spec_DrawTreeSure.f kj2 l0).bind fun bt447 => ((impl_TreeSure.f kj2 bt447.1 bt447.2).bind fun t453 => ((spec_TreeSure.f kj2 bt447.1 bt447.2).bind fun t454 => (if (t453 != t454) = true then (laws_FnSureLess.j1 kj2 l1 bt447.1 bt447.2 t453 true) else (laws_FnSureLess.j1 kj2 l1 bt447.1 bt447.2 t453 (!t453)))))) = some r:=by rw [if_neg (show ¬ (false = true) by decide)] at H;exact H
    clear H
    have H:=H1
    clear H1
    replace H:=Option.bind_eq_some_iff.mp H
    obtain ⟨⟨t447,t450⟩,A60,H⟩:=H
    replace H : ((impl_TreeSure.f kj2 t447 t450).bind fun t453 => ((spec_TreeSure.f kj2 t447 t450).bind fun t454 => (if (t453 != t454) = true then (laws_FnSureLess.j1 kj2 l1 t447 t450 t453 true) else (laws_FnSureLess.j1 kj2 l1 t447 t450 t453 (!t453))))) = some r:=H
    have A6:=aM A60
    clear A60
    replace H:=Option.bind_eq_some_iff.mp H
    obtain ⟨t453,A70,H⟩:=H
    replace H : ((spec_TreeSure.f kj2 t447 t450).bind fun t454 => (if (t453 != t454) = true then (laws_FnSureLess.j1 kj2 l1 t447 t450 t453 true) else (laws_FnSureLess.j1 kj2 l1 t447 t450 t453 (!t453)))) = some r:=H
    have A7:=aM A70
    clear A70
    have HC8:=aM H
    clear H
    go_upto_region 5 with (first|((with_reducible refine gate_callee (f:=25) rfl ?_);refine goesL_ (some 19) rfl rfl Try.func25 (by kernel_rfl) rfl #[.slice A0 l0.length c0] rfl (by (try simp only [List.map_toArray,List.map_cons,List.map_nil]);first|done|rfl|(simp only [List.length_drop,List.length_take];rfl)) ?_;(with_reducible refine (spec_DrawTreeSure.calls kj2 _ _ l0 t447 t450 _ ?side1 ?side2 A6.out).mono ?_);(case side1 => repeat (first|exact (Kd.C_below HR0.out HB.out)|(with_reducible refine Kd.C_alloc ?_ _)|(with_reducible refine Kd.C_drewN ?_ _)|(with_reducible refine Kd.C_drew ?_)));(case side2 => exact HC0.out);rintro e w9 ⟨v448,v451,rfl,ho0,ho1,hb⟩;refine ⟨_,rfl,?_⟩;have n0_:=aM (Kd.N_lower (Kd.N_mono (ok':=fun k_ => some k_ ≠ (v451 : Value).ownBlock) ho0 (fun k_ hk_ => hk_.2)) (below_size (by repeat (first|(with_reducible first|exact HB.out|apply bA|apply bN|apply bD)|exact HB.out))));have n1_:=aM (Kd.R_lower (Kd.R_mono (ok':=fun k_ => True) ho1 (fun _ hk_ => trivial)) (below_size (by repeat (first|(with_reducible first|exact HB.out|apply bA|apply bN|apply bD)|exact HB.out))));have n2_:=aM (below_step (by repeat (first|(with_reducible first|exact HB.out|apply bA|apply bN|apply bD)|exact HB.out)) hb);clear HB;have HO449:=n0_;have HO452:=n1_;have HB:=n2_;clear n0_ n1_ n2_;(try clear hb);(try clear hb2);(try clear hk);(try clear hi);(try clear ho0);(try clear ho1);obtain ⟨Ao10,co10,eo10⟩:=Kd.N_slice HO449.out;subst eo10;obtain ⟨Ao11,co11,eo11⟩:=Kd.R_slice HO452.out;subst eo11)|((with_reducible refine gate_callee (f:=15) rfl ?_);refine goesL_ (some 24) rfl rfl Try.func15 (by kernel_rfl) rfl #[.slice Ao10 t447.length co10,.slice Ao11 t450.length co11] rfl (by (try simp only [List.map_toArray,List.map_cons,List.map_nil]);first|done|rfl|(simp only [List.length_drop,List.length_take];rfl)) ?_;(with_reducible refine (impl_TreeSure.calls kj2 _ _ t447 _ _ t450 t453 _ ?side1 ?side2 ?side3 ?side4 A7.out).mono ?_);(case side1 => repeat (first|exact (Kd.N_reads' HO449.out).2.2|(with_reducible refine Kd.C_alloc ?_ _)|(with_reducible refine Kd.C_drewN ?_ _)|(with_reducible refine Kd.C_drew ?_)));(case side2 => exact (Kd.N_reads' HO449.out).2.1);(case side3 => repeat (first|exact (Kd.R_reads' HO452.out).2.2|(with_reducible refine Kd.C_alloc ?_ _)|(with_reducible refine Kd.C_drewN ?_ _)|(with_reducible refine Kd.C_drew ?_)));(case side4 => exact (Kd.R_reads' HO452.out).2.1);rintro e w12 ⟨rfl,hb⟩;refine ⟨_,rfl,?_⟩;have n0_:=aM (Kd.N_below (by (with_reducible repeat (first|apply Kd.N_alloc|apply Kd.N_drewN|apply Kd.N_drew));exact HO449.out) hb);have n1_:=aM (Kd.R_below (by (with_reducible repeat (first|apply Kd.R_alloc|apply Kd.R_drewN|apply Kd.R_drew));exact HO452.out) hb);have n2_:=aM (below_step (by repeat (first|(with_reducible first|exact HB.out|apply bA|apply bN|apply bD)|exact HB.out)) hb);clear HO449;clear HO452;clear HB;have HO449:=n0_;have HO452:=n1_;have HB:=n2_;clear n0_ n1_ n2_;(try clear hb);(try clear hb2);(try clear hk);(try clear hi)))
    (try simp only [Act.put,sI,sZ,sS])
    go_cut [33] (fun v33 wc => ∃ (kq : Nat) (x33_7 : Bool),v33 = .bool x33_7 ∧ Aside0 (laws_FnSureLess.j1 kq l1 t447 t450 t453 x33_7 = some r) ∧ Aside0 (kq ≤ kj2) ∧ Aside0 (Kd.N k48 48 wc w.heap.size (fun k_ => some k_ ≠ ((.slice Ao11 t450.length co11) : Value).ownBlock) (.slice Ao10 t447.length co10) t447) ∧ Aside0 (Kd.R k58 58 wc w.heap.size (fun _ => True) (.slice Ao11 t450.length co11) t450) ∧ Aside0 (Below w.heap.size w wc))
    case first =>
     have H:=HC8.out
     clear HC8
     replace H:=Option.bind_eq_some_iff.mp H
     obtain ⟨t454,A130,H⟩:=H
     replace H : (if (t453 != t454) = true then (laws_FnSureLess.j1 kj2 l1 t447 t450 t453 true) else (laws_FnSureLess.j1 kj2 l1 t447 t450 t453 (!t453))) = some r:=H
     have A13:=aM A130
     clear A130
     by_cases c14 : (t453 != t454) = true
     ·rw [if_pos c14] at H
      have c14b0 : (t453 != t454) = true:=c14
      (try (have c14b1 : decide (t453 = t454) = false:=by simpa using c14))
      (try (have c14b2 : (t453 == t454) = false:=by simpa using c14))
      (try (have c14b3 : ¬ (t453 = t454):=by simpa using c14))
      clear c14
      (first|rw [c14b0]|rw [c14b1]|(simp only [i64_w,i32_w];rw [c14b0])|skip)
      have H':=aM H
      clear H
      go_wp2_with (first|((with_reducible refine gate_callee (f:=12) rfl ?_);refine goesL_ (some 28) rfl rfl Try.func12 (by kernel_rfl) rfl #[.slice Ao10 t447.length co10,.slice Ao11 t450.length co11] rfl (by (try simp only [List.map_toArray,List.map_cons,List.map_nil]);first|done|rfl|(simp only [List.length_drop,List.length_take];rfl)) ?_;(with_reducible refine (spec_TreeSure.calls kj2 _ _ t447 _ _ t450 t454 _ ?side1 ?side2 ?side3 ?side4 A13.out).mono ?_);(case side1 => repeat (first|exact (Kd.N_reads' HO449.out).2.2|(with_reducible refine Kd.C_alloc ?_ _)|(with_reducible refine Kd.C_drewN ?_ _)|(with_reducible refine Kd.C_drew ?_)));(case side2 => exact (Kd.N_reads' HO449.out).2.1);(case side3 => repeat (first|exact (Kd.R_reads' HO452.out).2.2|(with_reducible refine Kd.C_alloc ?_ _)|(with_reducible refine Kd.C_drewN ?_ _)|(with_reducible refine Kd.C_drew ?_)));(case side4 => exact (Kd.R_reads' HO452.out).2.1);rintro e w15 ⟨rfl,hb⟩;refine ⟨_,rfl,?_⟩;have n0_:=aM (Kd.N_below (by (with_reducible repeat (first|apply Kd.N_alloc|apply Kd.N_drewN|apply Kd.N_drew));exact HO449.out) hb);have n1_:=aM (Kd.R_below (by (with_reducible repeat (first|apply Kd.R_alloc|apply Kd.R_drewN|apply Kd.R_drew));exact HO452.out) hb);have n2_:=aM (below_step (by repeat (first|(with_reducible first|exact HB.out|apply bA|apply bN|apply bD)|exact HB.out)) hb);clear HO449;clear HO452;clear HB;have HO449:=n0_;have HO452:=n1_;have HB:=n2_;clear n0_ n1_ n2_;(try clear hb);(try clear hb2);(try clear hk);(try clear hi)))
      go_meet
      case rel => exact ⟨_,(true),(by first|rfl|(simp;done)|(simp [*];done)),H',⟨by have:=HJ2.out;first|omega|exact Nat.le_refl _⟩,⟨by (with_reducible repeat (first|apply Kd.N_alloc|apply Kd.N_drewN|apply Kd.N_drew));exact HO449.out⟩,⟨by (with_reducible repeat (first|apply Kd.R_alloc|apply Kd.R_drewN|apply Kd.R_drew));exact HO452.out⟩,⟨by repeat (first|(with_reducible first|exact HB.out|apply bA|apply bN|apply bD)|exact HB.out)⟩⟩
     ·rw [if_neg c14] at H
      have c14b0 : (t453 != t454) = false:=by simpa using c14
      (try (have c14b1 : decide (t453 = t454) = true:=by simpa using c14))
      (try (have c14b2 : (t453 == t454) = true:=by simpa using c14))
      clear c14
      (first|rw [c14b0]|rw [c14b1]|(simp only [i64_w,i32_w];rw [c14b0])|skip)
      have H':=aM H
      clear H
      go_wp2_with (first|((with_reducible refine gate_callee (f:=12) rfl ?_);refine goesL_ (some 28) rfl rfl Try.func12 (by kernel_rfl) rfl #[.slice Ao10 t447.length co10,.slice Ao11 t450.length co11] rfl (by (try simp only [List.map_toArray,List.map_cons,List.map_nil]);first|done|rfl|(simp only [List.length_drop,List.length_take];rfl)) ?_;(with_reducible refine (spec_TreeSure.calls kj2 _ _ t447 _ _ t450 t454 _ ?side1 ?side2 ?side3 ?side4 A13.out).mono ?_);(case side1 => repeat (first|exact (Kd.N_reads' HO449.out).2.2|(with_reducible refine Kd.C_alloc ?_ _)|(with_reducible refine Kd.C_drewN ?_ _)|(with_reducible refine Kd.C_drew ?_)));(case side2 => exact (Kd.N_reads' HO449.out).2.1);(case side3 => repeat (first|exact (Kd.R_reads' HO452.out).2.2|(with_reducible refine Kd.C_alloc ?_ _)|(with_reducible refine Kd.C_drewN ?_ _)|(with_reducible refine Kd.C_drew ?_)));(case side4 => exact (Kd.R_reads' HO452.out).2.1);rintro e w16 ⟨rfl,hb⟩;refine ⟨_,rfl,?_⟩;have n0_:=aM (Kd.N_below (by (with_reducible repeat (first|apply Kd.N_alloc|apply Kd.N_drewN|apply Kd.N_drew));exact HO449.out) hb);have n1_:=aM (Kd.R_below (by (with_reducible repeat (first|apply Kd.R_alloc|apply Kd.R_drewN|apply Kd.R_drew));exact HO452.out) hb);have n2_:=aM (below_step (by repeat (first|(with_reducible first|exact HB.out|apply bA|apply bN|apply bD)|exact HB.out)) hb);clear HO449;clear HO452;clear HB;have HO449:=n0_;have HO452:=n1_;have HB:=n2_;clear n0_ n1_ n2_;(try clear hb);(try clear hb2);(try clear hk);(try clear hi)))
      go_meet
      case rel => exact ⟨_,(!t453),(by first|rfl|(simp;done)|(simp [*];done)),H',⟨by have:=HJ2.out;first|omega|exact Nat.le_refl _⟩,⟨by (with_reducible repeat (first|apply Kd.N_alloc|apply Kd.N_drewN|apply Kd.N_drew));exact HO449.out⟩,⟨by (with_reducible repeat (first|apply Kd.R_alloc|apply Kd.R_drewN|apply Kd.R_drew));exact HO452.out⟩,⟨by repeat (first|(with_reducible first|exact HB.out|apply bA|apply bN|apply bD)|exact HB.out)⟩⟩
    case rest =>
     clear HC8
     try clear c1
     try clear c2
     try clear p2
     try clear c4
     try clear c4b0
     try clear c4b1
     try clear c5
     try clear c6
     try clear c12
     try clear c14
     try clear c14b0
     try clear c14b1
     try clear c14b2
     try clear c15
     try clear p2
     obtain ⟨kq,x33_7,rfl,HA,HJ7,HO_5,HO_6,HB⟩:=hcut
     cases kq with
     | zero => exact absurd HA.out (by simp [laws_FnSureLess.j1])
     | succ kj7 =>
      have H:=HA.out
      clear HA
      simp only [laws_FnSureLess.j1] at H
      by_cases c17 : x33_7 = true
      ·subst c17
       have H1 : ((spec_TreeSure.f kj7 t447 t450).bind fun t455 => (some (t453 == t455))) = some r:=by rw [if_pos rfl] at H;exact H
       clear H
       have H:=H1
       clear H1
       replace H:=Option.bind_eq_some_iff.mp H
       obtain ⟨t455,A180,H⟩:=H
       replace H : (some (t453 == t455)) = some r:=H
       have A18:=aM A180
       clear A180
       obtain rfl:=Option.some.inj H
       go_wp2_with (first|((with_reducible refine gate_callee (f:=12) rfl ?_);refine goesL_ (some 37) rfl rfl Try.func12 (by kernel_rfl) rfl #[.slice Ao10 t447.length co10,.slice Ao11 t450.length co11] rfl (by (try simp only [List.map_toArray,List.map_cons,List.map_nil]);first|done|rfl|(simp only [List.length_drop,List.length_take];rfl)) ?_;(with_reducible refine (spec_TreeSure.calls kj7 _ _ t447 _ _ t450 t455 _ ?side1 ?side2 ?side3 ?side4 A18.out).mono ?_);(case side1 => repeat (first|exact (Kd.N_reads' HO_5.out).2.2|(with_reducible refine Kd.C_alloc ?_ _)|(with_reducible refine Kd.C_drewN ?_ _)|(with_reducible refine Kd.C_drew ?_)));(case side2 => exact (Kd.N_reads' HO_5.out).2.1);(case side3 => repeat (first|exact (Kd.R_reads' HO_6.out).2.2|(with_reducible refine Kd.C_alloc ?_ _)|(with_reducible refine Kd.C_drewN ?_ _)|(with_reducible refine Kd.C_drew ?_)));(case side4 => exact (Kd.R_reads' HO_6.out).2.1);rintro e w19 ⟨rfl,hb⟩;refine ⟨_,rfl,?_⟩;have n0_:=aM (Kd.N_below (by (with_reducible repeat (first|apply Kd.N_alloc|apply Kd.N_drewN|apply Kd.N_drew));exact HO_5.out) hb);have n1_:=aM (Kd.R_below (by (with_reducible repeat (first|apply Kd.R_alloc|apply Kd.R_drewN|apply Kd.R_drew));exact HO_6.out) hb);have n2_:=aM (below_step (by repeat (first|(with_reducible first|exact HB.out|apply bA|apply bN|apply bD)|exact HB.out)) hb);clear HO_5;clear HO_6;clear HB;have HO_5:=n0_;have HO_6:=n1_;have HB:=n2_;clear n0_ n1_ n2_;(try clear hb);(try clear hb2);(try clear hk);(try clear hi)))
       go_ret
       exact ⟨by first|rfl|(simp only [i64_w,i32_w];done)|(simp only [i64_w,i32_w];rfl)|(simp [errW_none,errW_some] <;> rfl)|(simp [*,errW_none,errW_some] <;> rfl),by repeat (first|(with_reducible first|exact HB.out|apply bA|apply bN|apply bD)|exact HB.out)⟩
      ·replace c17:=Bool.eq_false_iff.mpr c17
       subst c17
       have H1 : (if (wrap64 ((t450.length : Int) + 1)) = 0 then (none) else (if ((l1.length : Int) % (wrap64 ((t450.length : Int) + 1))) > 0 then (if 0 ≤ ((l1.length : Int) % (wrap64 ((t450.length : Int) + 1))) then (if ((l1.length : Int) % (wrap64 ((t450.length : Int) + 1))) ≤ (t450.length : Int) then ((impl_VotesFor.f kj7 t447 (t450.take (((l1.length : Int) % (wrap64 ((t450.length : Int) + 1))) : Int).toNat)).bind fun t461 => (laws_FnSureLess.j2 kj7 t447 t450 ((l1.length : Int) % (wrap64 ((t450.length : Int) + 1))) (decide ((t461.length : Int) < 3)))) else (none)) else (none)) else (laws_FnSureLess.j2 kj7 t447 t450 ((l1.length : Int) % (wrap64 ((t450.length : Int) + 1))) false))) = some r:=by rw [if_neg (show ¬ (false = true) by decide)] at H;exact H
       clear H
       have H:=H1
       clear H1
       by_cases c20 : (wrap64 ((t450.length : Int) + 1)) = 0
       ·rw [if_pos c20] at H
        exact absurd H (by simp)
       ·rw [if_neg c20] at H
        have c20b0 : ((wrap64 ((t450.length : Int) + 1)) == 0) = false:=beq_eq_false_iff_ne.mpr c20
        have c20b1 : ((wrap64 ((t450.length : Int) + 1)) != 0) = true:=bne_iff_ne.mpr c20
        have HC21:=aM H
        clear H
        go_upto_region 8 with (fail)
        go_cut [55] (fun v55 wc => ∃ (kq : Nat) (x55_20 : Bool),v55 = .bool x55_20 ∧ Aside0 (laws_FnSureLess.j2 kq t447 t450 ((l1.length : Int) % (wrap64 ((t450.length : Int) + 1))) x55_20 = some r) ∧ Aside0 (kq ≤ kj7) ∧ Aside0 (Kd.N k48 48 wc w.heap.size (fun k_ => some k_ ≠ ((.slice Ao11 t450.length co11) : Value).ownBlock) (.slice Ao10 t447.length co10) t447) ∧ Aside0 (Kd.R k58 58 wc w.heap.size (fun _ => True) (.slice Ao11 t450.length co11) t450) ∧ Aside0 (Below w.heap.size w wc))
        case first =>
         have H:=HC21.out
         clear HC21
         by_cases c22 : ((l1.length : Int) % (wrap64 ((t450.length : Int) + 1))) > 0
         ·rw [if_pos c22] at H
          have c22b0 : decide (0 < ((l1.length : Int) % (wrap64 ((t450.length : Int) + 1)))) = true:=decide_eq_true c22
          clear c22
          (first|rw [c22b0]|rw [c22b1]|(simp only [i64_w,i32_w];rw [c22b0])|skip)
          obtain ⟨ji23,hji23⟩ : ∃ j_ : Int,((l1.length : Int) % (wrap64 ((t450.length : Int) + 1))) = j_:=⟨_,rfl⟩
          replace H : (if 0 ≤ (ji23) then (if (ji23) ≤ (t450.length : Int) then ((impl_VotesFor.f kj7 t447 (t450.take ((ji23) : Int).toNat)).bind fun t461 => (laws_FnSureLess.j2 kj7 t447 t450 ji23 (decide ((t461.length : Int) < 3)))) else (none)) else (none)) = some r:=by first|(rw [hji23] at H;exact H)|(simp only [hji23] at H ⊢;exact H)
          (try rw [hji23] at c22b0)
          by_cases c24 : 0 ≤ (ji23)
          case neg => rw [if_neg c24] at H;exact absurd H (by simp)
          rw [if_pos c24] at H
          have c24b0:=eq_true c24
          have c24b1 : decide (0 ≤ (ji23)) = true:=decide_eq_true c24
          clear c24
          by_cases c25 : (ji23) ≤ (t450.length : Int)
          case neg => rw [if_neg c25] at H;exact absurd H (by simp)
          rw [if_pos c25] at H
          have c25b0:=eq_true c25
          have c25b1 : decide ((ji23) ≤ (t450.length : Int)) = true:=decide_eq_true c25
          clear c25
          obtain ⟨y456,hy456⟩ : ∃ y_ : List (S58),y_ = (t450.take ((ji23) : Int).toNat):=⟨_,rfl⟩
          replace H : ((impl_VotesFor.f kj7 t447 y456).bind fun t461 => (laws_FnSureLess.j2 kj7 t447 t450 ji23 (decide ((t461.length : Int) < 3)))) = some r:=by first|(rw [hy456];with_reducible exact H)|(have H2_:=(Option.bind_some _ _).symm.trans H;rw [hy456];with_reducible exact H2_)|(have H2_:=(Option.bind_some _ _).symm.trans H;with_reducible exact H2_)|with_reducible exact H|(rw [hy456];exact H)|exact H
          have Ny456:=aM hy456
          clear hy456
          replace H:=Option.bind_eq_some_iff.mp H
          obtain ⟨t461,A260,H⟩:=H
          replace H : (laws_FnSureLess.j2 kj7 t447 t450 ji23 (decide ((t461.length : Int) < 3))) = some r:=H
          have A26:=aM A260
          clear A260
          have H':=aM H
          clear H
          have q27 : ((ji23) : Int) ≤ ((t450.length : Int) : Int):=of_decide_eq_true (by first|(with_reducible assumption)|assumption)
          obtain ⟨i027,hi027,_,hsz27,_⟩:=info_parts info58
          have hroom27 : t450.length ≤ co11:=(Kd.R_reads' HO_6.out).2.1
          have hC27 : Kd.F k58 _ _ Ao11 t450.length t450:=(Kd.V_at (base:=w.heap.size) (Kd.R_V (Kd.R_apart' (HO_6.out) (Kd.N_typed HO_5.out) (by decide)))).2.2
          have hcut27:=cut_to (P:=Try.prog) 29 58 .i64 Try.underlying29 hi027 Ao11 t450.length co11 (ji23) (of_decide_eq_true (by first|(with_reducible assumption)|assumption)) q27 hroom27
          have hr27:=Kd.F_take (m:=((ji23) : Int).toNat) hC27 (by omega)
          have hy27 : y456.length = ((ji23) : Int).toNat:=(by rw [Ny456.out,List.length_take];omega)
          rw [← Ny456.out] at hr27
          rw [← hy27] at hcut27
          have HO460:=aM (show Kd.V k58 58 _ w.heap.size _ (.slice Ao11 y456.length co11) y456 from Kd.V_mk (by omega) hr27)
          have HC460:=aM (show y456.length ≤ co11 from by omega)
          clear hr27 hC27 hroom27 hi027 hsz27
          have KY27:=aM hy27
          clear hy27
          replace q27:=eq_true q27
          go_wp2_with (first|(go_at_call 19;(with_reducible refine (impl_VotesFor.calls kj7 _ _ t447 _ _ y456 t461 _ ?side1 ?side2 ?side3 ?side4 A26.out).mono ?_);(case side1 => repeat (first|exact (Kd.N_reads' HO_5.out).2.2|(with_reducible refine Kd.C_alloc ?_ _)|(with_reducible refine Kd.C_drewN ?_ _)|(with_reducible refine Kd.C_drew ?_)));(case side2 => exact (Kd.N_reads' HO_5.out).2.1);(case side3 => repeat (first|exact (Kd.V_reads' HO460.out).2.2|(with_reducible refine Kd.C_alloc ?_ _)|(with_reducible refine Kd.C_drewN ?_ _)|(with_reducible refine Kd.C_drew ?_)));(case side4 => exact (Kd.V_reads' HO460.out).2.1);rintro e w28 ⟨v462,rfl,ho0,hb⟩;have n0_:=aM (Kd.N_below (by (with_reducible repeat (first|apply Kd.N_alloc|apply Kd.N_drewN|apply Kd.N_drew));exact HO_5.out) hb);have n1_:=aM (Kd.R_below (by (with_reducible repeat (first|apply Kd.R_alloc|apply Kd.R_drewN|apply Kd.R_drew));exact HO_6.out) hb);have n2_:=aM (Kd.V_below (by (with_reducible repeat (first|apply Kd.V_alloc|apply Kd.V_drewN|apply Kd.V_drew));exact HO460.out) hb);have n3_:=aM (Kd.V_lower (Kd.V_mono (ok':=fun k_ => some k_ ≠ (.slice Ao10 t447.length co10 : Value).ownBlock ∧ some k_ ≠ (.slice Ao11 t450.length co11 : Value).ownBlock) ho0 (fun k_ hk_ => ⟨(Kd.fresh' (Kd.N_lt (by (with_reducible repeat (first|apply Kd.N_alloc|apply Kd.N_drewN|apply Kd.N_drew));exact HO_5.out)) k_ hk_),(Kd.fresh' (Kd.R_lt (by (with_reducible repeat (first|apply Kd.R_alloc|apply Kd.R_drewN|apply Kd.R_drew));exact HO_6.out)) k_ hk_)⟩)) (below_size (by repeat (first|(with_reducible first|exact HB.out|apply bA|apply bN|apply bD)|exact HB.out))));have n4_:=aM (below_step (by repeat (first|(with_reducible first|exact HB.out|apply bA|apply bN|apply bD)|exact HB.out)) hb);clear HO_5;clear HO_6;clear HO460;clear HB;have HO_5:=n0_;have HO_6:=n1_;have HO460:=n2_;have HO463:=n3_;have HB:=n4_;clear n0_ n1_ n2_ n3_ n4_;(try clear hb);(try clear hb2);(try clear hk);(try clear hi);(try clear ho0);obtain ⟨Ao29,co29,eo29⟩:=Kd.V_slice HO463.out;subst eo29))
          (try subst hji23)
          go_meet
          case rel => exact ⟨_,(decide ((t461.length : Int) < 3)),(by first|rfl|(simp;done)|(simp [*];done)),H',⟨by have:=HJ2.out;have:=HJ7.out;first|omega|exact Nat.le_refl _⟩,⟨by (with_reducible repeat (first|apply Kd.N_alloc|apply Kd.N_drewN|apply Kd.N_drew));exact HO_5.out⟩,⟨by (with_reducible repeat (first|apply Kd.R_alloc|apply Kd.R_drewN|apply Kd.R_drew));exact HO_6.out⟩,⟨by repeat (first|(with_reducible first|exact HB.out|apply bA|apply bN|apply bD)|exact HB.out)⟩⟩
         ·rw [if_neg c22] at H
          have c22b0 : decide (0 < ((l1.length : Int) % (wrap64 ((t450.length : Int) + 1)))) = false:=decide_eq_false c22
          clear c22
          (first|rw [c22b0]|rw [c22b1]|(simp only [i64_w,i32_w];rw [c22b0])|skip)
          have H':=aM H
          clear H
          go_wp2
          (try subst hji23)
          go_meet
          case rel => exact ⟨_,(false),(by first|rfl|(simp;done)|(simp [*];done)),H',⟨by have:=HJ2.out;have:=HJ7.out;first|omega|exact Nat.le_refl _⟩,⟨by (with_reducible repeat (first|apply Kd.N_alloc|apply Kd.N_drewN|apply Kd.N_drew));exact HO_5.out⟩,⟨by (with_reducible repeat (first|apply Kd.R_alloc|apply Kd.R_drewN|apply Kd.R_drew));exact HO_6.out⟩,⟨by repeat (first|(with_reducible first|exact HB.out|apply bA|apply bN|apply bD)|exact HB.out)⟩⟩
        case rest =>
         clear HC21
         try clear c1
         try clear c2
         try clear p2
         try clear q2
         try clear c4
         try clear c4b0
         try clear c4b1
         try clear c5
         try clear c6
         try clear p6
         try clear c12
         try clear c14
         try clear c14b0
         try clear c14b1
         try clear c14b2
         try clear c15
         try clear c17
         try clear c20
         try clear c20b0
         try clear c20b1
         try clear c22
         try clear c22b0
         try clear c22b1
         try clear c24
         try clear c24b0
         try clear c24b1
         try clear c25
         try clear c25b0
         try clear c25b1
         try clear q27
         try clear p2
         try clear q27
         obtain ⟨kq,x55_20,rfl,HA,HJ20,HO_5,HO_6,HB⟩:=hcut
         cases kq with
         | zero => exact absurd HA.out (by simp [laws_FnSureLess.j2])
         | succ kj20 =>
          have H:=HA.out
          clear HA
          simp only [laws_FnSureLess.j2] at H
          by_cases c30 : x55_20 = true
          ·subst c30
           have H1 : (some false) = some r:=by rw [if_pos rfl] at H;exact H
           clear H
           have H:=H1
           clear H1
           obtain rfl:=Option.some.inj H
           go_wp2
           go_ret
           exact ⟨by first|rfl|(simp only [i64_w,i32_w];done)|(simp only [i64_w,i32_w];rfl)|(simp [errW_none,errW_some] <;> rfl)|(simp [*,errW_none,errW_some] <;> rfl),by repeat (first|(with_reducible first|exact HB.out|apply bA|apply bN|apply bD)|exact HB.out)⟩
          ·replace c30:=Bool.eq_false_iff.mpr c30
           subst c30
           have H1 : (if 0 ≤ ((l1.length : Int) % (wrap64 ((t450.length : Int) + 1))) then (if ((l1.length : Int) % (wrap64 ((t450.length : Int) + 1))) ≤ (t450.length : Int) then ((impl_TreeSure.f kj20 t447 (t450.take (((l1.length : Int) % (wrap64 ((t450.length : Int) + 1))) : Int).toNat)).bind fun t469 => (if t469 = true then ((impl_TreeSure.f kj20 t447 ([] : List (S58))).bind fun t470 => (some t470)) else (some false))) else (none)) else (none)) = some r:=by rw [if_neg (show ¬ (false = true) by decide)] at H;exact H
           clear H
           have H:=H1
           clear H1
           obtain ⟨ji31,hji31⟩ : ∃ j_ : Int,((l1.length : Int) % (wrap64 ((t450.length : Int) + 1))) = j_:=⟨_,rfl⟩
           replace H : (if 0 ≤ (ji31) then (if (ji31) ≤ (t450.length : Int) then ((impl_TreeSure.f kj20 t447 (t450.take ((ji31) : Int).toNat)).bind fun t469 => (if t469 = true then ((impl_TreeSure.f kj20 t447 ([] : List (S58))).bind fun t470 => (some t470)) else (some false))) else (none)) else (none)) = some r:=by first|(rw [hji31] at H;exact H)|(simp only [hji31] at H ⊢;exact H)
           by_cases c32 : 0 ≤ (ji31)
           case neg => rw [if_neg c32] at H;exact absurd H (by simp)
           rw [if_pos c32] at H
           have c32b0:=eq_true c32
           have c32b1 : decide (0 ≤ (ji31)) = true:=decide_eq_true c32
           clear c32
           by_cases c33 : (ji31) ≤ (t450.length : Int)
           case neg => rw [if_neg c33] at H;exact absurd H (by simp)
           rw [if_pos c33] at H
           have c33b0:=eq_true c33
           have c33b1 : decide ((ji31) ≤ (t450.length : Int)) = true:=decide_eq_true c33
           clear c33
           obtain ⟨y464,hy464⟩ : ∃ y_ : List (S58),y_ = (t450.take ((ji31) : Int).toNat):=⟨_,rfl⟩
           replace H : ((impl_TreeSure.f kj20 t447 y464).bind fun t469 => (if t469 = true then ((impl_TreeSure.f kj20 t447 ([] : List (S58))).bind fun t470 => (some t470)) else (some false))) = some r:=by first|(rw [hy464];with_reducible exact H)|(have H2_:=(Option.bind_some _ _).symm.trans H;rw [hy464];with_reducible exact H2_)|(have H2_:=(Option.bind_some _ _).symm.trans H;with_reducible exact H2_)|with_reducible exact H|(rw [hy464];exact H)|exact H
           have Ny464:=aM hy464
           clear hy464
           replace H:=Option.bind_eq_some_iff.mp H
           obtain ⟨t469,A340,H⟩:=H
           replace H : (if t469 = true then ((impl_TreeSure.f kj20 t447 ([] : List (S58))).bind fun t470 => (some t470)) else (some false)) = some r:=H
           have A34:=aM A340
           clear A340
           by_cases c35 : t469 = true
           ·subst c35
            have H1 : ((impl_TreeSure.f kj20 t447 ([] : List (S58))).bind fun t470 => (some t470)) = some r:=by rw [if_pos rfl] at H;exact H
            clear H
            have H:=H1
            clear H1
            replace H:=Option.bind_eq_some_iff.mp H
            obtain ⟨t470,A360,H⟩:=H
            replace H : (some t470) = some r:=H
            have A36:=aM A360
            clear A360
            obtain rfl:=Option.some.inj H
            have q37 : ((ji31) : Int) ≤ ((t450.length : Int) : Int):=of_decide_eq_true (by first|(with_reducible assumption)|assumption)
            obtain ⟨i037,hi037,_,hsz37,_⟩:=info_parts info58
            have hroom37 : t450.length ≤ co11:=(Kd.R_reads' HO_6.out).2.1
            have hC37 : Kd.F k58 _ _ Ao11 t450.length t450:=(Kd.V_at (base:=w.heap.size) (Kd.R_V (Kd.R_apart' (HO_6.out) (Kd.N_typed HO_5.out) (by decide)))).2.2
            have hcut37:=cut_to (P:=Try.prog) 29 58 .i64 Try.underlying29 hi037 Ao11 t450.length co11 (ji31) (of_decide_eq_true (by first|(with_reducible assumption)|assumption)) q37 hroom37
            have hr37:=Kd.F_take (m:=((ji31) : Int).toNat) hC37 (by omega)
            have hy37 : y464.length = ((ji31) : Int).toNat:=(by rw [Ny464.out,List.length_take];omega)
            rw [← Ny464.out] at hr37
            rw [← hy37] at hcut37
            have HO468:=aM (show Kd.V k58 58 _ w.heap.size _ (.slice Ao11 y464.length co11) y464 from Kd.V_mk (by omega) hr37)
            have HC468:=aM (show y464.length ≤ co11 from by omega)
            clear hr37 hC37 hroom37 hi037 hsz37
            have KY37:=aM hy37
            clear hy37
            replace q37:=eq_true q37
            go_wp2_with (first|((with_reducible refine gate_callee (f:=15) rfl ?_);refine goesL_ (some 60) rfl rfl Try.func15 (by kernel_rfl) rfl #[.slice Ao10 t447.length co10,.slice Ao11 y464.length co11] rfl (by (try simp only [List.map_toArray,List.map_cons,List.map_nil]);first|done|rfl|(simp only [List.length_drop,List.length_take];rfl)) ?_;(with_reducible refine (impl_TreeSure.calls kj20 _ _ t447 _ _ y464 true _ ?side1 ?side2 ?side3 ?side4 A34.out).mono ?_);(case side1 => repeat (first|exact (Kd.N_reads' HO_5.out).2.2|(with_reducible refine Kd.C_alloc ?_ _)|(with_reducible refine Kd.C_drewN ?_ _)|(with_reducible refine Kd.C_drew ?_)));(case side2 => exact (Kd.N_reads' HO_5.out).2.1);(case side3 => repeat (first|exact (Kd.V_reads' HO468.out).2.2|(with_reducible refine Kd.C_alloc ?_ _)|(with_reducible refine Kd.C_drewN ?_ _)|(with_reducible refine Kd.C_drew ?_)));(case side4 => exact (Kd.V_reads' HO468.out).2.1);rintro e w38 ⟨rfl,hb⟩;refine ⟨_,rfl,?_⟩;have n0_:=aM (Kd.N_below (by (with_reducible repeat (first|apply Kd.N_alloc|apply Kd.N_drewN|apply Kd.N_drew));exact HO_5.out) hb);have n1_:=aM (Kd.R_below (by (with_reducible repeat (first|apply Kd.R_alloc|apply Kd.R_drewN|apply Kd.R_drew));exact HO_6.out) hb);have n2_:=aM (Kd.V_below (by (with_reducible repeat (first|apply Kd.V_alloc|apply Kd.V_drewN|apply Kd.V_drew));exact HO468.out) hb);have n3_:=aM (below_step (by repeat (first|(with_reducible first|exact HB.out|apply bA|apply bN|apply bD)|exact HB.out)) hb);clear HO_5;clear HO_6;clear HO468;clear HB;have HO_5:=n0_;have HO_6:=n1_;have HO468:=n2_;have HB:=n3_;clear n0_ n1_ n2_ n3_;(try clear hb);(try clear hb2);(try clear hk);(try clear hi))|(go_at_call 15;(refine (impl_TreeSure.calls kj20 _ _ t447 _ _ ([] : List (S58)) t470 _ ?side1 ?side2 ?side3 ?side4 A36.out).mono ?_);(case side1 => repeat (first|exact (Kd.N_reads' HO_5.out).2.2|(with_reducible refine Kd.C_alloc ?_ _)|(with_reducible refine Kd.C_drewN ?_ _)|(with_reducible refine Kd.C_drew ?_)));(case side2 => exact (Kd.N_reads' HO_5.out).2.1);(case side3 => exact Kd.C_nil _ _);(case side4 => exact Nat.le_refl _);rintro e w39 ⟨rfl,hb⟩;have n0_:=aM (Kd.N_below (by (with_reducible repeat (first|apply Kd.N_alloc|apply Kd.N_drewN|apply Kd.N_drew));exact HO_5.out) hb);have n1_:=aM (Kd.R_below (by (with_reducible repeat (first|apply Kd.R_alloc|apply Kd.R_drewN|apply Kd.R_drew));exact HO_6.out) hb);have n2_:=aM (Kd.V_below (by (with_reducible repeat (first|apply Kd.V_alloc|apply Kd.V_drewN|apply Kd.V_drew));exact HO468.out) hb);have n3_:=aM (below_step (by repeat (first|(with_reducible first|exact HB.out|apply bA|apply bN|apply bD)|exact HB.out)) hb);clear HO_5;clear HO_6;clear HO468;clear HB;have HO_5:=n0_;have HO_6:=n1_;have HO468:=n2_;have HB:=n3_;clear n0_ n1_ n2_ n3_;(try clear hb);(try clear hb2);(try clear hk);(try clear hi)))
            go_ret
            exact ⟨by first|rfl|(simp only [i64_w,i32_w];done)|(simp only [i64_w,i32_w];rfl)|(simp [errW_none,errW_some] <;> rfl)|(simp only [← hji31];first|rfl|(simp [errW_none,errW_some] <;> rfl))|(simp [*,errW_none,errW_some] <;> rfl),by repeat (first|(with_reducible first|exact HB.out|apply bA|apply bN|apply bD)|exact HB.out)⟩
           ·replace c35:=Bool.eq_false_iff.mpr c35
            subst c35
            have H1 : (some false) = some r:=by rw [if_neg (show ¬ (false = true) by decide)] at H;exact H
            clear H
            have H:=H1
            clear H1
            obtain rfl:=Option.some.inj H
            have q40 : ((ji31) : Int) ≤ ((t450.length : Int) : Int):=of_decide_eq_true (by first|(with_reducible assumption)|assumption)
            obtain ⟨i040,hi040,_,hsz40,_⟩:=info_parts info58
            have hroom40 : t450.length ≤ co11:=(Kd.R_reads' HO_6.out).2.1
            have hC40 : Kd.F k58 _ _ Ao11 t450.length t450:=(Kd.V_at (base:=w.heap.size) (Kd.R_V (Kd.R_apart' (HO_6.out) (Kd.N_typed HO_5.out) (by decide)))).2.2
            have hcut40:=cut_to (P:=Try.prog) 29 58 .i64 Try.underlying29 hi040 Ao11 t450.length co11 (ji31) (of_decide_eq_true (by first|(with_reducible assumption)|assumption)) q40 hroom40
            have hr40:=Kd.F_take (m:=((ji31) : Int).toNat) hC40 (by omega)
            have hy40 : y464.length = ((ji31) : Int).toNat:=(by rw [Ny464.out,List.length_take];omega)
            rw [← Ny464.out] at hr40
            rw [← hy40] at hcut40
            have HO468:=aM (show Kd.V k58 58 _ w.heap.size _ (.slice Ao11 y464.length co11) y464 from Kd.V_mk (by omega) hr40)
            have HC468:=aM (show y464.length ≤ co11 from by omega)
            clear hr40 hC40 hroom40 hi040 hsz40
            have KY40:=aM hy40
            clear hy40
            replace q40:=eq_true q40
            go_wp2_with (first|((with_reducible refine gate_callee (f:=15) rfl ?_);refine goesL_ (some 60) rfl rfl Try.func15 (by kernel_rfl) rfl #[.slice Ao10 t447.length co10,.slice Ao11 y464.length co11] rfl (by (try simp only [List.map_toArray,List.map_cons,List.map_nil]);first|done|rfl|(simp only [List.length_drop,List.length_take];rfl)) ?_;(with_reducible refine (impl_TreeSure.calls kj20 _ _ t447 _ _ y464 false _ ?side1 ?side2 ?side3 ?side4 A34.out).mono ?_);(case side1 => repeat (first|exact (Kd.N_reads' HO_5.out).2.2|(with_reducible refine Kd.C_alloc ?_ _)|(with_reducible refine Kd.C_drewN ?_ _)|(with_reducible refine Kd.C_drew ?_)));(case side2 => exact (Kd.N_reads' HO_5.out).2.1);(case side3 => repeat (first|exact (Kd.V_reads' HO468.out).2.2|(with_reducible refine Kd.C_alloc ?_ _)|(with_reducible refine Kd.C_drewN ?_ _)|(with_reducible refine Kd.C_drew ?_)));(case side4 => exact (Kd.V_reads' HO468.out).2.1);rintro e w41 ⟨rfl,hb⟩;refine ⟨_,rfl,?_⟩;have n0_:=aM (Kd.N_below (by (with_reducible repeat (first|apply Kd.N_alloc|apply Kd.N_drewN|apply Kd.N_drew));exact HO_5.out) hb);have n1_:=aM (Kd.R_below (by (with_reducible repeat (first|apply Kd.R_alloc|apply Kd.R_drewN|apply Kd.R_drew));exact HO_6.out) hb);have n2_:=aM (Kd.V_below (by (with_reducible repeat (first|apply Kd.V_alloc|apply Kd.V_drewN|apply Kd.V_drew));exact HO468.out) hb);have n3_:=aM (below_step (by repeat (first|(with_reducible first|exact HB.out|apply bA|apply bN|apply bD)|exact HB.out)) hb);clear HO_5;clear HO_6;clear HO468;clear HB;have HO_5:=n0_;have HO_6:=n1_;have HO468:=n2_;have HB:=n3_;clear n0_ n1_ n2_ n3_;(try clear hb);(try clear hb2);(try clear hk);(try clear hi)))
            go_ret
            exact ⟨by first|rfl|(simp only [i64_w,i32_w];done)|(simp only [i64_w,i32_w];rfl)|(simp [errW_none,errW_some] <;> rfl)|(simp only [← hji31];first|rfl|(simp [errW_none,errW_some] <;> rfl))|(simp [*,errW_none,errW_some] <;> rfl),by repeat (first|(with_reducible first|exact HB.out|apply bA|apply bN|apply bD)|exact HB.out)⟩

/-- What is left to prove of laws_FnSureLess. -/
def laws_FnSureLess.Pure : Prop:=∀ (l0 : List Int) (l1 : List Int),l0.length ≤ 9223372036854775807 → (∀ x,x ∈ l0 → (Lit.int .u8 x).wf = true) → l1.length ≤ 9223372036854775807 → (∀ x,x ∈ l1 → (Lit.int .u8 x).wf = true) → ∃ k,laws_FnSureLess.f k l0 l1 = some true

end Go.Proofs.Ytknmmkgaijndfaa.P
