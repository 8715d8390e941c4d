/- The printed functions: what each Go function computes, as a Lean function, and that the Go code comes to just that. Conditions: none beyond each contract's own. -/
import Derived.Test.YtknmmkgaijndfaaPx0
import Derived.Test.YtknmmkgaijndfaaPx3
import Derived.Test.YtknmmkgaijndfaaPx4
import Derived.Test.YtknmmkgaijndfaaPx5
import Derived.Test.YtknmmkgaijndfaaPx8
import Derived.Test.YtknmmkgaijndfaaPx11
namespace Go.Proofs.Ytknmmkgaijndfaa.P
open Go.RowKit Go.Proofs.YtknmmkgaijndfaaW.PrintWords Go.Proofs.YtknmmkgaijndfaaW.PrintLast Go.Proofs.YtknmmkgaijndfaaW.PrintMore
attribute [local go_sem] max2_int min2_int max_two min_two max_three min_three max_four min_four   -- for this text's walks alone
set_option linter.unusedVariables false
set_option linter.unusedSimpArgs false

/-! ### laws_FnSureCount: function 5 -/
mutual
def laws_FnSureCount.j0 : Nat → List (S48) → List (S58) → Bool → Bool → Option (Bool)
 | 0,_,_,_,_ => none
 | k + 1,x3,x4,x5,x33 => if x33 = true then ((spec_TreeSure.f k x3 x4).bind fun t457 => (some (x5 == t457))) else (laws_FnSureCount.l0 k x3 x4 x5 true 1)
def laws_FnSureCount.l0 : Nat → List (S48) → List (S58) → Bool → Bool → Int → Option (Bool)
 | 0,_,_,_,_,_ => none
 | k + 1,x3,x4,x5,x6,x7 => if x7 ≤ (x4.length : Int) then (if x6 = true then (if 0 ≤ x7 then ((impl_VotesFor.f k x3 (x4.take (x7 : Int).toNat)).bind fun t463 => (laws_FnSureCount.l0 k x3 x4 x5 (decide ((t463.length : Int) ≥ 3)) (wrap64 (x7 + 1)))) else (none)) else (laws_FnSureCount.l0 k x3 x4 x5 false (wrap64 (x7 + 1)))) else (some (x5 == x6))
end
def laws_FnSureCount.f (k : Nat) (l0 : List Int) : Option (Bool):=if (l0.length : Int) > 1048576 then (some true) else ((spec_DrawTreeSure.f k l0).bind fun bt447 => ((impl_TreeSure.f k bt447.1 bt447.2).bind fun t453 => ((spec_TreeSure.f k bt447.1 bt447.2).bind fun t454 => (if (t453 != t454) = true then (laws_FnSureCount.j0 k bt447.1 bt447.2 t453 true) else ((spec_VotesOk.f k bt447.1).bind fun t455 => (if t455 = true then ((spec_ChainOk.f k bt447.2).bind fun t456 => (laws_FnSureCount.j0 k bt447.1 bt447.2 t453 (!t456))) else (laws_FnSureCount.j0 k bt447.1 bt447.2 t453 true)))))))
theorem laws_FnSureCount.mono_l : ∀ k,(∀ y0 y1 y2 y3,LeO (laws_FnSureCount.j0 k y0 y1 y2 y3) (laws_FnSureCount.j0 (k + 1) y0 y1 y2 y3)) ∧ (∀ y0 y1 y2 y3 y4,LeO (laws_FnSureCount.l0 k y0 y1 y2 y3 y4) (laws_FnSureCount.l0 (k + 1) y0 y1 y2 y3 y4))
 | 0 => ⟨fun _ _ _ _ r h => by simp [laws_FnSureCount.j0] at h,fun _ _ _ _ _ r h => by simp [laws_FnSureCount.l0] at h⟩
 | k + 1 => by
  obtain ⟨ih0,ih1⟩:=laws_FnSureCount.mono_l k
  refine ⟨?_,?_⟩
  ·intro y0 y1 y2 y3
   unfold laws_FnSureCount.j0
   repeat' first
   | (with_reducible exact ih0 _ _ _ _)
   | (with_reducible exact ih1 _ _ _ _ _)
   | (with_reducible exact impl_TreeSure.mono _ _ _)
   | (with_reducible exact impl_VotesFor.mono _ _ _)
   | (with_reducible exact spec_ChainOk.mono _ _)
   | (with_reducible exact spec_DrawTreeSure.mono _ _)
   | (with_reducible exact spec_TreeSure.mono _ _ _)
   | (with_reducible exact spec_VotesOk.mono _ _)
   | (with_reducible exact LeO.refl _)
   | (with_reducible exact LeO.none _)
   | (with_reducible refine LeO.ite ?_ ?_)
   | (with_reducible refine LeO.bind ?_ (fun _ => ?_))
   | exact ih0 _ _ _ _
   | exact ih1 _ _ _ _ _
   | exact impl_TreeSure.mono _ _ _
   | exact impl_VotesFor.mono _ _ _
   | exact spec_ChainOk.mono _ _
   | exact spec_DrawTreeSure.mono _ _
   | exact spec_TreeSure.mono _ _ _
   | exact spec_VotesOk.mono _ _
   | exact LeO.none _
   | refine LeO.ite ?_ ?_
   | refine LeO.bind ?_ (fun _ => ?_)
  ·intro y0 y1 y2 y3 y4
   unfold laws_FnSureCount.l0
   repeat' first
   | (with_reducible exact ih0 _ _ _ _)
   | (with_reducible exact ih1 _ _ _ _ _)
   | (with_reducible exact impl_TreeSure.mono _ _ _)
   | (with_reducible exact impl_VotesFor.mono _ _ _)
   | (with_reducible exact spec_ChainOk.mono _ _)
   | (with_reducible exact spec_DrawTreeSure.mono _ _)
   | (with_reducible exact spec_TreeSure.mono _ _ _)
   | (with_reducible exact spec_VotesOk.mono _ _)
   | (with_reducible exact LeO.refl _)
   | (with_reducible exact LeO.none _)
   | (with_reducible refine LeO.ite ?_ ?_)
   | (with_reducible refine LeO.bind ?_ (fun _ => ?_))
   | exact ih0 _ _ _ _
   | exact ih1 _ _ _ _ _
   | exact impl_TreeSure.mono _ _ _
   | exact impl_VotesFor.mono _ _ _
   | exact spec_ChainOk.mono _ _
   | exact spec_DrawTreeSure.mono _ _
   | exact spec_TreeSure.mono _ _ _
   | exact spec_VotesOk.mono _ _
   | exact LeO.none _
   | refine LeO.ite ?_ ?_
   | refine LeO.bind ?_ (fun _ => ?_)
theorem laws_FnSureCount.mono : ∀ a0 k,LeO (laws_FnSureCount.f k a0) (laws_FnSureCount.f (k + 1) a0):=by
 intro a0 k
 obtain ⟨ih0,ih1⟩:=laws_FnSureCount.mono_l k
 unfold laws_FnSureCount.f
 repeat' first
   | (with_reducible exact ih0 _ _ _ _)
   | (with_reducible exact ih1 _ _ _ _ _)
   | (with_reducible exact impl_TreeSure.mono _ _ _)
   | (with_reducible exact impl_VotesFor.mono _ _ _)
   | (with_reducible exact spec_ChainOk.mono _ _)
   | (with_reducible exact spec_DrawTreeSure.mono _ _)
   | (with_reducible exact spec_TreeSure.mono _ _ _)
   | (with_reducible exact spec_VotesOk.mono _ _)
   | (with_reducible exact LeO.refl _)
   | (with_reducible exact LeO.none _)
   | (with_reducible refine LeO.ite ?_ ?_)
   | (with_reducible refine LeO.bind ?_ (fun _ => ?_))
   | exact ih0 _ _ _ _
   | exact ih1 _ _ _ _ _
   | exact impl_TreeSure.mono _ _ _
   | exact impl_VotesFor.mono _ _ _
   | exact spec_ChainOk.mono _ _
   | exact spec_DrawTreeSure.mono _ _
   | exact spec_TreeSure.mono _ _ _
   | exact spec_VotesOk.mono _ _
   | exact LeO.none _
   | refine LeO.ite ?_ ?_
   | refine LeO.bind ?_ (fun _ => ?_)
set_option maxHeartbeats 8000000 in
set_option maxRecDepth 100000 in
theorem laws_FnSureCount.calls (k : Nat) (A0 : Option Addr) (c0 : Nat) (l0 : List Int) (r : Bool) (w : World) (hr0 : Kd.C (Kd.int .u8) w A0 l0.length l0) (hc0 : l0.length ≤ c0) (h : laws_FnSureCount.f k l0 = some r) :
  Calls Try.prog 5 #[.slice A0 l0.length c0] w fun e w' => e = .returned (.bool r) ∧ Below w.heap.size w w':=by
 have HR0:=aM hr0
 have HC0:=aM hc0
 clear hr0 hc0
 have HB:=aM (Below.refl w.heap.size w)
 have H : (if (l0.length : Int) > 1048576 then (some true) else ((spec_DrawTreeSure.f k l0).bind fun bt447 => ((impl_TreeSure.f k bt447.1 bt447.2).bind fun t453 => ((spec_TreeSure.f k bt447.1 bt447.2).bind fun t454 => (if (t453 != t454) = true then (laws_FnSureCount.j0 k bt447.1 bt447.2 t453 true) else ((spec_VotesOk.f k bt447.1).bind fun t455 => (if t455 = true then ((spec_ChainOk.f k bt447.2).bind fun t456 => (laws_FnSureCount.j0 k bt447.1 bt447.2 t453 (!t456))) else (laws_FnSureCount.j0 k bt447.1 bt447.2 t453 true)))))))) = some r:=h
 clear h
 by_cases c2 : (l0.length : Int) > 1048576
 ·rw [if_pos c2] at H
  have c2b0 : decide (1048576 < (l0.length : Int)) = true:=decide_eq_true c2
  have c2b1 : decide (1048576 < l0.length) = true:=decide_eq_true (by omega)
  clear c2
  obtain rfl:=Option.some.inj H
  go_enter Try.func5,Try.ntmps5
  go_wp2
  go_ret
  exact ⟨by first|rfl|(simp only [i64_w,i32_w];done)|(simp only [i64_w,i32_w];rfl)|(simp [errW_none,errW_some] <;> rfl)|(simp [*,errW_none,errW_some] <;> rfl),by repeat (first|(with_reducible first|exact HB.out|apply bA|apply bN|apply bD)|exact HB.out)⟩
 ·rw [if_neg c2] at H
  have c2b0 : decide (1048576 < (l0.length : Int)) = false:=decide_eq_false c2
  have c2b1 : decide (1048576 < l0.length) = false:=decide_eq_false (by omega)
  clear c2
  replace H:=Option.bind_eq_some_iff.mp H
  obtain ⟨⟨t447,t450⟩,A30,H⟩:=H
  replace H : ((impl_TreeSure.f k t447 t450).bind fun t453 => ((spec_TreeSure.f k t447 t450).bind fun t454 => (if (t453 != t454) = true then (laws_FnSureCount.j0 k t447 t450 t453 true) else ((spec_VotesOk.f k t447).bind fun t455 => (if t455 = true then ((spec_ChainOk.f k t450).bind fun t456 => (laws_FnSureCount.j0 k t447 t450 t453 (!t456))) else (laws_FnSureCount.j0 k t447 t450 t453 true)))))) = some r:=H
  have A3:=aM A30
  clear A30
  replace H:=Option.bind_eq_some_iff.mp H
  obtain ⟨t453,A40,H⟩:=H
  replace H : ((spec_TreeSure.f k t447 t450).bind fun t454 => (if (t453 != t454) = true then (laws_FnSureCount.j0 k t447 t450 t453 true) else ((spec_VotesOk.f k t447).bind fun t455 => (if t455 = true then ((spec_ChainOk.f k t450).bind fun t456 => (laws_FnSureCount.j0 k t447 t450 t453 (!t456))) else (laws_FnSureCount.j0 k t447 t450 t453 true))))) = some r:=H
  have A4:=aM A40
  clear A40
  have HC5:=aM H
  clear H
  go_enter Try.func5,Try.ntmps5
  go_upto_region 5 with (first|((with_reducible refine gate_callee (f:=25) rfl ?_);refine goesL_ (some 13) rfl rfl Try.func25 (by kernel_rfl) rfl #[.slice A0 l0.length c0] rfl (by (try simp only [List.map_toArray,List.map_cons,List.map_nil]);first|done|rfl|(simp only [List.length_drop,List.length_take];rfl)) ?_;(with_reducible refine (spec_DrawTreeSure.calls k _ _ l0 t447 t450 _ ?side1 ?side2 A3.out).mono ?_);(case side1 => repeat (first|exact HR0.out|(with_reducible refine Kd.C_alloc ?_ _)|(with_reducible refine Kd.C_drewN ?_ _)|(with_reducible refine Kd.C_drew ?_)));(case side2 => exact HC0.out);rintro e w6 ⟨v448,v451,rfl,ho0,ho1,hb⟩;refine ⟨_,rfl,?_⟩;have n0_:=aM (Kd.N_lower (Kd.N_mono (ok':=fun k_ => some k_ ≠ (v451 : Value).ownBlock) ho0 (fun k_ hk_ => hk_.2)) (below_size (by repeat (first|(with_reducible first|exact HB.out|apply bA|apply bN|apply bD)|exact HB.out))));have n1_:=aM (Kd.R_lower (Kd.R_mono (ok':=fun k_ => True) ho1 (fun _ hk_ => trivial)) (below_size (by repeat (first|(with_reducible first|exact HB.out|apply bA|apply bN|apply bD)|exact HB.out))));have n2_:=aM (below_step (by repeat (first|(with_reducible first|exact HB.out|apply bA|apply bN|apply bD)|exact HB.out)) hb);clear HB;have HO449:=n0_;have HO452:=n1_;have HB:=n2_;clear n0_ n1_ n2_;(try clear hb);(try clear hb2);(try clear hk);(try clear hi);(try clear ho0);(try clear ho1);obtain ⟨Ao7,co7,eo7⟩:=Kd.N_slice HO449.out;subst eo7;obtain ⟨Ao8,co8,eo8⟩:=Kd.R_slice HO452.out;subst eo8)|((with_reducible refine gate_callee (f:=15) rfl ?_);refine goesL_ (some 18) rfl rfl Try.func15 (by kernel_rfl) rfl #[.slice Ao7 t447.length co7,.slice Ao8 t450.length co8] rfl (by (try simp only [List.map_toArray,List.map_cons,List.map_nil]);first|done|rfl|(simp only [List.length_drop,List.length_take];rfl)) ?_;(with_reducible refine (impl_TreeSure.calls k _ _ t447 _ _ t450 t453 _ ?side1 ?side2 ?side3 ?side4 A4.out).mono ?_);(case side1 => repeat (first|exact (Kd.N_reads' HO449.out).2.2|(with_reducible refine Kd.C_alloc ?_ _)|(with_reducible refine Kd.C_drewN ?_ _)|(with_reducible refine Kd.C_drew ?_)));(case side2 => exact (Kd.N_reads' HO449.out).2.1);(case side3 => repeat (first|exact (Kd.R_reads' HO452.out).2.2|(with_reducible refine Kd.C_alloc ?_ _)|(with_reducible refine Kd.C_drewN ?_ _)|(with_reducible refine Kd.C_drew ?_)));(case side4 => exact (Kd.R_reads' HO452.out).2.1);rintro e w9 ⟨rfl,hb⟩;refine ⟨_,rfl,?_⟩;have n0_:=aM (Kd.N_below (by (with_reducible repeat (first|apply Kd.N_alloc|apply Kd.N_drewN|apply Kd.N_drew));exact HO449.out) hb);have n1_:=aM (Kd.R_below (by (with_reducible repeat (first|apply Kd.R_alloc|apply Kd.R_drewN|apply Kd.R_drew));exact HO452.out) hb);have n2_:=aM (below_step (by repeat (first|(with_reducible first|exact HB.out|apply bA|apply bN|apply bD)|exact HB.out)) hb);clear HO449;clear HO452;clear HB;have HO449:=n0_;have HO452:=n1_;have HB:=n2_;clear n0_ n1_ n2_;(try clear hb);(try clear hb2);(try clear hk);(try clear hi)))
  (try simp only [Act.put,sI,sZ,sS])
  go_cut [33] (fun v33 wc => ∃ (kq : Nat) (x33_4 : Bool),v33 = .bool x33_4 ∧ Aside0 (laws_FnSureCount.j0 kq t447 t450 t453 x33_4 = some r) ∧ Aside0 (kq ≤ k) ∧ Aside0 (Kd.N k48 48 wc w.heap.size (fun k_ => some k_ ≠ ((.slice Ao8 t450.length co8) : Value).ownBlock) (.slice Ao7 t447.length co7) t447) ∧ Aside0 (Kd.R k58 58 wc w.heap.size (fun _ => True) (.slice Ao8 t450.length co8) t450) ∧ Aside0 (Below w.heap.size w wc))
  case first =>
   have H:=HC5.out
   clear HC5
   replace H:=Option.bind_eq_some_iff.mp H
   obtain ⟨t454,A100,H⟩:=H
   replace H : (if (t453 != t454) = true then (laws_FnSureCount.j0 k t447 t450 t453 true) else ((spec_VotesOk.f k t447).bind fun t455 => (if t455 = true then ((spec_ChainOk.f k t450).bind fun t456 => (laws_FnSureCount.j0 k t447 t450 t453 (!t456))) else (laws_FnSureCount.j0 k t447 t450 t453 true)))) = some r:=H
   have A10:=aM A100
   clear A100
   by_cases c11 : (t453 != t454) = true
   ·rw [if_pos c11] at H
    have c11b0 : (t453 != t454) = true:=c11
    (try (have c11b1 : decide (t453 = t454) = false:=by simpa using c11))
    (try (have c11b2 : (t453 == t454) = false:=by simpa using c11))
    (try (have c11b3 : ¬ (t453 = t454):=by simpa using c11))
    clear c11
    (first|rw [c11b0]|rw [c11b1]|(simp only [i64_w,i32_w];rw [c11b0])|skip)
    have H':=aM H
    clear H
    go_wp2_with (first|((with_reducible refine gate_callee (f:=12) rfl ?_);refine goesL_ (some 22) rfl rfl Try.func12 (by kernel_rfl) rfl #[.slice Ao7 t447.length co7,.slice Ao8 t450.length co8] rfl (by (try simp only [List.map_toArray,List.map_cons,List.map_nil]);first|done|rfl|(simp only [List.length_drop,List.length_take];rfl)) ?_;(with_reducible refine (spec_TreeSure.calls k _ _ t447 _ _ t450 t454 _ ?side1 ?side2 ?side3 ?side4 A10.out).mono ?_);(case side1 => repeat (first|exact (Kd.N_reads' HO449.out).2.2|(with_reducible refine Kd.C_alloc ?_ _)|(with_reducible refine Kd.C_drewN ?_ _)|(with_reducible refine Kd.C_drew ?_)));(case side2 => exact (Kd.N_reads' HO449.out).2.1);(case side3 => repeat (first|exact (Kd.R_reads' HO452.out).2.2|(with_reducible refine Kd.C_alloc ?_ _)|(with_reducible refine Kd.C_drewN ?_ _)|(with_reducible refine Kd.C_drew ?_)));(case side4 => exact (Kd.R_reads' HO452.out).2.1);rintro e w12 ⟨rfl,hb⟩;refine ⟨_,rfl,?_⟩;have n0_:=aM (Kd.N_below (by (with_reducible repeat (first|apply Kd.N_alloc|apply Kd.N_drewN|apply Kd.N_drew));exact HO449.out) hb);have n1_:=aM (Kd.R_below (by (with_reducible repeat (first|apply Kd.R_alloc|apply Kd.R_drewN|apply Kd.R_drew));exact HO452.out) hb);have n2_:=aM (below_step (by repeat (first|(with_reducible first|exact HB.out|apply bA|apply bN|apply bD)|exact HB.out)) hb);clear HO449;clear HO452;clear HB;have HO449:=n0_;have HO452:=n1_;have HB:=n2_;clear n0_ n1_ n2_;(try clear hb);(try clear hb2);(try clear hk);(try clear hi)))
    go_meet
    case rel => exact ⟨_,(true),(by first|rfl|(simp;done)|(simp [*];done)),H',⟨by first|omega|exact Nat.le_refl _⟩,⟨by (with_reducible repeat (first|apply Kd.N_alloc|apply Kd.N_drewN|apply Kd.N_drew));exact HO449.out⟩,⟨by (with_reducible repeat (first|apply Kd.R_alloc|apply Kd.R_drewN|apply Kd.R_drew));exact HO452.out⟩,⟨by repeat (first|(with_reducible first|exact HB.out|apply bA|apply bN|apply bD)|exact HB.out)⟩⟩
   ·rw [if_neg c11] at H
    have c11b0 : (t453 != t454) = false:=by simpa using c11
    (try (have c11b1 : decide (t453 = t454) = true:=by simpa using c11))
    (try (have c11b2 : (t453 == t454) = true:=by simpa using c11))
    clear c11
    (first|rw [c11b0]|rw [c11b1]|(simp only [i64_w,i32_w];rw [c11b0])|skip)
    replace H:=Option.bind_eq_some_iff.mp H
    obtain ⟨t455,A130,H⟩:=H
    replace H : (if t455 = true then ((spec_ChainOk.f k t450).bind fun t456 => (laws_FnSureCount.j0 k t447 t450 t453 (!t456))) else (laws_FnSureCount.j0 k t447 t450 t453 true)) = some r:=H
    have A13:=aM A130
    clear A130
    by_cases c14 : t455 = true
    ·subst c14
     have H1 : ((spec_ChainOk.f k t450).bind fun t456 => (laws_FnSureCount.j0 k t447 t450 t453 (!t456))) = some r:=by rw [if_pos rfl] at H;exact H
     clear H
     have H:=H1
     clear H1
     replace H:=Option.bind_eq_some_iff.mp H
     obtain ⟨t456,A150,H⟩:=H
     replace H : (laws_FnSureCount.j0 k t447 t450 t453 (!t456)) = some r:=H
     have A15:=aM A150
     clear A150
     have H':=aM H
     clear H
     go_wp2_with (first|((with_reducible refine gate_callee (f:=12) rfl ?_);refine goesL_ (some 22) rfl rfl Try.func12 (by kernel_rfl) rfl #[.slice Ao7 t447.length co7,.slice Ao8 t450.length co8] rfl (by (try simp only [List.map_toArray,List.map_cons,List.map_nil]);first|done|rfl|(simp only [List.length_drop,List.length_take];rfl)) ?_;(with_reducible refine (spec_TreeSure.calls k _ _ t447 _ _ t450 t454 _ ?side1 ?side2 ?side3 ?side4 A10.out).mono ?_);(case side1 => repeat (first|exact (Kd.N_reads' HO449.out).2.2|(with_reducible refine Kd.C_alloc ?_ _)|(with_reducible refine Kd.C_drewN ?_ _)|(with_reducible refine Kd.C_drew ?_)));(case side2 => exact (Kd.N_reads' HO449.out).2.1);(case side3 => repeat (first|exact (Kd.R_reads' HO452.out).2.2|(with_reducible refine Kd.C_alloc ?_ _)|(with_reducible refine Kd.C_drewN ?_ _)|(with_reducible refine Kd.C_drew ?_)));(case side4 => exact (Kd.R_reads' HO452.out).2.1);rintro e w16 ⟨rfl,hb⟩;refine ⟨_,rfl,?_⟩;have n0_:=aM (Kd.N_below (by (with_reducible repeat (first|apply Kd.N_alloc|apply Kd.N_drewN|apply Kd.N_drew));exact HO449.out) hb);have n1_:=aM (Kd.R_below (by (with_reducible repeat (first|apply Kd.R_alloc|apply Kd.R_drewN|apply Kd.R_drew));exact HO452.out) hb);have n2_:=aM (below_step (by repeat (first|(with_reducible first|exact HB.out|apply bA|apply bN|apply bD)|exact HB.out)) hb);clear HO449;clear HO452;clear HB;have HO449:=n0_;have HO452:=n1_;have HB:=n2_;clear n0_ n1_ n2_;(try clear hb);(try clear hb2);(try clear hk);(try clear hi))|(go_at_call 26;(with_reducible refine (spec_VotesOk.calls k _ _ t447 true _ ?side1 ?side2 A13.out).mono ?_);(case side1 => repeat (first|exact (Kd.N_reads' HO449.out).2.2|(with_reducible refine Kd.C_alloc ?_ _)|(with_reducible refine Kd.C_drewN ?_ _)|(with_reducible refine Kd.C_drew ?_)));(case side2 => exact (Kd.N_reads' HO449.out).2.1);rintro e w17 ⟨rfl,hb⟩;have n0_:=aM (Kd.N_below (by (with_reducible repeat (first|apply Kd.N_alloc|apply Kd.N_drewN|apply Kd.N_drew));exact HO449.out) hb);have n1_:=aM (Kd.R_below (by (with_reducible repeat (first|apply Kd.R_alloc|apply Kd.R_drewN|apply Kd.R_drew));exact HO452.out) hb);have n2_:=aM (below_step (by repeat (first|(with_reducible first|exact HB.out|apply bA|apply bN|apply bD)|exact HB.out)) hb);clear HO449;clear HO452;clear HB;have HO449:=n0_;have HO452:=n1_;have HB:=n2_;clear n0_ n1_ n2_;(try clear hb);(try clear hb2);(try clear hk);(try clear hi))|(go_at_call 27;(with_reducible refine (spec_ChainOk.calls k _ _ t450 t456 _ ?side1 ?side2 A15.out).mono ?_);(case side1 => repeat (first|exact (Kd.R_reads' HO452.out).2.2|(with_reducible refine Kd.C_alloc ?_ _)|(with_reducible refine Kd.C_drewN ?_ _)|(with_reducible refine Kd.C_drew ?_)));(case side2 => exact (Kd.R_reads' HO452.out).2.1);rintro e w18 ⟨rfl,hb⟩;have n0_:=aM (Kd.N_below (by (with_reducible repeat (first|apply Kd.N_alloc|apply Kd.N_drewN|apply Kd.N_drew));exact HO449.out) hb);have n1_:=aM (Kd.R_below (by (with_reducible repeat (first|apply Kd.R_alloc|apply Kd.R_drewN|apply Kd.R_drew));exact HO452.out) hb);have n2_:=aM (below_step (by repeat (first|(with_reducible first|exact HB.out|apply bA|apply bN|apply bD)|exact HB.out)) hb);clear HO449;clear HO452;clear HB;have HO449:=n0_;have HO452:=n1_;have HB:=n2_;clear n0_ n1_ n2_;(try clear hb);(try clear hb2);(try clear hk);(try clear hi)))
     go_meet
     case rel => exact ⟨_,(!t456),(by first|rfl|(simp;done)|(simp [*];done)),H',⟨by first|omega|exact Nat.le_refl _⟩,⟨by (with_reducible repeat (first|apply Kd.N_alloc|apply Kd.N_drewN|apply Kd.N_drew));exact HO449.out⟩,⟨by (with_reducible repeat (first|apply Kd.R_alloc|apply Kd.R_drewN|apply Kd.R_drew));exact HO452.out⟩,⟨by repeat (first|(with_reducible first|exact HB.out|apply bA|apply bN|apply bD)|exact HB.out)⟩⟩
    ·replace c14:=Bool.eq_false_iff.mpr c14
     subst c14
     have H1 : (laws_FnSureCount.j0 k t447 t450 t453 true) = some r:=by rw [if_neg (show ¬ (false = true) by decide)] at H;exact H
     clear H
     have H:=H1
     clear H1
     have H':=aM H
     clear H
     go_wp2_with (first|((with_reducible refine gate_callee (f:=12) rfl ?_);refine goesL_ (some 22) rfl rfl Try.func12 (by kernel_rfl) rfl #[.slice Ao7 t447.length co7,.slice Ao8 t450.length co8] rfl (by (try simp only [List.map_toArray,List.map_cons,List.map_nil]);first|done|rfl|(simp only [List.length_drop,List.length_take];rfl)) ?_;(with_reducible refine (spec_TreeSure.calls k _ _ t447 _ _ t450 t454 _ ?side1 ?side2 ?side3 ?side4 A10.out).mono ?_);(case side1 => repeat (first|exact (Kd.N_reads' HO449.out).2.2|(with_reducible refine Kd.C_alloc ?_ _)|(with_reducible refine Kd.C_drewN ?_ _)|(with_reducible refine Kd.C_drew ?_)));(case side2 => exact (Kd.N_reads' HO449.out).2.1);(case side3 => repeat (first|exact (Kd.R_reads' HO452.out).2.2|(with_reducible refine Kd.C_alloc ?_ _)|(with_reducible refine Kd.C_drewN ?_ _)|(with_reducible refine Kd.C_drew ?_)));(case side4 => exact (Kd.R_reads' HO452.out).2.1);rintro e w19 ⟨rfl,hb⟩;refine ⟨_,rfl,?_⟩;have n0_:=aM (Kd.N_below (by (with_reducible repeat (first|apply Kd.N_alloc|apply Kd.N_drewN|apply Kd.N_drew));exact HO449.out) hb);have n1_:=aM (Kd.R_below (by (with_reducible repeat (first|apply Kd.R_alloc|apply Kd.R_drewN|apply Kd.R_drew));exact HO452.out) hb);have n2_:=aM (below_step (by repeat (first|(with_reducible first|exact HB.out|apply bA|apply bN|apply bD)|exact HB.out)) hb);clear HO449;clear HO452;clear HB;have HO449:=n0_;have HO452:=n1_;have HB:=n2_;clear n0_ n1_ n2_;(try clear hb);(try clear hb2);(try clear hk);(try clear hi))|(go_at_call 26;(with_reducible refine (spec_VotesOk.calls k _ _ t447 false _ ?side1 ?side2 A13.out).mono ?_);(case side1 => repeat (first|exact (Kd.N_reads' HO449.out).2.2|(with_reducible refine Kd.C_alloc ?_ _)|(with_reducible refine Kd.C_drewN ?_ _)|(with_reducible refine Kd.C_drew ?_)));(case side2 => exact (Kd.N_reads' HO449.out).2.1);rintro e w20 ⟨rfl,hb⟩;have n0_:=aM (Kd.N_below (by (with_reducible repeat (first|apply Kd.N_alloc|apply Kd.N_drewN|apply Kd.N_drew));exact HO449.out) hb);have n1_:=aM (Kd.R_below (by (with_reducible repeat (first|apply Kd.R_alloc|apply Kd.R_drewN|apply Kd.R_drew));exact HO452.out) hb);have n2_:=aM (below_step (by repeat (first|(with_reducible first|exact HB.out|apply bA|apply bN|apply bD)|exact HB.out)) hb);clear HO449;clear HO452;clear HB;have HO449:=n0_;have HO452:=n1_;have HB:=n2_;clear n0_ n1_ n2_;(try clear hb);(try clear hb2);(try clear hk);(try clear hi)))
     go_meet
     case rel => exact ⟨_,(true),(by first|rfl|(simp;done)|(simp [*];done)),H',⟨by first|omega|exact Nat.le_refl _⟩,⟨by (with_reducible repeat (first|apply Kd.N_alloc|apply Kd.N_drewN|apply Kd.N_drew));exact HO449.out⟩,⟨by (with_reducible repeat (first|apply Kd.R_alloc|apply Kd.R_drewN|apply Kd.R_drew));exact HO452.out⟩,⟨by repeat (first|(with_reducible first|exact HB.out|apply bA|apply bN|apply bD)|exact HB.out)⟩⟩
  case rest =>
   clear HC5
   try clear c1
   try clear c2
   try clear c2b0
   try clear c2b1
   try clear p2
   try clear c5
   try clear c11
   try clear c11b0
   try clear c11b1
   try clear c11b2
   try clear c12
   try clear c14
   try clear c15
   obtain ⟨kq,x33_4,rfl,HA,HJ4,HO_3,HO_4,HB⟩:=hcut
   cases kq with
   | zero => exact absurd HA.out (by simp [laws_FnSureCount.j0])
   | succ kj4 =>
    have H:=HA.out
    clear HA
    simp only [laws_FnSureCount.j0] at H
    by_cases c21 : x33_4 = true
    ·subst c21
     have H1 : ((spec_TreeSure.f kj4 t447 t450).bind fun t457 => (some (t453 == t457))) = some r:=by rw [if_pos rfl] at H;exact H
     clear H
     have H:=H1
     clear H1
     replace H:=Option.bind_eq_some_iff.mp H
     obtain ⟨t457,A220,H⟩:=H
     replace H : (some (t453 == t457)) = some r:=H
     have A22:=aM A220
     clear A220
     obtain rfl:=Option.some.inj H
     go_wp2_with (first|((with_reducible refine gate_callee (f:=12) rfl ?_);refine goesL_ (some 37) rfl rfl Try.func12 (by kernel_rfl) rfl #[.slice Ao7 t447.length co7,.slice Ao8 t450.length co8] rfl (by (try simp only [List.map_toArray,List.map_cons,List.map_nil]);first|done|rfl|(simp only [List.length_drop,List.length_take];rfl)) ?_;(with_reducible refine (spec_TreeSure.calls kj4 _ _ t447 _ _ t450 t457 _ ?side1 ?side2 ?side3 ?side4 A22.out).mono ?_);(case side1 => repeat (first|exact (Kd.N_reads' HO_3.out).2.2|(with_reducible refine Kd.C_alloc ?_ _)|(with_reducible refine Kd.C_drewN ?_ _)|(with_reducible refine Kd.C_drew ?_)));(case side2 => exact (Kd.N_reads' HO_3.out).2.1);(case side3 => repeat (first|exact (Kd.R_reads' HO_4.out).2.2|(with_reducible refine Kd.C_alloc ?_ _)|(with_reducible refine Kd.C_drewN ?_ _)|(with_reducible refine Kd.C_drew ?_)));(case side4 => exact (Kd.R_reads' HO_4.out).2.1);rintro e w23 ⟨rfl,hb⟩;refine ⟨_,rfl,?_⟩;have n0_:=aM (Kd.N_below (by (with_reducible repeat (first|apply Kd.N_alloc|apply Kd.N_drewN|apply Kd.N_drew));exact HO_3.out) hb);have n1_:=aM (Kd.R_below (by (with_reducible repeat (first|apply Kd.R_alloc|apply Kd.R_drewN|apply Kd.R_drew));exact HO_4.out) hb);have n2_:=aM (below_step (by repeat (first|(with_reducible first|exact HB.out|apply bA|apply bN|apply bD)|exact HB.out)) hb);clear HO_3;clear HO_4;clear HB;have HO_3:=n0_;have HO_4:=n1_;have HB:=n2_;clear n0_ n1_ n2_;(try clear hb);(try clear hb2);(try clear hk);(try clear hi)))
     go_ret
     exact ⟨by first|rfl|(simp only [i64_w,i32_w];done)|(simp only [i64_w,i32_w];rfl)|(simp [errW_none,errW_some] <;> rfl)|(simp [*,errW_none,errW_some] <;> rfl),by repeat (first|(with_reducible first|exact HB.out|apply bA|apply bN|apply bD)|exact HB.out)⟩
    ·replace c21:=Bool.eq_false_iff.mpr c21
     subst c21
     have H1 : (laws_FnSureCount.l0 kj4 t447 t450 t453 true 1) = some r:=by rw [if_neg (show ¬ (false = true) by decide)] at H;exact H
     clear H
     have H:=H1
     clear H1
     have H':=aM H
     clear H
     go_wp2
     go_loopg [6,7] kj4 (fun kq v6 v7 w' => ∃ (x6_2 : Bool) (x7_2 : Int),v6 = .bool x6_2 ∧ v7 = .int .i64 x7_2 ∧ Aside0 (laws_FnSureCount.l0 kq t447 t450 t453 x6_2 x7_2 = some r) ∧ Aside0 (kq ≤ kj4) ∧ Aside0 (Kd.N k48 48 w' w.heap.size (fun k_ => some k_ ≠ ((.slice Ao8 t450.length co8) : Value).ownBlock) (.slice Ao7 t447.length co7) t447) ∧ Aside0 (Kd.R k58 58 w' w.heap.size (fun _ => True) (.slice Ao8 t450.length co8) t450) ∧ Aside0 (Below w.heap.size w w'))
     case atStart => exact ⟨(true),(1),(by first|rfl|(simp;done)|(simp [*];done)),(by first|rfl|(simp;done)|(simp [*];done)),H',⟨Nat.le_refl _⟩,⟨by (with_reducible repeat (first|apply Kd.N_alloc|apply Kd.N_drewN|apply Kd.N_drew));exact HO_3.out⟩,⟨by (with_reducible repeat (first|apply Kd.R_alloc|apply Kd.R_drewN|apply Kd.R_drew));exact HO_4.out⟩,⟨by repeat (first|(with_reducible first|exact HB.out|apply bA|apply bN|apply bD)|exact HB.out)⟩⟩
     case round =>
      clear H'
      try clear c1
      try clear c2
      try clear c2b0
      try clear c2b1
      try clear p2
      try clear c5
      try clear c11
      try clear c11b0
      try clear c11b1
      try clear c11b2
      try clear c12
      try clear c14
      try clear c15
      try clear c21
      try clear p2
      obtain ⟨x6_2,x7_2,rfl,rfl,HA,HK2,HO_3,HO_4,HB⟩:=hrel
      cases gk with
      | zero => exact absurd HA.out (by simp [laws_FnSureCount.l0])
      | succ k2 =>
       have H:=HA.out
       clear HA
       simp only [laws_FnSureCount.l0] at H
       by_cases c24 : x7_2 ≤ (t450.length : Int)
       ·rw [if_pos c24] at H
        have c24b0 : decide (x7_2 ≤ (t450.length : Int)) = true:=decide_eq_true c24
        clear c24
        by_cases c25 : x6_2 = true
        ·subst c25
         have H1 : (if 0 ≤ x7_2 then ((impl_VotesFor.f k2 t447 (t450.take (x7_2 : Int).toNat)).bind fun t463 => (laws_FnSureCount.l0 k2 t447 t450 t453 (decide ((t463.length : Int) ≥ 3)) (wrap64 (x7_2 + 1)))) else (none)) = some r:=by rw [if_pos rfl] at H;exact H
         clear H
         have H:=H1
         clear H1
         by_cases c26 : 0 ≤ x7_2
         case neg => rw [if_neg c26] at H;exact absurd H (by simp)
         rw [if_pos c26] at H
         have c26b0:=eq_true c26
         have c26b1 : decide (0 ≤ x7_2) = true:=decide_eq_true c26
         clear c26
         have c27b0:=eq_true (of_decide_eq_true (by first|(with_reducible assumption)|assumption) : x7_2 ≤ (t450.length : Int))
         obtain ⟨y458,hy458⟩ : ∃ y_ : List (S58),y_ = (t450.take (x7_2 : Int).toNat):=⟨_,rfl⟩
         replace H : ((impl_VotesFor.f k2 t447 y458).bind fun t463 => (laws_FnSureCount.l0 k2 t447 t450 t453 (decide ((t463.length : Int) ≥ 3)) (wrap64 (x7_2 + 1)))) = some r:=by first|(rw [hy458];with_reducible exact H)|(have H2_:=(Option.bind_some _ _).symm.trans H;rw [hy458];with_reducible exact H2_)|(have H2_:=(Option.bind_some _ _).symm.trans H;with_reducible exact H2_)|with_reducible exact H|(rw [hy458];exact H)|exact H
         have Ny458:=aM hy458
         clear hy458
         replace H:=Option.bind_eq_some_iff.mp H
         obtain ⟨t463,A280,H⟩:=H
         replace H : (laws_FnSureCount.l0 k2 t447 t450 t453 (decide ((t463.length : Int) ≥ 3)) (wrap64 (x7_2 + 1))) = some r:=H
         have A28:=aM A280
         clear A280
         have H':=aM H
         clear H
         have q29 : (x7_2 : Int) ≤ ((t450.length : Int) : Int):=of_decide_eq_true (by first|(with_reducible assumption)|assumption)
         obtain ⟨i029,hi029,_,hsz29,_⟩:=info_parts info58
         have hroom29 : t450.length ≤ co8:=(Kd.R_reads' HO_4.out).2.1
         have hC29 : Kd.F k58 _ _ Ao8 t450.length t450:=(Kd.V_at (base:=w.heap.size) (Kd.R_V (Kd.R_apart' (HO_4.out) (Kd.N_typed HO_3.out) (by decide)))).2.2
         have hcut29:=cut_to (P:=Try.prog) 29 58 .i64 Try.underlying29 hi029 Ao8 t450.length co8 x7_2 (of_decide_eq_true (by first|(with_reducible assumption)|assumption)) q29 hroom29
         have hr29:=Kd.F_take (m:=(x7_2 : Int).toNat) hC29 (by omega)
         have hy29 : y458.length = (x7_2 : Int).toNat:=(by rw [Ny458.out,List.length_take];omega)
         rw [← Ny458.out] at hr29
         rw [← hy29] at hcut29
         have HO462:=aM (show Kd.V k58 58 _ w.heap.size _ (.slice Ao8 y458.length co8) y458 from Kd.V_mk (by omega) hr29)
         have HC462:=aM (show y458.length ≤ co8 from by omega)
         clear hr29 hC29 hroom29 hi029 hsz29
         have KY29:=aM hy29
         clear hy29
         replace q29:=eq_true q29
         go_wp2_with (first|(go_at_call 19;(with_reducible refine (impl_VotesFor.calls k2 _ _ t447 _ _ y458 t463 _ ?side1 ?side2 ?side3 ?side4 A28.out).mono ?_);(case side1 => repeat (first|exact (Kd.N_reads' HO_3.out).2.2|(with_reducible refine Kd.C_alloc ?_ _)|(with_reducible refine Kd.C_drewN ?_ _)|(with_reducible refine Kd.C_drew ?_)));(case side2 => exact (Kd.N_reads' HO_3.out).2.1);(case side3 => repeat (first|exact (Kd.V_reads' HO462.out).2.2|(with_reducible refine Kd.C_alloc ?_ _)|(with_reducible refine Kd.C_drewN ?_ _)|(with_reducible refine Kd.C_drew ?_)));(case side4 => exact (Kd.V_reads' HO462.out).2.1);rintro e w30 ⟨v464,rfl,ho0,hb⟩;have n0_:=aM (Kd.N_below (by (with_reducible repeat (first|apply Kd.N_alloc|apply Kd.N_drewN|apply Kd.N_drew));exact HO_3.out) hb);have n1_:=aM (Kd.R_below (by (with_reducible repeat (first|apply Kd.R_alloc|apply Kd.R_drewN|apply Kd.R_drew));exact HO_4.out) hb);have n2_:=aM (Kd.V_below (by (with_reducible repeat (first|apply Kd.V_alloc|apply Kd.V_drewN|apply Kd.V_drew));exact HO462.out) hb);have n3_:=aM (Kd.V_lower (Kd.V_mono (ok':=fun k_ => some k_ ≠ (.slice Ao7 t447.length co7 : Value).ownBlock ∧ some k_ ≠ (.slice Ao8 t450.length co8 : Value).ownBlock) ho0 (fun k_ hk_ => ⟨(Kd.fresh' (Kd.N_lt (by (with_reducible repeat (first|apply Kd.N_alloc|apply Kd.N_drewN|apply Kd.N_drew));exact HO_3.out)) k_ hk_),(Kd.fresh' (Kd.R_lt (by (with_reducible repeat (first|apply Kd.R_alloc|apply Kd.R_drewN|apply Kd.R_drew));exact HO_4.out)) k_ hk_)⟩)) (below_size (by repeat (first|(with_reducible first|exact HB.out|apply bA|apply bN|apply bD)|exact HB.out))));have n4_:=aM (below_step (by repeat (first|(with_reducible first|exact HB.out|apply bA|apply bN|apply bD)|exact HB.out)) hb);clear HO_3;clear HO_4;clear HO462;clear HB;have HO_3:=n0_;have HO_4:=n1_;have HO462:=n2_;have HO465:=n3_;have HB:=n4_;clear n0_ n1_ n2_ n3_ n4_;(try clear hb);(try clear hb2);(try clear hk);(try clear hi);(try clear ho0);obtain ⟨Ao31,co31,eo31⟩:=Kd.V_slice HO465.out;subst eo31))
         go_roundg k2
         case measure => have:=HJ4.out;have:=HK2.out;omega
         case rel => exact ⟨(decide ((t463.length : Int) ≥ 3)),(wrap64 (x7_2 + 1)),(by first|rfl|(simp;done)|(simp [*];done)),(by first|rfl|(simp;done)|(simp [*];done)),H',⟨by have:=HJ4.out;have:=HK2.out;omega⟩,⟨by (with_reducible repeat (first|apply Kd.N_alloc|apply Kd.N_drewN|apply Kd.N_drew));exact HO_3.out⟩,⟨by (with_reducible repeat (first|apply Kd.R_alloc|apply Kd.R_drewN|apply Kd.R_drew));exact HO_4.out⟩,⟨by repeat (first|(with_reducible first|exact HB.out|apply bA|apply bN|apply bD)|exact HB.out)⟩⟩
        ·replace c25:=Bool.eq_false_iff.mpr c25
         subst c25
         have H1 : (laws_FnSureCount.l0 k2 t447 t450 t453 false (wrap64 (x7_2 + 1))) = some r:=by rw [if_neg (show ¬ (false = true) by decide)] at H;exact H
         clear H
         have H:=H1
         clear H1
         have H':=aM H
         clear H
         go_wp2
         go_roundg k2
         case measure => have:=HJ4.out;have:=HK2.out;omega
         case rel => exact ⟨(false),(wrap64 (x7_2 + 1)),(by first|rfl|(simp;done)|(simp [*];done)),(by first|rfl|(simp;done)|(simp [*];done)),H',⟨by have:=HJ4.out;have:=HK2.out;omega⟩,⟨by (with_reducible repeat (first|apply Kd.N_alloc|apply Kd.N_drewN|apply Kd.N_drew));exact HO_3.out⟩,⟨by (with_reducible repeat (first|apply Kd.R_alloc|apply Kd.R_drewN|apply Kd.R_drew));exact HO_4.out⟩,⟨by repeat (first|(with_reducible first|exact HB.out|apply bA|apply bN|apply bD)|exact HB.out)⟩⟩
       ·rw [if_neg c24] at H
        have c24b0 : decide (x7_2 ≤ (t450.length : Int)) = false:=decide_eq_false c24
        clear c24
        obtain rfl:=Option.some.inj H
        go_wp2
        go_ret
        exact ⟨by first|rfl|(simp only [i64_w,i32_w];done)|(simp only [i64_w,i32_w];rfl)|(simp [errW_none,errW_some] <;> rfl)|(simp [*,errW_none,errW_some] <;> rfl),by repeat (first|(with_reducible first|exact HB.out|apply bA|apply bN|apply bD)|exact HB.out)⟩

/-- What is left to prove of laws_FnSureCount. -/
def laws_FnSureCount.Pure : Prop:=∀ (l0 : List Int),l0.length ≤ 9223372036854775807 → (∀ x,x ∈ l0 → (Lit.int .u8 x).wf = true) → ∃ k,laws_FnSureCount.f k l0 = some true

end Go.Proofs.Ytknmmkgaijndfaa.P
