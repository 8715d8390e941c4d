/- The printed functions: what each Go function computes, as a Lean function, and that the Go code comes to just that. Conditions: none beyond each contract's own. -/
import Derived.Test.YtkkfokcbbhnjeaaPx0
import Derived.Test.YtkkfokcbbhnjeaaPx4
import Derived.Test.YtkkfokcbbhnjeaaPx6
import Derived.Test.YtkkfokcbbhnjeaaPx7
import Derived.Test.YtkkfokcbbhnjeaaPx8
namespace Go.Proofs.Ytkkfokcbbhnjeaa.P
open Go.RowKit Go.Proofs.YtkkfokcbbhnjeaaW.PrintWords Go.Proofs.YtkkfokcbbhnjeaaW.PrintLast Go.Proofs.YtkkfokcbbhnjeaaW.PrintMore
attribute [local go_sem] max2_int min2_int max_two min_two max_three min_three max_four min_four   -- for this text's walks alone
set_option linter.unusedVariables false
set_option linter.unusedSimpArgs false

/-! ### laws_FnChainIn: function 4 -/
mutual
def laws_FnChainIn.j0 : Nat → List Int → List Int → Bool → Option (Bool)
 | 0,_,_,_ => none
 | k + 1,x0,x1,x16 => if x16 = true then (some true) else ((spec_DrawChainIn.f k x0).bind fun bt271 => ((impl_ChainIn.f k bt271.1 bt271.2).bind fun t277 => ((spec_ChainIn.f k bt271.1 bt271.2).bind fun t278 => (if (t277 != t278) = true then (laws_FnChainIn.j1 k x1 bt271.1 bt271.2 t277 true) else ((spec_ChainOk.f k bt271.1).bind fun t279 => (if t279 = true then ((spec_ChainOk.f k bt271.2).bind fun t280 => (laws_FnChainIn.j1 k x1 bt271.1 bt271.2 t277 (!t280))) else (laws_FnChainIn.j1 k x1 bt271.1 bt271.2 t277 true)))))))
def laws_FnChainIn.j1 : Nat → List Int → List (S56) → List (S56) → Bool → Bool → Option (Bool)
 | 0,_,_,_,_,_ => none
 | k + 1,x1,x5,x6,x7,x39 => if x39 = true then ((spec_ChainIn.f k x5 x6).bind fun t281 => (some (x7 == t281))) else ((impl_ChainIn.f k x5 x5).bind fun t282 => (if t282 = true then ((impl_ChainIn.f k ([] : List (S56)) x5).bind fun t283 => (if t283 = true then (if x7 = true then ((impl_ChainIn.f k x6 x5).bind fun t284 => (if t284 = true then ((laws_lwSame.f k x5 x6).bind fun t285 => (laws_FnChainIn.j2 k x1 x5 x6 x7 (!t285))) else (laws_FnChainIn.j2 k x1 x5 x6 x7 false))) else (laws_FnChainIn.j2 k x1 x5 x6 x7 false)) else (laws_FnChainIn.j2 k x1 x5 x6 x7 true))) else (laws_FnChainIn.j2 k x1 x5 x6 x7 true)))
def laws_FnChainIn.j2 : Nat → List Int → List (S56) → List (S56) → Bool → Bool → Option (Bool)
 | 0,_,_,_,_,_ => none
 | k + 1,x1,x5,x6,x7,x67 => if x67 = true then (some false) else (if (wrap64 ((x6.length : Int) + 1)) = 0 then (none) else (if 0 ≤ ((x1.length : Int) % (wrap64 ((x6.length : Int) + 1))) then (if ((x1.length : Int) % (wrap64 ((x6.length : Int) + 1))) ≤ (x6.length : Int) then ((some (x6.take (((x1.length : Int) % (wrap64 ((x6.length : Int) + 1))) : Int).toNat : List (S56))).bind fun y286 => (if x7 = true then ((impl_ChainIn.f k x5 y286).bind fun t291 => (if t291 = true then (some true) else ((impl_ChainIn.f k y286 x5).bind fun t292 => (some t292)))) else (some true))) else (none)) else (none)))
end
def laws_FnChainIn.f (k : Nat) (l0 : List Int) (l1 : List Int) : Option (Bool):=if (l0.length : Int) > 1048576 then (laws_FnChainIn.j0 k l0 l1 true) else (laws_FnChainIn.j0 k l0 l1 (decide ((l1.length : Int) > 1048576)))
theorem laws_FnChainIn.mono_l : ∀ k,(∀ y0 y1 y2,LeO (laws_FnChainIn.j0 k y0 y1 y2) (laws_FnChainIn.j0 (k + 1) y0 y1 y2)) ∧ (∀ y0 y1 y2 y3 y4,LeO (laws_FnChainIn.j1 k y0 y1 y2 y3 y4) (laws_FnChainIn.j1 (k + 1) y0 y1 y2 y3 y4)) ∧ (∀ y0 y1 y2 y3 y4,LeO (laws_FnChainIn.j2 k y0 y1 y2 y3 y4) (laws_FnChainIn.j2 (k + 1) y0 y1 y2 y3 y4))
 | 0 => ⟨fun _ _ _ r h => by simp [laws_FnChainIn.j0] at h,fun _ _ _ _ _ r h => by simp [laws_FnChainIn.j1] at h,fun _ _ _ _ _ r h => by simp [laws_FnChainIn.j2] at h⟩
 | k + 1 => by
  obtain ⟨ih0,ih1,ih2⟩:=laws_FnChainIn.mono_l k
  refine ⟨?_,?_,?_⟩
  ·intro y0 y1 y2
   unfold laws_FnChainIn.j0
   repeat' first
   | (with_reducible exact ih0 _ _ _)
   | (with_reducible exact ih1 _ _ _ _ _)
   | (with_reducible exact ih2 _ _ _ _ _)
   | (with_reducible exact impl_ChainIn.mono _ _ _)
   | (with_reducible exact laws_lwSame.mono _ _ _)
   | (with_reducible exact spec_ChainIn.mono _ _ _)
   | (with_reducible exact spec_ChainOk.mono _ _)
   | (with_reducible exact spec_DrawChainIn.mono _ _)
   | (with_reducible exact LeO.refl _)
   | (with_reducible exact LeO.none _)
   | (with_reducible refine LeO.ite ?_ ?_)
   | (with_reducible refine LeO.bind ?_ (fun _ => ?_))
   | exact ih0 _ _ _
   | exact ih1 _ _ _ _ _
   | exact ih2 _ _ _ _ _
   | exact impl_ChainIn.mono _ _ _
   | exact laws_lwSame.mono _ _ _
   | exact spec_ChainIn.mono _ _ _
   | exact spec_ChainOk.mono _ _
   | exact spec_DrawChainIn.mono _ _
   | exact LeO.none _
   | refine LeO.ite ?_ ?_
   | refine LeO.bind ?_ (fun _ => ?_)
  ·intro y0 y1 y2 y3 y4
   unfold laws_FnChainIn.j1
   repeat' first
   | (with_reducible exact ih0 _ _ _)
   | (with_reducible exact ih1 _ _ _ _ _)
   | (with_reducible exact ih2 _ _ _ _ _)
   | (with_reducible exact impl_ChainIn.mono _ _ _)
   | (with_reducible exact laws_lwSame.mono _ _ _)
   | (with_reducible exact spec_ChainIn.mono _ _ _)
   | (with_reducible exact spec_ChainOk.mono _ _)
   | (with_reducible exact spec_DrawChainIn.mono _ _)
   | (with_reducible exact LeO.refl _)
   | (with_reducible exact LeO.none _)
   | (with_reducible refine LeO.ite ?_ ?_)
   | (with_reducible refine LeO.bind ?_ (fun _ => ?_))
   | exact ih0 _ _ _
   | exact ih1 _ _ _ _ _
   | exact ih2 _ _ _ _ _
   | exact impl_ChainIn.mono _ _ _
   | exact laws_lwSame.mono _ _ _
   | exact spec_ChainIn.mono _ _ _
   | exact spec_ChainOk.mono _ _
   | exact spec_DrawChainIn.mono _ _
   | exact LeO.none _
   | refine LeO.ite ?_ ?_
   | refine LeO.bind ?_ (fun _ => ?_)
  ·intro y0 y1 y2 y3 y4
   unfold laws_FnChainIn.j2
   repeat' first
   | (with_reducible exact ih0 _ _ _)
   | (with_reducible exact ih1 _ _ _ _ _)
   | (with_reducible exact ih2 _ _ _ _ _)
   | (with_reducible exact impl_ChainIn.mono _ _ _)
   | (with_reducible exact laws_lwSame.mono _ _ _)
   | (with_reducible exact spec_ChainIn.mono _ _ _)
   | (with_reducible exact spec_ChainOk.mono _ _)
   | (with_reducible exact spec_DrawChainIn.mono _ _)
   | (with_reducible exact LeO.refl _)
   | (with_reducible exact LeO.none _)
   | (with_reducible refine LeO.ite ?_ ?_)
   | (with_reducible refine LeO.bind ?_ (fun _ => ?_))
   | exact ih0 _ _ _
   | exact ih1 _ _ _ _ _
   | exact ih2 _ _ _ _ _
   | exact impl_ChainIn.mono _ _ _
   | exact laws_lwSame.mono _ _ _
   | exact spec_ChainIn.mono _ _ _
   | exact spec_ChainOk.mono _ _
   | exact spec_DrawChainIn.mono _ _
   | exact LeO.none _
   | refine LeO.ite ?_ ?_
   | refine LeO.bind ?_ (fun _ => ?_)
theorem laws_FnChainIn.mono : ∀ a0 a1 k,LeO (laws_FnChainIn.f k a0 a1) (laws_FnChainIn.f (k + 1) a0 a1):=by
 intro a0 a1 k
 obtain ⟨ih0,ih1,ih2⟩:=laws_FnChainIn.mono_l k
 unfold laws_FnChainIn.f
 repeat' first
   | (with_reducible exact ih0 _ _ _)
   | (with_reducible exact ih1 _ _ _ _ _)
   | (with_reducible exact ih2 _ _ _ _ _)
   | (with_reducible exact impl_ChainIn.mono _ _ _)
   | (with_reducible exact laws_lwSame.mono _ _ _)
   | (with_reducible exact spec_ChainIn.mono _ _ _)
   | (with_reducible exact spec_ChainOk.mono _ _)
   | (with_reducible exact spec_DrawChainIn.mono _ _)
   | (with_reducible exact LeO.refl _)
   | (with_reducible exact LeO.none _)
   | (with_reducible refine LeO.ite ?_ ?_)
   | (with_reducible refine LeO.bind ?_ (fun _ => ?_))
   | exact ih0 _ _ _
   | exact ih1 _ _ _ _ _
   | exact ih2 _ _ _ _ _
   | exact impl_ChainIn.mono _ _ _
   | exact laws_lwSame.mono _ _ _
   | exact spec_ChainIn.mono _ _ _
   | exact spec_ChainOk.mono _ _
   | exact spec_DrawChainIn.mono _ _
   | exact LeO.none _
   | refine LeO.ite ?_ ?_
   | refine LeO.bind ?_ (fun _ => ?_)
set_option maxHeartbeats 8000000 in
set_option maxRecDepth 100000 in
theorem laws_FnChainIn.calls (k : Nat) (A0 : Option Addr) (c0 : Nat) (l0 : List Int) (A1 : Option Addr) (c1 : Nat) (l1 : List Int) (r : Bool) (w : World) (hr0 : Kd.C (Kd.int .u8) w A0 l0.length l0) (hc0 : l0.length ≤ c0) (hr1 : Kd.C (Kd.int .u8) w A1 l1.length l1) (hc1 : l1.length ≤ c1) (h : laws_FnChainIn.f k l0 l1 = some r) :
  Calls Try.prog 4 #[.slice A0 l0.length c0,.slice A1 l1.length c1] w fun e w' => e = .returned (.bool r) ∧ Below w.heap.size w w':=by
 have HR0:=aM hr0
 have HC0:=aM hc0
 clear hr0 hc0
 have HR1:=aM hr1
 have HC1:=aM hc1
 clear hr1 hc1
 have HB:=aM (Below.refl w.heap.size w)
 have H : (if (l0.length : Int) > 1048576 then (laws_FnChainIn.j0 k l0 l1 true) else (laws_FnChainIn.j0 k l0 l1 (decide ((l1.length : Int) > 1048576)))) = some r:=h
 clear h
 have HC3:=aM H
 clear H
 go_enter Try.func4,Try.ntmps4
 go_upto_region 1 with (fail)
 go_cut [16] (fun v16 wc => ∃ (kq : Nat) (x16_2 : Bool),v16 = .bool x16_2 ∧ Aside0 (laws_FnChainIn.j0 kq l0 l1 x16_2 = some r) ∧ Aside0 (kq ≤ k) ∧ Aside0 (Below w.heap.size w wc))
 case first =>
  have H:=HC3.out
  clear HC3
  by_cases c4 : (l0.length : Int) > 1048576
  ·rw [if_pos c4] at H
   have c4b0 : decide (1048576 < (l0.length : Int)) = true:=decide_eq_true c4
   have c4b1 : decide (1048576 < l0.length) = true:=decide_eq_true (by omega)
   clear c4
   (first|rw [c4b0]|rw [c4b1]|(simp only [i64_w,i32_w];rw [c4b0])|skip)
   have H':=aM H
   clear H
   go_wp2
   go_meet
   case rel => exact ⟨_,(true),(by first|rfl|(simp;done)|(simp [*];done)),H',⟨by first|omega|exact Nat.le_refl _⟩,⟨by repeat (first|(with_reducible first|exact HB.out|apply bA|apply bN|apply bD)|exact HB.out)⟩⟩
  ·rw [if_neg c4] at H
   have c4b0 : decide (1048576 < (l0.length : Int)) = false:=decide_eq_false c4
   have c4b1 : decide (1048576 < l0.length) = false:=decide_eq_false (by omega)
   clear c4
   (first|rw [c4b0]|rw [c4b1]|(simp only [i64_w,i32_w];rw [c4b0])|skip)
   have H':=aM H
   clear H
   go_wp2
   go_meet
   case rel => exact ⟨_,(decide ((l1.length : Int) > 1048576)),(by first|rfl|(simp;done)|(simp [*];done)),H',⟨by first|omega|exact Nat.le_refl _⟩,⟨by repeat (first|(with_reducible first|exact HB.out|apply bA|apply bN|apply bD)|exact HB.out)⟩⟩
 case rest =>
  clear HC3
  try clear c1
  try clear p2
  try clear c4
  try clear c4b0
  try clear c4b1
  obtain ⟨kq,x16_2,rfl,HA,HJ2,HB⟩:=hcut
  cases kq with
  | zero => exact absurd HA.out (by simp [laws_FnChainIn.j0])
  | succ kj2 =>
   have H:=HA.out
   clear HA
   simp only [laws_FnChainIn.j0] at H
   by_cases c5 : x16_2 = true
   ·subst c5
    have H1 : (some true) = some r:=by rw [if_pos rfl] at H;exact H
    clear H
    have H:=H1
    clear H1
    obtain rfl:=Option.some.inj H
    go_wp2
    go_ret
    exact ⟨by first|rfl|(simp only [i64_w,i32_w];done)|(simp only [i64_w,i32_w];rfl)|(simp [errW_none,errW_some] <;> rfl)|(simp [*,errW_none,errW_some] <;> rfl),by repeat (first|(with_reducible first|exact HB.out|apply bA|apply bN|apply bD)|exact HB.out)⟩
   ·replace c5:=Bool.eq_false_iff.mpr c5
    subst c5
    have H1 : ((spec_DrawChainIn.f kj2 l0).bind fun bt271 => ((impl_ChainIn.f kj2 bt271.1 bt271.2).bind fun t277 => ((spec_ChainIn.f kj2 bt271.1 bt271.2).bind fun t278 => (if (t277 != t278) = true then (laws_FnChainIn.j1 kj2 l1 bt271.1 bt271.2 t277 true) else ((spec_ChainOk.f kj2 bt271.1).bind fun t279 => (if t279 = true then ((spec_ChainOk.f kj2 bt271.2).bind fun t280 => (laws_FnChainIn.j1 kj2 l1 bt271.1 bt271.2 t277 (!t280))) else (laws_FnChainIn.j1 kj2 l1 bt271.1 bt271.2 t277 true))))))) = some r:=by rw [if_neg (show ¬ (false = true) by decide)] at H;exact H
    clear H
    have H:=H1
    clear H1
    replace H:=Option.bind_eq_some_iff.mp H
    obtain ⟨⟨t271,t274⟩,A60,H⟩:=H
    replace H : ((impl_ChainIn.f kj2 t271 t274).bind fun t277 => ((spec_ChainIn.f kj2 t271 t274).bind fun t278 => (if (t277 != t278) = true then (laws_FnChainIn.j1 kj2 l1 t271 t274 t277 true) else ((spec_ChainOk.f kj2 t271).bind fun t279 => (if t279 = true then ((spec_ChainOk.f kj2 t274).bind fun t280 => (laws_FnChainIn.j1 kj2 l1 t271 t274 t277 (!t280))) else (laws_FnChainIn.j1 kj2 l1 t271 t274 t277 true)))))) = some r:=H
    have A6:=aM A60
    clear A60
    replace H:=Option.bind_eq_some_iff.mp H
    obtain ⟨t277,A70,H⟩:=H
    replace H : ((spec_ChainIn.f kj2 t271 t274).bind fun t278 => (if (t277 != t278) = true then (laws_FnChainIn.j1 kj2 l1 t271 t274 t277 true) else ((spec_ChainOk.f kj2 t271).bind fun t279 => (if t279 = true then ((spec_ChainOk.f kj2 t274).bind fun t280 => (laws_FnChainIn.j1 kj2 l1 t271 t274 t277 (!t280))) else (laws_FnChainIn.j1 kj2 l1 t271 t274 t277 true))))) = some r:=H
    have A7:=aM A70
    clear A70
    have HC8:=aM H
    clear H
    go_upto_region 5 with (first|((with_reducible refine gate_callee (f:=13) rfl ?_);refine goesL_ (some 19) rfl rfl Try.func13 (by kernel_rfl) rfl #[.slice A0 l0.length c0] rfl (by (try simp only [List.map_toArray,List.map_cons,List.map_nil]);first|done|rfl|(simp only [List.length_drop,List.length_take];rfl)) ?_;(with_reducible refine (spec_DrawChainIn.calls kj2 _ _ l0 t271 t274 _ ?side1 ?side2 A6.out).mono ?_);(case side1 => repeat (first|exact (Kd.C_below HR0.out HB.out)|(with_reducible refine Kd.C_alloc ?_ _)|(with_reducible refine Kd.C_drewN ?_ _)|(with_reducible refine Kd.C_drew ?_)));(case side2 => exact HC0.out);rintro e w9 ⟨v272,v275,rfl,ho0,ho1,hb⟩;refine ⟨_,rfl,?_⟩;have n0_:=aM (Kd.V_lower (Kd.V_mono (ok':=fun k_ => True) ho0 (fun k_ hk_ => trivial)) (below_size (by repeat (first|(with_reducible first|exact HB.out|apply bA|apply bN|apply bD)|exact HB.out))));have n1_:=aM (Kd.V_lower (Kd.V_mono (ok':=fun k_ => True) ho1 (fun k_ hk_ => trivial)) (below_size (by repeat (first|(with_reducible first|exact HB.out|apply bA|apply bN|apply bD)|exact HB.out))));have n2_:=aM (below_step (by repeat (first|(with_reducible first|exact HB.out|apply bA|apply bN|apply bD)|exact HB.out)) hb);clear HB;have HO273:=n0_;have HO276:=n1_;have HB:=n2_;clear n0_ n1_ n2_;(try clear hb);(try clear hb2);(try clear hk);(try clear hi);(try clear ho0);(try clear ho1);obtain ⟨Ao10,co10,eo10⟩:=Kd.V_slice HO273.out;subst eo10;obtain ⟨Ao11,co11,eo11⟩:=Kd.V_slice HO276.out;subst eo11)|((with_reducible refine gate_callee (f:=14) rfl ?_);refine goesL_ (some 24) rfl rfl Try.func14 (by kernel_rfl) rfl #[.slice Ao10 t271.length co10,.slice Ao11 t274.length co11] rfl (by (try simp only [List.map_toArray,List.map_cons,List.map_nil]);first|done|rfl|(simp only [List.length_drop,List.length_take];rfl)) ?_;(with_reducible refine (impl_ChainIn.calls kj2 _ _ t271 _ _ t274 t277 _ ?side1 ?side2 ?side3 ?side4 A7.out).mono ?_);(case side1 => repeat (first|exact (Kd.V_reads' HO273.out).2.2|(with_reducible refine Kd.C_alloc ?_ _)|(with_reducible refine Kd.C_drewN ?_ _)|(with_reducible refine Kd.C_drew ?_)));(case side2 => exact (Kd.V_reads' HO273.out).2.1);(case side3 => repeat (first|exact (Kd.V_reads' HO276.out).2.2|(with_reducible refine Kd.C_alloc ?_ _)|(with_reducible refine Kd.C_drewN ?_ _)|(with_reducible refine Kd.C_drew ?_)));(case side4 => exact (Kd.V_reads' HO276.out).2.1);rintro e w12 ⟨rfl,hb⟩;refine ⟨_,rfl,?_⟩;have n0_:=aM (Kd.V_below (by (with_reducible repeat (first|apply Kd.V_alloc|apply Kd.V_drewN|apply Kd.V_drew));exact HO273.out) hb);have n1_:=aM (Kd.V_below (by (with_reducible repeat (first|apply Kd.V_alloc|apply Kd.V_drewN|apply Kd.V_drew));exact HO276.out) hb);have n2_:=aM (below_step (by repeat (first|(with_reducible first|exact HB.out|apply bA|apply bN|apply bD)|exact HB.out)) hb);clear HO273;clear HO276;clear HB;have HO273:=n0_;have HO276:=n1_;have HB:=n2_;clear n0_ n1_ n2_;(try clear hb);(try clear hb2);(try clear hk);(try clear hi)))
    (try simp only [Act.put,sI,sZ,sS])
    go_cut [39] (fun v39 wc => ∃ (kq : Nat) (x39_7 : Bool),v39 = .bool x39_7 ∧ Aside0 (laws_FnChainIn.j1 kq l1 t271 t274 t277 x39_7 = some r) ∧ Aside0 (kq ≤ kj2) ∧ Aside0 (Kd.V k56 56 wc w.heap.size (fun _ => True) (.slice Ao10 t271.length co10) t271) ∧ Aside0 (Kd.V k56 56 wc w.heap.size (fun _ => True) (.slice Ao11 t274.length co11) t274) ∧ Aside0 (Below w.heap.size w wc))
    case first =>
     have H:=HC8.out
     clear HC8
     replace H:=Option.bind_eq_some_iff.mp H
     obtain ⟨t278,A130,H⟩:=H
     replace H : (if (t277 != t278) = true then (laws_FnChainIn.j1 kj2 l1 t271 t274 t277 true) else ((spec_ChainOk.f kj2 t271).bind fun t279 => (if t279 = true then ((spec_ChainOk.f kj2 t274).bind fun t280 => (laws_FnChainIn.j1 kj2 l1 t271 t274 t277 (!t280))) else (laws_FnChainIn.j1 kj2 l1 t271 t274 t277 true)))) = some r:=H
     have A13:=aM A130
     clear A130
     by_cases c14 : (t277 != t278) = true
     ·rw [if_pos c14] at H
      have c14b0 : (t277 != t278) = true:=c14
      (try (have c14b1 : decide (t277 = t278) = false:=by simpa using c14))
      (try (have c14b2 : (t277 == t278) = false:=by simpa using c14))
      (try (have c14b3 : ¬ (t277 = t278):=by simpa using c14))
      clear c14
      (first|rw [c14b0]|rw [c14b1]|(simp only [i64_w,i32_w];rw [c14b0])|skip)
      have H':=aM H
      clear H
      go_wp2_with (first|((with_reducible refine gate_callee (f:=15) rfl ?_);refine goesL_ (some 28) rfl rfl Try.func15 (by kernel_rfl) rfl #[.slice Ao10 t271.length co10,.slice Ao11 t274.length co11] rfl (by (try simp only [List.map_toArray,List.map_cons,List.map_nil]);first|done|rfl|(simp only [List.length_drop,List.length_take];rfl)) ?_;(with_reducible refine (spec_ChainIn.calls kj2 _ _ t271 _ _ t274 t278 _ ?side1 ?side2 ?side3 ?side4 A13.out).mono ?_);(case side1 => repeat (first|exact (Kd.V_reads' HO273.out).2.2|(with_reducible refine Kd.C_alloc ?_ _)|(with_reducible refine Kd.C_drewN ?_ _)|(with_reducible refine Kd.C_drew ?_)));(case side2 => exact (Kd.V_reads' HO273.out).2.1);(case side3 => repeat (first|exact (Kd.V_reads' HO276.out).2.2|(with_reducible refine Kd.C_alloc ?_ _)|(with_reducible refine Kd.C_drewN ?_ _)|(with_reducible refine Kd.C_drew ?_)));(case side4 => exact (Kd.V_reads' HO276.out).2.1);rintro e w15 ⟨rfl,hb⟩;refine ⟨_,rfl,?_⟩;have n0_:=aM (Kd.V_below (by (with_reducible repeat (first|apply Kd.V_alloc|apply Kd.V_drewN|apply Kd.V_drew));exact HO273.out) hb);have n1_:=aM (Kd.V_below (by (with_reducible repeat (first|apply Kd.V_alloc|apply Kd.V_drewN|apply Kd.V_drew));exact HO276.out) hb);have n2_:=aM (below_step (by repeat (first|(with_reducible first|exact HB.out|apply bA|apply bN|apply bD)|exact HB.out)) hb);clear HO273;clear HO276;clear HB;have HO273:=n0_;have HO276:=n1_;have HB:=n2_;clear n0_ n1_ n2_;(try clear hb);(try clear hb2);(try clear hk);(try clear hi)))
      go_meet
      case rel => exact ⟨_,(true),(by first|rfl|(simp;done)|(simp [*];done)),H',⟨by have:=HJ2.out;first|omega|exact Nat.le_refl _⟩,⟨by (with_reducible repeat (first|apply Kd.V_alloc|apply Kd.V_drewN|apply Kd.V_drew));exact HO273.out⟩,⟨by (with_reducible repeat (first|apply Kd.V_alloc|apply Kd.V_drewN|apply Kd.V_drew));exact HO276.out⟩,⟨by repeat (first|(with_reducible first|exact HB.out|apply bA|apply bN|apply bD)|exact HB.out)⟩⟩
     ·rw [if_neg c14] at H
      have c14b0 : (t277 != t278) = false:=by simpa using c14
      (try (have c14b1 : decide (t277 = t278) = true:=by simpa using c14))
      (try (have c14b2 : (t277 == t278) = true:=by simpa using c14))
      clear c14
      (first|rw [c14b0]|rw [c14b1]|(simp only [i64_w,i32_w];rw [c14b0])|skip)
      replace H:=Option.bind_eq_some_iff.mp H
      obtain ⟨t279,A160,H⟩:=H
      replace H : (if t279 = true then ((spec_ChainOk.f kj2 t274).bind fun t280 => (laws_FnChainIn.j1 kj2 l1 t271 t274 t277 (!t280))) else (laws_FnChainIn.j1 kj2 l1 t271 t274 t277 true)) = some r:=H
      have A16:=aM A160
      clear A160
      by_cases c17 : t279 = true
      ·subst c17
       have H1 : ((spec_ChainOk.f kj2 t274).bind fun t280 => (laws_FnChainIn.j1 kj2 l1 t271 t274 t277 (!t280))) = some r:=by rw [if_pos rfl] at H;exact H
       clear H
       have H:=H1
       clear H1
       replace H:=Option.bind_eq_some_iff.mp H
       obtain ⟨t280,A180,H⟩:=H
       replace H : (laws_FnChainIn.j1 kj2 l1 t271 t274 t277 (!t280)) = some r:=H
       have A18:=aM A180
       clear A180
       have H':=aM H
       clear H
       go_wp2_with (first|((with_reducible refine gate_callee (f:=15) rfl ?_);refine goesL_ (some 28) rfl rfl Try.func15 (by kernel_rfl) rfl #[.slice Ao10 t271.length co10,.slice Ao11 t274.length co11] rfl (by (try simp only [List.map_toArray,List.map_cons,List.map_nil]);first|done|rfl|(simp only [List.length_drop,List.length_take];rfl)) ?_;(with_reducible refine (spec_ChainIn.calls kj2 _ _ t271 _ _ t274 t278 _ ?side1 ?side2 ?side3 ?side4 A13.out).mono ?_);(case side1 => repeat (first|exact (Kd.V_reads' HO273.out).2.2|(with_reducible refine Kd.C_alloc ?_ _)|(with_reducible refine Kd.C_drewN ?_ _)|(with_reducible refine Kd.C_drew ?_)));(case side2 => exact (Kd.V_reads' HO273.out).2.1);(case side3 => repeat (first|exact (Kd.V_reads' HO276.out).2.2|(with_reducible refine Kd.C_alloc ?_ _)|(with_reducible refine Kd.C_drewN ?_ _)|(with_reducible refine Kd.C_drew ?_)));(case side4 => exact (Kd.V_reads' HO276.out).2.1);rintro e w19 ⟨rfl,hb⟩;refine ⟨_,rfl,?_⟩;have n0_:=aM (Kd.V_below (by (with_reducible repeat (first|apply Kd.V_alloc|apply Kd.V_drewN|apply Kd.V_drew));exact HO273.out) hb);have n1_:=aM (Kd.V_below (by (with_reducible repeat (first|apply Kd.V_alloc|apply Kd.V_drewN|apply Kd.V_drew));exact HO276.out) hb);have n2_:=aM (below_step (by repeat (first|(with_reducible first|exact HB.out|apply bA|apply bN|apply bD)|exact HB.out)) hb);clear HO273;clear HO276;clear HB;have HO273:=n0_;have HO276:=n1_;have HB:=n2_;clear n0_ n1_ n2_;(try clear hb);(try clear hb2);(try clear hk);(try clear hi))|(go_at_call 16;(with_reducible refine (spec_ChainOk.calls kj2 _ _ t271 true _ ?side1 ?side2 A16.out).mono ?_);(case side1 => repeat (first|exact (Kd.V_reads' HO273.out).2.2|(with_reducible refine Kd.C_alloc ?_ _)|(with_reducible refine Kd.C_drewN ?_ _)|(with_reducible refine Kd.C_drew ?_)));(case side2 => exact (Kd.V_reads' HO273.out).2.1);rintro e w20 ⟨rfl,hb⟩;have n0_:=aM (Kd.V_below (by (with_reducible repeat (first|apply Kd.V_alloc|apply Kd.V_drewN|apply Kd.V_drew));exact HO273.out) hb);have n1_:=aM (Kd.V_below (by (with_reducible repeat (first|apply Kd.V_alloc|apply Kd.V_drewN|apply Kd.V_drew));exact HO276.out) hb);have n2_:=aM (below_step (by repeat (first|(with_reducible first|exact HB.out|apply bA|apply bN|apply bD)|exact HB.out)) hb);clear HO273;clear HO276;clear HB;have HO273:=n0_;have HO276:=n1_;have HB:=n2_;clear n0_ n1_ n2_;(try clear hb);(try clear hb2);(try clear hk);(try clear hi))|(go_at_call 16;(with_reducible refine (spec_ChainOk.calls kj2 _ _ t274 t280 _ ?side1 ?side2 A18.out).mono ?_);(case side1 => repeat (first|exact (Kd.V_reads' HO276.out).2.2|(with_reducible refine Kd.C_alloc ?_ _)|(with_reducible refine Kd.C_drewN ?_ _)|(with_reducible refine Kd.C_drew ?_)));(case side2 => exact (Kd.V_reads' HO276.out).2.1);rintro e w21 ⟨rfl,hb⟩;have n0_:=aM (Kd.V_below (by (with_reducible repeat (first|apply Kd.V_alloc|apply Kd.V_drewN|apply Kd.V_drew));exact HO273.out) hb);have n1_:=aM (Kd.V_below (by (with_reducible repeat (first|apply Kd.V_alloc|apply Kd.V_drewN|apply Kd.V_drew));exact HO276.out) hb);have n2_:=aM (below_step (by repeat (first|(with_reducible first|exact HB.out|apply bA|apply bN|apply bD)|exact HB.out)) hb);clear HO273;clear HO276;clear HB;have HO273:=n0_;have HO276:=n1_;have HB:=n2_;clear n0_ n1_ n2_;(try clear hb);(try clear hb2);(try clear hk);(try clear hi)))
       go_meet
       case rel => exact ⟨_,(!t280),(by first|rfl|(simp;done)|(simp [*];done)),H',⟨by have:=HJ2.out;first|omega|exact Nat.le_refl _⟩,⟨by (with_reducible repeat (first|apply Kd.V_alloc|apply Kd.V_drewN|apply Kd.V_drew));exact HO273.out⟩,⟨by (with_reducible repeat (first|apply Kd.V_alloc|apply Kd.V_drewN|apply Kd.V_drew));exact HO276.out⟩,⟨by repeat (first|(with_reducible first|exact HB.out|apply bA|apply bN|apply bD)|exact HB.out)⟩⟩
      ·replace c17:=Bool.eq_false_iff.mpr c17
       subst c17
       have H1 : (laws_FnChainIn.j1 kj2 l1 t271 t274 t277 true) = some r:=by rw [if_neg (show ¬ (false = true) by decide)] at H;exact H
       clear H
       have H:=H1
       clear H1
       have H':=aM H
       clear H
       go_wp2_with (first|((with_reducible refine gate_callee (f:=15) rfl ?_);refine goesL_ (some 28) rfl rfl Try.func15 (by kernel_rfl) rfl #[.slice Ao10 t271.length co10,.slice Ao11 t274.length co11] rfl (by (try simp only [List.map_toArray,List.map_cons,List.map_nil]);first|done|rfl|(simp only [List.length_drop,List.length_take];rfl)) ?_;(with_reducible refine (spec_ChainIn.calls kj2 _ _ t271 _ _ t274 t278 _ ?side1 ?side2 ?side3 ?side4 A13.out).mono ?_);(case side1 => repeat (first|exact (Kd.V_reads' HO273.out).2.2|(with_reducible refine Kd.C_alloc ?_ _)|(with_reducible refine Kd.C_drewN ?_ _)|(with_reducible refine Kd.C_drew ?_)));(case side2 => exact (Kd.V_reads' HO273.out).2.1);(case side3 => repeat (first|exact (Kd.V_reads' HO276.out).2.2|(with_reducible refine Kd.C_alloc ?_ _)|(with_reducible refine Kd.C_drewN ?_ _)|(with_reducible refine Kd.C_drew ?_)));(case side4 => exact (Kd.V_reads' HO276.out).2.1);rintro e w22 ⟨rfl,hb⟩;refine ⟨_,rfl,?_⟩;have n0_:=aM (Kd.V_below (by (with_reducible repeat (first|apply Kd.V_alloc|apply Kd.V_drewN|apply Kd.V_drew));exact HO273.out) hb);have n1_:=aM (Kd.V_below (by (with_reducible repeat (first|apply Kd.V_alloc|apply Kd.V_drewN|apply Kd.V_drew));exact HO276.out) hb);have n2_:=aM (below_step (by repeat (first|(with_reducible first|exact HB.out|apply bA|apply bN|apply bD)|exact HB.out)) hb);clear HO273;clear HO276;clear HB;have HO273:=n0_;have HO276:=n1_;have HB:=n2_;clear n0_ n1_ n2_;(try clear hb);(try clear hb2);(try clear hk);(try clear hi))|(go_at_call 16;(with_reducible refine (spec_ChainOk.calls kj2 _ _ t271 false _ ?side1 ?side2 A16.out).mono ?_);(case side1 => repeat (first|exact (Kd.V_reads' HO273.out).2.2|(with_reducible refine Kd.C_alloc ?_ _)|(with_reducible refine Kd.C_drewN ?_ _)|(with_reducible refine Kd.C_drew ?_)));(case side2 => exact (Kd.V_reads' HO273.out).2.1);rintro e w23 ⟨rfl,hb⟩;have n0_:=aM (Kd.V_below (by (with_reducible repeat (first|apply Kd.V_alloc|apply Kd.V_drewN|apply Kd.V_drew));exact HO273.out) hb);have n1_:=aM (Kd.V_below (by (with_reducible repeat (first|apply Kd.V_alloc|apply Kd.V_drewN|apply Kd.V_drew));exact HO276.out) hb);have n2_:=aM (below_step (by repeat (first|(with_reducible first|exact HB.out|apply bA|apply bN|apply bD)|exact HB.out)) hb);clear HO273;clear HO276;clear HB;have HO273:=n0_;have HO276:=n1_;have HB:=n2_;clear n0_ n1_ n2_;(try clear hb);(try clear hb2);(try clear hk);(try clear hi)))
       go_meet
       case rel => exact ⟨_,(true),(by first|rfl|(simp;done)|(simp [*];done)),H',⟨by have:=HJ2.out;first|omega|exact Nat.le_refl _⟩,⟨by (with_reducible repeat (first|apply Kd.V_alloc|apply Kd.V_drewN|apply Kd.V_drew));exact HO273.out⟩,⟨by (with_reducible repeat (first|apply Kd.V_alloc|apply Kd.V_drewN|apply Kd.V_drew));exact HO276.out⟩,⟨by repeat (first|(with_reducible first|exact HB.out|apply bA|apply bN|apply bD)|exact HB.out)⟩⟩
    case rest =>
     clear HC8
     try clear c1
     try clear p2
     try clear c4
     try clear c4b0
     try clear c4b1
     try clear c5
     try clear c13
     try clear c14
     try clear c14b0
     try clear c14b1
     try clear c14b2
     try clear c15
     try clear c17
     try clear p2
     obtain ⟨kq,x39_7,rfl,HA,HJ7,HO_5,HO_6,HB⟩:=hcut
     cases kq with
     | zero => exact absurd HA.out (by simp [laws_FnChainIn.j1])
     | succ kj7 =>
      have H:=HA.out
      clear HA
      simp only [laws_FnChainIn.j1] at H
      by_cases c24 : x39_7 = true
      ·subst c24
       have H1 : ((spec_ChainIn.f kj7 t271 t274).bind fun t281 => (some (t277 == t281))) = some r:=by rw [if_pos rfl] at H;exact H
       clear H
       have H:=H1
       clear H1
       replace H:=Option.bind_eq_some_iff.mp H
       obtain ⟨t281,A250,H⟩:=H
       replace H : (some (t277 == t281)) = some r:=H
       have A25:=aM A250
       clear A250
       obtain rfl:=Option.some.inj H
       go_wp2_with (first|((with_reducible refine gate_callee (f:=15) rfl ?_);refine goesL_ (some 43) rfl rfl Try.func15 (by kernel_rfl) rfl #[.slice Ao10 t271.length co10,.slice Ao11 t274.length co11] rfl (by (try simp only [List.map_toArray,List.map_cons,List.map_nil]);first|done|rfl|(simp only [List.length_drop,List.length_take];rfl)) ?_;(with_reducible refine (spec_ChainIn.calls kj7 _ _ t271 _ _ t274 t281 _ ?side1 ?side2 ?side3 ?side4 A25.out).mono ?_);(case side1 => repeat (first|exact (Kd.V_reads' HO_5.out).2.2|(with_reducible refine Kd.C_alloc ?_ _)|(with_reducible refine Kd.C_drewN ?_ _)|(with_reducible refine Kd.C_drew ?_)));(case side2 => exact (Kd.V_reads' HO_5.out).2.1);(case side3 => repeat (first|exact (Kd.V_reads' HO_6.out).2.2|(with_reducible refine Kd.C_alloc ?_ _)|(with_reducible refine Kd.C_drewN ?_ _)|(with_reducible refine Kd.C_drew ?_)));(case side4 => exact (Kd.V_reads' HO_6.out).2.1);rintro e w26 ⟨rfl,hb⟩;refine ⟨_,rfl,?_⟩;have n0_:=aM (Kd.V_below (by (with_reducible repeat (first|apply Kd.V_alloc|apply Kd.V_drewN|apply Kd.V_drew));exact HO_5.out) hb);have n1_:=aM (Kd.V_below (by (with_reducible repeat (first|apply Kd.V_alloc|apply Kd.V_drewN|apply Kd.V_drew));exact HO_6.out) hb);have n2_:=aM (below_step (by repeat (first|(with_reducible first|exact HB.out|apply bA|apply bN|apply bD)|exact HB.out)) hb);clear HO_5;clear HO_6;clear HB;have HO_5:=n0_;have HO_6:=n1_;have HB:=n2_;clear n0_ n1_ n2_;(try clear hb);(try clear hb2);(try clear hk);(try clear hi)))
       go_ret
       exact ⟨by first|rfl|(simp only [i64_w,i32_w];done)|(simp only [i64_w,i32_w];rfl)|(simp [errW_none,errW_some] <;> rfl)|(simp [*,errW_none,errW_some] <;> rfl),by repeat (first|(with_reducible first|exact HB.out|apply bA|apply bN|apply bD)|exact HB.out)⟩
      ·replace c24:=Bool.eq_false_iff.mpr c24
       subst c24
       have H1 : ((impl_ChainIn.f kj7 t271 t271).bind fun t282 => (if t282 = true then ((impl_ChainIn.f kj7 ([] : List (S56)) t271).bind fun t283 => (if t283 = true then (if t277 = true then ((impl_ChainIn.f kj7 t274 t271).bind fun t284 => (if t284 = true then ((laws_lwSame.f kj7 t271 t274).bind fun t285 => (laws_FnChainIn.j2 kj7 l1 t271 t274 t277 (!t285))) else (laws_FnChainIn.j2 kj7 l1 t271 t274 t277 false))) else (laws_FnChainIn.j2 kj7 l1 t271 t274 t277 false)) else (laws_FnChainIn.j2 kj7 l1 t271 t274 t277 true))) else (laws_FnChainIn.j2 kj7 l1 t271 t274 t277 true))) = some r:=by rw [if_neg (show ¬ (false = true) by decide)] at H;exact H
       clear H
       have H:=H1
       clear H1
       have HC27:=aM H
       clear H
       go_upto_region 7 with (fail)
       go_cut [67] (fun v67 wc => ∃ (kq : Nat) (x67_26 : Bool),v67 = .bool x67_26 ∧ Aside0 (laws_FnChainIn.j2 kq l1 t271 t274 t277 x67_26 = some r) ∧ Aside0 (kq ≤ kj7) ∧ Aside0 (Kd.V k56 56 wc w.heap.size (fun _ => True) (.slice Ao10 t271.length co10) t271) ∧ Aside0 (Kd.V k56 56 wc w.heap.size (fun _ => True) (.slice Ao11 t274.length co11) t274) ∧ Aside0 (Below w.heap.size w wc))
       case first =>
        have H:=HC27.out
        clear HC27
        replace H:=Option.bind_eq_some_iff.mp H
        obtain ⟨t282,A280,H⟩:=H
        replace H : (if t282 = true then ((impl_ChainIn.f kj7 ([] : List (S56)) t271).bind fun t283 => (if t283 = true then (if t277 = true then ((impl_ChainIn.f kj7 t274 t271).bind fun t284 => (if t284 = true then ((laws_lwSame.f kj7 t271 t274).bind fun t285 => (laws_FnChainIn.j2 kj7 l1 t271 t274 t277 (!t285))) else (laws_FnChainIn.j2 kj7 l1 t271 t274 t277 false))) else (laws_FnChainIn.j2 kj7 l1 t271 t274 t277 false)) else (laws_FnChainIn.j2 kj7 l1 t271 t274 t277 true))) else (laws_FnChainIn.j2 kj7 l1 t271 t274 t277 true)) = some r:=H
        have A28:=aM A280
        clear A280
        by_cases c29 : t282 = true
        ·subst c29
         have H1 : ((impl_ChainIn.f kj7 ([] : List (S56)) t271).bind fun t283 => (if t283 = true then (if t277 = true then ((impl_ChainIn.f kj7 t274 t271).bind fun t284 => (if t284 = true then ((laws_lwSame.f kj7 t271 t274).bind fun t285 => (laws_FnChainIn.j2 kj7 l1 t271 t274 t277 (!t285))) else (laws_FnChainIn.j2 kj7 l1 t271 t274 t277 false))) else (laws_FnChainIn.j2 kj7 l1 t271 t274 t277 false)) else (laws_FnChainIn.j2 kj7 l1 t271 t274 t277 true))) = some r:=by rw [if_pos rfl] at H;exact H
         clear H
         have H:=H1
         clear H1
         replace H:=Option.bind_eq_some_iff.mp H
         obtain ⟨t283,A300,H⟩:=H
         replace H : (if t283 = true then (if t277 = true then ((impl_ChainIn.f kj7 t274 t271).bind fun t284 => (if t284 = true then ((laws_lwSame.f kj7 t271 t274).bind fun t285 => (laws_FnChainIn.j2 kj7 l1 t271 t274 t277 (!t285))) else (laws_FnChainIn.j2 kj7 l1 t271 t274 t277 false))) else (laws_FnChainIn.j2 kj7 l1 t271 t274 t277 false)) else (laws_FnChainIn.j2 kj7 l1 t271 t274 t277 true)) = some r:=H
         have A30:=aM A300
         clear A300
         by_cases c31 : t283 = true
         ·subst c31
          have H1 : (if t277 = true then ((impl_ChainIn.f kj7 t274 t271).bind fun t284 => (if t284 = true then ((laws_lwSame.f kj7 t271 t274).bind fun t285 => (laws_FnChainIn.j2 kj7 l1 t271 t274 t277 (!t285))) else (laws_FnChainIn.j2 kj7 l1 t271 t274 t277 false))) else (laws_FnChainIn.j2 kj7 l1 t271 t274 t277 false)) = some r:=by rw [if_pos rfl] at H;exact H
          clear H
          have H:=H1
          clear H1
          by_cases c32 : t277 = true
          ·subst c32
           have H1 : ((impl_ChainIn.f kj7 t274 t271).bind fun t284 => (if t284 = true then ((laws_lwSame.f kj7 t271 t274).bind fun t285 => (laws_FnChainIn.j2 kj7 l1 t271 t274 true (!t285))) else (laws_FnChainIn.j2 kj7 l1 t271 t274 true false))) = some r:=by rw [if_pos rfl] at H;exact H
           clear H
           have H:=H1
           clear H1
           replace H:=Option.bind_eq_some_iff.mp H
           obtain ⟨t284,A330,H⟩:=H
           replace H : (if t284 = true then ((laws_lwSame.f kj7 t271 t274).bind fun t285 => (laws_FnChainIn.j2 kj7 l1 t271 t274 true (!t285))) else (laws_FnChainIn.j2 kj7 l1 t271 t274 true false)) = some r:=H
           have A33:=aM A330
           clear A330
           by_cases c34 : t284 = true
           ·subst c34
            have H1 : ((laws_lwSame.f kj7 t271 t274).bind fun t285 => (laws_FnChainIn.j2 kj7 l1 t271 t274 true (!t285))) = some r:=by rw [if_pos rfl] at H;exact H
            clear H
            have H:=H1
            clear H1
            replace H:=Option.bind_eq_some_iff.mp H
            obtain ⟨t285,A350,H⟩:=H
            replace H : (laws_FnChainIn.j2 kj7 l1 t271 t274 true (!t285)) = some r:=H
            have A35:=aM A350
            clear A350
            have H':=aM H
            clear H
            go_wp2_with (first|((with_reducible refine gate_callee (f:=14) rfl ?_);refine goesL_ (some 47) rfl rfl Try.func14 (by kernel_rfl) rfl #[.slice Ao10 t271.length co10,.slice Ao10 t271.length co10] rfl (by (try simp only [List.map_toArray,List.map_cons,List.map_nil]);first|done|rfl|(simp only [List.length_drop,List.length_take];rfl)) ?_;(with_reducible refine (impl_ChainIn.calls kj7 _ _ t271 _ _ t271 true _ ?side1 ?side2 ?side3 ?side4 A28.out).mono ?_);(case side1 => repeat (first|exact (Kd.V_reads' HO_5.out).2.2|(with_reducible refine Kd.C_alloc ?_ _)|(with_reducible refine Kd.C_drewN ?_ _)|(with_reducible refine Kd.C_drew ?_)));(case side2 => exact (Kd.V_reads' HO_5.out).2.1);(case side3 => repeat (first|exact (Kd.V_reads' HO_5.out).2.2|(with_reducible refine Kd.C_alloc ?_ _)|(with_reducible refine Kd.C_drewN ?_ _)|(with_reducible refine Kd.C_drew ?_)));(case side4 => exact (Kd.V_reads' HO_5.out).2.1);rintro e w36 ⟨rfl,hb⟩;refine ⟨_,rfl,?_⟩;have n0_:=aM (Kd.V_below (by (with_reducible repeat (first|apply Kd.V_alloc|apply Kd.V_drewN|apply Kd.V_drew));exact HO_5.out) hb);have n1_:=aM (Kd.V_below (by (with_reducible repeat (first|apply Kd.V_alloc|apply Kd.V_drewN|apply Kd.V_drew));exact HO_6.out) hb);have n2_:=aM (below_step (by repeat (first|(with_reducible first|exact HB.out|apply bA|apply bN|apply bD)|exact HB.out)) hb);clear HO_5;clear HO_6;clear HB;have HO_5:=n0_;have HO_6:=n1_;have HB:=n2_;clear n0_ n1_ n2_;(try clear hb);(try clear hb2);(try clear hk);(try clear hi))|(go_at_call 14;(with_reducible refine (impl_ChainIn.calls kj7 _ _ t274 _ _ t271 true _ ?side1 ?side2 ?side3 ?side4 A33.out).mono ?_);(case side1 => repeat (first|exact (Kd.V_reads' HO_6.out).2.2|(with_reducible refine Kd.C_alloc ?_ _)|(with_reducible refine Kd.C_drewN ?_ _)|(with_reducible refine Kd.C_drew ?_)));(case side2 => exact (Kd.V_reads' HO_6.out).2.1);(case side3 => repeat (first|exact (Kd.V_reads' HO_5.out).2.2|(with_reducible refine Kd.C_alloc ?_ _)|(with_reducible refine Kd.C_drewN ?_ _)|(with_reducible refine Kd.C_drew ?_)));(case side4 => exact (Kd.V_reads' HO_5.out).2.1);rintro e w38 ⟨rfl,hb⟩;have n0_:=aM (Kd.V_below (by (with_reducible repeat (first|apply Kd.V_alloc|apply Kd.V_drewN|apply Kd.V_drew));exact HO_5.out) hb);have n1_:=aM (Kd.V_below (by (with_reducible repeat (first|apply Kd.V_alloc|apply Kd.V_drewN|apply Kd.V_drew));exact HO_6.out) hb);have n2_:=aM (below_step (by repeat (first|(with_reducible first|exact HB.out|apply bA|apply bN|apply bD)|exact HB.out)) hb);clear HO_5;clear HO_6;clear HB;have HO_5:=n0_;have HO_6:=n1_;have HB:=n2_;clear n0_ n1_ n2_;(try clear hb);(try clear hb2);(try clear hk);(try clear hi))|(go_at_call 17;(with_reducible refine (laws_lwSame.calls kj7 _ _ t271 _ _ t274 t285 _ ?side1 ?side2 ?side3 ?side4 A35.out).mono ?_);(case side1 => repeat (first|exact (Kd.V_reads' HO_5.out).2.2|(with_reducible refine Kd.C_alloc ?_ _)|(with_reducible refine Kd.C_drewN ?_ _)|(with_reducible refine Kd.C_drew ?_)));(case side2 => exact (Kd.V_reads' HO_5.out).2.1);(case side3 => repeat (first|exact (Kd.V_reads' HO_6.out).2.2|(with_reducible refine Kd.C_alloc ?_ _)|(with_reducible refine Kd.C_drewN ?_ _)|(with_reducible refine Kd.C_drew ?_)));(case side4 => exact (Kd.V_reads' HO_6.out).2.1);rintro e w' ⟨rfl,⟨nd,rfl⟩⟩)|(go_at_call 14;(refine (impl_ChainIn.calls kj7 _ _ ([] : List (S56)) _ _ t271 true _ ?side1 ?side2 ?side3 ?side4 A30.out).mono ?_);(case side1 => exact Kd.C_nil _ _);(case side2 => exact Nat.le_refl _);(case side3 => repeat (first|exact (Kd.V_reads' HO_5.out).2.2|(with_reducible refine Kd.C_alloc ?_ _)|(with_reducible refine Kd.C_drewN ?_ _)|(with_reducible refine Kd.C_drew ?_)));(case side4 => exact (Kd.V_reads' HO_5.out).2.1);rintro e w37 ⟨rfl,hb⟩;have n0_:=aM (Kd.V_below (by (with_reducible repeat (first|apply Kd.V_alloc|apply Kd.V_drewN|apply Kd.V_drew));exact HO_5.out) hb);have n1_:=aM (Kd.V_below (by (with_reducible repeat (first|apply Kd.V_alloc|apply Kd.V_drewN|apply Kd.V_drew));exact HO_6.out) hb);have n2_:=aM (below_step (by repeat (first|(with_reducible first|exact HB.out|apply bA|apply bN|apply bD)|exact HB.out)) hb);clear HO_5;clear HO_6;clear HB;have HO_5:=n0_;have HO_6:=n1_;have HB:=n2_;clear n0_ n1_ n2_;(try clear hb);(try clear hb2);(try clear hk);(try clear hi)))
            go_meet
            case rel => exact ⟨_,(!t285),(by first|rfl|(simp;done)|(simp [*];done)),H',⟨by have:=HJ2.out;have:=HJ7.out;first|omega|exact Nat.le_refl _⟩,⟨by (with_reducible repeat (first|apply Kd.V_alloc|apply Kd.V_drewN|apply Kd.V_drew));exact HO_5.out⟩,⟨by (with_reducible repeat (first|apply Kd.V_alloc|apply Kd.V_drewN|apply Kd.V_drew));exact HO_6.out⟩,⟨by repeat (first|(with_reducible first|exact HB.out|apply bA|apply bN|apply bD)|exact HB.out)⟩⟩
           ·replace c34:=Bool.eq_false_iff.mpr c34
            subst c34
            have H1 : (laws_FnChainIn.j2 kj7 l1 t271 t274 true false) = some r:=by rw [if_neg (show ¬ (false = true) by decide)] at H;exact H
            clear H
            have H:=H1
            clear H1
            have H':=aM H
            clear H
            go_wp2_with (first|((with_reducible refine gate_callee (f:=14) rfl ?_);refine goesL_ (some 47) rfl rfl Try.func14 (by kernel_rfl) rfl #[.slice Ao10 t271.length co10,.slice Ao10 t271.length co10] rfl (by (try simp only [List.map_toArray,List.map_cons,List.map_nil]);first|done|rfl|(simp only [List.length_drop,List.length_take];rfl)) ?_;(with_reducible refine (impl_ChainIn.calls kj7 _ _ t271 _ _ t271 true _ ?side1 ?side2 ?side3 ?side4 A28.out).mono ?_);(case side1 => repeat (first|exact (Kd.V_reads' HO_5.out).2.2|(with_reducible refine Kd.C_alloc ?_ _)|(with_reducible refine Kd.C_drewN ?_ _)|(with_reducible refine Kd.C_drew ?_)));(case side2 => exact (Kd.V_reads' HO_5.out).2.1);(case side3 => repeat (first|exact (Kd.V_reads' HO_5.out).2.2|(with_reducible refine Kd.C_alloc ?_ _)|(with_reducible refine Kd.C_drewN ?_ _)|(with_reducible refine Kd.C_drew ?_)));(case side4 => exact (Kd.V_reads' HO_5.out).2.1);rintro e w39 ⟨rfl,hb⟩;refine ⟨_,rfl,?_⟩;have n0_:=aM (Kd.V_below (by (with_reducible repeat (first|apply Kd.V_alloc|apply Kd.V_drewN|apply Kd.V_drew));exact HO_5.out) hb);have n1_:=aM (Kd.V_below (by (with_reducible repeat (first|apply Kd.V_alloc|apply Kd.V_drewN|apply Kd.V_drew));exact HO_6.out) hb);have n2_:=aM (below_step (by repeat (first|(with_reducible first|exact HB.out|apply bA|apply bN|apply bD)|exact HB.out)) hb);clear HO_5;clear HO_6;clear HB;have HO_5:=n0_;have HO_6:=n1_;have HB:=n2_;clear n0_ n1_ n2_;(try clear hb);(try clear hb2);(try clear hk);(try clear hi))|(go_at_call 14;(with_reducible refine (impl_ChainIn.calls kj7 _ _ t274 _ _ t271 false _ ?side1 ?side2 ?side3 ?side4 A33.out).mono ?_);(case side1 => repeat (first|exact (Kd.V_reads' HO_6.out).2.2|(with_reducible refine Kd.C_alloc ?_ _)|(with_reducible refine Kd.C_drewN ?_ _)|(with_reducible refine Kd.C_drew ?_)));(case side2 => exact (Kd.V_reads' HO_6.out).2.1);(case side3 => repeat (first|exact (Kd.V_reads' HO_5.out).2.2|(with_reducible refine Kd.C_alloc ?_ _)|(with_reducible refine Kd.C_drewN ?_ _)|(with_reducible refine Kd.C_drew ?_)));(case side4 => exact (Kd.V_reads' HO_5.out).2.1);rintro e w41 ⟨rfl,hb⟩;have n0_:=aM (Kd.V_below (by (with_reducible repeat (first|apply Kd.V_alloc|apply Kd.V_drewN|apply Kd.V_drew));exact HO_5.out) hb);have n1_:=aM (Kd.V_below (by (with_reducible repeat (first|apply Kd.V_alloc|apply Kd.V_drewN|apply Kd.V_drew));exact HO_6.out) hb);have n2_:=aM (below_step (by repeat (first|(with_reducible first|exact HB.out|apply bA|apply bN|apply bD)|exact HB.out)) hb);clear HO_5;clear HO_6;clear HB;have HO_5:=n0_;have HO_6:=n1_;have HB:=n2_;clear n0_ n1_ n2_;(try clear hb);(try clear hb2);(try clear hk);(try clear hi))|(go_at_call 14;(refine (impl_ChainIn.calls kj7 _ _ ([] : List (S56)) _ _ t271 true _ ?side1 ?side2 ?side3 ?side4 A30.out).mono ?_);(case side1 => exact Kd.C_nil _ _);(case side2 => exact Nat.le_refl _);(case side3 => repeat (first|exact (Kd.V_reads' HO_5.out).2.2|(with_reducible refine Kd.C_alloc ?_ _)|(with_reducible refine Kd.C_drewN ?_ _)|(with_reducible refine Kd.C_drew ?_)));(case side4 => exact (Kd.V_reads' HO_5.out).2.1);rintro e w40 ⟨rfl,hb⟩;have n0_:=aM (Kd.V_below (by (with_reducible repeat (first|apply Kd.V_alloc|apply Kd.V_drewN|apply Kd.V_drew));exact HO_5.out) hb);have n1_:=aM (Kd.V_below (by (with_reducible repeat (first|apply Kd.V_alloc|apply Kd.V_drewN|apply Kd.V_drew));exact HO_6.out) hb);have n2_:=aM (below_step (by repeat (first|(with_reducible first|exact HB.out|apply bA|apply bN|apply bD)|exact HB.out)) hb);clear HO_5;clear HO_6;clear HB;have HO_5:=n0_;have HO_6:=n1_;have HB:=n2_;clear n0_ n1_ n2_;(try clear hb);(try clear hb2);(try clear hk);(try clear hi)))
            go_meet
            case rel => exact ⟨_,(false),(by first|rfl|(simp;done)|(simp [*];done)),H',⟨by have:=HJ2.out;have:=HJ7.out;first|omega|exact Nat.le_refl _⟩,⟨by (with_reducible repeat (first|apply Kd.V_alloc|apply Kd.V_drewN|apply Kd.V_drew));exact HO_5.out⟩,⟨by (with_reducible repeat (first|apply Kd.V_alloc|apply Kd.V_drewN|apply Kd.V_drew));exact HO_6.out⟩,⟨by repeat (first|(with_reducible first|exact HB.out|apply bA|apply bN|apply bD)|exact HB.out)⟩⟩
          ·replace c32:=Bool.eq_false_iff.mpr c32
           subst c32
           have H1 : (laws_FnChainIn.j2 kj7 l1 t271 t274 false false) = some r:=by rw [if_neg (show ¬ (false = true) by decide)] at H;exact H
           clear H
           have H:=H1
           clear H1
           have H':=aM H
           clear H
           go_wp2_with (first|((with_reducible refine gate_callee (f:=14) rfl ?_);refine goesL_ (some 47) rfl rfl Try.func14 (by kernel_rfl) rfl #[.slice Ao10 t271.length co10,.slice Ao10 t271.length co10] rfl (by (try simp only [List.map_toArray,List.map_cons,List.map_nil]);first|done|rfl|(simp only [List.length_drop,List.length_take];rfl)) ?_;(with_reducible refine (impl_ChainIn.calls kj7 _ _ t271 _ _ t271 true _ ?side1 ?side2 ?side3 ?side4 A28.out).mono ?_);(case side1 => repeat (first|exact (Kd.V_reads' HO_5.out).2.2|(with_reducible refine Kd.C_alloc ?_ _)|(with_reducible refine Kd.C_drewN ?_ _)|(with_reducible refine Kd.C_drew ?_)));(case side2 => exact (Kd.V_reads' HO_5.out).2.1);(case side3 => repeat (first|exact (Kd.V_reads' HO_5.out).2.2|(with_reducible refine Kd.C_alloc ?_ _)|(with_reducible refine Kd.C_drewN ?_ _)|(with_reducible refine Kd.C_drew ?_)));(case side4 => exact (Kd.V_reads' HO_5.out).2.1);rintro e w42 ⟨rfl,hb⟩;refine ⟨_,rfl,?_⟩;have n0_:=aM (Kd.V_below (by (with_reducible repeat (first|apply Kd.V_alloc|apply Kd.V_drewN|apply Kd.V_drew));exact HO_5.out) hb);have n1_:=aM (Kd.V_below (by (with_reducible repeat (first|apply Kd.V_alloc|apply Kd.V_drewN|apply Kd.V_drew));exact HO_6.out) hb);have n2_:=aM (below_step (by repeat (first|(with_reducible first|exact HB.out|apply bA|apply bN|apply bD)|exact HB.out)) hb);clear HO_5;clear HO_6;clear HB;have HO_5:=n0_;have HO_6:=n1_;have HB:=n2_;clear n0_ n1_ n2_;(try clear hb);(try clear hb2);(try clear hk);(try clear hi))|(go_at_call 14;(refine (impl_ChainIn.calls kj7 _ _ ([] : List (S56)) _ _ t271 true _ ?side1 ?side2 ?side3 ?side4 A30.out).mono ?_);(case side1 => exact Kd.C_nil _ _);(case side2 => exact Nat.le_refl _);(case side3 => repeat (first|exact (Kd.V_reads' HO_5.out).2.2|(with_reducible refine Kd.C_alloc ?_ _)|(with_reducible refine Kd.C_drewN ?_ _)|(with_reducible refine Kd.C_drew ?_)));(case side4 => exact (Kd.V_reads' HO_5.out).2.1);rintro e w43 ⟨rfl,hb⟩;have n0_:=aM (Kd.V_below (by (with_reducible repeat (first|apply Kd.V_alloc|apply Kd.V_drewN|apply Kd.V_drew));exact HO_5.out) hb);have n1_:=aM (Kd.V_below (by (with_reducible repeat (first|apply Kd.V_alloc|apply Kd.V_drewN|apply Kd.V_drew));exact HO_6.out) hb);have n2_:=aM (below_step (by repeat (first|(with_reducible first|exact HB.out|apply bA|apply bN|apply bD)|exact HB.out)) hb);clear HO_5;clear HO_6;clear HB;have HO_5:=n0_;have HO_6:=n1_;have HB:=n2_;clear n0_ n1_ n2_;(try clear hb);(try clear hb2);(try clear hk);(try clear hi)))
           go_meet
           case rel => exact ⟨_,(false),(by first|rfl|(simp;done)|(simp [*];done)),H',⟨by have:=HJ2.out;have:=HJ7.out;first|omega|exact Nat.le_refl _⟩,⟨by (with_reducible repeat (first|apply Kd.V_alloc|apply Kd.V_drewN|apply Kd.V_drew));exact HO_5.out⟩,⟨by (with_reducible repeat (first|apply Kd.V_alloc|apply Kd.V_drewN|apply Kd.V_drew));exact HO_6.out⟩,⟨by repeat (first|(with_reducible first|exact HB.out|apply bA|apply bN|apply bD)|exact HB.out)⟩⟩
         ·replace c31:=Bool.eq_false_iff.mpr c31
          subst c31
          have H1 : (laws_FnChainIn.j2 kj7 l1 t271 t274 t277 true) = some r:=by rw [if_neg (show ¬ (false = true) by decide)] at H;exact H
          clear H
          have H:=H1
          clear H1
          have H':=aM H
          clear H
          go_wp2_with (first|((with_reducible refine gate_callee (f:=14) rfl ?_);refine goesL_ (some 47) rfl rfl Try.func14 (by kernel_rfl) rfl #[.slice Ao10 t271.length co10,.slice Ao10 t271.length co10] rfl (by (try simp only [List.map_toArray,List.map_cons,List.map_nil]);first|done|rfl|(simp only [List.length_drop,List.length_take];rfl)) ?_;(with_reducible refine (impl_ChainIn.calls kj7 _ _ t271 _ _ t271 true _ ?side1 ?side2 ?side3 ?side4 A28.out).mono ?_);(case side1 => repeat (first|exact (Kd.V_reads' HO_5.out).2.2|(with_reducible refine Kd.C_alloc ?_ _)|(with_reducible refine Kd.C_drewN ?_ _)|(with_reducible refine Kd.C_drew ?_)));(case side2 => exact (Kd.V_reads' HO_5.out).2.1);(case side3 => repeat (first|exact (Kd.V_reads' HO_5.out).2.2|(with_reducible refine Kd.C_alloc ?_ _)|(with_reducible refine Kd.C_drewN ?_ _)|(with_reducible refine Kd.C_drew ?_)));(case side4 => exact (Kd.V_reads' HO_5.out).2.1);rintro e w44 ⟨rfl,hb⟩;refine ⟨_,rfl,?_⟩;have n0_:=aM (Kd.V_below (by (with_reducible repeat (first|apply Kd.V_alloc|apply Kd.V_drewN|apply Kd.V_drew));exact HO_5.out) hb);have n1_:=aM (Kd.V_below (by (with_reducible repeat (first|apply Kd.V_alloc|apply Kd.V_drewN|apply Kd.V_drew));exact HO_6.out) hb);have n2_:=aM (below_step (by repeat (first|(with_reducible first|exact HB.out|apply bA|apply bN|apply bD)|exact HB.out)) hb);clear HO_5;clear HO_6;clear HB;have HO_5:=n0_;have HO_6:=n1_;have HB:=n2_;clear n0_ n1_ n2_;(try clear hb);(try clear hb2);(try clear hk);(try clear hi))|(go_at_call 14;(refine (impl_ChainIn.calls kj7 _ _ ([] : List (S56)) _ _ t271 false _ ?side1 ?side2 ?side3 ?side4 A30.out).mono ?_);(case side1 => exact Kd.C_nil _ _);(case side2 => exact Nat.le_refl _);(case side3 => repeat (first|exact (Kd.V_reads' HO_5.out).2.2|(with_reducible refine Kd.C_alloc ?_ _)|(with_reducible refine Kd.C_drewN ?_ _)|(with_reducible refine Kd.C_drew ?_)));(case side4 => exact (Kd.V_reads' HO_5.out).2.1);rintro e w45 ⟨rfl,hb⟩;have n0_:=aM (Kd.V_below (by (with_reducible repeat (first|apply Kd.V_alloc|apply Kd.V_drewN|apply Kd.V_drew));exact HO_5.out) hb);have n1_:=aM (Kd.V_below (by (with_reducible repeat (first|apply Kd.V_alloc|apply Kd.V_drewN|apply Kd.V_drew));exact HO_6.out) hb);have n2_:=aM (below_step (by repeat (first|(with_reducible first|exact HB.out|apply bA|apply bN|apply bD)|exact HB.out)) hb);clear HO_5;clear HO_6;clear HB;have HO_5:=n0_;have HO_6:=n1_;have HB:=n2_;clear n0_ n1_ n2_;(try clear hb);(try clear hb2);(try clear hk);(try clear hi)))
          go_meet
          case rel => exact ⟨_,(true),(by first|rfl|(simp;done)|(simp [*];done)),H',⟨by have:=HJ2.out;have:=HJ7.out;first|omega|exact Nat.le_refl _⟩,⟨by (with_reducible repeat (first|apply Kd.V_alloc|apply Kd.V_drewN|apply Kd.V_drew));exact HO_5.out⟩,⟨by (with_reducible repeat (first|apply Kd.V_alloc|apply Kd.V_drewN|apply Kd.V_drew));exact HO_6.out⟩,⟨by repeat (first|(with_reducible first|exact HB.out|apply bA|apply bN|apply bD)|exact HB.out)⟩⟩
        ·replace c29:=Bool.eq_false_iff.mpr c29
         subst c29
         have H1 : (laws_FnChainIn.j2 kj7 l1 t271 t274 t277 true) = some r:=by rw [if_neg (show ¬ (false = true) by decide)] at H;exact H
         clear H
         have H:=H1
         clear H1
         have H':=aM H
         clear H
         go_wp2_with (first|((with_reducible refine gate_callee (f:=14) rfl ?_);refine goesL_ (some 47) rfl rfl Try.func14 (by kernel_rfl) rfl #[.slice Ao10 t271.length co10,.slice Ao10 t271.length co10] rfl (by (try simp only [List.map_toArray,List.map_cons,List.map_nil]);first|done|rfl|(simp only [List.length_drop,List.length_take];rfl)) ?_;(with_reducible refine (impl_ChainIn.calls kj7 _ _ t271 _ _ t271 false _ ?side1 ?side2 ?side3 ?side4 A28.out).mono ?_);(case side1 => repeat (first|exact (Kd.V_reads' HO_5.out).2.2|(with_reducible refine Kd.C_alloc ?_ _)|(with_reducible refine Kd.C_drewN ?_ _)|(with_reducible refine Kd.C_drew ?_)));(case side2 => exact (Kd.V_reads' HO_5.out).2.1);(case side3 => repeat (first|exact (Kd.V_reads' HO_5.out).2.2|(with_reducible refine Kd.C_alloc ?_ _)|(with_reducible refine Kd.C_drewN ?_ _)|(with_reducible refine Kd.C_drew ?_)));(case side4 => exact (Kd.V_reads' HO_5.out).2.1);rintro e w46 ⟨rfl,hb⟩;refine ⟨_,rfl,?_⟩;have n0_:=aM (Kd.V_below (by (with_reducible repeat (first|apply Kd.V_alloc|apply Kd.V_drewN|apply Kd.V_drew));exact HO_5.out) hb);have n1_:=aM (Kd.V_below (by (with_reducible repeat (first|apply Kd.V_alloc|apply Kd.V_drewN|apply Kd.V_drew));exact HO_6.out) hb);have n2_:=aM (below_step (by repeat (first|(with_reducible first|exact HB.out|apply bA|apply bN|apply bD)|exact HB.out)) hb);clear HO_5;clear HO_6;clear HB;have HO_5:=n0_;have HO_6:=n1_;have HB:=n2_;clear n0_ n1_ n2_;(try clear hb);(try clear hb2);(try clear hk);(try clear hi)))
         go_meet
         case rel => exact ⟨_,(true),(by first|rfl|(simp;done)|(simp [*];done)),H',⟨by have:=HJ2.out;have:=HJ7.out;first|omega|exact Nat.le_refl _⟩,⟨by (with_reducible repeat (first|apply Kd.V_alloc|apply Kd.V_drewN|apply Kd.V_drew));exact HO_5.out⟩,⟨by (with_reducible repeat (first|apply Kd.V_alloc|apply Kd.V_drewN|apply Kd.V_drew));exact HO_6.out⟩,⟨by repeat (first|(with_reducible first|exact HB.out|apply bA|apply bN|apply bD)|exact HB.out)⟩⟩
       case rest =>
        clear HC27
        try clear c1
        try clear c2
        try clear p2
        try clear c3
        try clear c4
        try clear c4b0
        try clear c4b1
        try clear c5
        try clear c13
        try clear c14
        try clear c14b0
        try clear c14b1
        try clear c14b2
        try clear c15
        try clear c17
        try clear c24
        try clear c29
        try clear c31
        try clear c32
        try clear c34
        try clear p2
        obtain ⟨kq,x67_26,rfl,HA,HJ26,HO_5,HO_6,HB⟩:=hcut
        cases kq with
        | zero => exact absurd HA.out (by simp [laws_FnChainIn.j2])
        | succ kj26 =>
         have H:=HA.out
         clear HA
         simp only [laws_FnChainIn.j2] at H
         by_cases c47 : x67_26 = true
         ·subst c47
          have H1 : (some false) = some r:=by rw [if_pos rfl] at H;exact H
          clear H
          have H:=H1
          clear H1
          obtain rfl:=Option.some.inj H
          go_wp2
          go_ret
          exact ⟨by first|rfl|(simp only [i64_w,i32_w];done)|(simp only [i64_w,i32_w];rfl)|(simp [errW_none,errW_some] <;> rfl)|(simp [*,errW_none,errW_some] <;> rfl),by repeat (first|(with_reducible first|exact HB.out|apply bA|apply bN|apply bD)|exact HB.out)⟩
         ·replace c47:=Bool.eq_false_iff.mpr c47
          subst c47
          have H1 : (if (wrap64 ((t274.length : Int) + 1)) = 0 then (none) else (if 0 ≤ ((l1.length : Int) % (wrap64 ((t274.length : Int) + 1))) then (if ((l1.length : Int) % (wrap64 ((t274.length : Int) + 1))) ≤ (t274.length : Int) then ((some (t274.take (((l1.length : Int) % (wrap64 ((t274.length : Int) + 1))) : Int).toNat : List (S56))).bind fun y286 => (if t277 = true then ((impl_ChainIn.f kj26 t271 y286).bind fun t291 => (if t291 = true then (some true) else ((impl_ChainIn.f kj26 y286 t271).bind fun t292 => (some t292)))) else (some true))) else (none)) else (none))) = some r:=by rw [if_neg (show ¬ (false = true) by decide)] at H;exact H
          clear H
          have H:=H1
          clear H1
          by_cases c48 : (wrap64 ((t274.length : Int) + 1)) = 0
          ·rw [if_pos c48] at H
           exact absurd H (by simp)
          ·rw [if_neg c48] at H
           have c48b0 : ((wrap64 ((t274.length : Int) + 1)) == 0) = false:=beq_eq_false_iff_ne.mpr c48
           have c48b1 : ((wrap64 ((t274.length : Int) + 1)) != 0) = true:=bne_iff_ne.mpr c48
           obtain ⟨ji49,hji49⟩ : ∃ j_ : Int,((l1.length : Int) % (wrap64 ((t274.length : Int) + 1))) = j_:=⟨_,rfl⟩
           replace H : (if 0 ≤ (ji49) then (if (ji49) ≤ (t274.length : Int) then ((some (t274.take ((ji49) : Int).toNat : List (S56))).bind fun y286 => (if t277 = true then ((impl_ChainIn.f kj26 t271 y286).bind fun t291 => (if t291 = true then (some true) else ((impl_ChainIn.f kj26 y286 t271).bind fun t292 => (some t292)))) else (some true))) else (none)) else (none)) = some r:=by first|(rw [hji49] at H;exact H)|(simp only [hji49] at H ⊢;exact H)
           by_cases c50 : 0 ≤ (ji49)
           case neg => rw [if_neg c50] at H;exact absurd H (by simp)
           rw [if_pos c50] at H
           have c50b0:=eq_true c50
           have c50b1 : decide (0 ≤ (ji49)) = true:=decide_eq_true c50
           clear c50
           by_cases c51 : (ji49) ≤ (t274.length : Int)
           case neg => rw [if_neg c51] at H;exact absurd H (by simp)
           rw [if_pos c51] at H
           have c51b0:=eq_true c51
           have c51b1 : decide ((ji49) ≤ (t274.length : Int)) = true:=decide_eq_true c51
           clear c51
           obtain ⟨y286,hy286⟩ : ∃ y_ : List (S56),y_ = (t274.take ((ji49) : Int).toNat):=⟨_,rfl⟩
           replace H : (if t277 = true then ((impl_ChainIn.f kj26 t271 y286).bind fun t291 => (if t291 = true then (some true) else ((impl_ChainIn.f kj26 y286 t271).bind fun t292 => (some t292)))) else (some true)) = some r:=by first|(rw [hy286];with_reducible exact H)|(have H2_:=(Option.bind_some _ _).symm.trans H;rw [hy286];with_reducible exact H2_)|(have H2_:=(Option.bind_some _ _).symm.trans H;with_reducible exact H2_)|with_reducible exact H|(rw [hy286];exact H)|exact H
           have Ny286:=aM hy286
           clear hy286
           by_cases c52 : t277 = true
           ·subst c52
            have H1 : ((impl_ChainIn.f kj26 t271 y286).bind fun t291 => (if t291 = true then (some true) else ((impl_ChainIn.f kj26 y286 t271).bind fun t292 => (some t292)))) = some r:=by rw [if_pos rfl] at H;exact H
            clear H
            have H:=H1
            clear H1
            replace H:=Option.bind_eq_some_iff.mp H
            obtain ⟨t291,A530,H⟩:=H
            replace H : (if t291 = true then (some true) else ((impl_ChainIn.f kj26 y286 t271).bind fun t292 => (some t292))) = some r:=H
            have A53:=aM A530
            clear A530
            by_cases c54 : t291 = true
            ·subst c54
             have H1 : (some true) = some r:=by rw [if_pos rfl] at H;exact H
             clear H
             have H:=H1
             clear H1
             obtain rfl:=Option.some.inj H
             have q55 : ((ji49) : Int) ≤ ((t274.length : Int) : Int):=of_decide_eq_true (by first|(with_reducible assumption)|assumption)
             obtain ⟨i055,hi055,_,hsz55,_⟩:=info_parts info56
             have hroom55 : t274.length ≤ co11:=(Kd.V_reads' HO_6.out).2.1
             have hC55 : Kd.F k56 _ _ Ao11 t274.length t274:=(Kd.V_at (base:=w.heap.size) HO_6.out).2.2
             have hcut55:=cut_to (P:=Try.prog) 28 56 .i64 Try.underlying28 hi055 Ao11 t274.length co11 (ji49) (of_decide_eq_true (by first|(with_reducible assumption)|assumption)) q55 hroom55
             have hr55:=Kd.F_take (m:=((ji49) : Int).toNat) hC55 (by omega)
             have hy55 : y286.length = ((ji49) : Int).toNat:=(by rw [Ny286.out,List.length_take];omega)
             rw [← Ny286.out] at hr55
             rw [← hy55] at hcut55
             have HO290:=aM (show Kd.V k56 56 _ w.heap.size _ (.slice Ao11 y286.length co11) y286 from Kd.V_mk (by omega) hr55)
             have HC290:=aM (show y286.length ≤ co11 from by omega)
             clear hr55 hC55 hroom55 hi055 hsz55
             have KY55:=aM hy55
             clear hy55
             replace q55:=eq_true q55
             go_wp2_with (first|(go_at_call 14;(with_reducible refine (impl_ChainIn.calls kj26 _ _ t271 _ _ y286 true _ ?side1 ?side2 ?side3 ?side4 A53.out).mono ?_);(case side1 => repeat (first|exact (Kd.V_reads' HO_5.out).2.2|(with_reducible refine Kd.C_alloc ?_ _)|(with_reducible refine Kd.C_drewN ?_ _)|(with_reducible refine Kd.C_drew ?_)));(case side2 => exact (Kd.V_reads' HO_5.out).2.1);(case side3 => repeat (first|exact (Kd.V_reads' HO290.out).2.2|(with_reducible refine Kd.C_alloc ?_ _)|(with_reducible refine Kd.C_drewN ?_ _)|(with_reducible refine Kd.C_drew ?_)));(case side4 => exact (Kd.V_reads' HO290.out).2.1);rintro e w56 ⟨rfl,hb⟩;have n0_:=aM (Kd.V_below (by (with_reducible repeat (first|apply Kd.V_alloc|apply Kd.V_drewN|apply Kd.V_drew));exact HO_5.out) hb);have n1_:=aM (Kd.V_below (by (with_reducible repeat (first|apply Kd.V_alloc|apply Kd.V_drewN|apply Kd.V_drew));exact HO_6.out) hb);have n2_:=aM (Kd.V_below (by (with_reducible repeat (first|apply Kd.V_alloc|apply Kd.V_drewN|apply Kd.V_drew));exact HO290.out) hb);have n3_:=aM (below_step (by repeat (first|(with_reducible first|exact HB.out|apply bA|apply bN|apply bD)|exact HB.out)) hb);clear HO_5;clear HO_6;clear HO290;clear HB;have HO_5:=n0_;have HO_6:=n1_;have HO290:=n2_;have HB:=n3_;clear n0_ n1_ n2_ n3_;(try clear hb);(try clear hb2);(try clear hk);(try clear hi)))
             go_ret
             exact ⟨by first|rfl|(simp only [i64_w,i32_w];done)|(simp only [i64_w,i32_w];rfl)|(simp [errW_none,errW_some] <;> rfl)|(simp only [← hji49];first|rfl|(simp [errW_none,errW_some] <;> rfl))|(simp [*,errW_none,errW_some] <;> rfl),by repeat (first|(with_reducible first|exact HB.out|apply bA|apply bN|apply bD)|exact HB.out)⟩
            ·replace c54:=Bool.eq_false_iff.mpr c54
             subst c54
             have H1 : ((impl_ChainIn.f kj26 y286 t271).bind fun t292 => (some t292)) = some r:=by rw [if_neg (show ¬ (false = true) by decide)] at H;exact H
             clear H
             have H:=H1
             clear H1
             replace H:=Option.bind_eq_some_iff.mp H
             obtain ⟨t292,A570,H⟩:=H
             replace H : (some t292) = some r:=H
             have A57:=aM A570
             clear A570
             obtain rfl:=Option.some.inj H
             have q58 : ((ji49) : Int) ≤ ((t274.length : Int) : Int):=of_decide_eq_true (by first|(with_reducible assumption)|assumption)
             obtain ⟨i058,hi058,_,hsz58,_⟩:=info_parts info56
             have hroom58 : t274.length ≤ co11:=(Kd.V_reads' HO_6.out).2.1
             have hC58 : Kd.F k56 _ _ Ao11 t274.length t274:=(Kd.V_at (base:=w.heap.size) HO_6.out).2.2
             have hcut58:=cut_to (P:=Try.prog) 28 56 .i64 Try.underlying28 hi058 Ao11 t274.length co11 (ji49) (of_decide_eq_true (by first|(with_reducible assumption)|assumption)) q58 hroom58
             have hr58:=Kd.F_take (m:=((ji49) : Int).toNat) hC58 (by omega)
             have hy58 : y286.length = ((ji49) : Int).toNat:=(by rw [Ny286.out,List.length_take];omega)
             rw [← Ny286.out] at hr58
             rw [← hy58] at hcut58
             have HO290:=aM (show Kd.V k56 56 _ w.heap.size _ (.slice Ao11 y286.length co11) y286 from Kd.V_mk (by omega) hr58)
             have HC290:=aM (show y286.length ≤ co11 from by omega)
             clear hr58 hC58 hroom58 hi058 hsz58
             have KY58:=aM hy58
             clear hy58
             replace q58:=eq_true q58
             go_wp2_with (first|(go_at_call 14;(with_reducible refine (impl_ChainIn.calls kj26 _ _ t271 _ _ y286 false _ ?side1 ?side2 ?side3 ?side4 A53.out).mono ?_);(case side1 => repeat (first|exact (Kd.V_reads' HO_5.out).2.2|(with_reducible refine Kd.C_alloc ?_ _)|(with_reducible refine Kd.C_drewN ?_ _)|(with_reducible refine Kd.C_drew ?_)));(case side2 => exact (Kd.V_reads' HO_5.out).2.1);(case side3 => repeat (first|exact (Kd.V_reads' HO290.out).2.2|(with_reducible refine Kd.C_alloc ?_ _)|(with_reducible refine Kd.C_drewN ?_ _)|(with_reducible refine Kd.C_drew ?_)));(case side4 => exact (Kd.V_reads' HO290.out).2.1);rintro e w59 ⟨rfl,hb⟩;have n0_:=aM (Kd.V_below (by (with_reducible repeat (first|apply Kd.V_alloc|apply Kd.V_drewN|apply Kd.V_drew));exact HO_5.out) hb);have n1_:=aM (Kd.V_below (by (with_reducible repeat (first|apply Kd.V_alloc|apply Kd.V_drewN|apply Kd.V_drew));exact HO_6.out) hb);have n2_:=aM (Kd.V_below (by (with_reducible repeat (first|apply Kd.V_alloc|apply Kd.V_drewN|apply Kd.V_drew));exact HO290.out) hb);have n3_:=aM (below_step (by repeat (first|(with_reducible first|exact HB.out|apply bA|apply bN|apply bD)|exact HB.out)) hb);clear HO_5;clear HO_6;clear HO290;clear HB;have HO_5:=n0_;have HO_6:=n1_;have HO290:=n2_;have HB:=n3_;clear n0_ n1_ n2_ n3_;(try clear hb);(try clear hb2);(try clear hk);(try clear hi))|(go_at_call 14;(with_reducible refine (impl_ChainIn.calls kj26 _ _ y286 _ _ t271 t292 _ ?side1 ?side2 ?side3 ?side4 A57.out).mono ?_);(case side1 => repeat (first|exact (Kd.V_reads' HO290.out).2.2|(with_reducible refine Kd.C_alloc ?_ _)|(with_reducible refine Kd.C_drewN ?_ _)|(with_reducible refine Kd.C_drew ?_)));(case side2 => exact (Kd.V_reads' HO290.out).2.1);(case side3 => repeat (first|exact (Kd.V_reads' HO_5.out).2.2|(with_reducible refine Kd.C_alloc ?_ _)|(with_reducible refine Kd.C_drewN ?_ _)|(with_reducible refine Kd.C_drew ?_)));(case side4 => exact (Kd.V_reads' HO_5.out).2.1);rintro e w60 ⟨rfl,hb⟩;have n0_:=aM (Kd.V_below (by (with_reducible repeat (first|apply Kd.V_alloc|apply Kd.V_drewN|apply Kd.V_drew));exact HO_5.out) hb);have n1_:=aM (Kd.V_below (by (with_reducible repeat (first|apply Kd.V_alloc|apply Kd.V_drewN|apply Kd.V_drew));exact HO_6.out) hb);have n2_:=aM (Kd.V_below (by (with_reducible repeat (first|apply Kd.V_alloc|apply Kd.V_drewN|apply Kd.V_drew));exact HO290.out) hb);have n3_:=aM (below_step (by repeat (first|(with_reducible first|exact HB.out|apply bA|apply bN|apply bD)|exact HB.out)) hb);clear HO_5;clear HO_6;clear HO290;clear HB;have HO_5:=n0_;have HO_6:=n1_;have HO290:=n2_;have HB:=n3_;clear n0_ n1_ n2_ n3_;(try clear hb);(try clear hb2);(try clear hk);(try clear hi)))
             go_ret
             exact ⟨by first|rfl|(simp only [i64_w,i32_w];done)|(simp only [i64_w,i32_w];rfl)|(simp [errW_none,errW_some] <;> rfl)|(simp only [← hji49];first|rfl|(simp [errW_none,errW_some] <;> rfl))|(simp [*,errW_none,errW_some] <;> rfl),by repeat (first|(with_reducible first|exact HB.out|apply bA|apply bN|apply bD)|exact HB.out)⟩
           ·replace c52:=Bool.eq_false_iff.mpr c52
            subst c52
            have H1 : (some true) = some r:=by rw [if_neg (show ¬ (false = true) by decide)] at H;exact H
            clear H
            have H:=H1
            clear H1
            obtain rfl:=Option.some.inj H
            have q61 : ((ji49) : Int) ≤ ((t274.length : Int) : Int):=of_decide_eq_true (by first|(with_reducible assumption)|assumption)
            obtain ⟨i061,hi061,_,hsz61,_⟩:=info_parts info56
            have hroom61 : t274.length ≤ co11:=(Kd.V_reads' HO_6.out).2.1
            have hC61 : Kd.F k56 _ _ Ao11 t274.length t274:=(Kd.V_at (base:=w.heap.size) HO_6.out).2.2
            have hcut61:=cut_to (P:=Try.prog) 28 56 .i64 Try.underlying28 hi061 Ao11 t274.length co11 (ji49) (of_decide_eq_true (by first|(with_reducible assumption)|assumption)) q61 hroom61
            have hr61:=Kd.F_take (m:=((ji49) : Int).toNat) hC61 (by omega)
            have hy61 : y286.length = ((ji49) : Int).toNat:=(by rw [Ny286.out,List.length_take];omega)
            rw [← Ny286.out] at hr61
            rw [← hy61] at hcut61
            have HO290:=aM (show Kd.V k56 56 _ w.heap.size _ (.slice Ao11 y286.length co11) y286 from Kd.V_mk (by omega) hr61)
            have HC290:=aM (show y286.length ≤ co11 from by omega)
            clear hr61 hC61 hroom61 hi061 hsz61
            have KY61:=aM hy61
            clear hy61
            replace q61:=eq_true q61
            go_wp2
            go_ret
            exact ⟨by first|rfl|(simp only [i64_w,i32_w];done)|(simp only [i64_w,i32_w];rfl)|(simp [errW_none,errW_some] <;> rfl)|(simp only [← hji49];first|rfl|(simp [errW_none,errW_some] <;> rfl))|(simp [*,errW_none,errW_some] <;> rfl),by repeat (first|(with_reducible first|exact HB.out|apply bA|apply bN|apply bD)|exact HB.out)⟩

/-- What is left to prove of laws_FnChainIn. -/
def laws_FnChainIn.Pure : Prop:=∀ (l0 : List Int) (l1 : List Int),l0.length ≤ 9223372036854775807 → (∀ x,x ∈ l0 → (Lit.int .u8 x).wf = true) → l1.length ≤ 9223372036854775807 → (∀ x,x ∈ l1 → (Lit.int .u8 x).wf = true) → ∃ k,laws_FnChainIn.f k l0 l1 = some true

end Go.Proofs.Ytkkfokcbbhnjeaa.P
