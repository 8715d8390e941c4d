/- The printed functions: what each Go function computes, as a Lean function, and that the Go code comes to just that. Conditions: none beyond each contract's own. -/
import Derived.Test.YtknmmkgaijndfaaPx0
import Derived.Test.YtknmmkgaijndfaaPx4
import Derived.Test.YtknmmkgaijndfaaPx5
import Derived.Test.YtknmmkgaijndfaaPx8
import Derived.Test.YtknmmkgaijndfaaPx11
import Derived.Test.YtknmmkgaijndfaaPx12
namespace Go.Proofs.Ytknmmkgaijndfaa.P
open Go.RowKit Go.Proofs.YtknmmkgaijndfaaW.PrintWords Go.Proofs.YtknmmkgaijndfaaW.PrintLast Go.Proofs.YtknmmkgaijndfaaW.PrintMore
attribute [local go_sem] max2_int min2_int max_two min_two max_three min_three max_four min_four   -- for this text's walks alone
set_option linter.unusedVariables false
set_option linter.unusedSimpArgs false

/-! ### laws_FnVotesFor: function 9 -/
mutual
def laws_FnVotesFor.j0 : Nat → List (S48) → List (S58) → List Int → Bool → Option (Bool)
 | 0,_,_,_,_ => none
 | k + 1,x3,x4,x5,x29 => if x29 = true then ((spec_VotesFor.f k x3 x4).bind fun t466 => ((laws_lwInts.f k x5 t466).bind fun t469 => (some t469))) else (laws_FnVotesFor.l0 k x3 x4 x5 0 1)
def laws_FnVotesFor.l0 : Nat → List (S48) → List (S58) → List Int → Int → Int → Option (Bool)
 | 0,_,_,_,_,_ => none
 | k + 1,x3,x4,x5,x6,x7 => if x7 ≤ 4 then ((laws_lwHas.f k x3 x7 x4).bind fun t477 => (if t477 = true then (if x6 ≥ (x5.length : Int) then (some false) else (if 0 ≤ x6 then (if x6 < (x5.length : Int) then (if (rd x5 x6) = x7 then (laws_FnVotesFor.l0 k x3 x4 x5 (wrap64 (x6 + 1)) (wrap64 (x7 + 1))) else (some false)) else (none)) else (none))) else (laws_FnVotesFor.l0 k x3 x4 x5 x6 (wrap64 (x7 + 1))))) else (if x6 = (x5.length : Int) then ((laws_lwBack.f k x3).bind fun t470 => ((impl_VotesFor.f k t470 x4).bind fun t473 => ((laws_lwInts.f k t473 x5).bind fun t476 => (some t476)))) else (some false))
end
def laws_FnVotesFor.f (k : Nat) (l0 : List Int) : Option (Bool):=if (l0.length : Int) > 1048576 then (some true) else ((spec_DrawVotesFor.f k l0).bind fun bt452 => ((impl_VotesFor.f k bt452.1 bt452.2).bind fun t458 => ((spec_VotesFor.f k bt452.1 bt452.2).bind fun t461 => ((laws_lwInts.f k t458 t461).bind fun t464 => (if t464 = true then ((spec_VotesOk.f k bt452.1).bind fun t465 => (laws_FnVotesFor.j0 k bt452.1 bt452.2 t458 (!t465))) else (laws_FnVotesFor.j0 k bt452.1 bt452.2 t458 true))))))
theorem laws_FnVotesFor.mono_l : ∀ k,(∀ y0 y1 y2 y3,LeO (laws_FnVotesFor.j0 k y0 y1 y2 y3) (laws_FnVotesFor.j0 (k + 1) y0 y1 y2 y3)) ∧ (∀ y0 y1 y2 y3 y4,LeO (laws_FnVotesFor.l0 k y0 y1 y2 y3 y4) (laws_FnVotesFor.l0 (k + 1) y0 y1 y2 y3 y4))
 | 0 => ⟨fun _ _ _ _ r h => by simp [laws_FnVotesFor.j0] at h,fun _ _ _ _ _ r h => by simp [laws_FnVotesFor.l0] at h⟩
 | k + 1 => by
  obtain ⟨ih0,ih1⟩:=laws_FnVotesFor.mono_l k
  refine ⟨?_,?_⟩
  ·intro y0 y1 y2 y3
   unfold laws_FnVotesFor.j0
   repeat' first
   | (with_reducible exact ih0 _ _ _ _)
   | (with_reducible exact ih1 _ _ _ _ _)
   | (with_reducible exact impl_VotesFor.mono _ _ _)
   | (with_reducible exact laws_lwBack.mono _ _)
   | (with_reducible exact laws_lwHas.mono _ _ _ _)
   | (with_reducible exact laws_lwInts.mono _ _ _)
   | (with_reducible exact spec_DrawVotesFor.mono _ _)
   | (with_reducible exact spec_VotesFor.mono _ _ _)
   | (with_reducible exact spec_VotesOk.mono _ _)
   | (with_reducible exact LeO.refl _)
   | (with_reducible exact LeO.none _)
   | (with_reducible refine LeO.ite ?_ ?_)
   | (with_reducible refine LeO.bind ?_ (fun _ => ?_))
   | exact ih0 _ _ _ _
   | exact ih1 _ _ _ _ _
   | exact impl_VotesFor.mono _ _ _
   | exact laws_lwBack.mono _ _
   | exact laws_lwHas.mono _ _ _ _
   | exact laws_lwInts.mono _ _ _
   | exact spec_DrawVotesFor.mono _ _
   | exact spec_VotesFor.mono _ _ _
   | exact spec_VotesOk.mono _ _
   | exact LeO.none _
   | refine LeO.ite ?_ ?_
   | refine LeO.bind ?_ (fun _ => ?_)
  ·intro y0 y1 y2 y3 y4
   unfold laws_FnVotesFor.l0
   repeat' first
   | (with_reducible exact ih0 _ _ _ _)
   | (with_reducible exact ih1 _ _ _ _ _)
   | (with_reducible exact impl_VotesFor.mono _ _ _)
   | (with_reducible exact laws_lwBack.mono _ _)
   | (with_reducible exact laws_lwHas.mono _ _ _ _)
   | (with_reducible exact laws_lwInts.mono _ _ _)
   | (with_reducible exact spec_DrawVotesFor.mono _ _)
   | (with_reducible exact spec_VotesFor.mono _ _ _)
   | (with_reducible exact spec_VotesOk.mono _ _)
   | (with_reducible exact LeO.refl _)
   | (with_reducible exact LeO.none _)
   | (with_reducible refine LeO.ite ?_ ?_)
   | (with_reducible refine LeO.bind ?_ (fun _ => ?_))
   | exact ih0 _ _ _ _
   | exact ih1 _ _ _ _ _
   | exact impl_VotesFor.mono _ _ _
   | exact laws_lwBack.mono _ _
   | exact laws_lwHas.mono _ _ _ _
   | exact laws_lwInts.mono _ _ _
   | exact spec_DrawVotesFor.mono _ _
   | exact spec_VotesFor.mono _ _ _
   | exact spec_VotesOk.mono _ _
   | exact LeO.none _
   | refine LeO.ite ?_ ?_
   | refine LeO.bind ?_ (fun _ => ?_)
theorem laws_FnVotesFor.mono : ∀ a0 k,LeO (laws_FnVotesFor.f k a0) (laws_FnVotesFor.f (k + 1) a0):=by
 intro a0 k
 obtain ⟨ih0,ih1⟩:=laws_FnVotesFor.mono_l k
 unfold laws_FnVotesFor.f
 repeat' first
   | (with_reducible exact ih0 _ _ _ _)
   | (with_reducible exact ih1 _ _ _ _ _)
   | (with_reducible exact impl_VotesFor.mono _ _ _)
   | (with_reducible exact laws_lwBack.mono _ _)
   | (with_reducible exact laws_lwHas.mono _ _ _ _)
   | (with_reducible exact laws_lwInts.mono _ _ _)
   | (with_reducible exact spec_DrawVotesFor.mono _ _)
   | (with_reducible exact spec_VotesFor.mono _ _ _)
   | (with_reducible exact spec_VotesOk.mono _ _)
   | (with_reducible exact LeO.refl _)
   | (with_reducible exact LeO.none _)
   | (with_reducible refine LeO.ite ?_ ?_)
   | (with_reducible refine LeO.bind ?_ (fun _ => ?_))
   | exact ih0 _ _ _ _
   | exact ih1 _ _ _ _ _
   | exact impl_VotesFor.mono _ _ _
   | exact laws_lwBack.mono _ _
   | exact laws_lwHas.mono _ _ _ _
   | exact laws_lwInts.mono _ _ _
   | exact spec_DrawVotesFor.mono _ _
   | exact spec_VotesFor.mono _ _ _
   | exact spec_VotesOk.mono _ _
   | exact LeO.none _
   | refine LeO.ite ?_ ?_
   | refine LeO.bind ?_ (fun _ => ?_)
set_option maxHeartbeats 8000000 in
set_option maxRecDepth 100000 in
theorem laws_FnVotesFor.calls (k : Nat) (A0 : Option Addr) (c0 : Nat) (l0 : List Int) (r : Bool) (w : World) (hr0 : Kd.C (Kd.int .u8) w A0 l0.length l0) (hc0 : l0.length ≤ c0) (h : laws_FnVotesFor.f k l0 = some r) :
  Calls Try.prog 9 #[.slice A0 l0.length c0] w fun e w' => e = .returned (.bool r) ∧ Below w.heap.size w w':=by
 have hu48:=Try.underlying48
 have HR0:=aM hr0
 have HC0:=aM hc0
 clear hr0 hc0
 have HB:=aM (Below.refl w.heap.size w)
 have H : (if (l0.length : Int) > 1048576 then (some true) else ((spec_DrawVotesFor.f k l0).bind fun bt452 => ((impl_VotesFor.f k bt452.1 bt452.2).bind fun t458 => ((spec_VotesFor.f k bt452.1 bt452.2).bind fun t461 => ((laws_lwInts.f k t458 t461).bind fun t464 => (if t464 = true then ((spec_VotesOk.f k bt452.1).bind fun t465 => (laws_FnVotesFor.j0 k bt452.1 bt452.2 t458 (!t465))) else (laws_FnVotesFor.j0 k bt452.1 bt452.2 t458 true))))))) = some r:=h
 clear h
 by_cases c2 : (l0.length : Int) > 1048576
 ·rw [if_pos c2] at H
  have c2b0 : decide (1048576 < (l0.length : Int)) = true:=decide_eq_true c2
  have c2b1 : decide (1048576 < l0.length) = true:=decide_eq_true (by omega)
  clear c2
  obtain rfl:=Option.some.inj H
  go_enter Try.func9,Try.ntmps9
  go_wp2
  go_ret
  exact ⟨by first|rfl|(simp only [i64_w,i32_w];done)|(simp only [i64_w,i32_w];rfl)|(simp [errW_none,errW_some] <;> rfl)|(simp [*,errW_none,errW_some] <;> rfl),by repeat (first|(with_reducible first|exact HB.out|apply bA|apply bN|apply bD)|exact HB.out)⟩
 ·rw [if_neg c2] at H
  have c2b0 : decide (1048576 < (l0.length : Int)) = false:=decide_eq_false c2
  have c2b1 : decide (1048576 < l0.length) = false:=decide_eq_false (by omega)
  clear c2
  replace H:=Option.bind_eq_some_iff.mp H
  obtain ⟨⟨t452,t455⟩,A30,H⟩:=H
  replace H : ((impl_VotesFor.f k t452 t455).bind fun t458 => ((spec_VotesFor.f k t452 t455).bind fun t461 => ((laws_lwInts.f k t458 t461).bind fun t464 => (if t464 = true then ((spec_VotesOk.f k t452).bind fun t465 => (laws_FnVotesFor.j0 k t452 t455 t458 (!t465))) else (laws_FnVotesFor.j0 k t452 t455 t458 true))))) = some r:=H
  have A3:=aM A30
  clear A30
  replace H:=Option.bind_eq_some_iff.mp H
  obtain ⟨t458,A40,H⟩:=H
  replace H : ((spec_VotesFor.f k t452 t455).bind fun t461 => ((laws_lwInts.f k t458 t461).bind fun t464 => (if t464 = true then ((spec_VotesOk.f k t452).bind fun t465 => (laws_FnVotesFor.j0 k t452 t455 t458 (!t465))) else (laws_FnVotesFor.j0 k t452 t455 t458 true)))) = some r:=H
  have A4:=aM A40
  clear A40
  have HC5:=aM H
  clear H
  go_enter Try.func9,Try.ntmps9
  go_upto_region 5 with (first|((with_reducible refine gate_callee (f:=28) rfl ?_);refine goesL_ (some 13) rfl rfl Try.func28 (by kernel_rfl) rfl #[.slice A0 l0.length c0] rfl (by (try simp only [List.map_toArray,List.map_cons,List.map_nil]);first|done|rfl|(simp only [List.length_drop,List.length_take];rfl)) ?_;(with_reducible refine (spec_DrawVotesFor.calls k _ _ l0 t452 t455 _ ?side1 ?side2 A3.out).mono ?_);(case side1 => repeat (first|exact HR0.out|(with_reducible refine Kd.C_alloc ?_ _)|(with_reducible refine Kd.C_drewN ?_ _)|(with_reducible refine Kd.C_drew ?_)));(case side2 => exact HC0.out);rintro e w6 ⟨v453,v456,rfl,ho0,ho1,hb⟩;refine ⟨_,rfl,?_⟩;have n0_:=aM (Kd.N_lower (Kd.N_mono (ok':=fun k_ => some k_ ≠ (v456 : Value).ownBlock) ho0 (fun k_ hk_ => hk_.2)) (below_size (by repeat (first|(with_reducible first|exact HB.out|apply bA|apply bN|apply bD)|exact HB.out))));have n1_:=aM (Kd.R_lower (Kd.R_mono (ok':=fun k_ => True) ho1 (fun _ hk_ => trivial)) (below_size (by repeat (first|(with_reducible first|exact HB.out|apply bA|apply bN|apply bD)|exact HB.out))));have n2_:=aM (below_step (by repeat (first|(with_reducible first|exact HB.out|apply bA|apply bN|apply bD)|exact HB.out)) hb);clear HB;have HO454:=n0_;have HO457:=n1_;have HB:=n2_;clear n0_ n1_ n2_;(try clear hb);(try clear hb2);(try clear hk);(try clear hi);(try clear ho0);(try clear ho1);obtain ⟨Ao7,co7,eo7⟩:=Kd.N_slice HO454.out;subst eo7;obtain ⟨Ao8,co8,eo8⟩:=Kd.R_slice HO457.out;subst eo8)|((with_reducible refine gate_callee (f:=19) rfl ?_);refine goesL_ (some 18) rfl rfl Try.func19 (by kernel_rfl) rfl #[.slice Ao7 t452.length co7,.slice Ao8 t455.length co8] rfl (by (try simp only [List.map_toArray,List.map_cons,List.map_nil]);first|done|rfl|(simp only [List.length_drop,List.length_take];rfl)) ?_;(with_reducible refine (impl_VotesFor.calls k _ _ t452 _ _ t455 t458 _ ?side1 ?side2 ?side3 ?side4 A4.out).mono ?_);(case side1 => repeat (first|exact (Kd.N_reads' HO454.out).2.2|(with_reducible refine Kd.C_alloc ?_ _)|(with_reducible refine Kd.C_drewN ?_ _)|(with_reducible refine Kd.C_drew ?_)));(case side2 => exact (Kd.N_reads' HO454.out).2.1);(case side3 => repeat (first|exact (Kd.R_reads' HO457.out).2.2|(with_reducible refine Kd.C_alloc ?_ _)|(with_reducible refine Kd.C_drewN ?_ _)|(with_reducible refine Kd.C_drew ?_)));(case side4 => exact (Kd.R_reads' HO457.out).2.1);rintro e w9 ⟨v459,rfl,ho0,hb⟩;refine ⟨_,rfl,?_⟩;have n0_:=aM (Kd.N_below (by (with_reducible repeat (first|apply Kd.N_alloc|apply Kd.N_drewN|apply Kd.N_drew));exact HO454.out) hb);have n1_:=aM (Kd.R_below (by (with_reducible repeat (first|apply Kd.R_alloc|apply Kd.R_drewN|apply Kd.R_drew));exact HO457.out) hb);have n2_:=aM (Kd.V_lower (Kd.V_mono (ok':=fun k_ => some k_ ≠ (.slice Ao7 t452.length co7 : Value).ownBlock ∧ some k_ ≠ (.slice Ao8 t455.length co8 : Value).ownBlock) ho0 (fun k_ hk_ => ⟨(Kd.fresh' (Kd.N_lt (by (with_reducible repeat (first|apply Kd.N_alloc|apply Kd.N_drewN|apply Kd.N_drew));exact HO454.out)) k_ hk_),(Kd.fresh' (Kd.R_lt (by (with_reducible repeat (first|apply Kd.R_alloc|apply Kd.R_drewN|apply Kd.R_drew));exact HO457.out)) k_ hk_)⟩)) (below_size (by repeat (first|(with_reducible first|exact HB.out|apply bA|apply bN|apply bD)|exact HB.out))));have n3_:=aM (below_step (by repeat (first|(with_reducible first|exact HB.out|apply bA|apply bN|apply bD)|exact HB.out)) hb);clear HO454;clear HO457;clear HB;have HO454:=n0_;have HO457:=n1_;have HO460:=n2_;have HB:=n3_;clear n0_ n1_ n2_ n3_;(try clear hb);(try clear hb2);(try clear hk);(try clear hi);(try clear ho0)))
  (try simp only [Act.put,sI,sZ,sS])
  go_cut [29] (fun v29 wc => ∃ (kq : Nat) (x29_4 : Bool),v29 = .bool x29_4 ∧ Aside0 (laws_FnVotesFor.j0 kq t452 t455 t458 x29_4 = some r) ∧ Aside0 (kq ≤ k) ∧ Aside0 (Kd.N k48 48 wc w.heap.size (fun k_ => some k_ ≠ ((.slice Ao8 t455.length co8) : Value).ownBlock) (.slice Ao7 t452.length co7) t452) ∧ Aside0 (Kd.R k58 58 wc w.heap.size (fun _ => True) (.slice Ao8 t455.length co8) t455) ∧ Aside0 (Kd.V (Kd.int .i64) 3 wc w.heap.size (fun k_ => some k_ ≠ ((.slice Ao7 t452.length co7) : Value).ownBlock ∧ some k_ ≠ ((.slice Ao8 t455.length co8) : Value).ownBlock) v459 t458) ∧ Aside0 (Below w.heap.size w wc))
  case first =>
   have H:=HC5.out
   clear HC5
   replace H:=Option.bind_eq_some_iff.mp H
   obtain ⟨t461,A100,H⟩:=H
   replace H : ((laws_lwInts.f k t458 t461).bind fun t464 => (if t464 = true then ((spec_VotesOk.f k t452).bind fun t465 => (laws_FnVotesFor.j0 k t452 t455 t458 (!t465))) else (laws_FnVotesFor.j0 k t452 t455 t458 true))) = some r:=H
   have A10:=aM A100
   clear A100
   replace H:=Option.bind_eq_some_iff.mp H
   obtain ⟨t464,A110,H⟩:=H
   replace H : (if t464 = true then ((spec_VotesOk.f k t452).bind fun t465 => (laws_FnVotesFor.j0 k t452 t455 t458 (!t465))) else (laws_FnVotesFor.j0 k t452 t455 t458 true)) = some r:=H
   have A11:=aM A110
   clear A110
   by_cases c12 : t464 = true
   ·subst c12
    have H1 : ((spec_VotesOk.f k t452).bind fun t465 => (laws_FnVotesFor.j0 k t452 t455 t458 (!t465))) = some r:=by rw [if_pos rfl] at H;exact H
    clear H
    have H:=H1
    clear H1
    replace H:=Option.bind_eq_some_iff.mp H
    obtain ⟨t465,A130,H⟩:=H
    replace H : (laws_FnVotesFor.j0 k t452 t455 t458 (!t465)) = some r:=H
    have A13:=aM A130
    clear A130
    have H':=aM H
    clear H
    go_wp2_with (first|((with_reducible refine gate_callee (f:=18) rfl ?_);refine goesL_ (some 22) rfl rfl Try.func18 (by kernel_rfl) rfl #[.slice Ao7 t452.length co7,.slice Ao8 t455.length co8] rfl (by (try simp only [List.map_toArray,List.map_cons,List.map_nil]);first|done|rfl|(simp only [List.length_drop,List.length_take];rfl)) ?_;(with_reducible refine (spec_VotesFor.calls k _ _ t452 _ _ t455 t461 _ ?side1 ?side2 ?side3 ?side4 A10.out).mono ?_);(case side1 => repeat (first|exact (Kd.N_reads' HO454.out).2.2|(with_reducible refine Kd.C_alloc ?_ _)|(with_reducible refine Kd.C_drewN ?_ _)|(with_reducible refine Kd.C_drew ?_)));(case side2 => exact (Kd.N_reads' HO454.out).2.1);(case side3 => repeat (first|exact (Kd.R_reads' HO457.out).2.2|(with_reducible refine Kd.C_alloc ?_ _)|(with_reducible refine Kd.C_drewN ?_ _)|(with_reducible refine Kd.C_drew ?_)));(case side4 => exact (Kd.R_reads' HO457.out).2.1);rintro e w14 ⟨v462,rfl,ho0,hb⟩;refine ⟨_,rfl,?_⟩;have n0_:=aM (Kd.N_elder' (by (with_reducible repeat (first|apply Kd.N_alloc|apply Kd.N_drewN|apply Kd.N_drew));exact HO454.out) (Kd.R_base ho0) hb);have n1_:=aM (Kd.R_below (by (with_reducible repeat (first|apply Kd.R_alloc|apply Kd.R_drewN|apply Kd.R_drew));exact HO457.out) hb);have n2_:=aM (Kd.V_elder' (by (with_reducible repeat (first|apply Kd.V_alloc|apply Kd.V_drewN|apply Kd.V_drew));exact HO460.out) (Kd.R_base ho0) hb);have n3_:=aM (Kd.R_lower ho0 (below_size (by repeat (first|(with_reducible first|exact HB.out|apply bA|apply bN|apply bD)|exact HB.out))));have n4_:=aM (below_step (by repeat (first|(with_reducible first|exact HB.out|apply bA|apply bN|apply bD)|exact HB.out)) hb);clear HO454;clear HO457;clear HO460;clear HB;have HO454:=n0_;have HO457:=n1_;have HO460:=n2_;have HO463:=n3_;have HB:=n4_;clear n0_ n1_ n2_ n3_ n4_;(try clear hb);(try clear hb2);(try clear hk);(try clear hi);(try clear ho0);obtain ⟨Ao15,co15,eo15⟩:=Kd.V_slice HO460.out;subst eo15;obtain ⟨Ao16,co16,eo16⟩:=Kd.R_slice HO463.out;subst eo16)|((with_reducible refine gate_callee (f:=29) rfl ?_);refine goesL_ (some 23) rfl rfl Try.func29 (by kernel_rfl) rfl #[.slice Ao15 t458.length co15,.slice Ao16 t461.length co16] rfl (by (try simp only [List.map_toArray,List.map_cons,List.map_nil]);first|done|rfl|(simp only [List.length_drop,List.length_take];rfl)) ?_;(with_reducible refine (laws_lwInts.calls k _ _ t458 _ _ t461 true _ ?side1 ?side2 ?side3 ?side4 A11.out).mono ?_);(case side1 => repeat (first|exact (Kd.V_reads' HO460.out).2.2|(with_reducible refine Kd.C_alloc ?_ _)|(with_reducible refine Kd.C_drewN ?_ _)|(with_reducible refine Kd.C_drew ?_)));(case side2 => exact (Kd.V_reads' HO460.out).2.1);(case side3 => repeat (first|exact (Kd.R_reads' HO463.out).2.2|(with_reducible refine Kd.C_alloc ?_ _)|(with_reducible refine Kd.C_drewN ?_ _)|(with_reducible refine Kd.C_drew ?_)));(case side4 => exact (Kd.R_reads' HO463.out).2.1);rintro e w' ⟨rfl,⟨nd,rfl⟩⟩;refine ⟨_,rfl,?_⟩)|(go_at_call 26;(with_reducible refine (spec_VotesOk.calls k _ _ t452 t465 _ ?side1 ?side2 A13.out).mono ?_);(case side1 => repeat (first|exact (Kd.N_reads' HO454.out).2.2|(with_reducible refine Kd.C_alloc ?_ _)|(with_reducible refine Kd.C_drewN ?_ _)|(with_reducible refine Kd.C_drew ?_)));(case side2 => exact (Kd.N_reads' HO454.out).2.1);rintro e w17 ⟨rfl,hb⟩;have n0_:=aM (Kd.N_below (by (with_reducible repeat (first|apply Kd.N_alloc|apply Kd.N_drewN|apply Kd.N_drew));exact HO454.out) hb);have n1_:=aM (Kd.R_below (by (with_reducible repeat (first|apply Kd.R_alloc|apply Kd.R_drewN|apply Kd.R_drew));exact HO457.out) hb);have n2_:=aM (Kd.V_below (by (with_reducible repeat (first|apply Kd.V_alloc|apply Kd.V_drewN|apply Kd.V_drew));exact HO460.out) hb);have n3_:=aM (Kd.R_below (by (with_reducible repeat (first|apply Kd.R_alloc|apply Kd.R_drewN|apply Kd.R_drew));exact HO463.out) hb);have n4_:=aM (below_step (by repeat (first|(with_reducible first|exact HB.out|apply bA|apply bN|apply bD)|exact HB.out)) hb);clear HO454;clear HO457;clear HO460;clear HO463;clear HB;have HO454:=n0_;have HO457:=n1_;have HO460:=n2_;have HO463:=n3_;have HB:=n4_;clear n0_ n1_ n2_ n3_ n4_;(try clear hb);(try clear hb2);(try clear hk);(try clear hi)))
    go_meet
    case rel => exact ⟨_,(!t465),(by first|rfl|(simp;done)|(simp [*];done)),H',⟨by first|omega|exact Nat.le_refl _⟩,⟨by (with_reducible repeat (first|apply Kd.N_alloc|apply Kd.N_drewN|apply Kd.N_drew));exact Kd.N_mono HO454.out (fun _ hk => hk.1)⟩,⟨by (with_reducible repeat (first|apply Kd.R_alloc|apply Kd.R_drewN|apply Kd.R_drew));exact HO457.out⟩,⟨by (with_reducible repeat (first|apply Kd.V_alloc|apply Kd.V_drewN|apply Kd.V_drew));exact Kd.V_mono HO460.out (fun _ hk => ⟨hk.1.1,hk.1.2⟩)⟩,⟨by repeat (first|(with_reducible first|exact HB.out|apply bA|apply bN|apply bD)|exact HB.out)⟩⟩
   ·replace c12:=Bool.eq_false_iff.mpr c12
    subst c12
    have H1 : (laws_FnVotesFor.j0 k t452 t455 t458 true) = some r:=by rw [if_neg (show ¬ (false = true) by decide)] at H;exact H
    clear H
    have H:=H1
    clear H1
    have H':=aM H
    clear H
    go_wp2_with (first|((with_reducible refine gate_callee (f:=18) rfl ?_);refine goesL_ (some 22) rfl rfl Try.func18 (by kernel_rfl) rfl #[.slice Ao7 t452.length co7,.slice Ao8 t455.length co8] rfl (by (try simp only [List.map_toArray,List.map_cons,List.map_nil]);first|done|rfl|(simp only [List.length_drop,List.length_take];rfl)) ?_;(with_reducible refine (spec_VotesFor.calls k _ _ t452 _ _ t455 t461 _ ?side1 ?side2 ?side3 ?side4 A10.out).mono ?_);(case side1 => repeat (first|exact (Kd.N_reads' HO454.out).2.2|(with_reducible refine Kd.C_alloc ?_ _)|(with_reducible refine Kd.C_drewN ?_ _)|(with_reducible refine Kd.C_drew ?_)));(case side2 => exact (Kd.N_reads' HO454.out).2.1);(case side3 => repeat (first|exact (Kd.R_reads' HO457.out).2.2|(with_reducible refine Kd.C_alloc ?_ _)|(with_reducible refine Kd.C_drewN ?_ _)|(with_reducible refine Kd.C_drew ?_)));(case side4 => exact (Kd.R_reads' HO457.out).2.1);rintro e w18 ⟨v462,rfl,ho0,hb⟩;refine ⟨_,rfl,?_⟩;have n0_:=aM (Kd.N_elder' (by (with_reducible repeat (first|apply Kd.N_alloc|apply Kd.N_drewN|apply Kd.N_drew));exact HO454.out) (Kd.R_base ho0) hb);have n1_:=aM (Kd.R_below (by (with_reducible repeat (first|apply Kd.R_alloc|apply Kd.R_drewN|apply Kd.R_drew));exact HO457.out) hb);have n2_:=aM (Kd.V_elder' (by (with_reducible repeat (first|apply Kd.V_alloc|apply Kd.V_drewN|apply Kd.V_drew));exact HO460.out) (Kd.R_base ho0) hb);have n3_:=aM (Kd.R_lower ho0 (below_size (by repeat (first|(with_reducible first|exact HB.out|apply bA|apply bN|apply bD)|exact HB.out))));have n4_:=aM (below_step (by repeat (first|(with_reducible first|exact HB.out|apply bA|apply bN|apply bD)|exact HB.out)) hb);clear HO454;clear HO457;clear HO460;clear HB;have HO454:=n0_;have HO457:=n1_;have HO460:=n2_;have HO463:=n3_;have HB:=n4_;clear n0_ n1_ n2_ n3_ n4_;(try clear hb);(try clear hb2);(try clear hk);(try clear hi);(try clear ho0);obtain ⟨Ao19,co19,eo19⟩:=Kd.V_slice HO460.out;subst eo19;obtain ⟨Ao20,co20,eo20⟩:=Kd.R_slice HO463.out;subst eo20)|((with_reducible refine gate_callee (f:=29) rfl ?_);refine goesL_ (some 23) rfl rfl Try.func29 (by kernel_rfl) rfl #[.slice Ao19 t458.length co19,.slice Ao20 t461.length co20] rfl (by (try simp only [List.map_toArray,List.map_cons,List.map_nil]);first|done|rfl|(simp only [List.length_drop,List.length_take];rfl)) ?_;(with_reducible refine (laws_lwInts.calls k _ _ t458 _ _ t461 false _ ?side1 ?side2 ?side3 ?side4 A11.out).mono ?_);(case side1 => repeat (first|exact (Kd.V_reads' HO460.out).2.2|(with_reducible refine Kd.C_alloc ?_ _)|(with_reducible refine Kd.C_drewN ?_ _)|(with_reducible refine Kd.C_drew ?_)));(case side2 => exact (Kd.V_reads' HO460.out).2.1);(case side3 => repeat (first|exact (Kd.R_reads' HO463.out).2.2|(with_reducible refine Kd.C_alloc ?_ _)|(with_reducible refine Kd.C_drewN ?_ _)|(with_reducible refine Kd.C_drew ?_)));(case side4 => exact (Kd.R_reads' HO463.out).2.1);rintro e w' ⟨rfl,⟨nd,rfl⟩⟩;refine ⟨_,rfl,?_⟩))
    go_meet
    case rel => exact ⟨_,(true),(by first|rfl|(simp;done)|(simp [*];done)),H',⟨by first|omega|exact Nat.le_refl _⟩,⟨by (with_reducible repeat (first|apply Kd.N_alloc|apply Kd.N_drewN|apply Kd.N_drew));exact Kd.N_mono HO454.out (fun _ hk => hk.1)⟩,⟨by (with_reducible repeat (first|apply Kd.R_alloc|apply Kd.R_drewN|apply Kd.R_drew));exact HO457.out⟩,⟨by (with_reducible repeat (first|apply Kd.V_alloc|apply Kd.V_drewN|apply Kd.V_drew));exact Kd.V_mono HO460.out (fun _ hk => ⟨hk.1.1,hk.1.2⟩)⟩,⟨by repeat (first|(with_reducible first|exact HB.out|apply bA|apply bN|apply bD)|exact HB.out)⟩⟩
  case rest =>
   clear HC5
   try clear c1
   try clear c2
   try clear c2b0
   try clear c2b1
   try clear p2
   try clear c9
   try clear c12
   try clear c18
   try clear c19
   obtain ⟨kq,x29_4,rfl,HA,HJ4,HO_3,HO_4,HO_5,HB⟩:=hcut
   cases kq with
   | zero => exact absurd HA.out (by simp [laws_FnVotesFor.j0])
   | succ kj4 =>
    have H:=HA.out
    clear HA
    simp only [laws_FnVotesFor.j0] at H
    by_cases c21 : x29_4 = true
    ·subst c21
     have H1 : ((spec_VotesFor.f kj4 t452 t455).bind fun t466 => ((laws_lwInts.f kj4 t458 t466).bind fun t469 => (some t469))) = some r:=by rw [if_pos rfl] at H;exact H
     clear H
     have H:=H1
     clear H1
     replace H:=Option.bind_eq_some_iff.mp H
     obtain ⟨t466,A220,H⟩:=H
     replace H : ((laws_lwInts.f kj4 t458 t466).bind fun t469 => (some t469)) = some r:=H
     have A22:=aM A220
     clear A220
     replace H:=Option.bind_eq_some_iff.mp H
     obtain ⟨t469,A230,H⟩:=H
     replace H : (some t469) = some r:=H
     have A23:=aM A230
     clear A230
     obtain rfl:=Option.some.inj H
     go_wp2_with (first|((with_reducible refine gate_callee (f:=18) rfl ?_);refine goesL_ (some 33) rfl rfl Try.func18 (by kernel_rfl) rfl #[.slice Ao7 t452.length co7,.slice Ao8 t455.length co8] rfl (by (try simp only [List.map_toArray,List.map_cons,List.map_nil]);first|done|rfl|(simp only [List.length_drop,List.length_take];rfl)) ?_;(with_reducible refine (spec_VotesFor.calls kj4 _ _ t452 _ _ t455 t466 _ ?side1 ?side2 ?side3 ?side4 A22.out).mono ?_);(case side1 => repeat (first|exact (Kd.N_reads' HO_3.out).2.2|(with_reducible refine Kd.C_alloc ?_ _)|(with_reducible refine Kd.C_drewN ?_ _)|(with_reducible refine Kd.C_drew ?_)));(case side2 => exact (Kd.N_reads' HO_3.out).2.1);(case side3 => repeat (first|exact (Kd.R_reads' HO_4.out).2.2|(with_reducible refine Kd.C_alloc ?_ _)|(with_reducible refine Kd.C_drewN ?_ _)|(with_reducible refine Kd.C_drew ?_)));(case side4 => exact (Kd.R_reads' HO_4.out).2.1);rintro e w24 ⟨v467,rfl,ho0,hb⟩;refine ⟨_,rfl,?_⟩;have n0_:=aM (Kd.N_elder' (by (with_reducible repeat (first|apply Kd.N_alloc|apply Kd.N_drewN|apply Kd.N_drew));exact HO_3.out) (Kd.R_base ho0) hb);have n1_:=aM (Kd.R_below (by (with_reducible repeat (first|apply Kd.R_alloc|apply Kd.R_drewN|apply Kd.R_drew));exact HO_4.out) hb);have n2_:=aM (Kd.V_elder' (by (with_reducible repeat (first|apply Kd.V_alloc|apply Kd.V_drewN|apply Kd.V_drew));exact HO_5.out) (Kd.R_base ho0) hb);have n3_:=aM (Kd.R_lower ho0 (below_size (by repeat (first|(with_reducible first|exact HB.out|apply bA|apply bN|apply bD)|exact HB.out))));have n4_:=aM (below_step (by repeat (first|(with_reducible first|exact HB.out|apply bA|apply bN|apply bD)|exact HB.out)) hb);clear HO_3;clear HO_4;clear HO_5;clear HB;have HO_3:=n0_;have HO_4:=n1_;have HO_5:=n2_;have HO468:=n3_;have HB:=n4_;clear n0_ n1_ n2_ n3_ n4_;(try clear hb);(try clear hb2);(try clear hk);(try clear hi);(try clear ho0);obtain ⟨Ao25,co25,eo25⟩:=Kd.V_slice HO_5.out;subst eo25;obtain ⟨Ao26,co26,eo26⟩:=Kd.R_slice HO468.out;subst eo26)|((with_reducible refine gate_callee (f:=29) rfl ?_);refine goesL_ (some 34) rfl rfl Try.func29 (by kernel_rfl) rfl #[.slice Ao25 t458.length co25,.slice Ao26 t466.length co26] rfl (by (try simp only [List.map_toArray,List.map_cons,List.map_nil]);first|done|rfl|(simp only [List.length_drop,List.length_take];rfl)) ?_;(with_reducible refine (laws_lwInts.calls kj4 _ _ t458 _ _ t466 t469 _ ?side1 ?side2 ?side3 ?side4 A23.out).mono ?_);(case side1 => repeat (first|exact (Kd.V_reads' HO_5.out).2.2|(with_reducible refine Kd.C_alloc ?_ _)|(with_reducible refine Kd.C_drewN ?_ _)|(with_reducible refine Kd.C_drew ?_)));(case side2 => exact (Kd.V_reads' HO_5.out).2.1);(case side3 => repeat (first|exact (Kd.R_reads' HO468.out).2.2|(with_reducible refine Kd.C_alloc ?_ _)|(with_reducible refine Kd.C_drewN ?_ _)|(with_reducible refine Kd.C_drew ?_)));(case side4 => exact (Kd.R_reads' HO468.out).2.1);rintro e w' ⟨rfl,⟨nd,rfl⟩⟩;refine ⟨_,rfl,?_⟩))
     go_ret
     exact ⟨by first|rfl|(simp only [i64_w,i32_w];done)|(simp only [i64_w,i32_w];rfl)|(simp [errW_none,errW_some] <;> rfl)|(simp [*,errW_none,errW_some] <;> rfl),by repeat (first|(with_reducible first|exact HB.out|apply bA|apply bN|apply bD)|exact HB.out)⟩
    ·replace c21:=Bool.eq_false_iff.mpr c21
     subst c21
     have H1 : (laws_FnVotesFor.l0 kj4 t452 t455 t458 0 1) = some r:=by rw [if_neg (show ¬ (false = true) by decide)] at H;exact H
     clear H
     have H:=H1
     clear H1
     have H':=aM H
     clear H
     go_wp2
     go_loopg [6,7] kj4 (fun kq v6 v7 w' => ∃ (x6_2 : Int) (x7_2 : Int),v6 = .int .i64 x6_2 ∧ v7 = .int .i64 x7_2 ∧ Aside0 (laws_FnVotesFor.l0 kq t452 t455 t458 x6_2 x7_2 = some r) ∧ Aside0 (kq ≤ kj4) ∧ Aside0 (Kd.N k48 48 w' w.heap.size (fun k_ => some k_ ≠ ((.slice Ao8 t455.length co8) : Value).ownBlock) (.slice Ao7 t452.length co7) t452) ∧ Aside0 (Kd.R k58 58 w' w.heap.size (fun _ => True) (.slice Ao8 t455.length co8) t455) ∧ Aside0 (Kd.V (Kd.int .i64) 3 w' w.heap.size (fun k_ => some k_ ≠ ((.slice Ao7 t452.length co7) : Value).ownBlock ∧ some k_ ≠ ((.slice Ao8 t455.length co8) : Value).ownBlock) v459 t458) ∧ Aside0 (Below w.heap.size w w'))
     case atStart => exact ⟨(0),(1),(by first|rfl|(simp;done)|(simp [*];done)),(by first|rfl|(simp;done)|(simp [*];done)),H',⟨Nat.le_refl _⟩,⟨by (with_reducible repeat (first|apply Kd.N_alloc|apply Kd.N_drewN|apply Kd.N_drew));exact HO_3.out⟩,⟨by (with_reducible repeat (first|apply Kd.R_alloc|apply Kd.R_drewN|apply Kd.R_drew));exact HO_4.out⟩,⟨by (with_reducible repeat (first|apply Kd.V_alloc|apply Kd.V_drewN|apply Kd.V_drew));exact HO_5.out⟩,⟨by repeat (first|(with_reducible first|exact HB.out|apply bA|apply bN|apply bD)|exact HB.out)⟩⟩
     case round =>
      clear H'
      try clear c1
      try clear c2
      try clear c2b0
      try clear c2b1
      try clear p2
      try clear c9
      try clear c12
      try clear c18
      try clear c19
      try clear c21
      try clear p2
      obtain ⟨x6_2,x7_2,rfl,rfl,HA,HK2,HO_3,HO_4,HO_5,HB⟩:=hrel
      cases gk with
      | zero => exact absurd HA.out (by simp [laws_FnVotesFor.l0])
      | succ k2 =>
       have H:=HA.out
       clear HA
       simp only [laws_FnVotesFor.l0] at H
       by_cases c27 : x7_2 ≤ 4
       ·rw [if_pos c27] at H
        have c27b0 : decide (x7_2 ≤ 4) = true:=decide_eq_true c27
        clear c27
        replace H:=Option.bind_eq_some_iff.mp H
        obtain ⟨t477,A280,H⟩:=H
        replace H : (if t477 = true then (if x6_2 ≥ (t458.length : Int) then (some false) else (if 0 ≤ x6_2 then (if x6_2 < (t458.length : Int) then (if (rd t458 x6_2) = x7_2 then (laws_FnVotesFor.l0 k2 t452 t455 t458 (wrap64 (x6_2 + 1)) (wrap64 (x7_2 + 1))) else (some false)) else (none)) else (none))) else (laws_FnVotesFor.l0 k2 t452 t455 t458 x6_2 (wrap64 (x7_2 + 1)))) = some r:=H
        have A28:=aM A280
        clear A280
        by_cases c29 : t477 = true
        ·subst c29
         have H1 : (if x6_2 ≥ (t458.length : Int) then (some false) else (if 0 ≤ x6_2 then (if x6_2 < (t458.length : Int) then (if (rd t458 x6_2) = x7_2 then (laws_FnVotesFor.l0 k2 t452 t455 t458 (wrap64 (x6_2 + 1)) (wrap64 (x7_2 + 1))) else (some false)) else (none)) else (none))) = some r:=by rw [if_pos rfl] at H;exact H
         clear H
         have H:=H1
         clear H1
         by_cases c30 : x6_2 ≥ (t458.length : Int)
         ·rw [if_pos c30] at H
          have c30b0 : decide ((t458.length : Int) ≤ x6_2) = true:=decide_eq_true c30
          clear c30
          obtain rfl:=Option.some.inj H
          go_wp2_with (first|((with_reducible refine gate_callee (f:=31) rfl ?_);refine goesL_ (some 43) rfl rfl Try.func31 (by kernel_rfl) rfl #[.slice Ao7 t452.length co7,.agg #[.int .i64 x7_2,.slice Ao8 t455.length co8]] rfl (by (try simp only [List.map_toArray,List.map_cons,List.map_nil]);first|done|rfl|(simp only [List.length_drop,List.length_take];rfl)) ?_;(with_reducible refine (laws_lwHas.calls k2 _ _ t452 x7_2 _ _ t455 true _ ?side1 ?side2 ?side3 ?side4 A28.out).mono ?_);(case side1 => repeat (first|exact (Kd.N_reads' HO_3.out).2.2|(with_reducible refine Kd.C_alloc ?_ _)|(with_reducible refine Kd.C_drewN ?_ _)|(with_reducible refine Kd.C_drew ?_)));(case side2 => exact (Kd.N_reads' HO_3.out).2.1);(case side3 => repeat (first|exact (Kd.R_reads' HO_4.out).2.2|(with_reducible refine Kd.C_alloc ?_ _)|(with_reducible refine Kd.C_drewN ?_ _)|(with_reducible refine Kd.C_drew ?_)));(case side4 => exact (Kd.R_reads' HO_4.out).2.1);rintro e w31 ⟨rfl,hb⟩;refine ⟨_,rfl,?_⟩;have n0_:=aM (Kd.N_below (by (with_reducible repeat (first|apply Kd.N_alloc|apply Kd.N_drewN|apply Kd.N_drew));exact HO_3.out) hb);have n1_:=aM (Kd.R_below (by (with_reducible repeat (first|apply Kd.R_alloc|apply Kd.R_drewN|apply Kd.R_drew));exact HO_4.out) hb);have n2_:=aM (Kd.V_below (by (with_reducible repeat (first|apply Kd.V_alloc|apply Kd.V_drewN|apply Kd.V_drew));exact HO_5.out) hb);have n3_:=aM (below_step (by repeat (first|(with_reducible first|exact HB.out|apply bA|apply bN|apply bD)|exact HB.out)) hb);clear HO_3;clear HO_4;clear HO_5;clear HB;have HO_3:=n0_;have HO_4:=n1_;have HO_5:=n2_;have HB:=n3_;clear n0_ n1_ n2_ n3_;(try clear hb);(try clear hb2);(try clear hk);(try clear hi);obtain ⟨Ao32,co32,eo32⟩:=Kd.V_slice HO_5.out;subst eo32))
          go_ret
          exact ⟨by first|rfl|(simp only [i64_w,i32_w];done)|(simp only [i64_w,i32_w];rfl)|(simp [errW_none,errW_some] <;> rfl)|(simp [*,errW_none,errW_some] <;> rfl),by repeat (first|(with_reducible first|exact HB.out|apply bA|apply bN|apply bD)|exact HB.out)⟩
         ·rw [if_neg c30] at H
          have c30b0 : decide ((t458.length : Int) ≤ x6_2) = false:=decide_eq_false c30
          clear c30
          by_cases c33 : 0 ≤ x6_2
          case neg => rw [if_neg c33] at H;exact absurd H (by simp)
          rw [if_pos c33] at H
          have c33b0 : decide (0 ≤ x6_2) = true:=decide_eq_true c33
          clear c33
          by_cases c34 : x6_2 < (t458.length : Int)
          case neg => rw [if_neg c34] at H;exact absurd H (by simp)
          rw [if_pos c34] at H
          have c34b0 : decide (x6_2 < (t458.length : Int)) = true:=decide_eq_true c34
          clear c34
          by_cases c35 : (rd t458 x6_2) = x7_2
          ·rw [if_pos c35] at H
           have c35b0 : ((rd t458 x6_2) == x7_2) = true:=beq_iff_eq.mpr c35
           have c35b1 : ((rd t458 x6_2) != x7_2) = false:=bne_eq_false_iff_eq.mpr c35
           clear c35
           have H':=aM H
           clear H
           go_wp2_with (first|((with_reducible refine gate_callee (f:=31) rfl ?_);refine goesL_ (some 43) rfl rfl Try.func31 (by kernel_rfl) rfl #[.slice Ao7 t452.length co7,.agg #[.int .i64 x7_2,.slice Ao8 t455.length co8]] rfl (by (try simp only [List.map_toArray,List.map_cons,List.map_nil]);first|done|rfl|(simp only [List.length_drop,List.length_take];rfl)) ?_;(with_reducible refine (laws_lwHas.calls k2 _ _ t452 x7_2 _ _ t455 true _ ?side1 ?side2 ?side3 ?side4 A28.out).mono ?_);(case side1 => repeat (first|exact (Kd.N_reads' HO_3.out).2.2|(with_reducible refine Kd.C_alloc ?_ _)|(with_reducible refine Kd.C_drewN ?_ _)|(with_reducible refine Kd.C_drew ?_)));(case side2 => exact (Kd.N_reads' HO_3.out).2.1);(case side3 => repeat (first|exact (Kd.R_reads' HO_4.out).2.2|(with_reducible refine Kd.C_alloc ?_ _)|(with_reducible refine Kd.C_drewN ?_ _)|(with_reducible refine Kd.C_drew ?_)));(case side4 => exact (Kd.R_reads' HO_4.out).2.1);rintro e w36 ⟨rfl,hb⟩;refine ⟨_,rfl,?_⟩;have n0_:=aM (Kd.N_below (by (with_reducible repeat (first|apply Kd.N_alloc|apply Kd.N_drewN|apply Kd.N_drew));exact HO_3.out) hb);have n1_:=aM (Kd.R_below (by (with_reducible repeat (first|apply Kd.R_alloc|apply Kd.R_drewN|apply Kd.R_drew));exact HO_4.out) hb);have n2_:=aM (Kd.V_below (by (with_reducible repeat (first|apply Kd.V_alloc|apply Kd.V_drewN|apply Kd.V_drew));exact HO_5.out) hb);have n3_:=aM (below_step (by repeat (first|(with_reducible first|exact HB.out|apply bA|apply bN|apply bD)|exact HB.out)) hb);clear HO_3;clear HO_4;clear HO_5;clear HB;have HO_3:=n0_;have HO_4:=n1_;have HO_5:=n2_;have HB:=n3_;clear n0_ n1_ n2_ n3_;(try clear hb);(try clear hb2);(try clear hk);(try clear hi);obtain ⟨Ao37,co37,eo37⟩:=Kd.V_slice HO_5.out;subst eo37;have p478 : 0 ≤ (x6_2 : Int):=of_decide_eq_true (by first|(with_reducible assumption)|assumption);have q478 : x6_2 < (t458.length : Int):=of_decide_eq_true (by first|(with_reducible assumption)|assumption);obtain ⟨ad478,e478,hx478_0⟩:=Kd.at_int (Kd.V_reads' HO_5.out).2.2 x6_2 p478 q478;cases e478;replace p478:=eq_true p478;replace q478:=eq_true q478))
           go_roundg k2
           case measure => have:=HJ4.out;have:=HK2.out;omega
           case rel => exact ⟨(wrap64 (x6_2 + 1)),(wrap64 (x7_2 + 1)),(by first|rfl|(simp;done)|(simp [*];done)),(by first|rfl|(simp;done)|(simp [*];done)),H',⟨by have:=HJ4.out;have:=HK2.out;omega⟩,⟨by (with_reducible repeat (first|apply Kd.N_alloc|apply Kd.N_drewN|apply Kd.N_drew));exact HO_3.out⟩,⟨by (with_reducible repeat (first|apply Kd.R_alloc|apply Kd.R_drewN|apply Kd.R_drew));exact HO_4.out⟩,⟨by (with_reducible repeat (first|apply Kd.V_alloc|apply Kd.V_drewN|apply Kd.V_drew));exact HO_5.out⟩,⟨by repeat (first|(with_reducible first|exact HB.out|apply bA|apply bN|apply bD)|exact HB.out)⟩⟩
          ·rw [if_neg c35] at H
           have c35b0 : ((rd t458 x6_2) == x7_2) = false:=beq_eq_false_iff_ne.mpr c35
           have c35b1 : ((rd t458 x6_2) != x7_2) = true:=bne_iff_ne.mpr c35
           obtain rfl:=Option.some.inj H
           go_wp2_with (first|((with_reducible refine gate_callee (f:=31) rfl ?_);refine goesL_ (some 43) rfl rfl Try.func31 (by kernel_rfl) rfl #[.slice Ao7 t452.length co7,.agg #[.int .i64 x7_2,.slice Ao8 t455.length co8]] rfl (by (try simp only [List.map_toArray,List.map_cons,List.map_nil]);first|done|rfl|(simp only [List.length_drop,List.length_take];rfl)) ?_;(with_reducible refine (laws_lwHas.calls k2 _ _ t452 x7_2 _ _ t455 true _ ?side1 ?side2 ?side3 ?side4 A28.out).mono ?_);(case side1 => repeat (first|exact (Kd.N_reads' HO_3.out).2.2|(with_reducible refine Kd.C_alloc ?_ _)|(with_reducible refine Kd.C_drewN ?_ _)|(with_reducible refine Kd.C_drew ?_)));(case side2 => exact (Kd.N_reads' HO_3.out).2.1);(case side3 => repeat (first|exact (Kd.R_reads' HO_4.out).2.2|(with_reducible refine Kd.C_alloc ?_ _)|(with_reducible refine Kd.C_drewN ?_ _)|(with_reducible refine Kd.C_drew ?_)));(case side4 => exact (Kd.R_reads' HO_4.out).2.1);rintro e w38 ⟨rfl,hb⟩;refine ⟨_,rfl,?_⟩;have n0_:=aM (Kd.N_below (by (with_reducible repeat (first|apply Kd.N_alloc|apply Kd.N_drewN|apply Kd.N_drew));exact HO_3.out) hb);have n1_:=aM (Kd.R_below (by (with_reducible repeat (first|apply Kd.R_alloc|apply Kd.R_drewN|apply Kd.R_drew));exact HO_4.out) hb);have n2_:=aM (Kd.V_below (by (with_reducible repeat (first|apply Kd.V_alloc|apply Kd.V_drewN|apply Kd.V_drew));exact HO_5.out) hb);have n3_:=aM (below_step (by repeat (first|(with_reducible first|exact HB.out|apply bA|apply bN|apply bD)|exact HB.out)) hb);clear HO_3;clear HO_4;clear HO_5;clear HB;have HO_3:=n0_;have HO_4:=n1_;have HO_5:=n2_;have HB:=n3_;clear n0_ n1_ n2_ n3_;(try clear hb);(try clear hb2);(try clear hk);(try clear hi);obtain ⟨Ao39,co39,eo39⟩:=Kd.V_slice HO_5.out;subst eo39;have p478 : 0 ≤ (x6_2 : Int):=of_decide_eq_true (by first|(with_reducible assumption)|assumption);have q478 : x6_2 < (t458.length : Int):=of_decide_eq_true (by first|(with_reducible assumption)|assumption);obtain ⟨ad478,e478,hx478_0⟩:=Kd.at_int (Kd.V_reads' HO_5.out).2.2 x6_2 p478 q478;cases e478;replace p478:=eq_true p478;replace q478:=eq_true q478))
           go_ret
           exact ⟨by first|rfl|(simp only [i64_w,i32_w];done)|(simp only [i64_w,i32_w];rfl)|(simp [errW_none,errW_some] <;> rfl)|(simp [*,errW_none,errW_some] <;> rfl),by repeat (first|(with_reducible first|exact HB.out|apply bA|apply bN|apply bD)|exact HB.out)⟩
        ·replace c29:=Bool.eq_false_iff.mpr c29
         subst c29
         have H1 : (laws_FnVotesFor.l0 k2 t452 t455 t458 x6_2 (wrap64 (x7_2 + 1))) = some r:=by rw [if_neg (show ¬ (false = true) by decide)] at H;exact H
         clear H
         have H:=H1
         clear H1
         have H':=aM H
         clear H
         go_wp2_with (first|((with_reducible refine gate_callee (f:=31) rfl ?_);refine goesL_ (some 43) rfl rfl Try.func31 (by kernel_rfl) rfl #[.slice Ao7 t452.length co7,.agg #[.int .i64 x7_2,.slice Ao8 t455.length co8]] rfl (by (try simp only [List.map_toArray,List.map_cons,List.map_nil]);first|done|rfl|(simp only [List.length_drop,List.length_take];rfl)) ?_;(with_reducible refine (laws_lwHas.calls k2 _ _ t452 x7_2 _ _ t455 false _ ?side1 ?side2 ?side3 ?side4 A28.out).mono ?_);(case side1 => repeat (first|exact (Kd.N_reads' HO_3.out).2.2|(with_reducible refine Kd.C_alloc ?_ _)|(with_reducible refine Kd.C_drewN ?_ _)|(with_reducible refine Kd.C_drew ?_)));(case side2 => exact (Kd.N_reads' HO_3.out).2.1);(case side3 => repeat (first|exact (Kd.R_reads' HO_4.out).2.2|(with_reducible refine Kd.C_alloc ?_ _)|(with_reducible refine Kd.C_drewN ?_ _)|(with_reducible refine Kd.C_drew ?_)));(case side4 => exact (Kd.R_reads' HO_4.out).2.1);rintro e w40 ⟨rfl,hb⟩;refine ⟨_,rfl,?_⟩;have n0_:=aM (Kd.N_below (by (with_reducible repeat (first|apply Kd.N_alloc|apply Kd.N_drewN|apply Kd.N_drew));exact HO_3.out) hb);have n1_:=aM (Kd.R_below (by (with_reducible repeat (first|apply Kd.R_alloc|apply Kd.R_drewN|apply Kd.R_drew));exact HO_4.out) hb);have n2_:=aM (Kd.V_below (by (with_reducible repeat (first|apply Kd.V_alloc|apply Kd.V_drewN|apply Kd.V_drew));exact HO_5.out) hb);have n3_:=aM (below_step (by repeat (first|(with_reducible first|exact HB.out|apply bA|apply bN|apply bD)|exact HB.out)) hb);clear HO_3;clear HO_4;clear HO_5;clear HB;have HO_3:=n0_;have HO_4:=n1_;have HO_5:=n2_;have HB:=n3_;clear n0_ n1_ n2_ n3_;(try clear hb);(try clear hb2);(try clear hk);(try clear hi)))
         go_roundg k2
         case measure => have:=HJ4.out;have:=HK2.out;omega
         case rel => exact ⟨(x6_2),(wrap64 (x7_2 + 1)),(by first|rfl|(simp;done)|(simp [*];done)),(by first|rfl|(simp;done)|(simp [*];done)),H',⟨by have:=HJ4.out;have:=HK2.out;omega⟩,⟨by (with_reducible repeat (first|apply Kd.N_alloc|apply Kd.N_drewN|apply Kd.N_drew));exact HO_3.out⟩,⟨by (with_reducible repeat (first|apply Kd.R_alloc|apply Kd.R_drewN|apply Kd.R_drew));exact HO_4.out⟩,⟨by (with_reducible repeat (first|apply Kd.V_alloc|apply Kd.V_drewN|apply Kd.V_drew));exact HO_5.out⟩,⟨by repeat (first|(with_reducible first|exact HB.out|apply bA|apply bN|apply bD)|exact HB.out)⟩⟩
       ·rw [if_neg c27] at H
        have c27b0 : decide (x7_2 ≤ 4) = false:=decide_eq_false c27
        clear c27
        by_cases c41 : x6_2 = (t458.length : Int)
        ·rw [if_pos c41] at H
         have c41b0 : (x6_2 == (t458.length : Int)) = true:=beq_iff_eq.mpr c41
         have c41b1 : (x6_2 != (t458.length : Int)) = false:=bne_eq_false_iff_eq.mpr c41
         clear c41
         replace H:=Option.bind_eq_some_iff.mp H
         obtain ⟨t470,A420,H⟩:=H
         replace H : ((impl_VotesFor.f k2 t470 t455).bind fun t473 => ((laws_lwInts.f k2 t473 t458).bind fun t476 => (some t476))) = some r:=H
         have A42:=aM A420
         clear A420
         replace H:=Option.bind_eq_some_iff.mp H
         obtain ⟨t473,A430,H⟩:=H
         replace H : ((laws_lwInts.f k2 t473 t458).bind fun t476 => (some t476)) = some r:=H
         have A43:=aM A430
         clear A430
         replace H:=Option.bind_eq_some_iff.mp H
         obtain ⟨t476,A440,H⟩:=H
         replace H : (some t476) = some r:=H
         have A44:=aM A440
         clear A440
         obtain rfl:=Option.some.inj H
         obtain ⟨Ao45,co45,eo45⟩:=Kd.V_slice HO_5.out
         subst eo45
         go_wp2_with (first|(go_at_call 32;(with_reducible refine (laws_lwBack.calls k2 (fun k_ => some k_ ≠ (.slice Ao8 t455.length co8 : Value).ownBlock) _ _ t452 t470 _ ?side1 A42.out).mono ?_);(case side1 => exact Kd.N_V (HO_3.out));rintro e w46 ⟨v471,rfl,ho0,hb⟩;have n0_:=aM (Kd.N_elder' (by (with_reducible repeat (first|apply Kd.N_alloc|apply Kd.N_drewN|apply Kd.N_drew));exact HO_3.out) (Kd.N_base ho0) hb);have n1_:=aM (Kd.R_below (by (with_reducible repeat (first|apply Kd.R_alloc|apply Kd.R_drewN|apply Kd.R_drew));exact HO_4.out) hb);have n2_:=aM (Kd.V_elder' (by (with_reducible repeat (first|apply Kd.V_alloc|apply Kd.V_drewN|apply Kd.V_drew));exact HO_5.out) (Kd.N_base ho0) hb);have n3_:=aM (Kd.N_lower (Kd.N_mono (ok':=fun k_ => some k_ ≠ (.slice Ao8 t455.length co8 : Value).ownBlock) ho0 (fun k_ hk_ => Or.elim hk_ (fun hs_ => hs_) (fun hn_ => (Kd.fresh' (Kd.R_lt (by (with_reducible repeat (first|apply Kd.R_alloc|apply Kd.R_drewN|apply Kd.R_drew));exact HO_4.out)) k_ hn_)))) (below_size (by repeat (first|(with_reducible first|exact HB.out|apply bA|apply bN|apply bD)|exact HB.out))));have n4_:=aM (below_step (by repeat (first|(with_reducible first|exact HB.out|apply bA|apply bN|apply bD)|exact HB.out)) hb);clear HO_3;clear HO_4;clear HO_5;clear HB;have HO_3:=n0_;have HO_4:=n1_;have HO_5:=n2_;have HO472:=n3_;have HB:=n4_;clear n0_ n1_ n2_ n3_ n4_;(try clear hb);(try clear hb2);(try clear hk);(try clear hi);(try clear ho0);obtain ⟨Ao47,co47,eo47⟩:=Kd.N_slice HO472.out;subst eo47)|(go_at_call 19;(with_reducible refine (impl_VotesFor.calls k2 _ _ t470 _ _ t455 t473 _ ?side1 ?side2 ?side3 ?side4 A43.out).mono ?_);(case side1 => repeat (first|exact (Kd.N_reads' HO472.out).2.2|(with_reducible refine Kd.C_alloc ?_ _)|(with_reducible refine Kd.C_drewN ?_ _)|(with_reducible refine Kd.C_drew ?_)));(case side2 => exact (Kd.N_reads' HO472.out).2.1);(case side3 => repeat (first|exact (Kd.R_reads' HO_4.out).2.2|(with_reducible refine Kd.C_alloc ?_ _)|(with_reducible refine Kd.C_drewN ?_ _)|(with_reducible refine Kd.C_drew ?_)));(case side4 => exact (Kd.R_reads' HO_4.out).2.1);rintro e w48 ⟨v474,rfl,ho0,hb⟩;have n0_:=aM (Kd.N_below (by (with_reducible repeat (first|apply Kd.N_alloc|apply Kd.N_drewN|apply Kd.N_drew));exact HO_3.out) hb);have n1_:=aM (Kd.R_below (by (with_reducible repeat (first|apply Kd.R_alloc|apply Kd.R_drewN|apply Kd.R_drew));exact HO_4.out) hb);have n2_:=aM (Kd.V_below (by (with_reducible repeat (first|apply Kd.V_alloc|apply Kd.V_drewN|apply Kd.V_drew));exact HO_5.out) hb);have n3_:=aM (Kd.N_below (by (with_reducible repeat (first|apply Kd.N_alloc|apply Kd.N_drewN|apply Kd.N_drew));exact HO472.out) hb);have n4_:=aM (Kd.V_lower (Kd.V_mono (ok':=fun k_ => some k_ ≠ (.slice Ao7 t452.length co7 : Value).ownBlock ∧ some k_ ≠ (.slice Ao8 t455.length co8 : Value).ownBlock ∧ some k_ ≠ (.slice Ao47 t470.length co47 : Value).ownBlock) ho0 (fun k_ hk_ => ⟨(Kd.fresh' (Kd.N_lt (by (with_reducible repeat (first|apply Kd.N_alloc|apply Kd.N_drewN|apply Kd.N_drew));exact HO_3.out)) k_ hk_),(Kd.fresh' (Kd.R_lt (by (with_reducible repeat (first|apply Kd.R_alloc|apply Kd.R_drewN|apply Kd.R_drew));exact HO_4.out)) k_ hk_),(Kd.fresh' (Kd.N_lt (by (with_reducible repeat (first|apply Kd.N_alloc|apply Kd.N_drewN|apply Kd.N_drew));exact HO472.out)) k_ hk_)⟩)) (below_size (by repeat (first|(with_reducible first|exact HB.out|apply bA|apply bN|apply bD)|exact HB.out))));have n5_:=aM (below_step (by repeat (first|(with_reducible first|exact HB.out|apply bA|apply bN|apply bD)|exact HB.out)) hb);clear HO_3;clear HO_4;clear HO_5;clear HO472;clear HB;have HO_3:=n0_;have HO_4:=n1_;have HO_5:=n2_;have HO472:=n3_;have HO475:=n4_;have HB:=n5_;clear n0_ n1_ n2_ n3_ n4_ n5_;(try clear hb);(try clear hb2);(try clear hk);(try clear hi);(try clear ho0);obtain ⟨Ao49,co49,eo49⟩:=Kd.V_slice HO475.out;subst eo49)|(go_at_call 29;(with_reducible refine (laws_lwInts.calls k2 _ _ t473 _ _ t458 t476 _ ?side1 ?side2 ?side3 ?side4 A44.out).mono ?_);(case side1 => repeat (first|exact (Kd.V_reads' HO475.out).2.2|(with_reducible refine Kd.C_alloc ?_ _)|(with_reducible refine Kd.C_drewN ?_ _)|(with_reducible refine Kd.C_drew ?_)));(case side2 => exact (Kd.V_reads' HO475.out).2.1);(case side3 => repeat (first|exact (Kd.V_reads' HO_5.out).2.2|(with_reducible refine Kd.C_alloc ?_ _)|(with_reducible refine Kd.C_drewN ?_ _)|(with_reducible refine Kd.C_drew ?_)));(case side4 => exact (Kd.V_reads' HO_5.out).2.1);rintro e w' ⟨rfl,⟨nd,rfl⟩⟩))
         go_ret
         exact ⟨by first|rfl|(simp only [i64_w,i32_w];done)|(simp only [i64_w,i32_w];rfl)|(simp [errW_none,errW_some] <;> rfl)|(simp [*,errW_none,errW_some] <;> rfl),by repeat (first|(with_reducible first|exact HB.out|apply bA|apply bN|apply bD)|exact HB.out)⟩
        ·rw [if_neg c41] at H
         have c41b0 : (x6_2 == (t458.length : Int)) = false:=beq_eq_false_iff_ne.mpr c41
         have c41b1 : (x6_2 != (t458.length : Int)) = true:=bne_iff_ne.mpr c41
         obtain rfl:=Option.some.inj H
         obtain ⟨Ao50,co50,eo50⟩:=Kd.V_slice HO_5.out
         subst eo50
         go_wp2
         go_ret
         exact ⟨by first|rfl|(simp only [i64_w,i32_w];done)|(simp only [i64_w,i32_w];rfl)|(simp [errW_none,errW_some] <;> rfl)|(simp [*,errW_none,errW_some] <;> rfl),by repeat (first|(with_reducible first|exact HB.out|apply bA|apply bN|apply bD)|exact HB.out)⟩

/-- What is left to prove of laws_FnVotesFor. -/
def laws_FnVotesFor.Pure : Prop:=∀ (l0 : List Int),l0.length ≤ 9223372036854775807 → (∀ x,x ∈ l0 → (Lit.int .u8 x).wf = true) → ∃ k,laws_FnVotesFor.f k l0 = some true

end Go.Proofs.Ytknmmkgaijndfaa.P
