/- The printed functions: what each Go function computes, as a Lean function, and that the Go code comes to just that. Conditions: none beyond each contract's own. -/
import Derived.Test.YtlcfalecbpnhbaaPx0
import Derived.Test.YtlcfalecbpnhbaaPx8
import Derived.Test.YtlcfalecbpnhbaaPx9
import Derived.Test.YtlcfalecbpnhbaaPx11
import Derived.Test.YtlcfalecbpnhbaaPx12
namespace Go.Proofs.Ytlcfalecbpnhbaa.P
open Go.RowKit Go.Proofs.YtlcfalecbpnhbaaW.PrintWords Go.Proofs.YtlcfalecbpnhbaaW.PrintLast Go.Proofs.YtlcfalecbpnhbaaW.PrintMore
attribute [local go_sem] max2_int min2_int max_two min_two max_three min_three max_four min_four   -- for this text's walks alone
set_option linter.unusedVariables false
set_option linter.unusedSimpArgs false

/-! ### spec_l11Final: function 52 -/
def spec_l11Final.l0 : Nat → List (List (S40)) → List (S40) → Int → Option ((List (S40)))
 | 0,_,_,_ => none
 | k + 1,x3,x4,x5 => if x5 < (x3.length : Int) then (if 0 ≤ x5 then ((spec_l11FinalIn.f k (rd_L7 x3 x5)).bind fun t390 => (if t390 > (x4.length : Int) then (if 0 ≤ t390 then (if t390 ≤ ((rd_L7 x3 x5).length : Int) then ((spec_l1Copy.f ((rd_L7 x3 x5).take (t390 : Int).toNat)).bind fun t397 => (spec_l11Final.l0 k x3 t397 (wrap64 (x5 + 1)))) else (none)) else (none)) else (spec_l11Final.l0 k x3 x4 (wrap64 (x5 + 1))))) else (none)) else (some x4)
def spec_l11Final.f (k : Nat) (l0 : List (S82)) : Option ((List (S40))):=(spec_l11All.f k l0).bind fun t383 => (spec_l11Final.l0 k t383 (([] : List (S40))) 0)
theorem spec_l11Final.mono_l : ∀ k,(∀ y0 y1 y2,LeO (spec_l11Final.l0 k y0 y1 y2) (spec_l11Final.l0 (k + 1) y0 y1 y2))
 | 0 => fun _ _ _ r h => by simp [spec_l11Final.l0] at h
 | k + 1 => by
  have ih0:=spec_l11Final.mono_l k
  ·intro y0 y1 y2
   unfold spec_l11Final.l0
   repeat' first
   | exact LeO.refl _
   | exact ih0 _ _ _
   | exact spec_l11All.mono _ _
   | exact spec_l11FinalIn.mono _ _
   | exact LeO.none _
   | refine LeO.ite ?_ ?_
   | refine LeO.bind ?_ (fun _ => ?_)
theorem spec_l11Final.mono : ∀ a0 k,LeO (spec_l11Final.f k a0) (spec_l11Final.f (k + 1) a0):=by
 intro a0 k
 have ih0:=spec_l11Final.mono_l k
 unfold spec_l11Final.f
 repeat' first
   | exact LeO.refl _
   | exact ih0 _ _ _
   | exact spec_l11All.mono _ _
   | exact spec_l11FinalIn.mono _ _
   | exact LeO.none _
   | refine LeO.ite ?_ ?_
   | refine LeO.bind ?_ (fun _ => ?_)
set_option maxHeartbeats 8000000 in
set_option maxRecDepth 100000 in
theorem spec_l11Final.calls (k : Nat) (A0 : Option Addr) (c0 : Nat) (l0 : List (S82)) (r : List (S40)) (w : World) (hr0 : Kd.C k82 w A0 l0.length l0) (hc0 : l0.length ≤ c0) (h : spec_l11Final.f k l0 = some r) :
  Calls Try.prog 52 #[.slice A0 l0.length c0] w fun e w' => ∃ v0_ : Value,e = .returned (v0_) ∧ Kd.R k40 40 w' w.heap.size (fun _ => True) v0_ r ∧ Below w.heap.size w w':=by
 have HR0:=aM hr0
 have HC0:=aM hc0
 clear hr0 hc0
 have HB:=aM (Below.refl w.heap.size w)
 have H : ((spec_l11All.f k l0).bind fun t383 => (spec_l11Final.l0 k t383 (([] : List (S40))) 0)) = some r:=h
 clear h
 replace H:=Option.bind_eq_some_iff.mp H
 obtain ⟨t383,A20,H⟩:=H
 replace H : (spec_l11Final.l0 k t383 (([] : List (S40))) 0) = some r:=H
 have A2:=aM A20
 clear A20
 obtain ⟨y386,hy386⟩ : ∃ y_ : List (S40),y_ = (([] : List (S40))):=⟨_,rfl⟩
 replace H : (spec_l11Final.l0 k t383 y386 0) = some r:=by first|(rw [hy386];with_reducible exact H)|(have H2_:=(Option.bind_some _ _).symm.trans H;rw [hy386];with_reducible exact H2_)|(have H2_:=(Option.bind_some _ _).symm.trans H;with_reducible exact H2_)|with_reducible exact H|(rw [hy386];exact H)|exact H
 have Ny386:=aM hy386
 clear hy386
 have H':=aM H
 clear H
 go_enter Try.func52,Try.ntmps52
 go_wp2_with (first|((with_reducible refine gate_callee (f:=51) rfl ?_);refine goesL_ (some 8) rfl rfl Try.func51 Q14 rfl #[.slice A0 l0.length c0] rfl Q1 ?_;(with_reducible refine (spec_l11All.calls k _ _ l0 t383 _ ?side1 ?side2 A2.out).mono ?_);(case side1 => exact Q68);(case side2 => exact HC0.out);rintro e w3 ⟨v384,rfl,ho0,hb⟩;refine ⟨_,rfl,?_⟩;have n0_:=aM (Kd.N_lower (Kd.N_mono (ok':=fun k_ => True) ho0 (fun k_ hk_ => trivial)) (below_size Q3));have n1_:=aM (below_step Q3 hb);clear HB;have HO385:=n0_;have HB:=n1_;clear n0_ n1_;(try clear hb);(try clear hb2);(try clear hk);(try clear hi);(try clear ho0))|((with_reducible refine gate_dst (N:=9) rfl ?_);refine Kd.R_lit k40 _ 40 ?hg (N:=9) ?hd (xs:=([] : List (S40))) (inner:=[]) (ok:=fun _ => True) (okp:=fun _ => True) ?hr ?hp (fun _ hk => hk) trivial (Below.refl _ _) (Nat.le_refl _) Q51 ?_;(case hd => rfl);(case hg => rfl);(case hr => exact Q16);(case hp => exact (Reps.none _ _));intro v387 w4 ho5 hb hg_ hnew_;clear hg_ hnew_;(first|rw [← Ny386.out] at ho5|(simp only [Int.reduceToNat] at ho5;rw [← Ny386.out] at ho5));have n0_:=aM (Kd.N_elder' (qN HO385) (Kd.R_base ho5) hb);have n1_:=aM (Kd.R_lower ho5 (below_size Q3));have n2_:=aM (below_step Q3 hb);clear HO385;clear HB;have HO385:=n0_;have HO388:=n1_;have HB:=n2_;clear n0_ n1_ n2_;clear hb ho5))
 go_loopg [4,5] k (fun kq v4 v5 w' => ∃ (x4_1 : List (S40)) (x5_1 : Int),v5 = .int .i64 x5_1 ∧ Aside0 (spec_l11Final.l0 kq t383 x4_1 x5_1 = some r) ∧ Aside0 (kq ≤ k) ∧ Aside0 (Kd.N (Kd.slice 40 k40) 28 w' w.heap.size (fun k_ => some k_ ≠ (v4 : Value).ownBlock) v384 t383) ∧ Aside0 (Kd.R k40 40 w' w.heap.size (fun _ => True) v4 x4_1) ∧ Aside0 (Below w.heap.size w w'))
 case atStart => exact ⟨(y386),(0),Q11,H',⟨Nat.le_refl _⟩,⟨by (with_reducible repeat (first|apply Kd.N_alloc|apply Kd.N_drewN|apply Kd.N_drew));exact Kd.N_mono HO385.out (fun _ hk => hk.2)⟩,⟨qR HO388⟩,⟨Q3⟩⟩
 case round =>
  clear H'
  try clear p2
  try clear c5
  obtain ⟨x4_1,x5_1,rfl,HA,HK1,HO_3,HO_4,HB⟩:=hrel
  cases gk with
  | zero => exact absurd HA.out (by simp [spec_l11Final.l0])
  | succ k1 =>
   have H:=HA.out
   clear HA
   simp only [spec_l11Final.l0] at H
   by_cases c6 : x5_1 < (t383.length : Int)
   ·rw [if_pos c6] at H
    have c6b0 : decide (x5_1 < (t383.length : Int)) = true:=decide_eq_true c6
    clear c6
    by_cases c7 : 0 ≤ x5_1
    case neg => rw [if_neg c7] at H;exact absurd H Q51
    rw [if_pos c7] at H
    have c7b0 : decide (0 ≤ x5_1) = true:=decide_eq_true c7
    clear c7
    replace H:=Option.bind_eq_some_iff.mp H
    obtain ⟨t390,A80,H⟩:=H
    replace H : (if t390 > (x4_1.length : Int) then (if 0 ≤ t390 then (if t390 ≤ ((rd_L7 t383 x5_1).length : Int) then ((spec_l1Copy.f ((rd_L7 t383 x5_1).take (t390 : Int).toNat)).bind fun t397 => (spec_l11Final.l0 k1 t383 t397 (wrap64 (x5_1 + 1)))) else (none)) else (none)) else (spec_l11Final.l0 k1 t383 x4_1 (wrap64 (x5_1 + 1)))) = some r:=H
    have A8:=aM A80
    clear A80
    by_cases c9 : t390 > (x4_1.length : Int)
    ·rw [if_pos c9] at H
     have c9b0 : decide ((x4_1.length : Int) < t390) = true:=decide_eq_true c9
     clear c9
     by_cases c10 : 0 ≤ t390
     case neg => rw [if_neg c10] at H;exact absurd H Q51
     rw [if_pos c10] at H
     have c10b0:=eq_true c10
     have c10b1 : decide (0 ≤ t390) = true:=decide_eq_true c10
     clear c10
     by_cases c11 : t390 ≤ ((rd_L7 t383 x5_1).length : Int)
     case neg => rw [if_neg c11] at H;exact absurd H Q51
     rw [if_pos c11] at H
     have c11b0:=eq_true c11
     have c11b1 : decide (t390 ≤ ((rd_L7 t383 x5_1).length : Int)) = true:=decide_eq_true c11
     clear c11
     obtain ⟨y392,hy392⟩ : ∃ y_ : List (S40),y_ = ((rd_L7 t383 x5_1).take (t390 : Int).toNat):=⟨_,rfl⟩
     replace H : ((spec_l1Copy.f y392).bind fun t397 => (spec_l11Final.l0 k1 t383 t397 (wrap64 (x5_1 + 1)))) = some r:=by first|(rw [hy392];with_reducible exact H)|(have H2_:=(Option.bind_some _ _).symm.trans H;rw [hy392];with_reducible exact H2_)|(have H2_:=(Option.bind_some _ _).symm.trans H;with_reducible exact H2_)|with_reducible exact H|(rw [hy392];exact H)|exact H
     have Ny392:=aM hy392
     clear hy392
     replace H:=Option.bind_eq_some_iff.mp H
     obtain ⟨t397,A120,H⟩:=H
     replace H : (spec_l11Final.l0 k1 t383 t397 (wrap64 (x5_1 + 1))) = some r:=H
     have A12:=aM A120
     clear A120
     have H':=aM H
     clear H
     obtain ⟨Ao13,co13,eo13⟩:=Kd.N_slice HO_3.out
     subst eo13
     have p389 : 0 ≤ (x5_1 : Int):=of_decide_eq_true Q5
     have q389 : x5_1 < (t383.length : Int):=of_decide_eq_true Q5
     obtain ⟨ad389,A389_0,c389_0,e389,hx389_0,hl389_0,hi389_0⟩:=at_L7 (Kd.N_reads' HO_3.out).2.2 x5_1 p389 q389
     cases e389
     obtain ⟨ce389,hce389,hMe389,hcc389⟩:=Kd.N_get HO_3.out [] x5_1 p389 (by first|exact q389|exact of_decide_eq_true Q5|(have e_:=(Kd.N_reads' HO_3.out).1;omega))
     obtain ⟨ua389_0,uc389_0,rfl,ul389_0,ge389_0⟩:=Kd.FK_slice_open hMe389
     have hv389_0:=hcc389 0 _ rfl
     rw [Nat.add_zero,show ((Kd.slice 40 k40)).sz = 1 from rfl,Nat.mul_one] at hv389_0
     replace hv389_0:=Option.some.inj (hv389_0.symm.trans hx389_0)
     injection hv389_0 with hva_ hvn_ hvc_
     rw [hva_] at ge389_0
     rw [hvc_] at ul389_0
     have HL389_0:=aM (show Kd.V k40 40 _ w.heap.size _ _ (rd_L7 t383 x5_1) from Kd.V_mk ul389_0 ge389_0)
     clear hva_ hvn_ hvc_ ge389_0 ul389_0
     clear hcc389 hce389
     have HR389_0:=aM hi389_0
     have HC389_0:=aM hl389_0
     clear hi389_0 hl389_0
     replace p389:=eq_true p389
     replace q389:=eq_true q389
     go_wp2_with (first|((with_reducible refine gate_callee (f:=53) rfl ?_);refine goesL_ (some 20) rfl rfl Try.func53 Q14 rfl #[.slice A389_0 (rd_L7 t383 x5_1).length c389_0] rfl Q1 ?_;(with_reducible refine (spec_l11FinalIn.calls k1 _ _ (rd_L7 t383 x5_1) t390 _ ?side1 ?side2 A8.out).mono ?_);(case side1 => exact Q142);(case side2 => exact HC389_0.out);rintro e w' ⟨rfl,⟨nd,rfl⟩⟩;refine ⟨_,rfl,?_⟩;obtain ⟨Ao14,co14,eo14⟩:=Kd.R_slice HO_4.out;subst eo14;have p391 : 0 ≤ (x5_1 : Int):=of_decide_eq_true Q5;have q391 : x5_1 < (t383.length : Int):=of_decide_eq_true Q5;obtain ⟨ad391,A391_0,c391_0,e391,hx391_0,hl391_0,hi391_0⟩:=at_L7 (Kd.N_reads' HO_3.out).2.2 x5_1 p391 q391;obtain rfl : ad389 = ad391:=(by injection e391);obtain ⟨ce391,hce391,hMe391,hcc391⟩:=Kd.N_get HO_3.out [] x5_1 p391 (by first|exact q391|exact of_decide_eq_true Q5|(have e_:=(Kd.N_reads' HO_3.out).1;omega));obtain ⟨ua391_0,uc391_0,rfl,ul391_0,ge391_0⟩:=Kd.FK_slice_open hMe391;have hv391_0:=hcc391 0 _ rfl;rw [Nat.add_zero,show ((Kd.slice 40 k40)).sz = 1 from rfl,Nat.mul_one] at hv391_0;replace hv391_0:=Option.some.inj (hv391_0.symm.trans hx391_0);injection hv391_0 with hva_ hvn_ hvc_;rw [hva_] at ge391_0;rw [hvc_] at ul391_0;have HL391_0:=aM (show Kd.V k40 40 _ w.heap.size _ _ (rd_L7 t383 x5_1) from Kd.V_mk ul391_0 ge391_0);clear hva_ hvn_ hvc_ ge391_0 ul391_0;clear hcc391 hce391;have HR391_0:=aM hi391_0;have HC391_0:=aM hl391_0;clear hi391_0 hl391_0;replace p391:=eq_true p391;replace q391:=eq_true q391;have ea_:=Option.some.inj (hx389_0.symm.trans hx391_0);injection ea_ with ea_ en_ ec_;subst ea_;subst ec_;clear en_;have q15 : (t390 : Int) ≤ (((rd_L7 t383 x5_1).length : Int) : Int):=of_decide_eq_true Q5;obtain ⟨i015,hi015,_,hsz15,_⟩:=info_parts info40;have hroom15 : (rd_L7 t383 x5_1).length ≤ c389_0:=HC391_0.out;have hC15 : Kd.F k40 _ _ A389_0 (rd_L7 t383 x5_1).length (rd_L7 t383 x5_1):=(Kd.V_at (base:=w.heap.size) HL391_0.out).2.2;have hcut15:=cut_to (P:=Try.prog) 28 40 .i64 Try.underlying28 hi015 A389_0 (rd_L7 t383 x5_1).length c389_0 t390 (of_decide_eq_true Q5) q15 hroom15;have hr15:=Kd.F_take (m:=(t390 : Int).toNat) hC15 Q17;have hy15 : y392.length = (t390 : Int).toNat:=(by rw [Ny392.out,List.length_take];omega);rw [← Ny392.out] at hr15;rw [← hy15] at hcut15;have HO396:=aM (show Kd.V k40 40 _ w.heap.size _ (.slice A389_0 y392.length c389_0) y392 from Kd.V_mk Q17 hr15);have HC396:=aM (show y392.length ≤ c389_0 from Q17);clear hr15 hC15 hroom15 hi015 hsz15;have KY15:=aM hy15;clear hy15;replace q15:=eq_true q15)|((with_reducible refine gate_callee (f:=48) rfl ?_);refine goesL_ (some 31) rfl rfl Try.func48 Q14 rfl #[.slice A389_0 y392.length c389_0] rfl Q1 ?_;(with_reducible refine (spec_l1Copy.calls _ _ y392 t397 _ ?side1 ?side2 A12.out).mono ?_);(case side1 => repeat (first|exact (Kd.V_reads' HO396.out).2.2|(with_reducible refine Kd.C_alloc ?_ _)|(with_reducible refine Kd.C_drewN ?_ _)|(with_reducible refine Kd.C_drew ?_)));(case side2 => exact (Kd.V_reads' HO396.out).2.1);rintro e w16 ⟨v398,rfl,ho0,hb⟩;refine ⟨_,rfl,?_⟩;have n0_:=aM (Kd.N_elder' (qN HO_3) (Kd.R_base ho0) hb);have n1_:=aM (Kd.R_elder' (qR HO_4) (Kd.R_base ho0) hb);have n2_:=aM (Kd.V_elder' (qV HL389_0) (Kd.R_base ho0) hb);have n3_:=aM (Kd.V_elder' (qV HL391_0) (Kd.R_base ho0) hb);have n4_:=aM (Kd.V_elder' (qV HO396) (Kd.R_base ho0) hb);have n5_:=aM (Kd.R_lower (Kd.R_new' ho0 (Kd.R_lt (qR HO_4))) (below_size Q3));have n6_:=aM (Kd.C_below Q76 hb);have n7_:=aM (Kd.C_below (by repeat (first|(with_reducible exact HR391_0.out)|(with_reducible refine Kd.C_alloc ?_ _)|(with_reducible refine Kd.C_drewN ?_ _)|(with_reducible refine Kd.C_drew ?_)|exact HR391_0.out)) hb);have n8_:=aM (below_step Q3 hb);clear HO_3;clear HO_4;clear HL389_0;clear HL391_0;clear HO396;clear HR389_0;clear HR391_0;clear HB;have HO_3:=n0_;have HO_4:=n1_;have HL389_0:=n2_;have HL391_0:=n3_;have HO396:=n4_;have HO399:=n5_;have HR389_0:=n6_;have HR391_0:=n7_;have HB:=n8_;clear n0_ n1_ n2_ n3_ n4_ n5_ n6_ n7_ n8_;(try clear hb);(try clear hb2);(try clear hk);(try clear hi);(try clear ho0)))
     go_roundg k1
     case measure => have:=HK1.out;omega
     case rel => exact ⟨(t397),(wrap64 (x5_1 + 1)),Q11,H',⟨Q60⟩,⟨by (with_reducible repeat (first|apply Kd.N_alloc|apply Kd.N_drewN|apply Kd.N_drew));exact Kd.N_mono HO_3.out (fun _ hk => hk.2)⟩,⟨by (with_reducible repeat (first|apply Kd.R_alloc|apply Kd.R_drewN|apply Kd.R_drew));exact Kd.R_mono HO399.out (fun _ hk => trivial)⟩,⟨Q3⟩⟩
    ·rw [if_neg c9] at H
     have c9b0 : decide ((x4_1.length : Int) < t390) = false:=decide_eq_false c9
     clear c9
     have H':=aM H
     clear H
     obtain ⟨Ao17,co17,eo17⟩:=Kd.N_slice HO_3.out
     subst eo17
     have p389 : 0 ≤ (x5_1 : Int):=of_decide_eq_true Q5
     have q389 : x5_1 < (t383.length : Int):=of_decide_eq_true Q5
     obtain ⟨ad389,A389_0,c389_0,e389,hx389_0,hl389_0,hi389_0⟩:=at_L7 (Kd.N_reads' HO_3.out).2.2 x5_1 p389 q389
     cases e389
     obtain ⟨ce389,hce389,hMe389,hcc389⟩:=Kd.N_get HO_3.out [] x5_1 p389 (by first|exact q389|exact of_decide_eq_true Q5|(have e_:=(Kd.N_reads' HO_3.out).1;omega))
     obtain ⟨ua389_0,uc389_0,rfl,ul389_0,ge389_0⟩:=Kd.FK_slice_open hMe389
     have hv389_0:=hcc389 0 _ rfl
     rw [Nat.add_zero,show ((Kd.slice 40 k40)).sz = 1 from rfl,Nat.mul_one] at hv389_0
     replace hv389_0:=Option.some.inj (hv389_0.symm.trans hx389_0)
     injection hv389_0 with hva_ hvn_ hvc_
     rw [hva_] at ge389_0
     rw [hvc_] at ul389_0
     have HL389_0:=aM (show Kd.V k40 40 _ w.heap.size _ _ (rd_L7 t383 x5_1) from Kd.V_mk ul389_0 ge389_0)
     clear hva_ hvn_ hvc_ ge389_0 ul389_0
     clear hcc389 hce389
     have HR389_0:=aM hi389_0
     have HC389_0:=aM hl389_0
     clear hi389_0 hl389_0
     replace p389:=eq_true p389
     replace q389:=eq_true q389
     go_wp2_with (first|((with_reducible refine gate_callee (f:=53) rfl ?_);refine goesL_ (some 20) rfl rfl Try.func53 Q14 rfl #[.slice A389_0 (rd_L7 t383 x5_1).length c389_0] rfl Q1 ?_;(with_reducible refine (spec_l11FinalIn.calls k1 _ _ (rd_L7 t383 x5_1) t390 _ ?side1 ?side2 A8.out).mono ?_);(case side1 => exact Q142);(case side2 => exact HC389_0.out);rintro e w' ⟨rfl,⟨nd,rfl⟩⟩;refine ⟨_,rfl,?_⟩;obtain ⟨Ao18,co18,eo18⟩:=Kd.R_slice HO_4.out;subst eo18))
     go_roundg k1
     case measure => have:=HK1.out;omega
     case rel => exact ⟨(x4_1),(wrap64 (x5_1 + 1)),Q11,H',⟨Q60⟩,⟨qN HO_3⟩,⟨qR HO_4⟩,⟨Q3⟩⟩
   ·rw [if_neg c6] at H
    have c6b0 : decide (x5_1 < (t383.length : Int)) = false:=decide_eq_false c6
    clear c6
    obtain rfl:=Option.some.inj H
    obtain ⟨Ao19,co19,eo19⟩:=Kd.N_slice HO_3.out
    subst eo19
    go_wp2
    go_ret
    exact ⟨_,Q6,qR HO_4,Q3⟩

/-! ### spec_VotesFor: function 61 -/
def spec_VotesFor.l0 : Nat → List (S82) → List (S40) → List Int → Int → Option (List Int)
 | 0,_,_,_,_ => none
 | k + 1,x0,x1,x5,x6 => if x6 ≤ 4 then ((spec_l3Has.f k x0 x6 x1).bind fun t404 => (if t404 = true then (if x5.length < 17592186044416 then (spec_VotesFor.l0 k x0 x1 (x5 ++ [x6]) (wrap64 (x6 + 1))) else (none)) else (spec_VotesFor.l0 k x0 x1 x5 (wrap64 (x6 + 1))))) else (some x5)
def spec_VotesFor.f (k : Nat) (l0 : List (S82)) (l1 : List (S40)) : Option (List Int):=(some (([] : List Int) : List Int)).bind fun y400 => ((spec_VotesOk.f k l0).bind fun t403 => (if t403 = true then (spec_VotesFor.l0 k l0 l1 y400 1) else (some y400)))
theorem spec_VotesFor.mono_l : ∀ k,(∀ y0 y1 y2 y3,LeO (spec_VotesFor.l0 k y0 y1 y2 y3) (spec_VotesFor.l0 (k + 1) y0 y1 y2 y3))
 | 0 => fun _ _ _ _ r h => by simp [spec_VotesFor.l0] at h
 | k + 1 => by
  have ih0:=spec_VotesFor.mono_l k
  ·intro y0 y1 y2 y3
   unfold spec_VotesFor.l0
   repeat' first
   | exact LeO.refl _
   | exact ih0 _ _ _ _
   | exact spec_VotesOk.mono _ _
   | exact spec_l3Has.mono _ _ _ _
   | exact LeO.none _
   | refine LeO.ite ?_ ?_
   | refine LeO.bind ?_ (fun _ => ?_)
theorem spec_VotesFor.mono : ∀ a0 a1 k,LeO (spec_VotesFor.f k a0 a1) (spec_VotesFor.f (k + 1) a0 a1):=by
 intro a0 a1 k
 have ih0:=spec_VotesFor.mono_l k
 unfold spec_VotesFor.f
 repeat' first
   | exact LeO.refl _
   | exact ih0 _ _ _ _
   | exact spec_VotesOk.mono _ _
   | exact spec_l3Has.mono _ _ _ _
   | exact LeO.none _
   | refine LeO.ite ?_ ?_
   | refine LeO.bind ?_ (fun _ => ?_)
set_option maxHeartbeats 8000000 in
set_option maxRecDepth 100000 in
theorem spec_VotesFor.calls (k : Nat) (A0 : Option Addr) (c0 : Nat) (l0 : List (S82)) (A1 : Option Addr) (c1 : Nat) (l1 : List (S40)) (r : List Int) (w : World) (hr0 : Kd.C k82 w A0 l0.length l0) (hc0 : l0.length ≤ c0) (hr1 : Kd.C k40 w A1 l1.length l1) (hc1 : l1.length ≤ c1) (h : spec_VotesFor.f k l0 l1 = some r) :
  Calls Try.prog 61 #[.slice A0 l0.length c0,.slice A1 l1.length c1] w fun e w' => ∃ v0_ : Value,e = .returned (v0_) ∧ Kd.R (Kd.int .i64) 3 w' w.heap.size (fun _ => True) v0_ r ∧ Below w.heap.size w w':=by
 have hu82:=Try.underlying82
 have HR0:=aM hr0
 have HC0:=aM hc0
 clear hr0 hc0
 have HR1:=aM hr1
 have HC1:=aM hc1
 clear hr1 hc1
 have HB:=aM (Below.refl w.heap.size w)
 have H : ((some (([] : List Int) : List Int)).bind fun y400 => ((spec_VotesOk.f k l0).bind fun t403 => (if t403 = true then (spec_VotesFor.l0 k l0 l1 y400 1) else (some y400)))) = some r:=h
 clear h
 obtain ⟨y400,hy400⟩ : ∃ y_ : List Int,y_ = (([] : List Int)):=⟨_,rfl⟩
 replace H : ((spec_VotesOk.f k l0).bind fun t403 => (if t403 = true then (spec_VotesFor.l0 k l0 l1 y400 1) else (some y400))) = some r:=by first|(rw [hy400];with_reducible exact H)|(have H2_:=(Option.bind_some _ _).symm.trans H;rw [hy400];with_reducible exact H2_)|(have H2_:=(Option.bind_some _ _).symm.trans H;with_reducible exact H2_)|with_reducible exact H|(rw [hy400];exact H)|exact H
 have Ny400:=aM hy400
 clear hy400
 replace H:=Option.bind_eq_some_iff.mp H
 obtain ⟨t403,A30,H⟩:=H
 replace H : (if t403 = true then (spec_VotesFor.l0 k l0 l1 y400 1) else (some y400)) = some r:=H
 have A3:=aM A30
 clear A30
 by_cases c4 : t403 = true
 ·subst c4
  have H1 : (spec_VotesFor.l0 k l0 l1 y400 1) = some r:=by rw [if_pos rfl] at H;exact H
  clear H
  have H:=H1
  clear H1
  have H':=aM H
  clear H
  go_enter Try.func61,Try.ntmps61
  go_wp2_with (first|((with_reducible refine gate_dst (N:=7) rfl ?_);refine Kd.R_lit (Kd.int .i64) _ 3 ?hg (N:=7) ?hd (xs:=([] : List Int)) (inner:=[]) (ok:=fun _ => True) (okp:=fun _ => True) ?hr ?hp (fun _ hk => hk) trivial (Below.refl _ _) (Nat.le_refl _) Q51 ?_;(case hd => rfl);(case hg => rfl);(case hr => exact Q16);(case hp => exact (Reps.none _ _));intro v401 w5 ho6 hb hg_ hnew_;clear hg_ hnew_;(first|rw [← Ny400.out] at ho6|(simp only [Int.reduceToNat] at ho6;rw [← Ny400.out] at ho6));have n0_:=aM (Kd.R_lower ho6 (below_size Q3));have n1_:=aM (below_step Q3 hb);clear HB;have HO402:=n0_;have HB:=n1_;clear n0_ n1_;clear hb ho6)|((with_reducible refine gate_callee (f:=50) rfl ?_);refine goesL_ (some 9) rfl rfl Try.func50 Q14 rfl #[.slice A0 l0.length c0] rfl Q1 ?_;(with_reducible refine (spec_VotesOk.calls k _ _ l0 true _ ?side1 ?side2 A3.out).mono ?_);(case side1 => exact Q19);(case side2 => exact HC0.out);rintro e w7 ⟨rfl,hb⟩;refine ⟨_,rfl,?_⟩;have n0_:=aM (Kd.R_below (qR HO402) hb);have n1_:=aM (below_step Q3 hb);clear HO402;clear HB;have HO402:=n0_;have HB:=n1_;clear n0_ n1_;(try clear hb);(try clear hb2);(try clear hk);(try clear hi)))
  go_loopg [5,6] k (fun kq v5 v6 w' => ∃ (x5_1 : List Int) (x6_1 : Int),v6 = .int .i64 x6_1 ∧ Aside0 (spec_VotesFor.l0 kq l0 l1 x5_1 x6_1 = some r) ∧ Aside0 (kq ≤ k) ∧ Aside0 (Kd.R (Kd.int .i64) 3 w' w.heap.size (fun _ => True) v5 x5_1) ∧ Aside0 (Below w.heap.size w w'))
  case atStart => exact ⟨(y400),(1),Q11,H',⟨Nat.le_refl _⟩,⟨qR HO402⟩,⟨Q3⟩⟩
  case round =>
   clear H'
   try clear c1
   try clear p2
   try clear c4
   try clear c5
   try clear c6
   obtain ⟨x5_1,x6_1,rfl,HA,HK1,HO_5,HB⟩:=hrel
   cases gk with
   | zero => exact absurd HA.out (by simp [spec_VotesFor.l0])
   | succ k1 =>
    have H:=HA.out
    clear HA
    simp only [spec_VotesFor.l0] at H
    by_cases c8 : x6_1 ≤ 4
    ·rw [if_pos c8] at H
     have c8b0 : decide (x6_1 ≤ 4) = true:=decide_eq_true c8
     clear c8
     replace H:=Option.bind_eq_some_iff.mp H
     obtain ⟨t404,A90,H⟩:=H
     replace H : (if t404 = true then (if x5_1.length < 17592186044416 then (spec_VotesFor.l0 k1 l0 l1 (x5_1 ++ [x6_1]) (wrap64 (x6_1 + 1))) else (none)) else (spec_VotesFor.l0 k1 l0 l1 x5_1 (wrap64 (x6_1 + 1)))) = some r:=H
     have A9:=aM A90
     clear A90
     by_cases c10 : t404 = true
     ·subst c10
      have H1 : (if x5_1.length < 17592186044416 then (spec_VotesFor.l0 k1 l0 l1 (x5_1 ++ [x6_1]) (wrap64 (x6_1 + 1))) else (none)) = some r:=by rw [if_pos rfl] at H;exact H
      clear H
      have H:=H1
      clear H1
      by_cases c11 : x5_1.length < 17592186044416
      case neg => rw [if_neg c11] at H;exact absurd H Q51
      rw [if_pos c11] at H
      have LMc11:=aM c11
      clear c11
      obtain ⟨y405,hy405⟩ : ∃ y_ : List Int,y_ = (x5_1 ++ [x6_1]):=⟨_,rfl⟩
      replace H : (spec_VotesFor.l0 k1 l0 l1 y405 (wrap64 (x6_1 + 1))) = some r:=by first|(rw [hy405];with_reducible exact H)|(have H2_:=(Option.bind_some _ _).symm.trans H;rw [hy405];with_reducible exact H2_)|(have H2_:=(Option.bind_some _ _).symm.trans H;with_reducible exact H2_)|with_reducible exact H|(rw [hy405];exact H)|exact H
      have Ny405:=aM hy405
      clear hy405
      have H':=aM H
      clear H
      go_wp2_with (first|((with_reducible refine gate_callee (f:=56) rfl ?_);refine goesL_ (some 20) rfl rfl Try.func56 Q14 rfl #[.slice A0 l0.length c0,.agg #[.int .i64 x6_1,.slice A1 l1.length c1]] rfl Q1 ?_;(with_reducible refine (spec_l3Has.calls k1 _ _ l0 x6_1 _ _ l1 true _ ?side1 ?side2 ?side3 ?side4 A9.out).mono ?_);(case side1 => exact Q19);(case side2 => exact HC0.out);(case side3 => exact Q63);(case side4 => exact HC1.out);rintro e w12 ⟨rfl,hb⟩;refine ⟨_,rfl,?_⟩;have n0_:=aM (Kd.R_below (qR HO_5) hb);have n1_:=aM (below_step Q3 hb);clear HO_5;clear HB;have HO_5:=n0_;have HB:=n1_;clear n0_ n1_;(try clear hb);(try clear hb2);(try clear hk);(try clear hi))|((with_reducible refine gate_builtin (b:=.append) (xs:=#[.tmp 21,.tmp 23]) rfl ?_);at_builtin;refine Kd.R_append (Kd.int .i64) (w0:=w) w.heap.size rfl (.tmp 21) (.tmp 23) 36 3 (.int .i64 0) 8 rfl Try.underlying36 info3 rfl Q36 Q17 u5 x5_1 x6_1 [.int .i64 x6_1] (fun _ => True) (fun _ => False) rfl rfl ?aP (fun _ hk => hk.elim) ?aF ?aO ?aB ?aS ?aL ?_;(case aP => exact rfl);(case aB => exact Q3);(case aF => exact (fun _ _ => trivial));(case aO => exact (qR HO_5));(case aS => exact (below_size Q3));(case aL => have:=LMc11.out;omega);intro v406 w13 ho hb hg hat;rw [← Ny405.out] at ho;have n0_:=aM (hb);have n1_:=aM (ho);clear HB;clear HO_5;have HB:=n0_;have HO407:=n1_;clear n0_ n1_;clear ho hb hg hat))
      go_roundg k1
      case measure => have:=HK1.out;omega
      case rel => exact ⟨(y405),(wrap64 (x6_1 + 1)),Q11,H',⟨Q60⟩,⟨qR HO407⟩,⟨Q3⟩⟩
     ·replace c10:=Bool.eq_false_iff.mpr c10
      subst c10
      have H1 : (spec_VotesFor.l0 k1 l0 l1 x5_1 (wrap64 (x6_1 + 1))) = some r:=by rw [if_neg (show ¬ (false = true) by decide)] at H;exact H
      clear H
      have H:=H1
      clear H1
      have H':=aM H
      clear H
      go_wp2_with (first|((with_reducible refine gate_callee (f:=56) rfl ?_);refine goesL_ (some 20) rfl rfl Try.func56 Q14 rfl #[.slice A0 l0.length c0,.agg #[.int .i64 x6_1,.slice A1 l1.length c1]] rfl Q1 ?_;(with_reducible refine (spec_l3Has.calls k1 _ _ l0 x6_1 _ _ l1 false _ ?side1 ?side2 ?side3 ?side4 A9.out).mono ?_);(case side1 => exact Q19);(case side2 => exact HC0.out);(case side3 => exact Q63);(case side4 => exact HC1.out);rintro e w14 ⟨rfl,hb⟩;refine ⟨_,rfl,?_⟩;have n0_:=aM (Kd.R_below (qR HO_5) hb);have n1_:=aM (below_step Q3 hb);clear HO_5;clear HB;have HO_5:=n0_;have HB:=n1_;clear n0_ n1_;(try clear hb);(try clear hb2);(try clear hk);(try clear hi)))
      go_roundg k1
      case measure => have:=HK1.out;omega
      case rel => exact ⟨(x5_1),(wrap64 (x6_1 + 1)),Q11,H',⟨Q60⟩,⟨qR HO_5⟩,⟨Q3⟩⟩
    ·rw [if_neg c8] at H
     have c8b0 : decide (x6_1 ≤ 4) = false:=decide_eq_false c8
     clear c8
     obtain rfl:=Option.some.inj H
     go_wp2
     go_ret
     exact ⟨_,Q6,qR HO_5,Q3⟩
 ·replace c4:=Bool.eq_false_iff.mpr c4
  subst c4
  have H1 : (some y400) = some r:=by rw [if_neg (show ¬ (false = true) by decide)] at H;exact H
  clear H
  have H:=H1
  clear H1
  obtain rfl:=Option.some.inj H
  go_enter Try.func61,Try.ntmps61
  go_wp2_with (first|((with_reducible refine gate_dst (N:=7) rfl ?_);refine Kd.R_lit (Kd.int .i64) _ 3 ?hg (N:=7) ?hd (xs:=([] : List Int)) (inner:=[]) (ok:=fun _ => True) (okp:=fun _ => True) ?hr ?hp (fun _ hk => hk) trivial (Below.refl _ _) (Nat.le_refl _) Q51 ?_;(case hd => rfl);(case hg => rfl);(case hr => exact Q16);(case hp => exact (Reps.none _ _));intro v401 w15 ho16 hb hg_ hnew_;clear hg_ hnew_;(first|rw [← Ny400.out] at ho16|(simp only [Int.reduceToNat] at ho16;rw [← Ny400.out] at ho16));have n0_:=aM (Kd.R_lower ho16 (below_size Q3));have n1_:=aM (below_step Q3 hb);clear HB;have HO402:=n0_;have HB:=n1_;clear n0_ n1_;clear hb ho16)|((with_reducible refine gate_callee (f:=50) rfl ?_);refine goesL_ (some 9) rfl rfl Try.func50 Q14 rfl #[.slice A0 l0.length c0] rfl Q1 ?_;(with_reducible refine (spec_VotesOk.calls k _ _ l0 false _ ?side1 ?side2 A3.out).mono ?_);(case side1 => exact Q19);(case side2 => exact HC0.out);rintro e w17 ⟨rfl,hb⟩;refine ⟨_,rfl,?_⟩;have n0_:=aM (Kd.R_below (qR HO402) hb);have n1_:=aM (below_step Q3 hb);clear HO402;clear HB;have HO402:=n0_;have HB:=n1_;clear n0_ n1_;(try clear hb);(try clear hb2);(try clear hk);(try clear hi)))
  go_ret
  exact ⟨_,Q6,qR HO402,Q3⟩

/-! ### spec_l13Of: function 54 -/
def spec_l13Of.l0 : Nat → List (S82) → List (S40) → Int → Int → List (S40) → List (List Int) → Option ((List (S40)) × (List (List Int)) × Bool)
 | 0,_,_,_,_,_,_ => none
 | k + 1,x0,x1,x6,x8,x418000,x418001 => if x8 ≤ (wrap64 (x6 + 1)) then (if 0 ≤ x8 then (if x8 ≤ (x1.length : Int) then ((spec_VotesFor.f k x0 (x1.take (x8 : Int).toNat)).bind fun t422 => (if x418001.length < 5864062014805 then (spec_l13Of.l0 k x0 x1 x6 (wrap64 (x8 + 1)) x418000 (x418001 ++ [t422])) else (none))) else (none)) else (none)) else (some (x418000,x418001,true))
def spec_l13Of.f (k : Nat) (l0 : List (S82)) (l1 : List (S40)) : Option ((List (S40)) × (List (List Int)) × Bool):=(spec_l11FinalIn.f k l1).bind fun t409 => (if t409 = 0 then (some (([] : List (S40)),([] : List (List Int)),false)) else (if 0 ≤ (wrap64 (t409 + 1)) then (if (wrap64 (t409 + 1)) ≤ (l1.length : Int) then ((spec_l1Copy.f (l1.take ((wrap64 (t409 + 1)) : Int).toNat)).bind fun t414 => (spec_l13Of.l0 k l0 l1 t409 (wrap64 (t409 - 1)) t414 ([] : List (List Int)))) else (none)) else (none)))
theorem spec_l13Of.mono_l : ∀ k,(∀ y0 y1 y2 y3 y4 y5,LeO (spec_l13Of.l0 k y0 y1 y2 y3 y4 y5) (spec_l13Of.l0 (k + 1) y0 y1 y2 y3 y4 y5))
 | 0 => fun _ _ _ _ _ _ r h => by simp [spec_l13Of.l0] at h
 | k + 1 => by
  have ih0:=spec_l13Of.mono_l k
  ·intro y0 y1 y2 y3 y4 y5
   unfold spec_l13Of.l0
   repeat' first
   | exact LeO.refl _
   | exact ih0 _ _ _ _ _ _
   | exact spec_VotesFor.mono _ _ _
   | exact spec_l11FinalIn.mono _ _
   | exact LeO.none _
   | refine LeO.ite ?_ ?_
   | refine LeO.bind ?_ (fun _ => ?_)
theorem spec_l13Of.mono : ∀ a0 a1 k,LeO (spec_l13Of.f k a0 a1) (spec_l13Of.f (k + 1) a0 a1):=by
 intro a0 a1 k
 have ih0:=spec_l13Of.mono_l k
 unfold spec_l13Of.f
 repeat' first
   | exact LeO.refl _
   | exact ih0 _ _ _ _ _ _
   | exact spec_VotesFor.mono _ _ _
   | exact spec_l11FinalIn.mono _ _
   | exact LeO.none _
   | refine LeO.ite ?_ ?_
   | refine LeO.bind ?_ (fun _ => ?_)
def spec_l13Of.T8 : Bool × List (List Nat × List Nat):=(true,[([],[]),([0],[0]),([],[]),([],[]),([],[]),([3,4],[3,4]),([2,5],[2,5]),([6],[6]),([1,7,6],[1,7]),([0,1,2,3,4,5,6,7,8],[]),([9,8,8,0,1,2,3,4,5,6,7,8],[8,9])])
def spec_l13Of.B8 : List Nat:=[0,1,0,0,0,24,60,124,255,511,1023]
theorem spec_l13Of.tab8 : rtab .any (opsOf Try.f54 8) = spec_l13Of.T8:=by kernel_rfl
theorem spec_l13Of.bits8 : waitsOk spec_l13Of.T8.2 spec_l13Of.B8 = true:=by kernel_rfl
set_option maxHeartbeats 8000000 in
set_option maxRecDepth 100000 in
theorem spec_l13Of.calls (k : Nat) (A0 : Option Addr) (c0 : Nat) (l0 : List (S82)) (A1 : Option Addr) (c1 : Nat) (l1 : List (S40)) (r1 : List (S40)) (r2 : List (List Int)) (r3 : Bool) (w : World) (hr0 : Kd.C k82 w A0 l0.length l0) (hc0 : l0.length ≤ c0) (hr1 : Kd.C k40 w A1 l1.length l1) (hc1 : l1.length ≤ c1) (h : spec_l13Of.f k l0 l1 = some (r1,r2,r3)) :
  Calls Try.prog 54 #[.slice A0 l0.length c0,.slice A1 l1.length c1] w fun e w' => ∃ v0_ v1_ : Value,e = .returned (.tuple #[.agg #[v0_,v1_],.bool r3]) ∧ Kd.R k40 40 w' w.heap.size (fun _ => True) v0_ r1 ∧ Kd.R (Kd.slice 3 (Kd.int .i64)) 36 w' w.heap.size (fun _ => True) v1_ r2 ∧ Below w.heap.size w w':=by
 have hu30:=Try.underlying30
 have HR0:=aM hr0
 have HC0:=aM hc0
 clear hr0 hc0
 have HR1:=aM hr1
 have HC1:=aM hc1
 clear hr1 hc1
 have HB:=aM (Below.refl w.heap.size w)
 have H : ((spec_l11FinalIn.f k l1).bind fun t409 => (if t409 = 0 then (some (([] : List (S40)),([] : List (List Int)),false)) else (if 0 ≤ (wrap64 (t409 + 1)) then (if (wrap64 (t409 + 1)) ≤ (l1.length : Int) then ((spec_l1Copy.f (l1.take ((wrap64 (t409 + 1)) : Int).toNat)).bind fun t414 => (spec_l13Of.l0 k l0 l1 t409 (wrap64 (t409 - 1)) t414 ([] : List (List Int)))) else (none)) else (none)))) = some (r1,r2,r3):=h
 clear h
 replace H:=Option.bind_eq_some_iff.mp H
 obtain ⟨t409,A30,H⟩:=H
 replace H : (if t409 = 0 then (some (([] : List (S40)),([] : List (List Int)),false)) else (if 0 ≤ (wrap64 (t409 + 1)) then (if (wrap64 (t409 + 1)) ≤ (l1.length : Int) then ((spec_l1Copy.f (l1.take ((wrap64 (t409 + 1)) : Int).toNat)).bind fun t414 => (spec_l13Of.l0 k l0 l1 t409 (wrap64 (t409 - 1)) t414 ([] : List (List Int)))) else (none)) else (none))) = some (r1,r2,r3):=H
 have A3:=aM A30
 clear A30
 by_cases c4 : t409 = 0
 ·rw [if_pos c4] at H
  have c4b0 : (t409 == 0) = true:=beq_iff_eq.mpr c4
  have c4b1 : (t409 != 0) = false:=bne_eq_false_iff_eq.mpr c4
  clear c4
  simp only [Option.some.injEq,Prod.mk.injEq] at H
  obtain ⟨rfl,rfl,rfl⟩:=H
  go_enter Try.func54,Try.ntmps54
  go_wp2_with (first|((with_reducible refine gate_dst (N:=4) rfl ?_);refine box_event ?hg (N:=4) ?hd (cs:=#[.slice none 0 0,.slice none 0 0]) (t:=30) ?hr ?_;(case hd => rfl);(case hg => rfl);(case hr => exact Q16);intro gb408 hg w5 hbox hb;have n0_:=aM (below_step Q3 hb);have n1_:=aM (hbox);have n2_:=aM ((Q37 : w.heap.size ≤ gb408));have n3_:=aM ((Q37 : w.heap.size ≤ gb408));clear HB;have HB:=n0_;have BK408:=n1_;have GW408:=n2_;have GE408:=n3_;clear n0_ n1_ n2_ n3_;clear hb hbox hg)|((with_reducible refine gate_callee (f:=53) rfl ?_);refine goesL_ (some 10) rfl rfl Try.func53 Q14 rfl #[.slice A1 l1.length c1] rfl Q1 ?_;(with_reducible refine (spec_l11FinalIn.calls k _ _ l1 t409 _ ?side1 ?side2 A3.out).mono ?_);(case side1 => exact Q63);(case side2 => exact HC1.out);rintro e w' ⟨rfl,⟨nd,rfl⟩⟩;refine ⟨_,rfl,?_⟩;(try (rw [drewN_self w5];generalize hq_ : World.drewN w5 _ = w5;have n0_ : Aside0 (w5.heap[gb408]? = some (.cells #[.slice none 0 0,.slice none 0 0] 30 (0,0))):=⟨by rw [← hq_];exact (qk BK408)⟩;have n1_ : Aside0 (Below w.heap.size w w5):=⟨by rw [← hq_];exact Q46⟩;clear BK408 HB hq_;have BK408:=n0_;have HB:=n1_;clear n0_ n1_));have hcz6_0 : w5.cell? ⟨gb408,0,none⟩ = some (.slice none 0 0):=(blk_cell BK408.out 0).trans rfl;have hcz6_1 : w5.cell? ⟨gb408,1,none⟩ = some (.slice none 0 0):=(blk_cell BK408.out 1).trans rfl;have hfz6_0:=blk_frozen BK408.out 0;have hfz6_1:=blk_frozen BK408.out 1))
  refine bodyPost_ret (results_ct rfl _ _ gb408 30 #[.slice none 0 0,.slice none 0 0] (0,0) _ rfl (by (with_reducible repeat (first|refine blk_drewN ?_ _|refine blk_drew ?_|refine blk_alloc ?_ _));refine blk_put (cs:=#[.slice none 0 0,.slice none 0 0]) ?_ 1 _ rfl;(with_reducible repeat (first|refine blk_drewN ?_ _|refine blk_drew ?_|refine blk_alloc ?_ _));refine blk_put (cs:=#[.slice none 0 0,.slice none 0 0]) ?_ 0 _ rfl;(with_reducible repeat (first|refine blk_drewN ?_ _|refine blk_drew ?_|refine blk_alloc ?_ _));exact BK408.out) Try.underlying30 rfl Q14) rfl ?_
  exact ⟨_,_,Q6,Q52,Q52,Q46⟩
 ·rw [if_neg c4] at H
  have c4b0 : (t409 == 0) = false:=beq_eq_false_iff_ne.mpr c4
  have c4b1 : (t409 != 0) = true:=bne_iff_ne.mpr c4
  obtain ⟨ji7,hji7⟩ : ∃ j_ : Int,(wrap64 (t409 + 1)) = j_:=⟨_,rfl⟩
  replace H : (if 0 ≤ (ji7) then (if (ji7) ≤ (l1.length : Int) then ((spec_l1Copy.f (l1.take ((ji7) : Int).toNat)).bind fun t414 => (spec_l13Of.l0 k l0 l1 t409 (wrap64 (t409 - 1)) t414 ([] : List (List Int)))) else (none)) else (none)) = some (r1,r2,r3):=by first|(rw [hji7] at H;exact H)|(simp only [hji7] at H ⊢;exact H)
  (try rw [hji7] at A3)
  have hji7w : (IntKind.i64.wrap (t409 + 1)) = ji7:=(i64_w _).trans hji7
  by_cases c8 : 0 ≤ (ji7)
  case neg => rw [if_neg c8] at H;exact absurd H Q51
  rw [if_pos c8] at H
  have c8b0:=eq_true c8
  have c8b1 : decide (0 ≤ (ji7)) = true:=decide_eq_true c8
  clear c8
  by_cases c9 : (ji7) ≤ (l1.length : Int)
  case neg => rw [if_neg c9] at H;exact absurd H Q51
  rw [if_pos c9] at H
  have c9b0:=eq_true c9
  have c9b1 : decide ((ji7) ≤ (l1.length : Int)) = true:=decide_eq_true c9
  clear c9
  obtain ⟨y410,hy410⟩ : ∃ y_ : List (S40),y_ = (l1.take ((ji7) : Int).toNat):=⟨_,rfl⟩
  replace H : ((spec_l1Copy.f y410).bind fun t414 => (spec_l13Of.l0 k l0 l1 t409 (wrap64 (t409 - 1)) t414 ([] : List (List Int)))) = some (r1,r2,r3):=by first|(rw [hy410];with_reducible exact H)|(have H2_:=(Option.bind_some _ _).symm.trans H;rw [hy410];with_reducible exact H2_)|(have H2_:=(Option.bind_some _ _).symm.trans H;with_reducible exact H2_)|with_reducible exact H|(rw [hy410];exact H)|exact H
  have Ny410:=aM hy410
  clear hy410
  replace H:=Option.bind_eq_some_iff.mp H
  obtain ⟨t414,A100,H⟩:=H
  replace H : (spec_l13Of.l0 k l0 l1 t409 (wrap64 (t409 - 1)) t414 ([] : List (List Int))) = some (r1,r2,r3):=H
  have A10:=aM A100
  clear A100
  have H':=aM H
  clear H
  go_enter Try.func54,Try.ntmps54
  go_wp2_with (first|((with_reducible refine gate_dst (N:=4) rfl ?_);refine box_event ?hg (N:=4) ?hd (cs:=#[.slice none 0 0,.slice none 0 0]) (t:=30) ?hr ?_;(case hd => rfl);(case hg => rfl);(case hr => exact Q16);intro gb408 hg w11 hbox hb;have n0_:=aM (below_step Q3 hb);have n1_:=aM (hbox);have n2_:=aM ((Q37 : w.heap.size ≤ gb408));have n3_:=aM ((Q37 : w.heap.size ≤ gb408));clear HB;have HB:=n0_;have BK408:=n1_;have GW408:=n2_;have GE408:=n3_;clear n0_ n1_ n2_ n3_;clear hb hbox hg)|((with_reducible refine gate_callee (f:=53) rfl ?_);refine goesL_ (some 10) rfl rfl Try.func53 Q14 rfl #[.slice A1 l1.length c1] rfl Q1 ?_;(with_reducible refine (spec_l11FinalIn.calls k _ _ l1 t409 _ ?side1 ?side2 A3.out).mono ?_);(case side1 => exact Q63);(case side2 => exact HC1.out);rintro e w' ⟨rfl,⟨nd,rfl⟩⟩;refine ⟨_,rfl,?_⟩;(try (rw [drewN_self w11];generalize hq_ : World.drewN w11 _ = w11;have n0_ : Aside0 (w11.heap[gb408]? = some (.cells #[.slice none 0 0,.slice none 0 0] 30 (0,0))):=⟨by rw [← hq_];exact (qk BK408)⟩;have n1_ : Aside0 (Below w.heap.size w w11):=⟨by rw [← hq_];exact Q46⟩;clear BK408 HB hq_;have BK408:=n0_;have HB:=n1_;clear n0_ n1_));have q12 : ((ji7) : Int) ≤ ((l1.length : Int) : Int):=of_decide_eq_true Q5;obtain ⟨i012,hi012,_,hsz12,_⟩:=info_parts info40;have hroom12 : l1.length ≤ c1:=HC1.out;have hC12 : Kd.C k40 _ A1 l1.length l1:=HR1.out;have hcut12:=cut_to (P:=Try.prog) 28 40 .i64 Try.underlying28 hi012 A1 l1.length c1 (ji7) (of_decide_eq_true Q5) q12 hroom12;have hr12:=Kd.C_take (m:=((ji7) : Int).toNat) hC12 Q17;have hy12 : y410.length = ((ji7) : Int).toNat:=(by rw [Ny410.out,List.length_take];omega);rw [← Ny410.out] at hr12;rw [← hy12] at hcut12;have HR413:=aM hr12;have HC413:=aM (show y410.length ≤ c1 from Q17);clear hr12 hC12 hroom12 hi012 hsz12;have KY12:=aM hy12;clear hy12;replace q12:=eq_true q12)|((with_reducible refine gate_callee (f:=48) rfl ?_);refine goesL_ (some 18) rfl rfl Try.func48 Q14 rfl #[.slice A1 y410.length c1] rfl Q1 ?_;(with_reducible refine (spec_l1Copy.calls _ _ y410 t414 _ ?side1 ?side2 A10.out).mono ?_);(case side1 => repeat (first|exact (Kd.C_below HR413.out HB.out)|(with_reducible refine Kd.C_alloc ?_ _)|(with_reducible refine Kd.C_drewN ?_ _)|(with_reducible refine Kd.C_drew ?_)));(case side2 => exact HC413.out);rintro e w13 ⟨v415,rfl,ho0,hb⟩;refine ⟨_,rfl,?_⟩;have n0_:=aM (Kd.R_lower ho0 (below_size Q46));have n1_:=aM (blk_below (g:=gb408) (o:=.cells #[.slice none 0 0,.slice none 0 0] 30 (0,0)) (qk BK408) hb);have n2_:=aM (below_step Q46 hb);clear BK408;clear HB;have HO416:=n0_;have BK408:=n1_;have HB:=n2_;clear n0_ n1_ n2_;(try clear hb);(try clear hb2);(try clear hk);(try clear hi);(try clear ho0);obtain ⟨Ao14,co14,eo14⟩:=Kd.R_slice HO416.out;subst eo14)|((with_reducible refine gate_dst (N:=7) rfl ?_);refine box_event ?hg (N:=7) ?hd (cs:=#[.slice none 0 0,.slice none 0 0]) (t:=30) ?hr ?_;(case hd => rfl);(case hg => rfl);(case hr => exact Q16);intro gb417 hg w15 hbox hb;have n0_:=aM (Kd.R_below (qR HO416) hb);have n1_:=aM (blk_below (g:=gb408) (o:=.cells #[.slice none 0 0,.slice none 0 0] 30 (0,0)) (qk BK408) hb);have n2_:=aM (below_step Q46 hb);have n3_:=aM (hbox);have n4_:=aM ((by rw [hg];exact (below_size Q46) : w.heap.size ≤ gb417));have n5_:=aM ((by rw [hg];exact (below_size Q46) : w.heap.size ≤ gb417));have n6_:=aM ((by rw [hg];exact Nat.ne_of_lt (blk_lt (g:=gb408) (o:=.cells #[.slice none 0 0,.slice none 0 0] 30 (0,0)) (qk BK408)) : gb408 ≠ gb417));have n7_:=aM ((by rw [hg];exact Nat.ne_of_gt (blk_lt (g:=gb408) (o:=.cells #[.slice none 0 0,.slice none 0 0] 30 (0,0)) (qk BK408)) : gb417 ≠ gb408));clear HO416;clear BK408;clear HB;have HO416:=n0_;have BK408:=n1_;have HB:=n2_;have BK417:=n3_;have GW417:=n4_;have GE417:=n5_;have NB408_417:=n6_;have NB417_408:=n7_;clear n0_ n1_ n2_ n3_ n4_ n5_ n6_ n7_;clear hb hbox hg;have hnb16:=NB417_408.out;have hnc16:=NB408_417.out;have hcz17_0 : w15.cell? ⟨gb417,0,none⟩ = some (.slice none 0 0):=(blk_cell BK417.out 0).trans rfl;have hcz17_1 : w15.cell? ⟨gb417,1,none⟩ = some (.slice none 0 0):=(blk_cell BK417.out 1).trans rfl;have hfz17_0:=blk_frozen BK417.out 0;have hfz17_1:=blk_frozen BK417.out 1))
  go_loopg [8] k (fun kq v8 w' => ∃ (x8_1 : Int) (x418001_1 : List (List Int)) (u418001 : Value),v8 = .int .i64 x8_1 ∧ Aside0 (spec_l13Of.l0 kq l0 l1 t409 x8_1 t414 x418001_1 = some (r1,r2,r3)) ∧ Aside0 (kq ≤ k) ∧ Aside0 (Kd.R k40 40 w' w.heap.size (fun _ => True) (.slice Ao14 t414.length co14) t414) ∧ Aside0 (Kd.R (Kd.slice 3 (Kd.int .i64)) 36 w' w.heap.size (fun _ => True) u418001 x418001_1) ∧ Aside0 (w'.heap[gb408]? = some (.cells #[(.slice none 0 0),(.slice none 0 0)] 30 (0,0))) ∧ Aside0 (w'.heap[gb417]? = some (.cells #[(.slice Ao14 t414.length co14),u418001] 30 (0,0))) ∧ Aside0 (Below w.heap.size w w'))
  case atStart => exact ⟨(wrap64 (t409 - 1)),(([] : List (List Int))),(.slice none 0 0),Q11,H',⟨Nat.le_refl _⟩,⟨by (with_reducible repeat (first|apply Kd.R_alloc|apply Kd.R_drewN|apply Kd.R_drew));exact Kd.R_mono (Kd.R_far (p:=⟨gb417,1,none⟩) (Kd.R_far (p:=⟨gb417,0,none⟩) (Kd.R_types HO416.out BK417.out Q36) (fun _ hk => hk.2) (.slice Ao14 t414.length co14)) (fun _ hk => hk.2) (.slice none 0 0)) (fun _ hk => trivial)⟩,⟨Q52⟩,⟨by (with_reducible repeat (first|refine blk_drewN ?_ _|refine blk_drew ?_|refine blk_alloc ?_ _));refine blk_far ?_ NB408_417.out _;(with_reducible repeat (first|refine blk_drewN ?_ _|refine blk_drew ?_|refine blk_alloc ?_ _));refine blk_far ?_ NB408_417.out _;(with_reducible repeat (first|refine blk_drewN ?_ _|refine blk_drew ?_|refine blk_alloc ?_ _));exact BK408.out⟩,⟨by (with_reducible repeat (first|refine blk_drewN ?_ _|refine blk_drew ?_|refine blk_alloc ?_ _));refine blk_put (cs:=#[.slice Ao14 t414.length co14,.slice none 0 0]) ?_ 1 _ rfl;(with_reducible repeat (first|refine blk_drewN ?_ _|refine blk_drew ?_|refine blk_alloc ?_ _));refine blk_put (cs:=#[.slice none 0 0,.slice none 0 0]) ?_ 0 _ rfl;(with_reducible repeat (first|refine blk_drewN ?_ _|refine blk_drew ?_|refine blk_alloc ?_ _));exact BK417.out⟩,⟨Q41⟩⟩
  case round =>
   clear H'
   try clear c1
   try clear q1
   try clear p2
   try clear c4
   try clear c4b0
   try clear c4b1
   try clear c5
   try clear p6
   try clear c8
   try clear c8b0
   try clear c8b1
   try clear c9
   try clear c9b0
   try clear c9b1
   try clear q12
   try clear c16
   try clear hcz17_0
   try clear hcz17_1
   try clear hcz6_0
   try clear hcz6_1
   try clear hfz17_0
   try clear hfz17_1
   try clear hfz6_0
   try clear hfz6_1
   try clear q12
   obtain ⟨x8_1,x418001_1,u418001,rfl,HA,HK1,HO_418000,HO_418001,BK408,BK417,HB⟩:=hrel
   cases gk with
   | zero => exact absurd HA.out (by simp [spec_l13Of.l0])
   | succ k1 =>
    have H:=HA.out
    clear HA
    simp only [spec_l13Of.l0] at H
    by_cases c18 : x8_1 ≤ (wrap64 (t409 + 1))
    ·rw [if_pos c18] at H
     have c18b0 : decide (x8_1 ≤ (wrap64 (t409 + 1))) = true:=decide_eq_true c18
     (try rw [hji7] at c18b0)
     clear c18
     by_cases c19 : 0 ≤ x8_1
     case neg => rw [if_neg c19] at H;exact absurd H Q51
     rw [if_pos c19] at H
     have c19b0:=eq_true c19
     have c19b1 : decide (0 ≤ x8_1) = true:=decide_eq_true c19
     clear c19
     by_cases c20 : x8_1 ≤ (l1.length : Int)
     case neg => rw [if_neg c20] at H;exact absurd H Q51
     rw [if_pos c20] at H
     have c20b0:=eq_true c20
     have c20b1 : decide (x8_1 ≤ (l1.length : Int)) = true:=decide_eq_true c20
     clear c20
     obtain ⟨y418,hy418⟩ : ∃ y_ : List (S40),y_ = (l1.take (x8_1 : Int).toNat):=⟨_,rfl⟩
     replace H : ((spec_VotesFor.f k1 l0 y418).bind fun t422 => (if x418001_1.length < 5864062014805 then (spec_l13Of.l0 k1 l0 l1 t409 (wrap64 (x8_1 + 1)) t414 (x418001_1 ++ [t422])) else (none))) = some (r1,r2,r3):=by first|(rw [hy418];with_reducible exact H)|(have H2_:=(Option.bind_some _ _).symm.trans H;rw [hy418];with_reducible exact H2_)|(have H2_:=(Option.bind_some _ _).symm.trans H;with_reducible exact H2_)|with_reducible exact H|(rw [hy418];exact H)|exact H
     have Ny418:=aM hy418
     clear hy418
     replace H:=Option.bind_eq_some_iff.mp H
     obtain ⟨t422,A210,H⟩:=H
     replace H : (if x418001_1.length < 5864062014805 then (spec_l13Of.l0 k1 l0 l1 t409 (wrap64 (x8_1 + 1)) t414 (x418001_1 ++ [t422])) else (none)) = some (r1,r2,r3):=H
     have A21:=aM A210
     clear A210
     by_cases c22 : x418001_1.length < 5864062014805
     case neg => rw [if_neg c22] at H;exact absurd H Q51
     rw [if_pos c22] at H
     have LMc22:=aM c22
     clear c22
     obtain ⟨y425,hy425⟩ : ∃ y_ : List (List Int),y_ = (x418001_1 ++ [t422]):=⟨_,rfl⟩
     replace H : (spec_l13Of.l0 k1 l0 l1 t409 (wrap64 (x8_1 + 1)) t414 y425) = some (r1,r2,r3):=by first|(rw [hy425];with_reducible exact H)|(have H2_:=(Option.bind_some _ _).symm.trans H;rw [hy425];with_reducible exact H2_)|(have H2_:=(Option.bind_some _ _).symm.trans H;with_reducible exact H2_)|with_reducible exact H|(rw [hy425];exact H)|exact H
     have Ny425:=aM hy425
     clear hy425
     have H':=aM H
     clear H
     try go_wp2
     have n0_:=aM (Kd.R_drew HO_418000.out)
     have n1_:=aM (Kd.R_drew HO_418001.out)
     have n2_:=aM (blk_drew BK408.out)
     have n3_:=aM (blk_drew BK417.out)
     have n4_:=aM (bD HB.out)
     clear HO_418000
     clear HO_418001
     clear BK408
     clear BK417
     clear HB
     have HO_418000:=n0_
     have HO_418001:=n1_
     have BK408:=n2_
     have BK417:=n3_
     have HB:=n4_
     clear n0_ n1_ n2_ n3_ n4_
     have q24 : (x8_1 : Int) ≤ ((l1.length : Int) : Int):=of_decide_eq_true Q5
     obtain ⟨i024,hi024,_,hsz24,_⟩:=info_parts info40
     have hroom24 : l1.length ≤ c1:=HC1.out
     have hC24 : Kd.C k40 _ A1 l1.length l1:=HR1.out
     have hcut24:=cut_to (P:=Try.prog) 28 40 .i64 Try.underlying28 hi024 A1 l1.length c1 x8_1 (of_decide_eq_true Q5) q24 hroom24
     have hr24:=Kd.C_take (m:=(x8_1 : Int).toNat) hC24 Q17
     have hy24 : y418.length = (x8_1 : Int).toNat:=(by rw [Ny418.out,List.length_take];omega)
     rw [← Ny418.out] at hr24
     rw [← hy24] at hcut24
     have HR421:=aM hr24
     have HC421:=aM (show y418.length ≤ c1 from Q17)
     clear hr24 hC24 hroom24 hi024 hsz24
     have KY24:=aM hy24
     clear hy24
     replace q24:=eq_true q24
     refine start_ (n:=11) (S:=fun w' => w'.cell? ⟨gb417,0,none⟩ = some (.slice Ao14 t414.length co14) ∧ w'.cell? ⟨gb417,1,none⟩ = some (u418001)) (ds:=[10]) #[bF,bF,bF,bF,bF,bF,bF,bF,bF,bF,bF] Q14 rfl rfl ⟨(blk_cell BK417.out 0).trans rfl,(blk_cell BK417.out 1).trans rfl⟩ (fun hHeld => ?_);refine with_tabW spec_l13Of.tab8 spec_l13Of.bits8 (fun HT_ HW_ => ?_)
     generalize wr.drew = w23 at HO_418000 HO_418001 BK408 BK417 HB HR421 hHeld ⊢
     refine pS HT_ 0 28 ?_
     refine pS HT_ 2 30 ?_
     refine pS HT_ 3 31 ?_
     refine pS HT_ 4 32 ?_
     refine pS HT_ 5 33 ?_
     refine take_ (i:=1) (N:=some 29) (v:=?_) (a':=?_) #[bT,bT,bT,bT,bT,bT,bF,bF,bF,bF,bF] rfl rfl (take_ofW HT_.out HW_.out Q14) (fun _ _ _ h => h) (Or.inl ⟨Q70,?_⟩) hHeld ?_ ?_
     rotate_left
     ·rintro w' ⟨s0,s1⟩
      (try simp only [Int.toNat_natCast] at s0 s1)
      go_simp
      with_reducible rfl
     rotate_left
     ·simp only [Act.put,sI,sZ,sS,i64_w,i32_w]
      rfl
     refine one_ (i:=6) (N:=some 34) #[bT,bT,bT,bT,bT,bT,bT,bF,bF,bF,bF] rfl rfl (one_of HT_.out Q14) Q36 (fun K hK => ?_)
     refine goes_ Try.func61 Q14 rfl #[.slice A0 l0.length c0,.slice A1 y418.length c1] Q70 rfl rfl Q1 ?_
     with_reducible refine (spec_VotesFor.calls k1 _ _ l0 _ _ y418 t422 _ ?side1 ?side2 ?side3 ?side4 A21.out).mono ?_
     (case side1 => exact Q19)
     (case side2 => exact HC0.out)
     (case side3 => repeat (first|exact (Kd.C_below HR421.out HB.out)|(with_reducible refine Kd.C_alloc ?_ _)|(with_reducible refine Kd.C_drewN ?_ _)|(with_reducible refine Kd.C_drew ?_)))
     (case side4 => exact HC421.out)
     rintro e w25 ⟨v423,rfl,ho0,hb⟩
     refine ⟨_,rfl,?_⟩
     have n0_:=aM (Kd.R_below (qR HO_418000) hb)
     have n1_:=aM (Kd.R_elder' (qR HO_418001) (Kd.R_base ho0) hb)
     have n2_:=aM (Kd.R_lower ho0 (below_size Q41))
     have n3_:=aM (blk_below (g:=gb408) (o:=.cells #[.slice none 0 0,.slice none 0 0] 30 (0,0)) (qk BK408) hb)
     have n4_:=aM (blk_below (g:=gb417) (o:=.cells #[.slice Ao14 t414.length co14,u418001] 30 (0,0)) (qk BK417) hb)
     have n5_:=aM (below_step Q41 hb)
     clear HO_418000
     clear HO_418001
     clear BK408
     clear BK417
     clear HB
     have HO_418000:=n0_
     have HO_418001:=n1_
     have HO424:=n2_
     have BK408:=n3_
     have BK417:=n4_
     have HB:=n5_
     clear n0_ n1_ n2_ n3_ n4_ n5_
     (try clear hb)
     (try clear hb2)
     (try clear hk)
     (try clear hi)
     (try clear ho0)
     obtain ⟨Ao27,co27,eo27⟩:=Kd.R_slice HO424.out
     (first|subst eo27|(injection eo27 with f1_ f2_ f3_;have f4_:=f1_.symm;have f5_:=f3_.symm;clear f1_ f2_ f3_;subst f4_;subst f5_))
     refine hK.out _ _ ⟨(blk_cell BK417.out 0).trans rfl,(blk_cell BK417.out 1).trans rfl⟩ (fun hHeld => ?_)
     clear hK K
     refine norm_ (a':=?_) ?_ ?_
     rotate_left
     ·show Act.put _ (some 34) _ = _
      simp only [Act.put,sI,sZ,sS,i64_w,i32_w]
      rfl
     refine one_ (i:=7) (N:=some 35) #[bT,bT,bT,bT,bT,bT,bT,bT,bF,bF,bF] rfl rfl (one_of HT_.out Q14) Q36 (fun K hK => ?_)
     refine value_ (w1:=?_) (v:=?_) Q70 rfl ?_ ?_
     rotate_left 2
     ·go_simp
      constructor
      ·rfl
      ·rfl
     refine hK.out _ _ ⟨(blk_cell (blk_alloc BK417.out _) 0).trans rfl,(blk_cell (blk_alloc BK417.out _) 1).trans rfl⟩ (fun hHeld => ?_)
     clear hK K
     refine norm_ (a':=?_) ?_ ?_
     rotate_left
     ·show Act.put _ (some 35) _ = _
      simp only [Act.put,sI,sZ,sS,i64_w,i32_w]
      rfl
     refine one_ (i:=8) (N:=some 36) #[bT,bT,bT,bT,bT,bT,bT,bT,bT,bF,bF] rfl rfl (one_of HT_.out Q14) Q36 (fun K hK => ?_)
     refine Kd.R_append_step (Kd.slice 3 (Kd.int .i64)) (w0:=w) w.heap.size Q70 (.tmp 29) (.tmp 35) 23 36 (.slice none 0 0) 24 rfl Try.underlying23 info36 rfl Q36 Q17 u418001 x418001_1 t422 [.slice Ao27 t422.length co27] (fun _ => True) (fun k_ => ((fun _ => True)) k_ ∧ some k_ ≠ (u418001 : Value).ownBlock) rfl rfl ?aP (fun _ hk => hk) ?aF ?aO ?aB ?aS ?aL ?_
     (case aP => exact Kd.M_row (Kd.R_mono (Kd.R_apart' (HO424.out) (Kd.R_typed HO_418001.out) Q36) (fun k_ hk => ⟨trivial,hk.2⟩)))
     (case aB => exact Q41)
     (case aF => exact (fun _ _ => trivial))
     (case aO => exact (by (with_reducible repeat (first|apply Kd.R_alloc|apply Kd.R_drewN|apply Kd.R_drew));exact Kd.R_mono HO_418001.out (fun _ hk => trivial)))
     (case aS => exact (below_size Q41))
     (case aL => have:=LMc22.out;omega)
     intro v426 w26 ho hb hg hat
     have hHN2_:=True.intro
     rw [← Ny425.out] at ho
     have n0_:=aM (Kd.R_over' (qR HO_418000) (Kd.R_typed (qR HO_418001)) Q36 hg)
     have n1_:=aM (blk_grown (g:=gb408) (o:=.cells #[.slice none 0 0,.slice none 0 0] 30 (0,0)) (qk BK408) hg (Kd.R_ne HO_418001.out BK408.out Q36))
     have n2_:=aM (blk_grown (g:=gb417) (o:=.cells #[.slice Ao14 t414.length co14,u418001] 30 (0,0)) (qk BK417) hg (Kd.R_ne HO_418001.out BK417.out Q36))
     have n3_:=aM (hb)
     have n4_:=aM (ho)
     clear HO_418000
     clear BK408
     clear BK417
     clear HB
     clear HO_418001
     clear HO424
     have HO_418000:=n0_
     have BK408:=n1_
     have BK417:=n2_
     have HB:=n3_
     have HO427:=n4_
     clear n0_ n1_ n2_ n3_ n4_
     clear ho hb hg hat
     obtain ⟨Ao28,co28,eo28⟩:=Kd.R_slice HO427.out
     (first|subst eo28|(injection eo28 with f1_ f2_ f3_;have f4_:=f1_.symm;have f5_:=f3_.symm;clear f1_ f2_ f3_;subst f4_;subst f5_))
     refine hK.out _ _ ⟨(blk_cell BK417.out 0).trans rfl,(blk_cell BK417.out 1).trans rfl⟩ (fun hHeld => ?_)
     clear hK K
     refine norm_ (a':=?_) ?_ ?_
     rotate_left
     ·show Act.put _ (some 36) _ = _
      simp only [Act.put,sI,sZ,sS,i64_w,i32_w]
      rfl
     refine pS HT_ 9 37 ?_
     refine last_ (i:=10) (N:=none) #[bT,bT,bT,bT,bT,bT,bT,bT,bT,bT,bT] rfl rfl (one_of HT_.out Q14) Q36 (fun K hK => ?_)
     have hs29 : w26.cell? ⟨gb417,1,none⟩ = some (u418001):=(blk_cell BK417.out 1).trans rfl
     have hfs29:=blk_frozen BK417.out 1
     have hns29_0:=NB408_417.out
     have hms29_0:=NB417_408.out
     refine skip_ (w1:=?_) Q70 rfl ?_ ?_
     rotate_left
     ·go_simp
      rfl
     refine hK.out _ _ ?_
     clear hK K
     refine done_ (done_of HT_.out Q14) ?_
     try go_wp2
     go_roundg k1
     case measure => have:=HK1.out;omega
     case rel => exact ⟨(wrap64 (x8_1 + 1)),(y425),(.slice Ao28 y425.length co28),Q11,H',⟨Q60⟩,⟨by (with_reducible repeat (first|apply Kd.R_alloc|apply Kd.R_drewN|apply Kd.R_drew));exact Kd.R_mono (Kd.R_far (p:=⟨gb417,1,none⟩) (Kd.R_types HO_418000.out BK417.out Q36) (fun _ hk => hk.2) (.slice Ao28 y425.length co28)) (fun _ hk => trivial)⟩,⟨by (with_reducible repeat (first|apply Kd.R_alloc|apply Kd.R_drewN|apply Kd.R_drew));exact Kd.R_mono (Kd.R_far (p:=⟨gb417,1,none⟩) (Kd.R_types HO427.out BK417.out Q36) (fun _ hk => hk.2) (.slice Ao28 y425.length co28)) (fun _ hk => trivial)⟩,⟨by (with_reducible repeat (first|refine blk_drewN ?_ _|refine blk_drew ?_|refine blk_alloc ?_ _));refine blk_far ?_ NB408_417.out _;(with_reducible repeat (first|refine blk_drewN ?_ _|refine blk_drew ?_|refine blk_alloc ?_ _));exact BK408.out⟩,⟨by (with_reducible repeat (first|refine blk_drewN ?_ _|refine blk_drew ?_|refine blk_alloc ?_ _));refine blk_put (cs:=#[.slice Ao14 t414.length co14,u418001]) ?_ 1 _ rfl;(with_reducible repeat (first|refine blk_drewN ?_ _|refine blk_drew ?_|refine blk_alloc ?_ _));exact BK417.out⟩,⟨Q41⟩⟩
    ·rw [if_neg c18] at H
     have c18b0 : decide (x8_1 ≤ (wrap64 (t409 + 1))) = false:=decide_eq_false c18
     (try rw [hji7] at c18b0)
     clear c18
     simp only [Option.some.injEq,Prod.mk.injEq] at H
     obtain ⟨rfl,rfl,rfl⟩:=H
     have hnb30:=NB417_408.out
     have hnc30:=NB408_417.out
     have hcz31_0 : wr.cell? ⟨gb417,0,none⟩ = some (.slice Ao14 t414.length co14):=(blk_cell BK417.out 0).trans rfl
     have hcz31_1 : wr.cell? ⟨gb417,1,none⟩ = some (u418001):=(blk_cell BK417.out 1).trans rfl
     have hfz31_0:=blk_frozen BK417.out 0
     have hfz31_1:=blk_frozen BK417.out 1
     have hcz32_0 : wr.cell? ⟨gb408,0,none⟩ = some (.slice none 0 0):=(blk_cell BK408.out 0).trans rfl
     have hcz32_1 : wr.cell? ⟨gb408,1,none⟩ = some (.slice none 0 0):=(blk_cell BK408.out 1).trans rfl
     have hfz32_0:=blk_frozen BK408.out 0
     have hfz32_1:=blk_frozen BK408.out 1
     obtain ⟨Ao33,co33,eo33⟩:=Kd.R_slice HO_418001.out
     subst eo33
     go_wp2
     refine bodyPost_ret (results_ct rfl _ _ gb408 30 #[.slice Ao14 t414.length co14,.slice Ao33 x418001_1.length co33] (0,0) _ rfl (by (with_reducible repeat (first|refine blk_drewN ?_ _|refine blk_drew ?_|refine blk_alloc ?_ _));refine blk_put (cs:=#[.slice Ao14 t414.length co14,.slice none 0 0]) ?_ 1 _ rfl;(with_reducible repeat (first|refine blk_drewN ?_ _|refine blk_drew ?_|refine blk_alloc ?_ _));refine blk_put (cs:=#[.slice none 0 0,.slice none 0 0]) ?_ 0 _ rfl;(with_reducible repeat (first|refine blk_drewN ?_ _|refine blk_drew ?_|refine blk_alloc ?_ _));exact BK408.out) Try.underlying30 rfl Q14) rfl ?_
     exact ⟨_,_,by first|rfl|(simp only [i64_w,i32_w];done)|(simp only [i64_w,i32_w];rfl)|(simp [errW_none,errW_some] <;> rfl)|(simp only [← hji7];first|rfl|(simp [errW_none,errW_some] <;> rfl))|(simp [*,errW_none,errW_some] <;> rfl),by (with_reducible repeat (first|apply Kd.R_alloc|apply Kd.R_drewN|apply Kd.R_drew));exact Kd.R_mono (Kd.R_far (p:=⟨gb408,1,none⟩) (Kd.R_far (p:=⟨gb408,0,none⟩) (Kd.R_types HO_418000.out BK408.out Q36) (fun _ hk => hk.2) (.slice Ao14 t414.length co14)) (fun _ hk => hk.2) (.slice Ao33 x418001_1.length co33)) (fun _ hk => trivial),by (with_reducible repeat (first|apply Kd.R_alloc|apply Kd.R_drewN|apply Kd.R_drew));exact Kd.R_mono (Kd.R_far (p:=⟨gb408,1,none⟩) (Kd.R_far (p:=⟨gb408,0,none⟩) (Kd.R_types HO_418001.out BK408.out Q36) (fun _ hk => hk.2) (.slice Ao14 t414.length co14)) (fun _ hk => hk.2) (.slice Ao33 x418001_1.length co33)) (fun _ hk => trivial),Q41⟩

end Go.Proofs.Ytlcfalecbpnhbaa.P
