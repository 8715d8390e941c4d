/- The printed functions: what each Go function computes, as a Lean function, and that the Go code comes to just that. Conditions: none beyond each contract's own. -/
import Derived.Test.YtlcfalecbpnhbaaPx0
import Derived.Test.YtlcfalecbpnhbaaPx8
import Derived.Test.YtlcfalecbpnhbaaPx9
import Derived.Test.YtlcfalecbpnhbaaPx10
import Derived.Test.YtlcfalecbpnhbaaPx11
import Derived.Test.YtlcfalecbpnhbaaPx12
import Derived.Test.YtlcfalecbpnhbaaPx13
namespace Go.Proofs.Ytlcfalecbpnhbaa.P
open Go.RowKit Go.Proofs.YtlcfalecbpnhbaaW.PrintWords Go.Proofs.YtlcfalecbpnhbaaW.PrintLast Go.Proofs.YtlcfalecbpnhbaaW.PrintMore
attribute [local go_sem] max2_int min2_int max_two min_two max_three min_three max_four min_four   -- for this text's walks alone
set_option linter.unusedVariables false
set_option linter.unusedSimpArgs false

/-! ### spec_CertOf: function 39 -/
def spec_CertOf.l0 : Nat → List (S82) → List (List (S40)) → Int → Int → Option ((List (S40)) × (List (List Int)) × Bool)
 | 0,_,_,_,_ => none
 | k + 1,x0,x4,x5,x6 => if x6 < (x4.length : Int) then (if 0 ≤ x6 then ((spec_l11FinalIn.f k (rd_L7 x4 x6)).bind fun t437 => (if t437 = x5 then (if x5 > 0 then ((spec_l13Of.f k x0 (rd_L7 x4 x6)).bind fun bt439 => (some (bt439.1,bt439.2.1,bt439.2.2))) else (spec_CertOf.l0 k x0 x4 x5 (wrap64 (x6 + 1)))) else (spec_CertOf.l0 k x0 x4 x5 (wrap64 (x6 + 1))))) else (none)) else (some (([] : List (S40)),([] : List (List Int)),false))
def spec_CertOf.f (k : Nat) (l0 : List (S82)) : Option ((List (S40)) × (List (List Int)) × Bool):=(spec_VotesOk.f k l0).bind fun t429 => (if t429 = true then ((spec_l11All.f k l0).bind fun t430 => ((spec_l11Final.f k l0).bind fun t433 => (spec_CertOf.l0 k l0 t430 (t433.length : Int) 0))) else (some (([] : List (S40)),([] : List (List Int)),false)))
theorem spec_CertOf.mono_l : ∀ k,(∀ y0 y1 y2 y3,LeO (spec_CertOf.l0 k y0 y1 y2 y3) (spec_CertOf.l0 (k + 1) y0 y1 y2 y3))
 | 0 => fun _ _ _ _ r h => by simp [spec_CertOf.l0] at h
 | k + 1 => by
  have ih0:=spec_CertOf.mono_l k
  ·intro y0 y1 y2 y3
   unfold spec_CertOf.l0
   repeat' first
   | exact LeO.refl _
   | exact ih0 _ _ _ _
   | exact spec_VotesOk.mono _ _
   | exact spec_l11All.mono _ _
   | exact spec_l11Final.mono _ _
   | exact spec_l11FinalIn.mono _ _
   | exact spec_l13Of.mono _ _ _
   | exact LeO.none _
   | refine LeO.ite ?_ ?_
   | refine LeO.bind ?_ (fun _ => ?_)
theorem spec_CertOf.mono : ∀ a0 k,LeO (spec_CertOf.f k a0) (spec_CertOf.f (k + 1) a0):=by
 intro a0 k
 have ih0:=spec_CertOf.mono_l k
 unfold spec_CertOf.f
 repeat' first
   | exact LeO.refl _
   | exact ih0 _ _ _ _
   | exact spec_VotesOk.mono _ _
   | exact spec_l11All.mono _ _
   | exact spec_l11Final.mono _ _
   | exact spec_l11FinalIn.mono _ _
   | exact spec_l13Of.mono _ _ _
   | exact LeO.none _
   | refine LeO.ite ?_ ?_
   | refine LeO.bind ?_ (fun _ => ?_)
set_option maxHeartbeats 8000000 in
set_option maxRecDepth 100000 in
theorem spec_CertOf.calls (k : Nat) (A0 : Option Addr) (c0 : Nat) (l0 : List (S82)) (r1 : List (S40)) (r2 : List (List Int)) (r3 : Bool) (w : World) (hr0 : Kd.C k82 w A0 l0.length l0) (hc0 : l0.length ≤ c0) (h : spec_CertOf.f k l0 = some (r1,r2,r3)) :
  Calls Try.prog 39 #[.slice A0 l0.length c0] w fun e w' => ∃ v0_ v1_ : Value,e = .returned (.tuple #[.agg #[v0_,v1_],.bool r3]) ∧ Kd.R k40 40 w' w.heap.size (fun k_ => (w.heap.size ≤ k_)) v0_ r1 ∧ Kd.N (Kd.slice 3 (Kd.int .i64)) 36 w' w.heap.size (fun k_ => (w.heap.size ≤ k_) ∧ some k_ ≠ (v0_ : Value).ownBlock) v1_ r2 ∧ Below w.heap.size w w':=by
 have hu30:=Try.underlying30
 have HR0:=aM hr0
 have HC0:=aM hc0
 clear hr0 hc0
 have HB:=aM (Below.refl w.heap.size w)
 have H : ((spec_VotesOk.f k l0).bind fun t429 => (if t429 = true then ((spec_l11All.f k l0).bind fun t430 => ((spec_l11Final.f k l0).bind fun t433 => (spec_CertOf.l0 k l0 t430 (t433.length : Int) 0))) else (some (([] : List (S40)),([] : List (List Int)),false)))) = some (r1,r2,r3):=h
 clear h
 replace H:=Option.bind_eq_some_iff.mp H
 obtain ⟨t429,A20,H⟩:=H
 replace H : (if t429 = true then ((spec_l11All.f k l0).bind fun t430 => ((spec_l11Final.f k l0).bind fun t433 => (spec_CertOf.l0 k l0 t430 (t433.length : Int) 0))) else (some (([] : List (S40)),([] : List (List Int)),false))) = some (r1,r2,r3):=H
 have A2:=aM A20
 clear A20
 by_cases c3 : t429 = true
 ·subst c3
  have H1 : ((spec_l11All.f k l0).bind fun t430 => ((spec_l11Final.f k l0).bind fun t433 => (spec_CertOf.l0 k l0 t430 (t433.length : Int) 0))) = some (r1,r2,r3):=by rw [if_pos rfl] at H;exact H
  clear H
  have H:=H1
  clear H1
  replace H:=Option.bind_eq_some_iff.mp H
  obtain ⟨t430,A40,H⟩:=H
  replace H : ((spec_l11Final.f k l0).bind fun t433 => (spec_CertOf.l0 k l0 t430 (t433.length : Int) 0)) = some (r1,r2,r3):=H
  have A4:=aM A40
  clear A40
  replace H:=Option.bind_eq_some_iff.mp H
  obtain ⟨t433,A50,H⟩:=H
  replace H : (spec_CertOf.l0 k l0 t430 (t433.length : Int) 0) = some (r1,r2,r3):=H
  have A5:=aM A50
  clear A50
  have H':=aM H
  clear H
  go_enter Try.func39,Try.ntmps39
  go_wp2_with (first|((with_reducible refine gate_dst (N:=2) rfl ?_);refine box_event ?hg (N:=2) ?hd (cs:=#[.slice none 0 0,.slice none 0 0]) (t:=30) ?hr ?_;(case hd => rfl);(case hg => rfl);(case hr => exact Q16);intro gb428 hg w6 hbox hb;have n0_:=aM (below_step Q3 hb);have n1_:=aM (hbox);have n2_:=aM ((Q37 : w.heap.size ≤ gb428));have n3_:=aM ((Q37 : w.heap.size ≤ gb428));clear HB;have HB:=n0_;have BK428:=n1_;have GW428:=n2_;have GE428:=n3_;clear n0_ n1_ n2_ n3_;clear hb hbox hg)|((with_reducible refine gate_callee (f:=50) rfl ?_);refine goesL_ (some 8) rfl rfl Try.func50 Q14 rfl #[.slice A0 l0.length c0] rfl Q1 ?_;(with_reducible refine (spec_VotesOk.calls k _ _ l0 true _ ?side1 ?side2 A2.out).mono ?_);(case side1 => exact Q19);(case side2 => exact HC0.out);rintro e w7 ⟨rfl,hb⟩;refine ⟨_,rfl,?_⟩;have n0_:=aM (blk_below (g:=gb428) (o:=.cells #[.slice none 0 0,.slice none 0 0] 30 (0,0)) (qk BK428) hb);have n1_:=aM (below_step Q26 hb);clear BK428;clear HB;have BK428:=n0_;have HB:=n1_;clear n0_ n1_;(try clear hb);(try clear hb2);(try clear hk);(try clear hi))|((with_reducible refine gate_callee (f:=51) rfl ?_);refine goesL_ (some 12) rfl rfl Try.func51 Q14 rfl #[.slice A0 l0.length c0] rfl Q1 ?_;(with_reducible refine (spec_l11All.calls k _ _ l0 t430 _ ?side1 ?side2 A4.out).mono ?_);(case side1 => exact Q19);(case side2 => exact HC0.out);rintro e w8 ⟨v431,rfl,ho0,hb⟩;refine ⟨_,rfl,?_⟩;have n0_:=aM (Kd.N_lower (Kd.N_mono (ok':=fun k_ => (w.heap.size ≤ k_) ∧ k_ ≠ gb428) ho0 (fun k_ hk_ => ⟨(Nat.le_trans (below_size Q26) hk_),(Kd.freshB (g:=gb428) (o:=.cells #[.slice none 0 0,.slice none 0 0] 30 (0,0)) (qk BK428) k_ hk_)⟩)) (below_size Q26));have n1_:=aM (blk_below (g:=gb428) (o:=.cells #[.slice none 0 0,.slice none 0 0] 30 (0,0)) (qk BK428) hb);have n2_:=aM (below_step Q26 hb);clear BK428;clear HB;have HO432:=n0_;have BK428:=n1_;have HB:=n2_;clear n0_ n1_ n2_;(try clear hb);(try clear hb2);(try clear hk);(try clear hi);(try clear ho0))|((with_reducible refine gate_callee (f:=52) rfl ?_);refine goesL_ (some 14) rfl rfl Try.func52 Q14 rfl #[.slice A0 l0.length c0] rfl Q1 ?_;(with_reducible refine (spec_l11Final.calls k _ _ l0 t433 _ ?side1 ?side2 A5.out).mono ?_);(case side1 => exact Q19);(case side2 => exact HC0.out);rintro e w9 ⟨v434,rfl,ho0,hb⟩;refine ⟨_,rfl,?_⟩;have n0_:=aM (Kd.N_elder' (qN HO432) (Kd.R_base ho0) hb);have n1_:=aM (Kd.R_lower (Kd.R_newM (M:=fun k_ => (w.heap.size ≤ k_)) ho0 (below_size Q26) (fun k_ h_ => h_)) (below_size Q26));have n2_:=aM (blk_below (g:=gb428) (o:=.cells #[.slice none 0 0,.slice none 0 0] 30 (0,0)) (qk BK428) hb);have n3_:=aM (below_step Q26 hb);clear HO432;clear BK428;clear HB;have HO432:=n0_;have HO435:=n1_;have BK428:=n2_;have HB:=n3_;clear n0_ n1_ n2_ n3_;(try clear hb);(try clear hb2);(try clear hk);(try clear hi);(try clear ho0);obtain ⟨Ao10,co10,eo10⟩:=Kd.R_slice HO435.out;subst eo10))
  go_loopg [6] k (fun kq v6 w' => ∃ (x6_1 : Int),v6 = .int .i64 x6_1 ∧ Aside0 (spec_CertOf.l0 kq l0 t430 (t433.length : Int) x6_1 = some (r1,r2,r3)) ∧ Aside0 (kq ≤ k) ∧ Aside0 (Kd.N (Kd.slice 40 k40) 28 w' w.heap.size (fun k_ => (w.heap.size ≤ k_) ∧ k_ ≠ gb428) v431 t430) ∧ Aside0 (w'.heap[gb428]? = some (.cells #[(.slice none 0 0),(.slice none 0 0)] 30 (0,0))) ∧ Aside0 (Below w.heap.size w w'))
  case atStart => exact ⟨(0),Q11,H',⟨Nat.le_refl _⟩,⟨by (with_reducible repeat (first|apply Kd.N_alloc|apply Kd.N_drewN|apply Kd.N_drew));exact Kd.N_mono HO432.out (fun _ hk => ⟨hk.1.1,hk.1.2⟩)⟩,⟨qk BK428⟩,⟨Q26⟩⟩
  case round =>
   clear H'
   try clear p2
   try clear c3
   try clear c5
   obtain ⟨x6_1,rfl,HA,HK1,HO_4,BK428,HB⟩:=hrel
   cases gk with
   | zero => exact absurd HA.out (by simp [spec_CertOf.l0])
   | succ k1 =>
    have H:=HA.out
    clear HA
    simp only [spec_CertOf.l0] at H
    by_cases c11 : x6_1 < (t430.length : Int)
    ·rw [if_pos c11] at H
     have c11b0 : decide (x6_1 < (t430.length : Int)) = true:=decide_eq_true c11
     clear c11
     by_cases c12 : 0 ≤ x6_1
     case neg => rw [if_neg c12] at H;exact absurd H Q51
     rw [if_pos c12] at H
     have c12b0 : decide (0 ≤ x6_1) = true:=decide_eq_true c12
     clear c12
     replace H:=Option.bind_eq_some_iff.mp H
     obtain ⟨t437,A130,H⟩:=H
     replace H : (if t437 = (t433.length : Int) then (if (t433.length : Int) > 0 then ((spec_l13Of.f k1 l0 (rd_L7 t430 x6_1)).bind fun bt439 => (some (bt439.1,bt439.2.1,bt439.2.2))) else (spec_CertOf.l0 k1 l0 t430 (t433.length : Int) (wrap64 (x6_1 + 1)))) else (spec_CertOf.l0 k1 l0 t430 (t433.length : Int) (wrap64 (x6_1 + 1)))) = some (r1,r2,r3):=H
     have A13:=aM A130
     clear A130
     by_cases c14 : t437 = (t433.length : Int)
     ·rw [if_pos c14] at H
      have c14b0 : (t437 == (t433.length : Int)) = true:=beq_iff_eq.mpr c14
      have c14b1 : (t437 != (t433.length : Int)) = false:=bne_eq_false_iff_eq.mpr c14
      clear c14
      by_cases c15 : (t433.length : Int) > 0
      ·rw [if_pos c15] at H
       have c15b0 : decide (0 < (t433.length : Int)) = true:=decide_eq_true c15
       have c15b1 : decide (0 < t433.length) = true:=decide_eq_true Q17
       clear c15
       replace H:=Option.bind_eq_some_iff.mp H
       obtain ⟨⟨t439,t442,t445⟩,A160,H⟩:=H
       replace H : (some (t439,t442,t445)) = some (r1,r2,r3):=H
       have A16:=aM A160
       clear A160
       simp only [Option.some.injEq,Prod.mk.injEq] at H
       obtain ⟨rfl,rfl,rfl⟩:=H
       obtain ⟨Ao17,co17,eo17⟩:=Kd.N_slice HO_4.out
       subst eo17
       have p436 : 0 ≤ (x6_1 : Int):=of_decide_eq_true Q5
       have q436 : x6_1 < (t430.length : Int):=of_decide_eq_true Q5
       obtain ⟨ad436,A436_0,c436_0,e436,hx436_0,hl436_0,hi436_0⟩:=at_L7 (Kd.N_reads' HO_4.out).2.2 x6_1 p436 q436
       cases e436
       obtain ⟨ce436,hce436,hMe436,hcc436⟩:=Kd.N_get HO_4.out [] x6_1 p436 Q119
       obtain ⟨ua436_0,uc436_0,rfl,ul436_0,ge436_0⟩:=Kd.FK_slice_open hMe436
       have hv436_0:=hcc436 0 _ rfl
       rw [Nat.add_zero,show ((Kd.slice 40 k40)).sz = 1 from rfl,Nat.mul_one] at hv436_0
       replace hv436_0:=Option.some.inj (hv436_0.symm.trans hx436_0)
       injection hv436_0 with hva_ hvn_ hvc_
       rw [hva_] at ge436_0
       rw [hvc_] at ul436_0
       have HL436_0:=aM (show Kd.V k40 40 _ w.heap.size _ _ (rd_L7 t430 x6_1) from Kd.V_mk ul436_0 ge436_0)
       clear hva_ hvn_ hvc_ ge436_0 ul436_0
       clear hcc436 hce436
       have HR436_0:=aM hi436_0
       have HC436_0:=aM hl436_0
       clear hi436_0 hl436_0
       replace p436:=eq_true p436
       replace q436:=eq_true q436
       go_wp2_with (first|((with_reducible refine gate_callee (f:=53) rfl ?_);refine goesL_ (some 26) rfl rfl Try.func53 Q14 rfl #[.slice A436_0 (rd_L7 t430 x6_1).length c436_0] rfl Q1 ?_;(with_reducible refine (spec_l11FinalIn.calls k1 _ _ (rd_L7 t430 x6_1) t437 _ ?side1 ?side2 A13.out).mono ?_);(case side1 => exact Q95);(case side2 => exact HC436_0.out);rintro e w' ⟨rfl,⟨nd,rfl⟩⟩;refine ⟨_,rfl,?_⟩;(try (rw [drewN_self wr];generalize hq_ : World.drewN wr _ = wr;have n0_ : Aside0 (Kd.V k40 40 wr w.heap.size (fun k_ => (w.heap.size ≤ k_) ∧ some k_ ≠ (.slice (some ad436) t430.length co17 : Value).ownBlock ∧ k_ ≠ gb428) (.slice A436_0 (rd_L7 t430 x6_1).length c436_0) (rd_L7 t430 x6_1)):=⟨by rw [← hq_];exact (by (with_reducible repeat (first|apply Kd.V_alloc|apply Kd.V_drewN|apply Kd.V_drew));exact Kd.V_mono HL436_0.out (fun _ hk => ⟨hk.1.1,⟨hk.2,hk.1.2⟩⟩))⟩;have n1_ : Aside0 (Kd.N (Kd.slice 40 k40) 28 wr w.heap.size (fun k_ => (w.heap.size ≤ k_) ∧ k_ ≠ gb428) (.slice (some ad436) t430.length co17) t430):=⟨by rw [← hq_];exact (qN HO_4)⟩;have n2_ : Aside0 (wr.heap[gb428]? = some (.cells #[.slice none 0 0,.slice none 0 0] 30 (0,0))):=⟨by rw [← hq_];exact (qk BK428)⟩;have n3_ : Aside0 (Below w.heap.size w wr):=⟨by rw [← hq_];exact Q26⟩;have n4_ : Aside0 (Kd.C k40 wr A436_0 (rd_L7 t430 x6_1).length (rd_L7 t430 x6_1)):=⟨by rw [← hq_];exact Q53⟩;replace hx436_0:=cell_q hx436_0 hq_;clear HL436_0 HO_4 BK428 HB HR436_0 hq_;have HL436_0:=n0_;have HO_4:=n1_;have BK428:=n2_;have HB:=n3_;have HR436_0:=n4_;clear n0_ n1_ n2_ n3_ n4_));have p438 : 0 ≤ (x6_1 : Int):=of_decide_eq_true Q5;have q438 : x6_1 < (t430.length : Int):=of_decide_eq_true Q5;obtain ⟨ad438,A438_0,c438_0,e438,hx438_0,hl438_0,hi438_0⟩:=at_L7 (Kd.N_reads' HO_4.out).2.2 x6_1 p438 q438;obtain rfl : ad436 = ad438:=(by injection e438);obtain ⟨ce438,hce438,hMe438,hcc438⟩:=Kd.N_get HO_4.out [] x6_1 p438 (by first|exact q438|exact of_decide_eq_true Q5|(have e_:=(Kd.N_reads' HO_4.out).1;omega));obtain ⟨ua438_0,uc438_0,rfl,ul438_0,ge438_0⟩:=Kd.FK_slice_open hMe438;have hv438_0:=hcc438 0 _ rfl;rw [Nat.add_zero,show ((Kd.slice 40 k40)).sz = 1 from rfl,Nat.mul_one] at hv438_0;replace hv438_0:=Option.some.inj (hv438_0.symm.trans hx438_0);injection hv438_0 with hva_ hvn_ hvc_;rw [hva_] at ge438_0;rw [hvc_] at ul438_0;have HL438_0:=aM (show Kd.V k40 40 _ w.heap.size _ _ (rd_L7 t430 x6_1) from Kd.V_mk ul438_0 ge438_0);clear hva_ hvn_ hvc_ ge438_0 ul438_0;clear hcc438 hce438;have HR438_0:=aM hi438_0;have HC438_0:=aM hl438_0;clear hi438_0 hl438_0;replace p438:=eq_true p438;replace q438:=eq_true q438;have ea_:=Option.some.inj (hx436_0.symm.trans hx438_0);injection ea_ with ea_ en_ ec_;subst ea_;subst ec_;clear en_)|((with_reducible refine gate_callee (f:=54) rfl ?_);refine goesL_ (some 38) rfl rfl Try.func54 Q14 rfl #[.slice A0 l0.length c0,.slice A436_0 (rd_L7 t430 x6_1).length c436_0] rfl Q1 ?_;(with_reducible refine (spec_l13Of.calls k1 _ _ l0 _ _ (rd_L7 t430 x6_1) t439 t442 t445 _ ?side1 ?side2 ?side3 ?side4 A16.out).mono ?_);(case side1 => exact Q19);(case side2 => exact HC0.out);(case side3 => repeat (first|exact Q116|(with_reducible refine Kd.C_alloc ?_ _)|(with_reducible refine Kd.C_drewN ?_ _)|(with_reducible refine Kd.C_drew ?_)));(case side4 => exact HC438_0.out);rintro e w18 ⟨v440,v443,rfl,ho0,ho1,hb⟩;refine ⟨_,rfl,?_⟩;have n0_:=aM (Kd.N_mono (Kd.N_told (Kd.N_told (Kd.N_old (qN HO_4) hb) (Kd.R_base ho0)) (Kd.R_base ho1)) (fun _ h_ => h_.1));have n1_:=aM (Kd.V_mono (Kd.V_told (Kd.V_told (Kd.V_old (qV HL436_0) hb) (Kd.R_base ho0)) (Kd.R_base ho1)) (fun _ h_ => h_.1));have n2_:=aM (Kd.V_mono (Kd.V_told (Kd.V_told (Kd.V_old (qV HL438_0) hb) (Kd.R_base ho0)) (Kd.R_base ho1)) (fun _ h_ => h_.1));have n3_:=aM (Kd.R_lower (Kd.R_newM (M:=fun k_ => (w.heap.size ≤ k_)) ho0 (below_size Q26) (fun k_ h_ => h_)) (below_size Q26));have n4_:=aM (Kd.N_lower (Kd.N_mono (ok':=fun k_ => (w.heap.size ≤ k_) ∧ some k_ ≠ (v440 : Value).ownBlock ∧ some k_ ≠ (.slice (some ad436) t430.length co17 : Value).ownBlock ∧ k_ ≠ gb428) (Kd.R_N (Kd.R_bound (Kd.R_apart' ho1 (Kd.R_typed ho0) Q36))) (fun k_ hk_ => ⟨(Nat.le_trans (below_size Q26) hk_.2.1),hk_.1.2,(Kd.fresh' (Kd.N_lt (qN HO_4)) k_ hk_.2.1),(Kd.freshB (g:=gb428) (o:=.cells #[.slice none 0 0,.slice none 0 0] 30 (0,0)) (qk BK428) k_ hk_.2.1)⟩)) (below_size Q26));have n5_:=aM (blk_below (g:=gb428) (o:=.cells #[.slice none 0 0,.slice none 0 0] 30 (0,0)) (qk BK428) hb);have n6_:=aM (Kd.C_below Q53 hb);have n7_:=aM (Kd.C_below Q116 hb);have n8_:=aM (below_step Q26 hb);clear HO_4;clear HL436_0;clear HL438_0;clear BK428;clear HR436_0;clear HR438_0;clear HB;have HO_4:=n0_;have HL436_0:=n1_;have HL438_0:=n2_;have HO441:=n3_;have HO444:=n4_;have BK428:=n5_;have HR436_0:=n6_;have HR438_0:=n7_;have HB:=n8_;clear n0_ n1_ n2_ n3_ n4_ n5_ n6_ n7_ n8_;(try clear hb);(try clear hb2);(try clear hk);(try clear hi);(try clear ho0);(try clear ho1);obtain ⟨Ao19,co19,eo19⟩:=Kd.R_slice HO441.out;subst eo19;have hcz20_0 : w18.cell? ⟨gb428,0,none⟩ = some (.slice none 0 0):=(blk_cell BK428.out 0).trans rfl;have hcz20_1 : w18.cell? ⟨gb428,1,none⟩ = some (.slice none 0 0):=(blk_cell BK428.out 1).trans rfl;have hfz20_0:=blk_frozen BK428.out 0;have hfz20_1:=blk_frozen BK428.out 1;obtain ⟨Ao21,co21,eo21⟩:=Kd.N_slice HO444.out;subst eo21))
       refine bodyPost_ret (results_ct rfl _ _ gb428 30 #[.slice Ao19 t439.length co19,.slice Ao21 t442.length co21] (0,0) _ rfl (by (with_reducible repeat (first|refine blk_drewN ?_ _|refine blk_drew ?_|refine blk_alloc ?_ _));refine blk_put (cs:=#[.slice Ao19 t439.length co19,.slice none 0 0]) ?_ 1 _ rfl;(with_reducible repeat (first|refine blk_drewN ?_ _|refine blk_drew ?_|refine blk_alloc ?_ _));refine blk_put (cs:=#[.slice none 0 0,.slice none 0 0]) ?_ 0 _ rfl;(with_reducible repeat (first|refine blk_drewN ?_ _|refine blk_drew ?_|refine blk_alloc ?_ _));exact BK428.out) Try.underlying30 rfl Q14) rfl ?_
       exact ⟨_,_,Q6,by (with_reducible repeat (first|apply Kd.R_alloc|apply Kd.R_drewN|apply Kd.R_drew));exact Kd.R_mono (Kd.R_far (p:=⟨gb428,1,none⟩) (Kd.R_far (p:=⟨gb428,0,none⟩) (Kd.R_types HO441.out BK428.out Q36) (fun _ hk => hk.2) (.slice Ao19 t439.length co19)) (fun _ hk => hk.2) (.slice Ao21 t442.length co21)) (fun _ hk => hk.1.1),by (with_reducible repeat (first|apply Kd.N_alloc|apply Kd.N_drewN|apply Kd.N_drew));exact Kd.N_mono (Kd.N_far (p:=⟨gb428,1,none⟩) (Kd.N_far (p:=⟨gb428,0,none⟩) (Kd.N_mono HO444.out (fun k_ hk => (⟨hk,hk.2.2.2⟩ : _ ∧ k_ ≠ gb428))) (fun _ hk => hk.2) (.slice Ao19 t439.length co19)) (fun _ hk => hk.2) (.slice Ao21 t442.length co21)) (fun _ hk => ⟨hk.1.1,hk.1.2.1⟩),Q26⟩
      ·rw [if_neg c15] at H
       have c15b0 : decide (0 < (t433.length : Int)) = false:=decide_eq_false c15
       have c15b1 : decide (0 < t433.length) = false:=decide_eq_false Q17
       clear c15
       have H':=aM H
       clear H
       obtain ⟨Ao22,co22,eo22⟩:=Kd.N_slice HO_4.out
       subst eo22
       have p436 : 0 ≤ (x6_1 : Int):=of_decide_eq_true Q5
       have q436 : x6_1 < (t430.length : Int):=of_decide_eq_true Q5
       obtain ⟨ad436,A436_0,c436_0,e436,hx436_0,hl436_0,hi436_0⟩:=at_L7 (Kd.N_reads' HO_4.out).2.2 x6_1 p436 q436
       cases e436
       obtain ⟨ce436,hce436,hMe436,hcc436⟩:=Kd.N_get HO_4.out [] x6_1 p436 Q119
       obtain ⟨ua436_0,uc436_0,rfl,ul436_0,ge436_0⟩:=Kd.FK_slice_open hMe436
       have hv436_0:=hcc436 0 _ rfl
       rw [Nat.add_zero,show ((Kd.slice 40 k40)).sz = 1 from rfl,Nat.mul_one] at hv436_0
       replace hv436_0:=Option.some.inj (hv436_0.symm.trans hx436_0)
       injection hv436_0 with hva_ hvn_ hvc_
       rw [hva_] at ge436_0
       rw [hvc_] at ul436_0
       have HL436_0:=aM (show Kd.V k40 40 _ w.heap.size _ _ (rd_L7 t430 x6_1) from Kd.V_mk ul436_0 ge436_0)
       clear hva_ hvn_ hvc_ ge436_0 ul436_0
       clear hcc436 hce436
       have HR436_0:=aM hi436_0
       have HC436_0:=aM hl436_0
       clear hi436_0 hl436_0
       replace p436:=eq_true p436
       replace q436:=eq_true q436
       go_wp2_with (first|((with_reducible refine gate_callee (f:=53) rfl ?_);refine goesL_ (some 26) rfl rfl Try.func53 Q14 rfl #[.slice A436_0 (rd_L7 t430 x6_1).length c436_0] rfl Q1 ?_;(with_reducible refine (spec_l11FinalIn.calls k1 _ _ (rd_L7 t430 x6_1) t437 _ ?side1 ?side2 A13.out).mono ?_);(case side1 => exact Q95);(case side2 => exact HC436_0.out);rintro e w' ⟨rfl,⟨nd,rfl⟩⟩;refine ⟨_,rfl,?_⟩))
       go_roundg k1
       case measure => have:=HK1.out;omega
       case rel => exact ⟨(wrap64 (x6_1 + 1)),Q11,H',⟨Q60⟩,⟨qN HO_4⟩,⟨qk BK428⟩,⟨Q26⟩⟩
     ·rw [if_neg c14] at H
      have c14b0 : (t437 == (t433.length : Int)) = false:=beq_eq_false_iff_ne.mpr c14
      have c14b1 : (t437 != (t433.length : Int)) = true:=bne_iff_ne.mpr c14
      have H':=aM H
      clear H
      obtain ⟨Ao23,co23,eo23⟩:=Kd.N_slice HO_4.out
      subst eo23
      have p436 : 0 ≤ (x6_1 : Int):=of_decide_eq_true Q5
      have q436 : x6_1 < (t430.length : Int):=of_decide_eq_true Q5
      obtain ⟨ad436,A436_0,c436_0,e436,hx436_0,hl436_0,hi436_0⟩:=at_L7 (Kd.N_reads' HO_4.out).2.2 x6_1 p436 q436
      cases e436
      obtain ⟨ce436,hce436,hMe436,hcc436⟩:=Kd.N_get HO_4.out [] x6_1 p436 Q119
      obtain ⟨ua436_0,uc436_0,rfl,ul436_0,ge436_0⟩:=Kd.FK_slice_open hMe436
      have hv436_0:=hcc436 0 _ rfl
      rw [Nat.add_zero,show ((Kd.slice 40 k40)).sz = 1 from rfl,Nat.mul_one] at hv436_0
      replace hv436_0:=Option.some.inj (hv436_0.symm.trans hx436_0)
      injection hv436_0 with hva_ hvn_ hvc_
      rw [hva_] at ge436_0
      rw [hvc_] at ul436_0
      have HL436_0:=aM (show Kd.V k40 40 _ w.heap.size _ _ (rd_L7 t430 x6_1) from Kd.V_mk ul436_0 ge436_0)
      clear hva_ hvn_ hvc_ ge436_0 ul436_0
      clear hcc436 hce436
      have HR436_0:=aM hi436_0
      have HC436_0:=aM hl436_0
      clear hi436_0 hl436_0
      replace p436:=eq_true p436
      replace q436:=eq_true q436
      go_wp2_with (first|((with_reducible refine gate_callee (f:=53) rfl ?_);refine goesL_ (some 26) rfl rfl Try.func53 Q14 rfl #[.slice A436_0 (rd_L7 t430 x6_1).length c436_0] rfl Q1 ?_;(with_reducible refine (spec_l11FinalIn.calls k1 _ _ (rd_L7 t430 x6_1) t437 _ ?side1 ?side2 A13.out).mono ?_);(case side1 => exact Q95);(case side2 => exact HC436_0.out);rintro e w' ⟨rfl,⟨nd,rfl⟩⟩;refine ⟨_,rfl,?_⟩))
      go_roundg k1
      case measure => have:=HK1.out;omega
      case rel => exact ⟨(wrap64 (x6_1 + 1)),Q11,H',⟨Q60⟩,⟨qN HO_4⟩,⟨qk BK428⟩,⟨Q26⟩⟩
    ·rw [if_neg c11] at H
     have c11b0 : decide (x6_1 < (t430.length : Int)) = false:=decide_eq_false c11
     clear c11
     simp only [Option.some.injEq,Prod.mk.injEq] at H
     obtain ⟨rfl,rfl,rfl⟩:=H
     obtain ⟨Ao24,co24,eo24⟩:=Kd.N_slice HO_4.out
     subst eo24
     have hcz25_0 : wr.cell? ⟨gb428,0,none⟩ = some (.slice none 0 0):=(blk_cell BK428.out 0).trans rfl
     have hcz25_1 : wr.cell? ⟨gb428,1,none⟩ = some (.slice none 0 0):=(blk_cell BK428.out 1).trans rfl
     have hfz25_0:=blk_frozen BK428.out 0
     have hfz25_1:=blk_frozen BK428.out 1
     go_wp2
     refine bodyPost_ret (results_ct rfl _ _ gb428 30 #[.slice none 0 0,.slice none 0 0] (0,0) _ rfl Q69 Try.underlying30 rfl Q14) rfl ?_
     exact ⟨_,_,Q6,Q52,Q52,Q26⟩
 ·replace c3:=Bool.eq_false_iff.mpr c3
  subst c3
  have H1 : (some (([] : List (S40)),([] : List (List Int)),false)) = some (r1,r2,r3):=by rw [if_neg (show ¬ (false = true) by decide)] at H;exact H
  clear H
  have H:=H1
  clear H1
  simp only [Option.some.injEq,Prod.mk.injEq] at H
  obtain ⟨rfl,rfl,rfl⟩:=H
  go_enter Try.func39,Try.ntmps39
  go_wp2_with (first|((with_reducible refine gate_dst (N:=2) rfl ?_);refine box_event ?hg (N:=2) ?hd (cs:=#[.slice none 0 0,.slice none 0 0]) (t:=30) ?hr ?_;(case hd => rfl);(case hg => rfl);(case hr => exact Q16);intro gb428 hg w26 hbox hb;have n0_:=aM (below_step Q3 hb);have n1_:=aM (hbox);have n2_:=aM ((Q37 : w.heap.size ≤ gb428));have n3_:=aM ((Q37 : w.heap.size ≤ gb428));clear HB;have HB:=n0_;have BK428:=n1_;have GW428:=n2_;have GE428:=n3_;clear n0_ n1_ n2_ n3_;clear hb hbox hg)|((with_reducible refine gate_callee (f:=50) rfl ?_);refine goesL_ (some 8) rfl rfl Try.func50 Q14 rfl #[.slice A0 l0.length c0] rfl Q1 ?_;(with_reducible refine (spec_VotesOk.calls k _ _ l0 false _ ?side1 ?side2 A2.out).mono ?_);(case side1 => exact Q19);(case side2 => exact HC0.out);rintro e w27 ⟨rfl,hb⟩;refine ⟨_,rfl,?_⟩;have n0_:=aM (blk_below (g:=gb428) (o:=.cells #[.slice none 0 0,.slice none 0 0] 30 (0,0)) (qk BK428) hb);have n1_:=aM (below_step Q26 hb);clear BK428;clear HB;have BK428:=n0_;have HB:=n1_;clear n0_ n1_;(try clear hb);(try clear hb2);(try clear hk);(try clear hi);have hcz28_0 : w27.cell? ⟨gb428,0,none⟩ = some (.slice none 0 0):=(blk_cell BK428.out 0).trans rfl;have hcz28_1 : w27.cell? ⟨gb428,1,none⟩ = some (.slice none 0 0):=(blk_cell BK428.out 1).trans rfl;have hfz28_0:=blk_frozen BK428.out 0;have hfz28_1:=blk_frozen BK428.out 1))
  refine bodyPost_ret (results_ct rfl _ _ gb428 30 #[.slice none 0 0,.slice none 0 0] (0,0) _ rfl Q69 Try.underlying30 rfl Q14) rfl ?_
  exact ⟨_,_,Q6,Q52,Q52,Q26⟩

/-! ### spec_l72Cert: function 25 -/
mutual
def spec_l72Cert.l0 : Nat → List (S82) → Bool → Int → List Int → Int → List (S40) → List (List Int) → Option ((List (S40)) × (List (List Int)) × (List (S82)) × Int)
 | 0,_,_,_,_,_,_,_ => none
 | k + 1,x4,x6,x7,x1000,x1001,x459000,x459001 => if x7 < 6 then (spec_l72Cert.j1 k x4 x7 (!x6) x1000 x1001 x459000 x459001) else (spec_l72Cert.j1 k x4 x7 false x1000 x1001 x459000 x459001)
def spec_l72Cert.j1 : Nat → List (S82) → Int → Bool → List Int → Int → List (S40) → List (List Int) → Option ((List (S40)) × (List (List Int)) × (List (S82)) × Int)
 | 0,_,_,_,_,_,_,_ => none
 | k + 1,x4,x7,x20,x1000,x1001,x459000,x459001 => if x20 = true then ((spec_l71Votes.f k x1000 x1001).bind fun bt459 => ((spec_CertOf.f k bt459.1).bind fun bt463 => (spec_l72Cert.l0 k bt459.1 bt463.2.2 (wrap64 (x7 + 1)) x1000 bt459.2 bt463.1 bt463.2.1))) else ((spec_l6Rd_pick.f k x1000 x1001 10).bind fun bt470 => (if bt470.1 = 0 then (if (x459001.length : Int) > 0 then (if 0 < (x459001.length : Int) then (some (x459000,(x459001.set (0 : Int).toNat (([1,2] : List Int))),x4,bt470.2)) else (none)) else (some (x459000,x459001,x4,bt470.2))) else (if bt470.1 = 1 then ((spec_l71Off.f k x1000 bt470.2).bind fun bt476 => (some (bt476.1,x459001,x4,bt476.2))) else (if bt470.1 = 2 then (if x459001.length < 5864062014805 then (some (x459000,(x459001 ++ [(([1,2,3] : List Int))]),x4,bt470.2)) else (none)) else (if bt470.1 = 3 then (if (x459001.length : Int) > 1 then (if 1 < (x459001.length : Int) then (some (x459000,(x459001.set (1 : Int).toNat (([1,3,3,4] : List Int))),x4,bt470.2)) else (none)) else (some (x459000,x459001,x4,bt470.2))) else (some (x459000,x459001,x4,bt470.2)))))))
end
def spec_l72Cert.f (k : Nat) (s0_0 : List Int) (s0_1 : Int) : Option ((List (S40)) × (List (List Int)) × (List (S82)) × Int):=(spec_l71Votes.f k s0_0 s0_1).bind fun bt447 => ((spec_CertOf.f k bt447.1).bind fun bt451 => (spec_l72Cert.l0 k bt447.1 bt451.2.2 0 s0_0 bt447.2 bt451.1 bt451.2.1))
theorem spec_l72Cert.mono_l : ∀ k,(∀ y0 y1 y2 y3 y4 y5 y6,LeO (spec_l72Cert.l0 k y0 y1 y2 y3 y4 y5 y6) (spec_l72Cert.l0 (k + 1) y0 y1 y2 y3 y4 y5 y6)) ∧ (∀ y0 y1 y2 y3 y4 y5 y6,LeO (spec_l72Cert.j1 k y0 y1 y2 y3 y4 y5 y6) (spec_l72Cert.j1 (k + 1) y0 y1 y2 y3 y4 y5 y6))
 | 0 => ⟨fun _ _ _ _ _ _ _ r h => by simp [spec_l72Cert.l0] at h,fun _ _ _ _ _ _ _ r h => by simp [spec_l72Cert.j1] at h⟩
 | k + 1 => by
  obtain ⟨ih0,ih1⟩:=spec_l72Cert.mono_l k
  refine ⟨?_,?_⟩
  ·intro y0 y1 y2 y3 y4 y5 y6
   unfold spec_l72Cert.l0
   repeat' first
   | exact LeO.refl _
   | exact ih0 _ _ _ _ _ _ _
   | exact ih1 _ _ _ _ _ _ _
   | exact spec_CertOf.mono _ _
   | exact spec_l6Rd_pick.mono _ _ _ _
   | exact spec_l71Off.mono _ _ _
   | exact spec_l71Votes.mono _ _ _
   | exact LeO.none _
   | refine LeO.ite ?_ ?_
   | refine LeO.bind ?_ (fun _ => ?_)
  ·intro y0 y1 y2 y3 y4 y5 y6
   unfold spec_l72Cert.j1
   repeat' first
   | exact LeO.refl _
   | exact ih0 _ _ _ _ _ _ _
   | exact ih1 _ _ _ _ _ _ _
   | exact spec_CertOf.mono _ _
   | exact spec_l6Rd_pick.mono _ _ _ _
   | exact spec_l71Off.mono _ _ _
   | exact spec_l71Votes.mono _ _ _
   | exact LeO.none _
   | refine LeO.ite ?_ ?_
   | refine LeO.bind ?_ (fun _ => ?_)
theorem spec_l72Cert.mono : ∀ a0 a1 k,LeO (spec_l72Cert.f k a0 a1) (spec_l72Cert.f (k + 1) a0 a1):=by
 intro a0 a1 k
 obtain ⟨ih0,ih1⟩:=spec_l72Cert.mono_l k
 unfold spec_l72Cert.f
 repeat' first
   | exact LeO.refl _
   | exact ih0 _ _ _ _ _ _ _
   | exact ih1 _ _ _ _ _ _ _
   | exact spec_CertOf.mono _ _
   | exact spec_l6Rd_pick.mono _ _ _ _
   | exact spec_l71Off.mono _ _ _
   | exact spec_l71Votes.mono _ _ _
   | exact LeO.none _
   | refine LeO.ite ?_ ?_
   | refine LeO.bind ?_ (fun _ => ?_)
set_option maxHeartbeats 8000000 in
set_option maxRecDepth 100000 in
theorem spec_l72Cert.calls (k : Nat) (g : Nat) (s0_0 : List Int) (s0_1 : Int) (r1 : List (S40)) (r2 : List (List Int)) (r3 : List (S82)) (r4 : Int) (w0 w : World) (hI : IsS76 w0 w g s0_0 s0_1) (hB : Below w0.heap.size w0 w) (h : spec_l72Cert.f k s0_0 s0_1 = some (r1,r2,r3,r4)) :
  Calls Try.prog 25 #[.pointer (some ⟨g,0,none⟩)] w fun e w' => ∃ v0_ v1_ v2_ : Value,e = .returned (.tuple #[.agg #[v0_,v1_],v2_]) ∧ Kd.R k40 40 w' w.heap.size (fun k_ => (w.heap.size ≤ k_)) v0_ r1 ∧ Kd.N (Kd.slice 3 (Kd.int .i64)) 36 w' w.heap.size (fun k_ => (w.heap.size ≤ k_) ∧ some k_ ≠ (v0_ : Value).ownBlock ∧ some k_ ≠ (v2_ : Value).ownBlock) v1_ r2 ∧ Kd.N k82 82 w' w.heap.size (fun k_ => (w.heap.size ≤ k_) ∧ some k_ ≠ (v0_ : Value).ownBlock ∧ some k_ ≠ (v1_ : Value).ownBlock) v2_ r3 ∧ IsS76 w0 w' g s0_0 r4 ∧ Below w0.heap.size w0 w' ∧ KeepBut w w' g none:=by
 have hu30:=Try.underlying30
 have HI0:=aM hI
 have HK:=aM (KeepBut.refl w g none)
 have HL:=aM hB.size
 clear hI
 have HW0:=aM hB.size
 have HB:=aM hB
 clear hB
 have H : ((spec_l71Votes.f k s0_0 s0_1).bind fun bt447 => ((spec_CertOf.f k bt447.1).bind fun bt451 => (spec_l72Cert.l0 k bt447.1 bt451.2.2 0 s0_0 bt447.2 bt451.1 bt451.2.1))) = some (r1,r2,r3,r4):=h
 clear h
 replace H:=Option.bind_eq_some_iff.mp H
 obtain ⟨⟨t447,t450⟩,A20,H⟩:=H
 replace H : ((spec_CertOf.f k t447).bind fun bt451 => (spec_l72Cert.l0 k t447 bt451.2.2 0 s0_0 t450 bt451.1 bt451.2.1)) = some (r1,r2,r3,r4):=H
 have A2:=aM A20
 clear A20
 replace H:=Option.bind_eq_some_iff.mp H
 obtain ⟨⟨t451,t454,t457⟩,A30,H⟩:=H
 replace H : (spec_l72Cert.l0 k t447 t457 0 s0_0 t450 t451 t454) = some (r1,r2,r3,r4):=H
 have A3:=aM A30
 clear A30
 have H':=aM H
 clear H
 go_enter Try.func25,Try.ntmps25
 go_wp2_with (first|((with_reducible refine gate_dst (N:=2) rfl ?_);refine box_event ?hg (N:=2) ?hd (cs:=#[.slice none 0 0,.slice none 0 0]) (t:=30) ?hr ?_;(case hd => rfl);(case hg => rfl);(case hr => exact Q16);intro gb446 hg w4 hbox hb;have n0_:=aM (IsS76.below Q0 hb);have n1_:=aM (KeepBut.trans Q2 (KeepBut.of_below hb g none) (.inl rfl));have n2_:=aM (below_step Q4 hb);have n3_:=aM (hbox);have n4_:=aM ((Q58 : w.heap.size ≤ gb446));have n5_:=aM ((Nat.le_trans HW0.out (Q58 : w.heap.size ≤ gb446) : w0.heap.size ≤ gb446));have n6_:=aM ((Q72 : g ≠ gb446));have n7_:=aM ((Q73 : gb446 ≠ g));clear HI0;clear HK;clear HB;have HI0:=n0_;have HK:=n1_;have HB:=n2_;have BK446:=n3_;have GW446:=n4_;have GE446:=n5_;have NB0_446:=n6_;have NB446_0:=n7_;clear n0_ n1_ n2_ n3_ n4_ n5_ n6_ n7_;clear hb hbox hg)|((with_reducible refine gate_callee (f:=38) rfl ?_);refine goesL_ (some 9) rfl rfl Try.func38 Q14 rfl #[.pointer (some ⟨g,0,none⟩)] rfl Q1 ?_;(with_reducible refine (spec_l71Votes.calls k g s0_0 s0_1 t447 t450 w0 _ ?side1 ?side2 A2.out).mono ?_);(case side1 => exact Q40);(case side2 => exact Q90);rintro e w5 ⟨v448,rfl,ho0,hi,hb,hk⟩;refine ⟨_,rfl,?_⟩;have n0_:=aM (KeepBut.blk hk (g':=gb446) (o:=.cells #[.slice none 0 0,.slice none 0 0] 30 (0,0)) (qk BK446) NB446_0.out Q51);have n1_:=aM (Kd.N_lower (Kd.N_mono (ok':=fun k_ => (w.heap.size ≤ k_) ∧ k_ ≠ gb446 ∧ k_ ≠ g) (Kd.R_N (Kd.R_bound ho0)) (fun k_ hk_ => ⟨(Nat.le_trans (keep_size (w:=w) (g:=g) (row:=none) Q31) hk_.2.1),(Kd.freshB (g:=gb446) (o:=.cells #[.slice none 0 0,.slice none 0 0] 30 (0,0)) (qk BK446) k_ hk_.2.1),(IsS76.fresh Q40 k_ hk_.2.1)⟩)) (keep_size (w:=w) (g:=g) (row:=none) Q31));have n2_:=aM (KeepBut.trans Q31 hk (.inl rfl));have n3_:=aM (hb);have n4_:=aM (hi);clear BK446;clear HK;clear HB;clear HI0;have BK446:=n0_;have HO449:=n1_;have HK:=n2_;have HB:=n3_;have HI0:=n4_;clear n0_ n1_ n2_ n3_ n4_;(try clear hb);(try clear hb2);(try clear hk);(try clear hi);(try clear ho0);obtain ⟨Ao6,co6,eo6⟩:=Kd.N_slice HO449.out;subst eo6)|((with_reducible refine gate_callee (f:=39) rfl ?_);refine goesL_ (some 12) rfl rfl Try.func39 Q14 rfl #[.slice Ao6 t447.length co6] rfl Q1 ?_;(with_reducible refine (spec_CertOf.calls k _ _ t447 t451 t454 t457 _ ?side1 ?side2 A3.out).mono ?_);(case side1 => repeat (first|exact (Kd.N_reads' HO449.out).2.2|(with_reducible refine Kd.C_alloc ?_ _)|(with_reducible refine Kd.C_drewN ?_ _)|(with_reducible refine Kd.C_drew ?_)));(case side2 => exact (Kd.N_reads' HO449.out).2.1);rintro e w7 ⟨v452,v455,rfl,ho0,ho1,hb⟩;refine ⟨_,rfl,?_⟩;have n0_:=aM (Kd.N_mono (Kd.N_told (Kd.N_told (Kd.N_old (qN HO449) hb) (Kd.R_base ho0)) Q148) (fun _ h_ => h_.1));have n1_:=aM (Kd.R_lower (Kd.R_newM (M:=fun k_ => (w.heap.size ≤ k_)) (Kd.R_mono (ok':=fun k_ => True) ho0 (fun _ hk_ => trivial)) (keep_size (w:=w) (g:=g) (row:=none) Q31) (fun k_ h_ => h_)) (keep_size (w:=w) (g:=g) (row:=none) Q31));have n2_:=aM (Kd.N_lower (Kd.N_mono (ok':=fun k_ => (w.heap.size ≤ k_) ∧ some k_ ≠ (v452 : Value).ownBlock ∧ some k_ ≠ (.slice Ao6 t447.length co6 : Value).ownBlock ∧ k_ ≠ gb446 ∧ k_ ≠ g) ho1 (fun k_ hk_ => ⟨(Nat.le_trans (keep_size (w:=w) (g:=g) (row:=none) Q31) hk_.1),hk_.2,(Kd.fresh' (Kd.N_lt (qN HO449)) k_ hk_.1),(Kd.freshB (g:=gb446) (o:=.cells #[.slice none 0 0,.slice none 0 0] 30 (0,0)) (qk BK446) k_ hk_.1),(IsS76.fresh Q40 k_ hk_.1)⟩)) (keep_size (w:=w) (g:=g) (row:=none) Q31));have n3_:=aM (IsS76.below Q40 hb);have n4_:=aM (blk_below (g:=gb446) (o:=.cells #[.slice none 0 0,.slice none 0 0] 30 (0,0)) (qk BK446) hb);have n5_:=aM (KeepBut.trans Q31 (KeepBut.of_below hb g none) (.inl rfl));have n6_:=aM (below_step Q90 hb);clear HO449;clear HI0;clear BK446;clear HK;clear HB;have HO449:=n0_;have HO453:=n1_;have HO456:=n2_;have HI0:=n3_;have BK446:=n4_;have HK:=n5_;have HB:=n6_;clear n0_ n1_ n2_ n3_ n4_ n5_ n6_;(try clear hb);(try clear hb2);(try clear hk);(try clear hi);(try clear ho0);(try clear ho1))|((with_reducible refine gate_dst (N:=5) rfl ?_);refine box_event ?hg (N:=5) ?hd (cs:=#[.slice none 0 0,.slice none 0 0]) (t:=30) ?hr ?_;(case hd => rfl);(case hg => rfl);(case hr => exact Q16);intro gb458 hg w8 hbox hb;have n0_:=aM (Kd.N_below (Kd.N_elderB (qN HO449) gb458 (Nat.le_of_eq hg.symm)) hb);have n1_:=aM (Kd.R_below (qR HO453) hb);have n2_:=aM (Kd.N_below (Kd.N_elderB (qN HO456) gb458 (Nat.le_of_eq hg.symm)) hb);have n3_:=aM (IsS76.below Q40 hb);have n4_:=aM (blk_below (g:=gb446) (o:=.cells #[.slice none 0 0,.slice none 0 0] 30 (0,0)) (qk BK446) hb);have n5_:=aM (KeepBut.trans Q31 (KeepBut.of_below hb g none) (.inl rfl));have n6_:=aM (below_step Q90 hb);have n7_:=aM (hbox);have n8_:=aM ((by rw [hg];exact (keep_size (w:=w) (g:=g) (row:=none) Q31) : w.heap.size ≤ gb458));have n9_:=aM ((Nat.le_trans HW0.out (by rw [hg];exact (keep_size (w:=w) (g:=g) (row:=none) Q31) : w.heap.size ≤ gb458) : w0.heap.size ≤ gb458));have n10_:=aM ((by rw [hg];exact Nat.ne_of_lt (blk_lt (g:=gb446) (o:=.cells #[.slice none 0 0,.slice none 0 0] 30 (0,0)) (qk BK446)) : gb446 ≠ gb458));have n11_:=aM ((by rw [hg];exact Nat.ne_of_gt (blk_lt (g:=gb446) (o:=.cells #[.slice none 0 0,.slice none 0 0] 30 (0,0)) (qk BK446)) : gb458 ≠ gb446));have n12_:=aM ((by rw [hg];exact Nat.ne_of_lt (IsS76.lt (show IsS76 w0 _ g s0_0 t450 from Q40)) : g ≠ gb458));have n13_:=aM ((by rw [hg];exact Nat.ne_of_gt (IsS76.lt (show IsS76 w0 _ g s0_0 t450 from Q40)) : gb458 ≠ g));clear HO449;clear HO453;clear HO456;clear HI0;clear BK446;clear HK;clear HB;have HO449:=n0_;have HO453:=n1_;have HO456:=n2_;have HI0:=n3_;have BK446:=n4_;have HK:=n5_;have HB:=n6_;have BK458:=n7_;have GW458:=n8_;have GE458:=n9_;have NB446_458:=n10_;have NB458_446:=n11_;have NB0_458:=n12_;have NB458_0:=n13_;clear n0_ n1_ n2_ n3_ n4_ n5_ n6_ n7_ n8_ n9_ n10_ n11_ n12_ n13_;clear hb hbox hg;obtain ⟨Ao9,co9,eo9⟩:=Kd.R_slice HO453.out;subst eo9;have hnb10:=NB458_446.out;have hnc10:=NB446_458.out;have hnb11:=NB458_0.out;have hnc11:=NB0_458.out;have hcz12_0 : w8.cell? ⟨gb458,0,none⟩ = some (.slice none 0 0):=(blk_cell BK458.out 0).trans rfl;have hcz12_1 : w8.cell? ⟨gb458,1,none⟩ = some (.slice none 0 0):=(blk_cell BK458.out 1).trans rfl;have hfz12_0:=blk_frozen BK458.out 0;have hfz12_1:=blk_frozen BK458.out 1;obtain ⟨Ao13,co13,eo13⟩:=Kd.N_slice HO456.out;subst eo13))
 go_loopg [4,6,7] k (fun kq v4 v6 v7 w' => ∃ (x4_1 : List (S82)) (x6_1 : Bool) (x7_1 : Int) (x1001_1 : Int) (x459000_1 : List (S40)) (x459001_1 : List (List Int)) (u459000 : Value) (u459001 : Value),v6 = .bool x6_1 ∧ v7 = .int .i64 x7_1 ∧ Aside0 (spec_l72Cert.l0 kq x4_1 x6_1 x7_1 s0_0 x1001_1 x459000_1 x459001_1 = some (r1,r2,r3,r4)) ∧ Aside0 (kq ≤ k) ∧ Aside0 (Kd.N k82 82 w' w.heap.size (fun k_ => (w.heap.size ≤ k_) ∧ some k_ ≠ (u459000 : Value).ownBlock ∧ some k_ ≠ (u459001 : Value).ownBlock ∧ k_ ≠ gb446 ∧ k_ ≠ gb458 ∧ k_ ≠ g) v4 x4_1) ∧ Aside0 (Kd.R k40 40 w' w.heap.size (fun k_ => (w.heap.size ≤ k_)) u459000 x459000_1) ∧ Aside0 (Kd.N (Kd.slice 3 (Kd.int .i64)) 36 w' w.heap.size (fun k_ => (w.heap.size ≤ k_) ∧ some k_ ≠ (v4 : Value).ownBlock ∧ some k_ ≠ (u459000 : Value).ownBlock ∧ k_ ≠ gb446 ∧ k_ ≠ gb458 ∧ k_ ≠ g) u459001 x459001_1) ∧ Aside0 (w'.heap[gb446]? = some (.cells #[(.slice none 0 0),(.slice none 0 0)] 30 (0,0))) ∧ Aside0 (w'.heap[gb458]? = some (.cells #[u459000,u459001] 30 (0,0))) ∧ Aside0 (IsS76 w0 w' g s0_0 x1001_1) ∧ Aside0 (KeepBut w w' g none) ∧ Aside0 (Below w0.heap.size w0 w'))
 case atStart => exact ⟨(t447),(t457),(0),(t450),(t451),(t454),(.slice Ao9 t451.length co9),(.slice Ao13 t454.length co13),Q11,Q11,H',⟨Nat.le_refl _⟩,⟨by (with_reducible repeat (first|apply Kd.N_alloc|apply Kd.N_drewN|apply Kd.N_drew));exact Kd.N_mono (Kd.N_far (p:=⟨gb458,1,none⟩) (Kd.N_far (p:=⟨gb458,0,none⟩) (Kd.N_mono HO449.out (fun k_ hk => (⟨hk,hk.2⟩ : _ ∧ k_ ≠ gb458))) (fun _ hk => hk.2) (.slice Ao9 t451.length co9)) (fun _ hk => hk.2) (.slice Ao13 t454.length co13)) (fun _ hk => ⟨hk.1.1.1.1.1,⟨hk.1.1.1.2,⟨hk.1.1.2,⟨hk.1.1.1.1.2.1,⟨hk.1.2,hk.1.1.1.1.2.2⟩⟩⟩⟩⟩)⟩,⟨by (with_reducible repeat (first|apply Kd.R_alloc|apply Kd.R_drewN|apply Kd.R_drew));exact Kd.R_mono (Kd.R_far (p:=⟨gb458,1,none⟩) (Kd.R_far (p:=⟨gb458,0,none⟩) (Kd.R_types HO453.out BK458.out Q36) (fun _ hk => hk.2) (.slice Ao9 t451.length co9)) (fun _ hk => hk.2) (.slice Ao13 t454.length co13)) (fun _ hk => hk.1.1)⟩,⟨by (with_reducible repeat (first|apply Kd.N_alloc|apply Kd.N_drewN|apply Kd.N_drew));exact Kd.N_mono (Kd.N_far (p:=⟨gb458,1,none⟩) (Kd.N_far (p:=⟨gb458,0,none⟩) (Kd.N_mono HO456.out (fun k_ hk => (⟨hk,hk.2⟩ : _ ∧ k_ ≠ gb458))) (fun _ hk => hk.2) (.slice Ao9 t451.length co9)) (fun _ hk => hk.2) (.slice Ao13 t454.length co13)) (fun _ hk => ⟨hk.1.1.1,⟨hk.1.1.2.2.1,⟨hk.1.1.2.1,⟨hk.1.1.2.2.2.1,⟨hk.1.2,hk.1.1.2.2.2.2⟩⟩⟩⟩⟩)⟩,⟨Q77⟩,⟨by (with_reducible repeat (first|refine blk_drewN ?_ _|refine blk_drew ?_|refine blk_alloc ?_ _));refine blk_put (cs:=#[.slice Ao9 t451.length co9,.slice none 0 0]) ?_ 1 _ rfl;(with_reducible repeat (first|refine blk_drewN ?_ _|refine blk_drew ?_|refine blk_alloc ?_ _));refine blk_put (cs:=#[.slice none 0 0,.slice none 0 0]) ?_ 0 _ rfl;(with_reducible repeat (first|refine blk_drewN ?_ _|refine blk_drew ?_|refine blk_alloc ?_ _));exact BK458.out⟩,⟨Q8⟩,⟨Q7⟩,⟨Q9⟩⟩
 case round =>
  clear H'
  try clear c1
  try clear c2
  try clear p2
  try clear c3
  try clear c10
  try clear c11
  try clear hcz12_0
  try clear hcz12_1
  try clear hfz12_0
  try clear hfz12_1
  obtain ⟨x4_1,x6_1,x7_1,x1001_1,x459000_1,x459001_1,u459000,u459001,rfl,rfl,HA,HK1,HO_4,HO_459000,HO_459001,BK446,BK458,HI0,HK,HB⟩:=hrel
  cases gk with
  | zero => exact absurd HA.out (by simp [spec_l72Cert.l0])
  | succ k1 =>
   have H:=HA.out
   clear HA
   simp only [spec_l72Cert.l0] at H
   have HC14:=aM H
   clear H
   go_upto_region 4 with (fail)
   go_cut [20] (fun v20 wc => ∃ (kq : Nat) (x20_13 : Bool),v20 = .bool x20_13 ∧ Aside0 (spec_l72Cert.j1 kq x4_1 x7_1 x20_13 s0_0 x1001_1 x459000_1 x459001_1 = some (r1,r2,r3,r4)) ∧ Aside0 (kq ≤ k1) ∧ Aside0 (Kd.N k82 82 wc w.heap.size (fun k_ => (w.heap.size ≤ k_) ∧ some k_ ≠ (u459000 : Value).ownBlock ∧ some k_ ≠ (u459001 : Value).ownBlock ∧ k_ ≠ gb446 ∧ k_ ≠ gb458 ∧ k_ ≠ g) u4 x4_1) ∧ Aside0 (Kd.R k40 40 wc w.heap.size (fun k_ => (w.heap.size ≤ k_)) u459000 x459000_1) ∧ Aside0 (Kd.N (Kd.slice 3 (Kd.int .i64)) 36 wc w.heap.size (fun k_ => (w.heap.size ≤ k_) ∧ some k_ ≠ (u4 : Value).ownBlock ∧ some k_ ≠ (u459000 : Value).ownBlock ∧ k_ ≠ gb446 ∧ k_ ≠ gb458 ∧ k_ ≠ g) u459001 x459001_1) ∧ Aside0 (wc.heap[gb446]? = some (.cells #[(.slice none 0 0),(.slice none 0 0)] 30 (0,0))) ∧ Aside0 (wc.heap[gb458]? = some (.cells #[u459000,u459001] 30 (0,0))) ∧ Aside0 (IsS76 w0 wc g s0_0 x1001_1) ∧ Aside0 (KeepBut w wc g none) ∧ Aside0 (Below w0.heap.size w0 wc))
   case first =>
    have H:=HC14.out
    clear HC14
    by_cases c15 : x7_1 < 6
    ·rw [if_pos c15] at H
     have c15b0 : decide (x7_1 < 6) = true:=decide_eq_true c15
     clear c15
     (first|rw [c15b0]|rw [c15b1]|(simp only [i64_w,i32_w];rw [c15b0])|skip)
     have H':=aM H
     clear H
     go_wp2
     go_meet
     case rel => exact ⟨_,(!x6_1),Q11,H',⟨by have:=HK1.out;first|omega|exact Nat.le_refl _⟩,⟨qN HO_4⟩,⟨qR HO_459000⟩,⟨qN HO_459001⟩,⟨qk BK446⟩,⟨qk BK458⟩,⟨Q8⟩,⟨Q7⟩,⟨Q9⟩⟩
    ·rw [if_neg c15] at H
     have c15b0 : decide (x7_1 < 6) = false:=decide_eq_false c15
     clear c15
     (first|rw [c15b0]|rw [c15b1]|(simp only [i64_w,i32_w];rw [c15b0])|skip)
     have H':=aM H
     clear H
     go_wp2
     go_meet
     case rel => exact ⟨_,(false),Q11,H',⟨by have:=HK1.out;first|omega|exact Nat.le_refl _⟩,⟨qN HO_4⟩,⟨qR HO_459000⟩,⟨qN HO_459001⟩,⟨qk BK446⟩,⟨qk BK458⟩,⟨Q8⟩,⟨Q7⟩,⟨Q9⟩⟩
   case rest =>
    clear HC14
    try clear c1
    try clear c2
    try clear p2
    try clear c3
    try clear c10
    try clear c11
    try clear c15
    try clear c15b0
    try clear c15b1
    try clear hcz12_0
    try clear hcz12_1
    try clear hfz12_0
    try clear hfz12_1
    try clear p2
    obtain ⟨kq,x20_13,rfl,HA,HJ13,HO_4,HO_459000,HO_459001,BK446,BK458,HI0,HK,HB⟩:=hcut
    cases kq with
    | zero => exact absurd HA.out (by simp [spec_l72Cert.j1])
    | succ kj13 =>
     have H:=HA.out
     clear HA
     simp only [spec_l72Cert.j1] at H
     by_cases c16 : x20_13 = true
     ·subst c16
      have H1 : ((spec_l71Votes.f kj13 s0_0 x1001_1).bind fun bt459 => ((spec_CertOf.f kj13 bt459.1).bind fun bt463 => (spec_l72Cert.l0 kj13 bt459.1 bt463.2.2 (wrap64 (x7_1 + 1)) s0_0 bt459.2 bt463.1 bt463.2.1))) = some (r1,r2,r3,r4):=by rw [if_pos rfl] at H;exact H
      clear H
      have H:=H1
      clear H1
      replace H:=Option.bind_eq_some_iff.mp H
      obtain ⟨⟨t459,t462⟩,A170,H⟩:=H
      replace H : ((spec_CertOf.f kj13 t459).bind fun bt463 => (spec_l72Cert.l0 kj13 t459 bt463.2.2 (wrap64 (x7_1 + 1)) s0_0 t462 bt463.1 bt463.2.1)) = some (r1,r2,r3,r4):=H
      have A17:=aM A170
      clear A170
      replace H:=Option.bind_eq_some_iff.mp H
      obtain ⟨⟨t463,t466,t469⟩,A180,H⟩:=H
      replace H : (spec_l72Cert.l0 kj13 t459 t469 (wrap64 (x7_1 + 1)) s0_0 t462 t463 t466) = some (r1,r2,r3,r4):=H
      have A18:=aM A180
      clear A180
      have H':=aM H
      clear H
      go_wp2_with (first|((with_reducible refine gate_callee (f:=38) rfl ?_);refine goesL_ (some 24) rfl rfl Try.func38 Q14 rfl #[.pointer (some ⟨g,0,none⟩)] rfl Q1 ?_;(with_reducible refine (spec_l71Votes.calls kj13 g s0_0 x1001_1 t459 t462 w0 _ ?side1 ?side2 A17.out).mono ?_);(case side1 => exact Q8);(case side2 => exact Q9);rintro e w19 ⟨v460,rfl,ho0,hi,hb,hk⟩;refine ⟨_,rfl,?_⟩;have n0_:=aM (Kd.N_mono (Kd.N_told (Kd.N_oldK (Kd.N_mono (ok:=fun k_ => (((w.heap.size ≤ k_)) ∧ (some k_ ≠ (u459000 : Value).ownBlock ∧ (some k_ ≠ (u459001 : Value).ownBlock ∧ (k_ ≠ gb446 ∧ (k_ ≠ gb458 ∧ k_ ≠ g)))))) (qN HO_4) (fun k_ hk_ => (⟨hk_,hk_.2.2.2.2.2⟩ : _ ∧ k_ ≠ g))) hk) (by first|exact Kd.N_base ho0|exact Kd.R_base ho0)) (fun _ h_ => h_.1));have n1_:=aM (Kd.R_mono (Kd.R_keep (IsS76.apart (show IsS76 w0 _ g s0_0 x1001_1 from Q8) (qR HO_459000) Q36) hk (fun _ h => h.2)) (fun _ h => h.1));have n2_:=aM (Kd.N_mono (Kd.N_told (Kd.N_oldK (Kd.N_mono (ok:=fun k_ => (((w.heap.size ≤ k_)) ∧ (some k_ ≠ (u4 : Value).ownBlock ∧ (some k_ ≠ (u459000 : Value).ownBlock ∧ (k_ ≠ gb446 ∧ (k_ ≠ gb458 ∧ k_ ≠ g)))))) (qN HO_459001) (fun k_ hk_ => (⟨hk_,hk_.2.2.2.2.2⟩ : _ ∧ k_ ≠ g))) hk) (by first|exact Kd.N_base ho0|exact Kd.R_base ho0)) (fun _ h_ => h_.1));have n3_:=aM (KeepBut.blk hk (g':=gb446) (o:=.cells #[.slice none 0 0,.slice none 0 0] 30 (0,0)) (qk BK446) NB446_0.out Q51);have n4_:=aM (KeepBut.blk hk (g':=gb458) (o:=.cells #[u459000,u459001] 30 (0,0)) (qk BK458) NB458_0.out Q51);have n5_:=aM (Kd.N_lower (Kd.N_mono (ok':=fun k_ => (w.heap.size ≤ k_) ∧ some k_ ≠ (u4 : Value).ownBlock ∧ some k_ ≠ (u459000 : Value).ownBlock ∧ some k_ ≠ (u459001 : Value).ownBlock ∧ k_ ≠ gb446 ∧ k_ ≠ gb458 ∧ k_ ≠ g) (Kd.R_N (Kd.R_bound ho0)) (fun k_ hk_ => ⟨(Nat.le_trans (keep_size (w:=w) (g:=g) (row:=none) Q7) hk_.2.1),(Kd.fresh' (Kd.N_lt (qN HO_4)) k_ hk_.2.1),(Kd.fresh' (Kd.R_lt (qR HO_459000)) k_ hk_.2.1),(Kd.fresh' (Kd.N_lt (qN HO_459001)) k_ hk_.2.1),(Kd.freshB (g:=gb446) (o:=.cells #[.slice none 0 0,.slice none 0 0] 30 (0,0)) (qk BK446) k_ hk_.2.1),(Kd.freshB (g:=gb458) (o:=.cells #[u459000,u459001] 30 (0,0)) (qk BK458) k_ hk_.2.1),(IsS76.fresh Q8 k_ hk_.2.1)⟩)) (keep_size (w:=w) (g:=g) (row:=none) Q7));have n6_:=aM (KeepBut.trans Q7 hk (.inl rfl));have n7_:=aM (hb);have n8_:=aM (hi);clear HO_4;clear HO_459000;clear HO_459001;clear BK446;clear BK458;clear HK;clear HB;clear HI0;have HO_4:=n0_;have HO_459000:=n1_;have HO_459001:=n2_;have BK446:=n3_;have BK458:=n4_;have HO461:=n5_;have HK:=n6_;have HB:=n7_;have HI0:=n8_;clear n0_ n1_ n2_ n3_ n4_ n5_ n6_ n7_ n8_;(try clear hb);(try clear hb2);(try clear hk);(try clear hi);(try clear ho0);obtain ⟨Ao20,co20,eo20⟩:=Kd.N_slice HO461.out;subst eo20)|((with_reducible refine gate_callee (f:=39) rfl ?_);refine goesL_ (some 27) rfl rfl Try.func39 Q14 rfl #[.slice Ao20 t459.length co20] rfl Q1 ?_;(with_reducible refine (spec_CertOf.calls kj13 _ _ t459 t463 t466 t469 _ ?side1 ?side2 A18.out).mono ?_);(case side1 => repeat (first|exact (Kd.N_reads' HO461.out).2.2|(with_reducible refine Kd.C_alloc ?_ _)|(with_reducible refine Kd.C_drewN ?_ _)|(with_reducible refine Kd.C_drew ?_)));(case side2 => exact (Kd.N_reads' HO461.out).2.1);rintro e w21 ⟨v464,v467,rfl,ho0,ho1,hb⟩;refine ⟨_,rfl,?_⟩;have n0_:=aM (Kd.N_mono (Kd.N_told (Kd.N_told (Kd.N_old (qN HO_4) hb) (Kd.R_base ho0)) Q148) (fun _ h_ => h_.1));have n1_:=aM (Kd.R_elder' (qR HO_459000) (Kd.R_base ho0) hb);have n2_:=aM (Kd.N_mono (Kd.N_told (Kd.N_told (Kd.N_old (qN HO_459001) hb) (Kd.R_base ho0)) Q148) (fun _ h_ => h_.1));have n3_:=aM (Kd.N_mono (Kd.N_told (Kd.N_told (Kd.N_old (qN HO461) hb) (Kd.R_base ho0)) Q148) (fun _ h_ => h_.1));have n4_:=aM (Kd.R_lower (Kd.R_new' (Kd.R_newM (M:=fun k_ => (w.heap.size ≤ k_)) (Kd.R_mono (ok':=fun k_ => True) ho0 (fun _ hk_ => trivial)) (keep_size (w:=w) (g:=g) (row:=none) Q7) (fun k_ h_ => h_)) (Kd.R_lt (qR HO_459000))) (keep_size (w:=w) (g:=g) (row:=none) Q7));have n5_:=aM (Kd.N_lower (Kd.N_mono (ok':=fun k_ => (w.heap.size ≤ k_) ∧ some k_ ≠ (v464 : Value).ownBlock ∧ some k_ ≠ (u4 : Value).ownBlock ∧ some k_ ≠ (u459000 : Value).ownBlock ∧ some k_ ≠ (u459001 : Value).ownBlock ∧ some k_ ≠ (.slice Ao20 t459.length co20 : Value).ownBlock ∧ k_ ≠ gb446 ∧ k_ ≠ gb458 ∧ k_ ≠ g) ho1 (fun k_ hk_ => ⟨(Nat.le_trans (keep_size (w:=w) (g:=g) (row:=none) Q7) hk_.1),hk_.2,(Kd.fresh' (Kd.N_lt (qN HO_4)) k_ hk_.1),(Kd.fresh' (Kd.R_lt (qR HO_459000)) k_ hk_.1),(Kd.fresh' (Kd.N_lt (qN HO_459001)) k_ hk_.1),(Kd.fresh' (Kd.N_lt (qN HO461)) k_ hk_.1),(Kd.freshB (g:=gb446) (o:=.cells #[.slice none 0 0,.slice none 0 0] 30 (0,0)) (qk BK446) k_ hk_.1),(Kd.freshB (g:=gb458) (o:=.cells #[u459000,u459001] 30 (0,0)) (qk BK458) k_ hk_.1),(IsS76.fresh Q8 k_ hk_.1)⟩)) (keep_size (w:=w) (g:=g) (row:=none) Q7));have n6_:=aM (blk_below (g:=gb446) (o:=.cells #[.slice none 0 0,.slice none 0 0] 30 (0,0)) (qk BK446) hb);have n7_:=aM (blk_below (g:=gb458) (o:=.cells #[u459000,u459001] 30 (0,0)) (qk BK458) hb);have n8_:=aM (IsS76.below Q8 hb);have n9_:=aM (KeepBut.trans Q7 (KeepBut.of_below hb g none) (.inl rfl));have n10_:=aM (below_step Q9 hb);clear HO_4;clear HO_459000;clear HO_459001;clear HO461;clear BK446;clear BK458;clear HI0;clear HK;clear HB;have HO_4:=n0_;have HO_459000:=n1_;have HO_459001:=n2_;have HO461:=n3_;have HO465:=n4_;have HO468:=n5_;have BK446:=n6_;have BK458:=n7_;have HI0:=n8_;have HK:=n9_;have HB:=n10_;clear n0_ n1_ n2_ n3_ n4_ n5_ n6_ n7_ n8_ n9_ n10_;(try clear hb);(try clear hb2);(try clear hk);(try clear hi);(try clear ho0);(try clear ho1);obtain ⟨Ao22,co22,eo22⟩:=Kd.R_slice HO465.out;subst eo22;have hnb23:=NB458_446.out;have hnc23:=NB446_458.out;have hnb24:=NB458_0.out;have hnc24:=NB0_458.out;have hcz25_0 : w21.cell? ⟨gb458,0,none⟩ = some (u459000):=(blk_cell BK458.out 0).trans rfl;have hcz25_1 : w21.cell? ⟨gb458,1,none⟩ = some (u459001):=(blk_cell BK458.out 1).trans rfl;have hfz25_0:=blk_frozen BK458.out 0;have hfz25_1:=blk_frozen BK458.out 1;obtain ⟨Ao26,co26,eo26⟩:=Kd.N_slice HO468.out;subst eo26))
      go_roundg kj13
      case measure => have:=HK1.out;have:=HJ13.out;omega
      case rel => exact ⟨(t459),(t469),(wrap64 (x7_1 + 1)),(t462),(t463),(t466),(.slice Ao22 t463.length co22),(.slice Ao26 t466.length co26),Q11,Q11,H',⟨by have:=HK1.out;have:=HJ13.out;omega⟩,⟨by (with_reducible repeat (first|apply Kd.N_alloc|apply Kd.N_drewN|apply Kd.N_drew));exact Kd.N_mono (Kd.N_far (p:=⟨gb458,1,none⟩) (Kd.N_far (p:=⟨gb458,0,none⟩) (Kd.N_mono HO461.out (fun k_ hk => (⟨hk,hk.1.1.2.2.2.2.2.1⟩ : _ ∧ k_ ≠ gb458))) (fun _ hk => hk.2) (.slice Ao22 t463.length co22)) (fun _ hk => hk.2) (.slice Ao26 t466.length co26)) (fun _ hk => ⟨hk.1.1.1.1,⟨hk.1.1.2,⟨hk.1.2,⟨hk.1.1.1.2.2.2.2.1,⟨hk.1.1.1.2.2.2.2.2.1,hk.1.1.1.2.2.2.2.2.2⟩⟩⟩⟩⟩)⟩,⟨by (with_reducible repeat (first|apply Kd.R_alloc|apply Kd.R_drewN|apply Kd.R_drew));exact Kd.R_mono (Kd.R_far (p:=⟨gb458,1,none⟩) (Kd.R_far (p:=⟨gb458,0,none⟩) (Kd.R_types HO465.out BK458.out Q36) (fun _ hk => hk.2) (.slice Ao22 t463.length co22)) (fun _ hk => hk.2) (.slice Ao26 t466.length co26)) (fun _ hk => hk.1.1.1)⟩,⟨by (with_reducible repeat (first|apply Kd.N_alloc|apply Kd.N_drewN|apply Kd.N_drew));exact Kd.N_mono (Kd.N_far (p:=⟨gb458,1,none⟩) (Kd.N_far (p:=⟨gb458,0,none⟩) (Kd.N_mono HO468.out (fun k_ hk => (⟨hk,hk.2.2.2.2.2.2.2.1⟩ : _ ∧ k_ ≠ gb458))) (fun _ hk => hk.2) (.slice Ao22 t463.length co22)) (fun _ hk => hk.2) (.slice Ao26 t466.length co26)) (fun _ hk => ⟨hk.1.1,⟨hk.1.2.2.2.2.2.1,⟨hk.1.2.1,⟨hk.1.2.2.2.2.2.2.1,⟨hk.1.2.2.2.2.2.2.2.1,hk.1.2.2.2.2.2.2.2.2⟩⟩⟩⟩⟩)⟩,⟨Q77⟩,⟨by (with_reducible repeat (first|refine blk_drewN ?_ _|refine blk_drew ?_|refine blk_alloc ?_ _));refine blk_put (cs:=#[.slice Ao22 t463.length co22,u459001]) ?_ 1 _ rfl;(with_reducible repeat (first|refine blk_drewN ?_ _|refine blk_drew ?_|refine blk_alloc ?_ _));refine blk_put (cs:=#[u459000,u459001]) ?_ 0 _ rfl;(with_reducible repeat (first|refine blk_drewN ?_ _|refine blk_drew ?_|refine blk_alloc ?_ _));exact BK458.out⟩,⟨Q8⟩,⟨Q7⟩,⟨Q9⟩⟩
     ·replace c16:=Bool.eq_false_iff.mpr c16
      subst c16
      have H1 : ((spec_l6Rd_pick.f kj13 s0_0 x1001_1 10).bind fun bt470 => (if bt470.1 = 0 then (if (x459001_1.length : Int) > 0 then (if 0 < (x459001_1.length : Int) then (some (x459000_1,(x459001_1.set (0 : Int).toNat (([1,2] : List Int))),x4_1,bt470.2)) else (none)) else (some (x459000_1,x459001_1,x4_1,bt470.2))) else (if bt470.1 = 1 then ((spec_l71Off.f kj13 s0_0 bt470.2).bind fun bt476 => (some (bt476.1,x459001_1,x4_1,bt476.2))) else (if bt470.1 = 2 then (if x459001_1.length < 5864062014805 then (some (x459000_1,(x459001_1 ++ [(([1,2,3] : List Int))]),x4_1,bt470.2)) else (none)) else (if bt470.1 = 3 then (if (x459001_1.length : Int) > 1 then (if 1 < (x459001_1.length : Int) then (some (x459000_1,(x459001_1.set (1 : Int).toNat (([1,3,3,4] : List Int))),x4_1,bt470.2)) else (none)) else (some (x459000_1,x459001_1,x4_1,bt470.2))) else (some (x459000_1,x459001_1,x4_1,bt470.2))))))) = some (r1,r2,r3,r4):=by rw [if_neg (show ¬ (false = true) by decide)] at H;exact H
      clear H
      have H:=H1
      clear H1
      replace H:=Option.bind_eq_some_iff.mp H
      obtain ⟨⟨t470,t471⟩,A270,H⟩:=H
      replace H : (if t470 = 0 then (if (x459001_1.length : Int) > 0 then (if 0 < (x459001_1.length : Int) then (some (x459000_1,(x459001_1.set (0 : Int).toNat (([1,2] : List Int))),x4_1,t471)) else (none)) else (some (x459000_1,x459001_1,x4_1,t471))) else (if t470 = 1 then ((spec_l71Off.f kj13 s0_0 t471).bind fun bt476 => (some (bt476.1,x459001_1,x4_1,bt476.2))) else (if t470 = 2 then (if x459001_1.length < 5864062014805 then (some (x459000_1,(x459001_1 ++ [(([1,2,3] : List Int))]),x4_1,t471)) else (none)) else (if t470 = 3 then (if (x459001_1.length : Int) > 1 then (if 1 < (x459001_1.length : Int) then (some (x459000_1,(x459001_1.set (1 : Int).toNat (([1,3,3,4] : List Int))),x4_1,t471)) else (none)) else (some (x459000_1,x459001_1,x4_1,t471))) else (some (x459000_1,x459001_1,x4_1,t471)))))) = some (r1,r2,r3,r4):=H
      have A27:=aM A270
      clear A270
      by_cases c28 : t470 = 0
      ·rw [if_pos c28] at H
       have c28b0 : (t470 == 0) = true:=beq_iff_eq.mpr c28
       have c28b1 : (t470 != 0) = false:=bne_eq_false_iff_eq.mpr c28
       clear c28
       by_cases c29 : (x459001_1.length : Int) > 0
       ·rw [if_pos c29] at H
        have c29b0 : decide (0 < (x459001_1.length : Int)) = true:=decide_eq_true c29
        have c29b1 : decide (0 < x459001_1.length) = true:=decide_eq_true Q17
        clear c29
        obtain ⟨y472,hy472⟩ : ∃ y_ : List Int,y_ = (([1,2] : List Int)):=⟨_,rfl⟩
        replace H : (if 0 < (x459001_1.length : Int) then (some (x459000_1,(x459001_1.set (0 : Int).toNat y472),x4_1,t471)) else (none)) = some (r1,r2,r3,r4):=by first|(rw [hy472];with_reducible exact H)|(have H2_:=(Option.bind_some _ _).symm.trans H;rw [hy472];with_reducible exact H2_)|(have H2_:=(Option.bind_some _ _).symm.trans H;with_reducible exact H2_)|with_reducible exact H|(rw [hy472];exact H)|exact H
        have Ny472:=aM hy472
        clear hy472
        by_cases c30 : 0 < (x459001_1.length : Int)
        case neg => rw [if_neg c30] at H;exact absurd H Q51
        rw [if_pos c30] at H
        have c30b0 : decide (0 < (x459001_1.length : Int)) = true:=decide_eq_true c30
        have c30b1 : decide (0 < x459001_1.length) = true:=decide_eq_true Q17
        clear c30
        obtain ⟨y475,hy475⟩ : ∃ y_ : List (List Int),y_ = (x459001_1.set (0 : Int).toNat y472):=⟨_,rfl⟩
        replace H : (some (x459000_1,y475,x4_1,t471)) = some (r1,r2,r3,r4):=by first|(rw [hy475];with_reducible exact H)|(have H2_:=(Option.bind_some _ _).symm.trans H;rw [hy475];with_reducible exact H2_)|(have H2_:=(Option.bind_some _ _).symm.trans H;with_reducible exact H2_)|with_reducible exact H|(rw [hy475];exact H)|exact H
        have Ny475:=aM hy475
        clear hy475
        simp only [Option.some.injEq,Prod.mk.injEq] at H
        obtain ⟨rfl,rfl,rfl,rfl⟩:=H
        go_wp2_with (first|((with_reducible refine gate_callee (f:=40) rfl ?_);refine goesL_ (some 31) rfl rfl Try.func40 Q14 rfl #[.pointer (some ⟨g,0,none⟩),.int .i64 10] rfl Q1 ?_;(with_reducible refine (spec_l6Rd_pick.calls kj13 g s0_0 x1001_1 10 t470 t471 w0 _ ?side1 ?side2 A27.out).mono ?_);(case side1 => exact Q8);(case side2 => exact Q9);rintro e w32 ⟨rfl,hi,hb,hk⟩;refine ⟨_,rfl,?_⟩;have n0_:=aM (Kd.N_mono (Kd.N_keep (Kd.N_mono (ok:=fun k_ => (((w.heap.size ≤ k_)) ∧ (some k_ ≠ (u459000 : Value).ownBlock ∧ (some k_ ≠ (u459001 : Value).ownBlock ∧ (k_ ≠ gb446 ∧ (k_ ≠ gb458 ∧ k_ ≠ g)))))) (qN HO_4) (fun k_ hk_ => (⟨hk_,hk_.2.2.2.2.2⟩ : _ ∧ k_ ≠ g))) hk (fun _ h => h.2)) (fun _ h => h.1));have n1_:=aM (Kd.R_mono (Kd.R_keep (IsS76.apart (show IsS76 w0 _ g s0_0 x1001_1 from Q8) (qR HO_459000) Q36) hk (fun _ h => h.2)) (fun _ h => h.1));have n2_:=aM (Kd.N_mono (Kd.N_keep (Kd.N_mono (ok:=fun k_ => (((w.heap.size ≤ k_)) ∧ (some k_ ≠ (u4 : Value).ownBlock ∧ (some k_ ≠ (u459000 : Value).ownBlock ∧ (k_ ≠ gb446 ∧ (k_ ≠ gb458 ∧ k_ ≠ g)))))) (qN HO_459001) (fun k_ hk_ => (⟨hk_,hk_.2.2.2.2.2⟩ : _ ∧ k_ ≠ g))) hk (fun _ h => h.2)) (fun _ h => h.1));have n3_:=aM (KeepBut.blk hk (g':=gb446) (o:=.cells #[.slice none 0 0,.slice none 0 0] 30 (0,0)) (qk BK446) NB446_0.out Q51);have n4_:=aM (KeepBut.blk hk (g':=gb458) (o:=.cells #[u459000,u459001] 30 (0,0)) (qk BK458) NB458_0.out Q51);have n5_:=aM (KeepBut.trans Q7 hk (.inl rfl));have n6_:=aM (hb);have n7_:=aM (hi);clear HO_4;clear HO_459000;clear HO_459001;clear BK446;clear BK458;clear HK;clear HB;clear HI0;have HO_4:=n0_;have HO_459000:=n1_;have HO_459001:=n2_;have BK446:=n3_;have BK458:=n4_;have HK:=n5_;have HB:=n6_;have HI0:=n7_;clear n0_ n1_ n2_ n3_ n4_ n5_ n6_ n7_;(try clear hb);(try clear hb2);(try clear hk);(try clear hi);have hnb33:=NB458_446.out;have hnc33:=NB446_458.out;have hnb34:=NB458_0.out;have hnc34:=NB0_458.out;have hcz35_0 : w32.cell? ⟨gb458,0,none⟩ = some (u459000):=(blk_cell BK458.out 0).trans rfl;have hcz35_1 : w32.cell? ⟨gb458,1,none⟩ = some (u459001):=(blk_cell BK458.out 1).trans rfl;have hfz35_0:=blk_frozen BK458.out 0;have hfz35_1:=blk_frozen BK458.out 1;obtain ⟨Ao36,co36,eo36⟩:=Kd.N_slice HO_459001.out;subst eo36)|((with_reducible refine gate_dst (N:=40) rfl ?_);refine Kd.R_lit (Kd.int .i64) _ 3 ?hg (N:=40) ?hd (xs:=([1,2] : List Int)) (inner:=[.int .i64 1,.int .i64 2]) (ok:=fun _ => True) (okp:=fun _ => True) ?hr ?hp (fun _ hk => hk) trivial (Below.refl _ _) (Nat.le_refl _) Q51 ?_;(case hd => rfl);(case hg => rfl);(case hr => exact Q16);(case hp => exact (Reps.one (show Kd.M (Kd.int .i64) _ _ _ 1 [.int .i64 1] from rfl) (Reps.one (show Kd.M (Kd.int .i64) _ _ _ 2 [.int .i64 2] from rfl) (Reps.none _ _))));intro v473 w37 ho38 hb hg_ hnew_;clear hg_ hnew_;(first|rw [← Ny472.out] at ho38|(simp only [Int.reduceToNat] at ho38;rw [← Ny472.out] at ho38));obtain ⟨Av473,cv473,ev473_⟩:=Kd.R_slice ho38;subst ev473_;have n0_:=aM (Kd.N_elder' (qN HO_4) (Kd.R_base ho38) hb);have n1_:=aM (Kd.R_below (qR HO_459000) hb);have n2_:=aM (Kd.N_elder' (qN HO_459001) (Kd.R_base ho38) hb);have n3_:=aM (Kd.R_lower (Kd.R_newM (M:=fun k_ => (w.heap.size ≤ k_)) ho38 (keep_size (w:=w) (g:=g) (row:=none) Q7) (fun k_ h_ => h_)) (keep_size (w:=w) (g:=g) (row:=none) Q7));have n4_:=aM (blk_below (g:=gb446) (o:=.cells #[.slice none 0 0,.slice none 0 0] 30 (0,0)) (qk BK446) hb);have n5_:=aM (blk_below (g:=gb458) (o:=.cells #[u459000,.slice Ao36 x459001_1.length co36] 30 (0,0)) (qk BK458) hb);have n6_:=aM (IsS76.below Q8 hb);have n7_:=aM (KeepBut.trans Q7 (KeepBut.of_below hb g none) (.inl rfl));have n8_:=aM (below_step Q9 hb);clear HO_4;clear HO_459000;clear HO_459001;clear BK446;clear BK458;clear HI0;clear HK;clear HB;have HO_4:=n0_;have HO_459000:=n1_;have HO_459001:=n2_;have HO474:=n3_;have BK446:=n4_;have BK458:=n5_;have HI0:=n6_;have HK:=n7_;have HB:=n8_;clear n0_ n1_ n2_ n3_ n4_ n5_ n6_ n7_ n8_;clear hb ho38;have p31 : 0 ≤ (0 : Int):=Q17;have q31 : (0 : Int) < ((x459001_1.length : Int) : Int):=of_decide_eq_true Q5;have qi31 : (0 < x459001_1.length) = True:=eq_true Q17;obtain ⟨go31,co31,eo31,gb31,gl31,cl31,HG31⟩:=Kd.N_form HO_459001.out Q17;(first|cases eo31|(injection eo31 with ea_ en_ ec_;(first|subst ea_|(injection ea_ with ea_;subst ea_));subst ec_;clear en_));have GB31:=aM gb31;have GG31:=aM HG31;clear gb31 gl31 HG31;obtain ⟨ce31,hcl31,hM31,hcc31,hfr31⟩:=Kd.N_elem HO_459001.out [] (0 : Int) p31 q31;obtain ⟨ua31_0,uc31_0,rfl,ul31_0,ge31_0⟩:=Kd.FK_slice_open hM31;have hx31_0:=hcc31 0 _ rfl;have hf31_0:=hfr31 0;(try simp only [show ((Kd.slice 3 (Kd.int .i64))).sz = 1 from rfl,Nat.mul_one,Nat.add_zero] at hx31_0);(try simp only [show ((Kd.slice 3 (Kd.int .i64))).sz = 1 from rfl,Nat.mul_one,Nat.add_zero] at hf31_0);clear hcl31 hcc31 hfr31 hM31;(try rw [show ((0 : Int)).toNat = 0 from rfl] at hx31_0);(try simp only [Nat.reduceMul,Nat.zero_mul,Nat.zero_add,Nat.reduceAdd] at hx31_0);(try rw [show ((0 : Int)).toNat = 0 from rfl] at hf31_0);(try simp only [Nat.reduceMul,Nat.zero_mul,Nat.zero_add,Nat.reduceAdd] at hf31_0);replace p31:=eq_true p31;replace q31:=eq_true q31;have n_:=aM (Kd.N_mono (ok':=(fun k_ => (w.heap.size ≤ k_) ∧ some k_ ≠ (u4 : Value).ownBlock ∧ some k_ ≠ (u459000 : Value).ownBlock ∧ some k_ ≠ (.slice Av473 y472.length cv473 : Value).ownBlock ∧ k_ ≠ gb446 ∧ k_ ≠ gb458)) HO_459001.out (fun k_ hk => ⟨hk.1.1,⟨hk.1.2.1,⟨hk.1.2.2.1,⟨hk.2,⟨hk.1.2.2.2.1,hk.1.2.2.2.2.1⟩⟩⟩⟩⟩));clear HO_459001;have HO_459001:=n_;clear n_;have HX39:=aM (show Kd.N (Kd.slice 3 (Kd.int .i64)) 36 w37 w.heap.size (fun k_ => (w.heap.size ≤ k_) ∧ some k_ ≠ (u4 : Value).ownBlock ∧ some k_ ≠ (u459000 : Value).ownBlock ∧ k_ ≠ gb446 ∧ k_ ≠ gb458) (.slice (some ⟨go31,0,none⟩) x459001_1.length co36) x459001_1 from Q112);obtain ⟨ce39,hcl39,hM39,hcc39,hfr39⟩:=Kd.N_elem HX39.out [] (0 : Int) Q17 Q133;obtain ⟨ua39_0,uc39_0,rfl,ul39_0,ge39_0⟩:=Kd.FK_slice_open hM39;have HP39:=Kd.N_seg HX39.out (0 : Int) Q17 Q133 (seg:=[.slice Av473 y472.length cv473]) (j:=0) hcl39 hcc39 (show 1 ≤ 1 from Q36) (x':=y472) (Kd.FK_slice_mk (Kd.R_reads' (Kd.R_mono (ok':=(fun k_ => ((fun k_ => (w.heap.size ≤ k_) ∧ some k_ ≠ (u4 : Value).ownBlock ∧ some k_ ≠ (u459000 : Value).ownBlock ∧ k_ ≠ gb446 ∧ k_ ≠ gb458)) k_ ∧ k_ ≠ go31)) (Kd.R_types (Kd.R_types (Kd.R_apart' (Kd.R_apart' (Kd.R_apart' (HO474.out) (Kd.N_typed HO_4.out) Q36) (Kd.R_typed HO_459000.out) Q36) (Kd.N_typed HO_459001.out) Q36) BK446.out Q36) BK458.out Q36) (fun k_ hk => ⟨⟨hk.1.1.1.1.1.1,⟨hk.1.1.1.1.2,⟨hk.1.1.1.2,⟨hk.1.2,hk.2⟩⟩⟩⟩,fun e_ => (hk.1.1.2) Q118⟩))).2.1 (Kd.R_F (Kd.R_mono (ok':=(fun k_ => ((fun k_ => (w.heap.size ≤ k_) ∧ some k_ ≠ (u4 : Value).ownBlock ∧ some k_ ≠ (u459000 : Value).ownBlock ∧ k_ ≠ gb446 ∧ k_ ≠ gb458)) k_ ∧ k_ ≠ go31)) (Kd.R_types (Kd.R_types (Kd.R_apart' (Kd.R_apart' (Kd.R_apart' (HO474.out) (Kd.N_typed HO_4.out) Q36) (Kd.R_typed HO_459000.out) Q36) (Kd.N_typed HO_459001.out) Q36) BK446.out Q36) BK458.out Q36) (fun k_ hk => ⟨⟨hk.1.1.1.1.1.1,⟨hk.1.1.1.1.2,⟨hk.1.1.1.2,⟨hk.1.2,hk.2⟩⟩⟩⟩,fun e_ => (hk.1.1.2) Q118⟩)))) (fun _ hk => hk);have hx39_0:=hcc39 0 _ rfl;(try simp only [show ((Kd.slice 3 (Kd.int .i64))).sz = 1 from rfl,Nat.mul_one,Nat.add_zero] at hx39_0);(try rw [show ((0 : Int)).toNat = 0 from rfl] at hx39_0);(try simp only [Nat.reduceMul,Nat.zero_mul,Nat.zero_add,Nat.reduceAdd] at hx39_0);have hf39_0:=hfr39 0;(try simp only [show ((Kd.slice 3 (Kd.int .i64))).sz = 1 from rfl,Nat.mul_one,Nat.add_zero] at hf39_0);(try rw [show ((0 : Int)).toNat = 0 from rfl] at hf39_0);(try simp only [Nat.reduceMul,Nat.zero_mul,Nat.zero_add,Nat.reduceAdd] at hf39_0);clear hcl39 hcc39 hfr39 hM39;(try simp only [show ((Kd.slice 3 (Kd.int .i64))).sz = 1 from rfl,Nat.mul_one,Nat.add_zero] at HP39);(try simp only [show ((Kd.slice 3 (Kd.int .i64))).sz = 1 from rfl,Nat.mul_one,Nat.add_zero] at HP39))|((with_reducible refine gate_store (t:=36) (p:=41) rfl ?_);refine store_event (t:=36) (p:=41) (v:=?vo_w40) (w1:=(w37.setCell ⟨go31,0,none⟩ (.slice Av473 y472.length cv473))) ?hg ?ho ?hn ?hr ?_;(case ho => rfl);(case hg => rfl);(case hn => rfl);(case hr => exact Q16);intro w40 hw;have hg : w37.grownBy w40 (some go31):=(by rw [hw];exact HP39.2);have hp_ : Kd.N (Kd.slice 3 (Kd.int .i64)) 36 w40 w.heap.size (fun k_ => (w.heap.size ≤ k_) ∧ some k_ ≠ (u4 : Value).ownBlock ∧ some k_ ≠ (u459000 : Value).ownBlock ∧ k_ ≠ gb446 ∧ k_ ≠ gb458) (.slice (some ⟨go31,0,none⟩) x459001_1.length co36) y475:=(by rw [hw,Ny475.out];exact HP39.1);clear HP39;have n0_:=aM (Kd.N_afterv (v:=(.slice (some ⟨go31,0,none⟩) x459001_1.length co36)) (v1:=(.slice (some ⟨go31,0,none⟩) x459001_1.length co36)) (ok:=(fun k_ => (w.heap.size ≤ k_) ∧ some k_ ≠ (u459000 : Value).ownBlock ∧ some k_ ≠ (.slice Av473 y472.length cv473 : Value).ownBlock ∧ k_ ≠ gb446 ∧ k_ ≠ gb458 ∧ k_ ≠ g)) Q67 hg (.inl rfl));have n1_:=aM (Kd.R_over' (v:=(.slice (some ⟨go31,0,none⟩) x459001_1.length co36)) (qR HO_459000) (Kd.N_typed HO_459001.out) Q36 hg);have n2_:=aM (hp_);have n3_:=aM (blk_grown (g:=gb446) (o:=.cells #[.slice none 0 0,.slice none 0 0] 30 (0,0)) (qk BK446) hg (Kd.N_ne HO_459001.out BK446.out Q36));have n4_:=aM (blk_grown (g:=gb458) (o:=.cells #[u459000,.slice (some ⟨go31,0,none⟩) x459001_1.length co36] 30 (0,0)) (qk BK458) hg (Kd.N_ne HO_459001.out BK458.out Q36));have n5_:=aM (IsS76.grown Q8 hg (IsS76.own_neN HI0.out HO_459001.out Q36));have n6_:=aM ((by rw [hw];exact below_set (HB.out) (Nat.le_trans HL.out GB31.out) : Below w0.heap.size w0 w40));have n7_:=aM (KeepBut.trans Q7 (KeepBut.of_grown hg g) (Kd.N_base2 HO_459001.out));clear HO_4;clear HO_459000;clear HO_459001;clear BK446;clear BK458;clear HI0;clear HB;clear HK;clear HO474;have HO_4:=n0_;have HO_459000:=n1_;have HO_459001:=n2_;have BK446:=n3_;have BK458:=n4_;have HI0:=n5_;have HB:=n6_;have HK:=n7_;clear n0_ n1_ n2_ n3_ n4_ n5_ n6_ n7_;clear hg hw hp_;have hcz41_0 : w40.cell? ⟨gb458,0,none⟩ = some (u459000):=(blk_cell BK458.out 0).trans rfl;have hcz41_1 : w40.cell? ⟨gb458,1,none⟩ = some (.slice (some ⟨go31,0,none⟩) x459001_1.length co36):=(blk_cell BK458.out 1).trans rfl;have hfz41_0:=blk_frozen BK458.out 0;have hfz41_1:=blk_frozen BK458.out 1;obtain ⟨Ao42,co42,eo42⟩:=Kd.R_slice HO_459000.out;subst eo42;have hnb43:=NB446_0.out;have hnc43:=NB0_446.out;have hcz44_0 : w40.cell? ⟨gb446,0,none⟩ = some (.slice none 0 0):=(blk_cell BK446.out 0).trans rfl;have hcz44_1 : w40.cell? ⟨gb446,1,none⟩ = some (.slice none 0 0):=(blk_cell BK446.out 1).trans rfl;have hfz44_0:=blk_frozen BK446.out 0;have hfz44_1:=blk_frozen BK446.out 1))
        refine bodyPost_ret (results_ct rfl _ _ gb446 30 #[.slice Ao42 x459000_1.length co42,.slice (some ⟨go31,0,none⟩) x459001_1.length co36] (0,0) _ rfl (by (with_reducible repeat (first|refine blk_drewN ?_ _|refine blk_drew ?_|refine blk_alloc ?_ _));refine blk_put (cs:=#[.slice Ao42 x459000_1.length co42,.slice none 0 0]) ?_ 1 _ rfl;(with_reducible repeat (first|refine blk_drewN ?_ _|refine blk_drew ?_|refine blk_alloc ?_ _));refine blk_put (cs:=#[.slice none 0 0,.slice none 0 0]) ?_ 0 _ rfl;(with_reducible repeat (first|refine blk_drewN ?_ _|refine blk_drew ?_|refine blk_alloc ?_ _));exact BK446.out) Try.underlying30 rfl Q14) rfl ?_
        exact ⟨_,_,_,Q6,by (with_reducible repeat (first|apply Kd.R_alloc|apply Kd.R_drewN|apply Kd.R_drew));exact Kd.R_mono (Kd.R_far (p:=⟨gb446,1,none⟩) (Kd.R_far (p:=⟨gb446,0,none⟩) (Kd.R_types HO_459000.out BK446.out Q36) (fun _ hk => hk.2) (.slice Ao42 x459000_1.length co42)) (fun _ hk => hk.2) (.slice (some ⟨go31,0,none⟩) x459001_1.length co36)) (fun _ hk => hk.1),by (with_reducible repeat (first|apply Kd.N_alloc|apply Kd.N_drewN|apply Kd.N_drew));exact Kd.N_mono (Kd.N_far (p:=⟨gb446,1,none⟩) (Kd.N_far (p:=⟨gb446,0,none⟩) (Kd.N_mono HO_459001.out (fun k_ hk => (⟨hk,hk.2.2.2.1⟩ : _ ∧ k_ ≠ gb446))) (fun _ hk => hk.2) (.slice Ao42 x459000_1.length co42)) (fun _ hk => hk.2) (.slice (some ⟨go31,0,none⟩) x459001_1.length co36)) (fun _ hk => ⟨hk.1.1,⟨hk.1.2.2.1,hk.1.2.1⟩⟩),by (with_reducible repeat (first|apply Kd.N_alloc|apply Kd.N_drewN|apply Kd.N_drew));exact Kd.N_mono (Kd.N_far (p:=⟨gb446,1,none⟩) (Kd.N_far (p:=⟨gb446,0,none⟩) (Kd.N_mono HO_4.out (fun k_ hk => (⟨hk,hk.1.2.2.2.1⟩ : _ ∧ k_ ≠ gb446))) (fun _ hk => hk.2) (.slice Ao42 x459000_1.length co42)) (fun _ hk => hk.2) (.slice (some ⟨go31,0,none⟩) x459001_1.length co36)) (fun _ hk => ⟨hk.1.1.1,⟨hk.1.1.2.1,hk.1.2⟩⟩),Q8,Q9,Q7⟩
       ·rw [if_neg c29] at H
        have c29b0 : decide (0 < (x459001_1.length : Int)) = false:=decide_eq_false c29
        have c29b1 : decide (0 < x459001_1.length) = false:=decide_eq_false Q17
        clear c29
        simp only [Option.some.injEq,Prod.mk.injEq] at H
        obtain ⟨rfl,rfl,rfl,rfl⟩:=H
        go_wp2_with (first|((with_reducible refine gate_callee (f:=40) rfl ?_);refine goesL_ (some 31) rfl rfl Try.func40 Q14 rfl #[.pointer (some ⟨g,0,none⟩),.int .i64 10] rfl Q1 ?_;(with_reducible refine (spec_l6Rd_pick.calls kj13 g s0_0 x1001_1 10 t470 t471 w0 _ ?side1 ?side2 A27.out).mono ?_);(case side1 => exact Q8);(case side2 => exact Q9);rintro e w45 ⟨rfl,hi,hb,hk⟩;refine ⟨_,rfl,?_⟩;have n0_:=aM (Kd.N_mono (Kd.N_keep (Kd.N_mono (ok:=fun k_ => (((w.heap.size ≤ k_)) ∧ (some k_ ≠ (u459000 : Value).ownBlock ∧ (some k_ ≠ (u459001 : Value).ownBlock ∧ (k_ ≠ gb446 ∧ (k_ ≠ gb458 ∧ k_ ≠ g)))))) (qN HO_4) (fun k_ hk_ => (⟨hk_,hk_.2.2.2.2.2⟩ : _ ∧ k_ ≠ g))) hk (fun _ h => h.2)) (fun _ h => h.1));have n1_:=aM (Kd.R_mono (Kd.R_keep (IsS76.apart (show IsS76 w0 _ g s0_0 x1001_1 from Q8) (qR HO_459000) Q36) hk (fun _ h => h.2)) (fun _ h => h.1));have n2_:=aM (Kd.N_mono (Kd.N_keep (Kd.N_mono (ok:=fun k_ => (((w.heap.size ≤ k_)) ∧ (some k_ ≠ (u4 : Value).ownBlock ∧ (some k_ ≠ (u459000 : Value).ownBlock ∧ (k_ ≠ gb446 ∧ (k_ ≠ gb458 ∧ k_ ≠ g)))))) (qN HO_459001) (fun k_ hk_ => (⟨hk_,hk_.2.2.2.2.2⟩ : _ ∧ k_ ≠ g))) hk (fun _ h => h.2)) (fun _ h => h.1));have n3_:=aM (KeepBut.blk hk (g':=gb446) (o:=.cells #[.slice none 0 0,.slice none 0 0] 30 (0,0)) (qk BK446) NB446_0.out Q51);have n4_:=aM (KeepBut.blk hk (g':=gb458) (o:=.cells #[u459000,u459001] 30 (0,0)) (qk BK458) NB458_0.out Q51);have n5_:=aM (KeepBut.trans Q7 hk (.inl rfl));have n6_:=aM (hb);have n7_:=aM (hi);clear HO_4;clear HO_459000;clear HO_459001;clear BK446;clear BK458;clear HK;clear HB;clear HI0;have HO_4:=n0_;have HO_459000:=n1_;have HO_459001:=n2_;have BK446:=n3_;have BK458:=n4_;have HK:=n5_;have HB:=n6_;have HI0:=n7_;clear n0_ n1_ n2_ n3_ n4_ n5_ n6_ n7_;(try clear hb);(try clear hb2);(try clear hk);(try clear hi);have hnb46:=NB458_446.out;have hnc46:=NB446_458.out;have hnb47:=NB458_0.out;have hnc47:=NB0_458.out;have hcz48_0 : w45.cell? ⟨gb458,0,none⟩ = some (u459000):=(blk_cell BK458.out 0).trans rfl;have hcz48_1 : w45.cell? ⟨gb458,1,none⟩ = some (u459001):=(blk_cell BK458.out 1).trans rfl;have hfz48_0:=blk_frozen BK458.out 0;have hfz48_1:=blk_frozen BK458.out 1;obtain ⟨Ao49,co49,eo49⟩:=Kd.N_slice HO_459001.out;subst eo49;obtain ⟨Ao50,co50,eo50⟩:=Kd.R_slice HO_459000.out;subst eo50;have hnb51:=NB446_0.out;have hnc51:=NB0_446.out;have hcz52_0 : w45.cell? ⟨gb446,0,none⟩ = some (.slice none 0 0):=(blk_cell BK446.out 0).trans rfl;have hcz52_1 : w45.cell? ⟨gb446,1,none⟩ = some (.slice none 0 0):=(blk_cell BK446.out 1).trans rfl;have hfz52_0:=blk_frozen BK446.out 0;have hfz52_1:=blk_frozen BK446.out 1))
        refine bodyPost_ret (results_ct rfl _ _ gb446 30 #[.slice Ao50 x459000_1.length co50,.slice Ao49 x459001_1.length co49] (0,0) _ rfl (by (with_reducible repeat (first|refine blk_drewN ?_ _|refine blk_drew ?_|refine blk_alloc ?_ _));refine blk_put (cs:=#[.slice Ao50 x459000_1.length co50,.slice none 0 0]) ?_ 1 _ rfl;(with_reducible repeat (first|refine blk_drewN ?_ _|refine blk_drew ?_|refine blk_alloc ?_ _));refine blk_put (cs:=#[.slice none 0 0,.slice none 0 0]) ?_ 0 _ rfl;(with_reducible repeat (first|refine blk_drewN ?_ _|refine blk_drew ?_|refine blk_alloc ?_ _));exact BK446.out) Try.underlying30 rfl Q14) rfl ?_
        exact ⟨_,_,_,Q6,by (with_reducible repeat (first|apply Kd.R_alloc|apply Kd.R_drewN|apply Kd.R_drew));exact Kd.R_mono (Kd.R_far (p:=⟨gb446,1,none⟩) (Kd.R_far (p:=⟨gb446,0,none⟩) (Kd.R_types HO_459000.out BK446.out Q36) (fun _ hk => hk.2) (.slice Ao50 x459000_1.length co50)) (fun _ hk => hk.2) (.slice Ao49 x459001_1.length co49)) (fun _ hk => hk.1),by (with_reducible repeat (first|apply Kd.N_alloc|apply Kd.N_drewN|apply Kd.N_drew));exact Kd.N_mono (Kd.N_far (p:=⟨gb446,1,none⟩) (Kd.N_far (p:=⟨gb446,0,none⟩) (Kd.N_mono HO_459001.out (fun k_ hk => (⟨hk,hk.2.2.2.1⟩ : _ ∧ k_ ≠ gb446))) (fun _ hk => hk.2) (.slice Ao50 x459000_1.length co50)) (fun _ hk => hk.2) (.slice Ao49 x459001_1.length co49)) (fun _ hk => ⟨hk.1.1,⟨hk.1.2.2.1,hk.1.2.1⟩⟩),by (with_reducible repeat (first|apply Kd.N_alloc|apply Kd.N_drewN|apply Kd.N_drew));exact Kd.N_mono (Kd.N_far (p:=⟨gb446,1,none⟩) (Kd.N_far (p:=⟨gb446,0,none⟩) (Kd.N_mono HO_4.out (fun k_ hk => (⟨hk,hk.2.2.2.1⟩ : _ ∧ k_ ≠ gb446))) (fun _ hk => hk.2) (.slice Ao50 x459000_1.length co50)) (fun _ hk => hk.2) (.slice Ao49 x459001_1.length co49)) (fun _ hk => ⟨hk.1.1,⟨hk.1.2.1,hk.1.2.2.1⟩⟩),Q8,Q9,Q7⟩
      ·rw [if_neg c28] at H
       have c28b0 : (t470 == 0) = false:=beq_eq_false_iff_ne.mpr c28
       have c28b1 : (t470 != 0) = true:=bne_iff_ne.mpr c28
       by_cases c53 : t470 = 1
       ·rw [if_pos c53] at H
        have c53b0 : (t470 == 1) = true:=beq_iff_eq.mpr c53
        have c53b1 : (t470 != 1) = false:=bne_eq_false_iff_eq.mpr c53
        clear c53
        replace H:=Option.bind_eq_some_iff.mp H
        obtain ⟨⟨t476,t479⟩,A540,H⟩:=H
        replace H : (some (t476,x459001_1,x4_1,t479)) = some (r1,r2,r3,r4):=H
        have A54:=aM A540
        clear A540
        simp only [Option.some.injEq,Prod.mk.injEq] at H
        obtain ⟨rfl,rfl,rfl,rfl⟩:=H
        go_wp2_with (first|((with_reducible refine gate_callee (f:=40) rfl ?_);refine goesL_ (some 31) rfl rfl Try.func40 Q14 rfl #[.pointer (some ⟨g,0,none⟩),.int .i64 10] rfl Q1 ?_;(with_reducible refine (spec_l6Rd_pick.calls kj13 g s0_0 x1001_1 10 t470 t471 w0 _ ?side1 ?side2 A27.out).mono ?_);(case side1 => exact Q8);(case side2 => exact Q9);rintro e w55 ⟨rfl,hi,hb,hk⟩;refine ⟨_,rfl,?_⟩;have n0_:=aM (Kd.N_mono (Kd.N_keep (Kd.N_mono (ok:=fun k_ => (((w.heap.size ≤ k_)) ∧ (some k_ ≠ (u459000 : Value).ownBlock ∧ (some k_ ≠ (u459001 : Value).ownBlock ∧ (k_ ≠ gb446 ∧ (k_ ≠ gb458 ∧ k_ ≠ g)))))) (qN HO_4) (fun k_ hk_ => (⟨hk_,hk_.2.2.2.2.2⟩ : _ ∧ k_ ≠ g))) hk (fun _ h => h.2)) (fun _ h => h.1));have n1_:=aM (Kd.R_mono (Kd.R_keep (IsS76.apart (show IsS76 w0 _ g s0_0 x1001_1 from Q8) (qR HO_459000) Q36) hk (fun _ h => h.2)) (fun _ h => h.1));have n2_:=aM (Kd.N_mono (Kd.N_keep (Kd.N_mono (ok:=fun k_ => (((w.heap.size ≤ k_)) ∧ (some k_ ≠ (u4 : Value).ownBlock ∧ (some k_ ≠ (u459000 : Value).ownBlock ∧ (k_ ≠ gb446 ∧ (k_ ≠ gb458 ∧ k_ ≠ g)))))) (qN HO_459001) (fun k_ hk_ => (⟨hk_,hk_.2.2.2.2.2⟩ : _ ∧ k_ ≠ g))) hk (fun _ h => h.2)) (fun _ h => h.1));have n3_:=aM (KeepBut.blk hk (g':=gb446) (o:=.cells #[.slice none 0 0,.slice none 0 0] 30 (0,0)) (qk BK446) NB446_0.out Q51);have n4_:=aM (KeepBut.blk hk (g':=gb458) (o:=.cells #[u459000,u459001] 30 (0,0)) (qk BK458) NB458_0.out Q51);have n5_:=aM (KeepBut.trans Q7 hk (.inl rfl));have n6_:=aM (hb);have n7_:=aM (hi);clear HO_4;clear HO_459000;clear HO_459001;clear BK446;clear BK458;clear HK;clear HB;clear HI0;have HO_4:=n0_;have HO_459000:=n1_;have HO_459001:=n2_;have BK446:=n3_;have BK458:=n4_;have HK:=n5_;have HB:=n6_;have HI0:=n7_;clear n0_ n1_ n2_ n3_ n4_ n5_ n6_ n7_;(try clear hb);(try clear hb2);(try clear hk);(try clear hi))|((with_reducible refine gate_callee (f:=41) rfl ?_);refine goesL_ (some 45) rfl rfl Try.func41 Q14 rfl #[.pointer (some ⟨g,0,none⟩)] rfl Q1 ?_;(with_reducible refine (spec_l71Off.calls kj13 g s0_0 t471 t476 t479 w0 _ ?side1 ?side2 A54.out).mono ?_);(case side1 => exact Q8);(case side2 => exact Q9);rintro e w56 ⟨v477,rfl,ho0,hi,hb,hk⟩;refine ⟨_,rfl,?_⟩;have n0_:=aM (Kd.N_mono (Kd.N_told (Kd.N_oldK (Kd.N_mono (ok:=fun k_ => (((w.heap.size ≤ k_)) ∧ (some k_ ≠ (u459000 : Value).ownBlock ∧ (some k_ ≠ (u459001 : Value).ownBlock ∧ (k_ ≠ gb446 ∧ (k_ ≠ gb458 ∧ k_ ≠ g)))))) (qN HO_4) (fun k_ hk_ => (⟨hk_,hk_.2.2.2.2.2⟩ : _ ∧ k_ ≠ g))) hk) (Kd.R_base ho0)) (fun _ h_ => h_.1));have n1_:=aM (Kd.R_mono (Kd.R_told (Kd.R_oldK (IsS76.apart (show IsS76 w0 _ g s0_0 t471 from Q8) (qR HO_459000) Q36) hk) (Kd.R_base ho0)) (fun _ h_ => h_.1));have n2_:=aM (Kd.N_mono (Kd.N_told (Kd.N_oldK (Kd.N_mono (ok:=fun k_ => (((w.heap.size ≤ k_)) ∧ (some k_ ≠ (u4 : Value).ownBlock ∧ (some k_ ≠ (u459000 : Value).ownBlock ∧ (k_ ≠ gb446 ∧ (k_ ≠ gb458 ∧ k_ ≠ g)))))) (qN HO_459001) (fun k_ hk_ => (⟨hk_,hk_.2.2.2.2.2⟩ : _ ∧ k_ ≠ g))) hk) (Kd.R_base ho0)) (fun _ h_ => h_.1));have n3_:=aM (KeepBut.blk hk (g':=gb446) (o:=.cells #[.slice none 0 0,.slice none 0 0] 30 (0,0)) (qk BK446) NB446_0.out Q51);have n4_:=aM (KeepBut.blk hk (g':=gb458) (o:=.cells #[u459000,u459001] 30 (0,0)) (qk BK458) NB458_0.out Q51);have n5_:=aM (Kd.R_lower (Kd.R_new' (Kd.R_newM (M:=fun k_ => (w.heap.size ≤ k_)) ho0 (keep_size (w:=w) (g:=g) (row:=none) Q7) (fun k_ h_ => h_)) (Kd.R_lt (qR HO_459000))) (keep_size (w:=w) (g:=g) (row:=none) Q7));have n6_:=aM (KeepBut.trans Q7 hk (.inl rfl));have n7_:=aM (hb);have n8_:=aM (hi);clear HO_4;clear HO_459000;clear HO_459001;clear BK446;clear BK458;clear HK;clear HB;clear HI0;have HO_4:=n0_;have HO_459000:=n1_;have HO_459001:=n2_;have BK446:=n3_;have BK458:=n4_;have HO478:=n5_;have HK:=n6_;have HB:=n7_;have HI0:=n8_;clear n0_ n1_ n2_ n3_ n4_ n5_ n6_ n7_ n8_;(try clear hb);(try clear hb2);(try clear hk);(try clear hi);(try clear ho0);obtain ⟨Ao57,co57,eo57⟩:=Kd.R_slice HO478.out;subst eo57;have hnb58:=NB458_446.out;have hnc58:=NB446_458.out;have hnb59:=NB458_0.out;have hnc59:=NB0_458.out;have hcz60_0 : w56.cell? ⟨gb458,0,none⟩ = some (u459000):=(blk_cell BK458.out 0).trans rfl;have hcz60_1 : w56.cell? ⟨gb458,1,none⟩ = some (u459001):=(blk_cell BK458.out 1).trans rfl;have hfz60_0:=blk_frozen BK458.out 0;have hfz60_1:=blk_frozen BK458.out 1;have hnb61:=NB446_0.out;have hnc61:=NB0_446.out;have hcz62_0 : w56.cell? ⟨gb446,0,none⟩ = some (.slice none 0 0):=(blk_cell BK446.out 0).trans rfl;have hcz62_1 : w56.cell? ⟨gb446,1,none⟩ = some (.slice none 0 0):=(blk_cell BK446.out 1).trans rfl;have hfz62_0:=blk_frozen BK446.out 0;have hfz62_1:=blk_frozen BK446.out 1;obtain ⟨Ao63,co63,eo63⟩:=Kd.N_slice HO_459001.out;subst eo63))
        refine bodyPost_ret (results_ct rfl _ _ gb446 30 #[.slice Ao57 t476.length co57,.slice Ao63 x459001_1.length co63] (0,0) _ rfl (by (with_reducible repeat (first|refine blk_drewN ?_ _|refine blk_drew ?_|refine blk_alloc ?_ _));refine blk_put (cs:=#[.slice Ao57 t476.length co57,.slice none 0 0]) ?_ 1 _ rfl;(with_reducible repeat (first|refine blk_drewN ?_ _|refine blk_drew ?_|refine blk_alloc ?_ _));refine blk_put (cs:=#[.slice none 0 0,.slice none 0 0]) ?_ 0 _ rfl;(with_reducible repeat (first|refine blk_drewN ?_ _|refine blk_drew ?_|refine blk_alloc ?_ _));refine blk_far ?_ NB446_458.out _;(with_reducible repeat (first|refine blk_drewN ?_ _|refine blk_drew ?_|refine blk_alloc ?_ _));exact BK446.out) Try.underlying30 rfl Q14) rfl ?_
        exact ⟨_,_,_,Q6,by (with_reducible repeat (first|apply Kd.R_alloc|apply Kd.R_drewN|apply Kd.R_drew));exact Kd.R_mono (Kd.R_far (p:=⟨gb446,1,none⟩) (Kd.R_far (p:=⟨gb446,0,none⟩) (Kd.R_far (p:=⟨gb458,0,none⟩) (Kd.R_types (Kd.R_types HO478.out BK458.out Q36) BK446.out Q36) (fun _ hk => hk.1.2) (.slice Ao57 t476.length co57)) (fun _ hk => hk.2) (.slice Ao57 t476.length co57)) (fun _ hk => hk.2) (.slice Ao63 x459001_1.length co63)) (fun _ hk => hk.1.1.1.1),by (with_reducible repeat (first|apply Kd.N_alloc|apply Kd.N_drewN|apply Kd.N_drew));exact Kd.N_mono (Kd.N_far (p:=⟨gb446,1,none⟩) (Kd.N_far (p:=⟨gb446,0,none⟩) (Kd.N_far (p:=⟨gb458,0,none⟩) (Kd.N_mono (Kd.N_mono HO_459001.out (fun k_ hk => (⟨hk,hk.1.2.2.2.2.1⟩ : _ ∧ k_ ≠ gb458))) (fun k_ hk => (⟨hk,hk.1.1.2.2.2.1⟩ : _ ∧ k_ ≠ gb446))) (fun _ hk => hk.1.2) (.slice Ao57 t476.length co57)) (fun _ hk => hk.2) (.slice Ao57 t476.length co57)) (fun _ hk => hk.2) (.slice Ao63 x459001_1.length co63)) (fun _ hk => ⟨hk.1.1.1.1,⟨hk.1.1.2,hk.1.1.1.2.1⟩⟩),by (with_reducible repeat (first|apply Kd.N_alloc|apply Kd.N_drewN|apply Kd.N_drew));exact Kd.N_mono (Kd.N_far (p:=⟨gb446,1,none⟩) (Kd.N_far (p:=⟨gb446,0,none⟩) (Kd.N_far (p:=⟨gb458,0,none⟩) (Kd.N_mono (Kd.N_mono HO_4.out (fun k_ hk => (⟨hk,hk.1.2.2.2.2.1⟩ : _ ∧ k_ ≠ gb458))) (fun k_ hk => (⟨hk,hk.1.1.2.2.2.1⟩ : _ ∧ k_ ≠ gb446))) (fun _ hk => hk.1.2) (.slice Ao57 t476.length co57)) (fun _ hk => hk.2) (.slice Ao57 t476.length co57)) (fun _ hk => hk.2) (.slice Ao63 x459001_1.length co63)) (fun _ hk => ⟨hk.1.1.1.1,⟨hk.1.1.2,hk.1.1.1.2.2.1⟩⟩),Q8,Q9,Q7⟩
       ·rw [if_neg c53] at H
        have c53b0 : (t470 == 1) = false:=beq_eq_false_iff_ne.mpr c53
        have c53b1 : (t470 != 1) = true:=bne_iff_ne.mpr c53
        by_cases c64 : t470 = 2
        ·rw [if_pos c64] at H
         have c64b0 : (t470 == 2) = true:=beq_iff_eq.mpr c64
         have c64b1 : (t470 != 2) = false:=bne_eq_false_iff_eq.mpr c64
         clear c64
         obtain ⟨y480,hy480⟩ : ∃ y_ : List Int,y_ = (([1,2,3] : List Int)):=⟨_,rfl⟩
         replace H : (if x459001_1.length < 5864062014805 then (some (x459000_1,(x459001_1 ++ [y480]),x4_1,t471)) else (none)) = some (r1,r2,r3,r4):=by first|(rw [hy480];with_reducible exact H)|(have H2_:=(Option.bind_some _ _).symm.trans H;rw [hy480];with_reducible exact H2_)|(have H2_:=(Option.bind_some _ _).symm.trans H;with_reducible exact H2_)|with_reducible exact H|(rw [hy480];exact H)|exact H
         have Ny480:=aM hy480
         clear hy480
         by_cases c65 : x459001_1.length < 5864062014805
         case neg => rw [if_neg c65] at H;exact absurd H Q51
         rw [if_pos c65] at H
         have LMc65:=aM c65
         clear c65
         obtain ⟨y483,hy483⟩ : ∃ y_ : List (List Int),y_ = (x459001_1 ++ [y480]):=⟨_,rfl⟩
         replace H : (some (x459000_1,y483,x4_1,t471)) = some (r1,r2,r3,r4):=by first|(rw [hy483];with_reducible exact H)|(have H2_:=(Option.bind_some _ _).symm.trans H;rw [hy483];with_reducible exact H2_)|(have H2_:=(Option.bind_some _ _).symm.trans H;with_reducible exact H2_)|with_reducible exact H|(rw [hy483];exact H)|exact H
         have Ny483:=aM hy483
         clear hy483
         simp only [Option.some.injEq,Prod.mk.injEq] at H
         obtain ⟨rfl,rfl,rfl,rfl⟩:=H
         go_wp2_with (first|((with_reducible refine gate_callee (f:=40) rfl ?_);refine goesL_ (some 31) rfl rfl Try.func40 Q14 rfl #[.pointer (some ⟨g,0,none⟩),.int .i64 10] rfl Q1 ?_;(with_reducible refine (spec_l6Rd_pick.calls kj13 g s0_0 x1001_1 10 t470 t471 w0 _ ?side1 ?side2 A27.out).mono ?_);(case side1 => exact Q8);(case side2 => exact Q9);rintro e w66 ⟨rfl,hi,hb,hk⟩;refine ⟨_,rfl,?_⟩;have n0_:=aM (Kd.N_mono (Kd.N_keep (Kd.N_mono (ok:=fun k_ => (((w.heap.size ≤ k_)) ∧ (some k_ ≠ (u459000 : Value).ownBlock ∧ (some k_ ≠ (u459001 : Value).ownBlock ∧ (k_ ≠ gb446 ∧ (k_ ≠ gb458 ∧ k_ ≠ g)))))) (qN HO_4) (fun k_ hk_ => (⟨hk_,hk_.2.2.2.2.2⟩ : _ ∧ k_ ≠ g))) hk (fun _ h => h.2)) (fun _ h => h.1));have n1_:=aM (Kd.R_mono (Kd.R_keep (IsS76.apart (show IsS76 w0 _ g s0_0 x1001_1 from Q8) (qR HO_459000) Q36) hk (fun _ h => h.2)) (fun _ h => h.1));have n2_:=aM (Kd.N_mono (Kd.N_keep (Kd.N_mono (ok:=fun k_ => (((w.heap.size ≤ k_)) ∧ (some k_ ≠ (u4 : Value).ownBlock ∧ (some k_ ≠ (u459000 : Value).ownBlock ∧ (k_ ≠ gb446 ∧ (k_ ≠ gb458 ∧ k_ ≠ g)))))) (qN HO_459001) (fun k_ hk_ => (⟨hk_,hk_.2.2.2.2.2⟩ : _ ∧ k_ ≠ g))) hk (fun _ h => h.2)) (fun _ h => h.1));have n3_:=aM (KeepBut.blk hk (g':=gb446) (o:=.cells #[.slice none 0 0,.slice none 0 0] 30 (0,0)) (qk BK446) NB446_0.out Q51);have n4_:=aM (KeepBut.blk hk (g':=gb458) (o:=.cells #[u459000,u459001] 30 (0,0)) (qk BK458) NB458_0.out Q51);have n5_:=aM (KeepBut.trans Q7 hk (.inl rfl));have n6_:=aM (hb);have n7_:=aM (hi);clear HO_4;clear HO_459000;clear HO_459001;clear BK446;clear BK458;clear HK;clear HB;clear HI0;have HO_4:=n0_;have HO_459000:=n1_;have HO_459001:=n2_;have BK446:=n3_;have BK458:=n4_;have HK:=n5_;have HB:=n6_;have HI0:=n7_;clear n0_ n1_ n2_ n3_ n4_ n5_ n6_ n7_;(try clear hb);(try clear hb2);(try clear hk);(try clear hi);have hnb67:=NB458_446.out;have hnc67:=NB446_458.out;have hnb68:=NB458_0.out;have hnc68:=NB0_458.out;have hcz69_0 : w66.cell? ⟨gb458,0,none⟩ = some (u459000):=(blk_cell BK458.out 0).trans rfl;have hcz69_1 : w66.cell? ⟨gb458,1,none⟩ = some (u459001):=(blk_cell BK458.out 1).trans rfl;have hfz69_0:=blk_frozen BK458.out 0;have hfz69_1:=blk_frozen BK458.out 1)|((with_reducible refine gate_dst (N:=51) rfl ?_);refine Kd.R_lit (Kd.int .i64) _ 3 ?hg (N:=51) ?hd (xs:=([1,2,3] : List Int)) (inner:=[.int .i64 1,.int .i64 2,.int .i64 3]) (ok:=fun _ => True) (okp:=fun _ => True) ?hr ?hp (fun _ hk => hk) trivial (Below.refl _ _) (Nat.le_refl _) Q51 ?_;(case hd => rfl);(case hg => rfl);(case hr => exact Q16);(case hp => exact (Reps.one (show Kd.M (Kd.int .i64) _ _ _ 1 [.int .i64 1] from rfl) (Reps.one (show Kd.M (Kd.int .i64) _ _ _ 2 [.int .i64 2] from rfl) (Reps.one (show Kd.M (Kd.int .i64) _ _ _ 3 [.int .i64 3] from rfl) (Reps.none _ _)))));intro v481 w70 ho71 hb hg_ hnew_;clear hg_ hnew_;(first|rw [← Ny480.out] at ho71|(simp only [Int.reduceToNat] at ho71;rw [← Ny480.out] at ho71));have n0_:=aM (Kd.N_elder' (qN HO_4) (Kd.R_base ho71) hb);have n1_:=aM (Kd.R_below (qR HO_459000) hb);have n2_:=aM (Kd.N_elder' (qN HO_459001) (Kd.R_base ho71) hb);have n3_:=aM (Kd.R_lower (Kd.R_newM (M:=fun k_ => (w.heap.size ≤ k_)) ho71 (keep_size (w:=w) (g:=g) (row:=none) Q7) (fun k_ h_ => h_)) (keep_size (w:=w) (g:=g) (row:=none) Q7));have n4_:=aM (blk_below (g:=gb446) (o:=.cells #[.slice none 0 0,.slice none 0 0] 30 (0,0)) (qk BK446) hb);have n5_:=aM (blk_below (g:=gb458) (o:=.cells #[u459000,u459001] 30 (0,0)) (qk BK458) hb);have n6_:=aM (IsS76.below Q8 hb);have n7_:=aM (KeepBut.trans Q7 (KeepBut.of_below hb g none) (.inl rfl));have n8_:=aM (below_step Q9 hb);clear HO_4;clear HO_459000;clear HO_459001;clear BK446;clear BK458;clear HI0;clear HK;clear HB;have HO_4:=n0_;have HO_459000:=n1_;have HO_459001:=n2_;have HO482:=n3_;have BK446:=n4_;have BK458:=n5_;have HI0:=n6_;have HK:=n7_;have HB:=n8_;clear n0_ n1_ n2_ n3_ n4_ n5_ n6_ n7_ n8_;clear hb ho71;obtain ⟨Ao73,co73,eo73⟩:=Kd.R_slice HO482.out;subst eo73)|((with_reducible refine gate_builtin (b:=.append) (xs:=#[.tmp 50,.tmp 52]) rfl ?_);at_builtin;refine Kd.N_append (Kd.slice 3 (Kd.int .i64)) w.heap.size rfl (.tmp 50) (.tmp 52) 23 36 (.slice none 0 0) 24 rfl Try.underlying23 info36 rfl Q36 Q17 u459001 x459001_1 y480 [.slice Ao73 y480.length co73] (fun k_ => (w.heap.size ≤ k_) ∧ some k_ ≠ (u4 : Value).ownBlock ∧ some k_ ≠ (u459000 : Value).ownBlock ∧ k_ ≠ gb446 ∧ k_ ≠ gb458 ∧ k_ ≠ g) (fun k_ => ((fun k_ => (w.heap.size ≤ k_) ∧ some k_ ≠ (u4 : Value).ownBlock ∧ some k_ ≠ (u459000 : Value).ownBlock ∧ k_ ≠ gb446 ∧ k_ ≠ gb458 ∧ k_ ≠ g)) k_ ∧ some k_ ≠ (u459001 : Value).ownBlock) rfl rfl ?aP (fun _ hk => hk) ?aF ?aO (Below.refl _ _) ?aS ?aL ?_;(case aP => exact (Kd.FK_slice_mk (Kd.R_reads' (Kd.R_mono (ok':=(fun k_ => ((fun k_ => (w.heap.size ≤ k_) ∧ some k_ ≠ (u4 : Value).ownBlock ∧ some k_ ≠ (u459000 : Value).ownBlock ∧ k_ ≠ gb446 ∧ k_ ≠ gb458 ∧ k_ ≠ g)) k_ ∧ some k_ ≠ (u459001 : Value).ownBlock)) (IsS76.apart HI0.out (Kd.R_types (Kd.R_types (Kd.R_apart' (Kd.R_apart' (Kd.R_apart' (HO482.out) (Kd.N_typed HO_4.out) Q36) (Kd.R_typed HO_459000.out) Q36) (Kd.N_typed HO_459001.out) Q36) BK446.out Q36) BK458.out Q36) Q36) (fun k_ hk => ⟨⟨hk.1.1.1.1.1.1.1,⟨hk.1.1.1.1.1.2,⟨hk.1.1.1.1.2,⟨hk.1.1.2,⟨hk.1.2,hk.2⟩⟩⟩⟩⟩,hk.1.1.1.2⟩))).2.1 (Kd.R_F (Kd.R_mono (ok':=(fun k_ => ((fun k_ => (w.heap.size ≤ k_) ∧ some k_ ≠ (u4 : Value).ownBlock ∧ some k_ ≠ (u459000 : Value).ownBlock ∧ k_ ≠ gb446 ∧ k_ ≠ gb458 ∧ k_ ≠ g)) k_ ∧ some k_ ≠ (u459001 : Value).ownBlock)) (IsS76.apart HI0.out (Kd.R_types (Kd.R_types (Kd.R_apart' (Kd.R_apart' (Kd.R_apart' (HO482.out) (Kd.N_typed HO_4.out) Q36) (Kd.R_typed HO_459000.out) Q36) (Kd.N_typed HO_459001.out) Q36) BK446.out Q36) BK458.out Q36) Q36) (fun k_ hk => ⟨⟨hk.1.1.1.1.1.1.1,⟨hk.1.1.1.1.1.2,⟨hk.1.1.1.1.2,⟨hk.1.1.2,⟨hk.1.2,hk.2⟩⟩⟩⟩⟩,hk.1.1.1.2⟩)))));(case aF => exact (fun k_ hk => ⟨(Nat.le_trans (keep_size (w:=w) (g:=g) (row:=none) Q7) hk),Kd.fresh' (Kd.N_lt (qN HO_4)) k_ hk,Kd.fresh' (Kd.R_lt (qR HO_459000)) k_ hk,Kd.freshB (g:=gb446) (o:=.cells #[.slice none 0 0,.slice none 0 0] 30 (0,0)) (qk BK446) k_ hk,Kd.freshB (g:=gb458) (o:=.cells #[u459000,u459001] 30 (0,0)) (qk BK458) k_ hk,IsS76.fresh Q8 k_ hk⟩));(case aO => exact (by (with_reducible repeat (first|apply Kd.N_alloc|apply Kd.N_drewN|apply Kd.N_drew));exact Kd.N_mono HO_459001.out (fun _ hk => ⟨hk.1.1,⟨hk.1.2.1,⟨hk.1.2.2.1,⟨hk.1.2.2.2.1,⟨hk.1.2.2.2.2.1,hk.1.2.2.2.2.2⟩⟩⟩⟩⟩)));(case aS => exact (keep_size (w:=w) (g:=g) (row:=none) Q7));(case aL => have:=LMc65.out;omega);intro v484 w72 ho hb hg hat;rw [← Ny483.out] at ho;have n0_:=aM (Kd.N_afterv (ok:=(fun k_ => (w.heap.size ≤ k_) ∧ some k_ ≠ (u459000 : Value).ownBlock ∧ some k_ ≠ (.slice Ao73 y480.length co73 : Value).ownBlock ∧ k_ ≠ gb446 ∧ k_ ≠ gb458 ∧ k_ ≠ g)) Q67 hg hat);have n1_:=aM (Kd.R_over' (qR HO_459000) (Kd.N_typed (qN HO_459001)) Q36 hg);have n2_:=aM (blk_grown (g:=gb446) (o:=.cells #[.slice none 0 0,.slice none 0 0] 30 (0,0)) (qk BK446) hg (Kd.N_ne HO_459001.out BK446.out Q36));have n3_:=aM (blk_grown (g:=gb458) (o:=.cells #[u459000,u459001] 30 (0,0)) (qk BK458) hg (Kd.N_ne HO_459001.out BK458.out Q36));have n4_:=aM (IsS76.grown Q8 hg (IsS76.own_neN HI0.out HO_459001.out Q36));have n5_:=aM (below_weaken Q9 HL.out hb);have n6_:=aM (KeepBut.trans Q7 (KeepBut.of_grown hg g) (Kd.N_base2 HO_459001.out));have n7_:=aM (ho);clear HO_4;clear HO_459000;clear BK446;clear BK458;clear HI0;clear HB;clear HK;clear HO_459001;clear HO482;have HO_4:=n0_;have HO_459000:=n1_;have BK446:=n2_;have BK458:=n3_;have HI0:=n4_;have HB:=n5_;have HK:=n6_;have HO485:=n7_;clear n0_ n1_ n2_ n3_ n4_ n5_ n6_ n7_;clear ho hb hg hat;obtain ⟨Ao74,co74,eo74⟩:=Kd.N_slice HO485.out;subst eo74;have hcz75_0 : w72.cell? ⟨gb458,0,none⟩ = some (u459000):=(blk_cell BK458.out 0).trans rfl;have hcz75_1 : w72.cell? ⟨gb458,1,none⟩ = some (u459001):=(blk_cell BK458.out 1).trans rfl;have hfz75_0:=blk_frozen BK458.out 0;have hfz75_1:=blk_frozen BK458.out 1;obtain ⟨Ao76,co76,eo76⟩:=Kd.R_slice HO_459000.out;subst eo76;have hnb77:=NB446_0.out;have hnc77:=NB0_446.out;have hcz78_0 : w72.cell? ⟨gb446,0,none⟩ = some (.slice none 0 0):=(blk_cell BK446.out 0).trans rfl;have hcz78_1 : w72.cell? ⟨gb446,1,none⟩ = some (.slice none 0 0):=(blk_cell BK446.out 1).trans rfl;have hfz78_0:=blk_frozen BK446.out 0;have hfz78_1:=blk_frozen BK446.out 1))
         refine bodyPost_ret (results_ct rfl _ _ gb446 30 #[.slice Ao76 x459000_1.length co76,.slice Ao74 y483.length co74] (0,0) _ rfl (by (with_reducible repeat (first|refine blk_drewN ?_ _|refine blk_drew ?_|refine blk_alloc ?_ _));refine blk_put (cs:=#[.slice Ao76 x459000_1.length co76,.slice none 0 0]) ?_ 1 _ rfl;(with_reducible repeat (first|refine blk_drewN ?_ _|refine blk_drew ?_|refine blk_alloc ?_ _));refine blk_put (cs:=#[.slice none 0 0,.slice none 0 0]) ?_ 0 _ rfl;(with_reducible repeat (first|refine blk_drewN ?_ _|refine blk_drew ?_|refine blk_alloc ?_ _));refine blk_far ?_ NB446_458.out _;(with_reducible repeat (first|refine blk_drewN ?_ _|refine blk_drew ?_|refine blk_alloc ?_ _));exact BK446.out) Try.underlying30 rfl Q14) rfl ?_
         exact ⟨_,_,_,Q6,by (with_reducible repeat (first|apply Kd.R_alloc|apply Kd.R_drewN|apply Kd.R_drew));exact Kd.R_mono (Kd.R_far (p:=⟨gb446,1,none⟩) (Kd.R_far (p:=⟨gb446,0,none⟩) (Kd.R_far (p:=⟨gb458,1,none⟩) (Kd.R_types (Kd.R_types HO_459000.out BK458.out Q36) BK446.out Q36) (fun _ hk => hk.1.2) (.slice Ao74 y483.length co74)) (fun _ hk => hk.2) (.slice Ao76 x459000_1.length co76)) (fun _ hk => hk.2) (.slice Ao74 y483.length co74)) (fun _ hk => hk.1.1),by (with_reducible repeat (first|apply Kd.N_alloc|apply Kd.N_drewN|apply Kd.N_drew));exact Kd.N_mono (Kd.N_far (p:=⟨gb446,1,none⟩) (Kd.N_far (p:=⟨gb446,0,none⟩) (Kd.N_far (p:=⟨gb458,1,none⟩) (Kd.N_mono (Kd.N_mono HO485.out (fun k_ hk => (⟨hk,hk.2.2.2.2.1⟩ : _ ∧ k_ ≠ gb458))) (fun k_ hk => (⟨hk,hk.1.2.2.2.1⟩ : _ ∧ k_ ≠ gb446))) (fun _ hk => hk.1.2) (.slice Ao74 y483.length co74)) (fun _ hk => hk.2) (.slice Ao76 x459000_1.length co76)) (fun _ hk => hk.2) (.slice Ao74 y483.length co74)) (fun _ hk => ⟨hk.1.1.1,⟨hk.1.1.2.2.1,hk.1.1.2.1⟩⟩),by (with_reducible repeat (first|apply Kd.N_alloc|apply Kd.N_drewN|apply Kd.N_drew));exact Kd.N_mono (Kd.N_far (p:=⟨gb446,1,none⟩) (Kd.N_far (p:=⟨gb446,0,none⟩) (Kd.N_far (p:=⟨gb458,1,none⟩) (Kd.N_mono (Kd.N_mono HO_4.out (fun k_ hk => (⟨hk,hk.1.2.2.2.2.1⟩ : _ ∧ k_ ≠ gb458))) (fun k_ hk => (⟨hk,hk.1.1.2.2.2.1⟩ : _ ∧ k_ ≠ gb446))) (fun _ hk => hk.1.2) (.slice Ao74 y483.length co74)) (fun _ hk => hk.2) (.slice Ao76 x459000_1.length co76)) (fun _ hk => hk.2) (.slice Ao74 y483.length co74)) (fun _ hk => ⟨hk.1.1.1.1,⟨hk.1.1.1.2.1,hk.1.1.2⟩⟩),Q8,Q9,Q7⟩
        ·rw [if_neg c64] at H
         have c64b0 : (t470 == 2) = false:=beq_eq_false_iff_ne.mpr c64
         have c64b1 : (t470 != 2) = true:=bne_iff_ne.mpr c64
         by_cases c79 : t470 = 3
         ·rw [if_pos c79] at H
          have c79b0 : (t470 == 3) = true:=beq_iff_eq.mpr c79
          have c79b1 : (t470 != 3) = false:=bne_eq_false_iff_eq.mpr c79
          clear c79
          by_cases c80 : (x459001_1.length : Int) > 1
          ·rw [if_pos c80] at H
           have c80b0 : decide (1 < (x459001_1.length : Int)) = true:=decide_eq_true c80
           have c80b1 : decide (1 < x459001_1.length) = true:=decide_eq_true Q17
           clear c80
           obtain ⟨y486,hy486⟩ : ∃ y_ : List Int,y_ = (([1,3,3,4] : List Int)):=⟨_,rfl⟩
           replace H : (if 1 < (x459001_1.length : Int) then (some (x459000_1,(x459001_1.set (1 : Int).toNat y486),x4_1,t471)) else (none)) = some (r1,r2,r3,r4):=by first|(rw [hy486];with_reducible exact H)|(have H2_:=(Option.bind_some _ _).symm.trans H;rw [hy486];with_reducible exact H2_)|(have H2_:=(Option.bind_some _ _).symm.trans H;with_reducible exact H2_)|with_reducible exact H|(rw [hy486];exact H)|exact H
           have Ny486:=aM hy486
           clear hy486
           by_cases c81 : 1 < (x459001_1.length : Int)
           case neg => rw [if_neg c81] at H;exact absurd H Q51
           rw [if_pos c81] at H
           have c81b0 : decide (1 < (x459001_1.length : Int)) = true:=decide_eq_true c81
           have c81b1 : decide (1 < x459001_1.length) = true:=decide_eq_true Q17
           clear c81
           obtain ⟨y489,hy489⟩ : ∃ y_ : List (List Int),y_ = (x459001_1.set (1 : Int).toNat y486):=⟨_,rfl⟩
           replace H : (some (x459000_1,y489,x4_1,t471)) = some (r1,r2,r3,r4):=by first|(rw [hy489];with_reducible exact H)|(have H2_:=(Option.bind_some _ _).symm.trans H;rw [hy489];with_reducible exact H2_)|(have H2_:=(Option.bind_some _ _).symm.trans H;with_reducible exact H2_)|with_reducible exact H|(rw [hy489];exact H)|exact H
           have Ny489:=aM hy489
           clear hy489
           simp only [Option.some.injEq,Prod.mk.injEq] at H
           obtain ⟨rfl,rfl,rfl,rfl⟩:=H
           go_wp2_with (first|((with_reducible refine gate_callee (f:=40) rfl ?_);refine goesL_ (some 31) rfl rfl Try.func40 Q14 rfl #[.pointer (some ⟨g,0,none⟩),.int .i64 10] rfl Q1 ?_;(with_reducible refine (spec_l6Rd_pick.calls kj13 g s0_0 x1001_1 10 t470 t471 w0 _ ?side1 ?side2 A27.out).mono ?_);(case side1 => exact Q8);(case side2 => exact Q9);rintro e w83 ⟨rfl,hi,hb,hk⟩;refine ⟨_,rfl,?_⟩;have n0_:=aM (Kd.N_mono (Kd.N_keep (Kd.N_mono (ok:=fun k_ => (((w.heap.size ≤ k_)) ∧ (some k_ ≠ (u459000 : Value).ownBlock ∧ (some k_ ≠ (u459001 : Value).ownBlock ∧ (k_ ≠ gb446 ∧ (k_ ≠ gb458 ∧ k_ ≠ g)))))) (qN HO_4) (fun k_ hk_ => (⟨hk_,hk_.2.2.2.2.2⟩ : _ ∧ k_ ≠ g))) hk (fun _ h => h.2)) (fun _ h => h.1));have n1_:=aM (Kd.R_mono (Kd.R_keep (IsS76.apart (show IsS76 w0 _ g s0_0 x1001_1 from Q8) (qR HO_459000) Q36) hk (fun _ h => h.2)) (fun _ h => h.1));have n2_:=aM (Kd.N_mono (Kd.N_keep (Kd.N_mono (ok:=fun k_ => (((w.heap.size ≤ k_)) ∧ (some k_ ≠ (u4 : Value).ownBlock ∧ (some k_ ≠ (u459000 : Value).ownBlock ∧ (k_ ≠ gb446 ∧ (k_ ≠ gb458 ∧ k_ ≠ g)))))) (qN HO_459001) (fun k_ hk_ => (⟨hk_,hk_.2.2.2.2.2⟩ : _ ∧ k_ ≠ g))) hk (fun _ h => h.2)) (fun _ h => h.1));have n3_:=aM (KeepBut.blk hk (g':=gb446) (o:=.cells #[.slice none 0 0,.slice none 0 0] 30 (0,0)) (qk BK446) NB446_0.out Q51);have n4_:=aM (KeepBut.blk hk (g':=gb458) (o:=.cells #[u459000,u459001] 30 (0,0)) (qk BK458) NB458_0.out Q51);have n5_:=aM (KeepBut.trans Q7 hk (.inl rfl));have n6_:=aM (hb);have n7_:=aM (hi);clear HO_4;clear HO_459000;clear HO_459001;clear BK446;clear BK458;clear HK;clear HB;clear HI0;have HO_4:=n0_;have HO_459000:=n1_;have HO_459001:=n2_;have BK446:=n3_;have BK458:=n4_;have HK:=n5_;have HB:=n6_;have HI0:=n7_;clear n0_ n1_ n2_ n3_ n4_ n5_ n6_ n7_;(try clear hb);(try clear hb2);(try clear hk);(try clear hi);have hnb84:=NB458_446.out;have hnc84:=NB446_458.out;have hnb85:=NB458_0.out;have hnc85:=NB0_458.out;have hcz86_0 : w83.cell? ⟨gb458,0,none⟩ = some (u459000):=(blk_cell BK458.out 0).trans rfl;have hcz86_1 : w83.cell? ⟨gb458,1,none⟩ = some (u459001):=(blk_cell BK458.out 1).trans rfl;have hfz86_0:=blk_frozen BK458.out 0;have hfz86_1:=blk_frozen BK458.out 1;obtain ⟨Ao87,co87,eo87⟩:=Kd.N_slice HO_459001.out;subst eo87)|((with_reducible refine gate_dst (N:=63) rfl ?_);refine Kd.R_lit (Kd.int .i64) _ 3 ?hg (N:=63) ?hd (xs:=([1,3,3,4] : List Int)) (inner:=[.int .i64 1,.int .i64 3,.int .i64 3,.int .i64 4]) (ok:=fun _ => True) (okp:=fun _ => True) ?hr ?hp (fun _ hk => hk) trivial (Below.refl _ _) (Nat.le_refl _) Q51 ?_;(case hd => rfl);(case hg => rfl);(case hr => exact Q16);(case hp => exact (Reps.one (show Kd.M (Kd.int .i64) _ _ _ 1 [.int .i64 1] from rfl) (Reps.one (show Kd.M (Kd.int .i64) _ _ _ 3 [.int .i64 3] from rfl) (Reps.one (show Kd.M (Kd.int .i64) _ _ _ 3 [.int .i64 3] from rfl) (Reps.one (show Kd.M (Kd.int .i64) _ _ _ 4 [.int .i64 4] from rfl) (Reps.none _ _))))));intro v487 w88 ho89 hb hg_ hnew_;clear hg_ hnew_;(first|rw [← Ny486.out] at ho89|(simp only [Int.reduceToNat] at ho89;rw [← Ny486.out] at ho89));obtain ⟨Av487,cv487,ev487_⟩:=Kd.R_slice ho89;subst ev487_;have n0_:=aM (Kd.N_elder' (qN HO_4) (Kd.R_base ho89) hb);have n1_:=aM (Kd.R_below (qR HO_459000) hb);have n2_:=aM (Kd.N_elder' (qN HO_459001) (Kd.R_base ho89) hb);have n3_:=aM (Kd.R_lower (Kd.R_newM (M:=fun k_ => (w.heap.size ≤ k_)) ho89 (keep_size (w:=w) (g:=g) (row:=none) Q7) (fun k_ h_ => h_)) (keep_size (w:=w) (g:=g) (row:=none) Q7));have n4_:=aM (blk_below (g:=gb446) (o:=.cells #[.slice none 0 0,.slice none 0 0] 30 (0,0)) (qk BK446) hb);have n5_:=aM (blk_below (g:=gb458) (o:=.cells #[u459000,.slice Ao87 x459001_1.length co87] 30 (0,0)) (qk BK458) hb);have n6_:=aM (IsS76.below Q8 hb);have n7_:=aM (KeepBut.trans Q7 (KeepBut.of_below hb g none) (.inl rfl));have n8_:=aM (below_step Q9 hb);clear HO_4;clear HO_459000;clear HO_459001;clear BK446;clear BK458;clear HI0;clear HK;clear HB;have HO_4:=n0_;have HO_459000:=n1_;have HO_459001:=n2_;have HO488:=n3_;have BK446:=n4_;have BK458:=n5_;have HI0:=n6_;have HK:=n7_;have HB:=n8_;clear n0_ n1_ n2_ n3_ n4_ n5_ n6_ n7_ n8_;clear hb ho89;have p82 : 0 ≤ (1 : Int):=Q17;have q82 : (1 : Int) < ((x459001_1.length : Int) : Int):=of_decide_eq_true Q5;have qi82 : (1 < x459001_1.length) = True:=eq_true Q17;obtain ⟨go82,co82,eo82,gb82,gl82,cl82,HG82⟩:=Kd.N_form HO_459001.out Q17;(first|cases eo82|(injection eo82 with ea_ en_ ec_;(first|subst ea_|(injection ea_ with ea_;subst ea_));subst ec_;clear en_));have GB82:=aM gb82;have GG82:=aM HG82;clear gb82 gl82 HG82;obtain ⟨ce82,hcl82,hM82,hcc82,hfr82⟩:=Kd.N_elem HO_459001.out [] (1 : Int) p82 q82;obtain ⟨ua82_0,uc82_0,rfl,ul82_0,ge82_0⟩:=Kd.FK_slice_open hM82;have hx82_0:=hcc82 0 _ rfl;have hf82_0:=hfr82 0;(try simp only [show ((Kd.slice 3 (Kd.int .i64))).sz = 1 from rfl,Nat.mul_one,Nat.add_zero] at hx82_0);(try simp only [show ((Kd.slice 3 (Kd.int .i64))).sz = 1 from rfl,Nat.mul_one,Nat.add_zero] at hf82_0);clear hcl82 hcc82 hfr82 hM82;(try rw [show ((1 : Int)).toNat = 1 from rfl] at hx82_0);(try simp only [Nat.reduceMul,Nat.zero_mul,Nat.zero_add,Nat.reduceAdd] at hx82_0);(try rw [show ((1 : Int)).toNat = 1 from rfl] at hf82_0);(try simp only [Nat.reduceMul,Nat.zero_mul,Nat.zero_add,Nat.reduceAdd] at hf82_0);replace p82:=eq_true p82;replace q82:=eq_true q82;have n_:=aM (Kd.N_mono (ok':=(fun k_ => (w.heap.size ≤ k_) ∧ some k_ ≠ (u4 : Value).ownBlock ∧ some k_ ≠ (u459000 : Value).ownBlock ∧ some k_ ≠ (.slice Av487 y486.length cv487 : Value).ownBlock ∧ k_ ≠ gb446 ∧ k_ ≠ gb458)) HO_459001.out (fun k_ hk => ⟨hk.1.1,⟨hk.1.2.1,⟨hk.1.2.2.1,⟨hk.2,⟨hk.1.2.2.2.1,hk.1.2.2.2.2.1⟩⟩⟩⟩⟩));clear HO_459001;have HO_459001:=n_;clear n_;have HX90:=aM (show Kd.N (Kd.slice 3 (Kd.int .i64)) 36 w88 w.heap.size (fun k_ => (w.heap.size ≤ k_) ∧ some k_ ≠ (u4 : Value).ownBlock ∧ some k_ ≠ (u459000 : Value).ownBlock ∧ k_ ≠ gb446 ∧ k_ ≠ gb458) (.slice (some ⟨go82,0,none⟩) x459001_1.length co87) x459001_1 from Q112);obtain ⟨ce90,hcl90,hM90,hcc90,hfr90⟩:=Kd.N_elem HX90.out [] (1 : Int) Q17 Q132;obtain ⟨ua90_0,uc90_0,rfl,ul90_0,ge90_0⟩:=Kd.FK_slice_open hM90;have HP90:=Kd.N_seg HX90.out (1 : Int) Q17 Q132 (seg:=[.slice Av487 y486.length cv487]) (j:=0) hcl90 hcc90 (show 1 ≤ 1 from Q36) (x':=y486) (Kd.FK_slice_mk (Kd.R_reads' (Kd.R_mono (ok':=(fun k_ => ((fun k_ => (w.heap.size ≤ k_) ∧ some k_ ≠ (u4 : Value).ownBlock ∧ some k_ ≠ (u459000 : Value).ownBlock ∧ k_ ≠ gb446 ∧ k_ ≠ gb458)) k_ ∧ k_ ≠ go82)) (Kd.R_types (Kd.R_types (Kd.R_apart' (Kd.R_apart' (Kd.R_apart' (HO488.out) (Kd.N_typed HO_4.out) Q36) (Kd.R_typed HO_459000.out) Q36) (Kd.N_typed HO_459001.out) Q36) BK446.out Q36) BK458.out Q36) (fun k_ hk => ⟨⟨hk.1.1.1.1.1.1,⟨hk.1.1.1.1.2,⟨hk.1.1.1.2,⟨hk.1.2,hk.2⟩⟩⟩⟩,fun e_ => (hk.1.1.2) Q118⟩))).2.1 (Kd.R_F (Kd.R_mono (ok':=(fun k_ => ((fun k_ => (w.heap.size ≤ k_) ∧ some k_ ≠ (u4 : Value).ownBlock ∧ some k_ ≠ (u459000 : Value).ownBlock ∧ k_ ≠ gb446 ∧ k_ ≠ gb458)) k_ ∧ k_ ≠ go82)) (Kd.R_types (Kd.R_types (Kd.R_apart' (Kd.R_apart' (Kd.R_apart' (HO488.out) (Kd.N_typed HO_4.out) Q36) (Kd.R_typed HO_459000.out) Q36) (Kd.N_typed HO_459001.out) Q36) BK446.out Q36) BK458.out Q36) (fun k_ hk => ⟨⟨hk.1.1.1.1.1.1,⟨hk.1.1.1.1.2,⟨hk.1.1.1.2,⟨hk.1.2,hk.2⟩⟩⟩⟩,fun e_ => (hk.1.1.2) Q118⟩)))) (fun _ hk => hk);have hx90_0:=hcc90 0 _ rfl;(try simp only [show ((Kd.slice 3 (Kd.int .i64))).sz = 1 from rfl,Nat.mul_one,Nat.add_zero] at hx90_0);(try rw [show ((1 : Int)).toNat = 1 from rfl] at hx90_0);(try simp only [Nat.reduceMul,Nat.zero_mul,Nat.zero_add,Nat.reduceAdd] at hx90_0);have hf90_0:=hfr90 0;(try simp only [show ((Kd.slice 3 (Kd.int .i64))).sz = 1 from rfl,Nat.mul_one,Nat.add_zero] at hf90_0);(try rw [show ((1 : Int)).toNat = 1 from rfl] at hf90_0);(try simp only [Nat.reduceMul,Nat.zero_mul,Nat.zero_add,Nat.reduceAdd] at hf90_0);clear hcl90 hcc90 hfr90 hM90;(try simp only [show ((Kd.slice 3 (Kd.int .i64))).sz = 1 from rfl,Nat.mul_one,Nat.add_zero] at HP90);(try simp only [show ((Kd.slice 3 (Kd.int .i64))).sz = 1 from rfl,Nat.mul_one,Nat.add_zero] at HP90))|((with_reducible refine gate_store (t:=36) (p:=64) rfl ?_);refine store_event (t:=36) (p:=64) (v:=?vo_w91) (w1:=(w88.setCell ⟨go82,1,none⟩ (.slice Av487 y486.length cv487))) ?hg ?ho ?hn ?hr ?_;(case ho => rfl);(case hg => rfl);(case hn => rfl);(case hr => exact Q16);intro w91 hw;have hg : w88.grownBy w91 (some go82):=(by rw [hw];exact HP90.2);have hp_ : Kd.N (Kd.slice 3 (Kd.int .i64)) 36 w91 w.heap.size (fun k_ => (w.heap.size ≤ k_) ∧ some k_ ≠ (u4 : Value).ownBlock ∧ some k_ ≠ (u459000 : Value).ownBlock ∧ k_ ≠ gb446 ∧ k_ ≠ gb458) (.slice (some ⟨go82,0,none⟩) x459001_1.length co87) y489:=(by rw [hw,Ny489.out];exact HP90.1);clear HP90;have n0_:=aM (Kd.N_afterv (v:=(.slice (some ⟨go82,0,none⟩) x459001_1.length co87)) (v1:=(.slice (some ⟨go82,0,none⟩) x459001_1.length co87)) (ok:=(fun k_ => (w.heap.size ≤ k_) ∧ some k_ ≠ (u459000 : Value).ownBlock ∧ some k_ ≠ (.slice Av487 y486.length cv487 : Value).ownBlock ∧ k_ ≠ gb446 ∧ k_ ≠ gb458 ∧ k_ ≠ g)) Q67 hg (.inl rfl));have n1_:=aM (Kd.R_over' (v:=(.slice (some ⟨go82,0,none⟩) x459001_1.length co87)) (qR HO_459000) (Kd.N_typed HO_459001.out) Q36 hg);have n2_:=aM (hp_);have n3_:=aM (blk_grown (g:=gb446) (o:=.cells #[.slice none 0 0,.slice none 0 0] 30 (0,0)) (qk BK446) hg (Kd.N_ne HO_459001.out BK446.out Q36));have n4_:=aM (blk_grown (g:=gb458) (o:=.cells #[u459000,.slice (some ⟨go82,0,none⟩) x459001_1.length co87] 30 (0,0)) (qk BK458) hg (Kd.N_ne HO_459001.out BK458.out Q36));have n5_:=aM (IsS76.grown Q8 hg (IsS76.own_neN HI0.out HO_459001.out Q36));have n6_:=aM ((by rw [hw];exact below_set (HB.out) (Nat.le_trans HL.out GB82.out) : Below w0.heap.size w0 w91));have n7_:=aM (KeepBut.trans Q7 (KeepBut.of_grown hg g) (Kd.N_base2 HO_459001.out));clear HO_4;clear HO_459000;clear HO_459001;clear BK446;clear BK458;clear HI0;clear HB;clear HK;clear HO488;have HO_4:=n0_;have HO_459000:=n1_;have HO_459001:=n2_;have BK446:=n3_;have BK458:=n4_;have HI0:=n5_;have HB:=n6_;have HK:=n7_;clear n0_ n1_ n2_ n3_ n4_ n5_ n6_ n7_;clear hg hw hp_;have hcz92_0 : w91.cell? ⟨gb458,0,none⟩ = some (u459000):=(blk_cell BK458.out 0).trans rfl;have hcz92_1 : w91.cell? ⟨gb458,1,none⟩ = some (.slice (some ⟨go82,0,none⟩) x459001_1.length co87):=(blk_cell BK458.out 1).trans rfl;have hfz92_0:=blk_frozen BK458.out 0;have hfz92_1:=blk_frozen BK458.out 1;obtain ⟨Ao93,co93,eo93⟩:=Kd.R_slice HO_459000.out;subst eo93;have hnb94:=NB446_0.out;have hnc94:=NB0_446.out;have hcz95_0 : w91.cell? ⟨gb446,0,none⟩ = some (.slice none 0 0):=(blk_cell BK446.out 0).trans rfl;have hcz95_1 : w91.cell? ⟨gb446,1,none⟩ = some (.slice none 0 0):=(blk_cell BK446.out 1).trans rfl;have hfz95_0:=blk_frozen BK446.out 0;have hfz95_1:=blk_frozen BK446.out 1))
           refine bodyPost_ret (results_ct rfl _ _ gb446 30 #[.slice Ao93 x459000_1.length co93,.slice (some ⟨go82,0,none⟩) x459001_1.length co87] (0,0) _ rfl (by (with_reducible repeat (first|refine blk_drewN ?_ _|refine blk_drew ?_|refine blk_alloc ?_ _));refine blk_put (cs:=#[.slice Ao93 x459000_1.length co93,.slice none 0 0]) ?_ 1 _ rfl;(with_reducible repeat (first|refine blk_drewN ?_ _|refine blk_drew ?_|refine blk_alloc ?_ _));refine blk_put (cs:=#[.slice none 0 0,.slice none 0 0]) ?_ 0 _ rfl;(with_reducible repeat (first|refine blk_drewN ?_ _|refine blk_drew ?_|refine blk_alloc ?_ _));exact BK446.out) Try.underlying30 rfl Q14) rfl ?_
           exact ⟨_,_,_,Q6,by (with_reducible repeat (first|apply Kd.R_alloc|apply Kd.R_drewN|apply Kd.R_drew));exact Kd.R_mono (Kd.R_far (p:=⟨gb446,1,none⟩) (Kd.R_far (p:=⟨gb446,0,none⟩) (Kd.R_types HO_459000.out BK446.out Q36) (fun _ hk => hk.2) (.slice Ao93 x459000_1.length co93)) (fun _ hk => hk.2) (.slice (some ⟨go82,0,none⟩) x459001_1.length co87)) (fun _ hk => hk.1),by (with_reducible repeat (first|apply Kd.N_alloc|apply Kd.N_drewN|apply Kd.N_drew));exact Kd.N_mono (Kd.N_far (p:=⟨gb446,1,none⟩) (Kd.N_far (p:=⟨gb446,0,none⟩) (Kd.N_mono HO_459001.out (fun k_ hk => (⟨hk,hk.2.2.2.1⟩ : _ ∧ k_ ≠ gb446))) (fun _ hk => hk.2) (.slice Ao93 x459000_1.length co93)) (fun _ hk => hk.2) (.slice (some ⟨go82,0,none⟩) x459001_1.length co87)) (fun _ hk => ⟨hk.1.1,⟨hk.1.2.2.1,hk.1.2.1⟩⟩),by (with_reducible repeat (first|apply Kd.N_alloc|apply Kd.N_drewN|apply Kd.N_drew));exact Kd.N_mono (Kd.N_far (p:=⟨gb446,1,none⟩) (Kd.N_far (p:=⟨gb446,0,none⟩) (Kd.N_mono HO_4.out (fun k_ hk => (⟨hk,hk.1.2.2.2.1⟩ : _ ∧ k_ ≠ gb446))) (fun _ hk => hk.2) (.slice Ao93 x459000_1.length co93)) (fun _ hk => hk.2) (.slice (some ⟨go82,0,none⟩) x459001_1.length co87)) (fun _ hk => ⟨hk.1.1.1,⟨hk.1.1.2.1,hk.1.2⟩⟩),Q8,Q9,Q7⟩
          ·rw [if_neg c80] at H
           have c80b0 : decide (1 < (x459001_1.length : Int)) = false:=decide_eq_false c80
           have c80b1 : decide (1 < x459001_1.length) = false:=decide_eq_false Q17
           clear c80
           simp only [Option.some.injEq,Prod.mk.injEq] at H
           obtain ⟨rfl,rfl,rfl,rfl⟩:=H
           go_wp2_with (first|((with_reducible refine gate_callee (f:=40) rfl ?_);refine goesL_ (some 31) rfl rfl Try.func40 Q14 rfl #[.pointer (some ⟨g,0,none⟩),.int .i64 10] rfl Q1 ?_;(with_reducible refine (spec_l6Rd_pick.calls kj13 g s0_0 x1001_1 10 t470 t471 w0 _ ?side1 ?side2 A27.out).mono ?_);(case side1 => exact Q8);(case side2 => exact Q9);rintro e w96 ⟨rfl,hi,hb,hk⟩;refine ⟨_,rfl,?_⟩;have n0_:=aM (Kd.N_mono (Kd.N_keep (Kd.N_mono (ok:=fun k_ => (((w.heap.size ≤ k_)) ∧ (some k_ ≠ (u459000 : Value).ownBlock ∧ (some k_ ≠ (u459001 : Value).ownBlock ∧ (k_ ≠ gb446 ∧ (k_ ≠ gb458 ∧ k_ ≠ g)))))) (qN HO_4) (fun k_ hk_ => (⟨hk_,hk_.2.2.2.2.2⟩ : _ ∧ k_ ≠ g))) hk (fun _ h => h.2)) (fun _ h => h.1));have n1_:=aM (Kd.R_mono (Kd.R_keep (IsS76.apart (show IsS76 w0 _ g s0_0 x1001_1 from Q8) (qR HO_459000) Q36) hk (fun _ h => h.2)) (fun _ h => h.1));have n2_:=aM (Kd.N_mono (Kd.N_keep (Kd.N_mono (ok:=fun k_ => (((w.heap.size ≤ k_)) ∧ (some k_ ≠ (u4 : Value).ownBlock ∧ (some k_ ≠ (u459000 : Value).ownBlock ∧ (k_ ≠ gb446 ∧ (k_ ≠ gb458 ∧ k_ ≠ g)))))) (qN HO_459001) (fun k_ hk_ => (⟨hk_,hk_.2.2.2.2.2⟩ : _ ∧ k_ ≠ g))) hk (fun _ h => h.2)) (fun _ h => h.1));have n3_:=aM (KeepBut.blk hk (g':=gb446) (o:=.cells #[.slice none 0 0,.slice none 0 0] 30 (0,0)) (qk BK446) NB446_0.out Q51);have n4_:=aM (KeepBut.blk hk (g':=gb458) (o:=.cells #[u459000,u459001] 30 (0,0)) (qk BK458) NB458_0.out Q51);have n5_:=aM (KeepBut.trans Q7 hk (.inl rfl));have n6_:=aM (hb);have n7_:=aM (hi);clear HO_4;clear HO_459000;clear HO_459001;clear BK446;clear BK458;clear HK;clear HB;clear HI0;have HO_4:=n0_;have HO_459000:=n1_;have HO_459001:=n2_;have BK446:=n3_;have BK458:=n4_;have HK:=n5_;have HB:=n6_;have HI0:=n7_;clear n0_ n1_ n2_ n3_ n4_ n5_ n6_ n7_;(try clear hb);(try clear hb2);(try clear hk);(try clear hi);have hnb97:=NB458_446.out;have hnc97:=NB446_458.out;have hnb98:=NB458_0.out;have hnc98:=NB0_458.out;have hcz99_0 : w96.cell? ⟨gb458,0,none⟩ = some (u459000):=(blk_cell BK458.out 0).trans rfl;have hcz99_1 : w96.cell? ⟨gb458,1,none⟩ = some (u459001):=(blk_cell BK458.out 1).trans rfl;have hfz99_0:=blk_frozen BK458.out 0;have hfz99_1:=blk_frozen BK458.out 1;obtain ⟨Ao100,co100,eo100⟩:=Kd.N_slice HO_459001.out;subst eo100;obtain ⟨Ao101,co101,eo101⟩:=Kd.R_slice HO_459000.out;subst eo101;have hnb102:=NB446_0.out;have hnc102:=NB0_446.out;have hcz103_0 : w96.cell? ⟨gb446,0,none⟩ = some (.slice none 0 0):=(blk_cell BK446.out 0).trans rfl;have hcz103_1 : w96.cell? ⟨gb446,1,none⟩ = some (.slice none 0 0):=(blk_cell BK446.out 1).trans rfl;have hfz103_0:=blk_frozen BK446.out 0;have hfz103_1:=blk_frozen BK446.out 1))
           refine bodyPost_ret (results_ct rfl _ _ gb446 30 #[.slice Ao101 x459000_1.length co101,.slice Ao100 x459001_1.length co100] (0,0) _ rfl (by (with_reducible repeat (first|refine blk_drewN ?_ _|refine blk_drew ?_|refine blk_alloc ?_ _));refine blk_put (cs:=#[.slice Ao101 x459000_1.length co101,.slice none 0 0]) ?_ 1 _ rfl;(with_reducible repeat (first|refine blk_drewN ?_ _|refine blk_drew ?_|refine blk_alloc ?_ _));refine blk_put (cs:=#[.slice none 0 0,.slice none 0 0]) ?_ 0 _ rfl;(with_reducible repeat (first|refine blk_drewN ?_ _|refine blk_drew ?_|refine blk_alloc ?_ _));exact BK446.out) Try.underlying30 rfl Q14) rfl ?_
           exact ⟨_,_,_,Q6,by (with_reducible repeat (first|apply Kd.R_alloc|apply Kd.R_drewN|apply Kd.R_drew));exact Kd.R_mono (Kd.R_far (p:=⟨gb446,1,none⟩) (Kd.R_far (p:=⟨gb446,0,none⟩) (Kd.R_types HO_459000.out BK446.out Q36) (fun _ hk => hk.2) (.slice Ao101 x459000_1.length co101)) (fun _ hk => hk.2) (.slice Ao100 x459001_1.length co100)) (fun _ hk => hk.1),by (with_reducible repeat (first|apply Kd.N_alloc|apply Kd.N_drewN|apply Kd.N_drew));exact Kd.N_mono (Kd.N_far (p:=⟨gb446,1,none⟩) (Kd.N_far (p:=⟨gb446,0,none⟩) (Kd.N_mono HO_459001.out (fun k_ hk => (⟨hk,hk.2.2.2.1⟩ : _ ∧ k_ ≠ gb446))) (fun _ hk => hk.2) (.slice Ao101 x459000_1.length co101)) (fun _ hk => hk.2) (.slice Ao100 x459001_1.length co100)) (fun _ hk => ⟨hk.1.1,⟨hk.1.2.2.1,hk.1.2.1⟩⟩),by (with_reducible repeat (first|apply Kd.N_alloc|apply Kd.N_drewN|apply Kd.N_drew));exact Kd.N_mono (Kd.N_far (p:=⟨gb446,1,none⟩) (Kd.N_far (p:=⟨gb446,0,none⟩) (Kd.N_mono HO_4.out (fun k_ hk => (⟨hk,hk.2.2.2.1⟩ : _ ∧ k_ ≠ gb446))) (fun _ hk => hk.2) (.slice Ao101 x459000_1.length co101)) (fun _ hk => hk.2) (.slice Ao100 x459001_1.length co100)) (fun _ hk => ⟨hk.1.1,⟨hk.1.2.1,hk.1.2.2.1⟩⟩),Q8,Q9,Q7⟩
         ·rw [if_neg c79] at H
          have c79b0 : (t470 == 3) = false:=beq_eq_false_iff_ne.mpr c79
          have c79b1 : (t470 != 3) = true:=bne_iff_ne.mpr c79
          simp only [Option.some.injEq,Prod.mk.injEq] at H
          obtain ⟨rfl,rfl,rfl,rfl⟩:=H
          go_wp2_with (first|((with_reducible refine gate_callee (f:=40) rfl ?_);refine goesL_ (some 31) rfl rfl Try.func40 Q14 rfl #[.pointer (some ⟨g,0,none⟩),.int .i64 10] rfl Q1 ?_;(with_reducible refine (spec_l6Rd_pick.calls kj13 g s0_0 x1001_1 10 t470 t471 w0 _ ?side1 ?side2 A27.out).mono ?_);(case side1 => exact Q8);(case side2 => exact Q9);rintro e w104 ⟨rfl,hi,hb,hk⟩;refine ⟨_,rfl,?_⟩;have n0_:=aM (Kd.N_mono (Kd.N_keep (Kd.N_mono (ok:=fun k_ => (((w.heap.size ≤ k_)) ∧ (some k_ ≠ (u459000 : Value).ownBlock ∧ (some k_ ≠ (u459001 : Value).ownBlock ∧ (k_ ≠ gb446 ∧ (k_ ≠ gb458 ∧ k_ ≠ g)))))) (qN HO_4) (fun k_ hk_ => (⟨hk_,hk_.2.2.2.2.2⟩ : _ ∧ k_ ≠ g))) hk (fun _ h => h.2)) (fun _ h => h.1));have n1_:=aM (Kd.R_mono (Kd.R_keep (IsS76.apart (show IsS76 w0 _ g s0_0 x1001_1 from Q8) (qR HO_459000) Q36) hk (fun _ h => h.2)) (fun _ h => h.1));have n2_:=aM (Kd.N_mono (Kd.N_keep (Kd.N_mono (ok:=fun k_ => (((w.heap.size ≤ k_)) ∧ (some k_ ≠ (u4 : Value).ownBlock ∧ (some k_ ≠ (u459000 : Value).ownBlock ∧ (k_ ≠ gb446 ∧ (k_ ≠ gb458 ∧ k_ ≠ g)))))) (qN HO_459001) (fun k_ hk_ => (⟨hk_,hk_.2.2.2.2.2⟩ : _ ∧ k_ ≠ g))) hk (fun _ h => h.2)) (fun _ h => h.1));have n3_:=aM (KeepBut.blk hk (g':=gb446) (o:=.cells #[.slice none 0 0,.slice none 0 0] 30 (0,0)) (qk BK446) NB446_0.out Q51);have n4_:=aM (KeepBut.blk hk (g':=gb458) (o:=.cells #[u459000,u459001] 30 (0,0)) (qk BK458) NB458_0.out Q51);have n5_:=aM (KeepBut.trans Q7 hk (.inl rfl));have n6_:=aM (hb);have n7_:=aM (hi);clear HO_4;clear HO_459000;clear HO_459001;clear BK446;clear BK458;clear HK;clear HB;clear HI0;have HO_4:=n0_;have HO_459000:=n1_;have HO_459001:=n2_;have BK446:=n3_;have BK458:=n4_;have HK:=n5_;have HB:=n6_;have HI0:=n7_;clear n0_ n1_ n2_ n3_ n4_ n5_ n6_ n7_;(try clear hb);(try clear hb2);(try clear hk);(try clear hi);have hnb105:=NB458_446.out;have hnc105:=NB446_458.out;have hnb106:=NB458_0.out;have hnc106:=NB0_458.out;have hcz107_0 : w104.cell? ⟨gb458,0,none⟩ = some (u459000):=(blk_cell BK458.out 0).trans rfl;have hcz107_1 : w104.cell? ⟨gb458,1,none⟩ = some (u459001):=(blk_cell BK458.out 1).trans rfl;have hfz107_0:=blk_frozen BK458.out 0;have hfz107_1:=blk_frozen BK458.out 1;obtain ⟨Ao108,co108,eo108⟩:=Kd.R_slice HO_459000.out;subst eo108;have hnb109:=NB446_0.out;have hnc109:=NB0_446.out;have hcz110_0 : w104.cell? ⟨gb446,0,none⟩ = some (.slice none 0 0):=(blk_cell BK446.out 0).trans rfl;have hcz110_1 : w104.cell? ⟨gb446,1,none⟩ = some (.slice none 0 0):=(blk_cell BK446.out 1).trans rfl;have hfz110_0:=blk_frozen BK446.out 0;have hfz110_1:=blk_frozen BK446.out 1;obtain ⟨Ao111,co111,eo111⟩:=Kd.N_slice HO_459001.out;subst eo111))
          refine bodyPost_ret (results_ct rfl _ _ gb446 30 #[.slice Ao108 x459000_1.length co108,.slice Ao111 x459001_1.length co111] (0,0) _ rfl (by (with_reducible repeat (first|refine blk_drewN ?_ _|refine blk_drew ?_|refine blk_alloc ?_ _));refine blk_put (cs:=#[.slice Ao108 x459000_1.length co108,.slice none 0 0]) ?_ 1 _ rfl;(with_reducible repeat (first|refine blk_drewN ?_ _|refine blk_drew ?_|refine blk_alloc ?_ _));refine blk_put (cs:=#[.slice none 0 0,.slice none 0 0]) ?_ 0 _ rfl;(with_reducible repeat (first|refine blk_drewN ?_ _|refine blk_drew ?_|refine blk_alloc ?_ _));exact BK446.out) Try.underlying30 rfl Q14) rfl ?_
          exact ⟨_,_,_,Q6,by (with_reducible repeat (first|apply Kd.R_alloc|apply Kd.R_drewN|apply Kd.R_drew));exact Kd.R_mono (Kd.R_far (p:=⟨gb446,1,none⟩) (Kd.R_far (p:=⟨gb446,0,none⟩) (Kd.R_types HO_459000.out BK446.out Q36) (fun _ hk => hk.2) (.slice Ao108 x459000_1.length co108)) (fun _ hk => hk.2) (.slice Ao111 x459001_1.length co111)) (fun _ hk => hk.1),by (with_reducible repeat (first|apply Kd.N_alloc|apply Kd.N_drewN|apply Kd.N_drew));exact Kd.N_mono (Kd.N_far (p:=⟨gb446,1,none⟩) (Kd.N_far (p:=⟨gb446,0,none⟩) (Kd.N_mono HO_459001.out (fun k_ hk => (⟨hk,hk.2.2.2.1⟩ : _ ∧ k_ ≠ gb446))) (fun _ hk => hk.2) (.slice Ao108 x459000_1.length co108)) (fun _ hk => hk.2) (.slice Ao111 x459001_1.length co111)) (fun _ hk => ⟨hk.1.1,⟨hk.1.2.2.1,hk.1.2.1⟩⟩),by (with_reducible repeat (first|apply Kd.N_alloc|apply Kd.N_drewN|apply Kd.N_drew));exact Kd.N_mono (Kd.N_far (p:=⟨gb446,1,none⟩) (Kd.N_far (p:=⟨gb446,0,none⟩) (Kd.N_mono HO_4.out (fun k_ hk => (⟨hk,hk.2.2.2.1⟩ : _ ∧ k_ ≠ gb446))) (fun _ hk => hk.2) (.slice Ao108 x459000_1.length co108)) (fun _ hk => hk.2) (.slice Ao111 x459001_1.length co111)) (fun _ hk => ⟨hk.1.1,⟨hk.1.2.1,hk.1.2.2.1⟩⟩),Q8,Q9,Q7⟩

/-! ### spec_l6Open: function 26 -/
def spec_l6Open.f (l0 : List Int) : Option (List Int × Int):=if (l0.length : Int) > 2000 then (if 2000 ≤ (l0.length : Int) then (some (l0.take 2000,0)) else (none)) else (some (l0,0))
set_option maxHeartbeats 8000000 in
set_option maxRecDepth 100000 in
theorem spec_l6Open.calls (A0 : Option Addr) (c0 : Nat) (l0 : List Int) (r1 : List Int) (r2 : Int) (w0 w : World) (hB : Below w0.heap.size w0 w) (hr0 : Kd.C (Kd.int .u8) w0 A0 l0.length l0) (hc0 : l0.length ≤ c0) (h : spec_l6Open.f l0 = some (r1,r2)) :
  Calls Try.prog 26 #[.slice A0 l0.length c0] w fun e w' => ∃ g_ : Nat,e = .returned (.pointer (some ⟨g_,0,none⟩)) ∧ IsS76 w0 w' g_ r1 r2 ∧ Below w0.heap.size w0 w' ∧ Below w.heap.size w w':=by
 have hu76:=Try.underlying76
 have HR0:=aM hr0
 have HC0:=aM hc0
 clear hr0 hc0
 have HBW:=aM (Below.refl w.heap.size w)
 have HW0:=aM hB.size
 have HB:=aM hB
 clear hB
 have H : (if (l0.length : Int) > 2000 then (if 2000 ≤ (l0.length : Int) then (some (l0.take 2000,0)) else (none)) else (some (l0,0))) = some (r1,r2):=h
 clear h
 by_cases c2 : (l0.length : Int) > 2000
 ·rw [if_pos c2] at H
  have c2b0 : decide (2000 < (l0.length : Int)) = true:=decide_eq_true c2
  have c2b1 : decide (2000 < l0.length) = true:=decide_eq_true Q17
  clear c2
  by_cases c3 : 2000 ≤ (l0.length : Int)
  case neg => rw [if_neg c3] at H;exact absurd H Q51
  rw [if_pos c3] at H
  have c3b0:=eq_true c3
  have c3b1 : decide (2000 ≤ (l0.length : Int)) = true:=decide_eq_true c3
  clear c3
  simp only [Option.some.injEq,Prod.mk.injEq] at H
  obtain ⟨rfl,rfl⟩:=H
  obtain ⟨i04,hi04,_,hsz4,_⟩:=info_parts info5
  obtain ⟨hcut4,hA4,hC4⟩:=print_take_of (P:=Try.prog) (Value.int .u8) 0 34 5 .i64 Try.underlying34 hi04 hsz4 A0 c0 l0 2000 Q17 (of_decide_eq_true Q5) HC0.out
  have HR490:=aM (Kd.C_of_reads (h1:=fun _ => rfl) (hA4 _ (Kd.reads_of_C HR0.out)))
  have HC490:=aM hC4
  clear hA4 hC4 hi04 hsz4
  go_enter Try.func26,Try.ntmps26
  go_wp2_with (first|((with_reducible refine gate_dst (N:=10) rfl ?_);refine box_event ?hg (N:=10) ?hd (cs:=#[.slice A0 (l0.take 2000).length c0,.int .i64 0]) (t:=76) ?hr ?_;(case hd => rfl);(case hg => rfl);(case hr => exact Q16);intro gb491 hg w5 hbox hb;have n0_:=aM (below_step HBW.out hb);have n1_:=aM (below_step Q3 hb);have n2_:=aM (hbox);have n3_:=aM ((Q75 : w.heap.size ≤ gb491));have n4_:=aM ((Nat.le_trans HW0.out (Q75 : w.heap.size ≤ gb491) : w0.heap.size ≤ gb491));clear HBW;clear HB;have HBW:=n0_;have HB:=n1_;have BK491:=n2_;have GW491:=n3_;have GE491:=n4_;clear n0_ n1_ n2_ n3_ n4_;clear hb hbox hg))
  go_ret
  exact ⟨_,rfl,(show IsS76 w0 _ gb491 (l0.take 2000) 0 from ⟨_,_,qk BK491,GE491.out,HR490.out⟩),by repeat (first|(with_reducible first|exact HB.out|apply bA|apply bN|apply bD|refine below_set ?_ GE491.out)|exact HB.out),by repeat (first|(with_reducible first|exact HBW.out|apply bA|apply bN|apply bD|refine below_set ?_ GW491.out)|exact HBW.out)⟩
 ·rw [if_neg c2] at H
  have c2b0 : decide (2000 < (l0.length : Int)) = false:=decide_eq_false c2
  have c2b1 : decide (2000 < l0.length) = false:=decide_eq_false Q17
  clear c2
  simp only [Option.some.injEq,Prod.mk.injEq] at H
  obtain ⟨rfl,rfl⟩:=H
  go_enter Try.func26,Try.ntmps26
  go_wp2_with (first|((with_reducible refine gate_dst (N:=10) rfl ?_);refine box_event ?hg (N:=10) ?hd (cs:=#[.slice A0 l0.length c0,.int .i64 0]) (t:=76) ?hr ?_;(case hd => rfl);(case hg => rfl);(case hr => exact Q16);intro gb492 hg w6 hbox hb;have n0_:=aM (below_step HBW.out hb);have n1_:=aM (below_step Q3 hb);have n2_:=aM (hbox);have n3_:=aM ((Q75 : w.heap.size ≤ gb492));have n4_:=aM ((Nat.le_trans HW0.out (Q75 : w.heap.size ≤ gb492) : w0.heap.size ≤ gb492));clear HBW;clear HB;have HBW:=n0_;have HB:=n1_;have BK492:=n2_;have GW492:=n3_;have GE492:=n4_;clear n0_ n1_ n2_ n3_ n4_;clear hb hbox hg))
  go_ret
  exact ⟨_,rfl,(show IsS76 w0 _ gb492 l0 0 from ⟨_,_,qk BK492,GE492.out,HR0.out⟩),by repeat (first|(with_reducible first|exact HB.out|apply bA|apply bN|apply bD|refine below_set ?_ GE492.out)|exact HB.out),by repeat (first|(with_reducible first|exact HBW.out|apply bA|apply bN|apply bD|refine below_set ?_ GW492.out)|exact HBW.out)⟩

/-! ### spec_DrawCertOk: function 11 -/
def spec_DrawCertOk.f (k : Nat) (l0 : List Int) : Option ((List (S40)) × (List (List Int))):=(spec_l6Open.f l0).bind fun bt494 => ((spec_l72Cert.f k bt494.1 bt494.2).bind fun bt497 => (some (bt497.1,bt497.2.1)))
theorem spec_DrawCertOk.mono : ∀ a0 k,LeO (spec_DrawCertOk.f k a0) (spec_DrawCertOk.f (k + 1) a0):=by
 intro a0 k
 unfold spec_DrawCertOk.f
 repeat' first
   | exact LeO.refl _
   | exact spec_l72Cert.mono _ _ _
   | exact LeO.none _
   | refine LeO.ite ?_ ?_
   | refine LeO.bind ?_ (fun _ => ?_)
set_option maxHeartbeats 8000000 in
set_option maxRecDepth 100000 in
theorem spec_DrawCertOk.calls (k : Nat) (A0 : Option Addr) (c0 : Nat) (l0 : List Int) (r1 : List (S40)) (r2 : List (List Int)) (w : World) (hr0 : Kd.C (Kd.int .u8) w A0 l0.length l0) (hc0 : l0.length ≤ c0) (h : spec_DrawCertOk.f k l0 = some (r1,r2)) :
  Calls Try.prog 11 #[.slice A0 l0.length c0] w fun e w' => ∃ v0_ v1_ : Value,e = .returned (.agg #[v0_,v1_]) ∧ Kd.R k40 40 w' w.heap.size (fun k_ => (w.heap.size ≤ k_)) v0_ r1 ∧ Kd.N (Kd.slice 3 (Kd.int .i64)) 36 w' w.heap.size (fun k_ => (w.heap.size ≤ k_) ∧ some k_ ≠ (v0_ : Value).ownBlock) v1_ r2 ∧ Below w.heap.size w w':=by
 have hu30:=Try.underlying30
 have HR0:=aM hr0
 have HC0:=aM hc0
 clear hr0 hc0
 have HB:=aM (Below.refl w.heap.size w)
 have H : ((spec_l6Open.f l0).bind fun bt494 => ((spec_l72Cert.f k bt494.1 bt494.2).bind fun bt497 => (some (bt497.1,bt497.2.1)))) = some (r1,r2):=h
 clear h
 replace H:=Option.bind_eq_some_iff.mp H
 obtain ⟨⟨t494,t495⟩,A20,H⟩:=H
 replace H : ((spec_l72Cert.f k t494 t495).bind fun bt497 => (some (bt497.1,bt497.2.1))) = some (r1,r2):=H
 have A2:=aM A20
 clear A20
 replace H:=Option.bind_eq_some_iff.mp H
 obtain ⟨⟨t497,t500,t503,t506⟩,A30,H⟩:=H
 replace H : (some (t497,t500)) = some (r1,r2):=H
 have A3:=aM A30
 clear A30
 simp only [Option.some.injEq,Prod.mk.injEq] at H
 obtain ⟨rfl,rfl⟩:=H
 go_enter Try.func11,Try.ntmps11
 go_wp2_with (first|((with_reducible refine gate_dst (N:=2) rfl ?_);refine box_event ?hg (N:=2) ?hd (cs:=#[.slice none 0 0,.slice none 0 0]) (t:=30) ?hr ?_;(case hd => rfl);(case hg => rfl);(case hr => exact Q16);intro gb493 hg w4 hbox hb;have n0_:=aM (below_step Q3 hb);have n1_:=aM (hbox);have n2_:=aM ((Q37 : w.heap.size ≤ gb493));have n3_:=aM ((Q37 : w.heap.size ≤ gb493));clear HB;have HB:=n0_;have BK493:=n1_;have GW493:=n2_;have GE493:=n3_;clear n0_ n1_ n2_ n3_;clear hb hbox hg)|((with_reducible refine gate_callee (f:=26) rfl ?_);refine goesL_ (some 7) rfl rfl Try.func26 Q14 rfl #[.slice A0 l0.length c0] rfl Q1 ?_;(with_reducible refine (spec_l6Open.calls _ _ l0 t494 t495 w _ ?side1 ?side2 ?side3 A2.out).mono ?_);(case side1 => repeat (first|(with_reducible first|exact HB.out|apply bA|apply bN|apply bD|refine below_set ?_ GE493.out)|exact HB.out));(case side2 => exact HR0.out);(case side3 => exact HC0.out);rintro e w5 ⟨g496,rfl,hi,hb,hb2⟩;refine ⟨_,rfl,?_⟩;have n0_:=aM (blk_below (g:=gb493) (o:=.cells #[.slice none 0 0,.slice none 0 0] 30 (0,0)) (qk BK493) hb2);have n1_:=aM (hb);have n2_:=aM (hi);have n3_:=aM (IsS76.ne_blk hi (blk_below (g:=gb493) (o:=.cells #[.slice none 0 0,.slice none 0 0] 30 (0,0)) (qk BK493) hb2) Q36);have n4_:=aM (Ne.symm (IsS76.ne_blk hi (blk_below (g:=gb493) (o:=.cells #[.slice none 0 0,.slice none 0 0] 30 (0,0)) (qk BK493) hb2) Q36));clear BK493;clear HB;have BK493:=n0_;have HB:=n1_;have HI496:=n2_;have NB496_493:=n3_;have NB493_496:=n4_;clear n0_ n1_ n2_ n3_ n4_;(try clear hb);(try clear hb2);(try clear hk);(try clear hi))|((with_reducible refine gate_callee (f:=25) rfl ?_);refine goesL_ (some 8) rfl rfl Try.func25 Q14 rfl #[.pointer (some ⟨g496,0,none⟩)] rfl Q1 ?_;(with_reducible refine (spec_l72Cert.calls k g496 t494 t495 t497 t500 t503 t506 w _ ?side1 ?side2 A3.out).mono ?_);(case side1 => exact Q42);(case side2 => exact Q35);rintro e w6 ⟨v498,v501,v504,rfl,ho0,ho1,ho2,hi,hb,hk⟩;refine ⟨_,rfl,?_⟩;have n0_:=aM (KeepBut.blk hk (g':=gb493) (o:=.cells #[.slice none 0 0,.slice none 0 0] 30 (0,0)) (qk BK493) NB493_496.out Q51);have n1_:=aM (Kd.R_lower (Kd.R_newM (M:=fun k_ => (w.heap.size ≤ k_)) (Kd.R_mono (ok':=fun k_ => True) ho0 (fun _ hk_ => trivial)) (below_size Q35) (fun k_ h_ => h_)) (below_size Q35));have n2_:=aM (Kd.N_lower (Kd.N_mono (ok':=fun k_ => (w.heap.size ≤ k_) ∧ some k_ ≠ (v498 : Value).ownBlock ∧ some k_ ≠ (v504 : Value).ownBlock ∧ k_ ≠ gb493 ∧ k_ ≠ g496) ho1 (fun k_ hk_ => ⟨(Nat.le_trans (below_size Q35) hk_.1),hk_.2.1,hk_.2.2,(Kd.freshB (g:=gb493) (o:=.cells #[.slice none 0 0,.slice none 0 0] 30 (0,0)) (qk BK493) k_ hk_.1),(IsS76.fresh Q42 k_ hk_.1)⟩)) (below_size Q35));have n3_:=aM (Kd.N_lower (Kd.N_mono (ok':=fun k_ => (w.heap.size ≤ k_) ∧ some k_ ≠ (v498 : Value).ownBlock ∧ some k_ ≠ (v501 : Value).ownBlock ∧ k_ ≠ gb493 ∧ k_ ≠ g496) ho2 (fun k_ hk_ => ⟨(Nat.le_trans (below_size Q35) hk_.1),hk_.2.1,hk_.2.2,(Kd.freshB (g:=gb493) (o:=.cells #[.slice none 0 0,.slice none 0 0] 30 (0,0)) (qk BK493) k_ hk_.1),(IsS76.fresh Q42 k_ hk_.1)⟩)) (below_size Q35));have n4_:=aM (hb);have n5_:=aM (hi);clear BK493;clear HB;clear HI496;have BK493:=n0_;have HO499:=n1_;have HO502:=n2_;have HO505:=n3_;have HB:=n4_;have HI496:=n5_;clear n0_ n1_ n2_ n3_ n4_ n5_;(try clear hb);(try clear hb2);(try clear hk);(try clear hi);(try clear ho0);(try clear ho1);(try clear ho2))|((with_reducible refine gate_dst (N:=3) rfl ?_);refine box_event ?hg (N:=3) ?hd (cs:=#[.slice none 0 0,.slice none 0 0]) (t:=30) ?hr ?_;(case hd => rfl);(case hg => rfl);(case hr => exact Q16);intro gb507 hg w7 hbox hb;have n0_:=aM (Kd.R_below (qR HO499) hb);have n1_:=aM (Kd.N_below (Kd.N_elderB (qN HO502) gb507 (Nat.le_of_eq hg.symm)) hb);have n2_:=aM (Kd.N_below (Kd.N_elderB (qN HO505) gb507 (Nat.le_of_eq hg.symm)) hb);have n3_:=aM (blk_below (g:=gb493) (o:=.cells #[.slice none 0 0,.slice none 0 0] 30 (0,0)) (qk BK493) hb);have n4_:=aM (IsS76.below Q42 hb);have n5_:=aM (below_step Q35 hb);have n6_:=aM (hbox);have n7_:=aM ((by rw [hg];exact (below_size Q35) : w.heap.size ≤ gb507));have n8_:=aM ((by rw [hg];exact (below_size Q35) : w.heap.size ≤ gb507));have n9_:=aM ((by rw [hg];exact Nat.ne_of_lt (blk_lt (g:=gb493) (o:=.cells #[.slice none 0 0,.slice none 0 0] 30 (0,0)) (qk BK493)) : gb493 ≠ gb507));have n10_:=aM ((by rw [hg];exact Nat.ne_of_gt (blk_lt (g:=gb493) (o:=.cells #[.slice none 0 0,.slice none 0 0] 30 (0,0)) (qk BK493)) : gb507 ≠ gb493));have n11_:=aM ((by rw [hg];exact Nat.ne_of_lt (IsS76.lt (show IsS76 w _ g496 t494 t506 from Q42)) : g496 ≠ gb507));have n12_:=aM ((by rw [hg];exact Nat.ne_of_gt (IsS76.lt (show IsS76 w _ g496 t494 t506 from Q42)) : gb507 ≠ g496));clear HO499;clear HO502;clear HO505;clear BK493;clear HI496;clear HB;have HO499:=n0_;have HO502:=n1_;have HO505:=n2_;have BK493:=n3_;have HI496:=n4_;have HB:=n5_;have BK507:=n6_;have GW507:=n7_;have GE507:=n8_;have NB493_507:=n9_;have NB507_493:=n10_;have NB496_507:=n11_;have NB507_496:=n12_;clear n0_ n1_ n2_ n3_ n4_ n5_ n6_ n7_ n8_ n9_ n10_ n11_ n12_;clear hb hbox hg;obtain ⟨Ao8,co8,eo8⟩:=Kd.R_slice HO499.out;subst eo8;have hnb9:=NB507_493.out;have hnc9:=NB493_507.out;have hnb10:=NB507_496.out;have hnc10:=NB496_507.out;have hcz11_0 : w7.cell? ⟨gb507,0,none⟩ = some (.slice none 0 0):=(blk_cell BK507.out 0).trans rfl;have hcz11_1 : w7.cell? ⟨gb507,1,none⟩ = some (.slice none 0 0):=(blk_cell BK507.out 1).trans rfl;have hfz11_0:=blk_frozen BK507.out 0;have hfz11_1:=blk_frozen BK507.out 1;obtain ⟨Ao12,co12,eo12⟩:=Kd.N_slice HO502.out;subst eo12;have hnb13:=NB493_496.out;have hnc13:=NB496_493.out;have hcz14_0 : w7.cell? ⟨gb493,0,none⟩ = some (.slice none 0 0):=(blk_cell BK493.out 0).trans rfl;have hcz14_1 : w7.cell? ⟨gb493,1,none⟩ = some (.slice none 0 0):=(blk_cell BK493.out 1).trans rfl;have hfz14_0:=blk_frozen BK493.out 0;have hfz14_1:=blk_frozen BK493.out 1))
 refine bodyPost_ret (results_cell_row rfl _ _ gb493 30 #[.slice Ao8 t497.length co8,.slice Ao12 t500.length co12] (0,0) _ rfl (by (with_reducible repeat (first|refine blk_drewN ?_ _|refine blk_drew ?_|refine blk_alloc ?_ _));refine blk_put (cs:=#[.slice Ao8 t497.length co8,.slice none 0 0]) ?_ 1 _ rfl;(with_reducible repeat (first|refine blk_drewN ?_ _|refine blk_drew ?_|refine blk_alloc ?_ _));refine blk_put (cs:=#[.slice none 0 0,.slice none 0 0]) ?_ 0 _ rfl;(with_reducible repeat (first|refine blk_drewN ?_ _|refine blk_drew ?_|refine blk_alloc ?_ _));refine blk_far ?_ NB493_507.out _;(with_reducible repeat (first|refine blk_drewN ?_ _|refine blk_drew ?_|refine blk_alloc ?_ _));refine blk_far ?_ NB493_507.out _;(with_reducible repeat (first|refine blk_drewN ?_ _|refine blk_drew ?_|refine blk_alloc ?_ _));exact BK493.out) Try.underlying30 rfl Q14) rfl ?_
 exact ⟨_,_,Q6,by (with_reducible repeat (first|apply Kd.R_alloc|apply Kd.R_drewN|apply Kd.R_drew));exact Kd.R_mono (Kd.R_far (p:=⟨gb493,1,none⟩) (Kd.R_far (p:=⟨gb493,0,none⟩) (Kd.R_far (p:=⟨gb507,1,none⟩) (Kd.R_far (p:=⟨gb507,0,none⟩) (Kd.R_types (Kd.R_types HO499.out BK507.out Q36) BK493.out Q36) (fun _ hk => hk.1.2) (.slice Ao8 t497.length co8)) (fun _ hk => hk.1.2) (.slice Ao12 t500.length co12)) (fun _ hk => hk.2) (.slice Ao8 t497.length co8)) (fun _ hk => hk.2) (.slice Ao12 t500.length co12)) (fun _ hk => hk.1.1.1),by (with_reducible repeat (first|apply Kd.N_alloc|apply Kd.N_drewN|apply Kd.N_drew));exact Kd.N_mono (Kd.N_far (p:=⟨gb493,1,none⟩) (Kd.N_far (p:=⟨gb493,0,none⟩) (Kd.N_far (p:=⟨gb507,1,none⟩) (Kd.N_far (p:=⟨gb507,0,none⟩) (Kd.N_mono (Kd.N_mono HO502.out (fun k_ hk => (⟨hk,hk.2⟩ : _ ∧ k_ ≠ gb507))) (fun k_ hk => (⟨hk,hk.1.1.2.2.2.1⟩ : _ ∧ k_ ≠ gb493))) (fun _ hk => hk.1.2) (.slice Ao8 t497.length co8)) (fun _ hk => hk.1.2) (.slice Ao12 t500.length co12)) (fun _ hk => hk.2) (.slice Ao8 t497.length co8)) (fun _ hk => hk.2) (.slice Ao12 t500.length co12)) (fun _ hk => ⟨hk.1.1.1.1,hk.1.1.1.2.1⟩),by repeat (first|(with_reducible first|exact HB.out|apply bA|apply bN|apply bD|refine below_set ?_ (IsS76.ge HI496.out)|refine below_set ?_ GE493.out|refine below_set ?_ GE507.out)|exact HB.out)⟩

end Go.Proofs.Ytlcfalecbpnhbaa.P
