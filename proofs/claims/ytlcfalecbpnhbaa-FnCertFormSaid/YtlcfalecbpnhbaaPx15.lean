/- The printed functions: what each Go function computes, as a Lean function, and that the Go code comes to just that. Conditions: none beyond each contract's own. -/
import Derived.Test.YtlcfalecbpnhbaaPx0
import Derived.Test.YtlcfalecbpnhbaaPx4
import Derived.Test.YtlcfalecbpnhbaaPx7
import Derived.Test.YtlcfalecbpnhbaaPx14
namespace Go.Proofs.Ytlcfalecbpnhbaa.P
open Go.RowKit Go.Proofs.YtlcfalecbpnhbaaW.PrintWords Go.Proofs.YtlcfalecbpnhbaaW.PrintLast Go.Proofs.YtlcfalecbpnhbaaW.PrintMore
attribute [local go_sem] max2_int min2_int max_two min_two max_three min_three max_four min_four   -- for this text's walks alone
set_option linter.unusedVariables false
set_option linter.unusedSimpArgs false

/-! ### laws_FnCertForm: function 4 -/
mutual
def laws_FnCertForm.j0 : Nat → Bool → Bool → List (S40) → List (List Int) → Option (Bool)
 | 0,_,_,_,_ => none
 | k + 1,x4,x23,x515000,x515001 => if x23 = true then ((spec_CertOk.f k x515000 x515001).bind fun t517 => (some (x4 == t517))) else (laws_FnCertForm.l0 k (x515000.length : Int) 0 x515000 x515001)
def laws_FnCertForm.l0 : Nat → Int → Int → List (S40) → List (List Int) → Option (Bool)
 | 0,_,_,_,_ => none
 | k + 1,x5,x6,x515000,x515001 => if x6 < 3 then (if 0 ≤ x6 then (if x6 < (x515001.length : Int) then (if ((rd_L3 x515001 x6).length : Int) < 3 then (some false) else (if ((rd_L3 x515001 x6).length : Int) > 4 then (some false) else (laws_FnCertForm.l0 k x5 (wrap64 (x6 + 1)) x515000 x515001))) else (none)) else (none)) else (if 0 ≤ (wrap64 (x5 - 1)) then (if (wrap64 (x5 - 1)) ≤ (x515000.length : Int) then (if 0 < (x515001.length : Int) then (if 1 < (x515001.length : Int) then (if 2 < (x515001.length : Int) then (if 1 ≤ ((rd_L3 x515001 2).length : Int) then (if 0 ≤ (wrap64 (x5 - 3)) then (if (wrap64 (x5 - 3)) < (x515000.length : Int) then (if (wrap64 (x5 - 1)) < (x515000.length : Int) then (if (wrap64 (((rd_T40 x515000 (wrap64 (x5 - 3))).f0) + 2)) = ((rd_T40 x515000 (wrap64 (x5 - 1))).f0) then (if (x515001.length : Int) = 3 then ((impl_CertOk.f k x515000 (([rd_L3 x515001 0,rd_L3 x515001 1,((rd_L3 x515001 2).drop 1)] : List (List Int)))).bind fun t538 => (if (t538 == (decide (((rd_L3 x515001 2).length : Int) > 3))) = true then ((impl_CertOk.f k (x515000.take ((wrap64 (x5 - 1)) : Int).toNat) x515001).bind fun t540 => (if t540 = true then (some (decide (x5 > 3))) else (some true))) else (some false))) else (some false)) else (some false)) else (none)) else (none)) else (none)) else (none)) else (none)) else (none)) else (none)) else (none)) else (none))
end
def laws_FnCertForm.f (k : Nat) (l0 : List Int) : Option (Bool):=if (l0.length : Int) > 1048576 then (some true) else ((spec_DrawCertOk.f k l0).bind fun bt508 => ((impl_CertOk.f k bt508.1 bt508.2).bind fun t515 => ((spec_CertOk.f k bt508.1 bt508.2).bind fun t516 => (if (t515 != t516) = true then (laws_FnCertForm.j0 k t515 true bt508.1 bt508.2) else (laws_FnCertForm.j0 k t515 (!t515) bt508.1 bt508.2)))))
theorem laws_FnCertForm.mono_l : ∀ k,(∀ y0 y1 y2 y3,LeO (laws_FnCertForm.j0 k y0 y1 y2 y3) (laws_FnCertForm.j0 (k + 1) y0 y1 y2 y3)) ∧ (∀ y0 y1 y2 y3,LeO (laws_FnCertForm.l0 k y0 y1 y2 y3) (laws_FnCertForm.l0 (k + 1) y0 y1 y2 y3))
 | 0 => ⟨fun _ _ _ _ r h => by simp [laws_FnCertForm.j0] at h,fun _ _ _ _ r h => by simp [laws_FnCertForm.l0] at h⟩
 | k + 1 => by
  obtain ⟨ih0,ih1⟩:=laws_FnCertForm.mono_l k
  refine ⟨?_,?_⟩
  ·intro y0 y1 y2 y3
   unfold laws_FnCertForm.j0
   repeat' first
   | (with_reducible exact ih0 _ _ _ _)
   | (with_reducible exact ih1 _ _ _ _)
   | (with_reducible exact impl_CertOk.mono _ _ _)
   | (with_reducible exact spec_CertOk.mono _ _ _)
   | (with_reducible exact spec_DrawCertOk.mono _ _)
   | (with_reducible exact LeO.refl _)
   | (with_reducible exact LeO.none _)
   | (with_reducible refine LeO.ite ?_ ?_)
   | (with_reducible refine LeO.bind ?_ (fun _ => ?_))
   | exact ih0 _ _ _ _
   | exact ih1 _ _ _ _
   | exact impl_CertOk.mono _ _ _
   | exact spec_CertOk.mono _ _ _
   | exact spec_DrawCertOk.mono _ _
   | exact LeO.none _
   | refine LeO.ite ?_ ?_
   | refine LeO.bind ?_ (fun _ => ?_)
  ·intro y0 y1 y2 y3
   unfold laws_FnCertForm.l0
   repeat' first
   | (with_reducible exact ih0 _ _ _ _)
   | (with_reducible exact ih1 _ _ _ _)
   | (with_reducible exact impl_CertOk.mono _ _ _)
   | (with_reducible exact spec_CertOk.mono _ _ _)
   | (with_reducible exact spec_DrawCertOk.mono _ _)
   | (with_reducible exact LeO.refl _)
   | (with_reducible exact LeO.none _)
   | (with_reducible refine LeO.ite ?_ ?_)
   | (with_reducible refine LeO.bind ?_ (fun _ => ?_))
   | exact ih0 _ _ _ _
   | exact ih1 _ _ _ _
   | exact impl_CertOk.mono _ _ _
   | exact spec_CertOk.mono _ _ _
   | exact spec_DrawCertOk.mono _ _
   | exact LeO.none _
   | refine LeO.ite ?_ ?_
   | refine LeO.bind ?_ (fun _ => ?_)
theorem laws_FnCertForm.mono : ∀ a0 k,LeO (laws_FnCertForm.f k a0) (laws_FnCertForm.f (k + 1) a0):=by
 intro a0 k
 obtain ⟨ih0,ih1⟩:=laws_FnCertForm.mono_l k
 unfold laws_FnCertForm.f
 repeat' first
   | (with_reducible exact ih0 _ _ _ _)
   | (with_reducible exact ih1 _ _ _ _)
   | (with_reducible exact impl_CertOk.mono _ _ _)
   | (with_reducible exact spec_CertOk.mono _ _ _)
   | (with_reducible exact spec_DrawCertOk.mono _ _)
   | (with_reducible exact LeO.refl _)
   | (with_reducible exact LeO.none _)
   | (with_reducible refine LeO.ite ?_ ?_)
   | (with_reducible refine LeO.bind ?_ (fun _ => ?_))
   | exact ih0 _ _ _ _
   | exact ih1 _ _ _ _
   | exact impl_CertOk.mono _ _ _
   | exact spec_CertOk.mono _ _ _
   | exact spec_DrawCertOk.mono _ _
   | exact LeO.none _
   | refine LeO.ite ?_ ?_
   | refine LeO.bind ?_ (fun _ => ?_)
def laws_FnCertForm.T16 : Bool × List (List Nat × List Nat):=(true,[([],[]),([0],[0]),([1],[1]),([2],[2]),([],[]),([4],[4]),([5],[5]),([6],[6]),([],[]),([8],[8]),([9],[9]),([10],[10]),([11],[11]),([3,7,12],[3,7,12]),([0,1,2,3,4,5,6,7,8,9,10,11,12,13],[]),([14,13,0,1,2,3,4,5,6,7,8,9,10,11,12,13],[13,14])])
def laws_FnCertForm.B16 : List Nat:=[0,1,3,7,0,16,48,112,0,256,768,1792,3840,8191,16383,32767]
theorem laws_FnCertForm.tab16 : rtab .any (opsOf Try.f4 16) = laws_FnCertForm.T16:=by kernel_rfl
theorem laws_FnCertForm.bits16 : waitsOk laws_FnCertForm.T16.2 laws_FnCertForm.B16 = true:=by kernel_rfl
def laws_FnCertForm.T17 : Bool × List (List Nat × List Nat):=(true,[([],[]),([0],[0]),([],[]),([2],[2]),([1,3],[1,3]),([4],[4]),([5],[5]),([6],[6]),([],[]),([8],[8]),([],[]),([10],[10]),([9,11],[9,11]),([12],[12]),([13],[13]),([7,14],[7,14]),([15],[15]),([16],[16]),([17,16],[16,17]),([18,16],[16,18]),([19,16],[16,19]),([16,20],[16,20]),([21,16],[21]),([22],[22]),([23,22,22],[22,23]),([22],[22]),([25,22],[22,25]),([26,22],[22,26]),([27,22],[22,27]),([28,22],[22,28]),([29,22],[22,29]),([24,30,22],[22,24,30]),([22,31],[22,31]),([32,24],[32]),([33],[33]),([34,33,33],[33,34]),([35,33],[33,35]),([36,35,33],[33,36]),([37],[37]),([38,37],[37,38]),([37,39,33],[33,37,39]),([33,40],[33,40]),([41,37,0,1,2,3,4,5,6,7,8,9,10,11,12,13,14,15,16,17,18,19,20,21,22,23,24,25,26,27,28,29,30,31,32,33,34,35,36,37,38,39,40,41],[41])])
def laws_FnCertForm.B17 : List Nat:=[0,1,0,4,15,31,63,127,0,256,0,1024,3840,7936,16128,32767,65535,131071,262143,524287,1048575,2097151,4194303,8388607,16777215,8388607,41943039,109051903,243269631,511705087,1048575999,2147483647,4294967295,8589934591,17179869183,34359738367,68719476735,137438953471,274877906943,549755813887,1099511627775,2199023255551,4398046511103]
theorem laws_FnCertForm.tab17 : rtab .any (opsOf Try.f4 17) = laws_FnCertForm.T17:=by kernel_rfl
theorem laws_FnCertForm.bits17 : waitsOk laws_FnCertForm.T17.2 laws_FnCertForm.B17 = true:=by kernel_rfl
set_option maxHeartbeats 8000000 in
set_option maxRecDepth 100000 in
theorem laws_FnCertForm.calls (k : Nat) (A0 : Option Addr) (c0 : Nat) (l0 : List Int) (r : Bool) (hr_ : r = true) (w : World) (hr0 : Kd.C (Kd.int .u8) w A0 l0.length l0) (hc0 : l0.length ≤ c0) (h : laws_FnCertForm.f k l0 = some r) :
  Calls Try.prog 4 #[.slice A0 l0.length c0] w fun e w' => e = .returned (.bool r) ∧ Below w.heap.size w w':=by
 have HR_:=aM hr_
 clear hr_
 have hu30:=Try.underlying30
 have HR0:=aM hr0
 have HC0:=aM hc0
 clear hr0 hc0
 have HB:=aM (Below.refl w.heap.size w)
 have H : (if (l0.length : Int) > 1048576 then (some true) else ((spec_DrawCertOk.f k l0).bind fun bt508 => ((impl_CertOk.f k bt508.1 bt508.2).bind fun t515 => ((spec_CertOk.f k bt508.1 bt508.2).bind fun t516 => (if (t515 != t516) = true then (laws_FnCertForm.j0 k t515 true bt508.1 bt508.2) else (laws_FnCertForm.j0 k t515 (!t515) bt508.1 bt508.2)))))) = some r:=h
 clear h
 by_cases c2 : (l0.length : Int) > 1048576
 ·rw [if_pos c2] at H
  have c2b0 : decide (1048576 < (l0.length : Int)) = true:=decide_eq_true c2
  have c2b1 : decide (1048576 < l0.length) = true:=decide_eq_true Q14
  clear c2
  obtain rfl:=Option.some.inj H
  go_enter Try.func4,Try.ntmps4
  go_wp2
  go_ret
  exact ⟨Q6,Q3⟩
 ·rw [if_neg c2] at H
  have c2b0 : decide (1048576 < (l0.length : Int)) = false:=decide_eq_false c2
  have c2b1 : decide (1048576 < l0.length) = false:=decide_eq_false Q14
  clear c2
  replace H:=Option.bind_eq_some_iff.mp H
  obtain ⟨⟨t508,t511⟩,A30,H⟩:=H
  replace H : ((impl_CertOk.f k t508 t511).bind fun t515 => ((spec_CertOk.f k t508 t511).bind fun t516 => (if (t515 != t516) = true then (laws_FnCertForm.j0 k t515 true t508 t511) else (laws_FnCertForm.j0 k t515 (!t515) t508 t511)))) = some r:=H
  have A3:=aM A30
  clear A30
  replace H:=Option.bind_eq_some_iff.mp H
  obtain ⟨t515,A40,H⟩:=H
  replace H : ((spec_CertOk.f k t508 t511).bind fun t516 => (if (t515 != t516) = true then (laws_FnCertForm.j0 k t515 true t508 t511) else (laws_FnCertForm.j0 k t515 (!t515) t508 t511))) = some r:=H
  have A4:=aM A40
  clear A40
  have HC5:=aM H
  clear H
  go_enter Try.func4,Try.ntmps4
  go_upto_region 5 with (first|((with_reducible refine gate_callee (f:=11) rfl ?_);refine goesL_ (some 13) rfl rfl Try.func11 Q13 rfl #[.slice A0 l0.length c0] rfl Q1 ?_;(with_reducible refine (spec_DrawCertOk.calls k _ _ l0 t508 t511 _ ?side1 ?side2 A3.out).mono ?_);(case side1 => exact Q57);(case side2 => exact HC0.out);rintro e w6 ⟨v509,v512,rfl,ho0,ho1,hb⟩;refine ⟨_,rfl,?_⟩;have n0_:=aM (Kd.R_lower (Kd.R_mono (ok':=fun k_ => True) ho0 (fun _ hk_ => trivial)) (below_size Q3));have n1_:=aM (Kd.N_lower (Kd.N_mono (ok':=fun k_ => some k_ ≠ (v509 : Value).ownBlock) ho1 (fun k_ hk_ => hk_.2)) (below_size Q3));have n2_:=aM (below_step Q3 hb);clear HB;have HO510:=n0_;have HO513:=n1_;have HB:=n2_;clear n0_ n1_ n2_;(try clear hb);(try clear hb2);(try clear hk);(try clear hi);(try clear ho0);(try clear ho1))|((with_reducible refine gate_dst (N:=3) rfl ?_);(try (refine gate_guard Q67 ?_;dsimp only));refine box_event ?hg (N:=3) ?hd (cs:=#[.slice none 0 0,.slice none 0 0]) (t:=30) ?hr ?_;(case hd => rfl);(case hg => rfl);(case hr => exact Q15);intro gb514 hg w7 hbox hb;have n0_:=aM (Kd.R_below (qR HO510) hb);have n1_:=aM (Kd.N_below (Kd.N_elderB (qN HO513) gb514 (Nat.le_of_eq hg.symm)) hb);have n2_:=aM (below_step Q3 hb);have n3_:=aM (hbox);have n4_:=aM ((Q36 : w.heap.size ≤ gb514));have n5_:=aM ((Q36 : w.heap.size ≤ gb514));clear HO510;clear HO513;clear HB;have HO510:=n0_;have HO513:=n1_;have HB:=n2_;have BK514:=n3_;have GW514:=n4_;have GE514:=n5_;clear n0_ n1_ n2_ n3_ n4_ n5_;clear hb hbox hg;obtain ⟨Ao8,co8,eo8⟩:=Kd.R_slice HO510.out;subst eo8;have hcz9_0 : w7.cell? ⟨gb514,0,none⟩ = some (.slice none 0 0):=(blk_cell BK514.out 0).trans rfl;have hcz9_1 : w7.cell? ⟨gb514,1,none⟩ = some (.slice none 0 0):=(blk_cell BK514.out 1).trans rfl;have hfz9_0:=blk_frozen BK514.out 0;have hfz9_1:=blk_frozen BK514.out 1;obtain ⟨Ao10,co10,eo10⟩:=Kd.N_slice HO513.out;subst eo10)|((with_reducible refine gate_callee (f:=9) rfl ?_);refine goesL_ (some 15) rfl rfl Try.func9 Q13 rfl #[.agg #[.slice Ao8 t508.length co8,.slice Ao10 t511.length co10]] rfl Q1 ?_;(with_reducible refine (impl_CertOk.calls k _ _ t508 _ _ t511 t515 _ ?side1 ?side2 ?side3 ?side4 A4.out).mono ?_);(case side1 => refine (Kd.R_reads' (e:=40) (base:=w.heap.size) (ok:=fun k_ => True) (n:=t508.length) (c:=co8) ?_).2.2;exact Q97);(case side2 => exact (Kd.R_reads' HO510.out).2.1);(case side3 => refine (Kd.N_reads' (e:=36) (base:=w.heap.size) (ok:=fun k_ => (some k_ ≠ (.slice Ao8 t508.length co8 : Value).ownBlock ∧ k_ ≠ gb514)) (n:=t511.length) (c:=co10) ?_).2.2;exact Q85);(case side4 => exact (Kd.N_reads' HO513.out).2.1);rintro e w11 ⟨rfl,hb⟩;refine ⟨_,rfl,?_⟩;have n0_:=aM (Kd.R_below Q97 hb);have n1_:=aM (Kd.N_below Q85 hb);have n2_:=aM (blk_below (g:=gb514) (o:=.cells #[.slice Ao8 t508.length co8,.slice Ao10 t511.length co10] 30 (0,0)) (by (with_reducible repeat (first|refine blk_drewN ?_ _|refine blk_drew ?_|refine blk_alloc ?_ _));refine blk_put (cs:=#[.slice Ao8 t508.length co8,.slice none 0 0]) ?_ 1 _ rfl;(with_reducible repeat (first|refine blk_drewN ?_ _|refine blk_drew ?_|refine blk_alloc ?_ _));refine blk_put (cs:=#[.slice none 0 0,.slice none 0 0]) ?_ 0 _ rfl;(with_reducible repeat (first|refine blk_drewN ?_ _|refine blk_drew ?_|refine blk_alloc ?_ _));exact BK514.out) hb);have n3_:=aM (below_step Q29 hb);clear HO510;clear HO513;clear BK514;clear HB;have HO510:=n0_;have HO513:=n1_;have BK514:=n2_;have HB:=n3_;clear n0_ n1_ n2_ n3_;(try clear hb);(try clear hb2);(try clear hk);(try clear hi)))
  (try simp only [Act.put,sI,sZ,sS])
  go_cut [23] (fun v23 wc => ∃ (kq : Nat) (x23_4 : Bool),v23 = .bool x23_4 ∧ Aside0 (laws_FnCertForm.j0 kq t515 x23_4 t508 t511 = some r) ∧ Aside0 (kq ≤ k) ∧ Aside0 (Kd.R k40 40 wc w.heap.size (fun _ => True) (.slice Ao8 t508.length co8) t508) ∧ Aside0 (Kd.N (Kd.slice 3 (Kd.int .i64)) 36 wc w.heap.size (fun k_ => some k_ ≠ ((.slice Ao8 t508.length co8) : Value).ownBlock ∧ k_ ≠ gb514) (.slice Ao10 t511.length co10) t511) ∧ Aside0 (wc.heap[gb514]? = some (.cells #[(.slice Ao8 t508.length co8),(.slice Ao10 t511.length co10)] 30 (0,0))) ∧ Aside0 (Below w.heap.size w wc))
  case first =>
   have H:=HC5.out
   clear HC5
   replace H:=Option.bind_eq_some_iff.mp H
   obtain ⟨t516,A120,H⟩:=H
   replace H : (if (t515 != t516) = true then (laws_FnCertForm.j0 k t515 true t508 t511) else (laws_FnCertForm.j0 k t515 (!t515) t508 t511)) = some r:=H
   have A12:=aM A120
   clear A120
   by_cases c13 : (t515 != t516) = true
   ·rw [if_pos c13] at H
    have c13b0 : (t515 != t516) = true:=c13
    (try (have c13b1 : decide (t515 = t516) = false:=by simpa using c13))
    (try (have c13b2 : (t515 == t516) = false:=by simpa using c13))
    (try (have c13b3 : ¬ (t515 = t516):=by simpa using c13))
    clear c13
    (first|rw [c13b0]|rw [c13b1]|(simp only [i64_w,i32_w];rw [c13b0])|skip)
    have H':=aM H
    clear H
    have hcz14_0 : w11.cell? ⟨gb514,0,none⟩ = some (.slice Ao8 t508.length co8):=(blk_cell BK514.out 0).trans rfl
    have hcz14_1 : w11.cell? ⟨gb514,1,none⟩ = some (.slice Ao10 t511.length co10):=(blk_cell BK514.out 1).trans rfl
    have hfz14_0:=blk_frozen BK514.out 0
    have hfz14_1:=blk_frozen BK514.out 1
    go_wp2_with (first|((with_reducible refine gate_callee (f:=7) rfl ?_);refine goesL_ (some 18) rfl rfl Try.func7 Q13 rfl #[.agg #[.slice Ao8 t508.length co8,.slice Ao10 t511.length co10]] rfl Q1 ?_;(with_reducible refine (spec_CertOk.calls k _ _ t508 _ _ t511 t516 _ ?side1 ?side2 ?side3 ?side4 A12.out).mono ?_);(case side1 => exact Q129);(case side2 => exact (Kd.R_reads' HO510.out).2.1);(case side3 => exact Q132);(case side4 => exact (Kd.N_reads' HO513.out).2.1);rintro e w15 ⟨rfl,hb⟩;refine ⟨_,rfl,?_⟩;have n0_:=aM (Kd.R_below (qR HO510) hb);have n1_:=aM (Kd.N_below (qN HO513) hb);have n2_:=aM (blk_below (g:=gb514) (o:=.cells #[.slice Ao8 t508.length co8,.slice Ao10 t511.length co10] 30 (0,0)) (qk BK514) hb);have n3_:=aM (below_step Q29 hb);clear HO510;clear HO513;clear BK514;clear HB;have HO510:=n0_;have HO513:=n1_;have BK514:=n2_;have HB:=n3_;clear n0_ n1_ n2_ n3_;(try clear hb);(try clear hb2);(try clear hk);(try clear hi)))
    go_meet
    case rel => exact ⟨_,(true),Q10,H',⟨Q117⟩,⟨qR HO510⟩,⟨qN HO513⟩,⟨qk BK514⟩,⟨Q29⟩⟩
   ·rw [if_neg c13] at H
    have c13b0 : (t515 != t516) = false:=by simpa using c13
    (try (have c13b1 : decide (t515 = t516) = true:=by simpa using c13))
    (try (have c13b2 : (t515 == t516) = true:=by simpa using c13))
    clear c13
    (first|rw [c13b0]|rw [c13b1]|(simp only [i64_w,i32_w];rw [c13b0])|skip)
    have H':=aM H
    clear H
    have hcz16_0 : w11.cell? ⟨gb514,0,none⟩ = some (.slice Ao8 t508.length co8):=(blk_cell BK514.out 0).trans rfl
    have hcz16_1 : w11.cell? ⟨gb514,1,none⟩ = some (.slice Ao10 t511.length co10):=(blk_cell BK514.out 1).trans rfl
    have hfz16_0:=blk_frozen BK514.out 0
    have hfz16_1:=blk_frozen BK514.out 1
    go_wp2_with (first|((with_reducible refine gate_callee (f:=7) rfl ?_);refine goesL_ (some 18) rfl rfl Try.func7 Q13 rfl #[.agg #[.slice Ao8 t508.length co8,.slice Ao10 t511.length co10]] rfl Q1 ?_;(with_reducible refine (spec_CertOk.calls k _ _ t508 _ _ t511 t516 _ ?side1 ?side2 ?side3 ?side4 A12.out).mono ?_);(case side1 => exact Q129);(case side2 => exact (Kd.R_reads' HO510.out).2.1);(case side3 => exact Q132);(case side4 => exact (Kd.N_reads' HO513.out).2.1);rintro e w17 ⟨rfl,hb⟩;refine ⟨_,rfl,?_⟩;have n0_:=aM (Kd.R_below (qR HO510) hb);have n1_:=aM (Kd.N_below (qN HO513) hb);have n2_:=aM (blk_below (g:=gb514) (o:=.cells #[.slice Ao8 t508.length co8,.slice Ao10 t511.length co10] 30 (0,0)) (qk BK514) hb);have n3_:=aM (below_step Q29 hb);clear HO510;clear HO513;clear BK514;clear HB;have HO510:=n0_;have HO513:=n1_;have BK514:=n2_;have HB:=n3_;clear n0_ n1_ n2_ n3_;(try clear hb);(try clear hb2);(try clear hk);(try clear hi)))
    go_meet
    case rel => exact ⟨_,(!t515),Q10,H',⟨Q117⟩,⟨qR HO510⟩,⟨qN HO513⟩,⟨qk BK514⟩,⟨Q29⟩⟩
  case rest =>
   clear HC5
   try clear c1
   try clear c2
   try clear c2b0
   try clear c2b1
   try clear p2
   try clear c4
   try clear c7
   try clear c9
   try clear c11
   try clear c13
   try clear c13b0
   try clear c13b1
   try clear c13b2
   try clear hcz14_0
   try clear hcz14_1
   try clear hcz16_0
   try clear hcz16_1
   try clear hcz9_0
   try clear hcz9_1
   try clear hfz14_0
   try clear hfz14_1
   try clear hfz16_0
   try clear hfz16_1
   try clear hfz9_0
   try clear hfz9_1
   obtain ⟨kq,x23_4,rfl,HA,HJ4,HO_515000,HO_515001,BK514,HB⟩:=hcut
   cases kq with
   | zero => exact absurd HA.out (by simp [laws_FnCertForm.j0])
   | succ kj4 =>
    have H:=HA.out
    clear HA
    simp only [laws_FnCertForm.j0] at H
    by_cases c18 : x23_4 = true
    ·subst c18
     have H1 : ((spec_CertOk.f kj4 t508 t511).bind fun t517 => (some (t515 == t517))) = some r:=by rw [if_pos rfl] at H;exact H
     clear H
     have H:=H1
     clear H1
     replace H:=Option.bind_eq_some_iff.mp H
     obtain ⟨t517,A190,H⟩:=H
     replace H : (some (t515 == t517)) = some r:=H
     have A19:=aM A190
     clear A190
     obtain rfl:=Option.some.inj H
     have hcz20_0 : wc.cell? ⟨gb514,0,none⟩ = some (.slice Ao8 t508.length co8):=(blk_cell BK514.out 0).trans rfl
     have hcz20_1 : wc.cell? ⟨gb514,1,none⟩ = some (.slice Ao10 t511.length co10):=(blk_cell BK514.out 1).trans rfl
     have hfz20_0:=blk_frozen BK514.out 0
     have hfz20_1:=blk_frozen BK514.out 1
     go_wp2_with (first|((with_reducible refine gate_callee (f:=7) rfl ?_);refine goesL_ (some 26) rfl rfl Try.func7 Q13 rfl #[.agg #[.slice Ao8 t508.length co8,.slice Ao10 t511.length co10]] rfl Q1 ?_;(with_reducible refine (spec_CertOk.calls kj4 _ _ t508 _ _ t511 t517 _ ?side1 ?side2 ?side3 ?side4 A19.out).mono ?_);(case side1 => exact Q90);(case side2 => exact (Kd.R_reads' HO_515000.out).2.1);(case side3 => exact Q91);(case side4 => exact (Kd.N_reads' HO_515001.out).2.1);rintro e w21 ⟨rfl,hb⟩;refine ⟨_,rfl,?_⟩;have n0_:=aM (Kd.R_below (qR HO_515000) hb);have n1_:=aM (Kd.N_below (qN HO_515001) hb);have n2_:=aM (blk_below (g:=gb514) (o:=.cells #[.slice Ao8 t508.length co8,.slice Ao10 t511.length co10] 30 (0,0)) (qk BK514) hb);have n3_:=aM (below_step Q29 hb);clear HO_515000;clear HO_515001;clear BK514;clear HB;have HO_515000:=n0_;have HO_515001:=n1_;have BK514:=n2_;have HB:=n3_;clear n0_ n1_ n2_ n3_;(try clear hb);(try clear hb2);(try clear hk);(try clear hi)))
     go_ret
     exact ⟨Q6,Q29⟩
    ·replace c18:=Bool.eq_false_iff.mpr c18
     subst c18
     have H1 : (laws_FnCertForm.l0 kj4 (t508.length : Int) 0 t508 t511) = some r:=by rw [if_neg (show ¬ (false = true) by decide)] at H;exact H
     clear H
     have H:=H1
     clear H1
     have H':=aM H
     clear H
     have hcz22_0 : wc.cell? ⟨gb514,0,none⟩ = some (.slice Ao8 t508.length co8):=(blk_cell BK514.out 0).trans rfl
     have hcz22_1 : wc.cell? ⟨gb514,1,none⟩ = some (.slice Ao10 t511.length co10):=(blk_cell BK514.out 1).trans rfl
     have hfz22_0:=blk_frozen BK514.out 0
     have hfz22_1:=blk_frozen BK514.out 1
     go_wp2
     go_loopg [6] kj4 (fun kq v6 w' => ∃ (x6_2 : Int),v6 = .int .i64 x6_2 ∧ Aside0 (laws_FnCertForm.l0 kq (t508.length : Int) x6_2 t508 t511 = some r) ∧ Aside0 (kq ≤ kj4) ∧ Aside0 (Kd.R k40 40 w' w.heap.size (fun _ => True) (.slice Ao8 t508.length co8) t508) ∧ Aside0 (Kd.N (Kd.slice 3 (Kd.int .i64)) 36 w' w.heap.size (fun k_ => some k_ ≠ ((.slice Ao8 t508.length co8) : Value).ownBlock ∧ k_ ≠ gb514) (.slice Ao10 t511.length co10) t511) ∧ Aside0 (w'.heap[gb514]? = some (.cells #[(.slice Ao8 t508.length co8),(.slice Ao10 t511.length co10)] 30 (0,0))) ∧ Aside0 (Below w.heap.size w w'))
     case atStart => exact ⟨(0),Q10,H',⟨Nat.le_refl _⟩,⟨qR HO_515000⟩,⟨qN HO_515001⟩,⟨qk BK514⟩,⟨Q29⟩⟩
     case round =>
      clear H'
      try clear c1
      try clear c2
      try clear c2b0
      try clear c2b1
      try clear p2
      try clear c4
      try clear c7
      try clear c9
      try clear c11
      try clear c13
      try clear c13b0
      try clear c13b1
      try clear c13b2
      try clear c18
      try clear hcz14_0
      try clear hcz14_1
      try clear hcz16_0
      try clear hcz16_1
      try clear hcz20_0
      try clear hcz20_1
      try clear hcz22_0
      try clear hcz22_1
      try clear hcz9_0
      try clear hcz9_1
      try clear hfz14_0
      try clear hfz14_1
      try clear hfz16_0
      try clear hfz16_1
      try clear hfz20_0
      try clear hfz20_1
      try clear hfz22_0
      try clear hfz22_1
      try clear hfz9_0
      try clear hfz9_1
      try clear p2
      obtain ⟨x6_2,rfl,HA,HK2,HO_515000,HO_515001,BK514,HB⟩:=hrel
      cases gk with
      | zero => exact absurd HA.out (by simp [laws_FnCertForm.l0])
      | succ k2 =>
       have H:=HA.out
       clear HA
       simp only [laws_FnCertForm.l0] at H
       by_cases c23 : x6_2 < 3
       ·rw [if_pos c23] at H
        have c23b0 : decide (x6_2 < 3) = true:=decide_eq_true c23
        clear c23
        by_cases c24 : 0 ≤ x6_2
        case neg => rw [if_neg c24] at H;exact absurd H Q52
        rw [if_pos c24] at H
        have c24b0 : decide (0 ≤ x6_2) = true:=decide_eq_true c24
        clear c24
        by_cases c25 : x6_2 < (t511.length : Int)
        case neg => rw [if_neg c25] at H;exact absurd H Q52
        rw [if_pos c25] at H
        have c25b0 : decide (x6_2 < (t511.length : Int)) = true:=decide_eq_true c25
        clear c25
        by_cases c26 : ((rd_L3 t511 x6_2).length : Int) < 3
        ·rw [if_pos c26] at H
         have c26b0 : decide (((rd_L3 t511 x6_2).length : Int) < 3) = true:=decide_eq_true c26
         have c26b1 : decide ((rd_L3 t511 x6_2).length < 3) = true:=decide_eq_true Q14
         clear c26
         exact absurd ((Option.some.inj H).trans HR_.out) Q37
        ·rw [if_neg c26] at H
         have c26b0 : decide (((rd_L3 t511 x6_2).length : Int) < 3) = false:=decide_eq_false c26
         have c26b1 : decide ((rd_L3 t511 x6_2).length < 3) = false:=decide_eq_false Q14
         clear c26
         by_cases c27 : ((rd_L3 t511 x6_2).length : Int) > 4
         ·rw [if_pos c27] at H
          have c27b0 : decide (4 < ((rd_L3 t511 x6_2).length : Int)) = true:=decide_eq_true c27
          have c27b1 : decide (4 < (rd_L3 t511 x6_2).length) = true:=decide_eq_true Q14
          clear c27
          exact absurd ((Option.some.inj H).trans HR_.out) Q37
         ·rw [if_neg c27] at H
          have c27b0 : decide (4 < ((rd_L3 t511 x6_2).length : Int)) = false:=decide_eq_false c27
          have c27b1 : decide (4 < (rd_L3 t511 x6_2).length) = false:=decide_eq_false Q14
          clear c27
          have H':=aM H
          clear H
          have hcz28_0 : wr.cell? ⟨gb514,0,none⟩ = some (.slice Ao8 t508.length co8):=(blk_cell BK514.out 0).trans rfl
          have hcz28_1 : wr.cell? ⟨gb514,1,none⟩ = some (.slice Ao10 t511.length co10):=(blk_cell BK514.out 1).trans rfl
          have hfz28_0:=blk_frozen BK514.out 0
          have hfz28_1:=blk_frozen BK514.out 1
          have p518 : 0 ≤ (x6_2 : Int):=of_decide_eq_true Q5
          have q518 : x6_2 < (t511.length : Int):=of_decide_eq_true Q5
          obtain ⟨ad518,A518_0,c518_0,e518,hx518_0,hl518_0,hi518_0⟩:=at_L3 (Kd.N_reads' HO_515001.out).2.2 x6_2 p518 q518
          cases e518
          obtain ⟨ce518,hce518,hMe518,hcc518⟩:=Kd.N_get HO_515001.out [] x6_2 p518 (by first|exact q518|exact of_decide_eq_true Q5|(have e_:=(Kd.N_reads' HO_515001.out).1;omega))
          obtain ⟨ua518_0,uc518_0,rfl,ul518_0,ge518_0⟩:=Kd.FK_slice_open hMe518
          have hv518_0:=hcc518 0 _ rfl
          rw [Nat.add_zero,show ((Kd.slice 3 (Kd.int .i64))).sz = 1 from rfl,Nat.mul_one] at hv518_0
          replace hv518_0:=Option.some.inj (hv518_0.symm.trans hx518_0)
          injection hv518_0 with hva_ hvn_ hvc_
          rw [hva_] at ge518_0
          rw [hvc_] at ul518_0
          have HL518_0:=aM (show Kd.V (Kd.int .i64) 3 _ w.heap.size _ _ (rd_L3 t511 x6_2) from Kd.V_mk ul518_0 ge518_0)
          clear hva_ hvn_ hvc_ ge518_0 ul518_0
          clear hcc518 hce518
          have HR518_0:=aM hi518_0
          have HC518_0:=aM hl518_0
          clear hi518_0 hl518_0
          replace p518:=eq_true p518
          replace q518:=eq_true q518
          have p519 : 0 ≤ (x6_2 : Int):=of_decide_eq_true Q5
          have q519 : x6_2 < (t511.length : Int):=of_decide_eq_true Q5
          obtain ⟨ad519,A519_0,c519_0,e519,hx519_0,hl519_0,hi519_0⟩:=at_L3 (Kd.N_reads' HO_515001.out).2.2 x6_2 p519 q519
          obtain rfl : ad518 = ad519:=(by injection e519)
          obtain ⟨ce519,hce519,hMe519,hcc519⟩:=Kd.N_get HO_515001.out [] x6_2 p519 (by first|exact q519|exact of_decide_eq_true Q5|(have e_:=(Kd.N_reads' HO_515001.out).1;omega))
          obtain ⟨ua519_0,uc519_0,rfl,ul519_0,ge519_0⟩:=Kd.FK_slice_open hMe519
          have hv519_0:=hcc519 0 _ rfl
          rw [Nat.add_zero,show ((Kd.slice 3 (Kd.int .i64))).sz = 1 from rfl,Nat.mul_one] at hv519_0
          replace hv519_0:=Option.some.inj (hv519_0.symm.trans hx519_0)
          injection hv519_0 with hva_ hvn_ hvc_
          rw [hva_] at ge519_0
          rw [hvc_] at ul519_0
          have HL519_0:=aM (show Kd.V (Kd.int .i64) 3 _ w.heap.size _ _ (rd_L3 t511 x6_2) from Kd.V_mk ul519_0 ge519_0)
          clear hva_ hvn_ hvc_ ge519_0 ul519_0
          clear hcc519 hce519
          have HR519_0:=aM hi519_0
          have HC519_0:=aM hl519_0
          clear hi519_0 hl519_0
          replace p519:=eq_true p519
          replace q519:=eq_true q519
          have ea_:=Option.some.inj (hx518_0.symm.trans hx519_0)
          injection ea_ with ea_ en_ ec_
          subst ea_
          subst ec_
          clear en_
          go_wp2
          go_roundg k2
          case measure => have:=HJ4.out;have:=HK2.out;omega
          case rel => exact ⟨(wrap64 (x6_2 + 1)),Q10,H',⟨by have:=HJ4.out;have:=HK2.out;omega⟩,⟨qR HO_515000⟩,⟨qN HO_515001⟩,⟨qk BK514⟩,⟨Q29⟩⟩
       ·rw [if_neg c23] at H
        have c23b0 : decide (x6_2 < 3) = false:=decide_eq_false c23
        clear c23
        obtain ⟨ji29,hji29⟩ : ∃ j_ : Int,(wrap64 ((t508.length : Int) - 1)) = j_:=⟨_,rfl⟩
        replace H : (if 0 ≤ (ji29) then (if (ji29) ≤ (t508.length : Int) then (if 0 < (t511.length : Int) then (if 1 < (t511.length : Int) then (if 2 < (t511.length : Int) then (if 1 ≤ ((rd_L3 t511 2).length : Int) then (if 0 ≤ (wrap64 ((t508.length : Int) - 3)) then (if (wrap64 ((t508.length : Int) - 3)) < (t508.length : Int) then (if (ji29) < (t508.length : Int) then (if (wrap64 (((rd_T40 t508 (wrap64 ((t508.length : Int) - 3))).f0) + 2)) = ((rd_T40 t508 (ji29)).f0) then (if (t511.length : Int) = 3 then ((impl_CertOk.f k2 t508 (([rd_L3 t511 0,rd_L3 t511 1,((rd_L3 t511 2).drop 1)] : List (List Int)))).bind fun t538 => (if (t538 == (decide (((rd_L3 t511 2).length : Int) > 3))) = true then ((impl_CertOk.f k2 (t508.take ((ji29) : Int).toNat) t511).bind fun t540 => (if t540 = true then (some (decide ((t508.length : Int) > 3))) else (some true))) else (some false))) else (some false)) else (some false)) else (none)) else (none)) else (none)) else (none)) else (none)) else (none)) else (none)) else (none)) else (none)) = some r:=by first|(rw [hji29] at H;exact H)|(simp only [hji29] at H ⊢;exact H)
        have hji29w : (IntKind.i64.wrap ((t508.length : Int) - 1)) = ji29:=(i64_w _).trans hji29
        by_cases c30 : 0 ≤ (ji29)
        case neg => rw [if_neg c30] at H;exact absurd H Q52
        rw [if_pos c30] at H
        have c30b0:=eq_true c30
        have c30b1 : decide (0 ≤ (ji29)) = true:=decide_eq_true c30
        clear c30
        by_cases c31 : (ji29) ≤ (t508.length : Int)
        case neg => rw [if_neg c31] at H;exact absurd H Q52
        rw [if_pos c31] at H
        have c31b0:=eq_true c31
        have c31b1 : decide ((ji29) ≤ (t508.length : Int)) = true:=decide_eq_true c31
        clear c31
        obtain ⟨y521,hy521⟩ : ∃ y_ : List (S40),y_ = (t508.take ((ji29) : Int).toNat):=⟨_,rfl⟩
        replace H : (if 0 < (t511.length : Int) then (if 1 < (t511.length : Int) then (if 2 < (t511.length : Int) then (if 1 ≤ ((rd_L3 t511 2).length : Int) then (if 0 ≤ (wrap64 ((t508.length : Int) - 3)) then (if (wrap64 ((t508.length : Int) - 3)) < (t508.length : Int) then (if (ji29) < (t508.length : Int) then (if (wrap64 (((rd_T40 t508 (wrap64 ((t508.length : Int) - 3))).f0) + 2)) = ((rd_T40 t508 (ji29)).f0) then (if (t511.length : Int) = 3 then ((impl_CertOk.f k2 t508 (([rd_L3 t511 0,rd_L3 t511 1,((rd_L3 t511 2).drop 1)] : List (List Int)))).bind fun t538 => (if (t538 == (decide (((rd_L3 t511 2).length : Int) > 3))) = true then ((impl_CertOk.f k2 y521 t511).bind fun t540 => (if t540 = true then (some (decide ((t508.length : Int) > 3))) else (some true))) else (some false))) else (some false)) else (some false)) else (none)) else (none)) else (none)) else (none)) else (none)) else (none)) else (none)) = some r:=by first|(rw [hy521];with_reducible exact H)|(have H2_:=(Option.bind_some _ _).symm.trans H;rw [hy521];with_reducible exact H2_)|(have H2_:=(Option.bind_some _ _).symm.trans H;with_reducible exact H2_)|with_reducible exact H|(rw [hy521];exact H)|exact H
        have Ny521:=aM hy521
        clear hy521
        by_cases c32 : 0 < (t511.length : Int)
        case neg => rw [if_neg c32] at H;exact absurd H Q52
        rw [if_pos c32] at H
        have c32b0 : decide (0 < (t511.length : Int)) = true:=decide_eq_true c32
        have c32b1 : decide (0 < t511.length) = true:=decide_eq_true Q14
        clear c32
        by_cases c33 : 1 < (t511.length : Int)
        case neg => rw [if_neg c33] at H;exact absurd H Q52
        rw [if_pos c33] at H
        have c33b0 : decide (1 < (t511.length : Int)) = true:=decide_eq_true c33
        have c33b1 : decide (1 < t511.length) = true:=decide_eq_true Q14
        clear c33
        by_cases c34 : 2 < (t511.length : Int)
        case neg => rw [if_neg c34] at H;exact absurd H Q52
        rw [if_pos c34] at H
        have c34b0 : decide (2 < (t511.length : Int)) = true:=decide_eq_true c34
        have c34b1 : decide (2 < t511.length) = true:=decide_eq_true Q14
        clear c34
        by_cases c35 : 1 ≤ ((rd_L3 t511 2).length : Int)
        case neg => rw [if_neg c35] at H;exact absurd H Q52
        rw [if_pos c35] at H
        have c35b0:=eq_true c35
        have c35b1 : decide (1 ≤ ((rd_L3 t511 2).length : Int)) = true:=decide_eq_true c35
        clear c35
        obtain ⟨y528,hy528⟩ : ∃ y_ : List Int,y_ = ((rd_L3 t511 2).drop 1):=⟨_,rfl⟩
        replace H : (if 0 ≤ (wrap64 ((t508.length : Int) - 3)) then (if (wrap64 ((t508.length : Int) - 3)) < (t508.length : Int) then (if (ji29) < (t508.length : Int) then (if (wrap64 (((rd_T40 t508 (wrap64 ((t508.length : Int) - 3))).f0) + 2)) = ((rd_T40 t508 (ji29)).f0) then (if (t511.length : Int) = 3 then ((impl_CertOk.f k2 t508 (([rd_L3 t511 0,rd_L3 t511 1,y528] : List (List Int)))).bind fun t538 => (if (t538 == (decide (((rd_L3 t511 2).length : Int) > 3))) = true then ((impl_CertOk.f k2 y521 t511).bind fun t540 => (if t540 = true then (some (decide ((t508.length : Int) > 3))) else (some true))) else (some false))) else (some false)) else (some false)) else (none)) else (none)) else (none)) = some r:=by first|(rw [hy528];with_reducible exact H)|(have H2_:=(Option.bind_some _ _).symm.trans H;rw [hy528];with_reducible exact H2_)|(have H2_:=(Option.bind_some _ _).symm.trans H;with_reducible exact H2_)|with_reducible exact H|(rw [hy528];exact H)|exact H
        have Ny528:=aM hy528
        clear hy528
        obtain ⟨y533,hy533⟩ : ∃ y_ : List (List Int),y_ = (([rd_L3 t511 0,rd_L3 t511 1,y528] : List (List Int))):=⟨_,rfl⟩
        replace H : (if 0 ≤ (wrap64 ((t508.length : Int) - 3)) then (if (wrap64 ((t508.length : Int) - 3)) < (t508.length : Int) then (if (ji29) < (t508.length : Int) then (if (wrap64 (((rd_T40 t508 (wrap64 ((t508.length : Int) - 3))).f0) + 2)) = ((rd_T40 t508 (ji29)).f0) then (if (t511.length : Int) = 3 then ((impl_CertOk.f k2 t508 y533).bind fun t538 => (if (t538 == (decide (((rd_L3 t511 2).length : Int) > 3))) = true then ((impl_CertOk.f k2 y521 t511).bind fun t540 => (if t540 = true then (some (decide ((t508.length : Int) > 3))) else (some true))) else (some false))) else (some false)) else (some false)) else (none)) else (none)) else (none)) = some r:=by first|(rw [hy533];with_reducible exact H)|(have H2_:=(Option.bind_some _ _).symm.trans H;rw [hy533];with_reducible exact H2_)|(have H2_:=(Option.bind_some _ _).symm.trans H;with_reducible exact H2_)|with_reducible exact H|(rw [hy533];exact H)|exact H
        have Ny533:=aM hy533
        clear hy533
        obtain ⟨ji36,hji36⟩ : ∃ j_ : Int,(wrap64 ((t508.length : Int) - 3)) = j_:=⟨_,rfl⟩
        replace H : (if 0 ≤ (ji36) then (if (ji36) < (t508.length : Int) then (if (ji29) < (t508.length : Int) then (if (wrap64 (((rd_T40 t508 (ji36)).f0) + 2)) = ((rd_T40 t508 (ji29)).f0) then (if (t511.length : Int) = 3 then ((impl_CertOk.f k2 t508 y533).bind fun t538 => (if (t538 == (decide (((rd_L3 t511 2).length : Int) > 3))) = true then ((impl_CertOk.f k2 y521 t511).bind fun t540 => (if t540 = true then (some (decide ((t508.length : Int) > 3))) else (some true))) else (some false))) else (some false)) else (some false)) else (none)) else (none)) else (none)) = some r:=by first|(rw [hji36] at H;exact H)|(simp only [hji36] at H ⊢;exact H)
        have hji36w : (IntKind.i64.wrap ((t508.length : Int) - 3)) = ji36:=(i64_w _).trans hji36
        by_cases c37 : 0 ≤ (ji36)
        case neg => rw [if_neg c37] at H;exact absurd H Q52
        rw [if_pos c37] at H
        have c37b0 : decide (0 ≤ (ji36)) = true:=decide_eq_true c37
        clear c37
        by_cases c38 : (ji36) < (t508.length : Int)
        case neg => rw [if_neg c38] at H;exact absurd H Q52
        rw [if_pos c38] at H
        have c38b0 : decide ((ji36) < (t508.length : Int)) = true:=decide_eq_true c38
        clear c38
        by_cases c39 : (ji29) < (t508.length : Int)
        case neg => rw [if_neg c39] at H;exact absurd H Q52
        rw [if_pos c39] at H
        have c39b0 : decide ((ji29) < (t508.length : Int)) = true:=decide_eq_true c39
        clear c39
        by_cases c40 : (wrap64 (((rd_T40 t508 (ji36)).f0) + 2)) = ((rd_T40 t508 (ji29)).f0)
        ·rw [if_pos c40] at H
         have c40b0 : ((wrap64 (((rd_T40 t508 (ji36)).f0) + 2)) == ((rd_T40 t508 (ji29)).f0)) = true:=beq_iff_eq.mpr c40
         have c40b1 : ((wrap64 (((rd_T40 t508 (ji36)).f0) + 2)) != ((rd_T40 t508 (ji29)).f0)) = false:=bne_eq_false_iff_eq.mpr c40
         clear c40
         by_cases c41 : (t511.length : Int) = 3
         ·rw [if_pos c41] at H
          have c41b0 : ((t511.length : Int) == 3) = true:=beq_iff_eq.mpr c41
          have c41b1 : ((t511.length : Int) != 3) = false:=bne_eq_false_iff_eq.mpr c41
          clear c41
          replace H:=Option.bind_eq_some_iff.mp H
          obtain ⟨t538,A420,H⟩:=H
          replace H : (if (t538 == (decide (((rd_L3 t511 2).length : Int) > 3))) = true then ((impl_CertOk.f k2 y521 t511).bind fun t540 => (if t540 = true then (some (decide ((t508.length : Int) > 3))) else (some true))) else (some false)) = some r:=H
          have A42:=aM A420
          clear A420
          by_cases c43 : (t538 == (decide (((rd_L3 t511 2).length : Int) > 3))) = true
          ·rw [if_pos c43] at H
           have c43b0 : (t538 == (decide (((rd_L3 t511 2).length : Int) > 3))) = true:=c43
           (try (have c43b1 : decide (t538 = (decide (((rd_L3 t511 2).length : Int) > 3))) = true:=by simpa using c43))
           (try (have c43b2 : (t538 == (decide (((rd_L3 t511 2).length : Int) > 3))) = true:=by simpa using c43))
           clear c43
           replace H:=Option.bind_eq_some_iff.mp H
           obtain ⟨t540,A440,H⟩:=H
           replace H : (if t540 = true then (some (decide ((t508.length : Int) > 3))) else (some true)) = some r:=H
           have A44:=aM A440
           clear A440
           by_cases c45 : t540 = true
           ·subst c45
            have H1 : (some (decide ((t508.length : Int) > 3))) = some r:=by rw [if_pos rfl] at H;exact H
            clear H
            have H:=H1
            clear H1
            obtain rfl:=Option.some.inj H
            have hcz46_0 : wr.cell? ⟨gb514,0,none⟩ = some (.slice Ao8 t508.length co8):=(blk_cell BK514.out 0).trans rfl
            have hcz46_1 : wr.cell? ⟨gb514,1,none⟩ = some (.slice Ao10 t511.length co10):=(blk_cell BK514.out 1).trans rfl
            have hfz46_0:=blk_frozen BK514.out 0
            have hfz46_1:=blk_frozen BK514.out 1
            try go_wp2_with (first|((with_reducible refine gate_dst (N:=7) rfl ?_);(try (refine gate_guard Q67 ?_;dsimp only));refine box_event ?hg (N:=7) ?hd (cs:=#[.slice none 0 0,.slice none 0 0]) (t:=30) ?hr ?_;(case hd => rfl);(case hg => rfl);(case hr => exact Q15);intro gb520 hg w47 hbox hb;have n0_:=aM (Kd.R_below (qR HO_515000) hb);have n1_:=aM (Kd.N_below (Kd.N_elderB (qN HO_515001) gb520 (Nat.le_of_eq hg.symm)) hb);have n2_:=aM (blk_below (g:=gb514) (o:=.cells #[.slice Ao8 t508.length co8,.slice Ao10 t511.length co10] 30 (0,0)) (qk BK514) hb);have n3_:=aM (below_step Q29 hb);have n4_:=aM (hbox);have n5_:=aM ((by rw [hg];exact (below_size Q29) : w.heap.size ≤ gb520));have n6_:=aM ((by rw [hg];exact (below_size Q29) : w.heap.size ≤ gb520));have n7_:=aM ((Q147 : gb514 ≠ gb520));have n8_:=aM ((Q148 : gb520 ≠ gb514));clear HO_515000;clear HO_515001;clear BK514;clear HB;have HO_515000:=n0_;have HO_515001:=n1_;have BK514:=n2_;have HB:=n3_;have BK520:=n4_;have GW520:=n5_;have GE520:=n6_;have NB514_520:=n7_;have NB520_514:=n8_;clear n0_ n1_ n2_ n3_ n4_ n5_ n6_ n7_ n8_;clear hb hbox hg;have hnb48:=NB520_514.out;have hnc48:=NB514_520.out;have hcz49_0 : w47.cell? ⟨gb520,0,none⟩ = some (.slice none 0 0):=(blk_cell BK520.out 0).trans rfl;have hcz49_1 : w47.cell? ⟨gb520,1,none⟩ = some (.slice none 0 0):=(blk_cell BK520.out 1).trans rfl;have hfz49_0:=blk_frozen BK520.out 0;have hfz49_1:=blk_frozen BK520.out 1)|((with_reducible refine gate_store (t:=30) (p:=7) rfl ?_);refine store_event (t:=30) (p:=7) (v:=?vo_w50) (w1:=((w47.setCell ⟨gb520,0,none⟩ (.slice Ao8 t508.length co8)).setCell ⟨gb520,1,none⟩ (.slice Ao10 t511.length co10))) ?hg ?ho ?hn ?hr ?_;(case ho => rfl);(case hg => rfl);(case hn => rfl);(case hr => exact Q15);intro w50 hw;have n0_ : Aside0 (Kd.R k40 40 w50 w.heap.size (fun _ => True) (.slice Ao8 t508.length co8) t508):=⟨Q88⟩;have n1_ : Aside0 (Kd.N (Kd.slice 3 (Kd.int .i64)) 36 w50 w.heap.size (fun k_ => some k_ ≠ (.slice Ao8 t508.length co8 : Value).ownBlock ∧ k_ ≠ gb514 ∧ k_ ≠ gb520) (.slice Ao10 t511.length co10) t511):=⟨Q72⟩;have n2_ : Aside0 (w50.heap[gb514]? = some (.cells #[.slice Ao8 t508.length co8,.slice Ao10 t511.length co10] 30 (0,0))):=⟨(by rw [hw];exact Q81)⟩;have n3_ : Aside0 (w50.heap[gb520]? = some (.cells #[.slice Ao8 t508.length co8,.slice Ao10 t511.length co10] 30 (0,0))):=⟨(by rw [hw];exact Q69)⟩;have n4_ : Aside0 (Below w.heap.size w w50):=⟨(by rw [hw];exact Q41)⟩;clear hw;clear HO_515000;clear HO_515001;clear BK514;clear BK520;clear HB;have HO_515000:=n0_;have HO_515001:=n1_;have BK514:=n2_;have BK520:=n3_;have HB:=n4_;clear n0_ n1_ n2_ n3_ n4_;have hcz51_0 : w50.cell? ⟨gb514,0,none⟩ = some (.slice Ao8 t508.length co8):=(blk_cell BK514.out 0).trans rfl;have hcz51_1 : w50.cell? ⟨gb514,1,none⟩ = some (.slice Ao10 t511.length co10):=(blk_cell BK514.out 1).trans rfl;have hfz51_0:=blk_frozen BK514.out 0;have hfz51_1:=blk_frozen BK514.out 1;have q52 : ((ji29) : Int) ≤ ((t508.length : Int) : Int):=of_decide_eq_true Q5;obtain ⟨i052,hi052,_,hsz52,_⟩:=info_parts info40;have hcut52:=cut_to (P:=Try.prog) 28 40 .i64 Try.underlying28 hi052 Ao8 t508.length co8 (ji29) (of_decide_eq_true Q5) q52 (Kd.R_reads' HO_515000.out).2.1;have hr52:=Kd.R_take (m:=((ji29) : Int).toNat) HO_515000.out Q14;have hy52 : y521.length = ((ji29) : Int).toNat:=(by rw [Ny521.out,List.length_take];omega);rw [← Ny521.out] at hr52;rw [← hy52] at hr52 hcut52;clear hy52 hi052 hsz52;have HO523:=aM hr52;clear hr52;replace q52:=eq_true q52;have hcz53_0 : w50.cell? ⟨gb520,0,none⟩ = some (.slice Ao8 t508.length co8):=(blk_cell BK520.out 0).trans rfl;have hcz53_1 : w50.cell? ⟨gb520,1,none⟩ = some (.slice Ao10 t511.length co10):=(blk_cell BK520.out 1).trans rfl;have hfz53_0:=blk_frozen BK520.out 0;have hfz53_1:=blk_frozen BK520.out 1)|((with_reducible refine gate_dst (N:=8) rfl ?_);(try (refine gate_guard Q67 ?_;dsimp only));refine box_event ?hg (N:=8) ?hd (cs:=#[.slice none 0 0,.slice none 0 0]) (t:=30) ?hr ?_;(case hd => rfl);(case hg => rfl);(case hr => exact Q15);intro gb524 hg w54 hbox hb;have n0_:=aM (Kd.R_below Q108 hb);have m0_:=aM (Kd.R_below Q106 hb);have n1_:=aM (Kd.N_below (Kd.N_elderB Q103 gb524 (Nat.le_of_eq hg.symm)) hb);have n2_:=aM (blk_below (g:=gb514) (o:=.cells #[.slice Ao8 t508.length co8,.slice Ao10 t511.length co10] 30 (0,0)) Q39 hb);have n3_:=aM (blk_below (g:=gb520) (o:=.cells #[.slice Ao8 y521.length co8,.slice Ao10 t511.length co10] 30 (0,0)) Q34 hb);have n4_:=aM (below_step Q41 hb);have n5_:=aM (hbox);have n6_:=aM ((by rw [hg];exact (below_size Q41) : w.heap.size ≤ gb524));have n7_:=aM ((by rw [hg];exact (below_size Q41) : w.heap.size ≤ gb524));have n8_:=aM ((Q152 : gb514 ≠ gb524));have n9_:=aM ((Q154 : gb524 ≠ gb514));have n10_:=aM ((Q151 : gb520 ≠ gb524));have n11_:=aM ((Q153 : gb524 ≠ gb520));clear HO523 HO_515000;clear HO_515001;clear BK514;clear BK520;clear HB;have HO523:=n0_;have HO_515000:=m0_;have HO_515001:=n1_;have BK514:=n2_;have BK520:=n3_;have HB:=n4_;have BK524:=n5_;have GW524:=n6_;have GE524:=n7_;have NB514_524:=n8_;have NB524_514:=n9_;have NB520_524:=n10_;have NB524_520:=n11_;clear m0_ n0_ n1_ n2_ n3_ n4_ n5_ n6_ n7_ n8_ n9_ n10_ n11_;clear hb hbox hg;have hnb55:=NB524_514.out;have hnc55:=NB514_524.out;have hnb56:=NB524_520.out;have hnc56:=NB520_524.out;have hcz57_0 : w54.cell? ⟨gb524,0,none⟩ = some (.slice none 0 0):=(blk_cell BK524.out 0).trans rfl;have hcz57_1 : w54.cell? ⟨gb524,1,none⟩ = some (.slice none 0 0):=(blk_cell BK524.out 1).trans rfl;have hfz57_0:=blk_frozen BK524.out 0;have hfz57_1:=blk_frozen BK524.out 1))
            have n0_ : Aside0 (Kd.R k40 40 ((w54.setCell ⟨gb524,0,none⟩ (.slice Ao8 t508.length co8)).setCell ⟨gb524,1,none⟩ (.slice Ao10 t511.length co10)) w.heap.size (fun _ => True) (.slice Ao8 y521.length co8) y521):=⟨Q96⟩
            have m0_ : Aside0 (Kd.R k40 40 ((w54.setCell ⟨gb524,0,none⟩ (.slice Ao8 t508.length co8)).setCell ⟨gb524,1,none⟩ (.slice Ao10 t511.length co10)) w.heap.size (fun _ => True) (.slice Ao8 t508.length co8) t508):=⟨Q95⟩
            have n1_ : Aside0 (Kd.N (Kd.slice 3 (Kd.int .i64)) 36 ((w54.setCell ⟨gb524,0,none⟩ (.slice Ao8 t508.length co8)).setCell ⟨gb524,1,none⟩ (.slice Ao10 t511.length co10)) w.heap.size (fun k_ => some k_ ≠ (.slice Ao8 y521.length co8 : Value).ownBlock ∧ k_ ≠ gb514 ∧ k_ ≠ gb520 ∧ k_ ≠ gb524) (.slice Ao10 t511.length co10) t511):=⟨Q71⟩
            have n2_ : Aside0 (((w54.setCell ⟨gb524,0,none⟩ (.slice Ao8 t508.length co8)).setCell ⟨gb524,1,none⟩ (.slice Ao10 t511.length co10)).heap[gb514]? = some (.cells #[.slice Ao8 t508.length co8,.slice Ao10 t511.length co10] 30 (0,0))):=⟨Q80⟩
            have n3_ : Aside0 (((w54.setCell ⟨gb524,0,none⟩ (.slice Ao8 t508.length co8)).setCell ⟨gb524,1,none⟩ (.slice Ao10 t511.length co10)).heap[gb520]? = some (.cells #[.slice Ao8 y521.length co8,.slice Ao10 t511.length co10] 30 (0,0))):=⟨Q79⟩
            have n4_ : Aside0 (((w54.setCell ⟨gb524,0,none⟩ (.slice Ao8 t508.length co8)).setCell ⟨gb524,1,none⟩ (.slice Ao10 t511.length co10)).heap[gb524]? = some (.cells #[.slice Ao8 t508.length co8,.slice Ao10 t511.length co10] 30 (0,0))):=⟨Q68⟩
            have n5_ : Aside0 (Below w.heap.size w ((w54.setCell ⟨gb524,0,none⟩ (.slice Ao8 t508.length co8)).setCell ⟨gb524,1,none⟩ (.slice Ao10 t511.length co10))):=⟨Q22⟩
            (try clear HO523 HO_515000)
            (try clear HO_515001)
            (try clear BK514)
            (try clear BK520)
            (try clear BK524)
            (try clear HB)
            generalize ((w54.setCell ⟨gb524,0,none⟩ (.slice Ao8 t508.length co8)).setCell ⟨gb524,1,none⟩ (.slice Ao10 t511.length co10)) = w58 at m0_ n0_ n1_ n2_ n3_ n4_ n5_ ⊢
            have HO523:=n0_
            have HO_515000:=m0_
            have HO_515001:=n1_
            have BK514:=n2_
            have BK520:=n3_
            have BK524:=n4_
            have HB:=n5_
            clear m0_ n0_ n1_ n2_ n3_ n4_ n5_
            have n0_:=aM (Kd.R_drew HO523.out)
            have m0_:=aM (Kd.R_drew HO_515000.out)
            have n1_:=aM (Kd.N_drew HO_515001.out)
            have n2_:=aM (blk_drew BK514.out)
            have n3_:=aM (blk_drew BK520.out)
            have n4_:=aM (blk_drew BK524.out)
            have n5_:=aM (bD HB.out)
            clear HO523 HO_515000
            clear HO_515001
            clear BK514
            clear BK520
            clear BK524
            clear HB
            have HO523:=n0_
            have HO_515000:=m0_
            have HO_515001:=n1_
            have BK514:=n2_
            have BK520:=n3_
            have BK524:=n4_
            have HB:=n5_
            clear m0_ n0_ n1_ n2_ n3_ n4_ n5_
            have p525 : 0 ≤ (0 : Int):=Q14
            have q525 : 0 < (t511.length : Int):=of_decide_eq_true Q5
            obtain ⟨ad525,A525_0,c525_0,e525,hx525_0,hl525_0,hi525_0⟩:=at_L3 (Kd.N_reads' HO_515001.out).2.2 0 p525 q525
            cases e525
            obtain ⟨ce525,hce525,hMe525,hcc525⟩:=Kd.N_get HO_515001.out [] 0 p525 (by first|exact q525|exact of_decide_eq_true Q5|(have e_:=(Kd.N_reads' HO_515001.out).1;omega))
            obtain ⟨ua525_0,uc525_0,rfl,ul525_0,ge525_0⟩:=Kd.FK_slice_open hMe525
            have hv525_0:=hcc525 0 _ rfl
            rw [Nat.add_zero,show ((Kd.slice 3 (Kd.int .i64))).sz = 1 from rfl,Nat.mul_one] at hv525_0
            replace hv525_0:=Option.some.inj (hv525_0.symm.trans hx525_0)
            injection hv525_0 with hva_ hvn_ hvc_
            rw [hva_] at ge525_0
            rw [hvc_] at ul525_0
            have HL525_0:=aM (show Kd.V (Kd.int .i64) 3 _ w.heap.size _ _ (rd_L3 t511 0) from Kd.V_mk ul525_0 ge525_0)
            clear hva_ hvn_ hvc_ ge525_0 ul525_0
            clear hcc525 hce525
            have qi525 : (0 < t511.length) = True:=eq_true Q14
            (try rw [show ((0 : Int)).toNat = 0 from rfl] at hx525_0)
            (try rw [Addr.add_zero'] at hx525_0)
            have HR525_0:=aM hi525_0
            have HC525_0:=aM hl525_0
            clear hi525_0 hl525_0
            replace p525:=eq_true p525
            replace q525:=eq_true q525
            have p526 : 0 ≤ (1 : Int):=Q14
            have q526 : 1 < (t511.length : Int):=of_decide_eq_true Q5
            obtain ⟨ad526,A526_0,c526_0,e526,hx526_0,hl526_0,hi526_0⟩:=at_L3 (Kd.N_reads' HO_515001.out).2.2 1 p526 q526
            obtain rfl : ad525 = ad526:=(by injection e526)
            obtain ⟨ce526,hce526,hMe526,hcc526⟩:=Kd.N_get HO_515001.out [] 1 p526 (by first|exact q526|exact of_decide_eq_true Q5|(have e_:=(Kd.N_reads' HO_515001.out).1;omega))
            obtain ⟨ua526_0,uc526_0,rfl,ul526_0,ge526_0⟩:=Kd.FK_slice_open hMe526
            have hv526_0:=hcc526 0 _ rfl
            rw [Nat.add_zero,show ((Kd.slice 3 (Kd.int .i64))).sz = 1 from rfl,Nat.mul_one] at hv526_0
            replace hv526_0:=Option.some.inj (hv526_0.symm.trans hx526_0)
            injection hv526_0 with hva_ hvn_ hvc_
            rw [hva_] at ge526_0
            rw [hvc_] at ul526_0
            have HL526_0:=aM (show Kd.V (Kd.int .i64) 3 _ w.heap.size _ _ (rd_L3 t511 1) from Kd.V_mk ul526_0 ge526_0)
            clear hva_ hvn_ hvc_ ge526_0 ul526_0
            clear hcc526 hce526
            (try simp only [show (1 : Int).toNat = 1 from rfl,Nat.reduceMul,Nat.reduceEqDiff,Go.Addr.add,↓reduceIte] at hx526_0)
            have qi526 : (1 < t511.length) = True:=eq_true Q14
            (try rw [show ((1 : Int)).toNat = 1 from rfl] at hx526_0)
            have HR526_0:=aM hi526_0
            have HC526_0:=aM hl526_0
            clear hi526_0 hl526_0
            replace p526:=eq_true p526
            replace q526:=eq_true q526
            have p527 : 0 ≤ (2 : Int):=Q14
            have q527 : 2 < (t511.length : Int):=of_decide_eq_true Q5
            obtain ⟨ad527,A527_0,c527_0,e527,hx527_0,hl527_0,hi527_0⟩:=at_L3 (Kd.N_reads' HO_515001.out).2.2 2 p527 q527
            obtain rfl : ad525 = ad527:=(by injection e527)
            obtain ⟨ce527,hce527,hMe527,hcc527⟩:=Kd.N_get HO_515001.out [] 2 p527 (by first|exact q527|exact of_decide_eq_true Q5|(have e_:=(Kd.N_reads' HO_515001.out).1;omega))
            obtain ⟨ua527_0,uc527_0,rfl,ul527_0,ge527_0⟩:=Kd.FK_slice_open hMe527
            have hv527_0:=hcc527 0 _ rfl
            rw [Nat.add_zero,show ((Kd.slice 3 (Kd.int .i64))).sz = 1 from rfl,Nat.mul_one] at hv527_0
            replace hv527_0:=Option.some.inj (hv527_0.symm.trans hx527_0)
            injection hv527_0 with hva_ hvn_ hvc_
            rw [hva_] at ge527_0
            rw [hvc_] at ul527_0
            have HL527_0:=aM (show Kd.V (Kd.int .i64) 3 _ w.heap.size _ _ (rd_L3 t511 2) from Kd.V_mk ul527_0 ge527_0)
            clear hva_ hvn_ hvc_ ge527_0 ul527_0
            clear hcc527 hce527
            (try simp only [show (2 : Int).toNat = 2 from rfl,Nat.reduceMul,Nat.reduceEqDiff,Go.Addr.add,↓reduceIte] at hx527_0)
            have qi527 : (2 < t511.length) = True:=eq_true Q14
            (try rw [show ((2 : Int)).toNat = 2 from rfl] at hx527_0)
            have HR527_0:=aM hi527_0
            have HC527_0:=aM hl527_0
            clear hi527_0 hl527_0
            replace p527:=eq_true p527
            replace q527:=eq_true q527
            have q60 : (1 : Int) ≤ (((rd_L3 t511 2).length : Int) : Int):=of_decide_eq_true Q5
            obtain ⟨i060,hi060,_,hsz60,_⟩:=info_parts info3
            have hroom60 : (rd_L3 t511 2).length ≤ c527_0:=HC527_0.out
            have hC60 : Kd.F (Kd.int .i64) _ _ A527_0 (rd_L3 t511 2).length (rd_L3 t511 2):=(Kd.V_at (base:=w.heap.size) HL527_0.out).2.2
            have hcut60:=cut_from (P:=Try.prog) 36 3 .i64 Try.underlying36 hi060 1 hsz60 A527_0 (rd_L3 t511 2).length c527_0 1 Q14 q60
            have hr60:=Kd.F_cut (m:=(1 : Int).toNat) (c:=c527_0) hC60 Q14 hroom60
            obtain ⟨A60,hA60⟩ : ∃ A1,A1 = (if c527_0 = (1 : Int).toNat then A527_0 else (A527_0 : Option Addr).map (·.add ((1 : Int).toNat * 1))):=⟨_,rfl⟩
            obtain ⟨c60,hc60⟩ : ∃ c1,c1 = c527_0 - (1 : Int).toNat:=⟨_,rfl⟩
            have hy60 : y528.length = (rd_L3 t511 2).length - (1 : Int).toNat:=(by rw [Ny528.out,List.length_drop] <;> omega)
            rw [show (rd_L3 t511 2).drop (1 : Int).toNat = y528 from Ny528.out.symm] at hr60
            replace hr60 : Kd.F (Kd.int .i64) _ _ A60 y528.length y528:=(by rw [hA60];exact hr60)
            rw [← hy60,← hA60,← hc60] at hcut60
            have HO532:=aM (show Kd.V (Kd.int .i64) 3 _ w.heap.size _ (.slice A60 y528.length c60) y528 from Kd.V_mk (by rw [hy60,hc60];exact Nat.sub_le_sub_right hroom60 _) hr60)
            have HC532:=aM (show y528.length ≤ c60 from by rw [hy60,hc60];exact Nat.sub_le_sub_right hroom60 _)
            clear hr60 hC60 hroom60 hi060 hsz60 hc60
            have KY60:=aM hy60
            have KA60:=aM hA60
            clear hy60 hA60
            replace q60:=eq_true q60
            refine start_ (n:=16) (S:=fun w' => w'.cell? ⟨gb514,0,none⟩ = some (.slice Ao8 t508.length co8) ∧ w'.cell? ⟨gb514,1,none⟩ = some (.slice (some ad525) t511.length co10) ∧ w'.cell? ad525 = some (.slice A525_0 (rd_L3 t511 0).length c525_0) ∧ w'.cell? ⟨ad525.block,ad525.off + 1,none⟩ = some (.slice A526_0 (rd_L3 t511 1).length c526_0) ∧ w'.cell? ⟨ad525.block,ad525.off + 2,none⟩ = some (.slice A527_0 (rd_L3 t511 2).length c527_0)) (ds:=[]) #[bF,bF,bF,bF,bF,bF,bF,bF,bF,bF,bF,bF,bF,bF,bF,bF] Q13 rfl rfl ⟨(blk_cell BK514.out 0).trans rfl,(blk_cell BK514.out 1).trans rfl,hx525_0,hx526_0,hx527_0⟩ (fun hHeld => ?_);refine with_tabW laws_FnCertForm.tab16 laws_FnCertForm.bits16 (fun HT_ HW_ => ?_)
            generalize w58.drew = w59 at HO_515000 HO523 HO_515001 BK514 BK520 BK524 HB HL525_0 HL526_0 HL527_0 HO532 HR525_0 HR526_0 HR527_0 hx525_0 hx526_0 hx527_0 hHeld ⊢
            refine pS HT_ 0 59 ?_
            refine pS HT_ 4 63 ?_
            refine pS HT_ 8 67 ?_
            refine take_ (i:=1) (N:=some 60) (v:=?_) (a':=?_) #[bT,bT,bF,bF,bT,bF,bF,bF,bT,bF,bF,bF,bF,bF,bF,bF] rfl rfl (take_ofW HT_.out HW_.out Q13) (fun _ _ _ h => h) (Or.inl ⟨Q67,?_⟩) hHeld ?_ ?_
            rotate_left
            ·rintro w' ⟨s0,s1,s2,s3,s4⟩
             (try simp only [Int.toNat_natCast] at s0 s1 s2 s3 s4)
             go_simp
             with_reducible rfl
            rotate_left
            ·simp only [Act.put,sI,sZ,sS,i64_w,i32_w]
             rfl
            refine pS HT_ 2 61 ?_
            refine take_ (i:=3) (N:=some 62) (v:=?_) (a':=?_) #[bT,bT,bT,bT,bT,bF,bF,bF,bT,bF,bF,bF,bF,bF,bF,bF] rfl rfl (take_ofW HT_.out HW_.out Q13) (fun _ _ _ h => h) (Or.inl ⟨Q67,?_⟩) hHeld ?_ ?_
            rotate_left
            ·rintro w' ⟨s0,s1,s2,s3,s4⟩
             (try simp only [Int.toNat_natCast] at s0 s1 s2 s3 s4)
             go_simp
             with_reducible rfl
            rotate_left
            ·simp only [Act.put,sI,sZ,sS,i64_w,i32_w]
             rfl
            refine take_ (i:=5) (N:=some 64) (v:=?_) (a':=?_) #[bT,bT,bT,bT,bT,bT,bF,bF,bT,bF,bF,bF,bF,bF,bF,bF] rfl rfl (take_ofW HT_.out HW_.out Q13) (fun _ _ _ h => h) (Or.inl ⟨Q67,?_⟩) hHeld ?_ ?_
            rotate_left
            ·rintro w' ⟨s0,s1,s2,s3,s4⟩
             (try simp only [Int.toNat_natCast] at s0 s1 s2 s3 s4)
             go_simp
             with_reducible rfl
            rotate_left
            ·simp only [Act.put,sI,sZ,sS,i64_w,i32_w]
             rfl
            refine pS HT_ 6 65 ?_
            refine take_ (i:=7) (N:=some 66) (v:=?_) (a':=?_) #[bT,bT,bT,bT,bT,bT,bT,bT,bT,bF,bF,bF,bF,bF,bF,bF] rfl rfl (take_ofW HT_.out HW_.out Q13) (fun _ _ _ h => h) (Or.inl ⟨Q67,?_⟩) hHeld ?_ ?_
            rotate_left
            ·rintro w' ⟨s0,s1,s2,s3,s4⟩
             (try simp only [Int.toNat_natCast] at s0 s1 s2 s3 s4)
             go_simp
             with_reducible rfl
            rotate_left
            ·simp only [Act.put,sI,sZ,sS,i64_w,i32_w]
             rfl
            refine take_ (i:=9) (N:=some 68) (v:=?_) (a':=?_) #[bT,bT,bT,bT,bT,bT,bT,bT,bT,bT,bF,bF,bF,bF,bF,bF] rfl rfl (take_ofW HT_.out HW_.out Q13) (fun _ _ _ h => h) (Or.inl ⟨Q67,?_⟩) hHeld ?_ ?_
            rotate_left
            ·rintro w' ⟨s0,s1,s2,s3,s4⟩
             (try simp only [Int.toNat_natCast] at s0 s1 s2 s3 s4)
             go_simp
             with_reducible rfl
            rotate_left
            ·simp only [Act.put,sI,sZ,sS,i64_w,i32_w]
             rfl
            refine pS HT_ 10 69 ?_
            refine take_ (i:=11) (N:=some 70) (v:=?_) (a':=?_) #[bT,bT,bT,bT,bT,bT,bT,bT,bT,bT,bT,bT,bF,bF,bF,bF] rfl rfl (take_ofW HT_.out HW_.out Q13) (fun _ _ _ h => h) (Or.inl ⟨Q67,?_⟩) hHeld ?_ ?_
            rotate_left
            ·rintro w' ⟨s0,s1,s2,s3,s4⟩
             (try simp only [Int.toNat_natCast] at s0 s1 s2 s3 s4)
             go_simp
             with_reducible rfl
            rotate_left
            ·simp only [Act.put,sI,sZ,sS,i64_w,i32_w]
             rfl
            refine pS HT_ 12 71 ?_
            refine one_ (i:=13) (N:=some 72) #[bT,bT,bT,bT,bT,bT,bT,bT,bT,bT,bT,bT,bT,bT,bF,bF] rfl rfl (one_of HT_.out Q13) Q37 (fun K hK => ?_)
            refine Kd.N_lit_step (Kd.slice 3 (Kd.int .i64)) _ 36 ?hg (N':=72) ?hd (xs:=([rd_L3 t511 0,rd_L3 t511 1,y528] : List (List Int))) (inner:=[.slice A525_0 (rd_L3 t511 0).length c525_0,.slice A526_0 (rd_L3 t511 1).length c526_0,.slice A60 y528.length c60]) (ok:=(fun k_ => some k_ ≠ (.slice Ao8 y521.length co8 : Value).ownBlock ∧ some k_ ≠ (.slice (some ad525) t511.length co10 : Value).ownBlock ∧ k_ ≠ gb514 ∧ k_ ≠ gb520 ∧ k_ ≠ gb524)) (okp:=(fun k_ => some k_ ≠ (.slice Ao8 y521.length co8 : Value).ownBlock ∧ some k_ ≠ (.slice (some ad525) t511.length co10 : Value).ownBlock ∧ k_ ≠ gb514 ∧ k_ ≠ gb520 ∧ k_ ≠ gb524)) ?hr ?hp (fun _ hk => hk) ((show ∀ k_,w59.heap.size ≤ k_ → (fun k_ => some k_ ≠ (.slice Ao8 y521.length co8 : Value).ownBlock ∧ some k_ ≠ (.slice (some ad525) t511.length co10 : Value).ownBlock ∧ k_ ≠ gb514 ∧ k_ ≠ gb520 ∧ k_ ≠ gb524) k_ from fun k_ hk => ⟨Kd.fresh' (Kd.R_lt (qR HO523)) k_ hk,Kd.fresh' (Kd.N_lt (qN HO_515001)) k_ hk,Kd.freshB (g:=gb514) (o:=.cells #[.slice Ao8 t508.length co8,.slice (some ad525) t511.length co10] 30 (0,0)) (qk BK514) k_ hk,Kd.freshB (g:=gb520) (o:=.cells #[.slice Ao8 y521.length co8,.slice (some ad525) t511.length co10] 30 (0,0)) (qk BK520) k_ hk,Kd.freshB (g:=gb524) (o:=.cells #[.slice Ao8 t508.length co8,.slice (some ad525) t511.length co10] 30 (0,0)) (qk BK524) k_ hk⟩) _ (Nat.le_refl _)) (Below.refl _ _) (Nat.le_refl _) Q52 ?_;(case hd => rfl);(case hg => rfl);(case hr => exact Q15);(case hp => exact (Reps.one (show Kd.FK (Kd.slice 3 (Kd.int .i64)) _ _ (rd_L3 t511 0) [.slice A525_0 (rd_L3 t511 0).length c525_0] from (Kd.FK_slice_mk (Kd.V_reads' (Kd.V_mono (ok':=(fun k_ => some k_ ≠ (.slice Ao8 y521.length co8 : Value).ownBlock ∧ some k_ ≠ (.slice (some ad525) t511.length co10 : Value).ownBlock ∧ k_ ≠ gb514 ∧ k_ ≠ gb520 ∧ k_ ≠ gb524)) (HL525_0.out) (fun k_ hk => ⟨hk.1.1,⟨hk.2,⟨hk.1.2.1,⟨hk.1.2.2.1,hk.1.2.2.2⟩⟩⟩⟩))).2.1 (Kd.V_F (Kd.V_mono (ok':=(fun k_ => some k_ ≠ (.slice Ao8 y521.length co8 : Value).ownBlock ∧ some k_ ≠ (.slice (some ad525) t511.length co10 : Value).ownBlock ∧ k_ ≠ gb514 ∧ k_ ≠ gb520 ∧ k_ ≠ gb524)) (HL525_0.out) (fun k_ hk => ⟨hk.1.1,⟨hk.2,⟨hk.1.2.1,⟨hk.1.2.2.1,hk.1.2.2.2⟩⟩⟩⟩))))) (Reps.one (show Kd.FK (Kd.slice 3 (Kd.int .i64)) _ _ (rd_L3 t511 1) [.slice A526_0 (rd_L3 t511 1).length c526_0] from (Kd.FK_slice_mk (Kd.V_reads' (Kd.V_mono (ok':=(fun k_ => some k_ ≠ (.slice Ao8 y521.length co8 : Value).ownBlock ∧ some k_ ≠ (.slice (some ad525) t511.length co10 : Value).ownBlock ∧ k_ ≠ gb514 ∧ k_ ≠ gb520 ∧ k_ ≠ gb524)) (HL526_0.out) (fun k_ hk => ⟨hk.1.1,⟨hk.2,⟨hk.1.2.1,⟨hk.1.2.2.1,hk.1.2.2.2⟩⟩⟩⟩))).2.1 (Kd.V_F (Kd.V_mono (ok':=(fun k_ => some k_ ≠ (.slice Ao8 y521.length co8 : Value).ownBlock ∧ some k_ ≠ (.slice (some ad525) t511.length co10 : Value).ownBlock ∧ k_ ≠ gb514 ∧ k_ ≠ gb520 ∧ k_ ≠ gb524)) (HL526_0.out) (fun k_ hk => ⟨hk.1.1,⟨hk.2,⟨hk.1.2.1,⟨hk.1.2.2.1,hk.1.2.2.2⟩⟩⟩⟩))))) (Reps.one (show Kd.FK (Kd.slice 3 (Kd.int .i64)) _ _ y528 [.slice A60 y528.length c60] from (Kd.FK_slice_mk (Kd.V_reads' (Kd.V_mono (ok':=(fun k_ => some k_ ≠ (.slice Ao8 y521.length co8 : Value).ownBlock ∧ some k_ ≠ (.slice (some ad525) t511.length co10 : Value).ownBlock ∧ k_ ≠ gb514 ∧ k_ ≠ gb520 ∧ k_ ≠ gb524)) (HO532.out) (fun k_ hk => ⟨hk.1.1,⟨hk.2,⟨hk.1.2.1,⟨hk.1.2.2.1,hk.1.2.2.2⟩⟩⟩⟩))).2.1 (Kd.V_F (Kd.V_mono (ok':=(fun k_ => some k_ ≠ (.slice Ao8 y521.length co8 : Value).ownBlock ∧ some k_ ≠ (.slice (some ad525) t511.length co10 : Value).ownBlock ∧ k_ ≠ gb514 ∧ k_ ≠ gb520 ∧ k_ ≠ gb524)) (HO532.out) (fun k_ hk => ⟨hk.1.1,⟨hk.2,⟨hk.1.2.1,⟨hk.1.2.2.1,hk.1.2.2.2⟩⟩⟩⟩))))) (Reps.none _ _)))))
            intro v534 w61 ho62 hb hg_ hnew_
            have HS2_:=(hb.cell (World.block_lt_of_cell? _ _ (hHeld.2.2.1))).trans (hHeld.2.2.1)
            have HS3_:=(hb.cell (World.block_lt_of_cell? _ _ (hHeld.2.2.2.1))).trans (hHeld.2.2.2.1)
            have HS4_:=(hb.cell (World.block_lt_of_cell? _ _ (hHeld.2.2.2.2))).trans (hHeld.2.2.2.2)
            clear hg_ hnew_
            (first|rw [← Ny533.out] at ho62|(simp only [Int.reduceToNat] at ho62;rw [← Ny533.out] at ho62))
            have n0_:=aM (Kd.R_below (qR HO523) hb)
            have m0_:=aM (Kd.R_below (qR HO_515000) hb)
            have n1_:=aM (Kd.N_elder' (qN HO_515001) (Kd.N_base ho62) hb)
            have n2_:=aM (Kd.V_elder' (qV HL525_0) (Kd.N_base ho62) hb)
            have n3_:=aM (Kd.V_elder' (qV HL526_0) (Kd.N_base ho62) hb)
            have n4_:=aM (Kd.V_elder' (qV HL527_0) (Kd.N_base ho62) hb)
            have n5_:=aM (Kd.V_elder' (qV HO532) (Kd.N_base ho62) hb)
            have n6_:=aM (Kd.N_lower ho62 (below_size Q22))
            have n7_:=aM (blk_below (g:=gb514) (o:=.cells #[.slice Ao8 t508.length co8,.slice (some ad525) t511.length co10] 30 (0,0)) (qk BK514) hb)
            have n8_:=aM (blk_below (g:=gb520) (o:=.cells #[.slice Ao8 y521.length co8,.slice (some ad525) t511.length co10] 30 (0,0)) (qk BK520) hb)
            have n9_:=aM (blk_below (g:=gb524) (o:=.cells #[.slice Ao8 t508.length co8,.slice (some ad525) t511.length co10] 30 (0,0)) (qk BK524) hb)
            have n10_:=aM (Kd.C_below Q120 hb)
            have n11_:=aM (Kd.C_below Q119 hb)
            have n12_:=aM (Kd.C_below Q118 hb)
            have n13_:=aM (below_step Q22 hb)
            clear HO523 HO_515000
            clear HO_515001
            clear HL525_0
            clear HL526_0
            clear HL527_0
            clear HO532
            clear BK514
            clear BK520
            clear BK524
            clear HR525_0
            clear HR526_0
            clear HR527_0
            clear HB
            have HO523:=n0_
            have HO_515000:=m0_
            have HO_515001:=n1_
            have HL525_0:=n2_
            have HL526_0:=n3_
            have HL527_0:=n4_
            have HO532:=n5_
            have HO535:=n6_
            have BK514:=n7_
            have BK520:=n8_
            have BK524:=n9_
            have HR525_0:=n10_
            have HR526_0:=n11_
            have HR527_0:=n12_
            have HB:=n13_
            clear m0_ n0_ n1_ n2_ n3_ n4_ n5_ n6_ n7_ n8_ n9_ n10_ n11_ n12_ n13_
            clear hb ho62
            obtain ⟨Ao63,co63,eo63⟩:=Kd.N_slice HO535.out
            (first|subst eo63|(injection eo63 with f1_ f2_ f3_;have f4_:=f1_.symm;have f5_:=f3_.symm;clear f1_ f2_ f3_;subst f4_;subst f5_))
            refine hK.out _ _ ⟨(blk_cell BK514.out 0).trans rfl,(blk_cell BK514.out 1).trans rfl,HS2_,HS3_,HS4_⟩ (fun hHeld => ?_)
            clear hK K
            refine norm_ (a':=?_) ?_ ?_
            rotate_left
            ·show Act.put _ (some 72) _ = _
             simp only [Act.put,sI,sZ,sS,i64_w,i32_w]
             rfl
            refine pS HT_ 14 73 ?_
            refine one_ (i:=15) (N:=none) #[bT,bT,bT,bT,bT,bT,bT,bT,bT,bT,bT,bT,bT,bT,bT,bT] rfl rfl (one_of HT_.out Q13) Q37 (fun K hK => ?_)
            have hs64 : w61.cell? ⟨gb524,1,none⟩ = some (.slice (some ad525) t511.length co10):=(blk_cell BK524.out 1).trans rfl
            have hfs64:=blk_frozen BK524.out 1
            have hns64_0:=NB514_524.out
            have hns64_1:=NB520_524.out
            have hms64_0:=NB524_514.out
            have hms64_1:=NB524_520.out
            refine skip_ (w1:=?_) Q67 rfl ?_ ?_
            rotate_left
            ·go_simp
             rfl
            refine hK.out _ _ ⟨((cell_far (p:=⟨gb524,_,none⟩) NB514_524.out _).trans (hHeld.1)),((cell_far (p:=⟨gb524,_,none⟩) NB514_524.out _).trans (hHeld.2.1)),((cell_far (p:=⟨gb524,_,none⟩) Q28 _).trans (hHeld.2.2.1)),((cell_far (p:=⟨gb524,_,none⟩) Q28 _).trans (hHeld.2.2.2.1)),((cell_far (p:=⟨gb524,_,none⟩) Q28 _).trans (hHeld.2.2.2.2))⟩ (fun hHeld => ?_)
            clear hK K
            refine done_ (done_of HT_.out Q13) ?_
            try go_wp2
            have n0_ : Aside0 (Kd.R k40 40 (w61.setCell ⟨gb524,1,none⟩ (.slice Ao63 y533.length co63)) w.heap.size (fun _ => True) (.slice Ao8 y521.length co8) y521):=⟨by (with_reducible repeat (first|apply Kd.R_alloc|apply Kd.R_drewN|apply Kd.R_drew));exact Kd.R_mono (Kd.R_far (p:=⟨gb524,1,none⟩) (Kd.R_types HO523.out BK524.out Q37) (fun _ hk => hk.2) (.slice Ao63 y533.length co63)) (fun _ hk => trivial)⟩
            have m0_ : Aside0 (Kd.R k40 40 (w61.setCell ⟨gb524,1,none⟩ (.slice Ao63 y533.length co63)) w.heap.size (fun _ => True) (.slice Ao8 t508.length co8) t508):=⟨by (with_reducible repeat (first|apply Kd.R_alloc|apply Kd.R_drewN|apply Kd.R_drew));exact Kd.R_mono (Kd.R_far (p:=⟨gb524,1,none⟩) (Kd.R_types HO_515000.out BK524.out Q37) (fun _ hk => hk.2) (.slice Ao63 y533.length co63)) (fun _ hk => trivial)⟩
            have n1_ : Aside0 (Kd.N (Kd.slice 3 (Kd.int .i64)) 36 (w61.setCell ⟨gb524,1,none⟩ (.slice Ao63 y533.length co63)) w.heap.size (fun k_ => some k_ ≠ (.slice Ao8 y521.length co8 : Value).ownBlock ∧ some k_ ≠ (.slice Ao63 y533.length co63 : Value).ownBlock ∧ k_ ≠ gb514 ∧ k_ ≠ gb520 ∧ k_ ≠ gb524) (.slice (some ad525) t511.length co10) t511):=⟨by (with_reducible repeat (first|apply Kd.N_alloc|apply Kd.N_drewN|apply Kd.N_drew));exact Kd.N_mono (Kd.N_far (p:=⟨gb524,1,none⟩) (Kd.N_mono HO_515001.out (fun k_ hk => (⟨hk,hk.1.2.2.2⟩ : _ ∧ k_ ≠ gb524))) (fun _ hk => hk.2) (.slice Ao63 y533.length co63)) (fun _ hk => ⟨hk.1.1.1,⟨hk.1.2,⟨hk.1.1.2.1,⟨hk.1.1.2.2.1,hk.1.1.2.2.2⟩⟩⟩⟩)⟩
            have n2_ : Aside0 (Kd.V (Kd.int .i64) 3 (w61.setCell ⟨gb524,1,none⟩ (.slice Ao63 y533.length co63)) w.heap.size (fun k_ => some k_ ≠ (.slice Ao8 y521.length co8 : Value).ownBlock ∧ some k_ ≠ (.slice (some ad525) t511.length co10 : Value).ownBlock ∧ some k_ ≠ (.slice Ao63 y533.length co63 : Value).ownBlock ∧ k_ ≠ gb514 ∧ k_ ≠ gb520 ∧ k_ ≠ gb524) (.slice A525_0 (rd_L3 t511 0).length c525_0) (rd_L3 t511 0)):=⟨by (with_reducible repeat (first|apply Kd.V_alloc|apply Kd.V_drewN|apply Kd.V_drew));exact Kd.V_mono (Kd.V_far (p:=⟨gb524,1,none⟩) (Kd.V_mono HL525_0.out (fun k_ hk => (⟨hk,hk.1.1.2.2.2⟩ : _ ∧ k_ ≠ gb524))) (fun _ hk => hk.2) (.slice Ao63 y533.length co63)) (fun _ hk => ⟨hk.1.1.1.1,⟨hk.1.1.2,⟨hk.1.2,⟨hk.1.1.1.2.1,⟨hk.1.1.1.2.2.1,hk.1.1.1.2.2.2⟩⟩⟩⟩⟩)⟩
            have n3_ : Aside0 (Kd.V (Kd.int .i64) 3 (w61.setCell ⟨gb524,1,none⟩ (.slice Ao63 y533.length co63)) w.heap.size (fun k_ => some k_ ≠ (.slice Ao8 y521.length co8 : Value).ownBlock ∧ some k_ ≠ (.slice (some ad525) t511.length co10 : Value).ownBlock ∧ some k_ ≠ (.slice Ao63 y533.length co63 : Value).ownBlock ∧ k_ ≠ gb514 ∧ k_ ≠ gb520 ∧ k_ ≠ gb524) (.slice A526_0 (rd_L3 t511 1).length c526_0) (rd_L3 t511 1)):=⟨by (with_reducible repeat (first|apply Kd.V_alloc|apply Kd.V_drewN|apply Kd.V_drew));exact Kd.V_mono (Kd.V_far (p:=⟨gb524,1,none⟩) (Kd.V_mono HL526_0.out (fun k_ hk => (⟨hk,hk.1.1.2.2.2⟩ : _ ∧ k_ ≠ gb524))) (fun _ hk => hk.2) (.slice Ao63 y533.length co63)) (fun _ hk => ⟨hk.1.1.1.1,⟨hk.1.1.2,⟨hk.1.2,⟨hk.1.1.1.2.1,⟨hk.1.1.1.2.2.1,hk.1.1.1.2.2.2⟩⟩⟩⟩⟩)⟩
            have n4_ : Aside0 (Kd.V (Kd.int .i64) 3 (w61.setCell ⟨gb524,1,none⟩ (.slice Ao63 y533.length co63)) w.heap.size (fun k_ => some k_ ≠ (.slice Ao8 y521.length co8 : Value).ownBlock ∧ some k_ ≠ (.slice (some ad525) t511.length co10 : Value).ownBlock ∧ some k_ ≠ (.slice Ao63 y533.length co63 : Value).ownBlock ∧ k_ ≠ gb514 ∧ k_ ≠ gb520 ∧ k_ ≠ gb524) (.slice A527_0 (rd_L3 t511 2).length c527_0) (rd_L3 t511 2)):=⟨by (with_reducible repeat (first|apply Kd.V_alloc|apply Kd.V_drewN|apply Kd.V_drew));exact Kd.V_mono (Kd.V_far (p:=⟨gb524,1,none⟩) (Kd.V_mono HL527_0.out (fun k_ hk => (⟨hk,hk.1.1.2.2.2⟩ : _ ∧ k_ ≠ gb524))) (fun _ hk => hk.2) (.slice Ao63 y533.length co63)) (fun _ hk => ⟨hk.1.1.1.1,⟨hk.1.1.2,⟨hk.1.2,⟨hk.1.1.1.2.1,⟨hk.1.1.1.2.2.1,hk.1.1.1.2.2.2⟩⟩⟩⟩⟩)⟩
            have n5_ : Aside0 (Kd.V (Kd.int .i64) 3 (w61.setCell ⟨gb524,1,none⟩ (.slice Ao63 y533.length co63)) w.heap.size (fun k_ => some k_ ≠ (.slice Ao8 y521.length co8 : Value).ownBlock ∧ some k_ ≠ (.slice (some ad525) t511.length co10 : Value).ownBlock ∧ some k_ ≠ (.slice Ao63 y533.length co63 : Value).ownBlock ∧ k_ ≠ gb514 ∧ k_ ≠ gb520 ∧ k_ ≠ gb524) (.slice A60 y528.length c60) y528):=⟨by (with_reducible repeat (first|apply Kd.V_alloc|apply Kd.V_drewN|apply Kd.V_drew));exact Kd.V_mono (Kd.V_far (p:=⟨gb524,1,none⟩) (Kd.V_mono HO532.out (fun k_ hk => (⟨hk,hk.1.1.2.2.2⟩ : _ ∧ k_ ≠ gb524))) (fun _ hk => hk.2) (.slice Ao63 y533.length co63)) (fun _ hk => ⟨hk.1.1.1.1,⟨hk.1.1.2,⟨hk.1.2,⟨hk.1.1.1.2.1,⟨hk.1.1.1.2.2.1,hk.1.1.1.2.2.2⟩⟩⟩⟩⟩)⟩
            have n6_ : Aside0 (Kd.N (Kd.slice 3 (Kd.int .i64)) 36 (w61.setCell ⟨gb524,1,none⟩ (.slice Ao63 y533.length co63)) w.heap.size (fun k_ => some k_ ≠ (.slice Ao8 y521.length co8 : Value).ownBlock ∧ some k_ ≠ (.slice (some ad525) t511.length co10 : Value).ownBlock ∧ k_ ≠ gb514 ∧ k_ ≠ gb520 ∧ k_ ≠ gb524) (.slice Ao63 y533.length co63) y533):=⟨by (with_reducible repeat (first|apply Kd.N_alloc|apply Kd.N_drewN|apply Kd.N_drew));exact Kd.N_mono (Kd.N_far (p:=⟨gb524,1,none⟩) (Kd.N_mono HO535.out (fun k_ hk => (⟨hk,hk.2.2.2.2⟩ : _ ∧ k_ ≠ gb524))) (fun _ hk => hk.2) (.slice Ao63 y533.length co63)) (fun _ hk => ⟨hk.1.1,⟨hk.1.2.1,⟨hk.1.2.2.1,⟨hk.1.2.2.2.1,hk.1.2.2.2.2⟩⟩⟩⟩)⟩
            have n7_ : Aside0 ((w61.setCell ⟨gb524,1,none⟩ (.slice Ao63 y533.length co63)).heap[gb514]? = some (.cells #[.slice Ao8 t508.length co8,.slice (some ad525) t511.length co10] 30 (0,0))):=⟨Q110⟩
            have n8_ : Aside0 ((w61.setCell ⟨gb524,1,none⟩ (.slice Ao63 y533.length co63)).heap[gb520]? = some (.cells #[.slice Ao8 y521.length co8,.slice (some ad525) t511.length co10] 30 (0,0))):=⟨Q109⟩
            have n9_ : Aside0 ((w61.setCell ⟨gb524,1,none⟩ (.slice Ao63 y533.length co63)).heap[gb524]? = some (.cells #[.slice Ao8 t508.length co8,.slice Ao63 y533.length co63] 30 (0,0))):=⟨Q99⟩
            have n10_ : Aside0 (Below w.heap.size w (w61.setCell ⟨gb524,1,none⟩ (.slice Ao63 y533.length co63))):=⟨Q22⟩
            (try clear HO523 HO_515000)
            (try clear HO_515001)
            (try clear HL525_0)
            (try clear HL526_0)
            (try clear HL527_0)
            (try clear HO532)
            (try clear HO535)
            (try clear BK514)
            (try clear BK520)
            (try clear BK524)
            (try clear HB)
            generalize (w61.setCell ⟨gb524,1,none⟩ (.slice Ao63 y533.length co63)) = w65 at m0_ n0_ n1_ n2_ n3_ n4_ n5_ n6_ n7_ n8_ n9_ n10_ ⊢
            have HO523:=n0_
            have HO_515000:=m0_
            have HO_515001:=n1_
            have HL525_0:=n2_
            have HL526_0:=n3_
            have HL527_0:=n4_
            have HO532:=n5_
            have HO535:=n6_
            have BK514:=n7_
            have BK520:=n8_
            have BK524:=n9_
            have HB:=n10_
            clear m0_ n0_ n1_ n2_ n3_ n4_ n5_ n6_ n7_ n8_ n9_ n10_
            have n0_:=aM (Kd.R_drew HO523.out)
            have m0_:=aM (Kd.R_drew HO_515000.out)
            have n1_:=aM (Kd.N_drew HO_515001.out)
            have n2_:=aM (Kd.V_drew HL525_0.out)
            have n3_:=aM (Kd.V_drew HL526_0.out)
            have n4_:=aM (Kd.V_drew HL527_0.out)
            have n5_:=aM (Kd.V_drew HO532.out)
            have n6_:=aM (Kd.N_drew HO535.out)
            have n7_:=aM (blk_drew BK514.out)
            have n8_:=aM (blk_drew BK520.out)
            have n9_:=aM (blk_drew BK524.out)
            have n10_:=aM (bD HB.out)
            clear HO523 HO_515000
            clear HO_515001
            clear HL525_0
            clear HL526_0
            clear HL527_0
            clear HO532
            clear HO535
            clear BK514
            clear BK520
            clear BK524
            clear HB
            have HO523:=n0_
            have HO_515000:=m0_
            have HO_515001:=n1_
            have HL525_0:=n2_
            have HL526_0:=n3_
            have HL527_0:=n4_
            have HO532:=n5_
            have HO535:=n6_
            have BK514:=n7_
            have BK520:=n8_
            have BK524:=n9_
            have HB:=n10_
            clear m0_ n0_ n1_ n2_ n3_ n4_ n5_ n6_ n7_ n8_ n9_ n10_
            have p536 : 0 ≤ ((ji36) : Int):=of_decide_eq_true Q5
            have q536 : (ji36) < (t508.length : Int):=of_decide_eq_true Q5
            obtain ⟨ad536,e536,hx536_0,hx536_1,hx536_2,hx536_3⟩:=at_T40 (Kd.R_reads' HO_515000.out).2.2 (ji36) p536 q536
            cases e536
            replace p536:=eq_true p536
            replace q536:=eq_true q536
            have p537 : 0 ≤ ((ji29) : Int):=of_decide_eq_true Q5
            have q537 : (ji29) < (t508.length : Int):=of_decide_eq_true Q5
            obtain ⟨ad537,e537,hx537_0,hx537_1,hx537_2,hx537_3⟩:=at_T40 (Kd.R_reads' HO_515000.out).2.2 (ji29) p537 q537
            obtain rfl : ad536 = ad537:=(by injection e537)
            replace p537:=eq_true p537
            replace q537:=eq_true q537
            have p539 : 0 ≤ (2 : Int):=Q14
            have q539 : 2 < (t511.length : Int):=of_decide_eq_true Q5
            obtain ⟨ad539,A539_0,c539_0,e539,hx539_0,hl539_0,hi539_0⟩:=at_L3 (Kd.N_reads' HO_515001.out).2.2 2 p539 q539
            obtain rfl : ad525 = ad539:=(by injection e539)
            obtain ⟨ce539,hce539,hMe539,hcc539⟩:=Kd.N_get HO_515001.out [] 2 p539 (by first|exact q539|exact of_decide_eq_true Q5|(have e_:=(Kd.N_reads' HO_515001.out).1;omega))
            obtain ⟨ua539_0,uc539_0,rfl,ul539_0,ge539_0⟩:=Kd.FK_slice_open hMe539
            have hv539_0:=hcc539 0 _ rfl
            rw [Nat.add_zero,show ((Kd.slice 3 (Kd.int .i64))).sz = 1 from rfl,Nat.mul_one] at hv539_0
            replace hv539_0:=Option.some.inj (hv539_0.symm.trans hx539_0)
            injection hv539_0 with hva_ hvn_ hvc_
            rw [hva_] at ge539_0
            rw [hvc_] at ul539_0
            have HL539_0:=aM (show Kd.V (Kd.int .i64) 3 _ w.heap.size _ _ (rd_L3 t511 2) from Kd.V_mk ul539_0 ge539_0)
            clear hva_ hvn_ hvc_ ge539_0 ul539_0
            clear hcc539 hce539
            (try simp only [show (2 : Int).toNat = 2 from rfl,Nat.reduceMul,Nat.reduceEqDiff,Go.Addr.add,↓reduceIte] at hx539_0)
            have qi539 : (2 < t511.length) = True:=eq_true Q14
            (try rw [show ((2 : Int)).toNat = 2 from rfl] at hx539_0)
            have HR539_0:=aM hi539_0
            have HC539_0:=aM hl539_0
            clear hi539_0 hl539_0
            replace p539:=eq_true p539
            replace q539:=eq_true q539
            refine start_ (n:=43) (S:=fun w' => w'.cell? ⟨gb514,0,none⟩ = some (.slice (some ad536) t508.length co8) ∧ w'.cell? ⟨gb514,1,none⟩ = some (.slice (some ad525) t511.length co10) ∧ w'.cell? ⟨gb524,0,none⟩ = some (.slice (some ad536) t508.length co8) ∧ w'.cell? ⟨gb524,1,none⟩ = some (.slice Ao63 y533.length co63) ∧ w'.cell? ⟨gb520,0,none⟩ = some (.slice (some ad536) y521.length co8) ∧ w'.cell? ⟨gb520,1,none⟩ = some (.slice (some ad525) t511.length co10) ∧ w'.cell? (ad536.add (((ji36)).toNat * 4)) = some (.int .i64 ((rd_T40 t508 (ji36)).f0)) ∧ w'.cell? ⟨(ad536.add (((ji36)).toNat * 4)).block,(ad536.add (((ji36)).toNat * 4)).off + 1,none⟩ = some (.int .i64 ((rd_T40 t508 (ji36)).f1.f0)) ∧ w'.cell? ⟨(ad536.add (((ji36)).toNat * 4)).block,(ad536.add (((ji36)).toNat * 4)).off + 2,none⟩ = some (.int .i64 ((rd_T40 t508 (ji36)).f1.f1)) ∧ w'.cell? ⟨(ad536.add (((ji36)).toNat * 4)).block,(ad536.add (((ji36)).toNat * 4)).off + 3,none⟩ = some (.int .i64 ((rd_T40 t508 (ji36)).f1.f2)) ∧ w'.cell? (ad536.add (((ji29)).toNat * 4)) = some (.int .i64 ((rd_T40 t508 (ji29)).f0)) ∧ w'.cell? ⟨(ad536.add (((ji29)).toNat * 4)).block,(ad536.add (((ji29)).toNat * 4)).off + 1,none⟩ = some (.int .i64 ((rd_T40 t508 (ji29)).f1.f0)) ∧ w'.cell? ⟨(ad536.add (((ji29)).toNat * 4)).block,(ad536.add (((ji29)).toNat * 4)).off + 2,none⟩ = some (.int .i64 ((rd_T40 t508 (ji29)).f1.f1)) ∧ w'.cell? ⟨(ad536.add (((ji29)).toNat * 4)).block,(ad536.add (((ji29)).toNat * 4)).off + 3,none⟩ = some (.int .i64 ((rd_T40 t508 (ji29)).f1.f2)) ∧ w'.cell? ⟨ad525.block,ad525.off + 2,none⟩ = some (.slice A539_0 (rd_L3 t511 2).length c539_0)) (ds:=[]) #[bF,bF,bF,bF,bF,bF,bF,bF,bF,bF,bF,bF,bF,bF,bF,bF,bF,bF,bF,bF,bF,bF,bF,bF,bF,bF,bF,bF,bF,bF,bF,bF,bF,bF,bF,bF,bF,bF,bF,bF,bF,bF,bF] Q13 rfl rfl ⟨(blk_cell BK514.out 0).trans rfl,(blk_cell BK514.out 1).trans rfl,(blk_cell BK524.out 0).trans rfl,(blk_cell BK524.out 1).trans rfl,(blk_cell BK520.out 0).trans rfl,(blk_cell BK520.out 1).trans rfl,hx536_0,hx536_1,hx536_2,hx536_3,hx537_0,hx537_1,hx537_2,hx537_3,hx539_0⟩ (fun hHeld => ?_);refine with_tabW laws_FnCertForm.tab17 laws_FnCertForm.bits17 (fun HT_ HW_ => ?_)
            generalize w65.drew = w66 at HO_515000 HO523 HO_515001 HL525_0 HL526_0 HL527_0 HO532 HO535 BK514 BK520 BK524 HB HL539_0 HR539_0 hx536_0 hx536_1 hx536_2 hx536_3 hx537_0 hx537_1 hx537_2 hx537_3 hx539_0 hHeld ⊢
            refine pS HT_ 0 74 ?_
            refine pS HT_ 2 76 ?_
            refine pS HT_ 3 77 ?_
            refine pS HT_ 8 82 ?_
            refine pS HT_ 10 84 ?_
            refine pS HT_ 11 85 ?_
            refine take_ (i:=1) (N:=some 75) (v:=?_) (a':=?_) #[bT,bT,bT,bT,bF,bF,bF,bF,bT,bF,bT,bT,bF,bF,bF,bF,bF,bF,bF,bF,bF,bF,bF,bF,bF,bF,bF,bF,bF,bF,bF,bF,bF,bF,bF,bF,bF,bF,bF,bF,bF,bF,bF] rfl rfl (take_ofW HT_.out HW_.out Q13) (fun _ _ _ h => h) (Or.inl ⟨Q67,?_⟩) hHeld ?_ ?_
            rotate_left
            ·rintro w' ⟨s0,s1,s2,s3,s4,s5,s6,s7,s8,s9,s10,s11,s12,s13,s14⟩
             (try simp only [Int.toNat_natCast] at s0 s1 s2 s3 s4 s5 s6 s7 s8 s9 s10 s11 s12 s13 s14)
             go_simp
             with_reducible rfl
            rotate_left
            ·simp only [Act.put,sI,sZ,sS,i64_w,i32_w]
             rfl
            refine pS HT_ 4 78 ?_
            refine pS HT_ 5 79 ?_
            refine take_ (i:=6) (N:=some 80) (v:=?_) (a':=?_) #[bT,bT,bT,bT,bT,bT,bT,bF,bT,bF,bT,bT,bF,bF,bF,bF,bF,bF,bF,bF,bF,bF,bF,bF,bF,bF,bF,bF,bF,bF,bF,bF,bF,bF,bF,bF,bF,bF,bF,bF,bF,bF,bF] rfl rfl (take_ofW HT_.out HW_.out Q13) (fun _ _ _ h => h) (Or.inl ⟨Q67,?_⟩) hHeld ?_ ?_
            rotate_left
            ·rintro w' ⟨s0,s1,s2,s3,s4,s5,s6,s7,s8,s9,s10,s11,s12,s13,s14⟩
             (try simp only [Int.toNat_natCast] at s0 s1 s2 s3 s4 s5 s6 s7 s8 s9 s10 s11 s12 s13 s14)
             go_simp
             with_reducible rfl
            rotate_left
            ·simp only [Act.put,sI,sZ,sS,i64_w,i32_w]
             rfl
            refine pS HT_ 7 81 ?_
            refine take_ (i:=9) (N:=some 83) (v:=?_) (a':=?_) #[bT,bT,bT,bT,bT,bT,bT,bT,bT,bT,bT,bT,bF,bF,bF,bF,bF,bF,bF,bF,bF,bF,bF,bF,bF,bF,bF,bF,bF,bF,bF,bF,bF,bF,bF,bF,bF,bF,bF,bF,bF,bF,bF] rfl rfl (take_ofW HT_.out HW_.out Q13) (fun _ _ _ h => h) (Or.inl ⟨Q67,?_⟩) hHeld ?_ ?_
            rotate_left
            ·rintro w' ⟨s0,s1,s2,s3,s4,s5,s6,s7,s8,s9,s10,s11,s12,s13,s14⟩
             (try simp only [Int.toNat_natCast] at s0 s1 s2 s3 s4 s5 s6 s7 s8 s9 s10 s11 s12 s13 s14)
             go_simp
             with_reducible rfl
            rotate_left
            ·simp only [Act.put,sI,sZ,sS,i64_w,i32_w]
             rfl
            refine pS HT_ 12 86 ?_
            refine pS HT_ 13 87 ?_
            refine take_ (i:=14) (N:=some 88) (v:=?_) (a':=?_) #[bT,bT,bT,bT,bT,bT,bT,bT,bT,bT,bT,bT,bT,bT,bT,bF,bF,bF,bF,bF,bF,bF,bF,bF,bF,bF,bF,bF,bF,bF,bF,bF,bF,bF,bF,bF,bF,bF,bF,bF,bF,bF,bF] rfl rfl (take_ofW HT_.out HW_.out Q13) (fun _ _ _ h => h) (Or.inl ⟨Q67,?_⟩) hHeld ?_ ?_
            rotate_left
            ·rintro w' ⟨s0,s1,s2,s3,s4,s5,s6,s7,s8,s9,s10,s11,s12,s13,s14⟩
             (try simp only [Int.toNat_natCast] at s0 s1 s2 s3 s4 s5 s6 s7 s8 s9 s10 s11 s12 s13 s14)
             go_simp
             with_reducible rfl
            rotate_left
            ·simp only [Act.put,sI,sZ,sS,i64_w,i32_w]
             rfl
            refine pS HT_ 15 89 ?_
            refine pS HT_ 16 90 ?_
            refine pS HT_ 17 91 ?_
            refine take_ (i:=18) (N:=some 92) (v:=?_) (a':=?_) #[bT,bT,bT,bT,bT,bT,bT,bT,bT,bT,bT,bT,bT,bT,bT,bT,bT,bT,bT,bF,bF,bF,bF,bF,bF,bF,bF,bF,bF,bF,bF,bF,bF,bF,bF,bF,bF,bF,bF,bF,bF,bF,bF] rfl rfl (take_ofW HT_.out HW_.out Q13) (fun _ _ _ h => h) (Or.inl ⟨Q67,?_⟩) hHeld ?_ ?_
            rotate_left
            ·rintro w' ⟨s0,s1,s2,s3,s4,s5,s6,s7,s8,s9,s10,s11,s12,s13,s14⟩
             (try simp only [Int.toNat_natCast] at s0 s1 s2 s3 s4 s5 s6 s7 s8 s9 s10 s11 s12 s13 s14)
             go_simp
             with_reducible rfl
            rotate_left
            ·simp only [Act.put,sI,sZ,sS,i64_w,i32_w]
             rfl
            refine pS HT_ 19 93 ?_
            refine pS HT_ 20 94 ?_
            refine pS HT_ 21 95 ?_
            refine pS HT_ 22 96 ?_
            refine pS HT_ 25 99 ?_
            refine take_ (i:=23) (N:=some 97) (v:=?_) (a':=?_) #[bT,bT,bT,bT,bT,bT,bT,bT,bT,bT,bT,bT,bT,bT,bT,bT,bT,bT,bT,bT,bT,bT,bT,bT,bF,bT,bF,bF,bF,bF,bF,bF,bF,bF,bF,bF,bF,bF,bF,bF,bF,bF,bF] rfl rfl (take_ofW HT_.out HW_.out Q13) (fun _ _ _ h => h) (Or.inl ⟨Q67,?_⟩) hHeld ?_ ?_
            rotate_left
            ·rintro w' ⟨s0,s1,s2,s3,s4,s5,s6,s7,s8,s9,s10,s11,s12,s13,s14⟩
             (try simp only [Int.toNat_natCast] at s0 s1 s2 s3 s4 s5 s6 s7 s8 s9 s10 s11 s12 s13 s14)
             go_simp
             with_reducible rfl
            rotate_left
            ·simp only [Act.put,sI,sZ,sS,i64_w,i32_w]
             rfl
            refine take_ (i:=26) (N:=some 100) (v:=?_) (a':=?_) #[bT,bT,bT,bT,bT,bT,bT,bT,bT,bT,bT,bT,bT,bT,bT,bT,bT,bT,bT,bT,bT,bT,bT,bT,bF,bT,bT,bF,bF,bF,bF,bF,bF,bF,bF,bF,bF,bF,bF,bF,bF,bF,bF] rfl rfl (take_ofW HT_.out HW_.out Q13) (fun _ _ _ h => h) (Or.inl ⟨Q67,?_⟩) hHeld ?_ ?_
            rotate_left
            ·rintro w' ⟨s0,s1,s2,s3,s4,s5,s6,s7,s8,s9,s10,s11,s12,s13,s14⟩
             (try simp only [Int.toNat_natCast] at s0 s1 s2 s3 s4 s5 s6 s7 s8 s9 s10 s11 s12 s13 s14)
             go_simp
             with_reducible rfl
            rotate_left
            ·simp only [Act.put,sI,sZ,sS,i64_w,i32_w]
             rfl
            refine pS HT_ 27 101 ?_
            refine take_ (i:=28) (N:=some 102) (v:=?_) (a':=?_) #[bT,bT,bT,bT,bT,bT,bT,bT,bT,bT,bT,bT,bT,bT,bT,bT,bT,bT,bT,bT,bT,bT,bT,bT,bF,bT,bT,bT,bT,bF,bF,bF,bF,bF,bF,bF,bF,bF,bF,bF,bF,bF,bF] rfl rfl (take_ofW HT_.out HW_.out Q13) (fun _ _ _ h => h) (Or.inl ⟨Q67,?_⟩) hHeld ?_ ?_
            rotate_left
            ·rintro w' ⟨s0,s1,s2,s3,s4,s5,s6,s7,s8,s9,s10,s11,s12,s13,s14⟩
             (try simp only [Int.toNat_natCast] at s0 s1 s2 s3 s4 s5 s6 s7 s8 s9 s10 s11 s12 s13 s14)
             go_simp
             with_reducible rfl
            rotate_left
            ·simp only [Act.put,sI,sZ,sS,i64_w,i32_w]
             rfl
            refine pS HT_ 29 103 ?_
            refine pS HT_ 30 104 ?_
            refine one_ (i:=24) (N:=some 98) #[bT,bT,bT,bT,bT,bT,bT,bT,bT,bT,bT,bT,bT,bT,bT,bT,bT,bT,bT,bT,bT,bT,bT,bT,bT,bT,bT,bT,bT,bT,bT,bF,bF,bF,bF,bF,bF,bF,bF,bF,bF,bF,bF] rfl rfl (one_of HT_.out Q13) Q37 (fun K hK => ?_)
            refine goes_ Try.func9 Q13 rfl #[.agg #[.slice (some ad536) t508.length co8,.slice Ao63 y533.length co63]] Q67 rfl rfl Q1 ?_
            with_reducible refine (impl_CertOk.calls k2 _ _ t508 _ _ y533 t538 _ ?side1 ?side2 ?side3 ?side4 A42.out).mono ?_
            (case side1 => exact Q90)
            (case side2 => exact (Kd.R_reads' HO_515000.out).2.1)
            (case side3 => exact Q131)
            (case side4 => exact (Kd.N_reads' HO535.out).2.1)
            rintro e w67 ⟨rfl,hb⟩
            have HS6_:=(hb.cell (World.block_lt_of_cell? _ _ (hHeld.2.2.2.2.2.2.1))).trans (hHeld.2.2.2.2.2.2.1)
            have HS7_:=(hb.cell (World.block_lt_of_cell? _ _ (hHeld.2.2.2.2.2.2.2.1))).trans (hHeld.2.2.2.2.2.2.2.1)
            have HS8_:=(hb.cell (World.block_lt_of_cell? _ _ (hHeld.2.2.2.2.2.2.2.2.1))).trans (hHeld.2.2.2.2.2.2.2.2.1)
            have HS9_:=(hb.cell (World.block_lt_of_cell? _ _ (hHeld.2.2.2.2.2.2.2.2.2.1))).trans (hHeld.2.2.2.2.2.2.2.2.2.1)
            have HS10_:=(hb.cell (World.block_lt_of_cell? _ _ (hHeld.2.2.2.2.2.2.2.2.2.2.1))).trans (hHeld.2.2.2.2.2.2.2.2.2.2.1)
            have HS11_:=(hb.cell (World.block_lt_of_cell? _ _ (hHeld.2.2.2.2.2.2.2.2.2.2.2.1))).trans (hHeld.2.2.2.2.2.2.2.2.2.2.2.1)
            have HS12_:=(hb.cell (World.block_lt_of_cell? _ _ (hHeld.2.2.2.2.2.2.2.2.2.2.2.2.1))).trans (hHeld.2.2.2.2.2.2.2.2.2.2.2.2.1)
            have HS13_:=(hb.cell (World.block_lt_of_cell? _ _ (hHeld.2.2.2.2.2.2.2.2.2.2.2.2.2.1))).trans (hHeld.2.2.2.2.2.2.2.2.2.2.2.2.2.1)
            have HS14_:=(hb.cell (World.block_lt_of_cell? _ _ (hHeld.2.2.2.2.2.2.2.2.2.2.2.2.2.2))).trans (hHeld.2.2.2.2.2.2.2.2.2.2.2.2.2.2)
            refine ⟨_,rfl,?_⟩
            have n0_:=aM (Kd.R_below (qR HO523) hb)
            have m0_:=aM (Kd.R_below (qR HO_515000) hb)
            have n1_:=aM (Kd.N_below (qN HO_515001) hb)
            have n2_:=aM (Kd.V_below (qV HL525_0) hb)
            have n3_:=aM (Kd.V_below (qV HL526_0) hb)
            have n4_:=aM (Kd.V_below (qV HL527_0) hb)
            have n5_:=aM (Kd.V_below (qV HO532) hb)
            have n6_:=aM (Kd.N_below (qN HO535) hb)
            have n7_:=aM (Kd.V_below (qV HL539_0) hb)
            have n8_:=aM (blk_below (g:=gb514) (o:=.cells #[.slice (some ad536) t508.length co8,.slice (some ad525) t511.length co10] 30 (0,0)) (qk BK514) hb)
            have n9_:=aM (blk_below (g:=gb520) (o:=.cells #[.slice (some ad536) y521.length co8,.slice (some ad525) t511.length co10] 30 (0,0)) (qk BK520) hb)
            have n10_:=aM (blk_below (g:=gb524) (o:=.cells #[.slice (some ad536) t508.length co8,.slice Ao63 y533.length co63] 30 (0,0)) (qk BK524) hb)
            have n11_:=aM (Kd.C_below Q58 hb)
            have n12_:=aM (below_step Q22 hb)
            clear HO523 HO_515000
            clear HO_515001
            clear HL525_0
            clear HL526_0
            clear HL527_0
            clear HO532
            clear HO535
            clear HL539_0
            clear BK514
            clear BK520
            clear BK524
            clear HR539_0
            clear HB
            have HO523:=n0_
            have HO_515000:=m0_
            have HO_515001:=n1_
            have HL525_0:=n2_
            have HL526_0:=n3_
            have HL527_0:=n4_
            have HO532:=n5_
            have HO535:=n6_
            have HL539_0:=n7_
            have BK514:=n8_
            have BK520:=n9_
            have BK524:=n10_
            have HR539_0:=n11_
            have HB:=n12_
            clear m0_ n0_ n1_ n2_ n3_ n4_ n5_ n6_ n7_ n8_ n9_ n10_ n11_ n12_
            (try clear hb)
            (try clear hb2)
            (try clear hk)
            (try clear hi)
            refine hK.out _ _ ⟨(blk_cell BK514.out 0).trans rfl,(blk_cell BK514.out 1).trans rfl,(blk_cell BK524.out 0).trans rfl,(blk_cell BK524.out 1).trans rfl,(blk_cell BK520.out 0).trans rfl,(blk_cell BK520.out 1).trans rfl,HS6_,HS7_,HS8_,HS9_,HS10_,HS11_,HS12_,HS13_,HS14_⟩ (fun hHeld => ?_)
            clear hK K
            refine norm_ (a':=?_) ?_ ?_
            rotate_left
            ·show Act.put _ (some 98) _ = _
             simp only [Act.put,sI,sZ,sS,i64_w,i32_w]
             rfl
            refine pS HT_ 31 105 ?_
            refine pS HT_ 32 106 ?_
            refine pS HT_ 33 107 ?_
            refine take_ (i:=34) (N:=some 108) (v:=?_) (a':=?_) #[bT,bT,bT,bT,bT,bT,bT,bT,bT,bT,bT,bT,bT,bT,bT,bT,bT,bT,bT,bT,bT,bT,bT,bT,bT,bT,bT,bT,bT,bT,bT,bT,bT,bT,bT,bF,bF,bF,bF,bF,bF,bF,bF] rfl rfl (take_ofW HT_.out HW_.out Q13) (fun _ _ _ h => h) (Or.inl ⟨Q67,?_⟩) hHeld ?_ ?_
            rotate_left
            ·rintro w' ⟨s0,s1,s2,s3,s4,s5,s6,s7,s8,s9,s10,s11,s12,s13,s14⟩
             (try simp only [Int.toNat_natCast] at s0 s1 s2 s3 s4 s5 s6 s7 s8 s9 s10 s11 s12 s13 s14)
             go_simp
             with_reducible rfl
            rotate_left
            ·simp only [Act.put,sI,sZ,sS,i64_w,i32_w]
             rfl
            refine one_ (i:=35) (N:=some 109) #[bT,bT,bT,bT,bT,bT,bT,bT,bT,bT,bT,bT,bT,bT,bT,bT,bT,bT,bT,bT,bT,bT,bT,bT,bT,bT,bT,bT,bT,bT,bT,bT,bT,bT,bT,bT,bF,bF,bF,bF,bF,bF,bF] rfl rfl (one_of HT_.out Q13) Q37 (fun K hK => ?_)
            refine goes_ Try.func9 Q13 rfl #[.agg #[.slice (some ad536) y521.length co8,.slice (some ad525) t511.length co10]] Q67 rfl rfl Q1 ?_
            with_reducible refine (impl_CertOk.calls k2 _ _ y521 _ _ t511 true _ ?side1 ?side2 ?side3 ?side4 A44.out).mono ?_
            (case side1 => exact Q128)
            (case side2 => exact (Kd.R_reads' HO523.out).2.1)
            (case side3 => exact Q91)
            (case side4 => exact (Kd.N_reads' HO_515001.out).2.1)
            rintro e w68 ⟨rfl,hb⟩
            have HS6_:=(hb.cell (World.block_lt_of_cell? _ _ (hHeld.2.2.2.2.2.2.1))).trans (hHeld.2.2.2.2.2.2.1)
            have HS7_:=(hb.cell (World.block_lt_of_cell? _ _ (hHeld.2.2.2.2.2.2.2.1))).trans (hHeld.2.2.2.2.2.2.2.1)
            have HS8_:=(hb.cell (World.block_lt_of_cell? _ _ (hHeld.2.2.2.2.2.2.2.2.1))).trans (hHeld.2.2.2.2.2.2.2.2.1)
            have HS9_:=(hb.cell (World.block_lt_of_cell? _ _ (hHeld.2.2.2.2.2.2.2.2.2.1))).trans (hHeld.2.2.2.2.2.2.2.2.2.1)
            have HS10_:=(hb.cell (World.block_lt_of_cell? _ _ (hHeld.2.2.2.2.2.2.2.2.2.2.1))).trans (hHeld.2.2.2.2.2.2.2.2.2.2.1)
            have HS11_:=(hb.cell (World.block_lt_of_cell? _ _ (hHeld.2.2.2.2.2.2.2.2.2.2.2.1))).trans (hHeld.2.2.2.2.2.2.2.2.2.2.2.1)
            have HS12_:=(hb.cell (World.block_lt_of_cell? _ _ (hHeld.2.2.2.2.2.2.2.2.2.2.2.2.1))).trans (hHeld.2.2.2.2.2.2.2.2.2.2.2.2.1)
            have HS13_:=(hb.cell (World.block_lt_of_cell? _ _ (hHeld.2.2.2.2.2.2.2.2.2.2.2.2.2.1))).trans (hHeld.2.2.2.2.2.2.2.2.2.2.2.2.2.1)
            have HS14_:=(hb.cell (World.block_lt_of_cell? _ _ (hHeld.2.2.2.2.2.2.2.2.2.2.2.2.2.2))).trans (hHeld.2.2.2.2.2.2.2.2.2.2.2.2.2.2)
            refine ⟨_,rfl,?_⟩
            have n0_:=aM (Kd.R_below (qR HO523) hb)
            have m0_:=aM (Kd.R_below (qR HO_515000) hb)
            have n1_:=aM (Kd.N_below (qN HO_515001) hb)
            have n2_:=aM (Kd.V_below (qV HL525_0) hb)
            have n3_:=aM (Kd.V_below (qV HL526_0) hb)
            have n4_:=aM (Kd.V_below (qV HL527_0) hb)
            have n5_:=aM (Kd.V_below (qV HO532) hb)
            have n6_:=aM (Kd.N_below (qN HO535) hb)
            have n7_:=aM (Kd.V_below (qV HL539_0) hb)
            have n8_:=aM (blk_below (g:=gb514) (o:=.cells #[.slice (some ad536) t508.length co8,.slice (some ad525) t511.length co10] 30 (0,0)) (qk BK514) hb)
            have n9_:=aM (blk_below (g:=gb520) (o:=.cells #[.slice (some ad536) y521.length co8,.slice (some ad525) t511.length co10] 30 (0,0)) (qk BK520) hb)
            have n10_:=aM (blk_below (g:=gb524) (o:=.cells #[.slice (some ad536) t508.length co8,.slice Ao63 y533.length co63] 30 (0,0)) (qk BK524) hb)
            have n11_:=aM (Kd.C_below Q58 hb)
            have n12_:=aM (below_step Q22 hb)
            clear HO523 HO_515000
            clear HO_515001
            clear HL525_0
            clear HL526_0
            clear HL527_0
            clear HO532
            clear HO535
            clear HL539_0
            clear BK514
            clear BK520
            clear BK524
            clear HR539_0
            clear HB
            have HO523:=n0_
            have HO_515000:=m0_
            have HO_515001:=n1_
            have HL525_0:=n2_
            have HL526_0:=n3_
            have HL527_0:=n4_
            have HO532:=n5_
            have HO535:=n6_
            have HL539_0:=n7_
            have BK514:=n8_
            have BK520:=n9_
            have BK524:=n10_
            have HR539_0:=n11_
            have HB:=n12_
            clear m0_ n0_ n1_ n2_ n3_ n4_ n5_ n6_ n7_ n8_ n9_ n10_ n11_ n12_
            (try clear hb)
            (try clear hb2)
            (try clear hk)
            (try clear hi)
            refine hK.out _ _ ⟨(blk_cell BK514.out 0).trans rfl,(blk_cell BK514.out 1).trans rfl,(blk_cell BK524.out 0).trans rfl,(blk_cell BK524.out 1).trans rfl,(blk_cell BK520.out 0).trans rfl,(blk_cell BK520.out 1).trans rfl,HS6_,HS7_,HS8_,HS9_,HS10_,HS11_,HS12_,HS13_,HS14_⟩ (fun hHeld => ?_)
            clear hK K
            refine norm_ (a':=?_) ?_ ?_
            rotate_left
            ·show Act.put _ (some 109) _ = _
             simp only [Act.put,sI,sZ,sS,i64_w,i32_w]
             rfl
            refine pS HT_ 36 110 ?_
            refine pS HT_ 37 111 ?_
            refine pS HT_ 38 112 ?_
            refine pS HT_ 39 113 ?_
            refine pS HT_ 40 114 ?_
            refine pS HT_ 41 115 ?_
            refine pS HT_ 42 2 ?_
            refine done_ (done_of HT_.out Q13) ?_
            try go_wp2
            go_ret
            exact ⟨Q113,Q22⟩
           ·replace c45:=Bool.eq_false_iff.mpr c45
            subst c45
            have H1 : (some true) = some r:=by rw [if_neg (show ¬ (false = true) by decide)] at H;exact H
            clear H
            have H:=H1
            clear H1
            obtain rfl:=Option.some.inj H
            have hcz69_0 : wr.cell? ⟨gb514,0,none⟩ = some (.slice Ao8 t508.length co8):=(blk_cell BK514.out 0).trans rfl
            have hcz69_1 : wr.cell? ⟨gb514,1,none⟩ = some (.slice Ao10 t511.length co10):=(blk_cell BK514.out 1).trans rfl
            have hfz69_0:=blk_frozen BK514.out 0
            have hfz69_1:=blk_frozen BK514.out 1
            try go_wp2_with (first|((with_reducible refine gate_dst (N:=7) rfl ?_);(try (refine gate_guard Q67 ?_;dsimp only));refine box_event ?hg (N:=7) ?hd (cs:=#[.slice none 0 0,.slice none 0 0]) (t:=30) ?hr ?_;(case hd => rfl);(case hg => rfl);(case hr => exact Q15);intro gb520 hg w70 hbox hb;have n0_:=aM (Kd.R_below (qR HO_515000) hb);have n1_:=aM (Kd.N_below (Kd.N_elderB (qN HO_515001) gb520 (Nat.le_of_eq hg.symm)) hb);have n2_:=aM (blk_below (g:=gb514) (o:=.cells #[.slice Ao8 t508.length co8,.slice Ao10 t511.length co10] 30 (0,0)) (qk BK514) hb);have n3_:=aM (below_step Q29 hb);have n4_:=aM (hbox);have n5_:=aM ((by rw [hg];exact (below_size Q29) : w.heap.size ≤ gb520));have n6_:=aM ((by rw [hg];exact (below_size Q29) : w.heap.size ≤ gb520));have n7_:=aM ((Q147 : gb514 ≠ gb520));have n8_:=aM ((Q148 : gb520 ≠ gb514));clear HO_515000;clear HO_515001;clear BK514;clear HB;have HO_515000:=n0_;have HO_515001:=n1_;have BK514:=n2_;have HB:=n3_;have BK520:=n4_;have GW520:=n5_;have GE520:=n6_;have NB514_520:=n7_;have NB520_514:=n8_;clear n0_ n1_ n2_ n3_ n4_ n5_ n6_ n7_ n8_;clear hb hbox hg;have hnb71:=NB520_514.out;have hnc71:=NB514_520.out;have hcz72_0 : w70.cell? ⟨gb520,0,none⟩ = some (.slice none 0 0):=(blk_cell BK520.out 0).trans rfl;have hcz72_1 : w70.cell? ⟨gb520,1,none⟩ = some (.slice none 0 0):=(blk_cell BK520.out 1).trans rfl;have hfz72_0:=blk_frozen BK520.out 0;have hfz72_1:=blk_frozen BK520.out 1)|((with_reducible refine gate_store (t:=30) (p:=7) rfl ?_);refine store_event (t:=30) (p:=7) (v:=?vo_w73) (w1:=((w70.setCell ⟨gb520,0,none⟩ (.slice Ao8 t508.length co8)).setCell ⟨gb520,1,none⟩ (.slice Ao10 t511.length co10))) ?hg ?ho ?hn ?hr ?_;(case ho => rfl);(case hg => rfl);(case hn => rfl);(case hr => exact Q15);intro w73 hw;have n0_ : Aside0 (Kd.R k40 40 w73 w.heap.size (fun _ => True) (.slice Ao8 t508.length co8) t508):=⟨Q88⟩;have n1_ : Aside0 (Kd.N (Kd.slice 3 (Kd.int .i64)) 36 w73 w.heap.size (fun k_ => some k_ ≠ (.slice Ao8 t508.length co8 : Value).ownBlock ∧ k_ ≠ gb514 ∧ k_ ≠ gb520) (.slice Ao10 t511.length co10) t511):=⟨Q72⟩;have n2_ : Aside0 (w73.heap[gb514]? = some (.cells #[.slice Ao8 t508.length co8,.slice Ao10 t511.length co10] 30 (0,0))):=⟨(by rw [hw];exact Q81)⟩;have n3_ : Aside0 (w73.heap[gb520]? = some (.cells #[.slice Ao8 t508.length co8,.slice Ao10 t511.length co10] 30 (0,0))):=⟨(by rw [hw];exact Q69)⟩;have n4_ : Aside0 (Below w.heap.size w w73):=⟨(by rw [hw];exact Q41)⟩;clear hw;clear HO_515000;clear HO_515001;clear BK514;clear BK520;clear HB;have HO_515000:=n0_;have HO_515001:=n1_;have BK514:=n2_;have BK520:=n3_;have HB:=n4_;clear n0_ n1_ n2_ n3_ n4_;have hcz74_0 : w73.cell? ⟨gb514,0,none⟩ = some (.slice Ao8 t508.length co8):=(blk_cell BK514.out 0).trans rfl;have hcz74_1 : w73.cell? ⟨gb514,1,none⟩ = some (.slice Ao10 t511.length co10):=(blk_cell BK514.out 1).trans rfl;have hfz74_0:=blk_frozen BK514.out 0;have hfz74_1:=blk_frozen BK514.out 1;have q75 : ((ji29) : Int) ≤ ((t508.length : Int) : Int):=of_decide_eq_true Q5;obtain ⟨i075,hi075,_,hsz75,_⟩:=info_parts info40;have hcut75:=cut_to (P:=Try.prog) 28 40 .i64 Try.underlying28 hi075 Ao8 t508.length co8 (ji29) (of_decide_eq_true Q5) q75 (Kd.R_reads' HO_515000.out).2.1;have hr75:=Kd.R_take (m:=((ji29) : Int).toNat) HO_515000.out Q14;have hy75 : y521.length = ((ji29) : Int).toNat:=(by rw [Ny521.out,List.length_take];omega);rw [← Ny521.out] at hr75;rw [← hy75] at hr75 hcut75;clear hy75 hi075 hsz75;have HO523:=aM hr75;clear hr75;replace q75:=eq_true q75;have hcz76_0 : w73.cell? ⟨gb520,0,none⟩ = some (.slice Ao8 t508.length co8):=(blk_cell BK520.out 0).trans rfl;have hcz76_1 : w73.cell? ⟨gb520,1,none⟩ = some (.slice Ao10 t511.length co10):=(blk_cell BK520.out 1).trans rfl;have hfz76_0:=blk_frozen BK520.out 0;have hfz76_1:=blk_frozen BK520.out 1)|((with_reducible refine gate_dst (N:=8) rfl ?_);(try (refine gate_guard Q67 ?_;dsimp only));refine box_event ?hg (N:=8) ?hd (cs:=#[.slice none 0 0,.slice none 0 0]) (t:=30) ?hr ?_;(case hd => rfl);(case hg => rfl);(case hr => exact Q15);intro gb524 hg w77 hbox hb;have n0_:=aM (Kd.R_below Q108 hb);have m0_:=aM (Kd.R_below Q106 hb);have n1_:=aM (Kd.N_below (Kd.N_elderB Q103 gb524 (Nat.le_of_eq hg.symm)) hb);have n2_:=aM (blk_below (g:=gb514) (o:=.cells #[.slice Ao8 t508.length co8,.slice Ao10 t511.length co10] 30 (0,0)) Q39 hb);have n3_:=aM (blk_below (g:=gb520) (o:=.cells #[.slice Ao8 y521.length co8,.slice Ao10 t511.length co10] 30 (0,0)) Q34 hb);have n4_:=aM (below_step Q41 hb);have n5_:=aM (hbox);have n6_:=aM ((by rw [hg];exact (below_size Q41) : w.heap.size ≤ gb524));have n7_:=aM ((by rw [hg];exact (below_size Q41) : w.heap.size ≤ gb524));have n8_:=aM ((Q152 : gb514 ≠ gb524));have n9_:=aM ((Q154 : gb524 ≠ gb514));have n10_:=aM ((Q151 : gb520 ≠ gb524));have n11_:=aM ((Q153 : gb524 ≠ gb520));clear HO523 HO_515000;clear HO_515001;clear BK514;clear BK520;clear HB;have HO523:=n0_;have HO_515000:=m0_;have HO_515001:=n1_;have BK514:=n2_;have BK520:=n3_;have HB:=n4_;have BK524:=n5_;have GW524:=n6_;have GE524:=n7_;have NB514_524:=n8_;have NB524_514:=n9_;have NB520_524:=n10_;have NB524_520:=n11_;clear m0_ n0_ n1_ n2_ n3_ n4_ n5_ n6_ n7_ n8_ n9_ n10_ n11_;clear hb hbox hg;have hnb78:=NB524_514.out;have hnc78:=NB514_524.out;have hnb79:=NB524_520.out;have hnc79:=NB520_524.out;have hcz80_0 : w77.cell? ⟨gb524,0,none⟩ = some (.slice none 0 0):=(blk_cell BK524.out 0).trans rfl;have hcz80_1 : w77.cell? ⟨gb524,1,none⟩ = some (.slice none 0 0):=(blk_cell BK524.out 1).trans rfl;have hfz80_0:=blk_frozen BK524.out 0;have hfz80_1:=blk_frozen BK524.out 1))
            have n0_ : Aside0 (Kd.R k40 40 ((w77.setCell ⟨gb524,0,none⟩ (.slice Ao8 t508.length co8)).setCell ⟨gb524,1,none⟩ (.slice Ao10 t511.length co10)) w.heap.size (fun _ => True) (.slice Ao8 y521.length co8) y521):=⟨Q96⟩
            have m0_ : Aside0 (Kd.R k40 40 ((w77.setCell ⟨gb524,0,none⟩ (.slice Ao8 t508.length co8)).setCell ⟨gb524,1,none⟩ (.slice Ao10 t511.length co10)) w.heap.size (fun _ => True) (.slice Ao8 t508.length co8) t508):=⟨Q95⟩
            have n1_ : Aside0 (Kd.N (Kd.slice 3 (Kd.int .i64)) 36 ((w77.setCell ⟨gb524,0,none⟩ (.slice Ao8 t508.length co8)).setCell ⟨gb524,1,none⟩ (.slice Ao10 t511.length co10)) w.heap.size (fun k_ => some k_ ≠ (.slice Ao8 y521.length co8 : Value).ownBlock ∧ k_ ≠ gb514 ∧ k_ ≠ gb520 ∧ k_ ≠ gb524) (.slice Ao10 t511.length co10) t511):=⟨Q71⟩
            have n2_ : Aside0 (((w77.setCell ⟨gb524,0,none⟩ (.slice Ao8 t508.length co8)).setCell ⟨gb524,1,none⟩ (.slice Ao10 t511.length co10)).heap[gb514]? = some (.cells #[.slice Ao8 t508.length co8,.slice Ao10 t511.length co10] 30 (0,0))):=⟨Q80⟩
            have n3_ : Aside0 (((w77.setCell ⟨gb524,0,none⟩ (.slice Ao8 t508.length co8)).setCell ⟨gb524,1,none⟩ (.slice Ao10 t511.length co10)).heap[gb520]? = some (.cells #[.slice Ao8 y521.length co8,.slice Ao10 t511.length co10] 30 (0,0))):=⟨Q79⟩
            have n4_ : Aside0 (((w77.setCell ⟨gb524,0,none⟩ (.slice Ao8 t508.length co8)).setCell ⟨gb524,1,none⟩ (.slice Ao10 t511.length co10)).heap[gb524]? = some (.cells #[.slice Ao8 t508.length co8,.slice Ao10 t511.length co10] 30 (0,0))):=⟨Q68⟩
            have n5_ : Aside0 (Below w.heap.size w ((w77.setCell ⟨gb524,0,none⟩ (.slice Ao8 t508.length co8)).setCell ⟨gb524,1,none⟩ (.slice Ao10 t511.length co10))):=⟨Q22⟩
            (try clear HO523 HO_515000)
            (try clear HO_515001)
            (try clear BK514)
            (try clear BK520)
            (try clear BK524)
            (try clear HB)
            generalize ((w77.setCell ⟨gb524,0,none⟩ (.slice Ao8 t508.length co8)).setCell ⟨gb524,1,none⟩ (.slice Ao10 t511.length co10)) = w81 at m0_ n0_ n1_ n2_ n3_ n4_ n5_ ⊢
            have HO523:=n0_
            have HO_515000:=m0_
            have HO_515001:=n1_
            have BK514:=n2_
            have BK520:=n3_
            have BK524:=n4_
            have HB:=n5_
            clear m0_ n0_ n1_ n2_ n3_ n4_ n5_
            have n0_:=aM (Kd.R_drew HO523.out)
            have m0_:=aM (Kd.R_drew HO_515000.out)
            have n1_:=aM (Kd.N_drew HO_515001.out)
            have n2_:=aM (blk_drew BK514.out)
            have n3_:=aM (blk_drew BK520.out)
            have n4_:=aM (blk_drew BK524.out)
            have n5_:=aM (bD HB.out)
            clear HO523 HO_515000
            clear HO_515001
            clear BK514
            clear BK520
            clear BK524
            clear HB
            have HO523:=n0_
            have HO_515000:=m0_
            have HO_515001:=n1_
            have BK514:=n2_
            have BK520:=n3_
            have BK524:=n4_
            have HB:=n5_
            clear m0_ n0_ n1_ n2_ n3_ n4_ n5_
            have p525 : 0 ≤ (0 : Int):=Q14
            have q525 : 0 < (t511.length : Int):=of_decide_eq_true Q5
            obtain ⟨ad525,A525_0,c525_0,e525,hx525_0,hl525_0,hi525_0⟩:=at_L3 (Kd.N_reads' HO_515001.out).2.2 0 p525 q525
            cases e525
            obtain ⟨ce525,hce525,hMe525,hcc525⟩:=Kd.N_get HO_515001.out [] 0 p525 (by first|exact q525|exact of_decide_eq_true Q5|(have e_:=(Kd.N_reads' HO_515001.out).1;omega))
            obtain ⟨ua525_0,uc525_0,rfl,ul525_0,ge525_0⟩:=Kd.FK_slice_open hMe525
            have hv525_0:=hcc525 0 _ rfl
            rw [Nat.add_zero,show ((Kd.slice 3 (Kd.int .i64))).sz = 1 from rfl,Nat.mul_one] at hv525_0
            replace hv525_0:=Option.some.inj (hv525_0.symm.trans hx525_0)
            injection hv525_0 with hva_ hvn_ hvc_
            rw [hva_] at ge525_0
            rw [hvc_] at ul525_0
            have HL525_0:=aM (show Kd.V (Kd.int .i64) 3 _ w.heap.size _ _ (rd_L3 t511 0) from Kd.V_mk ul525_0 ge525_0)
            clear hva_ hvn_ hvc_ ge525_0 ul525_0
            clear hcc525 hce525
            have qi525 : (0 < t511.length) = True:=eq_true Q14
            (try rw [show ((0 : Int)).toNat = 0 from rfl] at hx525_0)
            (try rw [Addr.add_zero'] at hx525_0)
            have HR525_0:=aM hi525_0
            have HC525_0:=aM hl525_0
            clear hi525_0 hl525_0
            replace p525:=eq_true p525
            replace q525:=eq_true q525
            have p526 : 0 ≤ (1 : Int):=Q14
            have q526 : 1 < (t511.length : Int):=of_decide_eq_true Q5
            obtain ⟨ad526,A526_0,c526_0,e526,hx526_0,hl526_0,hi526_0⟩:=at_L3 (Kd.N_reads' HO_515001.out).2.2 1 p526 q526
            obtain rfl : ad525 = ad526:=(by injection e526)
            obtain ⟨ce526,hce526,hMe526,hcc526⟩:=Kd.N_get HO_515001.out [] 1 p526 (by first|exact q526|exact of_decide_eq_true Q5|(have e_:=(Kd.N_reads' HO_515001.out).1;omega))
            obtain ⟨ua526_0,uc526_0,rfl,ul526_0,ge526_0⟩:=Kd.FK_slice_open hMe526
            have hv526_0:=hcc526 0 _ rfl
            rw [Nat.add_zero,show ((Kd.slice 3 (Kd.int .i64))).sz = 1 from rfl,Nat.mul_one] at hv526_0
            replace hv526_0:=Option.some.inj (hv526_0.symm.trans hx526_0)
            injection hv526_0 with hva_ hvn_ hvc_
            rw [hva_] at ge526_0
            rw [hvc_] at ul526_0
            have HL526_0:=aM (show Kd.V (Kd.int .i64) 3 _ w.heap.size _ _ (rd_L3 t511 1) from Kd.V_mk ul526_0 ge526_0)
            clear hva_ hvn_ hvc_ ge526_0 ul526_0
            clear hcc526 hce526
            (try simp only [show (1 : Int).toNat = 1 from rfl,Nat.reduceMul,Nat.reduceEqDiff,Go.Addr.add,↓reduceIte] at hx526_0)
            have qi526 : (1 < t511.length) = True:=eq_true Q14
            (try rw [show ((1 : Int)).toNat = 1 from rfl] at hx526_0)
            have HR526_0:=aM hi526_0
            have HC526_0:=aM hl526_0
            clear hi526_0 hl526_0
            replace p526:=eq_true p526
            replace q526:=eq_true q526
            have p527 : 0 ≤ (2 : Int):=Q14
            have q527 : 2 < (t511.length : Int):=of_decide_eq_true Q5
            obtain ⟨ad527,A527_0,c527_0,e527,hx527_0,hl527_0,hi527_0⟩:=at_L3 (Kd.N_reads' HO_515001.out).2.2 2 p527 q527
            obtain rfl : ad525 = ad527:=(by injection e527)
            obtain ⟨ce527,hce527,hMe527,hcc527⟩:=Kd.N_get HO_515001.out [] 2 p527 (by first|exact q527|exact of_decide_eq_true Q5|(have e_:=(Kd.N_reads' HO_515001.out).1;omega))
            obtain ⟨ua527_0,uc527_0,rfl,ul527_0,ge527_0⟩:=Kd.FK_slice_open hMe527
            have hv527_0:=hcc527 0 _ rfl
            rw [Nat.add_zero,show ((Kd.slice 3 (Kd.int .i64))).sz = 1 from rfl,Nat.mul_one] at hv527_0
            replace hv527_0:=Option.some.inj (hv527_0.symm.trans hx527_0)
            injection hv527_0 with hva_ hvn_ hvc_
            rw [hva_] at ge527_0
            rw [hvc_] at ul527_0
            have HL527_0:=aM (show Kd.V (Kd.int .i64) 3 _ w.heap.size _ _ (rd_L3 t511 2) from Kd.V_mk ul527_0 ge527_0)
            clear hva_ hvn_ hvc_ ge527_0 ul527_0
            clear hcc527 hce527
            (try simp only [show (2 : Int).toNat = 2 from rfl,Nat.reduceMul,Nat.reduceEqDiff,Go.Addr.add,↓reduceIte] at hx527_0)
            have qi527 : (2 < t511.length) = True:=eq_true Q14
            (try rw [show ((2 : Int)).toNat = 2 from rfl] at hx527_0)
            have HR527_0:=aM hi527_0
            have HC527_0:=aM hl527_0
            clear hi527_0 hl527_0
            replace p527:=eq_true p527
            replace q527:=eq_true q527
            have q83 : (1 : Int) ≤ (((rd_L3 t511 2).length : Int) : Int):=of_decide_eq_true Q5
            obtain ⟨i083,hi083,_,hsz83,_⟩:=info_parts info3
            have hroom83 : (rd_L3 t511 2).length ≤ c527_0:=HC527_0.out
            have hC83 : Kd.F (Kd.int .i64) _ _ A527_0 (rd_L3 t511 2).length (rd_L3 t511 2):=(Kd.V_at (base:=w.heap.size) HL527_0.out).2.2
            have hcut83:=cut_from (P:=Try.prog) 36 3 .i64 Try.underlying36 hi083 1 hsz83 A527_0 (rd_L3 t511 2).length c527_0 1 Q14 q83
            have hr83:=Kd.F_cut (m:=(1 : Int).toNat) (c:=c527_0) hC83 Q14 hroom83
            obtain ⟨A83,hA83⟩ : ∃ A1,A1 = (if c527_0 = (1 : Int).toNat then A527_0 else (A527_0 : Option Addr).map (·.add ((1 : Int).toNat * 1))):=⟨_,rfl⟩
            obtain ⟨c83,hc83⟩ : ∃ c1,c1 = c527_0 - (1 : Int).toNat:=⟨_,rfl⟩
            have hy83 : y528.length = (rd_L3 t511 2).length - (1 : Int).toNat:=(by rw [Ny528.out,List.length_drop] <;> omega)
            rw [show (rd_L3 t511 2).drop (1 : Int).toNat = y528 from Ny528.out.symm] at hr83
            replace hr83 : Kd.F (Kd.int .i64) _ _ A83 y528.length y528:=(by rw [hA83];exact hr83)
            rw [← hy83,← hA83,← hc83] at hcut83
            have HO532:=aM (show Kd.V (Kd.int .i64) 3 _ w.heap.size _ (.slice A83 y528.length c83) y528 from Kd.V_mk (by rw [hy83,hc83];exact Nat.sub_le_sub_right hroom83 _) hr83)
            have HC532:=aM (show y528.length ≤ c83 from by rw [hy83,hc83];exact Nat.sub_le_sub_right hroom83 _)
            clear hr83 hC83 hroom83 hi083 hsz83 hc83
            have KY83:=aM hy83
            have KA83:=aM hA83
            clear hy83 hA83
            replace q83:=eq_true q83
            refine start_ (n:=16) (S:=fun w' => w'.cell? ⟨gb514,0,none⟩ = some (.slice Ao8 t508.length co8) ∧ w'.cell? ⟨gb514,1,none⟩ = some (.slice (some ad525) t511.length co10) ∧ w'.cell? ad525 = some (.slice A525_0 (rd_L3 t511 0).length c525_0) ∧ w'.cell? ⟨ad525.block,ad525.off + 1,none⟩ = some (.slice A526_0 (rd_L3 t511 1).length c526_0) ∧ w'.cell? ⟨ad525.block,ad525.off + 2,none⟩ = some (.slice A527_0 (rd_L3 t511 2).length c527_0)) (ds:=[]) #[bF,bF,bF,bF,bF,bF,bF,bF,bF,bF,bF,bF,bF,bF,bF,bF] Q13 rfl rfl ⟨(blk_cell BK514.out 0).trans rfl,(blk_cell BK514.out 1).trans rfl,hx525_0,hx526_0,hx527_0⟩ (fun hHeld => ?_);refine with_tabW laws_FnCertForm.tab16 laws_FnCertForm.bits16 (fun HT_ HW_ => ?_)
            generalize w81.drew = w82 at HO_515000 HO523 HO_515001 BK514 BK520 BK524 HB HL525_0 HL526_0 HL527_0 HO532 HR525_0 HR526_0 HR527_0 hx525_0 hx526_0 hx527_0 hHeld ⊢
            refine pS HT_ 0 59 ?_
            refine pS HT_ 4 63 ?_
            refine pS HT_ 8 67 ?_
            refine take_ (i:=1) (N:=some 60) (v:=?_) (a':=?_) #[bT,bT,bF,bF,bT,bF,bF,bF,bT,bF,bF,bF,bF,bF,bF,bF] rfl rfl (take_ofW HT_.out HW_.out Q13) (fun _ _ _ h => h) (Or.inl ⟨Q67,?_⟩) hHeld ?_ ?_
            rotate_left
            ·rintro w' ⟨s0,s1,s2,s3,s4⟩
             (try simp only [Int.toNat_natCast] at s0 s1 s2 s3 s4)
             go_simp
             with_reducible rfl
            rotate_left
            ·simp only [Act.put,sI,sZ,sS,i64_w,i32_w]
             rfl
            refine pS HT_ 2 61 ?_
            refine take_ (i:=3) (N:=some 62) (v:=?_) (a':=?_) #[bT,bT,bT,bT,bT,bF,bF,bF,bT,bF,bF,bF,bF,bF,bF,bF] rfl rfl (take_ofW HT_.out HW_.out Q13) (fun _ _ _ h => h) (Or.inl ⟨Q67,?_⟩) hHeld ?_ ?_
            rotate_left
            ·rintro w' ⟨s0,s1,s2,s3,s4⟩
             (try simp only [Int.toNat_natCast] at s0 s1 s2 s3 s4)
             go_simp
             with_reducible rfl
            rotate_left
            ·simp only [Act.put,sI,sZ,sS,i64_w,i32_w]
             rfl
            refine take_ (i:=5) (N:=some 64) (v:=?_) (a':=?_) #[bT,bT,bT,bT,bT,bT,bF,bF,bT,bF,bF,bF,bF,bF,bF,bF] rfl rfl (take_ofW HT_.out HW_.out Q13) (fun _ _ _ h => h) (Or.inl ⟨Q67,?_⟩) hHeld ?_ ?_
            rotate_left
            ·rintro w' ⟨s0,s1,s2,s3,s4⟩
             (try simp only [Int.toNat_natCast] at s0 s1 s2 s3 s4)
             go_simp
             with_reducible rfl
            rotate_left
            ·simp only [Act.put,sI,sZ,sS,i64_w,i32_w]
             rfl
            refine pS HT_ 6 65 ?_
            refine take_ (i:=7) (N:=some 66) (v:=?_) (a':=?_) #[bT,bT,bT,bT,bT,bT,bT,bT,bT,bF,bF,bF,bF,bF,bF,bF] rfl rfl (take_ofW HT_.out HW_.out Q13) (fun _ _ _ h => h) (Or.inl ⟨Q67,?_⟩) hHeld ?_ ?_
            rotate_left
            ·rintro w' ⟨s0,s1,s2,s3,s4⟩
             (try simp only [Int.toNat_natCast] at s0 s1 s2 s3 s4)
             go_simp
             with_reducible rfl
            rotate_left
            ·simp only [Act.put,sI,sZ,sS,i64_w,i32_w]
             rfl
            refine take_ (i:=9) (N:=some 68) (v:=?_) (a':=?_) #[bT,bT,bT,bT,bT,bT,bT,bT,bT,bT,bF,bF,bF,bF,bF,bF] rfl rfl (take_ofW HT_.out HW_.out Q13) (fun _ _ _ h => h) (Or.inl ⟨Q67,?_⟩) hHeld ?_ ?_
            rotate_left
            ·rintro w' ⟨s0,s1,s2,s3,s4⟩
             (try simp only [Int.toNat_natCast] at s0 s1 s2 s3 s4)
             go_simp
             with_reducible rfl
            rotate_left
            ·simp only [Act.put,sI,sZ,sS,i64_w,i32_w]
             rfl
            refine pS HT_ 10 69 ?_
            refine take_ (i:=11) (N:=some 70) (v:=?_) (a':=?_) #[bT,bT,bT,bT,bT,bT,bT,bT,bT,bT,bT,bT,bF,bF,bF,bF] rfl rfl (take_ofW HT_.out HW_.out Q13) (fun _ _ _ h => h) (Or.inl ⟨Q67,?_⟩) hHeld ?_ ?_
            rotate_left
            ·rintro w' ⟨s0,s1,s2,s3,s4⟩
             (try simp only [Int.toNat_natCast] at s0 s1 s2 s3 s4)
             go_simp
             with_reducible rfl
            rotate_left
            ·simp only [Act.put,sI,sZ,sS,i64_w,i32_w]
             rfl
            refine pS HT_ 12 71 ?_
            refine one_ (i:=13) (N:=some 72) #[bT,bT,bT,bT,bT,bT,bT,bT,bT,bT,bT,bT,bT,bT,bF,bF] rfl rfl (one_of HT_.out Q13) Q37 (fun K hK => ?_)
            refine Kd.N_lit_step (Kd.slice 3 (Kd.int .i64)) _ 36 ?hg (N':=72) ?hd (xs:=([rd_L3 t511 0,rd_L3 t511 1,y528] : List (List Int))) (inner:=[.slice A525_0 (rd_L3 t511 0).length c525_0,.slice A526_0 (rd_L3 t511 1).length c526_0,.slice A83 y528.length c83]) (ok:=(fun k_ => some k_ ≠ (.slice Ao8 y521.length co8 : Value).ownBlock ∧ some k_ ≠ (.slice (some ad525) t511.length co10 : Value).ownBlock ∧ k_ ≠ gb514 ∧ k_ ≠ gb520 ∧ k_ ≠ gb524)) (okp:=(fun k_ => some k_ ≠ (.slice Ao8 y521.length co8 : Value).ownBlock ∧ some k_ ≠ (.slice (some ad525) t511.length co10 : Value).ownBlock ∧ k_ ≠ gb514 ∧ k_ ≠ gb520 ∧ k_ ≠ gb524)) ?hr ?hp (fun _ hk => hk) ((show ∀ k_,w82.heap.size ≤ k_ → (fun k_ => some k_ ≠ (.slice Ao8 y521.length co8 : Value).ownBlock ∧ some k_ ≠ (.slice (some ad525) t511.length co10 : Value).ownBlock ∧ k_ ≠ gb514 ∧ k_ ≠ gb520 ∧ k_ ≠ gb524) k_ from fun k_ hk => ⟨Kd.fresh' (Kd.R_lt (qR HO523)) k_ hk,Kd.fresh' (Kd.N_lt (qN HO_515001)) k_ hk,Kd.freshB (g:=gb514) (o:=.cells #[.slice Ao8 t508.length co8,.slice (some ad525) t511.length co10] 30 (0,0)) (qk BK514) k_ hk,Kd.freshB (g:=gb520) (o:=.cells #[.slice Ao8 y521.length co8,.slice (some ad525) t511.length co10] 30 (0,0)) (qk BK520) k_ hk,Kd.freshB (g:=gb524) (o:=.cells #[.slice Ao8 t508.length co8,.slice (some ad525) t511.length co10] 30 (0,0)) (qk BK524) k_ hk⟩) _ (Nat.le_refl _)) (Below.refl _ _) (Nat.le_refl _) Q52 ?_;(case hd => rfl);(case hg => rfl);(case hr => exact Q15);(case hp => exact (Reps.one (show Kd.FK (Kd.slice 3 (Kd.int .i64)) _ _ (rd_L3 t511 0) [.slice A525_0 (rd_L3 t511 0).length c525_0] from (Kd.FK_slice_mk (Kd.V_reads' (Kd.V_mono (ok':=(fun k_ => some k_ ≠ (.slice Ao8 y521.length co8 : Value).ownBlock ∧ some k_ ≠ (.slice (some ad525) t511.length co10 : Value).ownBlock ∧ k_ ≠ gb514 ∧ k_ ≠ gb520 ∧ k_ ≠ gb524)) (HL525_0.out) (fun k_ hk => ⟨hk.1.1,⟨hk.2,⟨hk.1.2.1,⟨hk.1.2.2.1,hk.1.2.2.2⟩⟩⟩⟩))).2.1 (Kd.V_F (Kd.V_mono (ok':=(fun k_ => some k_ ≠ (.slice Ao8 y521.length co8 : Value).ownBlock ∧ some k_ ≠ (.slice (some ad525) t511.length co10 : Value).ownBlock ∧ k_ ≠ gb514 ∧ k_ ≠ gb520 ∧ k_ ≠ gb524)) (HL525_0.out) (fun k_ hk => ⟨hk.1.1,⟨hk.2,⟨hk.1.2.1,⟨hk.1.2.2.1,hk.1.2.2.2⟩⟩⟩⟩))))) (Reps.one (show Kd.FK (Kd.slice 3 (Kd.int .i64)) _ _ (rd_L3 t511 1) [.slice A526_0 (rd_L3 t511 1).length c526_0] from (Kd.FK_slice_mk (Kd.V_reads' (Kd.V_mono (ok':=(fun k_ => some k_ ≠ (.slice Ao8 y521.length co8 : Value).ownBlock ∧ some k_ ≠ (.slice (some ad525) t511.length co10 : Value).ownBlock ∧ k_ ≠ gb514 ∧ k_ ≠ gb520 ∧ k_ ≠ gb524)) (HL526_0.out) (fun k_ hk => ⟨hk.1.1,⟨hk.2,⟨hk.1.2.1,⟨hk.1.2.2.1,hk.1.2.2.2⟩⟩⟩⟩))).2.1 (Kd.V_F (Kd.V_mono (ok':=(fun k_ => some k_ ≠ (.slice Ao8 y521.length co8 : Value).ownBlock ∧ some k_ ≠ (.slice (some ad525) t511.length co10 : Value).ownBlock ∧ k_ ≠ gb514 ∧ k_ ≠ gb520 ∧ k_ ≠ gb524)) (HL526_0.out) (fun k_ hk => ⟨hk.1.1,⟨hk.2,⟨hk.1.2.1,⟨hk.1.2.2.1,hk.1.2.2.2⟩⟩⟩⟩))))) (Reps.one (show Kd.FK (Kd.slice 3 (Kd.int .i64)) _ _ y528 [.slice A83 y528.length c83] from (Kd.FK_slice_mk (Kd.V_reads' (Kd.V_mono (ok':=(fun k_ => some k_ ≠ (.slice Ao8 y521.length co8 : Value).ownBlock ∧ some k_ ≠ (.slice (some ad525) t511.length co10 : Value).ownBlock ∧ k_ ≠ gb514 ∧ k_ ≠ gb520 ∧ k_ ≠ gb524)) (HO532.out) (fun k_ hk => ⟨hk.1.1,⟨hk.2,⟨hk.1.2.1,⟨hk.1.2.2.1,hk.1.2.2.2⟩⟩⟩⟩))).2.1 (Kd.V_F (Kd.V_mono (ok':=(fun k_ => some k_ ≠ (.slice Ao8 y521.length co8 : Value).ownBlock ∧ some k_ ≠ (.slice (some ad525) t511.length co10 : Value).ownBlock ∧ k_ ≠ gb514 ∧ k_ ≠ gb520 ∧ k_ ≠ gb524)) (HO532.out) (fun k_ hk => ⟨hk.1.1,⟨hk.2,⟨hk.1.2.1,⟨hk.1.2.2.1,hk.1.2.2.2⟩⟩⟩⟩))))) (Reps.none _ _)))))
            intro v534 w84 ho85 hb hg_ hnew_
            have HS2_:=(hb.cell (World.block_lt_of_cell? _ _ (hHeld.2.2.1))).trans (hHeld.2.2.1)
            have HS3_:=(hb.cell (World.block_lt_of_cell? _ _ (hHeld.2.2.2.1))).trans (hHeld.2.2.2.1)
            have HS4_:=(hb.cell (World.block_lt_of_cell? _ _ (hHeld.2.2.2.2))).trans (hHeld.2.2.2.2)
            clear hg_ hnew_
            (first|rw [← Ny533.out] at ho85|(simp only [Int.reduceToNat] at ho85;rw [← Ny533.out] at ho85))
            have n0_:=aM (Kd.R_below (qR HO523) hb)
            have m0_:=aM (Kd.R_below (qR HO_515000) hb)
            have n1_:=aM (Kd.N_elder' (qN HO_515001) (Kd.N_base ho85) hb)
            have n2_:=aM (Kd.V_elder' (qV HL525_0) (Kd.N_base ho85) hb)
            have n3_:=aM (Kd.V_elder' (qV HL526_0) (Kd.N_base ho85) hb)
            have n4_:=aM (Kd.V_elder' (qV HL527_0) (Kd.N_base ho85) hb)
            have n5_:=aM (Kd.V_elder' (qV HO532) (Kd.N_base ho85) hb)
            have n6_:=aM (Kd.N_lower ho85 (below_size Q22))
            have n7_:=aM (blk_below (g:=gb514) (o:=.cells #[.slice Ao8 t508.length co8,.slice (some ad525) t511.length co10] 30 (0,0)) (qk BK514) hb)
            have n8_:=aM (blk_below (g:=gb520) (o:=.cells #[.slice Ao8 y521.length co8,.slice (some ad525) t511.length co10] 30 (0,0)) (qk BK520) hb)
            have n9_:=aM (blk_below (g:=gb524) (o:=.cells #[.slice Ao8 t508.length co8,.slice (some ad525) t511.length co10] 30 (0,0)) (qk BK524) hb)
            have n10_:=aM (Kd.C_below Q120 hb)
            have n11_:=aM (Kd.C_below Q119 hb)
            have n12_:=aM (Kd.C_below Q118 hb)
            have n13_:=aM (below_step Q22 hb)
            clear HO523 HO_515000
            clear HO_515001
            clear HL525_0
            clear HL526_0
            clear HL527_0
            clear HO532
            clear BK514
            clear BK520
            clear BK524
            clear HR525_0
            clear HR526_0
            clear HR527_0
            clear HB
            have HO523:=n0_
            have HO_515000:=m0_
            have HO_515001:=n1_
            have HL525_0:=n2_
            have HL526_0:=n3_
            have HL527_0:=n4_
            have HO532:=n5_
            have HO535:=n6_
            have BK514:=n7_
            have BK520:=n8_
            have BK524:=n9_
            have HR525_0:=n10_
            have HR526_0:=n11_
            have HR527_0:=n12_
            have HB:=n13_
            clear m0_ n0_ n1_ n2_ n3_ n4_ n5_ n6_ n7_ n8_ n9_ n10_ n11_ n12_ n13_
            clear hb ho85
            obtain ⟨Ao86,co86,eo86⟩:=Kd.N_slice HO535.out
            (first|subst eo86|(injection eo86 with f1_ f2_ f3_;have f4_:=f1_.symm;have f5_:=f3_.symm;clear f1_ f2_ f3_;subst f4_;subst f5_))
            refine hK.out _ _ ⟨(blk_cell BK514.out 0).trans rfl,(blk_cell BK514.out 1).trans rfl,HS2_,HS3_,HS4_⟩ (fun hHeld => ?_)
            clear hK K
            refine norm_ (a':=?_) ?_ ?_
            rotate_left
            ·show Act.put _ (some 72) _ = _
             simp only [Act.put,sI,sZ,sS,i64_w,i32_w]
             rfl
            refine pS HT_ 14 73 ?_
            refine one_ (i:=15) (N:=none) #[bT,bT,bT,bT,bT,bT,bT,bT,bT,bT,bT,bT,bT,bT,bT,bT] rfl rfl (one_of HT_.out Q13) Q37 (fun K hK => ?_)
            have hs87 : w84.cell? ⟨gb524,1,none⟩ = some (.slice (some ad525) t511.length co10):=(blk_cell BK524.out 1).trans rfl
            have hfs87:=blk_frozen BK524.out 1
            have hns87_0:=NB514_524.out
            have hns87_1:=NB520_524.out
            have hms87_0:=NB524_514.out
            have hms87_1:=NB524_520.out
            refine skip_ (w1:=?_) Q67 rfl ?_ ?_
            rotate_left
            ·go_simp
             rfl
            refine hK.out _ _ ⟨((cell_far (p:=⟨gb524,_,none⟩) NB514_524.out _).trans (hHeld.1)),((cell_far (p:=⟨gb524,_,none⟩) NB514_524.out _).trans (hHeld.2.1)),((cell_far (p:=⟨gb524,_,none⟩) Q28 _).trans (hHeld.2.2.1)),((cell_far (p:=⟨gb524,_,none⟩) Q28 _).trans (hHeld.2.2.2.1)),((cell_far (p:=⟨gb524,_,none⟩) Q28 _).trans (hHeld.2.2.2.2))⟩ (fun hHeld => ?_)
            clear hK K
            refine done_ (done_of HT_.out Q13) ?_
            try go_wp2
            have n0_ : Aside0 (Kd.R k40 40 (w84.setCell ⟨gb524,1,none⟩ (.slice Ao86 y533.length co86)) w.heap.size (fun _ => True) (.slice Ao8 y521.length co8) y521):=⟨by (with_reducible repeat (first|apply Kd.R_alloc|apply Kd.R_drewN|apply Kd.R_drew));exact Kd.R_mono (Kd.R_far (p:=⟨gb524,1,none⟩) (Kd.R_types HO523.out BK524.out Q37) (fun _ hk => hk.2) (.slice Ao86 y533.length co86)) (fun _ hk => trivial)⟩
            have m0_ : Aside0 (Kd.R k40 40 (w84.setCell ⟨gb524,1,none⟩ (.slice Ao86 y533.length co86)) w.heap.size (fun _ => True) (.slice Ao8 t508.length co8) t508):=⟨by (with_reducible repeat (first|apply Kd.R_alloc|apply Kd.R_drewN|apply Kd.R_drew));exact Kd.R_mono (Kd.R_far (p:=⟨gb524,1,none⟩) (Kd.R_types HO_515000.out BK524.out Q37) (fun _ hk => hk.2) (.slice Ao86 y533.length co86)) (fun _ hk => trivial)⟩
            have n1_ : Aside0 (Kd.N (Kd.slice 3 (Kd.int .i64)) 36 (w84.setCell ⟨gb524,1,none⟩ (.slice Ao86 y533.length co86)) w.heap.size (fun k_ => some k_ ≠ (.slice Ao8 y521.length co8 : Value).ownBlock ∧ some k_ ≠ (.slice Ao86 y533.length co86 : Value).ownBlock ∧ k_ ≠ gb514 ∧ k_ ≠ gb520 ∧ k_ ≠ gb524) (.slice (some ad525) t511.length co10) t511):=⟨by (with_reducible repeat (first|apply Kd.N_alloc|apply Kd.N_drewN|apply Kd.N_drew));exact Kd.N_mono (Kd.N_far (p:=⟨gb524,1,none⟩) (Kd.N_mono HO_515001.out (fun k_ hk => (⟨hk,hk.1.2.2.2⟩ : _ ∧ k_ ≠ gb524))) (fun _ hk => hk.2) (.slice Ao86 y533.length co86)) (fun _ hk => ⟨hk.1.1.1,⟨hk.1.2,⟨hk.1.1.2.1,⟨hk.1.1.2.2.1,hk.1.1.2.2.2⟩⟩⟩⟩)⟩
            have n2_ : Aside0 (Kd.V (Kd.int .i64) 3 (w84.setCell ⟨gb524,1,none⟩ (.slice Ao86 y533.length co86)) w.heap.size (fun k_ => some k_ ≠ (.slice Ao8 y521.length co8 : Value).ownBlock ∧ some k_ ≠ (.slice (some ad525) t511.length co10 : Value).ownBlock ∧ some k_ ≠ (.slice Ao86 y533.length co86 : Value).ownBlock ∧ k_ ≠ gb514 ∧ k_ ≠ gb520 ∧ k_ ≠ gb524) (.slice A525_0 (rd_L3 t511 0).length c525_0) (rd_L3 t511 0)):=⟨by (with_reducible repeat (first|apply Kd.V_alloc|apply Kd.V_drewN|apply Kd.V_drew));exact Kd.V_mono (Kd.V_far (p:=⟨gb524,1,none⟩) (Kd.V_mono HL525_0.out (fun k_ hk => (⟨hk,hk.1.1.2.2.2⟩ : _ ∧ k_ ≠ gb524))) (fun _ hk => hk.2) (.slice Ao86 y533.length co86)) (fun _ hk => ⟨hk.1.1.1.1,⟨hk.1.1.2,⟨hk.1.2,⟨hk.1.1.1.2.1,⟨hk.1.1.1.2.2.1,hk.1.1.1.2.2.2⟩⟩⟩⟩⟩)⟩
            have n3_ : Aside0 (Kd.V (Kd.int .i64) 3 (w84.setCell ⟨gb524,1,none⟩ (.slice Ao86 y533.length co86)) w.heap.size (fun k_ => some k_ ≠ (.slice Ao8 y521.length co8 : Value).ownBlock ∧ some k_ ≠ (.slice (some ad525) t511.length co10 : Value).ownBlock ∧ some k_ ≠ (.slice Ao86 y533.length co86 : Value).ownBlock ∧ k_ ≠ gb514 ∧ k_ ≠ gb520 ∧ k_ ≠ gb524) (.slice A526_0 (rd_L3 t511 1).length c526_0) (rd_L3 t511 1)):=⟨by (with_reducible repeat (first|apply Kd.V_alloc|apply Kd.V_drewN|apply Kd.V_drew));exact Kd.V_mono (Kd.V_far (p:=⟨gb524,1,none⟩) (Kd.V_mono HL526_0.out (fun k_ hk => (⟨hk,hk.1.1.2.2.2⟩ : _ ∧ k_ ≠ gb524))) (fun _ hk => hk.2) (.slice Ao86 y533.length co86)) (fun _ hk => ⟨hk.1.1.1.1,⟨hk.1.1.2,⟨hk.1.2,⟨hk.1.1.1.2.1,⟨hk.1.1.1.2.2.1,hk.1.1.1.2.2.2⟩⟩⟩⟩⟩)⟩
            have n4_ : Aside0 (Kd.V (Kd.int .i64) 3 (w84.setCell ⟨gb524,1,none⟩ (.slice Ao86 y533.length co86)) w.heap.size (fun k_ => some k_ ≠ (.slice Ao8 y521.length co8 : Value).ownBlock ∧ some k_ ≠ (.slice (some ad525) t511.length co10 : Value).ownBlock ∧ some k_ ≠ (.slice Ao86 y533.length co86 : Value).ownBlock ∧ k_ ≠ gb514 ∧ k_ ≠ gb520 ∧ k_ ≠ gb524) (.slice A527_0 (rd_L3 t511 2).length c527_0) (rd_L3 t511 2)):=⟨by (with_reducible repeat (first|apply Kd.V_alloc|apply Kd.V_drewN|apply Kd.V_drew));exact Kd.V_mono (Kd.V_far (p:=⟨gb524,1,none⟩) (Kd.V_mono HL527_0.out (fun k_ hk => (⟨hk,hk.1.1.2.2.2⟩ : _ ∧ k_ ≠ gb524))) (fun _ hk => hk.2) (.slice Ao86 y533.length co86)) (fun _ hk => ⟨hk.1.1.1.1,⟨hk.1.1.2,⟨hk.1.2,⟨hk.1.1.1.2.1,⟨hk.1.1.1.2.2.1,hk.1.1.1.2.2.2⟩⟩⟩⟩⟩)⟩
            have n5_ : Aside0 (Kd.V (Kd.int .i64) 3 (w84.setCell ⟨gb524,1,none⟩ (.slice Ao86 y533.length co86)) w.heap.size (fun k_ => some k_ ≠ (.slice Ao8 y521.length co8 : Value).ownBlock ∧ some k_ ≠ (.slice (some ad525) t511.length co10 : Value).ownBlock ∧ some k_ ≠ (.slice Ao86 y533.length co86 : Value).ownBlock ∧ k_ ≠ gb514 ∧ k_ ≠ gb520 ∧ k_ ≠ gb524) (.slice A83 y528.length c83) y528):=⟨by (with_reducible repeat (first|apply Kd.V_alloc|apply Kd.V_drewN|apply Kd.V_drew));exact Kd.V_mono (Kd.V_far (p:=⟨gb524,1,none⟩) (Kd.V_mono HO532.out (fun k_ hk => (⟨hk,hk.1.1.2.2.2⟩ : _ ∧ k_ ≠ gb524))) (fun _ hk => hk.2) (.slice Ao86 y533.length co86)) (fun _ hk => ⟨hk.1.1.1.1,⟨hk.1.1.2,⟨hk.1.2,⟨hk.1.1.1.2.1,⟨hk.1.1.1.2.2.1,hk.1.1.1.2.2.2⟩⟩⟩⟩⟩)⟩
            have n6_ : Aside0 (Kd.N (Kd.slice 3 (Kd.int .i64)) 36 (w84.setCell ⟨gb524,1,none⟩ (.slice Ao86 y533.length co86)) w.heap.size (fun k_ => some k_ ≠ (.slice Ao8 y521.length co8 : Value).ownBlock ∧ some k_ ≠ (.slice (some ad525) t511.length co10 : Value).ownBlock ∧ k_ ≠ gb514 ∧ k_ ≠ gb520 ∧ k_ ≠ gb524) (.slice Ao86 y533.length co86) y533):=⟨by (with_reducible repeat (first|apply Kd.N_alloc|apply Kd.N_drewN|apply Kd.N_drew));exact Kd.N_mono (Kd.N_far (p:=⟨gb524,1,none⟩) (Kd.N_mono HO535.out (fun k_ hk => (⟨hk,hk.2.2.2.2⟩ : _ ∧ k_ ≠ gb524))) (fun _ hk => hk.2) (.slice Ao86 y533.length co86)) (fun _ hk => ⟨hk.1.1,⟨hk.1.2.1,⟨hk.1.2.2.1,⟨hk.1.2.2.2.1,hk.1.2.2.2.2⟩⟩⟩⟩)⟩
            have n7_ : Aside0 ((w84.setCell ⟨gb524,1,none⟩ (.slice Ao86 y533.length co86)).heap[gb514]? = some (.cells #[.slice Ao8 t508.length co8,.slice (some ad525) t511.length co10] 30 (0,0))):=⟨Q110⟩
            have n8_ : Aside0 ((w84.setCell ⟨gb524,1,none⟩ (.slice Ao86 y533.length co86)).heap[gb520]? = some (.cells #[.slice Ao8 y521.length co8,.slice (some ad525) t511.length co10] 30 (0,0))):=⟨Q109⟩
            have n9_ : Aside0 ((w84.setCell ⟨gb524,1,none⟩ (.slice Ao86 y533.length co86)).heap[gb524]? = some (.cells #[.slice Ao8 t508.length co8,.slice Ao86 y533.length co86] 30 (0,0))):=⟨Q99⟩
            have n10_ : Aside0 (Below w.heap.size w (w84.setCell ⟨gb524,1,none⟩ (.slice Ao86 y533.length co86))):=⟨Q22⟩
            (try clear HO523 HO_515000)
            (try clear HO_515001)
            (try clear HL525_0)
            (try clear HL526_0)
            (try clear HL527_0)
            (try clear HO532)
            (try clear HO535)
            (try clear BK514)
            (try clear BK520)
            (try clear BK524)
            (try clear HB)
            generalize (w84.setCell ⟨gb524,1,none⟩ (.slice Ao86 y533.length co86)) = w88 at m0_ n0_ n1_ n2_ n3_ n4_ n5_ n6_ n7_ n8_ n9_ n10_ ⊢
            have HO523:=n0_
            have HO_515000:=m0_
            have HO_515001:=n1_
            have HL525_0:=n2_
            have HL526_0:=n3_
            have HL527_0:=n4_
            have HO532:=n5_
            have HO535:=n6_
            have BK514:=n7_
            have BK520:=n8_
            have BK524:=n9_
            have HB:=n10_
            clear m0_ n0_ n1_ n2_ n3_ n4_ n5_ n6_ n7_ n8_ n9_ n10_
            have n0_:=aM (Kd.R_drew HO523.out)
            have m0_:=aM (Kd.R_drew HO_515000.out)
            have n1_:=aM (Kd.N_drew HO_515001.out)
            have n2_:=aM (Kd.V_drew HL525_0.out)
            have n3_:=aM (Kd.V_drew HL526_0.out)
            have n4_:=aM (Kd.V_drew HL527_0.out)
            have n5_:=aM (Kd.V_drew HO532.out)
            have n6_:=aM (Kd.N_drew HO535.out)
            have n7_:=aM (blk_drew BK514.out)
            have n8_:=aM (blk_drew BK520.out)
            have n9_:=aM (blk_drew BK524.out)
            have n10_:=aM (bD HB.out)
            clear HO523 HO_515000
            clear HO_515001
            clear HL525_0
            clear HL526_0
            clear HL527_0
            clear HO532
            clear HO535
            clear BK514
            clear BK520
            clear BK524
            clear HB
            have HO523:=n0_
            have HO_515000:=m0_
            have HO_515001:=n1_
            have HL525_0:=n2_
            have HL526_0:=n3_
            have HL527_0:=n4_
            have HO532:=n5_
            have HO535:=n6_
            have BK514:=n7_
            have BK520:=n8_
            have BK524:=n9_
            have HB:=n10_
            clear m0_ n0_ n1_ n2_ n3_ n4_ n5_ n6_ n7_ n8_ n9_ n10_
            have p536 : 0 ≤ ((ji36) : Int):=of_decide_eq_true Q5
            have q536 : (ji36) < (t508.length : Int):=of_decide_eq_true Q5
            obtain ⟨ad536,e536,hx536_0,hx536_1,hx536_2,hx536_3⟩:=at_T40 (Kd.R_reads' HO_515000.out).2.2 (ji36) p536 q536
            cases e536
            replace p536:=eq_true p536
            replace q536:=eq_true q536
            have p537 : 0 ≤ ((ji29) : Int):=of_decide_eq_true Q5
            have q537 : (ji29) < (t508.length : Int):=of_decide_eq_true Q5
            obtain ⟨ad537,e537,hx537_0,hx537_1,hx537_2,hx537_3⟩:=at_T40 (Kd.R_reads' HO_515000.out).2.2 (ji29) p537 q537
            obtain rfl : ad536 = ad537:=(by injection e537)
            replace p537:=eq_true p537
            replace q537:=eq_true q537
            have p539 : 0 ≤ (2 : Int):=Q14
            have q539 : 2 < (t511.length : Int):=of_decide_eq_true Q5
            obtain ⟨ad539,A539_0,c539_0,e539,hx539_0,hl539_0,hi539_0⟩:=at_L3 (Kd.N_reads' HO_515001.out).2.2 2 p539 q539
            obtain rfl : ad525 = ad539:=(by injection e539)
            obtain ⟨ce539,hce539,hMe539,hcc539⟩:=Kd.N_get HO_515001.out [] 2 p539 (by first|exact q539|exact of_decide_eq_true Q5|(have e_:=(Kd.N_reads' HO_515001.out).1;omega))
            obtain ⟨ua539_0,uc539_0,rfl,ul539_0,ge539_0⟩:=Kd.FK_slice_open hMe539
            have hv539_0:=hcc539 0 _ rfl
            rw [Nat.add_zero,show ((Kd.slice 3 (Kd.int .i64))).sz = 1 from rfl,Nat.mul_one] at hv539_0
            replace hv539_0:=Option.some.inj (hv539_0.symm.trans hx539_0)
            injection hv539_0 with hva_ hvn_ hvc_
            rw [hva_] at ge539_0
            rw [hvc_] at ul539_0
            have HL539_0:=aM (show Kd.V (Kd.int .i64) 3 _ w.heap.size _ _ (rd_L3 t511 2) from Kd.V_mk ul539_0 ge539_0)
            clear hva_ hvn_ hvc_ ge539_0 ul539_0
            clear hcc539 hce539
            (try simp only [show (2 : Int).toNat = 2 from rfl,Nat.reduceMul,Nat.reduceEqDiff,Go.Addr.add,↓reduceIte] at hx539_0)
            have qi539 : (2 < t511.length) = True:=eq_true Q14
            (try rw [show ((2 : Int)).toNat = 2 from rfl] at hx539_0)
            have HR539_0:=aM hi539_0
            have HC539_0:=aM hl539_0
            clear hi539_0 hl539_0
            replace p539:=eq_true p539
            replace q539:=eq_true q539
            refine start_ (n:=43) (S:=fun w' => w'.cell? ⟨gb514,0,none⟩ = some (.slice (some ad536) t508.length co8) ∧ w'.cell? ⟨gb514,1,none⟩ = some (.slice (some ad525) t511.length co10) ∧ w'.cell? ⟨gb524,0,none⟩ = some (.slice (some ad536) t508.length co8) ∧ w'.cell? ⟨gb524,1,none⟩ = some (.slice Ao86 y533.length co86) ∧ w'.cell? ⟨gb520,0,none⟩ = some (.slice (some ad536) y521.length co8) ∧ w'.cell? ⟨gb520,1,none⟩ = some (.slice (some ad525) t511.length co10) ∧ w'.cell? (ad536.add (((ji36)).toNat * 4)) = some (.int .i64 ((rd_T40 t508 (ji36)).f0)) ∧ w'.cell? ⟨(ad536.add (((ji36)).toNat * 4)).block,(ad536.add (((ji36)).toNat * 4)).off + 1,none⟩ = some (.int .i64 ((rd_T40 t508 (ji36)).f1.f0)) ∧ w'.cell? ⟨(ad536.add (((ji36)).toNat * 4)).block,(ad536.add (((ji36)).toNat * 4)).off + 2,none⟩ = some (.int .i64 ((rd_T40 t508 (ji36)).f1.f1)) ∧ w'.cell? ⟨(ad536.add (((ji36)).toNat * 4)).block,(ad536.add (((ji36)).toNat * 4)).off + 3,none⟩ = some (.int .i64 ((rd_T40 t508 (ji36)).f1.f2)) ∧ w'.cell? (ad536.add (((ji29)).toNat * 4)) = some (.int .i64 ((rd_T40 t508 (ji29)).f0)) ∧ w'.cell? ⟨(ad536.add (((ji29)).toNat * 4)).block,(ad536.add (((ji29)).toNat * 4)).off + 1,none⟩ = some (.int .i64 ((rd_T40 t508 (ji29)).f1.f0)) ∧ w'.cell? ⟨(ad536.add (((ji29)).toNat * 4)).block,(ad536.add (((ji29)).toNat * 4)).off + 2,none⟩ = some (.int .i64 ((rd_T40 t508 (ji29)).f1.f1)) ∧ w'.cell? ⟨(ad536.add (((ji29)).toNat * 4)).block,(ad536.add (((ji29)).toNat * 4)).off + 3,none⟩ = some (.int .i64 ((rd_T40 t508 (ji29)).f1.f2)) ∧ w'.cell? ⟨ad525.block,ad525.off + 2,none⟩ = some (.slice A539_0 (rd_L3 t511 2).length c539_0)) (ds:=[]) #[bF,bF,bF,bF,bF,bF,bF,bF,bF,bF,bF,bF,bF,bF,bF,bF,bF,bF,bF,bF,bF,bF,bF,bF,bF,bF,bF,bF,bF,bF,bF,bF,bF,bF,bF,bF,bF,bF,bF,bF,bF,bF,bF] Q13 rfl rfl ⟨(blk_cell BK514.out 0).trans rfl,(blk_cell BK514.out 1).trans rfl,(blk_cell BK524.out 0).trans rfl,(blk_cell BK524.out 1).trans rfl,(blk_cell BK520.out 0).trans rfl,(blk_cell BK520.out 1).trans rfl,hx536_0,hx536_1,hx536_2,hx536_3,hx537_0,hx537_1,hx537_2,hx537_3,hx539_0⟩ (fun hHeld => ?_);refine with_tabW laws_FnCertForm.tab17 laws_FnCertForm.bits17 (fun HT_ HW_ => ?_)
            generalize w88.drew = w89 at HO_515000 HO523 HO_515001 HL525_0 HL526_0 HL527_0 HO532 HO535 BK514 BK520 BK524 HB HL539_0 HR539_0 hx536_0 hx536_1 hx536_2 hx536_3 hx537_0 hx537_1 hx537_2 hx537_3 hx539_0 hHeld ⊢
            refine pS HT_ 0 74 ?_
            refine pS HT_ 2 76 ?_
            refine pS HT_ 3 77 ?_
            refine pS HT_ 8 82 ?_
            refine pS HT_ 10 84 ?_
            refine pS HT_ 11 85 ?_
            refine take_ (i:=1) (N:=some 75) (v:=?_) (a':=?_) #[bT,bT,bT,bT,bF,bF,bF,bF,bT,bF,bT,bT,bF,bF,bF,bF,bF,bF,bF,bF,bF,bF,bF,bF,bF,bF,bF,bF,bF,bF,bF,bF,bF,bF,bF,bF,bF,bF,bF,bF,bF,bF,bF] rfl rfl (take_ofW HT_.out HW_.out Q13) (fun _ _ _ h => h) (Or.inl ⟨Q67,?_⟩) hHeld ?_ ?_
            rotate_left
            ·rintro w' ⟨s0,s1,s2,s3,s4,s5,s6,s7,s8,s9,s10,s11,s12,s13,s14⟩
             (try simp only [Int.toNat_natCast] at s0 s1 s2 s3 s4 s5 s6 s7 s8 s9 s10 s11 s12 s13 s14)
             go_simp
             with_reducible rfl
            rotate_left
            ·simp only [Act.put,sI,sZ,sS,i64_w,i32_w]
             rfl
            refine pS HT_ 4 78 ?_
            refine pS HT_ 5 79 ?_
            refine take_ (i:=6) (N:=some 80) (v:=?_) (a':=?_) #[bT,bT,bT,bT,bT,bT,bT,bF,bT,bF,bT,bT,bF,bF,bF,bF,bF,bF,bF,bF,bF,bF,bF,bF,bF,bF,bF,bF,bF,bF,bF,bF,bF,bF,bF,bF,bF,bF,bF,bF,bF,bF,bF] rfl rfl (take_ofW HT_.out HW_.out Q13) (fun _ _ _ h => h) (Or.inl ⟨Q67,?_⟩) hHeld ?_ ?_
            rotate_left
            ·rintro w' ⟨s0,s1,s2,s3,s4,s5,s6,s7,s8,s9,s10,s11,s12,s13,s14⟩
             (try simp only [Int.toNat_natCast] at s0 s1 s2 s3 s4 s5 s6 s7 s8 s9 s10 s11 s12 s13 s14)
             go_simp
             with_reducible rfl
            rotate_left
            ·simp only [Act.put,sI,sZ,sS,i64_w,i32_w]
             rfl
            refine pS HT_ 7 81 ?_
            refine take_ (i:=9) (N:=some 83) (v:=?_) (a':=?_) #[bT,bT,bT,bT,bT,bT,bT,bT,bT,bT,bT,bT,bF,bF,bF,bF,bF,bF,bF,bF,bF,bF,bF,bF,bF,bF,bF,bF,bF,bF,bF,bF,bF,bF,bF,bF,bF,bF,bF,bF,bF,bF,bF] rfl rfl (take_ofW HT_.out HW_.out Q13) (fun _ _ _ h => h) (Or.inl ⟨Q67,?_⟩) hHeld ?_ ?_
            rotate_left
            ·rintro w' ⟨s0,s1,s2,s3,s4,s5,s6,s7,s8,s9,s10,s11,s12,s13,s14⟩
             (try simp only [Int.toNat_natCast] at s0 s1 s2 s3 s4 s5 s6 s7 s8 s9 s10 s11 s12 s13 s14)
             go_simp
             with_reducible rfl
            rotate_left
            ·simp only [Act.put,sI,sZ,sS,i64_w,i32_w]
             rfl
            refine pS HT_ 12 86 ?_
            refine pS HT_ 13 87 ?_
            refine take_ (i:=14) (N:=some 88) (v:=?_) (a':=?_) #[bT,bT,bT,bT,bT,bT,bT,bT,bT,bT,bT,bT,bT,bT,bT,bF,bF,bF,bF,bF,bF,bF,bF,bF,bF,bF,bF,bF,bF,bF,bF,bF,bF,bF,bF,bF,bF,bF,bF,bF,bF,bF,bF] rfl rfl (take_ofW HT_.out HW_.out Q13) (fun _ _ _ h => h) (Or.inl ⟨Q67,?_⟩) hHeld ?_ ?_
            rotate_left
            ·rintro w' ⟨s0,s1,s2,s3,s4,s5,s6,s7,s8,s9,s10,s11,s12,s13,s14⟩
             (try simp only [Int.toNat_natCast] at s0 s1 s2 s3 s4 s5 s6 s7 s8 s9 s10 s11 s12 s13 s14)
             go_simp
             with_reducible rfl
            rotate_left
            ·simp only [Act.put,sI,sZ,sS,i64_w,i32_w]
             rfl
            refine pS HT_ 15 89 ?_
            refine pS HT_ 16 90 ?_
            refine pS HT_ 17 91 ?_
            refine take_ (i:=18) (N:=some 92) (v:=?_) (a':=?_) #[bT,bT,bT,bT,bT,bT,bT,bT,bT,bT,bT,bT,bT,bT,bT,bT,bT,bT,bT,bF,bF,bF,bF,bF,bF,bF,bF,bF,bF,bF,bF,bF,bF,bF,bF,bF,bF,bF,bF,bF,bF,bF,bF] rfl rfl (take_ofW HT_.out HW_.out Q13) (fun _ _ _ h => h) (Or.inl ⟨Q67,?_⟩) hHeld ?_ ?_
            rotate_left
            ·rintro w' ⟨s0,s1,s2,s3,s4,s5,s6,s7,s8,s9,s10,s11,s12,s13,s14⟩
             (try simp only [Int.toNat_natCast] at s0 s1 s2 s3 s4 s5 s6 s7 s8 s9 s10 s11 s12 s13 s14)
             go_simp
             with_reducible rfl
            rotate_left
            ·simp only [Act.put,sI,sZ,sS,i64_w,i32_w]
             rfl
            refine pS HT_ 19 93 ?_
            refine pS HT_ 20 94 ?_
            refine pS HT_ 21 95 ?_
            refine pS HT_ 22 96 ?_
            refine pS HT_ 25 99 ?_
            refine take_ (i:=23) (N:=some 97) (v:=?_) (a':=?_) #[bT,bT,bT,bT,bT,bT,bT,bT,bT,bT,bT,bT,bT,bT,bT,bT,bT,bT,bT,bT,bT,bT,bT,bT,bF,bT,bF,bF,bF,bF,bF,bF,bF,bF,bF,bF,bF,bF,bF,bF,bF,bF,bF] rfl rfl (take_ofW HT_.out HW_.out Q13) (fun _ _ _ h => h) (Or.inl ⟨Q67,?_⟩) hHeld ?_ ?_
            rotate_left
            ·rintro w' ⟨s0,s1,s2,s3,s4,s5,s6,s7,s8,s9,s10,s11,s12,s13,s14⟩
             (try simp only [Int.toNat_natCast] at s0 s1 s2 s3 s4 s5 s6 s7 s8 s9 s10 s11 s12 s13 s14)
             go_simp
             with_reducible rfl
            rotate_left
            ·simp only [Act.put,sI,sZ,sS,i64_w,i32_w]
             rfl
            refine take_ (i:=26) (N:=some 100) (v:=?_) (a':=?_) #[bT,bT,bT,bT,bT,bT,bT,bT,bT,bT,bT,bT,bT,bT,bT,bT,bT,bT,bT,bT,bT,bT,bT,bT,bF,bT,bT,bF,bF,bF,bF,bF,bF,bF,bF,bF,bF,bF,bF,bF,bF,bF,bF] rfl rfl (take_ofW HT_.out HW_.out Q13) (fun _ _ _ h => h) (Or.inl ⟨Q67,?_⟩) hHeld ?_ ?_
            rotate_left
            ·rintro w' ⟨s0,s1,s2,s3,s4,s5,s6,s7,s8,s9,s10,s11,s12,s13,s14⟩
             (try simp only [Int.toNat_natCast] at s0 s1 s2 s3 s4 s5 s6 s7 s8 s9 s10 s11 s12 s13 s14)
             go_simp
             with_reducible rfl
            rotate_left
            ·simp only [Act.put,sI,sZ,sS,i64_w,i32_w]
             rfl
            refine pS HT_ 27 101 ?_
            refine take_ (i:=28) (N:=some 102) (v:=?_) (a':=?_) #[bT,bT,bT,bT,bT,bT,bT,bT,bT,bT,bT,bT,bT,bT,bT,bT,bT,bT,bT,bT,bT,bT,bT,bT,bF,bT,bT,bT,bT,bF,bF,bF,bF,bF,bF,bF,bF,bF,bF,bF,bF,bF,bF] rfl rfl (take_ofW HT_.out HW_.out Q13) (fun _ _ _ h => h) (Or.inl ⟨Q67,?_⟩) hHeld ?_ ?_
            rotate_left
            ·rintro w' ⟨s0,s1,s2,s3,s4,s5,s6,s7,s8,s9,s10,s11,s12,s13,s14⟩
             (try simp only [Int.toNat_natCast] at s0 s1 s2 s3 s4 s5 s6 s7 s8 s9 s10 s11 s12 s13 s14)
             go_simp
             with_reducible rfl
            rotate_left
            ·simp only [Act.put,sI,sZ,sS,i64_w,i32_w]
             rfl
            refine pS HT_ 29 103 ?_
            refine pS HT_ 30 104 ?_
            refine one_ (i:=24) (N:=some 98) #[bT,bT,bT,bT,bT,bT,bT,bT,bT,bT,bT,bT,bT,bT,bT,bT,bT,bT,bT,bT,bT,bT,bT,bT,bT,bT,bT,bT,bT,bT,bT,bF,bF,bF,bF,bF,bF,bF,bF,bF,bF,bF,bF] rfl rfl (one_of HT_.out Q13) Q37 (fun K hK => ?_)
            refine goes_ Try.func9 Q13 rfl #[.agg #[.slice (some ad536) t508.length co8,.slice Ao86 y533.length co86]] Q67 rfl rfl Q1 ?_
            with_reducible refine (impl_CertOk.calls k2 _ _ t508 _ _ y533 t538 _ ?side1 ?side2 ?side3 ?side4 A42.out).mono ?_
            (case side1 => exact Q90)
            (case side2 => exact (Kd.R_reads' HO_515000.out).2.1)
            (case side3 => exact Q131)
            (case side4 => exact (Kd.N_reads' HO535.out).2.1)
            rintro e w90 ⟨rfl,hb⟩
            have HS6_:=(hb.cell (World.block_lt_of_cell? _ _ (hHeld.2.2.2.2.2.2.1))).trans (hHeld.2.2.2.2.2.2.1)
            have HS7_:=(hb.cell (World.block_lt_of_cell? _ _ (hHeld.2.2.2.2.2.2.2.1))).trans (hHeld.2.2.2.2.2.2.2.1)
            have HS8_:=(hb.cell (World.block_lt_of_cell? _ _ (hHeld.2.2.2.2.2.2.2.2.1))).trans (hHeld.2.2.2.2.2.2.2.2.1)
            have HS9_:=(hb.cell (World.block_lt_of_cell? _ _ (hHeld.2.2.2.2.2.2.2.2.2.1))).trans (hHeld.2.2.2.2.2.2.2.2.2.1)
            have HS10_:=(hb.cell (World.block_lt_of_cell? _ _ (hHeld.2.2.2.2.2.2.2.2.2.2.1))).trans (hHeld.2.2.2.2.2.2.2.2.2.2.1)
            have HS11_:=(hb.cell (World.block_lt_of_cell? _ _ (hHeld.2.2.2.2.2.2.2.2.2.2.2.1))).trans (hHeld.2.2.2.2.2.2.2.2.2.2.2.1)
            have HS12_:=(hb.cell (World.block_lt_of_cell? _ _ (hHeld.2.2.2.2.2.2.2.2.2.2.2.2.1))).trans (hHeld.2.2.2.2.2.2.2.2.2.2.2.2.1)
            have HS13_:=(hb.cell (World.block_lt_of_cell? _ _ (hHeld.2.2.2.2.2.2.2.2.2.2.2.2.2.1))).trans (hHeld.2.2.2.2.2.2.2.2.2.2.2.2.2.1)
            have HS14_:=(hb.cell (World.block_lt_of_cell? _ _ (hHeld.2.2.2.2.2.2.2.2.2.2.2.2.2.2))).trans (hHeld.2.2.2.2.2.2.2.2.2.2.2.2.2.2)
            refine ⟨_,rfl,?_⟩
            have n0_:=aM (Kd.R_below (qR HO523) hb)
            have m0_:=aM (Kd.R_below (qR HO_515000) hb)
            have n1_:=aM (Kd.N_below (qN HO_515001) hb)
            have n2_:=aM (Kd.V_below (qV HL525_0) hb)
            have n3_:=aM (Kd.V_below (qV HL526_0) hb)
            have n4_:=aM (Kd.V_below (qV HL527_0) hb)
            have n5_:=aM (Kd.V_below (qV HO532) hb)
            have n6_:=aM (Kd.N_below (qN HO535) hb)
            have n7_:=aM (Kd.V_below (qV HL539_0) hb)
            have n8_:=aM (blk_below (g:=gb514) (o:=.cells #[.slice (some ad536) t508.length co8,.slice (some ad525) t511.length co10] 30 (0,0)) (qk BK514) hb)
            have n9_:=aM (blk_below (g:=gb520) (o:=.cells #[.slice (some ad536) y521.length co8,.slice (some ad525) t511.length co10] 30 (0,0)) (qk BK520) hb)
            have n10_:=aM (blk_below (g:=gb524) (o:=.cells #[.slice (some ad536) t508.length co8,.slice Ao86 y533.length co86] 30 (0,0)) (qk BK524) hb)
            have n11_:=aM (Kd.C_below Q58 hb)
            have n12_:=aM (below_step Q22 hb)
            clear HO523 HO_515000
            clear HO_515001
            clear HL525_0
            clear HL526_0
            clear HL527_0
            clear HO532
            clear HO535
            clear HL539_0
            clear BK514
            clear BK520
            clear BK524
            clear HR539_0
            clear HB
            have HO523:=n0_
            have HO_515000:=m0_
            have HO_515001:=n1_
            have HL525_0:=n2_
            have HL526_0:=n3_
            have HL527_0:=n4_
            have HO532:=n5_
            have HO535:=n6_
            have HL539_0:=n7_
            have BK514:=n8_
            have BK520:=n9_
            have BK524:=n10_
            have HR539_0:=n11_
            have HB:=n12_
            clear m0_ n0_ n1_ n2_ n3_ n4_ n5_ n6_ n7_ n8_ n9_ n10_ n11_ n12_
            (try clear hb)
            (try clear hb2)
            (try clear hk)
            (try clear hi)
            refine hK.out _ _ ⟨(blk_cell BK514.out 0).trans rfl,(blk_cell BK514.out 1).trans rfl,(blk_cell BK524.out 0).trans rfl,(blk_cell BK524.out 1).trans rfl,(blk_cell BK520.out 0).trans rfl,(blk_cell BK520.out 1).trans rfl,HS6_,HS7_,HS8_,HS9_,HS10_,HS11_,HS12_,HS13_,HS14_⟩ (fun hHeld => ?_)
            clear hK K
            refine norm_ (a':=?_) ?_ ?_
            rotate_left
            ·show Act.put _ (some 98) _ = _
             simp only [Act.put,sI,sZ,sS,i64_w,i32_w]
             rfl
            refine pS HT_ 31 105 ?_
            refine pS HT_ 32 106 ?_
            refine pS HT_ 33 107 ?_
            refine take_ (i:=34) (N:=some 108) (v:=?_) (a':=?_) #[bT,bT,bT,bT,bT,bT,bT,bT,bT,bT,bT,bT,bT,bT,bT,bT,bT,bT,bT,bT,bT,bT,bT,bT,bT,bT,bT,bT,bT,bT,bT,bT,bT,bT,bT,bF,bF,bF,bF,bF,bF,bF,bF] rfl rfl (take_ofW HT_.out HW_.out Q13) (fun _ _ _ h => h) (Or.inl ⟨Q67,?_⟩) hHeld ?_ ?_
            rotate_left
            ·rintro w' ⟨s0,s1,s2,s3,s4,s5,s6,s7,s8,s9,s10,s11,s12,s13,s14⟩
             (try simp only [Int.toNat_natCast] at s0 s1 s2 s3 s4 s5 s6 s7 s8 s9 s10 s11 s12 s13 s14)
             go_simp
             with_reducible rfl
            rotate_left
            ·simp only [Act.put,sI,sZ,sS,i64_w,i32_w]
             rfl
            refine one_ (i:=35) (N:=some 109) #[bT,bT,bT,bT,bT,bT,bT,bT,bT,bT,bT,bT,bT,bT,bT,bT,bT,bT,bT,bT,bT,bT,bT,bT,bT,bT,bT,bT,bT,bT,bT,bT,bT,bT,bT,bT,bF,bF,bF,bF,bF,bF,bF] rfl rfl (one_of HT_.out Q13) Q37 (fun K hK => ?_)
            refine goes_ Try.func9 Q13 rfl #[.agg #[.slice (some ad536) y521.length co8,.slice (some ad525) t511.length co10]] Q67 rfl rfl Q1 ?_
            with_reducible refine (impl_CertOk.calls k2 _ _ y521 _ _ t511 false _ ?side1 ?side2 ?side3 ?side4 A44.out).mono ?_
            (case side1 => exact Q128)
            (case side2 => exact (Kd.R_reads' HO523.out).2.1)
            (case side3 => exact Q91)
            (case side4 => exact (Kd.N_reads' HO_515001.out).2.1)
            rintro e w91 ⟨rfl,hb⟩
            have HS6_:=(hb.cell (World.block_lt_of_cell? _ _ (hHeld.2.2.2.2.2.2.1))).trans (hHeld.2.2.2.2.2.2.1)
            have HS7_:=(hb.cell (World.block_lt_of_cell? _ _ (hHeld.2.2.2.2.2.2.2.1))).trans (hHeld.2.2.2.2.2.2.2.1)
            have HS8_:=(hb.cell (World.block_lt_of_cell? _ _ (hHeld.2.2.2.2.2.2.2.2.1))).trans (hHeld.2.2.2.2.2.2.2.2.1)
            have HS9_:=(hb.cell (World.block_lt_of_cell? _ _ (hHeld.2.2.2.2.2.2.2.2.2.1))).trans (hHeld.2.2.2.2.2.2.2.2.2.1)
            have HS10_:=(hb.cell (World.block_lt_of_cell? _ _ (hHeld.2.2.2.2.2.2.2.2.2.2.1))).trans (hHeld.2.2.2.2.2.2.2.2.2.2.1)
            have HS11_:=(hb.cell (World.block_lt_of_cell? _ _ (hHeld.2.2.2.2.2.2.2.2.2.2.2.1))).trans (hHeld.2.2.2.2.2.2.2.2.2.2.2.1)
            have HS12_:=(hb.cell (World.block_lt_of_cell? _ _ (hHeld.2.2.2.2.2.2.2.2.2.2.2.2.1))).trans (hHeld.2.2.2.2.2.2.2.2.2.2.2.2.1)
            have HS13_:=(hb.cell (World.block_lt_of_cell? _ _ (hHeld.2.2.2.2.2.2.2.2.2.2.2.2.2.1))).trans (hHeld.2.2.2.2.2.2.2.2.2.2.2.2.2.1)
            have HS14_:=(hb.cell (World.block_lt_of_cell? _ _ (hHeld.2.2.2.2.2.2.2.2.2.2.2.2.2.2))).trans (hHeld.2.2.2.2.2.2.2.2.2.2.2.2.2.2)
            refine ⟨_,rfl,?_⟩
            have n0_:=aM (Kd.R_below (qR HO523) hb)
            have m0_:=aM (Kd.R_below (qR HO_515000) hb)
            have n1_:=aM (Kd.N_below (qN HO_515001) hb)
            have n2_:=aM (Kd.V_below (qV HL525_0) hb)
            have n3_:=aM (Kd.V_below (qV HL526_0) hb)
            have n4_:=aM (Kd.V_below (qV HL527_0) hb)
            have n5_:=aM (Kd.V_below (qV HO532) hb)
            have n6_:=aM (Kd.N_below (qN HO535) hb)
            have n7_:=aM (Kd.V_below (qV HL539_0) hb)
            have n8_:=aM (blk_below (g:=gb514) (o:=.cells #[.slice (some ad536) t508.length co8,.slice (some ad525) t511.length co10] 30 (0,0)) (qk BK514) hb)
            have n9_:=aM (blk_below (g:=gb520) (o:=.cells #[.slice (some ad536) y521.length co8,.slice (some ad525) t511.length co10] 30 (0,0)) (qk BK520) hb)
            have n10_:=aM (blk_below (g:=gb524) (o:=.cells #[.slice (some ad536) t508.length co8,.slice Ao86 y533.length co86] 30 (0,0)) (qk BK524) hb)
            have n11_:=aM (Kd.C_below Q58 hb)
            have n12_:=aM (below_step Q22 hb)
            clear HO523 HO_515000
            clear HO_515001
            clear HL525_0
            clear HL526_0
            clear HL527_0
            clear HO532
            clear HO535
            clear HL539_0
            clear BK514
            clear BK520
            clear BK524
            clear HR539_0
            clear HB
            have HO523:=n0_
            have HO_515000:=m0_
            have HO_515001:=n1_
            have HL525_0:=n2_
            have HL526_0:=n3_
            have HL527_0:=n4_
            have HO532:=n5_
            have HO535:=n6_
            have HL539_0:=n7_
            have BK514:=n8_
            have BK520:=n9_
            have BK524:=n10_
            have HR539_0:=n11_
            have HB:=n12_
            clear m0_ n0_ n1_ n2_ n3_ n4_ n5_ n6_ n7_ n8_ n9_ n10_ n11_ n12_
            (try clear hb)
            (try clear hb2)
            (try clear hk)
            (try clear hi)
            refine hK.out _ _ ⟨(blk_cell BK514.out 0).trans rfl,(blk_cell BK514.out 1).trans rfl,(blk_cell BK524.out 0).trans rfl,(blk_cell BK524.out 1).trans rfl,(blk_cell BK520.out 0).trans rfl,(blk_cell BK520.out 1).trans rfl,HS6_,HS7_,HS8_,HS9_,HS10_,HS11_,HS12_,HS13_,HS14_⟩ (fun hHeld => ?_)
            clear hK K
            refine norm_ (a':=?_) ?_ ?_
            rotate_left
            ·show Act.put _ (some 109) _ = _
             simp only [Act.put,sI,sZ,sS,i64_w,i32_w]
             rfl
            refine pS HT_ 36 110 ?_
            refine pS HT_ 37 111 ?_
            refine pU HT_ 38 112 ?_
            refine pU HT_ 39 113 ?_
            refine pS HT_ 40 114 ?_
            refine pS HT_ 41 115 ?_
            refine pS HT_ 42 2 ?_
            refine done_ (done_of HT_.out Q13) ?_
            try go_wp2
            go_ret
            exact ⟨Q113,Q22⟩
          ·rw [if_neg c43] at H
           have c43b0 : (t538 == (decide (((rd_L3 t511 2).length : Int) > 3))) = false:=by simpa using c43
           (try (have c43b1 : decide (t538 = (decide (((rd_L3 t511 2).length : Int) > 3))) = false:=by simpa using c43))
           (try (have c43b2 : (t538 == (decide (((rd_L3 t511 2).length : Int) > 3))) = false:=by simpa using c43))
           (try (have c43b3 : ¬ (t538 = (decide (((rd_L3 t511 2).length : Int) > 3))):=by simpa using c43))
           clear c43
           exact absurd ((Option.some.inj H).trans HR_.out) Q37
         ·rw [if_neg c41] at H
          have c41b0 : ((t511.length : Int) == 3) = false:=beq_eq_false_iff_ne.mpr c41
          have c41b1 : ((t511.length : Int) != 3) = true:=bne_iff_ne.mpr c41
          exact absurd ((Option.some.inj H).trans HR_.out) Q37
        ·rw [if_neg c40] at H
         have c40b0 : ((wrap64 (((rd_T40 t508 (ji36)).f0) + 2)) == ((rd_T40 t508 (ji29)).f0)) = false:=beq_eq_false_iff_ne.mpr c40
         have c40b1 : ((wrap64 (((rd_T40 t508 (ji36)).f0) + 2)) != ((rd_T40 t508 (ji29)).f0)) = true:=bne_iff_ne.mpr c40
         exact absurd ((Option.some.inj H).trans HR_.out) Q37

/-- What is left to prove of laws_FnCertForm. -/
def laws_FnCertForm.Pure : Prop:=∀ (l0 : List Int),l0.length ≤ 9223372036854775807 → (∀ x,x ∈ l0 → (Lit.int .u8 x).wf = true) → ∃ k,laws_FnCertForm.f k l0 = some true

end Go.Proofs.Ytlcfalecbpnhbaa.P
