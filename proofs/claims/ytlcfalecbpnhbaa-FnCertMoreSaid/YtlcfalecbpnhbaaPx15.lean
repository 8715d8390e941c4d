/- The printed functions: what each Go function computes, as a Lean function, and that the Go code comes to just that. Conditions: none beyond each contract's own. -/
import Derived.Test.YtlcfalecbpnhbaaPx0
import Derived.Test.YtlcfalecbpnhbaaPx4
import Derived.Test.YtlcfalecbpnhbaaPx7
import Derived.Test.YtlcfalecbpnhbaaPx14
namespace Go.Proofs.Ytlcfalecbpnhbaa.P
open Go.RowKit Go.Proofs.YtlcfalecbpnhbaaW.PrintWords Go.Proofs.YtlcfalecbpnhbaaW.PrintLast Go.Proofs.YtlcfalecbpnhbaaW.PrintMore
attribute [local go_sem] max2_int min2_int max_two min_two max_three min_three max_four min_four   -- for this text's walks alone
set_option linter.unusedVariables false
set_option linter.unusedSimpArgs false

/-! ### laws_FnCertMore: function 5 -/
mutual
def laws_FnCertMore.j0 : Nat → List Int → List Int → Bool → Option (Bool)
 | 0,_,_,_ => none
 | k + 1,x0,x1,x18 => if x18 = true then (some true) else ((spec_DrawCertOk.f k x0).bind fun bt508 => ((impl_CertOk.f k bt508.1 bt508.2).bind fun t515 => ((spec_CertOk.f k bt508.1 bt508.2).bind fun t516 => (if (t515 != t516) = true then (laws_FnCertMore.j1 k x1 t515 true bt508.1 bt508.2) else (laws_FnCertMore.j1 k x1 t515 (!t515) bt508.1 bt508.2)))))
def laws_FnCertMore.j1 : Nat → List Int → Bool → Bool → List (S40) → List (List Int) → Option (Bool)
 | 0,_,_,_,_,_ => none
 | k + 1,x1,x6,x30,x515000,x515001 => if x30 = true then ((spec_CertOk.f k x515000 x515001).bind fun t517 => (some (x6 == t517))) else ((some (([] : List (List Int)) : List (List Int))).bind fun y518 => (if y518.length + x515001.length < 5864062014805 then ((some (y518 ++ x515001 : List (List Int))).bind fun y521 => (if 0 ≤ ((x1.length : Int) % 3) then (if ((x1.length : Int) % 3) < (y521.length : Int) then ((some (([] : List (List Int)) : List (List Int))).bind fun y529 => (if y529.length + x515001.length < 5864062014805 then ((some (y529 ++ x515001 : List (List Int))).bind fun y532 => (if ((x1.length : Int) % 3) < (x515001.length : Int) then (if 2 ≤ ((rd_L3 x515001 ((x1.length : Int) % 3)).length : Int) then (if ((x1.length : Int) % 3) < (y532.length : Int) then ((some (([] : List (List Int)) : List (List Int))).bind fun y543 => (if y543.length + x515001.length < 5864062014805 then ((some (y543 ++ x515001 : List (List Int))).bind fun y546 => (if ((x1.length : Int) % 3) < (y546.length : Int) then ((impl_CertOk.f k x515000 (y521.set (((x1.length : Int) % 3) : Int).toNat (([1,2,3,4] : List Int)))).bind fun t554 => (if t554 = true then ((impl_CertOk.f k x515000 (y532.set (((x1.length : Int) % 3) : Int).toNat ((rd_L3 x515001 ((x1.length : Int) % 3)).take 2))).bind fun t555 => (if t555 = true then (some false) else ((impl_CertOk.f k x515000 (y546.set (((x1.length : Int) % 3) : Int).toNat (([1,2,2] : List Int)))).bind fun t556 => (some (!t556))))) else (some false))) else (none))) else (none))) else (none)) else (none)) else (none))) else (none))) else (none)) else (none))) else (none)))
end
def laws_FnCertMore.f (k : Nat) (l0 : List Int) (l1 : List Int) : Option (Bool):=if (l0.length : Int) > 1048576 then (laws_FnCertMore.j0 k l0 l1 true) else (laws_FnCertMore.j0 k l0 l1 (decide ((l1.length : Int) > 1048576)))
theorem laws_FnCertMore.mono_l : ∀ k,(∀ y0 y1 y2,LeO (laws_FnCertMore.j0 k y0 y1 y2) (laws_FnCertMore.j0 (k + 1) y0 y1 y2)) ∧ (∀ y0 y1 y2 y3 y4,LeO (laws_FnCertMore.j1 k y0 y1 y2 y3 y4) (laws_FnCertMore.j1 (k + 1) y0 y1 y2 y3 y4))
 | 0 => ⟨fun _ _ _ r h => by simp [laws_FnCertMore.j0] at h,fun _ _ _ _ _ r h => by simp [laws_FnCertMore.j1] at h⟩
 | k + 1 => by
  obtain ⟨ih0,ih1⟩:=laws_FnCertMore.mono_l k
  refine ⟨?_,?_⟩
  ·intro y0 y1 y2
   unfold laws_FnCertMore.j0
   repeat' first
   | (with_reducible exact ih0 _ _ _)
   | (with_reducible exact ih1 _ _ _ _ _)
   | (with_reducible exact impl_CertOk.mono _ _ _)
   | (with_reducible exact spec_CertOk.mono _ _ _)
   | (with_reducible exact spec_DrawCertOk.mono _ _)
   | (with_reducible exact LeO.refl _)
   | (with_reducible exact LeO.none _)
   | (with_reducible refine LeO.ite ?_ ?_)
   | (with_reducible refine LeO.bind ?_ (fun _ => ?_))
   | exact ih0 _ _ _
   | exact ih1 _ _ _ _ _
   | exact impl_CertOk.mono _ _ _
   | exact spec_CertOk.mono _ _ _
   | exact spec_DrawCertOk.mono _ _
   | exact LeO.none _
   | refine LeO.ite ?_ ?_
   | refine LeO.bind ?_ (fun _ => ?_)
  ·intro y0 y1 y2 y3 y4
   unfold laws_FnCertMore.j1
   repeat' first
   | (with_reducible exact ih0 _ _ _)
   | (with_reducible exact ih1 _ _ _ _ _)
   | (with_reducible exact impl_CertOk.mono _ _ _)
   | (with_reducible exact spec_CertOk.mono _ _ _)
   | (with_reducible exact spec_DrawCertOk.mono _ _)
   | (with_reducible exact LeO.refl _)
   | (with_reducible exact LeO.none _)
   | (with_reducible refine LeO.ite ?_ ?_)
   | (with_reducible refine LeO.bind ?_ (fun _ => ?_))
   | exact ih0 _ _ _
   | exact ih1 _ _ _ _ _
   | exact impl_CertOk.mono _ _ _
   | exact spec_CertOk.mono _ _ _
   | exact spec_DrawCertOk.mono _ _
   | exact LeO.none _
   | refine LeO.ite ?_ ?_
   | refine LeO.bind ?_ (fun _ => ?_)
theorem laws_FnCertMore.mono : ∀ a0 a1 k,LeO (laws_FnCertMore.f k a0 a1) (laws_FnCertMore.f (k + 1) a0 a1):=by
 intro a0 a1 k
 obtain ⟨ih0,ih1⟩:=laws_FnCertMore.mono_l k
 unfold laws_FnCertMore.f
 repeat' first
   | (with_reducible exact ih0 _ _ _)
   | (with_reducible exact ih1 _ _ _ _ _)
   | (with_reducible exact impl_CertOk.mono _ _ _)
   | (with_reducible exact spec_CertOk.mono _ _ _)
   | (with_reducible exact spec_DrawCertOk.mono _ _)
   | (with_reducible exact LeO.refl _)
   | (with_reducible exact LeO.none _)
   | (with_reducible refine LeO.ite ?_ ?_)
   | (with_reducible refine LeO.bind ?_ (fun _ => ?_))
   | exact ih0 _ _ _
   | exact ih1 _ _ _ _ _
   | exact impl_CertOk.mono _ _ _
   | exact spec_CertOk.mono _ _ _
   | exact spec_DrawCertOk.mono _ _
   | exact LeO.none _
   | refine LeO.ite ?_ ?_
   | refine LeO.bind ?_ (fun _ => ?_)
def laws_FnCertMore.T8 : Bool × List (List Nat × List Nat):=(true,[([],[]),([0],[0]),([],[]),([],[]),([3],[3]),([2,4],[2,4]),([1,5],[1,5]),([],[]),([7,6,5,0,1,2,3,4,5,6,7],[6,7])])
def laws_FnCertMore.B8 : List Nat:=[0,1,0,0,8,28,63,0,255]
theorem laws_FnCertMore.tab8 : rtab .any (opsOf Try.f5 8) = laws_FnCertMore.T8:=by kernel_rfl
theorem laws_FnCertMore.bits8 : waitsOk laws_FnCertMore.T8.2 laws_FnCertMore.B8 = true:=by kernel_rfl
def laws_FnCertMore.T10 : Bool × List (List Nat × List Nat):=(true,[([],[]),([0],[0]),([],[]),([],[]),([3],[3]),([2,4],[2,4]),([1,5],[1,5]),([],[]),([7,6,5,0,1,2,3,4,5,6,7],[6,7])])
def laws_FnCertMore.B10 : List Nat:=[0,1,0,0,8,28,63,0,255]
theorem laws_FnCertMore.tab10 : rtab .any (opsOf Try.f5 10) = laws_FnCertMore.T10:=by kernel_rfl
theorem laws_FnCertMore.bits10 : waitsOk laws_FnCertMore.T10.2 laws_FnCertMore.B10 = true:=by kernel_rfl
def laws_FnCertMore.T11 : Bool × List (List Nat × List Nat):=(true,[([],[]),([0],[0]),([],[]),([],[]),([3],[3]),([],[]),([4,5],[4,5]),([6],[6]),([7],[7]),([1,2,0,1,2,3,4,5,6,7,8],[1,2]),([9,8,0,1,2,3,4,5,6,7,8],[8,9])])
def laws_FnCertMore.B11 : List Nat:=[0,1,0,0,8,0,56,120,248,511,1023]
theorem laws_FnCertMore.tab11 : rtab .any (opsOf Try.f5 11) = laws_FnCertMore.T11:=by kernel_rfl
theorem laws_FnCertMore.bits11 : waitsOk laws_FnCertMore.T11.2 laws_FnCertMore.B11 = true:=by kernel_rfl
def laws_FnCertMore.T12 : Bool × List (List Nat × List Nat):=(true,[([],[]),([0],[0]),([],[]),([],[]),([3],[3]),([2,4],[2,4]),([1,5],[1,5]),([],[]),([7,6,5,0,1,2,3,4,5,6,7],[6,7])])
def laws_FnCertMore.B12 : List Nat:=[0,1,0,0,8,28,63,0,255]
theorem laws_FnCertMore.tab12 : rtab .any (opsOf Try.f5 12) = laws_FnCertMore.T12:=by kernel_rfl
theorem laws_FnCertMore.bits12 : waitsOk laws_FnCertMore.T12.2 laws_FnCertMore.B12 = true:=by kernel_rfl
set_option maxHeartbeats 8000000 in
set_option maxRecDepth 100000 in
theorem laws_FnCertMore.calls (k : Nat) (A0 : Option Addr) (c0 : Nat) (l0 : List Int) (A1 : Option Addr) (c1 : Nat) (l1 : List Int) (r : Bool) (hr_ : r = true) (w : World) (hr0 : Kd.C (Kd.int .u8) w A0 l0.length l0) (hc0 : l0.length ≤ c0) (hr1 : Kd.C (Kd.int .u8) w A1 l1.length l1) (hc1 : l1.length ≤ c1) (h : laws_FnCertMore.f k l0 l1 = some r) :
  Calls Try.prog 5 #[.slice A0 l0.length c0,.slice A1 l1.length c1] w fun e w' => e = .returned (.bool r) ∧ Below w.heap.size w w':=by
 have HR_:=aM hr_
 clear hr_
 have hu30:=Try.underlying30
 have HR0:=aM hr0
 have HC0:=aM hc0
 clear hr0 hc0
 have HR1:=aM hr1
 have HC1:=aM hc1
 clear hr1 hc1
 have HB:=aM (Below.refl w.heap.size w)
 have H : (if (l0.length : Int) > 1048576 then (laws_FnCertMore.j0 k l0 l1 true) else (laws_FnCertMore.j0 k l0 l1 (decide ((l1.length : Int) > 1048576)))) = some r:=h
 clear h
 have HC3:=aM H
 clear H
 go_enter Try.func5,Try.ntmps5
 go_upto_region 1 with (fail)
 go_cut [18] (fun v18 wc => ∃ (kq : Nat) (x18_2 : Bool),v18 = .bool x18_2 ∧ Aside0 (laws_FnCertMore.j0 kq l0 l1 x18_2 = some r) ∧ Aside0 (kq ≤ k) ∧ Aside0 (Below w.heap.size w wc))
 case first =>
  have H:=HC3.out
  clear HC3
  by_cases c4 : (l0.length : Int) > 1048576
  ·rw [if_pos c4] at H
   have c4b0 : decide (1048576 < (l0.length : Int)) = true:=decide_eq_true c4
   have c4b1 : decide (1048576 < l0.length) = true:=decide_eq_true Q17
   clear c4
   (first|rw [c4b0]|rw [c4b1]|(simp only [i64_w,i32_w];rw [c4b0])|skip)
   have H':=aM H
   clear H
   go_wp2
   go_meet
   case rel => exact ⟨_,(true),Q11,H',⟨Q115⟩,⟨Q3⟩⟩
  ·rw [if_neg c4] at H
   have c4b0 : decide (1048576 < (l0.length : Int)) = false:=decide_eq_false c4
   have c4b1 : decide (1048576 < l0.length) = false:=decide_eq_false Q17
   clear c4
   (first|rw [c4b0]|rw [c4b1]|(simp only [i64_w,i32_w];rw [c4b0])|skip)
   have H':=aM H
   clear H
   go_wp2
   go_meet
   case rel => exact ⟨_,(decide ((l1.length : Int) > 1048576)),Q11,H',⟨Q115⟩,⟨Q3⟩⟩
 case rest =>
  clear HC3
  try clear c1
  try clear p2
  try clear c4
  try clear c4b0
  try clear c4b1
  obtain ⟨kq,x18_2,rfl,HA,HJ2,HB⟩:=hcut
  cases kq with
  | zero => exact absurd HA.out (by simp [laws_FnCertMore.j0])
  | succ kj2 =>
   have H:=HA.out
   clear HA
   simp only [laws_FnCertMore.j0] at H
   by_cases c5 : x18_2 = true
   ·subst c5
    have H1 : (some true) = some r:=by rw [if_pos rfl] at H;exact H
    clear H
    have H:=H1
    clear H1
    obtain rfl:=Option.some.inj H
    go_wp2
    go_ret
    exact ⟨Q6,Q3⟩
   ·replace c5:=Bool.eq_false_iff.mpr c5
    subst c5
    have H1 : ((spec_DrawCertOk.f kj2 l0).bind fun bt508 => ((impl_CertOk.f kj2 bt508.1 bt508.2).bind fun t515 => ((spec_CertOk.f kj2 bt508.1 bt508.2).bind fun t516 => (if (t515 != t516) = true then (laws_FnCertMore.j1 kj2 l1 t515 true bt508.1 bt508.2) else (laws_FnCertMore.j1 kj2 l1 t515 (!t515) bt508.1 bt508.2))))) = some r:=by rw [if_neg (show ¬ (false = true) by decide)] at H;exact H
    clear H
    have H:=H1
    clear H1
    replace H:=Option.bind_eq_some_iff.mp H
    obtain ⟨⟨t508,t511⟩,A60,H⟩:=H
    replace H : ((impl_CertOk.f kj2 t508 t511).bind fun t515 => ((spec_CertOk.f kj2 t508 t511).bind fun t516 => (if (t515 != t516) = true then (laws_FnCertMore.j1 kj2 l1 t515 true t508 t511) else (laws_FnCertMore.j1 kj2 l1 t515 (!t515) t508 t511)))) = some r:=H
    have A6:=aM A60
    clear A60
    replace H:=Option.bind_eq_some_iff.mp H
    obtain ⟨t515,A70,H⟩:=H
    replace H : ((spec_CertOk.f kj2 t508 t511).bind fun t516 => (if (t515 != t516) = true then (laws_FnCertMore.j1 kj2 l1 t515 true t508 t511) else (laws_FnCertMore.j1 kj2 l1 t515 (!t515) t508 t511))) = some r:=H
    have A7:=aM A70
    clear A70
    have HC8:=aM H
    clear H
    go_upto_region 5 with (first|((with_reducible refine gate_callee (f:=11) rfl ?_);refine goesL_ (some 20) rfl rfl Try.func11 Q14 rfl #[.slice A0 l0.length c0] rfl Q1 ?_;(with_reducible refine (spec_DrawCertOk.calls kj2 _ _ l0 t508 t511 _ ?side1 ?side2 A6.out).mono ?_);(case side1 => exact Q19);(case side2 => exact HC0.out);rintro e w9 ⟨v509,v512,rfl,ho0,ho1,hb⟩;refine ⟨_,rfl,?_⟩;have n0_:=aM (Kd.R_lower (Kd.R_mono (ok':=fun k_ => True) ho0 (fun _ hk_ => trivial)) (below_size Q3));have n1_:=aM (Kd.N_lower (Kd.N_mono (ok':=fun k_ => some k_ ≠ (v509 : Value).ownBlock) ho1 (fun k_ hk_ => hk_.2)) (below_size Q3));have n2_:=aM (below_step Q3 hb);clear HB;have HO510:=n0_;have HO513:=n1_;have HB:=n2_;clear n0_ n1_ n2_;(try clear hb);(try clear hb2);(try clear hk);(try clear hi);(try clear ho0);(try clear ho1))|((with_reducible refine gate_dst (N:=5) rfl ?_);(try (refine gate_guard Q70 ?_;dsimp only));refine box_event ?hg (N:=5) ?hd (cs:=#[.slice none 0 0,.slice none 0 0]) (t:=30) ?hr ?_;(case hd => rfl);(case hg => rfl);(case hr => exact Q16);intro gb514 hg w10 hbox hb;have n0_:=aM (Kd.R_below (qR HO510) hb);have n1_:=aM (Kd.N_below (Kd.N_elderB (qN HO513) gb514 (Nat.le_of_eq hg.symm)) hb);have n2_:=aM (below_step Q3 hb);have n3_:=aM (hbox);have n4_:=aM ((Q37 : w.heap.size ≤ gb514));have n5_:=aM ((Q37 : w.heap.size ≤ gb514));clear HO510;clear HO513;clear HB;have HO510:=n0_;have HO513:=n1_;have HB:=n2_;have BK514:=n3_;have GW514:=n4_;have GE514:=n5_;clear n0_ n1_ n2_ n3_ n4_ n5_;clear hb hbox hg;obtain ⟨Ao11,co11,eo11⟩:=Kd.R_slice HO510.out;subst eo11;have hcz12_0 : w10.cell? ⟨gb514,0,none⟩ = some (.slice none 0 0):=(blk_cell BK514.out 0).trans rfl;have hcz12_1 : w10.cell? ⟨gb514,1,none⟩ = some (.slice none 0 0):=(blk_cell BK514.out 1).trans rfl;have hfz12_0:=blk_frozen BK514.out 0;have hfz12_1:=blk_frozen BK514.out 1;obtain ⟨Ao13,co13,eo13⟩:=Kd.N_slice HO513.out;subst eo13)|((with_reducible refine gate_callee (f:=9) rfl ?_);refine goesL_ (some 22) rfl rfl Try.func9 Q14 rfl #[.agg #[.slice Ao11 t508.length co11,.slice Ao13 t511.length co13]] rfl Q1 ?_;(with_reducible refine (impl_CertOk.calls kj2 _ _ t508 _ _ t511 t515 _ ?side1 ?side2 ?side3 ?side4 A7.out).mono ?_);(case side1 => refine (Kd.R_reads' (e:=40) (base:=w.heap.size) (ok:=fun k_ => True) (n:=t508.length) (c:=co11) ?_).2.2;exact Q87);(case side2 => exact (Kd.R_reads' HO510.out).2.1);(case side3 => refine (Kd.N_reads' (e:=36) (base:=w.heap.size) (ok:=fun k_ => (some k_ ≠ (.slice Ao11 t508.length co11 : Value).ownBlock ∧ k_ ≠ gb514)) (n:=t511.length) (c:=co13) ?_).2.2;exact Q78);(case side4 => exact (Kd.N_reads' HO513.out).2.1);rintro e w14 ⟨rfl,hb⟩;refine ⟨_,rfl,?_⟩;have n0_:=aM (Kd.R_below Q87 hb);have n1_:=aM (Kd.N_below Q78 hb);have n2_:=aM (blk_below (g:=gb514) (o:=.cells #[.slice Ao11 t508.length co11,.slice Ao13 t511.length co13] 30 (0,0)) (by (with_reducible repeat (first|refine blk_drewN ?_ _|refine blk_drew ?_|refine blk_alloc ?_ _));refine blk_put (cs:=#[.slice Ao11 t508.length co11,.slice none 0 0]) ?_ 1 _ rfl;(with_reducible repeat (first|refine blk_drewN ?_ _|refine blk_drew ?_|refine blk_alloc ?_ _));refine blk_put (cs:=#[.slice none 0 0,.slice none 0 0]) ?_ 0 _ rfl;(with_reducible repeat (first|refine blk_drewN ?_ _|refine blk_drew ?_|refine blk_alloc ?_ _));exact BK514.out) hb);have n3_:=aM (below_step Q25 hb);clear HO510;clear HO513;clear BK514;clear HB;have HO510:=n0_;have HO513:=n1_;have BK514:=n2_;have HB:=n3_;clear n0_ n1_ n2_ n3_;(try clear hb);(try clear hb2);(try clear hk);(try clear hi)))
    (try simp only [Act.put,sI,sZ,sS])
    go_cut [30] (fun v30 wc => ∃ (kq : Nat) (x30_7 : Bool),v30 = .bool x30_7 ∧ Aside0 (laws_FnCertMore.j1 kq l1 t515 x30_7 t508 t511 = some r) ∧ Aside0 (kq ≤ kj2) ∧ Aside0 (Kd.R k40 40 wc w.heap.size (fun _ => True) (.slice Ao11 t508.length co11) t508) ∧ Aside0 (Kd.N (Kd.slice 3 (Kd.int .i64)) 36 wc w.heap.size (fun k_ => some k_ ≠ ((.slice Ao11 t508.length co11) : Value).ownBlock ∧ k_ ≠ gb514) (.slice Ao13 t511.length co13) t511) ∧ Aside0 (wc.heap[gb514]? = some (.cells #[(.slice Ao11 t508.length co11),(.slice Ao13 t511.length co13)] 30 (0,0))) ∧ Aside0 (Below w.heap.size w wc))
    case first =>
     have H:=HC8.out
     clear HC8
     replace H:=Option.bind_eq_some_iff.mp H
     obtain ⟨t516,A150,H⟩:=H
     replace H : (if (t515 != t516) = true then (laws_FnCertMore.j1 kj2 l1 t515 true t508 t511) else (laws_FnCertMore.j1 kj2 l1 t515 (!t515) t508 t511)) = some r:=H
     have A15:=aM A150
     clear A150
     by_cases c16 : (t515 != t516) = true
     ·rw [if_pos c16] at H
      have c16b0 : (t515 != t516) = true:=c16
      (try (have c16b1 : decide (t515 = t516) = false:=by simpa using c16))
      (try (have c16b2 : (t515 == t516) = false:=by simpa using c16))
      (try (have c16b3 : ¬ (t515 = t516):=by simpa using c16))
      clear c16
      (first|rw [c16b0]|rw [c16b1]|(simp only [i64_w,i32_w];rw [c16b0])|skip)
      have H':=aM H
      clear H
      have hcz17_0 : w14.cell? ⟨gb514,0,none⟩ = some (.slice Ao11 t508.length co11):=(blk_cell BK514.out 0).trans rfl
      have hcz17_1 : w14.cell? ⟨gb514,1,none⟩ = some (.slice Ao13 t511.length co13):=(blk_cell BK514.out 1).trans rfl
      have hfz17_0:=blk_frozen BK514.out 0
      have hfz17_1:=blk_frozen BK514.out 1
      go_wp2_with (first|((with_reducible refine gate_callee (f:=7) rfl ?_);refine goesL_ (some 25) rfl rfl Try.func7 Q14 rfl #[.agg #[.slice Ao11 t508.length co11,.slice Ao13 t511.length co13]] rfl Q1 ?_;(with_reducible refine (spec_CertOk.calls kj2 _ _ t508 _ _ t511 t516 _ ?side1 ?side2 ?side3 ?side4 A15.out).mono ?_);(case side1 => exact Q124);(case side2 => exact (Kd.R_reads' HO510.out).2.1);(case side3 => exact Q126);(case side4 => exact (Kd.N_reads' HO513.out).2.1);rintro e w18 ⟨rfl,hb⟩;refine ⟨_,rfl,?_⟩;have n0_:=aM (Kd.R_below (qR HO510) hb);have n1_:=aM (Kd.N_below (qN HO513) hb);have n2_:=aM (blk_below (g:=gb514) (o:=.cells #[.slice Ao11 t508.length co11,.slice Ao13 t511.length co13] 30 (0,0)) (qk BK514) hb);have n3_:=aM (below_step Q25 hb);clear HO510;clear HO513;clear BK514;clear HB;have HO510:=n0_;have HO513:=n1_;have BK514:=n2_;have HB:=n3_;clear n0_ n1_ n2_ n3_;(try clear hb);(try clear hb2);(try clear hk);(try clear hi)))
      go_meet
      case rel => exact ⟨_,(true),Q11,H',⟨by have:=HJ2.out;first|omega|exact Nat.le_refl _⟩,⟨qR HO510⟩,⟨qN HO513⟩,⟨qk BK514⟩,⟨Q25⟩⟩
     ·rw [if_neg c16] at H
      have c16b0 : (t515 != t516) = false:=by simpa using c16
      (try (have c16b1 : decide (t515 = t516) = true:=by simpa using c16))
      (try (have c16b2 : (t515 == t516) = true:=by simpa using c16))
      clear c16
      (first|rw [c16b0]|rw [c16b1]|(simp only [i64_w,i32_w];rw [c16b0])|skip)
      have H':=aM H
      clear H
      have hcz19_0 : w14.cell? ⟨gb514,0,none⟩ = some (.slice Ao11 t508.length co11):=(blk_cell BK514.out 0).trans rfl
      have hcz19_1 : w14.cell? ⟨gb514,1,none⟩ = some (.slice Ao13 t511.length co13):=(blk_cell BK514.out 1).trans rfl
      have hfz19_0:=blk_frozen BK514.out 0
      have hfz19_1:=blk_frozen BK514.out 1
      go_wp2_with (first|((with_reducible refine gate_callee (f:=7) rfl ?_);refine goesL_ (some 25) rfl rfl Try.func7 Q14 rfl #[.agg #[.slice Ao11 t508.length co11,.slice Ao13 t511.length co13]] rfl Q1 ?_;(with_reducible refine (spec_CertOk.calls kj2 _ _ t508 _ _ t511 t516 _ ?side1 ?side2 ?side3 ?side4 A15.out).mono ?_);(case side1 => exact Q124);(case side2 => exact (Kd.R_reads' HO510.out).2.1);(case side3 => exact Q126);(case side4 => exact (Kd.N_reads' HO513.out).2.1);rintro e w20 ⟨rfl,hb⟩;refine ⟨_,rfl,?_⟩;have n0_:=aM (Kd.R_below (qR HO510) hb);have n1_:=aM (Kd.N_below (qN HO513) hb);have n2_:=aM (blk_below (g:=gb514) (o:=.cells #[.slice Ao11 t508.length co11,.slice Ao13 t511.length co13] 30 (0,0)) (qk BK514) hb);have n3_:=aM (below_step Q25 hb);clear HO510;clear HO513;clear BK514;clear HB;have HO510:=n0_;have HO513:=n1_;have BK514:=n2_;have HB:=n3_;clear n0_ n1_ n2_ n3_;(try clear hb);(try clear hb2);(try clear hk);(try clear hi)))
      go_meet
      case rel => exact ⟨_,(!t515),Q11,H',⟨by have:=HJ2.out;first|omega|exact Nat.le_refl _⟩,⟨qR HO510⟩,⟨qN HO513⟩,⟨qk BK514⟩,⟨Q25⟩⟩
    case rest =>
     clear HC8
     try clear c1
     try clear p2
     try clear c4
     try clear c4b0
     try clear c4b1
     try clear c5
     try clear c7
     try clear c9
     try clear c11
     try clear c16
     try clear c16b0
     try clear c16b1
     try clear c16b2
     try clear hcz12_0
     try clear hcz12_1
     try clear hcz17_0
     try clear hcz17_1
     try clear hcz19_0
     try clear hcz19_1
     try clear hfz12_0
     try clear hfz12_1
     try clear hfz17_0
     try clear hfz17_1
     try clear hfz19_0
     try clear hfz19_1
     try clear p2
     obtain ⟨kq,x30_7,rfl,HA,HJ7,HO_515000,HO_515001,BK514,HB⟩:=hcut
     cases kq with
     | zero => exact absurd HA.out (by simp [laws_FnCertMore.j1])
     | succ kj7 =>
      have H:=HA.out
      clear HA
      simp only [laws_FnCertMore.j1] at H
      by_cases c21 : x30_7 = true
      ·subst c21
       have H1 : ((spec_CertOk.f kj7 t508 t511).bind fun t517 => (some (t515 == t517))) = some r:=by rw [if_pos rfl] at H;exact H
       clear H
       have H:=H1
       clear H1
       replace H:=Option.bind_eq_some_iff.mp H
       obtain ⟨t517,A220,H⟩:=H
       replace H : (some (t515 == t517)) = some r:=H
       have A22:=aM A220
       clear A220
       obtain rfl:=Option.some.inj H
       have hcz23_0 : wc.cell? ⟨gb514,0,none⟩ = some (.slice Ao11 t508.length co11):=(blk_cell BK514.out 0).trans rfl
       have hcz23_1 : wc.cell? ⟨gb514,1,none⟩ = some (.slice Ao13 t511.length co13):=(blk_cell BK514.out 1).trans rfl
       have hfz23_0:=blk_frozen BK514.out 0
       have hfz23_1:=blk_frozen BK514.out 1
       go_wp2_with (first|((with_reducible refine gate_callee (f:=7) rfl ?_);refine goesL_ (some 33) rfl rfl Try.func7 Q14 rfl #[.agg #[.slice Ao11 t508.length co11,.slice Ao13 t511.length co13]] rfl Q1 ?_;(with_reducible refine (spec_CertOk.calls kj7 _ _ t508 _ _ t511 t517 _ ?side1 ?side2 ?side3 ?side4 A22.out).mono ?_);(case side1 => exact Q62);(case side2 => exact (Kd.R_reads' HO_515000.out).2.1);(case side3 => repeat (first|exact (Kd.N_reads' HO_515001.out).2.2|(with_reducible refine Kd.C_alloc ?_ _)|(with_reducible refine Kd.C_drewN ?_ _)|(with_reducible refine Kd.C_drew ?_)));(case side4 => exact (Kd.N_reads' HO_515001.out).2.1);rintro e w24 ⟨rfl,hb⟩;refine ⟨_,rfl,?_⟩;have n0_:=aM (Kd.R_below (qR HO_515000) hb);have n1_:=aM (Kd.N_below (qN HO_515001) hb);have n2_:=aM (blk_below (g:=gb514) (o:=.cells #[.slice Ao11 t508.length co11,.slice Ao13 t511.length co13] 30 (0,0)) (qk BK514) hb);have n3_:=aM (below_step Q25 hb);clear HO_515000;clear HO_515001;clear BK514;clear HB;have HO_515000:=n0_;have HO_515001:=n1_;have BK514:=n2_;have HB:=n3_;clear n0_ n1_ n2_ n3_;(try clear hb);(try clear hb2);(try clear hk);(try clear hi)))
       go_ret
       exact ⟨Q6,Q25⟩
      ·replace c21:=Bool.eq_false_iff.mpr c21
       subst c21
       have H1 : ((some (([] : List (List Int)) : List (List Int))).bind fun y518 => (if y518.length + t511.length < 5864062014805 then ((some (y518 ++ t511 : List (List Int))).bind fun y521 => (if 0 ≤ ((l1.length : Int) % 3) then (if ((l1.length : Int) % 3) < (y521.length : Int) then ((some (([] : List (List Int)) : List (List Int))).bind fun y529 => (if y529.length + t511.length < 5864062014805 then ((some (y529 ++ t511 : List (List Int))).bind fun y532 => (if ((l1.length : Int) % 3) < (t511.length : Int) then (if 2 ≤ ((rd_L3 t511 ((l1.length : Int) % 3)).length : Int) then (if ((l1.length : Int) % 3) < (y532.length : Int) then ((some (([] : List (List Int)) : List (List Int))).bind fun y543 => (if y543.length + t511.length < 5864062014805 then ((some (y543 ++ t511 : List (List Int))).bind fun y546 => (if ((l1.length : Int) % 3) < (y546.length : Int) then ((impl_CertOk.f kj7 t508 (y521.set (((l1.length : Int) % 3) : Int).toNat (([1,2,3,4] : List Int)))).bind fun t554 => (if t554 = true then ((impl_CertOk.f kj7 t508 (y532.set (((l1.length : Int) % 3) : Int).toNat ((rd_L3 t511 ((l1.length : Int) % 3)).take 2))).bind fun t555 => (if t555 = true then (some false) else ((impl_CertOk.f kj7 t508 (y546.set (((l1.length : Int) % 3) : Int).toNat (([1,2,2] : List Int)))).bind fun t556 => (some (!t556))))) else (some false))) else (none))) else (none))) else (none)) else (none)) else (none))) else (none))) else (none)) else (none))) else (none))) = some r:=by rw [if_neg (show ¬ (false = true) by decide)] at H;exact H
       clear H
       have H:=H1
       clear H1
       obtain ⟨y518,hy518⟩ : ∃ y_ : List (List Int),y_ = (([] : List (List Int))):=⟨_,rfl⟩
       replace H : (if y518.length + t511.length < 5864062014805 then ((some (y518 ++ t511 : List (List Int))).bind fun y521 => (if 0 ≤ ((l1.length : Int) % 3) then (if ((l1.length : Int) % 3) < (y521.length : Int) then ((some (([] : List (List Int)) : List (List Int))).bind fun y529 => (if y529.length + t511.length < 5864062014805 then ((some (y529 ++ t511 : List (List Int))).bind fun y532 => (if ((l1.length : Int) % 3) < (t511.length : Int) then (if 2 ≤ ((rd_L3 t511 ((l1.length : Int) % 3)).length : Int) then (if ((l1.length : Int) % 3) < (y532.length : Int) then ((some (([] : List (List Int)) : List (List Int))).bind fun y543 => (if y543.length + t511.length < 5864062014805 then ((some (y543 ++ t511 : List (List Int))).bind fun y546 => (if ((l1.length : Int) % 3) < (y546.length : Int) then ((impl_CertOk.f kj7 t508 (y521.set (((l1.length : Int) % 3) : Int).toNat (([1,2,3,4] : List Int)))).bind fun t554 => (if t554 = true then ((impl_CertOk.f kj7 t508 (y532.set (((l1.length : Int) % 3) : Int).toNat ((rd_L3 t511 ((l1.length : Int) % 3)).take 2))).bind fun t555 => (if t555 = true then (some false) else ((impl_CertOk.f kj7 t508 (y546.set (((l1.length : Int) % 3) : Int).toNat (([1,2,2] : List Int)))).bind fun t556 => (some (!t556))))) else (some false))) else (none))) else (none))) else (none)) else (none)) else (none))) else (none))) else (none)) else (none))) else (none)) = some r:=by first|(rw [hy518];with_reducible exact H)|(have H2_:=(Option.bind_some _ _).symm.trans H;rw [hy518];with_reducible exact H2_)|(have H2_:=(Option.bind_some _ _).symm.trans H;with_reducible exact H2_)|with_reducible exact H|(rw [hy518];exact H)|exact H
       have Ny518:=aM hy518
       clear hy518
       by_cases c25 : y518.length + t511.length < 5864062014805
       case neg => rw [if_neg c25] at H;exact absurd H Q51
       rw [if_pos c25] at H
       have LMc25:=aM c25
       clear c25
       obtain ⟨y521,hy521⟩ : ∃ y_ : List (List Int),y_ = (y518 ++ t511):=⟨_,rfl⟩
       replace H : (if 0 ≤ ((l1.length : Int) % 3) then (if ((l1.length : Int) % 3) < (y521.length : Int) then ((some (([] : List (List Int)) : List (List Int))).bind fun y529 => (if y529.length + t511.length < 5864062014805 then ((some (y529 ++ t511 : List (List Int))).bind fun y532 => (if ((l1.length : Int) % 3) < (t511.length : Int) then (if 2 ≤ ((rd_L3 t511 ((l1.length : Int) % 3)).length : Int) then (if ((l1.length : Int) % 3) < (y532.length : Int) then ((some (([] : List (List Int)) : List (List Int))).bind fun y543 => (if y543.length + t511.length < 5864062014805 then ((some (y543 ++ t511 : List (List Int))).bind fun y546 => (if ((l1.length : Int) % 3) < (y546.length : Int) then ((impl_CertOk.f kj7 t508 (y521.set (((l1.length : Int) % 3) : Int).toNat (([1,2,3,4] : List Int)))).bind fun t554 => (if t554 = true then ((impl_CertOk.f kj7 t508 (y532.set (((l1.length : Int) % 3) : Int).toNat ((rd_L3 t511 ((l1.length : Int) % 3)).take 2))).bind fun t555 => (if t555 = true then (some false) else ((impl_CertOk.f kj7 t508 (y546.set (((l1.length : Int) % 3) : Int).toNat (([1,2,2] : List Int)))).bind fun t556 => (some (!t556))))) else (some false))) else (none))) else (none))) else (none)) else (none)) else (none))) else (none))) else (none)) else (none)) = some r:=by first|(rw [hy521];with_reducible exact H)|(have H2_:=(Option.bind_some _ _).symm.trans H;rw [hy521];with_reducible exact H2_)|(have H2_:=(Option.bind_some _ _).symm.trans H;with_reducible exact H2_)|with_reducible exact H|(rw [hy521];exact H)|exact H
       have Ny521:=aM hy521
       clear hy521
       obtain ⟨y525,hy525⟩ : ∃ y_ : List Int,y_ = (([1,2,3,4] : List Int)):=⟨_,rfl⟩
       replace H : (if 0 ≤ ((l1.length : Int) % 3) then (if ((l1.length : Int) % 3) < (y521.length : Int) then ((some (([] : List (List Int)) : List (List Int))).bind fun y529 => (if y529.length + t511.length < 5864062014805 then ((some (y529 ++ t511 : List (List Int))).bind fun y532 => (if ((l1.length : Int) % 3) < (t511.length : Int) then (if 2 ≤ ((rd_L3 t511 ((l1.length : Int) % 3)).length : Int) then (if ((l1.length : Int) % 3) < (y532.length : Int) then ((some (([] : List (List Int)) : List (List Int))).bind fun y543 => (if y543.length + t511.length < 5864062014805 then ((some (y543 ++ t511 : List (List Int))).bind fun y546 => (if ((l1.length : Int) % 3) < (y546.length : Int) then ((impl_CertOk.f kj7 t508 (y521.set (((l1.length : Int) % 3) : Int).toNat y525)).bind fun t554 => (if t554 = true then ((impl_CertOk.f kj7 t508 (y532.set (((l1.length : Int) % 3) : Int).toNat ((rd_L3 t511 ((l1.length : Int) % 3)).take 2))).bind fun t555 => (if t555 = true then (some false) else ((impl_CertOk.f kj7 t508 (y546.set (((l1.length : Int) % 3) : Int).toNat (([1,2,2] : List Int)))).bind fun t556 => (some (!t556))))) else (some false))) else (none))) else (none))) else (none)) else (none)) else (none))) else (none))) else (none)) else (none)) = some r:=by first|(rw [hy525];with_reducible exact H)|(have H2_:=(Option.bind_some _ _).symm.trans H;rw [hy525];with_reducible exact H2_)|(have H2_:=(Option.bind_some _ _).symm.trans H;with_reducible exact H2_)|with_reducible exact H|(rw [hy525];exact H)|exact H
       have Ny525:=aM hy525
       clear hy525
       obtain ⟨ji26,hji26⟩ : ∃ j_ : Int,((l1.length : Int) % 3) = j_:=⟨_,rfl⟩
       replace H : (if 0 ≤ (ji26) then (if (ji26) < (y521.length : Int) then ((some (([] : List (List Int)) : List (List Int))).bind fun y529 => (if y529.length + t511.length < 5864062014805 then ((some (y529 ++ t511 : List (List Int))).bind fun y532 => (if (ji26) < (t511.length : Int) then (if 2 ≤ ((rd_L3 t511 (ji26)).length : Int) then (if (ji26) < (y532.length : Int) then ((some (([] : List (List Int)) : List (List Int))).bind fun y543 => (if y543.length + t511.length < 5864062014805 then ((some (y543 ++ t511 : List (List Int))).bind fun y546 => (if (ji26) < (y546.length : Int) then ((impl_CertOk.f kj7 t508 (y521.set ((ji26) : Int).toNat y525)).bind fun t554 => (if t554 = true then ((impl_CertOk.f kj7 t508 (y532.set ((ji26) : Int).toNat ((rd_L3 t511 (ji26)).take 2))).bind fun t555 => (if t555 = true then (some false) else ((impl_CertOk.f kj7 t508 (y546.set ((ji26) : Int).toNat (([1,2,2] : List Int)))).bind fun t556 => (some (!t556))))) else (some false))) else (none))) else (none))) else (none)) else (none)) else (none))) else (none))) else (none)) else (none)) = some r:=by first|(rw [hji26] at H;exact H)|(simp only [hji26] at H ⊢;exact H)
       by_cases c27 : 0 ≤ (ji26)
       case neg => rw [if_neg c27] at H;exact absurd H Q51
       rw [if_pos c27] at H
       have c27b0 : decide (0 ≤ (ji26)) = true:=decide_eq_true c27
       clear c27
       by_cases c28 : (ji26) < (y521.length : Int)
       case neg => rw [if_neg c28] at H;exact absurd H Q51
       rw [if_pos c28] at H
       have c28b0 : decide ((ji26) < (y521.length : Int)) = true:=decide_eq_true c28
       clear c28
       obtain ⟨y528,hy528⟩ : ∃ y_ : List (List Int),y_ = (y521.set ((ji26) : Int).toNat y525):=⟨_,rfl⟩
       replace H : ((some (([] : List (List Int)) : List (List Int))).bind fun y529 => (if y529.length + t511.length < 5864062014805 then ((some (y529 ++ t511 : List (List Int))).bind fun y532 => (if (ji26) < (t511.length : Int) then (if 2 ≤ ((rd_L3 t511 (ji26)).length : Int) then (if (ji26) < (y532.length : Int) then ((some (([] : List (List Int)) : List (List Int))).bind fun y543 => (if y543.length + t511.length < 5864062014805 then ((some (y543 ++ t511 : List (List Int))).bind fun y546 => (if (ji26) < (y546.length : Int) then ((impl_CertOk.f kj7 t508 y528).bind fun t554 => (if t554 = true then ((impl_CertOk.f kj7 t508 (y532.set ((ji26) : Int).toNat ((rd_L3 t511 (ji26)).take 2))).bind fun t555 => (if t555 = true then (some false) else ((impl_CertOk.f kj7 t508 (y546.set ((ji26) : Int).toNat (([1,2,2] : List Int)))).bind fun t556 => (some (!t556))))) else (some false))) else (none))) else (none))) else (none)) else (none)) else (none))) else (none))) = some r:=by first|(rw [hy528];with_reducible exact H)|(have H2_:=(Option.bind_some _ _).symm.trans H;rw [hy528];with_reducible exact H2_)|(have H2_:=(Option.bind_some _ _).symm.trans H;with_reducible exact H2_)|with_reducible exact H|(rw [hy528];exact H)|exact H
       have Ny528:=aM hy528
       clear hy528
       obtain ⟨y529,hy529⟩ : ∃ y_ : List (List Int),y_ = (([] : List (List Int))):=⟨_,rfl⟩
       replace H : (if y529.length + t511.length < 5864062014805 then ((some (y529 ++ t511 : List (List Int))).bind fun y532 => (if (ji26) < (t511.length : Int) then (if 2 ≤ ((rd_L3 t511 (ji26)).length : Int) then (if (ji26) < (y532.length : Int) then ((some (([] : List (List Int)) : List (List Int))).bind fun y543 => (if y543.length + t511.length < 5864062014805 then ((some (y543 ++ t511 : List (List Int))).bind fun y546 => (if (ji26) < (y546.length : Int) then ((impl_CertOk.f kj7 t508 y528).bind fun t554 => (if t554 = true then ((impl_CertOk.f kj7 t508 (y532.set ((ji26) : Int).toNat ((rd_L3 t511 (ji26)).take 2))).bind fun t555 => (if t555 = true then (some false) else ((impl_CertOk.f kj7 t508 (y546.set ((ji26) : Int).toNat (([1,2,2] : List Int)))).bind fun t556 => (some (!t556))))) else (some false))) else (none))) else (none))) else (none)) else (none)) else (none))) else (none)) = some r:=by first|(rw [hy529];with_reducible exact H)|(have H2_:=(Option.bind_some _ _).symm.trans H;rw [hy529];with_reducible exact H2_)|(have H2_:=(Option.bind_some _ _).symm.trans H;with_reducible exact H2_)|with_reducible exact H|(rw [hy529];exact H)|exact H
       have Ny529:=aM hy529
       clear hy529
       by_cases c30 : y529.length + t511.length < 5864062014805
       case neg => rw [if_neg c30] at H;exact absurd H Q51
       rw [if_pos c30] at H
       have LMc30:=aM c30
       clear c30
       obtain ⟨y532,hy532⟩ : ∃ y_ : List (List Int),y_ = (y529 ++ t511):=⟨_,rfl⟩
       replace H : (if (ji26) < (t511.length : Int) then (if 2 ≤ ((rd_L3 t511 (ji26)).length : Int) then (if (ji26) < (y532.length : Int) then ((some (([] : List (List Int)) : List (List Int))).bind fun y543 => (if y543.length + t511.length < 5864062014805 then ((some (y543 ++ t511 : List (List Int))).bind fun y546 => (if (ji26) < (y546.length : Int) then ((impl_CertOk.f kj7 t508 y528).bind fun t554 => (if t554 = true then ((impl_CertOk.f kj7 t508 (y532.set ((ji26) : Int).toNat ((rd_L3 t511 (ji26)).take 2))).bind fun t555 => (if t555 = true then (some false) else ((impl_CertOk.f kj7 t508 (y546.set ((ji26) : Int).toNat (([1,2,2] : List Int)))).bind fun t556 => (some (!t556))))) else (some false))) else (none))) else (none))) else (none)) else (none)) else (none)) = some r:=by first|(rw [hy532];with_reducible exact H)|(have H2_:=(Option.bind_some _ _).symm.trans H;rw [hy532];with_reducible exact H2_)|(have H2_:=(Option.bind_some _ _).symm.trans H;with_reducible exact H2_)|with_reducible exact H|(rw [hy532];exact H)|exact H
       have Ny532:=aM hy532
       clear hy532
       by_cases c31 : (ji26) < (t511.length : Int)
       case neg => rw [if_neg c31] at H;exact absurd H Q51
       rw [if_pos c31] at H
       have c31b0 : decide ((ji26) < (t511.length : Int)) = true:=decide_eq_true c31
       clear c31
       by_cases c32 : 2 ≤ ((rd_L3 t511 (ji26)).length : Int)
       case neg => rw [if_neg c32] at H;exact absurd H Q51
       rw [if_pos c32] at H
       have c32b0:=eq_true c32
       have c32b1 : decide (2 ≤ ((rd_L3 t511 (ji26)).length : Int)) = true:=decide_eq_true c32
       clear c32
       obtain ⟨y537,hy537⟩ : ∃ y_ : List Int,y_ = ((rd_L3 t511 (ji26)).take 2):=⟨_,rfl⟩
       replace H : (if (ji26) < (y532.length : Int) then ((some (([] : List (List Int)) : List (List Int))).bind fun y543 => (if y543.length + t511.length < 5864062014805 then ((some (y543 ++ t511 : List (List Int))).bind fun y546 => (if (ji26) < (y546.length : Int) then ((impl_CertOk.f kj7 t508 y528).bind fun t554 => (if t554 = true then ((impl_CertOk.f kj7 t508 (y532.set ((ji26) : Int).toNat y537)).bind fun t555 => (if t555 = true then (some false) else ((impl_CertOk.f kj7 t508 (y546.set ((ji26) : Int).toNat (([1,2,2] : List Int)))).bind fun t556 => (some (!t556))))) else (some false))) else (none))) else (none))) else (none)) = some r:=by first|(rw [hy537];with_reducible exact H)|(have H2_:=(Option.bind_some _ _).symm.trans H;rw [hy537];with_reducible exact H2_)|(have H2_:=(Option.bind_some _ _).symm.trans H;with_reducible exact H2_)|with_reducible exact H|(rw [hy537];exact H)|exact H
       have Ny537:=aM hy537
       clear hy537
       by_cases c33 : (ji26) < (y532.length : Int)
       case neg => rw [if_neg c33] at H;exact absurd H Q51
       rw [if_pos c33] at H
       have c33b0 : decide ((ji26) < (y532.length : Int)) = true:=decide_eq_true c33
       clear c33
       obtain ⟨y542,hy542⟩ : ∃ y_ : List (List Int),y_ = (y532.set ((ji26) : Int).toNat y537):=⟨_,rfl⟩
       replace H : ((some (([] : List (List Int)) : List (List Int))).bind fun y543 => (if y543.length + t511.length < 5864062014805 then ((some (y543 ++ t511 : List (List Int))).bind fun y546 => (if (ji26) < (y546.length : Int) then ((impl_CertOk.f kj7 t508 y528).bind fun t554 => (if t554 = true then ((impl_CertOk.f kj7 t508 y542).bind fun t555 => (if t555 = true then (some false) else ((impl_CertOk.f kj7 t508 (y546.set ((ji26) : Int).toNat (([1,2,2] : List Int)))).bind fun t556 => (some (!t556))))) else (some false))) else (none))) else (none))) = some r:=by first|(rw [hy542];with_reducible exact H)|(have H2_:=(Option.bind_some _ _).symm.trans H;rw [hy542];with_reducible exact H2_)|(have H2_:=(Option.bind_some _ _).symm.trans H;with_reducible exact H2_)|with_reducible exact H|(rw [hy542];exact H)|exact H
       have Ny542:=aM hy542
       clear hy542
       obtain ⟨y543,hy543⟩ : ∃ y_ : List (List Int),y_ = (([] : List (List Int))):=⟨_,rfl⟩
       replace H : (if y543.length + t511.length < 5864062014805 then ((some (y543 ++ t511 : List (List Int))).bind fun y546 => (if (ji26) < (y546.length : Int) then ((impl_CertOk.f kj7 t508 y528).bind fun t554 => (if t554 = true then ((impl_CertOk.f kj7 t508 y542).bind fun t555 => (if t555 = true then (some false) else ((impl_CertOk.f kj7 t508 (y546.set ((ji26) : Int).toNat (([1,2,2] : List Int)))).bind fun t556 => (some (!t556))))) else (some false))) else (none))) else (none)) = some r:=by first|(rw [hy543];with_reducible exact H)|(have H2_:=(Option.bind_some _ _).symm.trans H;rw [hy543];with_reducible exact H2_)|(have H2_:=(Option.bind_some _ _).symm.trans H;with_reducible exact H2_)|with_reducible exact H|(rw [hy543];exact H)|exact H
       have Ny543:=aM hy543
       clear hy543
       by_cases c35 : y543.length + t511.length < 5864062014805
       case neg => rw [if_neg c35] at H;exact absurd H Q51
       rw [if_pos c35] at H
       have LMc35:=aM c35
       clear c35
       obtain ⟨y546,hy546⟩ : ∃ y_ : List (List Int),y_ = (y543 ++ t511):=⟨_,rfl⟩
       replace H : (if (ji26) < (y546.length : Int) then ((impl_CertOk.f kj7 t508 y528).bind fun t554 => (if t554 = true then ((impl_CertOk.f kj7 t508 y542).bind fun t555 => (if t555 = true then (some false) else ((impl_CertOk.f kj7 t508 (y546.set ((ji26) : Int).toNat (([1,2,2] : List Int)))).bind fun t556 => (some (!t556))))) else (some false))) else (none)) = some r:=by first|(rw [hy546];with_reducible exact H)|(have H2_:=(Option.bind_some _ _).symm.trans H;rw [hy546];with_reducible exact H2_)|(have H2_:=(Option.bind_some _ _).symm.trans H;with_reducible exact H2_)|with_reducible exact H|(rw [hy546];exact H)|exact H
       have Ny546:=aM hy546
       clear hy546
       obtain ⟨y550,hy550⟩ : ∃ y_ : List Int,y_ = (([1,2,2] : List Int)):=⟨_,rfl⟩
       replace H : (if (ji26) < (y546.length : Int) then ((impl_CertOk.f kj7 t508 y528).bind fun t554 => (if t554 = true then ((impl_CertOk.f kj7 t508 y542).bind fun t555 => (if t555 = true then (some false) else ((impl_CertOk.f kj7 t508 (y546.set ((ji26) : Int).toNat y550)).bind fun t556 => (some (!t556))))) else (some false))) else (none)) = some r:=by first|(rw [hy550];with_reducible exact H)|(have H2_:=(Option.bind_some _ _).symm.trans H;rw [hy550];with_reducible exact H2_)|(have H2_:=(Option.bind_some _ _).symm.trans H;with_reducible exact H2_)|with_reducible exact H|(rw [hy550];exact H)|exact H
       have Ny550:=aM hy550
       clear hy550
       by_cases c36 : (ji26) < (y546.length : Int)
       case neg => rw [if_neg c36] at H;exact absurd H Q51
       rw [if_pos c36] at H
       have c36b0 : decide ((ji26) < (y546.length : Int)) = true:=decide_eq_true c36
       clear c36
       obtain ⟨y553,hy553⟩ : ∃ y_ : List (List Int),y_ = (y546.set ((ji26) : Int).toNat y550):=⟨_,rfl⟩
       replace H : ((impl_CertOk.f kj7 t508 y528).bind fun t554 => (if t554 = true then ((impl_CertOk.f kj7 t508 y542).bind fun t555 => (if t555 = true then (some false) else ((impl_CertOk.f kj7 t508 y553).bind fun t556 => (some (!t556))))) else (some false))) = some r:=by first|(rw [hy553];with_reducible exact H)|(have H2_:=(Option.bind_some _ _).symm.trans H;rw [hy553];with_reducible exact H2_)|(have H2_:=(Option.bind_some _ _).symm.trans H;with_reducible exact H2_)|with_reducible exact H|(rw [hy553];exact H)|exact H
       have Ny553:=aM hy553
       clear hy553
       replace H:=Option.bind_eq_some_iff.mp H
       obtain ⟨t554,A380,H⟩:=H
       replace H : (if t554 = true then ((impl_CertOk.f kj7 t508 y542).bind fun t555 => (if t555 = true then (some false) else ((impl_CertOk.f kj7 t508 y553).bind fun t556 => (some (!t556))))) else (some false)) = some r:=H
       have A38:=aM A380
       clear A380
       by_cases c39 : t554 = true
       ·subst c39
        have H1 : ((impl_CertOk.f kj7 t508 y542).bind fun t555 => (if t555 = true then (some false) else ((impl_CertOk.f kj7 t508 y553).bind fun t556 => (some (!t556))))) = some r:=by rw [if_pos rfl] at H;exact H
        clear H
        have H:=H1
        clear H1
        replace H:=Option.bind_eq_some_iff.mp H
        obtain ⟨t555,A400,H⟩:=H
        replace H : (if t555 = true then (some false) else ((impl_CertOk.f kj7 t508 y553).bind fun t556 => (some (!t556)))) = some r:=H
        have A40:=aM A400
        clear A400
        by_cases c41 : t555 = true
        ·subst c41
         have H1 : (some false) = some r:=by rw [if_pos rfl] at H;exact H
         clear H
         have H:=H1
         clear H1
         exact absurd ((Option.some.inj H).trans HR_.out) Q36
        ·replace c41:=Bool.eq_false_iff.mpr c41
         subst c41
         have H1 : ((impl_CertOk.f kj7 t508 y553).bind fun t556 => (some (!t556))) = some r:=by rw [if_neg (show ¬ (false = true) by decide)] at H;exact H
         clear H
         have H:=H1
         clear H1
         replace H:=Option.bind_eq_some_iff.mp H
         obtain ⟨t556,A420,H⟩:=H
         replace H : (some (!t556)) = some r:=H
         have A42:=aM A420
         clear A420
         obtain rfl:=Option.some.inj H
         try go_wp2
         have n0_:=aM (Kd.R_drew HO_515000.out)
         have n1_:=aM (Kd.N_drew HO_515001.out)
         have n2_:=aM (blk_drew BK514.out)
         have n3_:=aM (bD HB.out)
         clear HO_515000
         clear HO_515001
         clear BK514
         clear HB
         have HO_515000:=n0_
         have HO_515001:=n1_
         have BK514:=n2_
         have HB:=n3_
         clear n0_ n1_ n2_ n3_
         refine start_ (n:=9) (S:=fun w' => w'.cell? ⟨gb514,0,none⟩ = some (.slice Ao11 t508.length co11) ∧ w'.cell? ⟨gb514,1,none⟩ = some (.slice Ao13 t511.length co13)) (ds:=[]) #[bF,bF,bF,bF,bF,bF,bF,bF,bF] Q14 rfl rfl ⟨(blk_cell BK514.out 0).trans rfl,(blk_cell BK514.out 1).trans rfl⟩ (fun hHeld => ?_);refine with_tabW laws_FnCertMore.tab8 laws_FnCertMore.bits8 (fun HT_ HW_ => ?_)
         generalize wc.drew = w43 at HO_515000 HO_515001 BK514 HB hHeld ⊢
         refine pS HT_ 0 38 ?_
         refine pS HT_ 3 41 ?_
         refine take_ (i:=1) (N:=some 39) (v:=?_) (a':=?_) #[bT,bT,bF,bT,bF,bF,bF,bF,bF] rfl rfl (take_ofW HT_.out HW_.out Q14) (fun _ _ _ h => h) (Or.inl ⟨Q70,?_⟩) hHeld ?_ ?_
         rotate_left
         ·rintro w' ⟨s0,s1⟩
          (try simp only [Int.toNat_natCast] at s0 s1)
          go_simp
          with_reducible rfl
         rotate_left
         ·simp only [Act.put,sI,sZ,sS,i64_w,i32_w]
          rfl
         refine take_ (i:=4) (N:=some 42) (v:=?_) (a':=?_) #[bT,bT,bF,bT,bT,bF,bF,bF,bF] rfl rfl (take_ofW HT_.out HW_.out Q14) (fun _ _ _ h => h) (Or.inl ⟨Q70,?_⟩) hHeld ?_ ?_
         rotate_left
         ·rintro w' ⟨s0,s1⟩
          (try simp only [Int.toNat_natCast] at s0 s1)
          go_simp
          with_reducible rfl
         rotate_left
         ·simp only [Act.put,sI,sZ,sS,i64_w,i32_w]
          rfl
         refine join_ (σ:=Value × Value × Nat) 1 #[bT,bT,bT,bT,bT,bT,bT,bT,bF] (fun s_ => [(40,s_.1),(43,s_.2.1),(8,.pointer (some ⟨s_.2.2,0,none⟩)),(44,.agg #[.slice Ao11 t508.length co11,s_.2.1])]) (fun s_ w' => (w'.cell? ⟨gb514,0,none⟩ = some (.slice Ao11 t508.length co11) ∧ w'.cell? ⟨gb514,1,none⟩ = some (.slice Ao13 t511.length co13)) ∧ (Kd.N (Kd.slice 3 (Kd.int .i64)) 36 w' w.heap.size (fun k_ => some k_ ≠ (.slice Ao11 t508.length co11 : Value).ownBlock ∧ k_ ≠ gb514 ∧ k_ ≠ s_.2.2) s_.2.1 y521) ∧ (Kd.R k40 40 w' w.heap.size (fun _ => True) (.slice Ao11 t508.length co11) t508) ∧ (Kd.N (Kd.slice 3 (Kd.int .i64)) 36 w' w.heap.size (fun k_ => some k_ ≠ (s_.2.1 : Value).ownBlock ∧ some k_ ≠ (.slice Ao11 t508.length co11 : Value).ownBlock ∧ k_ ≠ gb514 ∧ k_ ≠ s_.2.2) (.slice Ao13 t511.length co13) t511) ∧ (w'.heap[gb514]? = some (.cells #[.slice Ao11 t508.length co11,.slice Ao13 t511.length co13] 30 (0,0))) ∧ (w'.heap[s_.2.2]? = some (.cells #[.slice none 0 0,.slice none 0 0] 30 (0,0))) ∧ (w.heap.size ≤ s_.2.2) ∧ (w.heap.size ≤ s_.2.2) ∧ (gb514 ≠ s_.2.2) ∧ (s_.2.2 ≠ gb514) ∧ (Below w.heap.size w w')) ?_ ?_
         rotate_left
         ·intro hCont
          refine two_ (i:=2) (j:=7) (Ni:=some 40) (Nj:=some 8) #[bT,bT,bT,bT,bT,bF,bF,bF,bF] #[bT,bT,bF,bT,bT,bF,bF,bT,bF] rfl rfl rfl rfl (two_of HT_.out Q14) Q36 Q36 (fun K hK => ?_) (fun K hK => ?_)
          ·skip
           refine Kd.N_lit_step (Kd.slice 3 (Kd.int .i64)) _ 36 ?hg (N':=40) ?hd (xs:=([] : List (List Int))) (inner:=[]) (ok:=(fun k_ => some k_ ≠ (.slice Ao11 t508.length co11 : Value).ownBlock ∧ some k_ ≠ (.slice Ao13 t511.length co13 : Value).ownBlock ∧ k_ ≠ gb514)) (okp:=(fun k_ => some k_ ≠ (.slice Ao11 t508.length co11 : Value).ownBlock ∧ some k_ ≠ (.slice Ao13 t511.length co13 : Value).ownBlock ∧ k_ ≠ gb514)) ?hr ?hp (fun _ hk => hk) ((show ∀ k_,w43.heap.size ≤ k_ → (fun k_ => some k_ ≠ (.slice Ao11 t508.length co11 : Value).ownBlock ∧ some k_ ≠ (.slice Ao13 t511.length co13 : Value).ownBlock ∧ k_ ≠ gb514) k_ from fun k_ hk => ⟨Kd.fresh' (Kd.R_lt (qR HO_515000)) k_ hk,Kd.fresh' (Kd.N_lt (qN HO_515001)) k_ hk,Kd.freshB (g:=gb514) (o:=.cells #[.slice Ao11 t508.length co11,.slice Ao13 t511.length co13] 30 (0,0)) (qk BK514) k_ hk⟩) _ (Nat.le_refl _)) (Below.refl _ _) (Nat.le_refl _) Q51 ?_;(case hd => rfl);(case hg => rfl);(case hr => exact Q16);(case hp => exact (Reps.none _ _))
           intro v519 w44 ho45 hb hg_ hnew_
           clear hg_ hnew_
           (first|rw [← Ny518.out] at ho45|(simp only [Int.reduceToNat] at ho45;rw [← Ny518.out] at ho45))
           have n0_:=aM (Kd.R_below (qR HO_515000) hb)
           have n1_:=aM (Kd.N_elder' (qN HO_515001) (Kd.N_base ho45) hb)
           have n2_:=aM (Kd.N_lower ho45 (below_size Q25))
           have n3_:=aM (blk_below (g:=gb514) (o:=.cells #[.slice Ao11 t508.length co11,.slice Ao13 t511.length co13] 30 (0,0)) (qk BK514) hb)
           have n4_:=aM (below_step Q25 hb)
           clear HO_515000
           clear HO_515001
           clear BK514
           clear HB
           have HO_515000:=n0_
           have HO_515001:=n1_
           have HO520:=n2_
           have BK514:=n3_
           have HB:=n4_
           clear n0_ n1_ n2_ n3_ n4_
           clear hb ho45
           refine hK.out _ _ ⟨(blk_cell BK514.out 0).trans rfl,(blk_cell BK514.out 1).trans rfl⟩ (fun hHeld => ?_)
           clear hK K
           refine norm_ (a':=?_) ?_ ?_
           rotate_left
           ·show Act.put _ (some 40) _ = _
            simp only [Act.put,sI,sZ,sS,i64_w,i32_w]
            rfl
           refine two_ (i:=5) (j:=7) (Ni:=some 43) (Nj:=some 8) #[bT,bT,bT,bT,bT,bT,bF,bF,bF] #[bT,bT,bT,bT,bT,bF,bF,bT,bF] rfl rfl rfl rfl (two_of HT_.out Q14) Q36 Q36 (fun K hK => ?_) (fun K hK => ?_)
           ·skip
            refine Kd.N_append_rows_step (Kd.slice 3 (Kd.int .i64)) (w0:=w) w.heap.size Q70 (.tmp 40) (.tmp 42) 23 36 (.slice none 0 0) 24 rfl Try.underlying23 info36 rfl Q36 Q17 v519 y518 t511 _ _ _ (fun k_ => some k_ ≠ (.slice Ao11 t508.length co11 : Value).ownBlock ∧ k_ ≠ gb514) (fun k_ => ((fun k_ => some k_ ≠ (.slice Ao11 t508.length co11 : Value).ownBlock ∧ k_ ≠ gb514)) k_ ∧ some k_ ≠ (v519 : Value).ownBlock) rfl rfl ?aO ?aR (fun _ hk => hk) ?aF ?aB ?aS ?aL ?_
            (case aR => exact (by skip;exact Kd.N_F (Kd.N_mono (ok':=(fun k_ => ((fun k_ => some k_ ≠ (.slice Ao11 t508.length co11 : Value).ownBlock ∧ k_ ≠ gb514)) k_ ∧ some k_ ≠ (v519 : Value).ownBlock)) (HO_515001.out) (fun k_ hk => ⟨⟨hk.1.1,hk.1.2⟩,hk.2⟩))))
            (case aB => exact Q25)
            (case aF => exact (fun k_ hk => ⟨Kd.fresh' (Kd.R_lt (qR HO_515000)) k_ hk,Kd.freshB (g:=gb514) (o:=.cells #[.slice Ao11 t508.length co11,.slice Ao13 t511.length co13] 30 (0,0)) (qk BK514) k_ hk⟩))
            (case aO => exact (by (with_reducible repeat (first|apply Kd.N_alloc|apply Kd.N_drewN|apply Kd.N_drew));exact Kd.N_mono HO520.out (fun _ hk => ⟨hk.1,hk.2.2⟩)))
            (case aS => exact (below_size Q25))
            (case aL => have:=LMc25.out;omega)
            intro v522 w46 ho hb hg hat
            have hHN3_:=True.intro
            rw [← Ny521.out] at ho
            have n0_:=aM (Kd.R_over' (qR HO_515000) (Kd.N_typed (qN HO520)) Q36 hg)
            have n1_:=aM (Kd.N_afterv (ok:=(fun k_ => some k_ ≠ (.slice Ao11 t508.length co11 : Value).ownBlock ∧ k_ ≠ gb514)) (qN HO_515001) hg hat)
            have n2_:=aM (blk_grown (g:=gb514) (o:=.cells #[.slice Ao11 t508.length co11,.slice Ao13 t511.length co13] 30 (0,0)) (qk BK514) hg (Kd.N_ne HO520.out BK514.out Q36))
            have n3_:=aM (hb)
            have n4_:=aM (ho)
            clear HO_515000
            clear HO_515001
            clear BK514
            clear HB
            clear HO520
            have HO_515000:=n0_
            have HO_515001:=n1_
            have BK514:=n2_
            have HB:=n3_
            have HO523:=n4_
            clear n0_ n1_ n2_ n3_ n4_
            clear ho hb hg hat
            obtain ⟨Ao47,co47,eo47⟩:=Kd.N_slice HO523.out
            (first|subst eo47|(injection eo47 with f1_ f2_ f3_;have f4_:=f1_.symm;have f5_:=f3_.symm;clear f1_ f2_ f3_;subst f4_;subst f5_))
            refine hK.out _ _ ⟨(blk_cell BK514.out 0).trans rfl,(blk_cell BK514.out 1).trans rfl⟩ (fun hHeld => ?_)
            clear hK K
            refine norm_ (a':=?_) ?_ ?_
            rotate_left
            ·show Act.put _ (some 43) _ = _
             simp only [Act.put,sI,sZ,sS,i64_w,i32_w]
             rfl
            refine pS HT_ 6 44 ?_
            refine one_ (i:=7) (N:=some 8) #[bT,bT,bT,bT,bT,bT,bT,bT,bF] rfl rfl (one_of HT_.out Q14) Q36 (fun K hK => ?_)
            refine box_step ?hg (N:=8) ?hd (cs:=#[.slice none 0 0,.slice none 0 0]) (t:=30) ?hr ?_;(case hd => rfl);(case hg => rfl);(case hr => exact Q16)
            intro gb524 hg w48 hbox hb
            have n0_:=aM (Kd.R_below (qR HO_515000) hb)
            have n1_:=aM (Kd.N_below (Kd.N_elderB (qN HO_515001) gb524 (Nat.le_of_eq hg.symm)) hb)
            have n2_:=aM (Kd.N_below (Kd.N_elderB (qN HO523) gb524 (Nat.le_of_eq hg.symm)) hb)
            have n3_:=aM (blk_below (g:=gb514) (o:=.cells #[.slice Ao11 t508.length co11,.slice Ao13 t511.length co13] 30 (0,0)) (qk BK514) hb)
            have n4_:=aM (below_step Q25 hb)
            have n5_:=aM (hbox)
            have n6_:=aM ((Q129 : w.heap.size ≤ gb524))
            have n7_:=aM ((Q129 : w.heap.size ≤ gb524))
            have n8_:=aM ((Q55 : gb514 ≠ gb524))
            have n9_:=aM ((Q56 : gb524 ≠ gb514))
            clear HO_515000
            clear HO_515001
            clear HO523
            clear BK514
            clear HB
            have HO_515000:=n0_
            have HO_515001:=n1_
            have HO523:=n2_
            have BK514:=n3_
            have HB:=n4_
            have BK524:=n5_
            have GW524:=n6_
            have GE524:=n7_
            have NB514_524:=n8_
            have NB524_514:=n9_
            clear n0_ n1_ n2_ n3_ n4_ n5_ n6_ n7_ n8_ n9_
            clear hb hbox hg
            refine hK.out _ _ ⟨(blk_cell BK514.out 0).trans rfl,(blk_cell BK514.out 1).trans rfl⟩ (fun hHeld => ?_)
            clear hK K
            refine norm_ (a':=?_) ?_ ?_
            rotate_left
            ·show Act.put _ (some 8) _ = _
             simp only [Act.put,sI,sZ,sS,i64_w,i32_w]
             rfl
            exact norm_ Q98 (hCont (v519,.slice Ao47 y521.length co47,gb524) _ ⟨hHeld,(by (with_reducible repeat (first|apply Kd.N_alloc|apply Kd.N_drewN|apply Kd.N_drew));exact Kd.N_mono HO523.out (fun _ hk => ⟨hk.1.1,⟨hk.1.2,hk.2⟩⟩)),(qR HO_515000),(by (with_reducible repeat (first|apply Kd.N_alloc|apply Kd.N_drewN|apply Kd.N_drew));exact Kd.N_mono HO_515001.out (fun _ hk => ⟨hk.1.2,⟨hk.1.1.1,⟨hk.1.1.2,hk.2⟩⟩⟩)),(qk BK514),(qk BK524),GW524.out,GE524.out,NB514_524.out,NB524_514.out,Q15⟩)
           ·skip
            refine box_step ?hg (N:=8) ?hd (cs:=#[.slice none 0 0,.slice none 0 0]) (t:=30) ?hr ?_;(case hd => rfl);(case hg => rfl);(case hr => exact Q16)
            intro gb524 hg w46 hbox hb
            have n0_:=aM (Kd.R_below (qR HO_515000) hb)
            have n1_:=aM (Kd.N_below (Kd.N_elderB (qN HO_515001) gb524 (Nat.le_of_eq hg.symm)) hb)
            have n2_:=aM (Kd.N_below (Kd.N_elderB (qN HO520) gb524 (Nat.le_of_eq hg.symm)) hb)
            have n3_:=aM (blk_below (g:=gb514) (o:=.cells #[.slice Ao11 t508.length co11,.slice Ao13 t511.length co13] 30 (0,0)) (qk BK514) hb)
            have n4_:=aM (below_step Q25 hb)
            have n5_:=aM (hbox)
            have n6_:=aM ((Q129 : w.heap.size ≤ gb524))
            have n7_:=aM ((Q129 : w.heap.size ≤ gb524))
            have n8_:=aM ((Q55 : gb514 ≠ gb524))
            have n9_:=aM ((Q56 : gb524 ≠ gb514))
            clear HO_515000
            clear HO_515001
            clear HO520
            clear BK514
            clear HB
            have HO_515000:=n0_
            have HO_515001:=n1_
            have HO520:=n2_
            have BK514:=n3_
            have HB:=n4_
            have BK524:=n5_
            have GW524:=n6_
            have GE524:=n7_
            have NB514_524:=n8_
            have NB524_514:=n9_
            clear n0_ n1_ n2_ n3_ n4_ n5_ n6_ n7_ n8_ n9_
            clear hb hbox hg
            refine hK.out _ _ ⟨(blk_cell BK514.out 0).trans rfl,(blk_cell BK514.out 1).trans rfl⟩ (fun hHeld => ?_)
            clear hK K
            refine norm_ (a':=?_) ?_ ?_
            rotate_left
            ·show Act.put _ (some 8) _ = _
             simp only [Act.put,sI,sZ,sS,i64_w,i32_w]
             rfl
            refine one_ (i:=5) (N:=some 43) #[bT,bT,bT,bT,bT,bT,bF,bT,bF] rfl rfl (one_of HT_.out Q14) Q36 (fun K hK => ?_)
            refine Kd.N_append_rows_step (Kd.slice 3 (Kd.int .i64)) (w0:=w) w.heap.size Q70 (.tmp 40) (.tmp 42) 23 36 (.slice none 0 0) 24 rfl Try.underlying23 info36 rfl Q36 Q17 v519 y518 t511 _ _ _ (fun k_ => some k_ ≠ (.slice Ao11 t508.length co11 : Value).ownBlock ∧ k_ ≠ gb514 ∧ k_ ≠ gb524) (fun k_ => ((fun k_ => some k_ ≠ (.slice Ao11 t508.length co11 : Value).ownBlock ∧ k_ ≠ gb514 ∧ k_ ≠ gb524)) k_ ∧ some k_ ≠ (v519 : Value).ownBlock) rfl rfl ?aO ?aR (fun _ hk => hk) ?aF ?aB ?aS ?aL ?_
            (case aR => exact (by skip;exact Kd.N_F (Kd.N_mono (ok':=(fun k_ => ((fun k_ => some k_ ≠ (.slice Ao11 t508.length co11 : Value).ownBlock ∧ k_ ≠ gb514 ∧ k_ ≠ gb524)) k_ ∧ some k_ ≠ (v519 : Value).ownBlock)) (HO_515001.out) (fun k_ hk => ⟨⟨hk.1.1.1,⟨hk.1.1.2,hk.2⟩⟩,hk.1.2⟩))))
            (case aB => exact Q15)
            (case aF => exact (fun k_ hk => ⟨Kd.fresh' (Kd.R_lt (qR HO_515000)) k_ hk,Kd.freshB (g:=gb514) (o:=.cells #[.slice Ao11 t508.length co11,.slice Ao13 t511.length co13] 30 (0,0)) (qk BK514) k_ hk,Kd.freshB (g:=gb524) (o:=.cells #[.slice none 0 0,.slice none 0 0] 30 (0,0)) (qk BK524) k_ hk⟩))
            (case aO => exact (by (with_reducible repeat (first|apply Kd.N_alloc|apply Kd.N_drewN|apply Kd.N_drew));exact Kd.N_mono HO520.out (fun _ hk => ⟨hk.1.1,⟨hk.1.2.2,hk.2⟩⟩)))
            (case aS => exact (below_size Q15))
            (case aL => have:=LMc25.out;omega)
            intro v522 w47 ho hb hg hat
            have hHN4_:=True.intro
            rw [← Ny521.out] at ho
            have n0_:=aM (Kd.R_over' (qR HO_515000) (Kd.N_typed (qN HO520)) Q36 hg)
            have n1_:=aM (Kd.N_afterv (ok:=(fun k_ => some k_ ≠ (.slice Ao11 t508.length co11 : Value).ownBlock ∧ k_ ≠ gb514 ∧ k_ ≠ gb524)) (by (with_reducible repeat (first|apply Kd.N_alloc|apply Kd.N_drewN|apply Kd.N_drew));exact Kd.N_mono HO_515001.out (fun _ hk => ⟨⟨hk.1.1.1,⟨hk.1.1.2,hk.2⟩⟩,hk.1.2⟩)) hg hat)
            have n2_:=aM (blk_grown (g:=gb514) (o:=.cells #[.slice Ao11 t508.length co11,.slice Ao13 t511.length co13] 30 (0,0)) (qk BK514) hg (Kd.N_ne HO520.out BK514.out Q36))
            have n3_:=aM (blk_grown (g:=gb524) (o:=.cells #[.slice none 0 0,.slice none 0 0] 30 (0,0)) (qk BK524) hg (Kd.N_ne HO520.out BK524.out Q36))
            have n4_:=aM (hb)
            have n5_:=aM (ho)
            clear HO_515000
            clear HO_515001
            clear BK514
            clear BK524
            clear HB
            clear HO520
            have HO_515000:=n0_
            have HO_515001:=n1_
            have BK514:=n2_
            have BK524:=n3_
            have HB:=n4_
            have HO523:=n5_
            clear n0_ n1_ n2_ n3_ n4_ n5_
            clear ho hb hg hat
            obtain ⟨Ao48,co48,eo48⟩:=Kd.N_slice HO523.out
            (first|subst eo48|(injection eo48 with f1_ f2_ f3_;have f4_:=f1_.symm;have f5_:=f3_.symm;clear f1_ f2_ f3_;subst f4_;subst f5_))
            refine hK.out _ _ ⟨(blk_cell BK514.out 0).trans rfl,(blk_cell BK514.out 1).trans rfl⟩ (fun hHeld => ?_)
            clear hK K
            refine norm_ (a':=?_) ?_ ?_
            rotate_left
            ·show Act.put _ (some 43) _ = _
             simp only [Act.put,sI,sZ,sS,i64_w,i32_w]
             rfl
            refine pS HT_ 6 44 ?_
            exact norm_ Q98 (hCont (v519,.slice Ao48 y521.length co48,gb524) _ ⟨hHeld,(qN HO523),(qR HO_515000),Q120,(qk BK514),(qk BK524),GW524.out,GE524.out,NB514_524.out,NB524_514.out,Q15⟩)
          ·skip
           refine box_step ?hg (N:=8) ?hd (cs:=#[.slice none 0 0,.slice none 0 0]) (t:=30) ?hr ?_;(case hd => rfl);(case hg => rfl);(case hr => exact Q16)
           intro gb524 hg w44 hbox hb
           have n0_:=aM (Kd.R_below (qR HO_515000) hb)
           have n1_:=aM (Kd.N_below (Kd.N_elderB (qN HO_515001) gb524 (Nat.le_of_eq hg.symm)) hb)
           have n2_:=aM (blk_below (g:=gb514) (o:=.cells #[.slice Ao11 t508.length co11,.slice Ao13 t511.length co13] 30 (0,0)) (qk BK514) hb)
           have n3_:=aM (below_step Q25 hb)
           have n4_:=aM (hbox)
           have n5_:=aM ((Q129 : w.heap.size ≤ gb524))
           have n6_:=aM ((Q129 : w.heap.size ≤ gb524))
           have n7_:=aM ((Q55 : gb514 ≠ gb524))
           have n8_:=aM ((Q56 : gb524 ≠ gb514))
           clear HO_515000
           clear HO_515001
           clear BK514
           clear HB
           have HO_515000:=n0_
           have HO_515001:=n1_
           have BK514:=n2_
           have HB:=n3_
           have BK524:=n4_
           have GW524:=n5_
           have GE524:=n6_
           have NB514_524:=n7_
           have NB524_514:=n8_
           clear n0_ n1_ n2_ n3_ n4_ n5_ n6_ n7_ n8_
           clear hb hbox hg
           refine hK.out _ _ ⟨(blk_cell BK514.out 0).trans rfl,(blk_cell BK514.out 1).trans rfl⟩ (fun hHeld => ?_)
           clear hK K
           refine norm_ (a':=?_) ?_ ?_
           rotate_left
           ·show Act.put _ (some 8) _ = _
            simp only [Act.put,sI,sZ,sS,i64_w,i32_w]
            rfl
           refine one_ (i:=2) (N:=some 40) #[bT,bT,bT,bT,bT,bF,bF,bT,bF] rfl rfl (one_of HT_.out Q14) Q36 (fun K hK => ?_)
           refine Kd.N_lit_step (Kd.slice 3 (Kd.int .i64)) _ 36 ?hg (N':=40) ?hd (xs:=([] : List (List Int))) (inner:=[]) (ok:=(fun k_ => some k_ ≠ (.slice Ao11 t508.length co11 : Value).ownBlock ∧ some k_ ≠ (.slice Ao13 t511.length co13 : Value).ownBlock ∧ k_ ≠ gb514 ∧ k_ ≠ gb524)) (okp:=(fun k_ => some k_ ≠ (.slice Ao11 t508.length co11 : Value).ownBlock ∧ some k_ ≠ (.slice Ao13 t511.length co13 : Value).ownBlock ∧ k_ ≠ gb514 ∧ k_ ≠ gb524)) ?hr ?hp (fun _ hk => hk) ((show ∀ k_,w44.heap.size ≤ k_ → (fun k_ => some k_ ≠ (.slice Ao11 t508.length co11 : Value).ownBlock ∧ some k_ ≠ (.slice Ao13 t511.length co13 : Value).ownBlock ∧ k_ ≠ gb514 ∧ k_ ≠ gb524) k_ from fun k_ hk => ⟨Kd.fresh' (Kd.R_lt (qR HO_515000)) k_ hk,Kd.fresh' (Kd.N_lt (qN HO_515001)) k_ hk,Kd.freshB (g:=gb514) (o:=.cells #[.slice Ao11 t508.length co11,.slice Ao13 t511.length co13] 30 (0,0)) (qk BK514) k_ hk,Kd.freshB (g:=gb524) (o:=.cells #[.slice none 0 0,.slice none 0 0] 30 (0,0)) (qk BK524) k_ hk⟩) _ (Nat.le_refl _)) (Below.refl _ _) (Nat.le_refl _) Q51 ?_;(case hd => rfl);(case hg => rfl);(case hr => exact Q16);(case hp => exact (Reps.none _ _))
           intro v519 w45 ho46 hb hg_ hnew_
           clear hg_ hnew_
           (first|rw [← Ny518.out] at ho46|(simp only [Int.reduceToNat] at ho46;rw [← Ny518.out] at ho46))
           have n0_:=aM (Kd.R_below (qR HO_515000) hb)
           have n1_:=aM (Kd.N_elder' (qN HO_515001) (Kd.N_base ho46) hb)
           have n2_:=aM (Kd.N_lower ho46 (below_size Q15))
           have n3_:=aM (blk_below (g:=gb514) (o:=.cells #[.slice Ao11 t508.length co11,.slice Ao13 t511.length co13] 30 (0,0)) (qk BK514) hb)
           have n4_:=aM (blk_below (g:=gb524) (o:=.cells #[.slice none 0 0,.slice none 0 0] 30 (0,0)) (qk BK524) hb)
           have n5_:=aM (below_step Q15 hb)
           clear HO_515000
           clear HO_515001
           clear BK514
           clear BK524
           clear HB
           have HO_515000:=n0_
           have HO_515001:=n1_
           have HO520:=n2_
           have BK514:=n3_
           have BK524:=n4_
           have HB:=n5_
           clear n0_ n1_ n2_ n3_ n4_ n5_
           clear hb ho46
           refine hK.out _ _ ⟨(blk_cell BK514.out 0).trans rfl,(blk_cell BK514.out 1).trans rfl⟩ (fun hHeld => ?_)
           clear hK K
           refine norm_ (a':=?_) ?_ ?_
           rotate_left
           ·show Act.put _ (some 40) _ = _
            simp only [Act.put,sI,sZ,sS,i64_w,i32_w]
            rfl
           refine one_ (i:=5) (N:=some 43) #[bT,bT,bT,bT,bT,bT,bF,bT,bF] rfl rfl (one_of HT_.out Q14) Q36 (fun K hK => ?_)
           refine Kd.N_append_rows_step (Kd.slice 3 (Kd.int .i64)) (w0:=w) w.heap.size Q70 (.tmp 40) (.tmp 42) 23 36 (.slice none 0 0) 24 rfl Try.underlying23 info36 rfl Q36 Q17 v519 y518 t511 _ _ _ (fun k_ => some k_ ≠ (.slice Ao11 t508.length co11 : Value).ownBlock ∧ k_ ≠ gb514 ∧ k_ ≠ gb524) (fun k_ => ((fun k_ => some k_ ≠ (.slice Ao11 t508.length co11 : Value).ownBlock ∧ k_ ≠ gb514 ∧ k_ ≠ gb524)) k_ ∧ some k_ ≠ (v519 : Value).ownBlock) rfl rfl ?aO ?aR (fun _ hk => hk) ?aF ?aB ?aS ?aL ?_
           (case aR => exact (by skip;exact Kd.N_F (Kd.N_mono (ok':=(fun k_ => ((fun k_ => some k_ ≠ (.slice Ao11 t508.length co11 : Value).ownBlock ∧ k_ ≠ gb514 ∧ k_ ≠ gb524)) k_ ∧ some k_ ≠ (v519 : Value).ownBlock)) (HO_515001.out) (fun k_ hk => ⟨⟨hk.1.1.1,⟨hk.1.1.2,hk.1.2⟩⟩,hk.2⟩))))
           (case aB => exact Q15)
           (case aF => exact (fun k_ hk => ⟨Kd.fresh' (Kd.R_lt (qR HO_515000)) k_ hk,Kd.freshB (g:=gb514) (o:=.cells #[.slice Ao11 t508.length co11,.slice Ao13 t511.length co13] 30 (0,0)) (qk BK514) k_ hk,Kd.freshB (g:=gb524) (o:=.cells #[.slice none 0 0,.slice none 0 0] 30 (0,0)) (qk BK524) k_ hk⟩))
           (case aO => exact (by (with_reducible repeat (first|apply Kd.N_alloc|apply Kd.N_drewN|apply Kd.N_drew));exact Kd.N_mono HO520.out (fun _ hk => ⟨hk.1,⟨hk.2.2.1,hk.2.2.2⟩⟩)))
           (case aS => exact (below_size Q15))
           (case aL => have:=LMc25.out;omega)
           intro v522 w47 ho hb hg hat
           have hHN5_:=True.intro
           rw [← Ny521.out] at ho
           have n0_:=aM (Kd.R_over' (qR HO_515000) (Kd.N_typed (qN HO520)) Q36 hg)
           have n1_:=aM (Kd.N_afterv (ok:=(fun k_ => some k_ ≠ (.slice Ao11 t508.length co11 : Value).ownBlock ∧ k_ ≠ gb514 ∧ k_ ≠ gb524)) (by (with_reducible repeat (first|apply Kd.N_alloc|apply Kd.N_drewN|apply Kd.N_drew));exact Kd.N_mono HO_515001.out (fun _ hk => ⟨⟨hk.1.1.1,⟨hk.1.1.2,hk.1.2⟩⟩,hk.2⟩)) hg hat)
           have n2_:=aM (blk_grown (g:=gb514) (o:=.cells #[.slice Ao11 t508.length co11,.slice Ao13 t511.length co13] 30 (0,0)) (qk BK514) hg (Kd.N_ne HO520.out BK514.out Q36))
           have n3_:=aM (blk_grown (g:=gb524) (o:=.cells #[.slice none 0 0,.slice none 0 0] 30 (0,0)) (qk BK524) hg (Kd.N_ne HO520.out BK524.out Q36))
           have n4_:=aM (hb)
           have n5_:=aM (ho)
           clear HO_515000
           clear HO_515001
           clear BK514
           clear BK524
           clear HB
           clear HO520
           have HO_515000:=n0_
           have HO_515001:=n1_
           have BK514:=n2_
           have BK524:=n3_
           have HB:=n4_
           have HO523:=n5_
           clear n0_ n1_ n2_ n3_ n4_ n5_
           clear ho hb hg hat
           obtain ⟨Ao48,co48,eo48⟩:=Kd.N_slice HO523.out
           (first|subst eo48|(injection eo48 with f1_ f2_ f3_;have f4_:=f1_.symm;have f5_:=f3_.symm;clear f1_ f2_ f3_;subst f4_;subst f5_))
           refine hK.out _ _ ⟨(blk_cell BK514.out 0).trans rfl,(blk_cell BK514.out 1).trans rfl⟩ (fun hHeld => ?_)
           clear hK K
           refine norm_ (a':=?_) ?_ ?_
           rotate_left
           ·show Act.put _ (some 43) _ = _
            simp only [Act.put,sI,sZ,sS,i64_w,i32_w]
            rfl
           refine pS HT_ 6 44 ?_
           exact norm_ Q98 (hCont (v519,.slice Ao48 y521.length co48,gb524) _ ⟨hHeld,(qN HO523),(qR HO_515000),Q120,(qk BK514),(qk BK524),GW524.out,GE524.out,NB514_524.out,NB524_514.out,Q15⟩)
         rintro ⟨v519,v522,gb524⟩ w49 ⟨hS_,h0_,h1_,h2_,h3_,h4_,h5_,h6_,h7_,h8_,h9_⟩
         have n0_ : Aside0 (Kd.N (Kd.slice 3 (Kd.int .i64)) 36 w49 w.heap.size (fun k_ => some k_ ≠ (.slice Ao11 t508.length co11 : Value).ownBlock ∧ k_ ≠ gb514 ∧ k_ ≠ gb524) v522 y521):=⟨h0_⟩
         have n1_ : Aside0 (Kd.R k40 40 w49 w.heap.size (fun _ => True) (.slice Ao11 t508.length co11) t508):=⟨h1_⟩
         have n2_ : Aside0 (Kd.N (Kd.slice 3 (Kd.int .i64)) 36 w49 w.heap.size (fun k_ => some k_ ≠ (v522 : Value).ownBlock ∧ some k_ ≠ (.slice Ao11 t508.length co11 : Value).ownBlock ∧ k_ ≠ gb514 ∧ k_ ≠ gb524) (.slice Ao13 t511.length co13) t511):=⟨h2_⟩
         have n3_ : Aside0 (w49.heap[gb514]? = some (.cells #[.slice Ao11 t508.length co11,.slice Ao13 t511.length co13] 30 (0,0))):=⟨h3_⟩
         have n4_ : Aside0 (w49.heap[gb524]? = some (.cells #[.slice none 0 0,.slice none 0 0] 30 (0,0))):=⟨h4_⟩
         have n5_ : Aside0 (w.heap.size ≤ gb524):=⟨h5_⟩
         have n6_ : Aside0 (w.heap.size ≤ gb524):=⟨h6_⟩
         have n7_ : Aside0 (gb514 ≠ gb524):=⟨h7_⟩
         have n8_ : Aside0 (gb524 ≠ gb514):=⟨h8_⟩
         have n9_ : Aside0 (Below w.heap.size w w49):=⟨h9_⟩
         clear HO_515000
         clear HO_515001
         clear BK514
         clear HB
         clear h0_ h1_ h2_ h3_ h4_ h5_ h6_ h7_ h8_ h9_
         have HO523:=n0_
         have HO_515000:=n1_
         have HO_515001:=n2_
         have BK514:=n3_
         have BK524:=n4_
         have GW524:=n5_
         have GE524:=n6_
         have NB514_524:=n7_
         have NB524_514:=n8_
         have HB:=n9_
         clear n0_ n1_ n2_ n3_ n4_ n5_ n6_ n7_ n8_ n9_
         have hHeld : w49.cell? ⟨gb514,0,none⟩ = some (.slice Ao11 t508.length co11) ∧ w49.cell? ⟨gb514,1,none⟩ = some (.slice Ao13 t511.length co13):=hS_
         obtain ⟨Ao50,co50,eo50⟩:=Kd.N_slice HO523.out
         (first|subst eo50|(injection eo50 with f1_ f2_ f3_;have f4_:=f1_.symm;have f5_:=f3_.symm;clear f1_ f2_ f3_;subst f4_;subst f5_))
         refine norm_ (a':=?_) ?_ ?_
         rotate_left
         ·simp only [putAll,Act.put,sI,sZ,sS]
          rfl
         refine one_ (i:=8) (N:=none) #[bT,bT,bT,bT,bT,bT,bT,bT,bT] rfl rfl (one_of HT_.out Q14) Q36 (fun K hK => ?_)
         have hs51 : w49.cell? ⟨gb524,0,none⟩ = some (.slice none 0 0):=(blk_cell BK524.out 0).trans rfl
         have hfs51:=blk_frozen BK524.out 0
         have hns51_0:=NB514_524.out
         have hms51_0:=NB524_514.out
         have hs52 : w49.cell? ⟨gb524,1,none⟩ = some (.slice none 0 0):=(blk_cell BK524.out 1).trans rfl
         have hfs52:=blk_frozen BK524.out 1
         have hns52_0:=NB514_524.out
         have hms52_0:=NB524_514.out
         refine skip_ (w1:=?_) Q70 rfl ?_ ?_
         rotate_left
         ·go_simp
          rfl
         refine hK.out _ _ ⟨((cell_far (p:=⟨gb524,_,none⟩) NB514_524.out _).trans (((cell_far (p:=⟨gb524,_,none⟩) NB514_524.out _).trans (hHeld.1)))),((cell_far (p:=⟨gb524,_,none⟩) NB514_524.out _).trans (((cell_far (p:=⟨gb524,_,none⟩) NB514_524.out _).trans (hHeld.2))))⟩ (fun hHeld => ?_)
         clear hK K
         refine done_ (done_of HT_.out Q14) ?_
         have hnb53:=NB524_514.out
         have hnc53:=NB514_524.out
         have hcz54_0 : w49.cell? ⟨gb524,0,none⟩ = some (.slice none 0 0):=(blk_cell BK524.out 0).trans rfl
         have hcz54_1 : w49.cell? ⟨gb524,1,none⟩ = some (.slice none 0 0):=(blk_cell BK524.out 1).trans rfl
         have hfz54_0:=blk_frozen BK524.out 0
         have hfz54_1:=blk_frozen BK524.out 1
         try go_wp2_with (first|((with_reducible refine gate_dst (N:=48) rfl ?_);(try (refine gate_guard Q70 ?_;dsimp only));refine Kd.R_lit (Kd.int .i64) _ 3 ?hg (N:=48) ?hd (xs:=([1,2,3,4] : List Int)) (inner:=[.int .i64 1,.int .i64 2,.int .i64 3,.int .i64 4]) (ok:=fun _ => True) (okp:=fun _ => True) ?hr ?hp (fun _ hk => hk) trivial (Below.refl _ _) (Nat.le_refl _) Q51 ?_;(case hd => rfl);(case hg => rfl);(case hr => exact Q16);(case hp => exact (Reps.one (show Kd.M (Kd.int .i64) _ _ _ 1 [.int .i64 1] from rfl) (Reps.one (show Kd.M (Kd.int .i64) _ _ _ 2 [.int .i64 2] from rfl) (Reps.one (show Kd.M (Kd.int .i64) _ _ _ 3 [.int .i64 3] from rfl) (Reps.one (show Kd.M (Kd.int .i64) _ _ _ 4 [.int .i64 4] from rfl) (Reps.none _ _))))));intro v526 w55 ho56 hb hg_ hnew_;clear hg_ hnew_;(first|rw [← Ny525.out] at ho56|(simp only [Int.reduceToNat] at ho56;rw [← Ny525.out] at ho56));obtain ⟨Av526,cv526,ev526_⟩:=Kd.R_slice ho56;subst ev526_;have n0_:=aM (Kd.R_below (by (with_reducible repeat (first|apply Kd.R_alloc|apply Kd.R_drewN|apply Kd.R_drew));exact (Kd.R_mono (Kd.R_far (p:=⟨gb524,1,none⟩) (Kd.R_far (p:=⟨gb524,0,none⟩) (Kd.R_types HO_515000.out BK524.out Q36) (fun _ hk => hk.2) (.slice Ao11 t508.length co11)) (fun _ hk => hk.2) (.slice Ao50 y521.length co50)) (fun _ h_ => h_.1))) hb);have n1_:=aM (Kd.N_elder' (by (with_reducible repeat (first|apply Kd.N_alloc|apply Kd.N_drewN|apply Kd.N_drew));exact (Kd.N_mono (Kd.N_far (p:=⟨gb524,1,none⟩) (Kd.N_far (p:=⟨gb524,0,none⟩) (Kd.N_mono HO_515001.out (fun k_ hk => (⟨hk,hk.2.2.2⟩ : _ ∧ k_ ≠ gb524))) (fun _ hk => hk.2) (.slice Ao11 t508.length co11)) (fun _ hk => hk.2) (.slice Ao50 y521.length co50)) (fun _ h_ => h_.1))) (Kd.R_base ho56) hb);have n2_:=aM (Kd.N_elder' (by (with_reducible repeat (first|apply Kd.N_alloc|apply Kd.N_drewN|apply Kd.N_drew));exact (Kd.N_mono (Kd.N_far (p:=⟨gb524,1,none⟩) (Kd.N_far (p:=⟨gb524,0,none⟩) (Kd.N_mono HO523.out (fun k_ hk => (⟨hk,hk.2.2⟩ : _ ∧ k_ ≠ gb524))) (fun _ hk => hk.2) (.slice Ao11 t508.length co11)) (fun _ hk => hk.2) (.slice Ao50 y521.length co50)) (fun _ h_ => h_.1))) (Kd.R_base ho56) hb);have n3_:=aM (Kd.R_lower ho56 (below_size Q15));have n4_:=aM (blk_below (g:=gb514) (o:=.cells #[.slice Ao11 t508.length co11,.slice Ao13 t511.length co13] 30 (0,0)) (by (with_reducible repeat (first|refine blk_drewN ?_ _|refine blk_drew ?_|refine blk_alloc ?_ _));refine blk_far ?_ NB514_524.out _;(with_reducible repeat (first|refine blk_drewN ?_ _|refine blk_drew ?_|refine blk_alloc ?_ _));refine blk_far ?_ NB514_524.out _;(with_reducible repeat (first|refine blk_drewN ?_ _|refine blk_drew ?_|refine blk_alloc ?_ _));exact BK514.out) hb);have n5_:=aM (blk_below (g:=gb524) (o:=.cells #[.slice Ao11 t508.length co11,.slice Ao50 y521.length co50] 30 (0,0)) (by (with_reducible repeat (first|refine blk_drewN ?_ _|refine blk_drew ?_|refine blk_alloc ?_ _));refine blk_put (cs:=#[.slice Ao11 t508.length co11,.slice none 0 0]) ?_ 1 _ rfl;(with_reducible repeat (first|refine blk_drewN ?_ _|refine blk_drew ?_|refine blk_alloc ?_ _));refine blk_put (cs:=#[.slice none 0 0,.slice none 0 0]) ?_ 0 _ rfl;(with_reducible repeat (first|refine blk_drewN ?_ _|refine blk_drew ?_|refine blk_alloc ?_ _));exact BK524.out) hb);have n6_:=aM (below_step Q15 hb);clear HO_515000;clear HO_515001;clear HO523;clear BK514;clear BK524;clear HB;have HO_515000:=n0_;have HO_515001:=n1_;have HO523:=n2_;have HO527:=n3_;have BK514:=n4_;have BK524:=n5_;have HB:=n6_;clear n0_ n1_ n2_ n3_ n4_ n5_ n6_;clear hb ho56;have p29 : 0 ≤ ((ji26) : Int):=of_decide_eq_true Q5;have q29 : ((ji26) : Int) < ((y521.length : Int) : Int):=of_decide_eq_true Q5;obtain ⟨go29,co29,eo29,gb29,gl29,cl29,HG29⟩:=Kd.N_form HO523.out Q17;(first|cases eo29|(injection eo29 with ea_ en_ ec_;(first|subst ea_|(injection ea_ with ea_;subst ea_));subst ec_;clear en_));have GB29:=aM gb29;have GG29:=aM HG29;clear gb29 gl29 HG29;obtain ⟨ce29,hcl29,hM29,hcc29,hfr29⟩:=Kd.N_elem HO523.out [] ((ji26) : Int) p29 q29;obtain ⟨ua29_0,uc29_0,rfl,ul29_0,ge29_0⟩:=Kd.FK_slice_open hM29;have hx29_0:=hcc29 0 _ rfl;have hf29_0:=hfr29 0;(try simp only [show ((Kd.slice 3 (Kd.int .i64))).sz = 1 from rfl,Nat.mul_one,Nat.add_zero] at hx29_0);(try simp only [show ((Kd.slice 3 (Kd.int .i64))).sz = 1 from rfl,Nat.mul_one,Nat.add_zero] at hf29_0);clear hcl29 hcc29 hfr29 hM29;replace p29:=eq_true p29;replace q29:=eq_true q29;have n_:=aM (Kd.N_mono (ok':=(fun k_ => some k_ ≠ (.slice Ao11 t508.length co11 : Value).ownBlock ∧ some k_ ≠ (.slice Av526 y525.length cv526 : Value).ownBlock ∧ k_ ≠ gb514 ∧ k_ ≠ gb524)) HO523.out (fun k_ hk => ⟨hk.1.1,⟨hk.2,⟨hk.1.2.1,hk.1.2.2⟩⟩⟩));clear HO523;have HO523:=n_;clear n_;have HX57:=aM (show Kd.N (Kd.slice 3 (Kd.int .i64)) 36 w55 w.heap.size (fun k_ => some k_ ≠ (.slice Ao11 t508.length co11 : Value).ownBlock ∧ k_ ≠ gb514 ∧ k_ ≠ gb524) (.slice (some ⟨go29,0,none⟩) y521.length co50) y521 from (by (with_reducible repeat (first|apply Kd.N_alloc|apply Kd.N_drewN|apply Kd.N_drew));exact Kd.N_mono HO523.out (fun _ hk => ⟨hk.1,⟨hk.2.2.1,hk.2.2.2⟩⟩)));obtain ⟨ce57,hcl57,hM57,hcc57,hfr57⟩:=Kd.N_elem HX57.out [] ((ji26) : Int) (of_decide_eq_true Q5) Q136;obtain ⟨ua57_0,uc57_0,rfl,ul57_0,ge57_0⟩:=Kd.FK_slice_open hM57;have HP57:=Kd.N_seg HX57.out ((ji26) : Int) (of_decide_eq_true Q5) Q136 (seg:=[.slice Av526 y525.length cv526]) (j:=0) hcl57 hcc57 (show 1 ≤ 1 from Q36) (x':=y525) (Kd.FK_slice_mk (Kd.R_reads' (Kd.R_mono (ok':=(fun k_ => ((fun k_ => some k_ ≠ (.slice Ao11 t508.length co11 : Value).ownBlock ∧ k_ ≠ gb514 ∧ k_ ≠ gb524)) k_ ∧ k_ ≠ go29)) (Kd.R_types (Kd.R_types (Kd.R_apart' (Kd.R_apart' (HO527.out) (Kd.R_typed HO_515000.out) Q36) (Kd.N_typed HO523.out) Q36) BK514.out Q36) BK524.out Q36) (fun k_ hk => ⟨⟨hk.1.1.1.2,⟨hk.1.2,hk.2⟩⟩,fun e_ => (hk.1.1.2) Q118⟩))).2.1 (Kd.R_F (Kd.R_mono (ok':=(fun k_ => ((fun k_ => some k_ ≠ (.slice Ao11 t508.length co11 : Value).ownBlock ∧ k_ ≠ gb514 ∧ k_ ≠ gb524)) k_ ∧ k_ ≠ go29)) (Kd.R_types (Kd.R_types (Kd.R_apart' (Kd.R_apart' (HO527.out) (Kd.R_typed HO_515000.out) Q36) (Kd.N_typed HO523.out) Q36) BK514.out Q36) BK524.out Q36) (fun k_ hk => ⟨⟨hk.1.1.1.2,⟨hk.1.2,hk.2⟩⟩,fun e_ => (hk.1.1.2) Q118⟩)))) (fun _ hk => hk);have hx57_0:=hcc57 0 _ rfl;(try simp only [show ((Kd.slice 3 (Kd.int .i64))).sz = 1 from rfl,Nat.mul_one,Nat.add_zero] at hx57_0);have hf57_0:=hfr57 0;(try simp only [show ((Kd.slice 3 (Kd.int .i64))).sz = 1 from rfl,Nat.mul_one,Nat.add_zero] at hf57_0);clear hcl57 hcc57 hfr57 hM57;(try simp only [show ((Kd.slice 3 (Kd.int .i64))).sz = 1 from rfl,Nat.mul_one,Nat.add_zero] at HP57);(try simp only [show ((Kd.slice 3 (Kd.int .i64))).sz = 1 from rfl,Nat.mul_one,Nat.add_zero] at HP57))|((with_reducible refine gate_store (t:=36) (p:=49) rfl ?_);refine store_event (t:=36) (p:=49) (v:=?vo_w58) (w1:=(w55.setCell ⟨go29,((ji26) : Int).toNat,none⟩ (.slice Av526 y525.length cv526))) ?hg ?ho ?hn ?hr ?_;(case ho => rfl);(case hg => rfl);(case hn => rfl);(case hr => exact Q16);intro w58 hw;have hg : w55.grownBy w58 (some go29):=(by rw [hw];exact HP57.2);have hp_ : Kd.N (Kd.slice 3 (Kd.int .i64)) 36 w58 w.heap.size (fun k_ => some k_ ≠ (.slice Ao11 t508.length co11 : Value).ownBlock ∧ k_ ≠ gb514 ∧ k_ ≠ gb524) (.slice (some ⟨go29,0,none⟩) y521.length co50) y528:=(by rw [hw,Ny528.out];exact HP57.1);clear HP57;have n0_:=aM (Kd.R_over' (v:=(.slice (some ⟨go29,0,none⟩) y521.length co50)) (qR HO_515000) (Kd.N_typed HO523.out) Q36 hg);have n1_:=aM (Kd.N_afterv (v:=(.slice (some ⟨go29,0,none⟩) y521.length co50)) (v1:=(.slice (some ⟨go29,0,none⟩) y521.length co50)) (ok:=(fun k_ => some k_ ≠ (.slice Ao11 t508.length co11 : Value).ownBlock ∧ some k_ ≠ (.slice Av526 y525.length cv526 : Value).ownBlock ∧ k_ ≠ gb514 ∧ k_ ≠ gb524)) (by (with_reducible repeat (first|apply Kd.N_alloc|apply Kd.N_drewN|apply Kd.N_drew));exact Kd.N_mono HO_515001.out (fun _ hk => ⟨⟨hk.1.2.1,⟨hk.2,⟨hk.1.2.2.1,hk.1.2.2.2⟩⟩⟩,hk.1.1⟩)) hg (.inl rfl));have n2_:=aM (blk_grown (g:=gb514) (o:=.cells #[.slice Ao11 t508.length co11,.slice Ao13 t511.length co13] 30 (0,0)) (qk BK514) hg (Kd.N_ne HO523.out BK514.out Q36));have n3_:=aM (hp_);have n4_:=aM (blk_grown (g:=gb524) (o:=.cells #[.slice Ao11 t508.length co11,.slice (some ⟨go29,0,none⟩) y521.length co50] 30 (0,0)) (qk BK524) hg (Kd.N_ne HO523.out BK524.out Q36));have n5_:=aM ((by rw [hw];exact below_set (HB.out) GB29.out : Below w.heap.size w w58));clear HO_515000;clear HO_515001;clear BK514;clear HO523;clear BK524;clear HB;clear HO527;have HO_515000:=n0_;have HO_515001:=n1_;have BK514:=n2_;have HO523:=n3_;have BK524:=n4_;have HB:=n5_;clear n0_ n1_ n2_ n3_ n4_ n5_;clear hg hw hp_))
         have n0_:=aM (Kd.R_drew HO_515000.out)
         have n1_:=aM (Kd.N_drew HO_515001.out)
         have n2_:=aM (Kd.N_drew HO523.out)
         have n3_:=aM (blk_drew BK514.out)
         have n4_:=aM (blk_drew BK524.out)
         have n5_:=aM (bD HB.out)
         clear HO_515000
         clear HO_515001
         clear HO523
         clear BK514
         clear BK524
         clear HB
         have HO_515000:=n0_
         have HO_515001:=n1_
         have HO523:=n2_
         have BK514:=n3_
         have BK524:=n4_
         have HB:=n5_
         clear n0_ n1_ n2_ n3_ n4_ n5_
         refine start_ (n:=9) (S:=fun w' => w'.cell? ⟨gb514,0,none⟩ = some (.slice Ao11 t508.length co11) ∧ w'.cell? ⟨gb514,1,none⟩ = some (.slice Ao13 t511.length co13)) (ds:=[]) #[bF,bF,bF,bF,bF,bF,bF,bF,bF] Q14 rfl rfl ⟨(blk_cell BK514.out 0).trans rfl,(blk_cell BK514.out 1).trans rfl⟩ (fun hHeld => ?_);refine with_tabW laws_FnCertMore.tab10 laws_FnCertMore.bits10 (fun HT_ HW_ => ?_)
         generalize w58.drew = w59 at HO_515000 HO_515001 HO523 BK514 BK524 HB hHeld ⊢
         refine pS HT_ 0 50 ?_
         refine pS HT_ 3 53 ?_
         refine take_ (i:=1) (N:=some 51) (v:=?_) (a':=?_) #[bT,bT,bF,bT,bF,bF,bF,bF,bF] rfl rfl (take_ofW HT_.out HW_.out Q14) (fun _ _ _ h => h) (Or.inl ⟨Q70,?_⟩) hHeld ?_ ?_
         rotate_left
         ·rintro w' ⟨s0,s1⟩
          (try simp only [Int.toNat_natCast] at s0 s1)
          go_simp
          with_reducible rfl
         rotate_left
         ·simp only [Act.put,sI,sZ,sS,i64_w,i32_w]
          rfl
         refine take_ (i:=4) (N:=some 54) (v:=?_) (a':=?_) #[bT,bT,bF,bT,bT,bF,bF,bF,bF] rfl rfl (take_ofW HT_.out HW_.out Q14) (fun _ _ _ h => h) (Or.inl ⟨Q70,?_⟩) hHeld ?_ ?_
         rotate_left
         ·rintro w' ⟨s0,s1⟩
          (try simp only [Int.toNat_natCast] at s0 s1)
          go_simp
          with_reducible rfl
         rotate_left
         ·simp only [Act.put,sI,sZ,sS,i64_w,i32_w]
          rfl
         refine join_ (σ:=Value × Value × Nat) 1 #[bT,bT,bT,bT,bT,bT,bT,bT,bF] (fun s_ => [(52,s_.1),(55,s_.2.1),(9,.pointer (some ⟨s_.2.2,0,none⟩)),(56,.agg #[.slice Ao11 t508.length co11,s_.2.1])]) (fun s_ w' => (w'.cell? ⟨gb514,0,none⟩ = some (.slice Ao11 t508.length co11) ∧ w'.cell? ⟨gb514,1,none⟩ = some (.slice Ao13 t511.length co13)) ∧ (Kd.N (Kd.slice 3 (Kd.int .i64)) 36 w' w.heap.size (fun k_ => some k_ ≠ (s_.2.1 : Value).ownBlock ∧ some k_ ≠ (.slice Ao11 t508.length co11 : Value).ownBlock ∧ k_ ≠ gb514 ∧ k_ ≠ gb524 ∧ k_ ≠ s_.2.2) (.slice (some ⟨go29,0,none⟩) y521.length co50) y528) ∧ (Kd.N (Kd.slice 3 (Kd.int .i64)) 36 w' w.heap.size (fun k_ => some k_ ≠ (.slice (some ⟨go29,0,none⟩) y521.length co50 : Value).ownBlock ∧ some k_ ≠ (.slice Ao11 t508.length co11 : Value).ownBlock ∧ k_ ≠ gb514 ∧ k_ ≠ gb524 ∧ k_ ≠ s_.2.2) s_.2.1 y532) ∧ (Kd.R k40 40 w' w.heap.size (fun _ => True) (.slice Ao11 t508.length co11) t508) ∧ (Kd.N (Kd.slice 3 (Kd.int .i64)) 36 w' w.heap.size (fun k_ => some k_ ≠ (.slice (some ⟨go29,0,none⟩) y521.length co50 : Value).ownBlock ∧ some k_ ≠ (s_.2.1 : Value).ownBlock ∧ some k_ ≠ (.slice Ao11 t508.length co11 : Value).ownBlock ∧ k_ ≠ gb514 ∧ k_ ≠ gb524 ∧ k_ ≠ s_.2.2) (.slice Ao13 t511.length co13) t511) ∧ (w'.heap[gb514]? = some (.cells #[.slice Ao11 t508.length co11,.slice Ao13 t511.length co13] 30 (0,0))) ∧ (w'.heap[gb524]? = some (.cells #[.slice Ao11 t508.length co11,.slice (some ⟨go29,0,none⟩) y521.length co50] 30 (0,0))) ∧ (w'.heap[s_.2.2]? = some (.cells #[.slice none 0 0,.slice none 0 0] 30 (0,0))) ∧ (w.heap.size ≤ s_.2.2) ∧ (w.heap.size ≤ s_.2.2) ∧ (gb514 ≠ s_.2.2) ∧ (s_.2.2 ≠ gb514) ∧ (gb524 ≠ s_.2.2) ∧ (s_.2.2 ≠ gb524) ∧ (Below w.heap.size w w')) ?_ ?_
         rotate_left
         ·intro hCont
          refine two_ (i:=2) (j:=7) (Ni:=some 52) (Nj:=some 9) #[bT,bT,bT,bT,bT,bF,bF,bF,bF] #[bT,bT,bF,bT,bT,bF,bF,bT,bF] rfl rfl rfl rfl (two_of HT_.out Q14) Q36 Q36 (fun K hK => ?_) (fun K hK => ?_)
          ·skip
           refine Kd.N_lit_step (Kd.slice 3 (Kd.int .i64)) _ 36 ?hg (N':=52) ?hd (xs:=([] : List (List Int))) (inner:=[]) (ok:=(fun k_ => some k_ ≠ (.slice Ao11 t508.length co11 : Value).ownBlock ∧ some k_ ≠ (.slice Ao13 t511.length co13 : Value).ownBlock ∧ some k_ ≠ (.slice (some ⟨go29,0,none⟩) y521.length co50 : Value).ownBlock ∧ k_ ≠ gb514 ∧ k_ ≠ gb524)) (okp:=(fun k_ => some k_ ≠ (.slice Ao11 t508.length co11 : Value).ownBlock ∧ some k_ ≠ (.slice Ao13 t511.length co13 : Value).ownBlock ∧ some k_ ≠ (.slice (some ⟨go29,0,none⟩) y521.length co50 : Value).ownBlock ∧ k_ ≠ gb514 ∧ k_ ≠ gb524)) ?hr ?hp (fun _ hk => hk) ((show ∀ k_,w59.heap.size ≤ k_ → (fun k_ => some k_ ≠ (.slice Ao11 t508.length co11 : Value).ownBlock ∧ some k_ ≠ (.slice Ao13 t511.length co13 : Value).ownBlock ∧ some k_ ≠ (.slice (some ⟨go29,0,none⟩) y521.length co50 : Value).ownBlock ∧ k_ ≠ gb514 ∧ k_ ≠ gb524) k_ from fun k_ hk => ⟨Kd.fresh' (Kd.R_lt (qR HO_515000)) k_ hk,Kd.fresh' (Kd.N_lt (qN HO_515001)) k_ hk,Kd.fresh' (Kd.N_lt (qN HO523)) k_ hk,Kd.freshB (g:=gb514) (o:=.cells #[.slice Ao11 t508.length co11,.slice Ao13 t511.length co13] 30 (0,0)) (qk BK514) k_ hk,Kd.freshB (g:=gb524) (o:=.cells #[.slice Ao11 t508.length co11,.slice (some ⟨go29,0,none⟩) y521.length co50] 30 (0,0)) (qk BK524) k_ hk⟩) _ (Nat.le_refl _)) (Below.refl _ _) (Nat.le_refl _) Q51 ?_;(case hd => rfl);(case hg => rfl);(case hr => exact Q16);(case hp => exact (Reps.none _ _))
           intro v530 w60 ho61 hb hg_ hnew_
           clear hg_ hnew_
           (first|rw [← Ny529.out] at ho61|(simp only [Int.reduceToNat] at ho61;rw [← Ny529.out] at ho61))
           have n0_:=aM (Kd.R_below (qR HO_515000) hb)
           have n1_:=aM (Kd.N_elder' (qN HO_515001) (Kd.N_base ho61) hb)
           have n2_:=aM (Kd.N_elder' (qN HO523) (Kd.N_base ho61) hb)
           have n3_:=aM (Kd.N_lower ho61 (below_size Q15))
           have n4_:=aM (blk_below (g:=gb514) (o:=.cells #[.slice Ao11 t508.length co11,.slice Ao13 t511.length co13] 30 (0,0)) (qk BK514) hb)
           have n5_:=aM (blk_below (g:=gb524) (o:=.cells #[.slice Ao11 t508.length co11,.slice (some ⟨go29,0,none⟩) y521.length co50] 30 (0,0)) (qk BK524) hb)
           have n6_:=aM (below_step Q15 hb)
           clear HO_515000
           clear HO_515001
           clear HO523
           clear BK514
           clear BK524
           clear HB
           have HO_515000:=n0_
           have HO_515001:=n1_
           have HO523:=n2_
           have HO531:=n3_
           have BK514:=n4_
           have BK524:=n5_
           have HB:=n6_
           clear n0_ n1_ n2_ n3_ n4_ n5_ n6_
           clear hb ho61
           refine hK.out _ _ ⟨(blk_cell BK514.out 0).trans rfl,(blk_cell BK514.out 1).trans rfl⟩ (fun hHeld => ?_)
           clear hK K
           refine norm_ (a':=?_) ?_ ?_
           rotate_left
           ·show Act.put _ (some 52) _ = _
            simp only [Act.put,sI,sZ,sS,i64_w,i32_w]
            rfl
           refine two_ (i:=5) (j:=7) (Ni:=some 55) (Nj:=some 9) #[bT,bT,bT,bT,bT,bT,bF,bF,bF] #[bT,bT,bT,bT,bT,bF,bF,bT,bF] rfl rfl rfl rfl (two_of HT_.out Q14) Q36 Q36 (fun K hK => ?_) (fun K hK => ?_)
           ·skip
            refine Kd.N_append_rows_step (Kd.slice 3 (Kd.int .i64)) (w0:=w) w.heap.size Q70 (.tmp 52) (.tmp 54) 23 36 (.slice none 0 0) 24 rfl Try.underlying23 info36 rfl Q36 Q17 v530 y529 t511 _ _ _ (fun k_ => some k_ ≠ (.slice Ao11 t508.length co11 : Value).ownBlock ∧ some k_ ≠ (.slice (some ⟨go29,0,none⟩) y521.length co50 : Value).ownBlock ∧ k_ ≠ gb514 ∧ k_ ≠ gb524) (fun k_ => ((fun k_ => some k_ ≠ (.slice Ao11 t508.length co11 : Value).ownBlock ∧ some k_ ≠ (.slice (some ⟨go29,0,none⟩) y521.length co50 : Value).ownBlock ∧ k_ ≠ gb514 ∧ k_ ≠ gb524)) k_ ∧ some k_ ≠ (v530 : Value).ownBlock) rfl rfl ?aO ?aR (fun _ hk => hk) ?aF ?aB ?aS ?aL ?_
            (case aR => exact (by skip;exact Kd.N_F (Kd.N_mono (ok':=(fun k_ => ((fun k_ => some k_ ≠ (.slice Ao11 t508.length co11 : Value).ownBlock ∧ some k_ ≠ (.slice (some ⟨go29,0,none⟩) y521.length co50 : Value).ownBlock ∧ k_ ≠ gb514 ∧ k_ ≠ gb524)) k_ ∧ some k_ ≠ (v530 : Value).ownBlock)) (HO_515001.out) (fun k_ hk => ⟨⟨hk.1.1.1,⟨hk.1.2,⟨hk.1.1.2.2.1,hk.1.1.2.2.2⟩⟩⟩,hk.2⟩))))
            (case aB => exact Q15)
            (case aF => exact (fun k_ hk => ⟨Kd.fresh' (Kd.R_lt (qR HO_515000)) k_ hk,Kd.fresh' (Kd.N_lt (qN HO523)) k_ hk,Kd.freshB (g:=gb514) (o:=.cells #[.slice Ao11 t508.length co11,.slice Ao13 t511.length co13] 30 (0,0)) (qk BK514) k_ hk,Kd.freshB (g:=gb524) (o:=.cells #[.slice Ao11 t508.length co11,.slice (some ⟨go29,0,none⟩) y521.length co50] 30 (0,0)) (qk BK524) k_ hk⟩))
            (case aO => exact (by (with_reducible repeat (first|apply Kd.N_alloc|apply Kd.N_drewN|apply Kd.N_drew));exact Kd.N_mono HO531.out (fun _ hk => ⟨hk.1,⟨hk.2.2.1,⟨hk.2.2.2.1,hk.2.2.2.2⟩⟩⟩)))
            (case aS => exact (below_size Q15))
            (case aL => have:=LMc30.out;omega)
            intro v533 w62 ho hb hg hat
            have hHN8_:=True.intro
            rw [← Ny532.out] at ho
            have n0_:=aM (Kd.R_over' (qR HO_515000) (Kd.N_typed (qN HO531)) Q36 hg)
            have n1_:=aM (Kd.N_afterv (ok:=(fun k_ => some k_ ≠ (.slice Ao11 t508.length co11 : Value).ownBlock ∧ some k_ ≠ (.slice (some ⟨go29,0,none⟩) y521.length co50 : Value).ownBlock ∧ k_ ≠ gb514 ∧ k_ ≠ gb524)) (by (with_reducible repeat (first|apply Kd.N_alloc|apply Kd.N_drewN|apply Kd.N_drew));exact Kd.N_mono HO_515001.out (fun _ hk => ⟨⟨hk.1.1.1,⟨hk.1.2,⟨hk.1.1.2.2.1,hk.1.1.2.2.2⟩⟩⟩,hk.2⟩)) hg hat)
            have n2_:=aM (blk_grown (g:=gb514) (o:=.cells #[.slice Ao11 t508.length co11,.slice Ao13 t511.length co13] 30 (0,0)) (qk BK514) hg (Kd.N_ne HO531.out BK514.out Q36))
            have n3_:=aM (Kd.N_afterv (ok:=(fun k_ => some k_ ≠ (.slice Ao11 t508.length co11 : Value).ownBlock ∧ k_ ≠ gb514 ∧ k_ ≠ gb524)) (qN HO523) hg hat)
            have n4_:=aM (blk_grown (g:=gb524) (o:=.cells #[.slice Ao11 t508.length co11,.slice (some ⟨go29,0,none⟩) y521.length co50] 30 (0,0)) (qk BK524) hg (Kd.N_ne HO531.out BK524.out Q36))
            have n5_:=aM (hb)
            have n6_:=aM (ho)
            clear HO_515000
            clear HO_515001
            clear BK514
            clear HO523
            clear BK524
            clear HB
            clear HO531
            have HO_515000:=n0_
            have HO_515001:=n1_
            have BK514:=n2_
            have HO523:=n3_
            have BK524:=n4_
            have HB:=n5_
            have HO534:=n6_
            clear n0_ n1_ n2_ n3_ n4_ n5_ n6_
            clear ho hb hg hat
            obtain ⟨Ao63,co63,eo63⟩:=Kd.N_slice HO534.out
            (first|subst eo63|(injection eo63 with f1_ f2_ f3_;have f4_:=f1_.symm;have f5_:=f3_.symm;clear f1_ f2_ f3_;subst f4_;subst f5_))
            refine hK.out _ _ ⟨(blk_cell BK514.out 0).trans rfl,(blk_cell BK514.out 1).trans rfl⟩ (fun hHeld => ?_)
            clear hK K
            refine norm_ (a':=?_) ?_ ?_
            rotate_left
            ·show Act.put _ (some 55) _ = _
             simp only [Act.put,sI,sZ,sS,i64_w,i32_w]
             rfl
            refine pS HT_ 6 56 ?_
            refine one_ (i:=7) (N:=some 9) #[bT,bT,bT,bT,bT,bT,bT,bT,bF] rfl rfl (one_of HT_.out Q14) Q36 (fun K hK => ?_)
            refine box_step ?hg (N:=9) ?hd (cs:=#[.slice none 0 0,.slice none 0 0]) (t:=30) ?hr ?_;(case hd => rfl);(case hg => rfl);(case hr => exact Q16)
            intro gb535 hg w64 hbox hb
            have n0_:=aM (Kd.R_below (qR HO_515000) hb)
            have n1_:=aM (Kd.N_below (Kd.N_elderB (qN HO_515001) gb535 (Nat.le_of_eq hg.symm)) hb)
            have n2_:=aM (Kd.N_below (Kd.N_elderB (qN HO523) gb535 (Nat.le_of_eq hg.symm)) hb)
            have n3_:=aM (Kd.N_below (Kd.N_elderB (qN HO534) gb535 (Nat.le_of_eq hg.symm)) hb)
            have n4_:=aM (blk_below (g:=gb514) (o:=.cells #[.slice Ao11 t508.length co11,.slice Ao13 t511.length co13] 30 (0,0)) (qk BK514) hb)
            have n5_:=aM (blk_below (g:=gb524) (o:=.cells #[.slice Ao11 t508.length co11,.slice (some ⟨go29,0,none⟩) y521.length co50] 30 (0,0)) (qk BK524) hb)
            have n6_:=aM (below_step Q15 hb)
            have n7_:=aM (hbox)
            have n8_:=aM ((Q130 : w.heap.size ≤ gb535))
            have n9_:=aM ((Q130 : w.heap.size ≤ gb535))
            have n10_:=aM ((Q55 : gb514 ≠ gb535))
            have n11_:=aM ((Q56 : gb535 ≠ gb514))
            have n12_:=aM ((Q49 : gb524 ≠ gb535))
            have n13_:=aM ((Q50 : gb535 ≠ gb524))
            clear HO_515000
            clear HO_515001
            clear HO523
            clear HO534
            clear BK514
            clear BK524
            clear HB
            have HO_515000:=n0_
            have HO_515001:=n1_
            have HO523:=n2_
            have HO534:=n3_
            have BK514:=n4_
            have BK524:=n5_
            have HB:=n6_
            have BK535:=n7_
            have GW535:=n8_
            have GE535:=n9_
            have NB514_535:=n10_
            have NB535_514:=n11_
            have NB524_535:=n12_
            have NB535_524:=n13_
            clear n0_ n1_ n2_ n3_ n4_ n5_ n6_ n7_ n8_ n9_ n10_ n11_ n12_ n13_
            clear hb hbox hg
            refine hK.out _ _ ⟨(blk_cell BK514.out 0).trans rfl,(blk_cell BK514.out 1).trans rfl⟩ (fun hHeld => ?_)
            clear hK K
            refine norm_ (a':=?_) ?_ ?_
            rotate_left
            ·show Act.put _ (some 9) _ = _
             simp only [Act.put,sI,sZ,sS,i64_w,i32_w]
             rfl
            exact norm_ Q98 (hCont (v530,.slice Ao63 y532.length co63,gb535) _ ⟨hHeld,(by (with_reducible repeat (first|apply Kd.N_alloc|apply Kd.N_drewN|apply Kd.N_drew));exact Kd.N_mono HO523.out (fun _ hk => ⟨hk.1.2,⟨hk.1.1.1,⟨hk.1.1.2.1,⟨hk.1.1.2.2,hk.2⟩⟩⟩⟩)),(by (with_reducible repeat (first|apply Kd.N_alloc|apply Kd.N_drewN|apply Kd.N_drew));exact Kd.N_mono HO534.out (fun _ hk => ⟨hk.1.2.1,⟨hk.1.1,⟨hk.1.2.2.1,⟨hk.1.2.2.2,hk.2⟩⟩⟩⟩)),(qR HO_515000),(by (with_reducible repeat (first|apply Kd.N_alloc|apply Kd.N_drewN|apply Kd.N_drew));exact Kd.N_mono HO_515001.out (fun _ hk => ⟨hk.1.1.2.1,⟨hk.1.2,⟨hk.1.1.1,⟨hk.1.1.2.2.1,⟨hk.1.1.2.2.2,hk.2⟩⟩⟩⟩⟩)),(qk BK514),(qk BK524),(qk BK535),GW535.out,GE535.out,NB514_535.out,NB535_514.out,NB524_535.out,NB535_524.out,Q10⟩)
           ·skip
            refine box_step ?hg (N:=9) ?hd (cs:=#[.slice none 0 0,.slice none 0 0]) (t:=30) ?hr ?_;(case hd => rfl);(case hg => rfl);(case hr => exact Q16)
            intro gb535 hg w62 hbox hb
            have n0_:=aM (Kd.R_below (qR HO_515000) hb)
            have n1_:=aM (Kd.N_below (Kd.N_elderB (qN HO_515001) gb535 (Nat.le_of_eq hg.symm)) hb)
            have n2_:=aM (Kd.N_below (Kd.N_elderB (qN HO523) gb535 (Nat.le_of_eq hg.symm)) hb)
            have n3_:=aM (Kd.N_below (Kd.N_elderB (qN HO531) gb535 (Nat.le_of_eq hg.symm)) hb)
            have n4_:=aM (blk_below (g:=gb514) (o:=.cells #[.slice Ao11 t508.length co11,.slice Ao13 t511.length co13] 30 (0,0)) (qk BK514) hb)
            have n5_:=aM (blk_below (g:=gb524) (o:=.cells #[.slice Ao11 t508.length co11,.slice (some ⟨go29,0,none⟩) y521.length co50] 30 (0,0)) (qk BK524) hb)
            have n6_:=aM (below_step Q15 hb)
            have n7_:=aM (hbox)
            have n8_:=aM ((Q130 : w.heap.size ≤ gb535))
            have n9_:=aM ((Q130 : w.heap.size ≤ gb535))
            have n10_:=aM ((Q55 : gb514 ≠ gb535))
            have n11_:=aM ((Q56 : gb535 ≠ gb514))
            have n12_:=aM ((Q49 : gb524 ≠ gb535))
            have n13_:=aM ((Q50 : gb535 ≠ gb524))
            clear HO_515000
            clear HO_515001
            clear HO523
            clear HO531
            clear BK514
            clear BK524
            clear HB
            have HO_515000:=n0_
            have HO_515001:=n1_
            have HO523:=n2_
            have HO531:=n3_
            have BK514:=n4_
            have BK524:=n5_
            have HB:=n6_
            have BK535:=n7_
            have GW535:=n8_
            have GE535:=n9_
            have NB514_535:=n10_
            have NB535_514:=n11_
            have NB524_535:=n12_
            have NB535_524:=n13_
            clear n0_ n1_ n2_ n3_ n4_ n5_ n6_ n7_ n8_ n9_ n10_ n11_ n12_ n13_
            clear hb hbox hg
            refine hK.out _ _ ⟨(blk_cell BK514.out 0).trans rfl,(blk_cell BK514.out 1).trans rfl⟩ (fun hHeld => ?_)
            clear hK K
            refine norm_ (a':=?_) ?_ ?_
            rotate_left
            ·show Act.put _ (some 9) _ = _
             simp only [Act.put,sI,sZ,sS,i64_w,i32_w]
             rfl
            refine one_ (i:=5) (N:=some 55) #[bT,bT,bT,bT,bT,bT,bF,bT,bF] rfl rfl (one_of HT_.out Q14) Q36 (fun K hK => ?_)
            refine Kd.N_append_rows_step (Kd.slice 3 (Kd.int .i64)) (w0:=w) w.heap.size Q70 (.tmp 52) (.tmp 54) 23 36 (.slice none 0 0) 24 rfl Try.underlying23 info36 rfl Q36 Q17 v530 y529 t511 _ _ _ (fun k_ => some k_ ≠ (.slice Ao11 t508.length co11 : Value).ownBlock ∧ some k_ ≠ (.slice (some ⟨go29,0,none⟩) y521.length co50 : Value).ownBlock ∧ k_ ≠ gb514 ∧ k_ ≠ gb524 ∧ k_ ≠ gb535) (fun k_ => ((fun k_ => some k_ ≠ (.slice Ao11 t508.length co11 : Value).ownBlock ∧ some k_ ≠ (.slice (some ⟨go29,0,none⟩) y521.length co50 : Value).ownBlock ∧ k_ ≠ gb514 ∧ k_ ≠ gb524 ∧ k_ ≠ gb535)) k_ ∧ some k_ ≠ (v530 : Value).ownBlock) rfl rfl ?aO ?aR (fun _ hk => hk) ?aF ?aB ?aS ?aL ?_
            (case aR => exact (by skip;exact Kd.N_F (Kd.N_mono (ok':=(fun k_ => ((fun k_ => some k_ ≠ (.slice Ao11 t508.length co11 : Value).ownBlock ∧ some k_ ≠ (.slice (some ⟨go29,0,none⟩) y521.length co50 : Value).ownBlock ∧ k_ ≠ gb514 ∧ k_ ≠ gb524 ∧ k_ ≠ gb535)) k_ ∧ some k_ ≠ (v530 : Value).ownBlock)) (HO_515001.out) (fun k_ hk => ⟨⟨hk.1.1.1.1,⟨hk.1.1.2,⟨hk.1.1.1.2.2.1,⟨hk.1.1.1.2.2.2,hk.2⟩⟩⟩⟩,hk.1.2⟩))))
            (case aB => exact Q10)
            (case aF => exact (fun k_ hk => ⟨Kd.fresh' (Kd.R_lt (qR HO_515000)) k_ hk,Kd.fresh' (Kd.N_lt (qN HO523)) k_ hk,Kd.freshB (g:=gb514) (o:=.cells #[.slice Ao11 t508.length co11,.slice Ao13 t511.length co13] 30 (0,0)) (qk BK514) k_ hk,Kd.freshB (g:=gb524) (o:=.cells #[.slice Ao11 t508.length co11,.slice (some ⟨go29,0,none⟩) y521.length co50] 30 (0,0)) (qk BK524) k_ hk,Kd.freshB (g:=gb535) (o:=.cells #[.slice none 0 0,.slice none 0 0] 30 (0,0)) (qk BK535) k_ hk⟩))
            (case aO => exact (by (with_reducible repeat (first|apply Kd.N_alloc|apply Kd.N_drewN|apply Kd.N_drew));exact Kd.N_mono HO531.out (fun _ hk => ⟨hk.1.1,⟨hk.1.2.2.1,⟨hk.1.2.2.2.1,⟨hk.1.2.2.2.2,hk.2⟩⟩⟩⟩)))
            (case aS => exact (below_size Q10))
            (case aL => have:=LMc30.out;omega)
            intro v533 w63 ho hb hg hat
            have hHN10_:=True.intro
            rw [← Ny532.out] at ho
            have n0_:=aM (Kd.R_over' (qR HO_515000) (Kd.N_typed (qN HO531)) Q36 hg)
            have n1_:=aM (Kd.N_afterv (ok:=(fun k_ => some k_ ≠ (.slice Ao11 t508.length co11 : Value).ownBlock ∧ some k_ ≠ (.slice (some ⟨go29,0,none⟩) y521.length co50 : Value).ownBlock ∧ k_ ≠ gb514 ∧ k_ ≠ gb524 ∧ k_ ≠ gb535)) (by (with_reducible repeat (first|apply Kd.N_alloc|apply Kd.N_drewN|apply Kd.N_drew));exact Kd.N_mono HO_515001.out (fun _ hk => ⟨⟨hk.1.1.1.1,⟨hk.1.1.2,⟨hk.1.1.1.2.2.1,⟨hk.1.1.1.2.2.2,hk.2⟩⟩⟩⟩,hk.1.2⟩)) hg hat)
            have n2_:=aM (blk_grown (g:=gb514) (o:=.cells #[.slice Ao11 t508.length co11,.slice Ao13 t511.length co13] 30 (0,0)) (qk BK514) hg (Kd.N_ne HO531.out BK514.out Q36))
            have n3_:=aM (Kd.N_afterv (ok:=(fun k_ => some k_ ≠ (.slice Ao11 t508.length co11 : Value).ownBlock ∧ k_ ≠ gb514 ∧ k_ ≠ gb524 ∧ k_ ≠ gb535)) (by (with_reducible repeat (first|apply Kd.N_alloc|apply Kd.N_drewN|apply Kd.N_drew));exact Kd.N_mono HO523.out (fun _ hk => ⟨⟨hk.1.1.1,⟨hk.1.1.2.1,⟨hk.1.1.2.2,hk.2⟩⟩⟩,hk.1.2⟩)) hg hat)
            have n4_:=aM (blk_grown (g:=gb524) (o:=.cells #[.slice Ao11 t508.length co11,.slice (some ⟨go29,0,none⟩) y521.length co50] 30 (0,0)) (qk BK524) hg (Kd.N_ne HO531.out BK524.out Q36))
            have n5_:=aM (blk_grown (g:=gb535) (o:=.cells #[.slice none 0 0,.slice none 0 0] 30 (0,0)) (qk BK535) hg (Kd.N_ne HO531.out BK535.out Q36))
            have n6_:=aM (hb)
            have n7_:=aM (ho)
            clear HO_515000
            clear HO_515001
            clear BK514
            clear HO523
            clear BK524
            clear BK535
            clear HB
            clear HO531
            have HO_515000:=n0_
            have HO_515001:=n1_
            have BK514:=n2_
            have HO523:=n3_
            have BK524:=n4_
            have BK535:=n5_
            have HB:=n6_
            have HO534:=n7_
            clear n0_ n1_ n2_ n3_ n4_ n5_ n6_ n7_
            clear ho hb hg hat
            obtain ⟨Ao64,co64,eo64⟩:=Kd.N_slice HO534.out
            (first|subst eo64|(injection eo64 with f1_ f2_ f3_;have f4_:=f1_.symm;have f5_:=f3_.symm;clear f1_ f2_ f3_;subst f4_;subst f5_))
            refine hK.out _ _ ⟨(blk_cell BK514.out 0).trans rfl,(blk_cell BK514.out 1).trans rfl⟩ (fun hHeld => ?_)
            clear hK K
            refine norm_ (a':=?_) ?_ ?_
            rotate_left
            ·show Act.put _ (some 55) _ = _
             simp only [Act.put,sI,sZ,sS,i64_w,i32_w]
             rfl
            refine pS HT_ 6 56 ?_
            exact norm_ Q98 (hCont (v530,.slice Ao64 y532.length co64,gb535) _ ⟨hHeld,Q114,Q113,(qR HO_515000),Q110,(qk BK514),(qk BK524),(qk BK535),GW535.out,GE535.out,NB514_535.out,NB535_514.out,NB524_535.out,NB535_524.out,Q10⟩)
          ·skip
           refine box_step ?hg (N:=9) ?hd (cs:=#[.slice none 0 0,.slice none 0 0]) (t:=30) ?hr ?_;(case hd => rfl);(case hg => rfl);(case hr => exact Q16)
           intro gb535 hg w60 hbox hb
           have n0_:=aM (Kd.R_below (qR HO_515000) hb)
           have n1_:=aM (Kd.N_below (Kd.N_elderB (qN HO_515001) gb535 (Nat.le_of_eq hg.symm)) hb)
           have n2_:=aM (Kd.N_below (Kd.N_elderB (qN HO523) gb535 (Nat.le_of_eq hg.symm)) hb)
           have n3_:=aM (blk_below (g:=gb514) (o:=.cells #[.slice Ao11 t508.length co11,.slice Ao13 t511.length co13] 30 (0,0)) (qk BK514) hb)
           have n4_:=aM (blk_below (g:=gb524) (o:=.cells #[.slice Ao11 t508.length co11,.slice (some ⟨go29,0,none⟩) y521.length co50] 30 (0,0)) (qk BK524) hb)
           have n5_:=aM (below_step Q15 hb)
           have n6_:=aM (hbox)
           have n7_:=aM ((Q130 : w.heap.size ≤ gb535))
           have n8_:=aM ((Q130 : w.heap.size ≤ gb535))
           have n9_:=aM ((Q55 : gb514 ≠ gb535))
           have n10_:=aM ((Q56 : gb535 ≠ gb514))
           have n11_:=aM ((Q49 : gb524 ≠ gb535))
           have n12_:=aM ((Q50 : gb535 ≠ gb524))
           clear HO_515000
           clear HO_515001
           clear HO523
           clear BK514
           clear BK524
           clear HB
           have HO_515000:=n0_
           have HO_515001:=n1_
           have HO523:=n2_
           have BK514:=n3_
           have BK524:=n4_
           have HB:=n5_
           have BK535:=n6_
           have GW535:=n7_
           have GE535:=n8_
           have NB514_535:=n9_
           have NB535_514:=n10_
           have NB524_535:=n11_
           have NB535_524:=n12_
           clear n0_ n1_ n2_ n3_ n4_ n5_ n6_ n7_ n8_ n9_ n10_ n11_ n12_
           clear hb hbox hg
           refine hK.out _ _ ⟨(blk_cell BK514.out 0).trans rfl,(blk_cell BK514.out 1).trans rfl⟩ (fun hHeld => ?_)
           clear hK K
           refine norm_ (a':=?_) ?_ ?_
           rotate_left
           ·show Act.put _ (some 9) _ = _
            simp only [Act.put,sI,sZ,sS,i64_w,i32_w]
            rfl
           refine one_ (i:=2) (N:=some 52) #[bT,bT,bT,bT,bT,bF,bF,bT,bF] rfl rfl (one_of HT_.out Q14) Q36 (fun K hK => ?_)
           refine Kd.N_lit_step (Kd.slice 3 (Kd.int .i64)) _ 36 ?hg (N':=52) ?hd (xs:=([] : List (List Int))) (inner:=[]) (ok:=(fun k_ => some k_ ≠ (.slice Ao11 t508.length co11 : Value).ownBlock ∧ some k_ ≠ (.slice Ao13 t511.length co13 : Value).ownBlock ∧ some k_ ≠ (.slice (some ⟨go29,0,none⟩) y521.length co50 : Value).ownBlock ∧ k_ ≠ gb514 ∧ k_ ≠ gb524 ∧ k_ ≠ gb535)) (okp:=(fun k_ => some k_ ≠ (.slice Ao11 t508.length co11 : Value).ownBlock ∧ some k_ ≠ (.slice Ao13 t511.length co13 : Value).ownBlock ∧ some k_ ≠ (.slice (some ⟨go29,0,none⟩) y521.length co50 : Value).ownBlock ∧ k_ ≠ gb514 ∧ k_ ≠ gb524 ∧ k_ ≠ gb535)) ?hr ?hp (fun _ hk => hk) ((show ∀ k_,w60.heap.size ≤ k_ → (fun k_ => some k_ ≠ (.slice Ao11 t508.length co11 : Value).ownBlock ∧ some k_ ≠ (.slice Ao13 t511.length co13 : Value).ownBlock ∧ some k_ ≠ (.slice (some ⟨go29,0,none⟩) y521.length co50 : Value).ownBlock ∧ k_ ≠ gb514 ∧ k_ ≠ gb524 ∧ k_ ≠ gb535) k_ from fun k_ hk => ⟨Kd.fresh' (Kd.R_lt (qR HO_515000)) k_ hk,Kd.fresh' (Kd.N_lt (qN HO_515001)) k_ hk,Kd.fresh' (Kd.N_lt (qN HO523)) k_ hk,Kd.freshB (g:=gb514) (o:=.cells #[.slice Ao11 t508.length co11,.slice Ao13 t511.length co13] 30 (0,0)) (qk BK514) k_ hk,Kd.freshB (g:=gb524) (o:=.cells #[.slice Ao11 t508.length co11,.slice (some ⟨go29,0,none⟩) y521.length co50] 30 (0,0)) (qk BK524) k_ hk,Kd.freshB (g:=gb535) (o:=.cells #[.slice none 0 0,.slice none 0 0] 30 (0,0)) (qk BK535) k_ hk⟩) _ (Nat.le_refl _)) (Below.refl _ _) (Nat.le_refl _) Q51 ?_;(case hd => rfl);(case hg => rfl);(case hr => exact Q16);(case hp => exact (Reps.none _ _))
           intro v530 w61 ho62 hb hg_ hnew_
           clear hg_ hnew_
           (first|rw [← Ny529.out] at ho62|(simp only [Int.reduceToNat] at ho62;rw [← Ny529.out] at ho62))
           have n0_:=aM (Kd.R_below (qR HO_515000) hb)
           have n1_:=aM (Kd.N_elder' (qN HO_515001) (Kd.N_base ho62) hb)
           have n2_:=aM (Kd.N_elder' (qN HO523) (Kd.N_base ho62) hb)
           have n3_:=aM (Kd.N_lower ho62 (below_size Q10))
           have n4_:=aM (blk_below (g:=gb514) (o:=.cells #[.slice Ao11 t508.length co11,.slice Ao13 t511.length co13] 30 (0,0)) (qk BK514) hb)
           have n5_:=aM (blk_below (g:=gb524) (o:=.cells #[.slice Ao11 t508.length co11,.slice (some ⟨go29,0,none⟩) y521.length co50] 30 (0,0)) (qk BK524) hb)
           have n6_:=aM (blk_below (g:=gb535) (o:=.cells #[.slice none 0 0,.slice none 0 0] 30 (0,0)) (qk BK535) hb)
           have n7_:=aM (below_step Q10 hb)
           clear HO_515000
           clear HO_515001
           clear HO523
           clear BK514
           clear BK524
           clear BK535
           clear HB
           have HO_515000:=n0_
           have HO_515001:=n1_
           have HO523:=n2_
           have HO531:=n3_
           have BK514:=n4_
           have BK524:=n5_
           have BK535:=n6_
           have HB:=n7_
           clear n0_ n1_ n2_ n3_ n4_ n5_ n6_ n7_
           clear hb ho62
           refine hK.out _ _ ⟨(blk_cell BK514.out 0).trans rfl,(blk_cell BK514.out 1).trans rfl⟩ (fun hHeld => ?_)
           clear hK K
           refine norm_ (a':=?_) ?_ ?_
           rotate_left
           ·show Act.put _ (some 52) _ = _
            simp only [Act.put,sI,sZ,sS,i64_w,i32_w]
            rfl
           refine one_ (i:=5) (N:=some 55) #[bT,bT,bT,bT,bT,bT,bF,bT,bF] rfl rfl (one_of HT_.out Q14) Q36 (fun K hK => ?_)
           refine Kd.N_append_rows_step (Kd.slice 3 (Kd.int .i64)) (w0:=w) w.heap.size Q70 (.tmp 52) (.tmp 54) 23 36 (.slice none 0 0) 24 rfl Try.underlying23 info36 rfl Q36 Q17 v530 y529 t511 _ _ _ (fun k_ => some k_ ≠ (.slice Ao11 t508.length co11 : Value).ownBlock ∧ some k_ ≠ (.slice (some ⟨go29,0,none⟩) y521.length co50 : Value).ownBlock ∧ k_ ≠ gb514 ∧ k_ ≠ gb524 ∧ k_ ≠ gb535) (fun k_ => ((fun k_ => some k_ ≠ (.slice Ao11 t508.length co11 : Value).ownBlock ∧ some k_ ≠ (.slice (some ⟨go29,0,none⟩) y521.length co50 : Value).ownBlock ∧ k_ ≠ gb514 ∧ k_ ≠ gb524 ∧ k_ ≠ gb535)) k_ ∧ some k_ ≠ (v530 : Value).ownBlock) rfl rfl ?aO ?aR (fun _ hk => hk) ?aF ?aB ?aS ?aL ?_
           (case aR => exact (by skip;exact Kd.N_F (Kd.N_mono (ok':=(fun k_ => ((fun k_ => some k_ ≠ (.slice Ao11 t508.length co11 : Value).ownBlock ∧ some k_ ≠ (.slice (some ⟨go29,0,none⟩) y521.length co50 : Value).ownBlock ∧ k_ ≠ gb514 ∧ k_ ≠ gb524 ∧ k_ ≠ gb535)) k_ ∧ some k_ ≠ (v530 : Value).ownBlock)) (HO_515001.out) (fun k_ hk => ⟨⟨hk.1.1.1.1,⟨hk.1.1.2,⟨hk.1.1.1.2.2.1,⟨hk.1.1.1.2.2.2,hk.1.2⟩⟩⟩⟩,hk.2⟩))))
           (case aB => exact Q10)
           (case aF => exact (fun k_ hk => ⟨Kd.fresh' (Kd.R_lt (qR HO_515000)) k_ hk,Kd.fresh' (Kd.N_lt (qN HO523)) k_ hk,Kd.freshB (g:=gb514) (o:=.cells #[.slice Ao11 t508.length co11,.slice Ao13 t511.length co13] 30 (0,0)) (qk BK514) k_ hk,Kd.freshB (g:=gb524) (o:=.cells #[.slice Ao11 t508.length co11,.slice (some ⟨go29,0,none⟩) y521.length co50] 30 (0,0)) (qk BK524) k_ hk,Kd.freshB (g:=gb535) (o:=.cells #[.slice none 0 0,.slice none 0 0] 30 (0,0)) (qk BK535) k_ hk⟩))
           (case aO => exact (by (with_reducible repeat (first|apply Kd.N_alloc|apply Kd.N_drewN|apply Kd.N_drew));exact Kd.N_mono HO531.out (fun _ hk => ⟨hk.1,⟨hk.2.2.1,⟨hk.2.2.2.1,⟨hk.2.2.2.2.1,hk.2.2.2.2.2⟩⟩⟩⟩)))
           (case aS => exact (below_size Q10))
           (case aL => have:=LMc30.out;omega)
           intro v533 w63 ho hb hg hat
           have hHN12_:=True.intro
           rw [← Ny532.out] at ho
           have n0_:=aM (Kd.R_over' (qR HO_515000) (Kd.N_typed (qN HO531)) Q36 hg)
           have n1_:=aM (Kd.N_afterv (ok:=(fun k_ => some k_ ≠ (.slice Ao11 t508.length co11 : Value).ownBlock ∧ some k_ ≠ (.slice (some ⟨go29,0,none⟩) y521.length co50 : Value).ownBlock ∧ k_ ≠ gb514 ∧ k_ ≠ gb524 ∧ k_ ≠ gb535)) (by (with_reducible repeat (first|apply Kd.N_alloc|apply Kd.N_drewN|apply Kd.N_drew));exact Kd.N_mono HO_515001.out (fun _ hk => ⟨⟨hk.1.1.1.1,⟨hk.1.1.2,⟨hk.1.1.1.2.2.1,⟨hk.1.1.1.2.2.2,hk.1.2⟩⟩⟩⟩,hk.2⟩)) hg hat)
           have n2_:=aM (blk_grown (g:=gb514) (o:=.cells #[.slice Ao11 t508.length co11,.slice Ao13 t511.length co13] 30 (0,0)) (qk BK514) hg (Kd.N_ne HO531.out BK514.out Q36))
           have n3_:=aM (Kd.N_afterv (ok:=(fun k_ => some k_ ≠ (.slice Ao11 t508.length co11 : Value).ownBlock ∧ k_ ≠ gb514 ∧ k_ ≠ gb524 ∧ k_ ≠ gb535)) (by (with_reducible repeat (first|apply Kd.N_alloc|apply Kd.N_drewN|apply Kd.N_drew));exact Kd.N_mono HO523.out (fun _ hk => ⟨⟨hk.1.1.1,⟨hk.1.1.2.1,⟨hk.1.1.2.2,hk.1.2⟩⟩⟩,hk.2⟩)) hg hat)
           have n4_:=aM (blk_grown (g:=gb524) (o:=.cells #[.slice Ao11 t508.length co11,.slice (some ⟨go29,0,none⟩) y521.length co50] 30 (0,0)) (qk BK524) hg (Kd.N_ne HO531.out BK524.out Q36))
           have n5_:=aM (blk_grown (g:=gb535) (o:=.cells #[.slice none 0 0,.slice none 0 0] 30 (0,0)) (qk BK535) hg (Kd.N_ne HO531.out BK535.out Q36))
           have n6_:=aM (hb)
           have n7_:=aM (ho)
           clear HO_515000
           clear HO_515001
           clear BK514
           clear HO523
           clear BK524
           clear BK535
           clear HB
           clear HO531
           have HO_515000:=n0_
           have HO_515001:=n1_
           have BK514:=n2_
           have HO523:=n3_
           have BK524:=n4_
           have BK535:=n5_
           have HB:=n6_
           have HO534:=n7_
           clear n0_ n1_ n2_ n3_ n4_ n5_ n6_ n7_
           clear ho hb hg hat
           obtain ⟨Ao64,co64,eo64⟩:=Kd.N_slice HO534.out
           (first|subst eo64|(injection eo64 with f1_ f2_ f3_;have f4_:=f1_.symm;have f5_:=f3_.symm;clear f1_ f2_ f3_;subst f4_;subst f5_))
           refine hK.out _ _ ⟨(blk_cell BK514.out 0).trans rfl,(blk_cell BK514.out 1).trans rfl⟩ (fun hHeld => ?_)
           clear hK K
           refine norm_ (a':=?_) ?_ ?_
           rotate_left
           ·show Act.put _ (some 55) _ = _
            simp only [Act.put,sI,sZ,sS,i64_w,i32_w]
            rfl
           refine pS HT_ 6 56 ?_
           exact norm_ Q98 (hCont (v530,.slice Ao64 y532.length co64,gb535) _ ⟨hHeld,Q114,Q113,(qR HO_515000),Q110,(qk BK514),(qk BK524),(qk BK535),GW535.out,GE535.out,NB514_535.out,NB535_514.out,NB524_535.out,NB535_524.out,Q10⟩)
         rintro ⟨v530,v533,gb535⟩ w65 ⟨hS_,h0_,h1_,h2_,h3_,h4_,h5_,h6_,h7_,h8_,h9_,h10_,h11_,h12_,h13_⟩
         have n0_ : Aside0 (Kd.N (Kd.slice 3 (Kd.int .i64)) 36 w65 w.heap.size (fun k_ => some k_ ≠ (v533 : Value).ownBlock ∧ some k_ ≠ (.slice Ao11 t508.length co11 : Value).ownBlock ∧ k_ ≠ gb514 ∧ k_ ≠ gb524 ∧ k_ ≠ gb535) (.slice (some ⟨go29,0,none⟩) y521.length co50) y528):=⟨h0_⟩
         have n1_ : Aside0 (Kd.N (Kd.slice 3 (Kd.int .i64)) 36 w65 w.heap.size (fun k_ => some k_ ≠ (.slice (some ⟨go29,0,none⟩) y521.length co50 : Value).ownBlock ∧ some k_ ≠ (.slice Ao11 t508.length co11 : Value).ownBlock ∧ k_ ≠ gb514 ∧ k_ ≠ gb524 ∧ k_ ≠ gb535) v533 y532):=⟨h1_⟩
         have n2_ : Aside0 (Kd.R k40 40 w65 w.heap.size (fun _ => True) (.slice Ao11 t508.length co11) t508):=⟨h2_⟩
         have n3_ : Aside0 (Kd.N (Kd.slice 3 (Kd.int .i64)) 36 w65 w.heap.size (fun k_ => some k_ ≠ (.slice (some ⟨go29,0,none⟩) y521.length co50 : Value).ownBlock ∧ some k_ ≠ (v533 : Value).ownBlock ∧ some k_ ≠ (.slice Ao11 t508.length co11 : Value).ownBlock ∧ k_ ≠ gb514 ∧ k_ ≠ gb524 ∧ k_ ≠ gb535) (.slice Ao13 t511.length co13) t511):=⟨h3_⟩
         have n4_ : Aside0 (w65.heap[gb514]? = some (.cells #[.slice Ao11 t508.length co11,.slice Ao13 t511.length co13] 30 (0,0))):=⟨h4_⟩
         have n5_ : Aside0 (w65.heap[gb524]? = some (.cells #[.slice Ao11 t508.length co11,.slice (some ⟨go29,0,none⟩) y521.length co50] 30 (0,0))):=⟨h5_⟩
         have n6_ : Aside0 (w65.heap[gb535]? = some (.cells #[.slice none 0 0,.slice none 0 0] 30 (0,0))):=⟨h6_⟩
         have n7_ : Aside0 (w.heap.size ≤ gb535):=⟨h7_⟩
         have n8_ : Aside0 (w.heap.size ≤ gb535):=⟨h8_⟩
         have n9_ : Aside0 (gb514 ≠ gb535):=⟨h9_⟩
         have n10_ : Aside0 (gb535 ≠ gb514):=⟨h10_⟩
         have n11_ : Aside0 (gb524 ≠ gb535):=⟨h11_⟩
         have n12_ : Aside0 (gb535 ≠ gb524):=⟨h12_⟩
         have n13_ : Aside0 (Below w.heap.size w w65):=⟨h13_⟩
         clear HO_515000
         clear HO_515001
         clear HO523
         clear BK514
         clear BK524
         clear HB
         clear h0_ h1_ h2_ h3_ h4_ h5_ h6_ h7_ h8_ h9_ h10_ h11_ h12_ h13_
         have HO523:=n0_
         have HO534:=n1_
         have HO_515000:=n2_
         have HO_515001:=n3_
         have BK514:=n4_
         have BK524:=n5_
         have BK535:=n6_
         have GW535:=n7_
         have GE535:=n8_
         have NB514_535:=n9_
         have NB535_514:=n10_
         have NB524_535:=n11_
         have NB535_524:=n12_
         have HB:=n13_
         clear n0_ n1_ n2_ n3_ n4_ n5_ n6_ n7_ n8_ n9_ n10_ n11_ n12_ n13_
         have hHeld : w65.cell? ⟨gb514,0,none⟩ = some (.slice Ao11 t508.length co11) ∧ w65.cell? ⟨gb514,1,none⟩ = some (.slice Ao13 t511.length co13):=hS_
         obtain ⟨Ao66,co66,eo66⟩:=Kd.N_slice HO534.out
         (first|subst eo66|(injection eo66 with f1_ f2_ f3_;have f4_:=f1_.symm;have f5_:=f3_.symm;clear f1_ f2_ f3_;subst f4_;subst f5_))
         refine norm_ (a':=?_) ?_ ?_
         rotate_left
         ·simp only [putAll,Act.put,sI,sZ,sS]
          rfl
         refine one_ (i:=8) (N:=none) #[bT,bT,bT,bT,bT,bT,bT,bT,bT] rfl rfl (one_of HT_.out Q14) Q36 (fun K hK => ?_)
         have hs67 : w65.cell? ⟨gb535,0,none⟩ = some (.slice none 0 0):=(blk_cell BK535.out 0).trans rfl
         have hfs67:=blk_frozen BK535.out 0
         have hns67_0:=NB514_535.out
         have hns67_1:=NB524_535.out
         have hms67_0:=NB535_514.out
         have hms67_1:=NB535_524.out
         have hs68 : w65.cell? ⟨gb535,1,none⟩ = some (.slice none 0 0):=(blk_cell BK535.out 1).trans rfl
         have hfs68:=blk_frozen BK535.out 1
         have hns68_0:=NB514_535.out
         have hns68_1:=NB524_535.out
         have hms68_0:=NB535_514.out
         have hms68_1:=NB535_524.out
         refine skip_ (w1:=?_) Q70 rfl ?_ ?_
         rotate_left
         ·go_simp
          rfl
         refine hK.out _ _ ⟨((cell_far (p:=⟨gb535,_,none⟩) NB514_535.out _).trans (((cell_far (p:=⟨gb535,_,none⟩) NB514_535.out _).trans (hHeld.1)))),((cell_far (p:=⟨gb535,_,none⟩) NB514_535.out _).trans (((cell_far (p:=⟨gb535,_,none⟩) NB514_535.out _).trans (hHeld.2))))⟩ (fun hHeld => ?_)
         clear hK K
         refine done_ (done_of HT_.out Q14) ?_
         try go_wp2
         have n0_ : Aside0 (Kd.R k40 40 ((w65.setCell ⟨gb535,0,none⟩ (.slice Ao11 t508.length co11)).setCell ⟨gb535,1,none⟩ (.slice Ao66 y532.length co66)) w.heap.size (fun _ => True) (.slice Ao11 t508.length co11) t508):=⟨by (with_reducible repeat (first|apply Kd.R_alloc|apply Kd.R_drewN|apply Kd.R_drew));exact Kd.R_mono (Kd.R_far (p:=⟨gb535,1,none⟩) (Kd.R_far (p:=⟨gb535,0,none⟩) (Kd.R_types HO_515000.out BK535.out Q36) (fun _ hk => hk.2) (.slice Ao11 t508.length co11)) (fun _ hk => hk.2) (.slice Ao66 y532.length co66)) (fun _ hk => trivial)⟩
         have n1_ : Aside0 (Kd.N (Kd.slice 3 (Kd.int .i64)) 36 ((w65.setCell ⟨gb535,0,none⟩ (.slice Ao11 t508.length co11)).setCell ⟨gb535,1,none⟩ (.slice Ao66 y532.length co66)) w.heap.size (fun k_ => some k_ ≠ (.slice Ao11 t508.length co11 : Value).ownBlock ∧ some k_ ≠ (.slice (some ⟨go29,0,none⟩) y521.length co50 : Value).ownBlock ∧ some k_ ≠ (.slice Ao66 y532.length co66 : Value).ownBlock ∧ k_ ≠ gb514 ∧ k_ ≠ gb524 ∧ k_ ≠ gb535) (.slice Ao13 t511.length co13) t511):=⟨by (with_reducible repeat (first|apply Kd.N_alloc|apply Kd.N_drewN|apply Kd.N_drew));exact Kd.N_mono (Kd.N_far (p:=⟨gb535,1,none⟩) (Kd.N_far (p:=⟨gb535,0,none⟩) (Kd.N_mono HO_515001.out (fun k_ hk => (⟨hk,hk.2.2.2.2.2⟩ : _ ∧ k_ ≠ gb535))) (fun _ hk => hk.2) (.slice Ao11 t508.length co11)) (fun _ hk => hk.2) (.slice Ao66 y532.length co66)) (fun _ hk => ⟨hk.1.2.2.1,⟨hk.1.1,⟨hk.1.2.1,⟨hk.1.2.2.2.1,⟨hk.1.2.2.2.2.1,hk.1.2.2.2.2.2⟩⟩⟩⟩⟩)⟩
         have n2_ : Aside0 (Kd.N (Kd.slice 3 (Kd.int .i64)) 36 ((w65.setCell ⟨gb535,0,none⟩ (.slice Ao11 t508.length co11)).setCell ⟨gb535,1,none⟩ (.slice Ao66 y532.length co66)) w.heap.size (fun k_ => some k_ ≠ (.slice Ao11 t508.length co11 : Value).ownBlock ∧ some k_ ≠ (.slice Ao66 y532.length co66 : Value).ownBlock ∧ k_ ≠ gb514 ∧ k_ ≠ gb524 ∧ k_ ≠ gb535) (.slice (some ⟨go29,0,none⟩) y521.length co50) y528):=⟨by (with_reducible repeat (first|apply Kd.N_alloc|apply Kd.N_drewN|apply Kd.N_drew));exact Kd.N_mono (Kd.N_far (p:=⟨gb535,1,none⟩) (Kd.N_far (p:=⟨gb535,0,none⟩) (Kd.N_mono HO523.out (fun k_ hk => (⟨hk,hk.2.2.2.2⟩ : _ ∧ k_ ≠ gb535))) (fun _ hk => hk.2) (.slice Ao11 t508.length co11)) (fun _ hk => hk.2) (.slice Ao66 y532.length co66)) (fun _ hk => ⟨hk.1.2.1,⟨hk.1.1,⟨hk.1.2.2.1,⟨hk.1.2.2.2.1,hk.1.2.2.2.2⟩⟩⟩⟩)⟩
         have n3_ : Aside0 (Kd.N (Kd.slice 3 (Kd.int .i64)) 36 ((w65.setCell ⟨gb535,0,none⟩ (.slice Ao11 t508.length co11)).setCell ⟨gb535,1,none⟩ (.slice Ao66 y532.length co66)) w.heap.size (fun k_ => some k_ ≠ (.slice Ao11 t508.length co11 : Value).ownBlock ∧ some k_ ≠ (.slice (some ⟨go29,0,none⟩) y521.length co50 : Value).ownBlock ∧ k_ ≠ gb514 ∧ k_ ≠ gb524 ∧ k_ ≠ gb535) (.slice Ao66 y532.length co66) y532):=⟨by (with_reducible repeat (first|apply Kd.N_alloc|apply Kd.N_drewN|apply Kd.N_drew));exact Kd.N_mono (Kd.N_far (p:=⟨gb535,1,none⟩) (Kd.N_far (p:=⟨gb535,0,none⟩) (Kd.N_mono HO534.out (fun k_ hk => (⟨hk,hk.2.2.2.2⟩ : _ ∧ k_ ≠ gb535))) (fun _ hk => hk.2) (.slice Ao11 t508.length co11)) (fun _ hk => hk.2) (.slice Ao66 y532.length co66)) (fun _ hk => ⟨hk.1.2.1,⟨hk.1.1,⟨hk.1.2.2.1,⟨hk.1.2.2.2.1,hk.1.2.2.2.2⟩⟩⟩⟩)⟩
         have n4_ : Aside0 (((w65.setCell ⟨gb535,0,none⟩ (.slice Ao11 t508.length co11)).setCell ⟨gb535,1,none⟩ (.slice Ao66 y532.length co66)).heap[gb514]? = some (.cells #[.slice Ao11 t508.length co11,.slice Ao13 t511.length co13] 30 (0,0))):=⟨by (with_reducible repeat (first|refine blk_drewN ?_ _|refine blk_drew ?_|refine blk_alloc ?_ _));refine blk_far ?_ NB514_535.out _;(with_reducible repeat (first|refine blk_drewN ?_ _|refine blk_drew ?_|refine blk_alloc ?_ _));refine blk_far ?_ NB514_535.out _;(with_reducible repeat (first|refine blk_drewN ?_ _|refine blk_drew ?_|refine blk_alloc ?_ _));exact BK514.out⟩
         have n5_ : Aside0 (((w65.setCell ⟨gb535,0,none⟩ (.slice Ao11 t508.length co11)).setCell ⟨gb535,1,none⟩ (.slice Ao66 y532.length co66)).heap[gb524]? = some (.cells #[.slice Ao11 t508.length co11,.slice (some ⟨go29,0,none⟩) y521.length co50] 30 (0,0))):=⟨by (with_reducible repeat (first|refine blk_drewN ?_ _|refine blk_drew ?_|refine blk_alloc ?_ _));refine blk_far ?_ NB524_535.out _;(with_reducible repeat (first|refine blk_drewN ?_ _|refine blk_drew ?_|refine blk_alloc ?_ _));refine blk_far ?_ NB524_535.out _;(with_reducible repeat (first|refine blk_drewN ?_ _|refine blk_drew ?_|refine blk_alloc ?_ _));exact BK524.out⟩
         have n6_ : Aside0 (((w65.setCell ⟨gb535,0,none⟩ (.slice Ao11 t508.length co11)).setCell ⟨gb535,1,none⟩ (.slice Ao66 y532.length co66)).heap[gb535]? = some (.cells #[.slice Ao11 t508.length co11,.slice Ao66 y532.length co66] 30 (0,0))):=⟨by (with_reducible repeat (first|refine blk_drewN ?_ _|refine blk_drew ?_|refine blk_alloc ?_ _));refine blk_put (cs:=#[.slice Ao11 t508.length co11,.slice none 0 0]) ?_ 1 _ rfl;(with_reducible repeat (first|refine blk_drewN ?_ _|refine blk_drew ?_|refine blk_alloc ?_ _));refine blk_put (cs:=#[.slice none 0 0,.slice none 0 0]) ?_ 0 _ rfl;(with_reducible repeat (first|refine blk_drewN ?_ _|refine blk_drew ?_|refine blk_alloc ?_ _));exact BK535.out⟩
         have n7_ : Aside0 (Below w.heap.size w ((w65.setCell ⟨gb535,0,none⟩ (.slice Ao11 t508.length co11)).setCell ⟨gb535,1,none⟩ (.slice Ao66 y532.length co66))):=⟨Q10⟩
         (try clear HO_515000)
         (try clear HO_515001)
         (try clear HO523)
         (try clear HO534)
         (try clear BK514)
         (try clear BK524)
         (try clear BK535)
         (try clear HB)
         generalize ((w65.setCell ⟨gb535,0,none⟩ (.slice Ao11 t508.length co11)).setCell ⟨gb535,1,none⟩ (.slice Ao66 y532.length co66)) = w69 at n0_ n1_ n2_ n3_ n4_ n5_ n6_ n7_ ⊢
         have HO_515000:=n0_
         have HO_515001:=n1_
         have HO523:=n2_
         have HO534:=n3_
         have BK514:=n4_
         have BK524:=n5_
         have BK535:=n6_
         have HB:=n7_
         clear n0_ n1_ n2_ n3_ n4_ n5_ n6_ n7_
         have n0_:=aM (Kd.R_drew HO_515000.out)
         have n1_:=aM (Kd.N_drew HO_515001.out)
         have n2_:=aM (Kd.N_drew HO523.out)
         have n3_:=aM (Kd.N_drew HO534.out)
         have n4_:=aM (blk_drew BK514.out)
         have n5_:=aM (blk_drew BK524.out)
         have n6_:=aM (blk_drew BK535.out)
         have n7_:=aM (bD HB.out)
         clear HO_515000
         clear HO_515001
         clear HO523
         clear HO534
         clear BK514
         clear BK524
         clear BK535
         clear HB
         have HO_515000:=n0_
         have HO_515001:=n1_
         have HO523:=n2_
         have HO534:=n3_
         have BK514:=n4_
         have BK524:=n5_
         have BK535:=n6_
         have HB:=n7_
         clear n0_ n1_ n2_ n3_ n4_ n5_ n6_ n7_
         have p536 : 0 ≤ ((ji26) : Int):=of_decide_eq_true Q5
         have q536 : (ji26) < (t511.length : Int):=of_decide_eq_true Q5
         obtain ⟨ad536,A536_0,c536_0,e536,hx536_0,hl536_0,hi536_0⟩:=at_L3 (Kd.N_reads' HO_515001.out).2.2 (ji26) p536 q536
         cases e536
         obtain ⟨ce536,hce536,hMe536,hcc536⟩:=Kd.N_get HO_515001.out [] (ji26) p536 (by first|exact q536|exact of_decide_eq_true Q5|(have e_:=(Kd.N_reads' HO_515001.out).1;omega))
         obtain ⟨ua536_0,uc536_0,rfl,ul536_0,ge536_0⟩:=Kd.FK_slice_open hMe536
         have hv536_0:=hcc536 0 _ rfl
         rw [Nat.add_zero,show ((Kd.slice 3 (Kd.int .i64))).sz = 1 from rfl,Nat.mul_one] at hv536_0
         replace hv536_0:=Option.some.inj (hv536_0.symm.trans hx536_0)
         injection hv536_0 with hva_ hvn_ hvc_
         rw [hva_] at ge536_0
         rw [hvc_] at ul536_0
         have HL536_0:=aM (show Kd.V (Kd.int .i64) 3 _ w.heap.size _ _ (rd_L3 t511 (ji26)) from Kd.V_mk ul536_0 ge536_0)
         clear hva_ hvn_ hvc_ ge536_0 ul536_0
         clear hcc536 hce536
         have HR536_0:=aM hi536_0
         have HC536_0:=aM hl536_0
         clear hi536_0 hl536_0
         replace p536:=eq_true p536
         replace q536:=eq_true q536
         have q71 : (2 : Int) ≤ (((rd_L3 t511 (ji26)).length : Int) : Int):=of_decide_eq_true Q5
         obtain ⟨i071,hi071,_,hsz71,_⟩:=info_parts info3
         have hroom71 : (rd_L3 t511 (ji26)).length ≤ c536_0:=HC536_0.out
         have hC71 : Kd.F (Kd.int .i64) _ _ A536_0 (rd_L3 t511 (ji26)).length (rd_L3 t511 (ji26)):=(Kd.V_at (base:=w.heap.size) HL536_0.out).2.2
         have hcut71:=cut_to (P:=Try.prog) 36 3 .i64 Try.underlying36 hi071 A536_0 (rd_L3 t511 (ji26)).length c536_0 2 Q17 q71 hroom71
         have hr71:=Kd.F_take (m:=2) hC71 Q17
         have hy71 : y537.length = (2 : Int).toNat:=(by rw [Ny537.out,List.length_take];omega)
         rw [← Ny537.out] at hr71
         rw [← hy71] at hcut71
         have HO541:=aM (show Kd.V (Kd.int .i64) 3 _ w.heap.size _ (.slice A536_0 y537.length c536_0) y537 from Kd.V_mk Q17 hr71)
         have HC541:=aM (show y537.length ≤ c536_0 from Q17)
         clear hr71 hC71 hroom71 hi071 hsz71
         have KY71:=aM hy71
         clear hy71
         replace q71:=eq_true q71
         have p34 : 0 ≤ ((ji26) : Int):=of_decide_eq_true Q5
         have q34 : ((ji26) : Int) < ((y532.length : Int) : Int):=of_decide_eq_true Q5
         obtain ⟨go34,co34,eo34,gb34,gl34,cl34,HG34⟩:=Kd.N_form HO534.out Q17
         (first|cases eo34|(injection eo34 with ea_ en_ ec_;(first|subst ea_|(injection ea_ with ea_;subst ea_));subst ec_;clear en_))
         have GB34:=aM gb34
         have GG34:=aM HG34
         clear gb34 gl34 HG34
         obtain ⟨ce34,hcl34,hM34,hcc34,hfr34⟩:=Kd.N_elem HO534.out [] ((ji26) : Int) p34 q34
         obtain ⟨ua34_0,uc34_0,rfl,ul34_0,ge34_0⟩:=Kd.FK_slice_open hM34
         have hx34_0:=hcc34 0 _ rfl
         have hf34_0:=hfr34 0
         (try simp only [show ((Kd.slice 3 (Kd.int .i64))).sz = 1 from rfl,Nat.mul_one,Nat.add_zero] at hx34_0)
         (try simp only [show ((Kd.slice 3 (Kd.int .i64))).sz = 1 from rfl,Nat.mul_one,Nat.add_zero] at hf34_0)
         clear hcl34 hcc34 hfr34 hM34
         replace p34:=eq_true p34
         replace q34:=eq_true q34
         have HX72:=aM (show Kd.N (Kd.slice 3 (Kd.int .i64)) 36 _ w.heap.size (fun k_ => some k_ ≠ (.slice Ao11 t508.length co11 : Value).ownBlock ∧ some k_ ≠ (.slice (some ⟨go29,0,none⟩) y521.length co50 : Value).ownBlock ∧ k_ ≠ gb514 ∧ k_ ≠ gb524 ∧ k_ ≠ gb535) (.slice (some ⟨go34,0,none⟩) y532.length co66) y532 from (Kd.N_mono (HO534.out) (fun k_ hk => ⟨hk.1,⟨hk.2.1,⟨hk.2.2.1,⟨hk.2.2.2.1,hk.2.2.2.2⟩⟩⟩⟩)))
         obtain ⟨ce72,hcl72,hM72,hcc72,hfr72⟩:=Kd.N_elem HX72.out [] ((ji26) : Int) (of_decide_eq_true Q5) Q135
         obtain ⟨ua72_0,uc72_0,rfl,ul72_0,ge72_0⟩:=Kd.FK_slice_open hM72
         have HP72:=(Kd.N_seg HX72.out ((ji26) : Int) (of_decide_eq_true Q5) Q135 (seg:=[.slice A536_0 y537.length c536_0]) (j:=0) hcl72 hcc72 (show 1 ≤ 1 from Q36) (x':=y537) (Kd.FK_slice_mk (Kd.V_reads' (Kd.V_mono (ok':=(fun k_ => ((fun k_ => some k_ ≠ (.slice Ao11 t508.length co11 : Value).ownBlock ∧ some k_ ≠ (.slice (some ⟨go29,0,none⟩) y521.length co50 : Value).ownBlock ∧ k_ ≠ gb514 ∧ k_ ≠ gb524 ∧ k_ ≠ gb535)) k_ ∧ k_ ≠ go34)) (HO541.out) (fun k_ hk => ⟨⟨hk.1.1,⟨hk.1.2.1,⟨hk.1.2.2.2.1,⟨hk.1.2.2.2.2.1,hk.1.2.2.2.2.2⟩⟩⟩⟩,fun e_ => (hk.1.2.2.1) Q118⟩))).2.1 (Kd.V_F (Kd.V_mono (ok':=(fun k_ => ((fun k_ => some k_ ≠ (.slice Ao11 t508.length co11 : Value).ownBlock ∧ some k_ ≠ (.slice (some ⟨go29,0,none⟩) y521.length co50 : Value).ownBlock ∧ k_ ≠ gb514 ∧ k_ ≠ gb524 ∧ k_ ≠ gb535)) k_ ∧ k_ ≠ go34)) (HO541.out) (fun k_ hk => ⟨⟨hk.1.1,⟨hk.1.2.1,⟨hk.1.2.2.2.1,⟨hk.1.2.2.2.2.1,hk.1.2.2.2.2.2⟩⟩⟩⟩,fun e_ => (hk.1.2.2.1) Q118⟩)))) (fun _ hk => hk)).1
         (try simp only [show ((Kd.slice 3 (Kd.int .i64))).sz = 1 from rfl,Nat.mul_one,Nat.add_zero] at HP72)
         rw [← Ny542.out] at HP72
         have HQ72:=aM HP72
         clear hcl72 hcc72 hfr72 hM72 HP72
         refine start_ (n:=11) (S:=fun w' => w'.cell? ⟨gb535,0,none⟩ = some (.slice Ao11 t508.length co11) ∧ w'.cell? ⟨gb535,1,none⟩ = some (.slice (some ⟨go34,0,none⟩) y532.length co66) ∧ w'.cell? ⟨gb514,0,none⟩ = some (.slice Ao11 t508.length co11) ∧ w'.cell? ⟨gb514,1,none⟩ = some (.slice (some ad536) t511.length co13) ∧ w'.cell? (ad536.add ((ji26)).toNat) = some (.slice A536_0 (rd_L3 t511 (ji26)).length c536_0)) (ds:=[10]) #[bF,bF,bF,bF,bF,bF,bF,bF,bF,bF,bF] Q14 rfl rfl ⟨(blk_cell BK535.out 0).trans rfl,(blk_cell BK535.out 1).trans rfl,(blk_cell BK514.out 0).trans rfl,(blk_cell BK514.out 1).trans rfl,hx536_0⟩ (fun hHeld => ?_);refine with_tabW laws_FnCertMore.tab11 laws_FnCertMore.bits11 (fun HT_ HW_ => ?_)
         generalize w69.drew = w70 at HO_515000 HO_515001 HO523 HO534 BK514 BK524 BK535 HB GG34 HL536_0 HO541 HQ72 HR536_0 hf34_0 hx34_0 hx536_0 hHeld ⊢
         refine pS HT_ 0 57 ?_
         refine pS HT_ 2 59 ?_
         refine pS HT_ 3 60 ?_
         refine pS HT_ 5 62 ?_
         refine take_ (i:=1) (N:=some 58) (v:=?_) (a':=?_) #[bT,bT,bT,bT,bF,bT,bF,bF,bF,bF,bF] rfl rfl (take_ofW HT_.out HW_.out Q14) (fun _ _ _ h => h) (Or.inl ⟨Q70,?_⟩) hHeld ?_ ?_
         rotate_left
         ·rintro w' ⟨s0,s1,s2,s3,s4⟩
          (try simp only [Int.toNat_natCast] at s0 s1 s2 s3 s4)
          go_simp
          with_reducible rfl
         rotate_left
         ·simp only [Act.put,sI,sZ,sS,i64_w,i32_w]
          rfl
         refine take_ (i:=4) (N:=some 61) (v:=?_) (a':=?_) #[bT,bT,bT,bT,bT,bT,bF,bF,bF,bF,bF] rfl rfl (take_ofW HT_.out HW_.out Q14) (fun _ _ _ h => h) (Or.inl ⟨Q70,?_⟩) hHeld ?_ ?_
         rotate_left
         ·rintro w' ⟨s0,s1,s2,s3,s4⟩
          (try simp only [Int.toNat_natCast] at s0 s1 s2 s3 s4)
          go_simp
          with_reducible rfl
         rotate_left
         ·simp only [Act.put,sI,sZ,sS,i64_w,i32_w]
          rfl
         refine pS HT_ 6 63 ?_
         refine take_ (i:=7) (N:=some 64) (v:=?_) (a':=?_) #[bT,bT,bT,bT,bT,bT,bT,bT,bF,bF,bF] rfl rfl (take_ofW HT_.out HW_.out Q14) (fun _ _ _ h => h) (Or.inl ⟨Q70,?_⟩) hHeld ?_ ?_
         rotate_left
         ·rintro w' ⟨s0,s1,s2,s3,s4⟩
          (try simp only [Int.toNat_natCast] at s0 s1 s2 s3 s4)
          go_simp
          with_reducible rfl
         rotate_left
         ·simp only [Act.put,sI,sZ,sS,i64_w,i32_w]
          rfl
         refine pS HT_ 8 65 ?_
         refine pS HT_ 9 66 ?_
         refine last_ (i:=10) (N:=none) #[bT,bT,bT,bT,bT,bT,bT,bT,bT,bT,bT] rfl rfl (one_of HT_.out Q14) Q36 (fun K hK => ?_)
         refine skip_ (w1:=?_) Q70 rfl ?_ ?_
         rotate_left
         ·go_simp
          rfl
         refine hK.out _ _ ?_
         clear hK K
         refine done_ (done_of HT_.out Q14) ?_
         have n0_ : Aside0 (Kd.R k40 40 (w70.setCell ⟨go34,((ji26) : Int).toNat,none⟩ (.slice A536_0 y537.length c536_0)) w.heap.size (fun _ => True) (.slice Ao11 t508.length co11) t508):=⟨by (with_reducible repeat (first|apply Kd.R_alloc|apply Kd.R_drewN|apply Kd.R_drew));exact Kd.R_mono (Kd.R_far (p:=⟨go34,((ji26) : Int).toNat,none⟩) (Kd.R_types HO_515000.out GG34.out Q36) (fun _ hk => hk.2) (.slice A536_0 y537.length c536_0)) (fun _ hk => trivial)⟩
         have n1_ : Aside0 (Kd.N (Kd.slice 3 (Kd.int .i64)) 36 (w70.setCell ⟨go34,((ji26) : Int).toNat,none⟩ (.slice A536_0 y537.length c536_0)) w.heap.size (fun k_ => some k_ ≠ (.slice Ao11 t508.length co11 : Value).ownBlock ∧ some k_ ≠ (.slice (some ⟨go29,0,none⟩) y521.length co50 : Value).ownBlock ∧ some k_ ≠ (.slice (some ⟨go34,0,none⟩) y532.length co66 : Value).ownBlock ∧ k_ ≠ gb514 ∧ k_ ≠ gb524 ∧ k_ ≠ gb535) (.slice (some ad536) t511.length co13) t511):=⟨by (with_reducible repeat (first|apply Kd.N_alloc|apply Kd.N_drewN|apply Kd.N_drew));exact Kd.N_mono (Kd.N_far (p:=⟨go34,((ji26) : Int).toNat,none⟩) (Kd.N_mono HO_515001.out (fun k_ hk => (⟨hk,fun e_ => hk.2.2.1 Q118⟩ : _ ∧ k_ ≠ go34))) (fun _ hk => hk.2) (.slice A536_0 y537.length c536_0)) (fun _ hk => ⟨hk.1.1,⟨hk.1.2.1,⟨hk.1.2.2.1,⟨hk.1.2.2.2.1,⟨hk.1.2.2.2.2.1,hk.1.2.2.2.2.2⟩⟩⟩⟩⟩)⟩
         have n2_ : Aside0 (Kd.N (Kd.slice 3 (Kd.int .i64)) 36 (w70.setCell ⟨go34,((ji26) : Int).toNat,none⟩ (.slice A536_0 y537.length c536_0)) w.heap.size (fun k_ => some k_ ≠ (.slice Ao11 t508.length co11 : Value).ownBlock ∧ some k_ ≠ (.slice (some ⟨go34,0,none⟩) y532.length co66 : Value).ownBlock ∧ k_ ≠ gb514 ∧ k_ ≠ gb524 ∧ k_ ≠ gb535) (.slice (some ⟨go29,0,none⟩) y521.length co50) y528):=⟨by (with_reducible repeat (first|apply Kd.N_alloc|apply Kd.N_drewN|apply Kd.N_drew));exact Kd.N_mono (Kd.N_far (p:=⟨go34,((ji26) : Int).toNat,none⟩) (Kd.N_mono HO523.out (fun k_ hk => (⟨hk,fun e_ => hk.2.1 Q118⟩ : _ ∧ k_ ≠ go34))) (fun _ hk => hk.2) (.slice A536_0 y537.length c536_0)) (fun _ hk => ⟨hk.1.1,⟨hk.1.2.1,⟨hk.1.2.2.1,⟨hk.1.2.2.2.1,hk.1.2.2.2.2⟩⟩⟩⟩)⟩
         have n3_ : Aside0 (Kd.N (Kd.slice 3 (Kd.int .i64)) 36 (w70.setCell ⟨go34,((ji26) : Int).toNat,none⟩ (.slice A536_0 y537.length c536_0)) w.heap.size (fun k_ => some k_ ≠ (.slice Ao11 t508.length co11 : Value).ownBlock ∧ some k_ ≠ (.slice (some ⟨go29,0,none⟩) y521.length co50 : Value).ownBlock ∧ k_ ≠ gb514 ∧ k_ ≠ gb524 ∧ k_ ≠ gb535) (.slice (some ⟨go34,0,none⟩) y532.length co66) y542):=⟨qN HQ72⟩
         have n4_ : Aside0 (Kd.V (Kd.int .i64) 3 (w70.setCell ⟨go34,((ji26) : Int).toNat,none⟩ (.slice A536_0 y537.length c536_0)) w.heap.size (fun k_ => some k_ ≠ (.slice Ao11 t508.length co11 : Value).ownBlock ∧ some k_ ≠ (.slice (some ad536) t511.length co13 : Value).ownBlock ∧ some k_ ≠ (.slice (some ⟨go29,0,none⟩) y521.length co50 : Value).ownBlock ∧ some k_ ≠ (.slice (some ⟨go34,0,none⟩) y532.length co66 : Value).ownBlock ∧ k_ ≠ gb514 ∧ k_ ≠ gb524 ∧ k_ ≠ gb535) (.slice A536_0 (rd_L3 t511 (ji26)).length c536_0) (rd_L3 t511 (ji26))):=⟨by (with_reducible repeat (first|apply Kd.V_alloc|apply Kd.V_drewN|apply Kd.V_drew));exact Kd.V_mono (Kd.V_far (p:=⟨go34,((ji26) : Int).toNat,none⟩) (Kd.V_mono HL536_0.out (fun k_ hk => (⟨hk,fun e_ => hk.1.2.2.1 Q118⟩ : _ ∧ k_ ≠ go34))) (fun _ hk => hk.2) (.slice A536_0 y537.length c536_0)) (fun _ hk => ⟨hk.1.1.1,⟨hk.1.2,⟨hk.1.1.2.1,⟨hk.1.1.2.2.1,⟨hk.1.1.2.2.2.1,⟨hk.1.1.2.2.2.2.1,hk.1.1.2.2.2.2.2⟩⟩⟩⟩⟩⟩)⟩
         have n5_ : Aside0 (Kd.V (Kd.int .i64) 3 (w70.setCell ⟨go34,((ji26) : Int).toNat,none⟩ (.slice A536_0 y537.length c536_0)) w.heap.size (fun k_ => some k_ ≠ (.slice Ao11 t508.length co11 : Value).ownBlock ∧ some k_ ≠ (.slice (some ad536) t511.length co13 : Value).ownBlock ∧ some k_ ≠ (.slice (some ⟨go29,0,none⟩) y521.length co50 : Value).ownBlock ∧ some k_ ≠ (.slice (some ⟨go34,0,none⟩) y532.length co66 : Value).ownBlock ∧ k_ ≠ gb514 ∧ k_ ≠ gb524 ∧ k_ ≠ gb535) (.slice A536_0 y537.length c536_0) y537):=⟨by (with_reducible repeat (first|apply Kd.V_alloc|apply Kd.V_drewN|apply Kd.V_drew));exact Kd.V_mono (Kd.V_far (p:=⟨go34,((ji26) : Int).toNat,none⟩) (Kd.V_mono HO541.out (fun k_ hk => (⟨hk,fun e_ => hk.1.2.2.1 Q118⟩ : _ ∧ k_ ≠ go34))) (fun _ hk => hk.2) (.slice A536_0 y537.length c536_0)) (fun _ hk => ⟨hk.1.1.1,⟨hk.1.2,⟨hk.1.1.2.1,⟨hk.1.1.2.2.1,⟨hk.1.1.2.2.2.1,⟨hk.1.1.2.2.2.2.1,hk.1.1.2.2.2.2.2⟩⟩⟩⟩⟩⟩)⟩
         have n6_ : Aside0 ((w70.setCell ⟨go34,((ji26) : Int).toNat,none⟩ (.slice A536_0 y537.length c536_0)).heap[gb514]? = some (.cells #[.slice Ao11 t508.length co11,.slice (some ad536) t511.length co13] 30 (0,0))):=⟨by (with_reducible repeat (first|refine blk_drewN ?_ _|refine blk_drew ?_|refine blk_alloc ?_ _));refine blk_far ?_ (by have h_:=Kd.N_away HO534.out (fun _ hk => hk.2.2.1);intro e_;exact h_ Q118) _;(with_reducible repeat (first|refine blk_drewN ?_ _|refine blk_drew ?_|refine blk_alloc ?_ _));exact BK514.out⟩
         have n7_ : Aside0 ((w70.setCell ⟨go34,((ji26) : Int).toNat,none⟩ (.slice A536_0 y537.length c536_0)).heap[gb524]? = some (.cells #[.slice Ao11 t508.length co11,.slice (some ⟨go29,0,none⟩) y521.length co50] 30 (0,0))):=⟨by (with_reducible repeat (first|refine blk_drewN ?_ _|refine blk_drew ?_|refine blk_alloc ?_ _));refine blk_far ?_ (by have h_:=Kd.N_away HO534.out (fun _ hk => hk.2.2.2.1);intro e_;exact h_ Q118) _;(with_reducible repeat (first|refine blk_drewN ?_ _|refine blk_drew ?_|refine blk_alloc ?_ _));exact BK524.out⟩
         have n8_ : Aside0 ((w70.setCell ⟨go34,((ji26) : Int).toNat,none⟩ (.slice A536_0 y537.length c536_0)).heap[gb535]? = some (.cells #[.slice Ao11 t508.length co11,.slice (some ⟨go34,0,none⟩) y532.length co66] 30 (0,0))):=⟨by (with_reducible repeat (first|refine blk_drewN ?_ _|refine blk_drew ?_|refine blk_alloc ?_ _));refine blk_far ?_ (by have h_:=Kd.N_away HO534.out (fun _ hk => hk.2.2.2.2);intro e_;exact h_ Q118) _;(with_reducible repeat (first|refine blk_drewN ?_ _|refine blk_drew ?_|refine blk_alloc ?_ _));exact BK535.out⟩
         have n9_ : Aside0 (Below w.heap.size w (w70.setCell ⟨go34,((ji26) : Int).toNat,none⟩ (.slice A536_0 y537.length c536_0))):=⟨by repeat (first|(with_reducible first|exact HB.out|apply bA|apply bN|apply bD|refine below_set ?_ GB34.out|refine below_set ?_ GE514.out|refine below_set ?_ GE524.out|refine below_set ?_ GE535.out)|exact HB.out)⟩
         (try clear HO_515000)
         (try clear HO_515001)
         (try clear HO523)
         (try clear HO534)
         (try clear HL536_0)
         (try clear HO541)
         (try clear BK514)
         (try clear BK524)
         (try clear BK535)
         (try clear HB)
         generalize (w70.setCell ⟨go34,((ji26) : Int).toNat,none⟩ (.slice A536_0 y537.length c536_0)) = w73 at n0_ n1_ n2_ n3_ n4_ n5_ n6_ n7_ n8_ n9_ ⊢
         have HO_515000:=n0_
         have HO_515001:=n1_
         have HO523:=n2_
         have HO534:=n3_
         have HL536_0:=n4_
         have HO541:=n5_
         have BK514:=n6_
         have BK524:=n7_
         have BK535:=n8_
         have HB:=n9_
         clear n0_ n1_ n2_ n3_ n4_ n5_ n6_ n7_ n8_ n9_
         try go_wp2
         have n0_:=aM (Kd.R_drew HO_515000.out)
         have n1_:=aM (Kd.N_drew HO_515001.out)
         have n2_:=aM (Kd.N_drew HO523.out)
         have n3_:=aM (Kd.N_drew HO534.out)
         have n4_:=aM (Kd.V_drew HL536_0.out)
         have n5_:=aM (Kd.V_drew HO541.out)
         have n6_:=aM (blk_drew BK514.out)
         have n7_:=aM (blk_drew BK524.out)
         have n8_:=aM (blk_drew BK535.out)
         have n9_:=aM (bD HB.out)
         clear HO_515000
         clear HO_515001
         clear HO523
         clear HO534
         clear HL536_0
         clear HO541
         clear BK514
         clear BK524
         clear BK535
         clear HB
         have HO_515000:=n0_
         have HO_515001:=n1_
         have HO523:=n2_
         have HO534:=n3_
         have HL536_0:=n4_
         have HO541:=n5_
         have BK514:=n6_
         have BK524:=n7_
         have BK535:=n8_
         have HB:=n9_
         clear n0_ n1_ n2_ n3_ n4_ n5_ n6_ n7_ n8_ n9_
         refine start_ (n:=9) (S:=fun w' => w'.cell? ⟨gb514,0,none⟩ = some (.slice Ao11 t508.length co11) ∧ w'.cell? ⟨gb514,1,none⟩ = some (.slice (some ad536) t511.length co13)) (ds:=[]) #[bF,bF,bF,bF,bF,bF,bF,bF,bF] Q14 rfl rfl ⟨(blk_cell BK514.out 0).trans rfl,(blk_cell BK514.out 1).trans rfl⟩ (fun hHeld => ?_);refine with_tabW laws_FnCertMore.tab12 laws_FnCertMore.bits12 (fun HT_ HW_ => ?_)
         generalize w73.drew = w74 at HO_515000 HO_515001 HO523 HO534 HL536_0 HO541 BK514 BK524 BK535 HB hHeld ⊢
         refine pS HT_ 0 67 ?_
         refine pS HT_ 3 70 ?_
         refine take_ (i:=1) (N:=some 68) (v:=?_) (a':=?_) #[bT,bT,bF,bT,bF,bF,bF,bF,bF] rfl rfl (take_ofW HT_.out HW_.out Q14) (fun _ _ _ h => h) (Or.inl ⟨Q70,?_⟩) hHeld ?_ ?_
         rotate_left
         ·rintro w' ⟨s0,s1⟩
          (try simp only [Int.toNat_natCast] at s0 s1)
          go_simp
          with_reducible rfl
         rotate_left
         ·simp only [Act.put,sI,sZ,sS,i64_w,i32_w]
          rfl
         refine take_ (i:=4) (N:=some 71) (v:=?_) (a':=?_) #[bT,bT,bF,bT,bT,bF,bF,bF,bF] rfl rfl (take_ofW HT_.out HW_.out Q14) (fun _ _ _ h => h) (Or.inl ⟨Q70,?_⟩) hHeld ?_ ?_
         rotate_left
         ·rintro w' ⟨s0,s1⟩
          (try simp only [Int.toNat_natCast] at s0 s1)
          go_simp
          with_reducible rfl
         rotate_left
         ·simp only [Act.put,sI,sZ,sS,i64_w,i32_w]
          rfl
         refine join_ (σ:=Value × Value × Nat) 1 #[bT,bT,bT,bT,bT,bT,bT,bT,bF] (fun s_ => [(69,s_.1),(72,s_.2.1),(10,.pointer (some ⟨s_.2.2,0,none⟩)),(73,.agg #[.slice Ao11 t508.length co11,s_.2.1])]) (fun s_ w' => (w'.cell? ⟨gb514,0,none⟩ = some (.slice Ao11 t508.length co11) ∧ w'.cell? ⟨gb514,1,none⟩ = some (.slice (some ad536) t511.length co13)) ∧ (Kd.V (Kd.int .i64) 3 w' w.heap.size (fun k_ => some k_ ≠ (.slice (some ⟨go29,0,none⟩) y521.length co50 : Value).ownBlock ∧ some k_ ≠ (.slice (some ⟨go34,0,none⟩) y532.length co66 : Value).ownBlock ∧ some k_ ≠ (s_.2.1 : Value).ownBlock ∧ some k_ ≠ (.slice Ao11 t508.length co11 : Value).ownBlock ∧ some k_ ≠ (.slice (some ad536) t511.length co13 : Value).ownBlock ∧ k_ ≠ gb514 ∧ k_ ≠ gb524 ∧ k_ ≠ gb535 ∧ k_ ≠ s_.2.2) (.slice A536_0 (rd_L3 t511 (ji26)).length c536_0) (rd_L3 t511 (ji26))) ∧ (Kd.N (Kd.slice 3 (Kd.int .i64)) 36 w' w.heap.size (fun k_ => some k_ ≠ (.slice (some ⟨go34,0,none⟩) y532.length co66 : Value).ownBlock ∧ some k_ ≠ (s_.2.1 : Value).ownBlock ∧ some k_ ≠ (.slice Ao11 t508.length co11 : Value).ownBlock ∧ k_ ≠ gb514 ∧ k_ ≠ gb524 ∧ k_ ≠ gb535 ∧ k_ ≠ s_.2.2) (.slice (some ⟨go29,0,none⟩) y521.length co50) y528) ∧ (Kd.N (Kd.slice 3 (Kd.int .i64)) 36 w' w.heap.size (fun k_ => some k_ ≠ (.slice (some ⟨go29,0,none⟩) y521.length co50 : Value).ownBlock ∧ some k_ ≠ (s_.2.1 : Value).ownBlock ∧ some k_ ≠ (.slice Ao11 t508.length co11 : Value).ownBlock ∧ k_ ≠ gb514 ∧ k_ ≠ gb524 ∧ k_ ≠ gb535 ∧ k_ ≠ s_.2.2) (.slice (some ⟨go34,0,none⟩) y532.length co66) y542) ∧ (Kd.V (Kd.int .i64) 3 w' w.heap.size (fun k_ => some k_ ≠ (.slice (some ⟨go29,0,none⟩) y521.length co50 : Value).ownBlock ∧ some k_ ≠ (.slice (some ⟨go34,0,none⟩) y532.length co66 : Value).ownBlock ∧ some k_ ≠ (s_.2.1 : Value).ownBlock ∧ some k_ ≠ (.slice Ao11 t508.length co11 : Value).ownBlock ∧ some k_ ≠ (.slice (some ad536) t511.length co13 : Value).ownBlock ∧ k_ ≠ gb514 ∧ k_ ≠ gb524 ∧ k_ ≠ gb535 ∧ k_ ≠ s_.2.2) (.slice A536_0 y537.length c536_0) y537) ∧ (Kd.N (Kd.slice 3 (Kd.int .i64)) 36 w' w.heap.size (fun k_ => some k_ ≠ (.slice (some ⟨go29,0,none⟩) y521.length co50 : Value).ownBlock ∧ some k_ ≠ (.slice (some ⟨go34,0,none⟩) y532.length co66 : Value).ownBlock ∧ some k_ ≠ (.slice Ao11 t508.length co11 : Value).ownBlock ∧ k_ ≠ gb514 ∧ k_ ≠ gb524 ∧ k_ ≠ gb535 ∧ k_ ≠ s_.2.2) s_.2.1 y546) ∧ (Kd.R k40 40 w' w.heap.size (fun _ => True) (.slice Ao11 t508.length co11) t508) ∧ (Kd.N (Kd.slice 3 (Kd.int .i64)) 36 w' w.heap.size (fun k_ => some k_ ≠ (.slice (some ⟨go29,0,none⟩) y521.length co50 : Value).ownBlock ∧ some k_ ≠ (.slice (some ⟨go34,0,none⟩) y532.length co66 : Value).ownBlock ∧ some k_ ≠ (s_.2.1 : Value).ownBlock ∧ some k_ ≠ (.slice Ao11 t508.length co11 : Value).ownBlock ∧ k_ ≠ gb514 ∧ k_ ≠ gb524 ∧ k_ ≠ gb535 ∧ k_ ≠ s_.2.2) (.slice (some ad536) t511.length co13) t511) ∧ (w'.heap[gb514]? = some (.cells #[.slice Ao11 t508.length co11,.slice (some ad536) t511.length co13] 30 (0,0))) ∧ (w'.heap[gb524]? = some (.cells #[.slice Ao11 t508.length co11,.slice (some ⟨go29,0,none⟩) y521.length co50] 30 (0,0))) ∧ (w'.heap[gb535]? = some (.cells #[.slice Ao11 t508.length co11,.slice (some ⟨go34,0,none⟩) y532.length co66] 30 (0,0))) ∧ (w'.heap[s_.2.2]? = some (.cells #[.slice none 0 0,.slice none 0 0] 30 (0,0))) ∧ (w.heap.size ≤ s_.2.2) ∧ (w.heap.size ≤ s_.2.2) ∧ (gb514 ≠ s_.2.2) ∧ (s_.2.2 ≠ gb514) ∧ (gb524 ≠ s_.2.2) ∧ (s_.2.2 ≠ gb524) ∧ (gb535 ≠ s_.2.2) ∧ (s_.2.2 ≠ gb535) ∧ (Below w.heap.size w w')) ?_ ?_
         rotate_left
         ·intro hCont
          refine two_ (i:=2) (j:=7) (Ni:=some 69) (Nj:=some 10) #[bT,bT,bT,bT,bT,bF,bF,bF,bF] #[bT,bT,bF,bT,bT,bF,bF,bT,bF] rfl rfl rfl rfl (two_of HT_.out Q14) Q36 Q36 (fun K hK => ?_) (fun K hK => ?_)
          ·skip
           refine Kd.N_lit_step (Kd.slice 3 (Kd.int .i64)) _ 36 ?hg (N':=69) ?hd (xs:=([] : List (List Int))) (inner:=[]) (ok:=(fun k_ => some k_ ≠ (.slice Ao11 t508.length co11 : Value).ownBlock ∧ some k_ ≠ (.slice (some ad536) t511.length co13 : Value).ownBlock ∧ some k_ ≠ (.slice (some ⟨go29,0,none⟩) y521.length co50 : Value).ownBlock ∧ some k_ ≠ (.slice (some ⟨go34,0,none⟩) y532.length co66 : Value).ownBlock ∧ k_ ≠ gb514 ∧ k_ ≠ gb524 ∧ k_ ≠ gb535)) (okp:=(fun k_ => some k_ ≠ (.slice Ao11 t508.length co11 : Value).ownBlock ∧ some k_ ≠ (.slice (some ad536) t511.length co13 : Value).ownBlock ∧ some k_ ≠ (.slice (some ⟨go29,0,none⟩) y521.length co50 : Value).ownBlock ∧ some k_ ≠ (.slice (some ⟨go34,0,none⟩) y532.length co66 : Value).ownBlock ∧ k_ ≠ gb514 ∧ k_ ≠ gb524 ∧ k_ ≠ gb535)) ?hr ?hp (fun _ hk => hk) ((show ∀ k_,w74.heap.size ≤ k_ → (fun k_ => some k_ ≠ (.slice Ao11 t508.length co11 : Value).ownBlock ∧ some k_ ≠ (.slice (some ad536) t511.length co13 : Value).ownBlock ∧ some k_ ≠ (.slice (some ⟨go29,0,none⟩) y521.length co50 : Value).ownBlock ∧ some k_ ≠ (.slice (some ⟨go34,0,none⟩) y532.length co66 : Value).ownBlock ∧ k_ ≠ gb514 ∧ k_ ≠ gb524 ∧ k_ ≠ gb535) k_ from fun k_ hk => ⟨Kd.fresh' (Kd.R_lt (qR HO_515000)) k_ hk,Kd.fresh' (Kd.N_lt (qN HO_515001)) k_ hk,Kd.fresh' (Kd.N_lt (qN HO523)) k_ hk,Kd.fresh' (Kd.N_lt (qN HO534)) k_ hk,Kd.freshB (g:=gb514) (o:=.cells #[.slice Ao11 t508.length co11,.slice (some ad536) t511.length co13] 30 (0,0)) (qk BK514) k_ hk,Kd.freshB (g:=gb524) (o:=.cells #[.slice Ao11 t508.length co11,.slice (some ⟨go29,0,none⟩) y521.length co50] 30 (0,0)) (qk BK524) k_ hk,Kd.freshB (g:=gb535) (o:=.cells #[.slice Ao11 t508.length co11,.slice (some ⟨go34,0,none⟩) y532.length co66] 30 (0,0)) (qk BK535) k_ hk⟩) _ (Nat.le_refl _)) (Below.refl _ _) (Nat.le_refl _) Q51 ?_;(case hd => rfl);(case hg => rfl);(case hr => exact Q16);(case hp => exact (Reps.none _ _))
           intro v544 w75 ho76 hb hg_ hnew_
           clear hg_ hnew_
           (first|rw [← Ny543.out] at ho76|(simp only [Int.reduceToNat] at ho76;rw [← Ny543.out] at ho76))
           have n0_:=aM (Kd.R_below (qR HO_515000) hb)
           have n1_:=aM (Kd.N_elder' (qN HO_515001) (Kd.N_base ho76) hb)
           have n2_:=aM (Kd.N_elder' (qN HO523) (Kd.N_base ho76) hb)
           have n3_:=aM (Kd.N_elder' (qN HO534) (Kd.N_base ho76) hb)
           have n4_:=aM (Kd.V_elder' (qV HL536_0) (Kd.N_base ho76) hb)
           have n5_:=aM (Kd.V_elder' (qV HO541) (Kd.N_base ho76) hb)
           have n6_:=aM (Kd.N_lower ho76 (below_size Q10))
           have n7_:=aM (blk_below (g:=gb514) (o:=.cells #[.slice Ao11 t508.length co11,.slice (some ad536) t511.length co13] 30 (0,0)) (qk BK514) hb)
           have n8_:=aM (blk_below (g:=gb524) (o:=.cells #[.slice Ao11 t508.length co11,.slice (some ⟨go29,0,none⟩) y521.length co50] 30 (0,0)) (qk BK524) hb)
           have n9_:=aM (blk_below (g:=gb535) (o:=.cells #[.slice Ao11 t508.length co11,.slice (some ⟨go34,0,none⟩) y532.length co66] 30 (0,0)) (qk BK535) hb)
           have n10_:=aM (below_step Q10 hb)
           clear HO_515000
           clear HO_515001
           clear HO523
           clear HO534
           clear HL536_0
           clear HO541
           clear BK514
           clear BK524
           clear BK535
           clear HB
           have HO_515000:=n0_
           have HO_515001:=n1_
           have HO523:=n2_
           have HO534:=n3_
           have HL536_0:=n4_
           have HO541:=n5_
           have HO545:=n6_
           have BK514:=n7_
           have BK524:=n8_
           have BK535:=n9_
           have HB:=n10_
           clear n0_ n1_ n2_ n3_ n4_ n5_ n6_ n7_ n8_ n9_ n10_
           clear hb ho76
           refine hK.out _ _ ⟨(blk_cell BK514.out 0).trans rfl,(blk_cell BK514.out 1).trans rfl⟩ (fun hHeld => ?_)
           clear hK K
           refine norm_ (a':=?_) ?_ ?_
           rotate_left
           ·show Act.put _ (some 69) _ = _
            simp only [Act.put,sI,sZ,sS,i64_w,i32_w]
            rfl
           refine two_ (i:=5) (j:=7) (Ni:=some 72) (Nj:=some 10) #[bT,bT,bT,bT,bT,bT,bF,bF,bF] #[bT,bT,bT,bT,bT,bF,bF,bT,bF] rfl rfl rfl rfl (two_of HT_.out Q14) Q36 Q36 (fun K hK => ?_) (fun K hK => ?_)
           ·skip
            refine Kd.N_append_rows_step (Kd.slice 3 (Kd.int .i64)) (w0:=w) w.heap.size Q70 (.tmp 69) (.tmp 71) 23 36 (.slice none 0 0) 24 rfl Try.underlying23 info36 rfl Q36 Q17 v544 y543 t511 _ _ _ (fun k_ => some k_ ≠ (.slice Ao11 t508.length co11 : Value).ownBlock ∧ some k_ ≠ (.slice (some ⟨go29,0,none⟩) y521.length co50 : Value).ownBlock ∧ some k_ ≠ (.slice (some ⟨go34,0,none⟩) y532.length co66 : Value).ownBlock ∧ k_ ≠ gb514 ∧ k_ ≠ gb524 ∧ k_ ≠ gb535) (fun k_ => ((fun k_ => some k_ ≠ (.slice Ao11 t508.length co11 : Value).ownBlock ∧ some k_ ≠ (.slice (some ⟨go29,0,none⟩) y521.length co50 : Value).ownBlock ∧ some k_ ≠ (.slice (some ⟨go34,0,none⟩) y532.length co66 : Value).ownBlock ∧ k_ ≠ gb514 ∧ k_ ≠ gb524 ∧ k_ ≠ gb535)) k_ ∧ some k_ ≠ (v544 : Value).ownBlock) rfl rfl ?aO ?aR (fun _ hk => hk) ?aF ?aB ?aS ?aL ?_
            (case aR => exact (by skip;exact Kd.N_F (Kd.N_mono (ok':=(fun k_ => ((fun k_ => some k_ ≠ (.slice Ao11 t508.length co11 : Value).ownBlock ∧ some k_ ≠ (.slice (some ⟨go29,0,none⟩) y521.length co50 : Value).ownBlock ∧ some k_ ≠ (.slice (some ⟨go34,0,none⟩) y532.length co66 : Value).ownBlock ∧ k_ ≠ gb514 ∧ k_ ≠ gb524 ∧ k_ ≠ gb535)) k_ ∧ some k_ ≠ (v544 : Value).ownBlock)) (HO_515001.out) (fun k_ hk => ⟨⟨hk.1.1,⟨hk.1.2.1,⟨hk.1.2.2.1,⟨hk.1.2.2.2.1,⟨hk.1.2.2.2.2.1,hk.1.2.2.2.2.2⟩⟩⟩⟩⟩,hk.2⟩))))
            (case aB => exact Q10)
            (case aF => exact (fun k_ hk => ⟨Kd.fresh' (Kd.R_lt (qR HO_515000)) k_ hk,Kd.fresh' (Kd.N_lt (qN HO523)) k_ hk,Kd.fresh' (Kd.N_lt (qN HO534)) k_ hk,Kd.freshB (g:=gb514) (o:=.cells #[.slice Ao11 t508.length co11,.slice (some ad536) t511.length co13] 30 (0,0)) (qk BK514) k_ hk,Kd.freshB (g:=gb524) (o:=.cells #[.slice Ao11 t508.length co11,.slice (some ⟨go29,0,none⟩) y521.length co50] 30 (0,0)) (qk BK524) k_ hk,Kd.freshB (g:=gb535) (o:=.cells #[.slice Ao11 t508.length co11,.slice (some ⟨go34,0,none⟩) y532.length co66] 30 (0,0)) (qk BK535) k_ hk⟩))
            (case aO => exact (by (with_reducible repeat (first|apply Kd.N_alloc|apply Kd.N_drewN|apply Kd.N_drew));exact Kd.N_mono HO545.out (fun _ hk => ⟨hk.1,⟨hk.2.2.1,⟨hk.2.2.2.1,⟨hk.2.2.2.2.1,⟨hk.2.2.2.2.2.1,hk.2.2.2.2.2.2⟩⟩⟩⟩⟩)))
            (case aS => exact (below_size Q10))
            (case aL => have:=LMc35.out;omega)
            intro v547 w77 ho hb hg hat
            have hHN16_:=True.intro
            rw [← Ny546.out] at ho
            have n0_:=aM (Kd.R_over' (qR HO_515000) (Kd.N_typed (qN HO545)) Q36 hg)
            have n1_:=aM (Kd.N_afterv (ok:=(fun k_ => some k_ ≠ (.slice Ao11 t508.length co11 : Value).ownBlock ∧ some k_ ≠ (.slice (some ⟨go29,0,none⟩) y521.length co50 : Value).ownBlock ∧ some k_ ≠ (.slice (some ⟨go34,0,none⟩) y532.length co66 : Value).ownBlock ∧ k_ ≠ gb514 ∧ k_ ≠ gb524 ∧ k_ ≠ gb535)) (qN HO_515001) hg hat)
            have n2_:=aM (blk_grown (g:=gb514) (o:=.cells #[.slice Ao11 t508.length co11,.slice (some ad536) t511.length co13] 30 (0,0)) (qk BK514) hg (Kd.N_ne HO545.out BK514.out Q36))
            have n3_:=aM (Kd.N_afterv (ok:=(fun k_ => some k_ ≠ (.slice Ao11 t508.length co11 : Value).ownBlock ∧ some k_ ≠ (.slice (some ⟨go34,0,none⟩) y532.length co66 : Value).ownBlock ∧ k_ ≠ gb514 ∧ k_ ≠ gb524 ∧ k_ ≠ gb535)) (qN HO523) hg hat)
            have n4_:=aM (blk_grown (g:=gb524) (o:=.cells #[.slice Ao11 t508.length co11,.slice (some ⟨go29,0,none⟩) y521.length co50] 30 (0,0)) (qk BK524) hg (Kd.N_ne HO545.out BK524.out Q36))
            have n5_:=aM (Kd.N_afterv (ok:=(fun k_ => some k_ ≠ (.slice Ao11 t508.length co11 : Value).ownBlock ∧ some k_ ≠ (.slice (some ⟨go29,0,none⟩) y521.length co50 : Value).ownBlock ∧ k_ ≠ gb514 ∧ k_ ≠ gb524 ∧ k_ ≠ gb535)) (qN HO534) hg hat)
            have n6_:=aM (blk_grown (g:=gb535) (o:=.cells #[.slice Ao11 t508.length co11,.slice (some ⟨go34,0,none⟩) y532.length co66] 30 (0,0)) (qk BK535) hg (Kd.N_ne HO545.out BK535.out Q36))
            have n7_:=aM (Kd.V_afterv (ok:=(fun k_ => some k_ ≠ (.slice Ao11 t508.length co11 : Value).ownBlock ∧ some k_ ≠ (.slice (some ad536) t511.length co13 : Value).ownBlock ∧ some k_ ≠ (.slice (some ⟨go29,0,none⟩) y521.length co50 : Value).ownBlock ∧ some k_ ≠ (.slice (some ⟨go34,0,none⟩) y532.length co66 : Value).ownBlock ∧ k_ ≠ gb514 ∧ k_ ≠ gb524 ∧ k_ ≠ gb535)) (qV HL536_0) hg hat)
            have n8_:=aM (Kd.V_afterv (ok:=(fun k_ => some k_ ≠ (.slice Ao11 t508.length co11 : Value).ownBlock ∧ some k_ ≠ (.slice (some ad536) t511.length co13 : Value).ownBlock ∧ some k_ ≠ (.slice (some ⟨go29,0,none⟩) y521.length co50 : Value).ownBlock ∧ some k_ ≠ (.slice (some ⟨go34,0,none⟩) y532.length co66 : Value).ownBlock ∧ k_ ≠ gb514 ∧ k_ ≠ gb524 ∧ k_ ≠ gb535)) (qV HO541) hg hat)
            have n9_:=aM (hb)
            have n10_:=aM (ho)
            clear HO_515000
            clear HO_515001
            clear BK514
            clear HO523
            clear BK524
            clear HO534
            clear BK535
            clear HL536_0
            clear HO541
            clear HB
            clear HO545
            have HO_515000:=n0_
            have HO_515001:=n1_
            have BK514:=n2_
            have HO523:=n3_
            have BK524:=n4_
            have HO534:=n5_
            have BK535:=n6_
            have HL536_0:=n7_
            have HO541:=n8_
            have HB:=n9_
            have HO548:=n10_
            clear n0_ n1_ n2_ n3_ n4_ n5_ n6_ n7_ n8_ n9_ n10_
            clear ho hb hg hat
            obtain ⟨Ao78,co78,eo78⟩:=Kd.N_slice HO548.out
            (first|subst eo78|(injection eo78 with f1_ f2_ f3_;have f4_:=f1_.symm;have f5_:=f3_.symm;clear f1_ f2_ f3_;subst f4_;subst f5_))
            refine hK.out _ _ ⟨(blk_cell BK514.out 0).trans rfl,(blk_cell BK514.out 1).trans rfl⟩ (fun hHeld => ?_)
            clear hK K
            refine norm_ (a':=?_) ?_ ?_
            rotate_left
            ·show Act.put _ (some 72) _ = _
             simp only [Act.put,sI,sZ,sS,i64_w,i32_w]
             rfl
            refine pS HT_ 6 73 ?_
            refine one_ (i:=7) (N:=some 10) #[bT,bT,bT,bT,bT,bT,bT,bT,bF] rfl rfl (one_of HT_.out Q14) Q36 (fun K hK => ?_)
            refine box_step ?hg (N:=10) ?hd (cs:=#[.slice none 0 0,.slice none 0 0]) (t:=30) ?hr ?_;(case hd => rfl);(case hg => rfl);(case hr => exact Q16)
            intro gb549 hg w79 hbox hb
            have n0_:=aM (Kd.R_below (qR HO_515000) hb)
            have n1_:=aM (Kd.N_below (Kd.N_elderB (qN HO_515001) gb549 (Nat.le_of_eq hg.symm)) hb)
            have n2_:=aM (Kd.N_below (Kd.N_elderB (qN HO523) gb549 (Nat.le_of_eq hg.symm)) hb)
            have n3_:=aM (Kd.N_below (Kd.N_elderB (qN HO534) gb549 (Nat.le_of_eq hg.symm)) hb)
            have n4_:=aM (Kd.V_below (Kd.V_elderB (qV HL536_0) gb549 (Nat.le_of_eq hg.symm)) hb)
            have n5_:=aM (Kd.V_below (Kd.V_elderB (qV HO541) gb549 (Nat.le_of_eq hg.symm)) hb)
            have n6_:=aM (Kd.N_below (Kd.N_elderB (qN HO548) gb549 (Nat.le_of_eq hg.symm)) hb)
            have n7_:=aM (blk_below (g:=gb514) (o:=.cells #[.slice Ao11 t508.length co11,.slice (some ad536) t511.length co13] 30 (0,0)) (qk BK514) hb)
            have n8_:=aM (blk_below (g:=gb524) (o:=.cells #[.slice Ao11 t508.length co11,.slice (some ⟨go29,0,none⟩) y521.length co50] 30 (0,0)) (qk BK524) hb)
            have n9_:=aM (blk_below (g:=gb535) (o:=.cells #[.slice Ao11 t508.length co11,.slice (some ⟨go34,0,none⟩) y532.length co66] 30 (0,0)) (qk BK535) hb)
            have n10_:=aM (below_step Q10 hb)
            have n11_:=aM (hbox)
            have n12_:=aM ((Q131 : w.heap.size ≤ gb549))
            have n13_:=aM ((Q131 : w.heap.size ≤ gb549))
            have n14_:=aM ((Q92 : gb514 ≠ gb549))
            have n15_:=aM ((Q93 : gb549 ≠ gb514))
            have n16_:=aM ((Q49 : gb524 ≠ gb549))
            have n17_:=aM ((Q50 : gb549 ≠ gb524))
            have n18_:=aM ((Q88 : gb535 ≠ gb549))
            have n19_:=aM ((Q89 : gb549 ≠ gb535))
            clear HO_515000
            clear HO_515001
            clear HO523
            clear HO534
            clear HL536_0
            clear HO541
            clear HO548
            clear BK514
            clear BK524
            clear BK535
            clear HB
            have HO_515000:=n0_
            have HO_515001:=n1_
            have HO523:=n2_
            have HO534:=n3_
            have HL536_0:=n4_
            have HO541:=n5_
            have HO548:=n6_
            have BK514:=n7_
            have BK524:=n8_
            have BK535:=n9_
            have HB:=n10_
            have BK549:=n11_
            have GW549:=n12_
            have GE549:=n13_
            have NB514_549:=n14_
            have NB549_514:=n15_
            have NB524_549:=n16_
            have NB549_524:=n17_
            have NB535_549:=n18_
            have NB549_535:=n19_
            clear n0_ n1_ n2_ n3_ n4_ n5_ n6_ n7_ n8_ n9_ n10_ n11_ n12_ n13_ n14_ n15_ n16_ n17_ n18_ n19_
            clear hb hbox hg
            refine hK.out _ _ ⟨(blk_cell BK514.out 0).trans rfl,(blk_cell BK514.out 1).trans rfl⟩ (fun hHeld => ?_)
            clear hK K
            refine norm_ (a':=?_) ?_ ?_
            rotate_left
            ·show Act.put _ (some 10) _ = _
             simp only [Act.put,sI,sZ,sS,i64_w,i32_w]
             rfl
            exact norm_ Q98 (hCont (v544,.slice Ao78 y546.length co78,gb549) _ ⟨hHeld,(by (with_reducible repeat (first|apply Kd.V_alloc|apply Kd.V_drewN|apply Kd.V_drew));exact Kd.V_mono HL536_0.out (fun _ hk => ⟨hk.1.1.2.2.1,⟨hk.1.1.2.2.2.1,⟨hk.1.2,⟨hk.1.1.1,⟨hk.1.1.2.1,⟨hk.1.1.2.2.2.2.1,⟨hk.1.1.2.2.2.2.2.1,⟨hk.1.1.2.2.2.2.2.2,hk.2⟩⟩⟩⟩⟩⟩⟩⟩)),(by (with_reducible repeat (first|apply Kd.N_alloc|apply Kd.N_drewN|apply Kd.N_drew));exact Kd.N_mono HO523.out (fun _ hk => ⟨hk.1.1.2.1,⟨hk.1.2,⟨hk.1.1.1,⟨hk.1.1.2.2.1,⟨hk.1.1.2.2.2.1,⟨hk.1.1.2.2.2.2,hk.2⟩⟩⟩⟩⟩⟩)),(by (with_reducible repeat (first|apply Kd.N_alloc|apply Kd.N_drewN|apply Kd.N_drew));exact Kd.N_mono HO534.out (fun _ hk => ⟨hk.1.1.2.1,⟨hk.1.2,⟨hk.1.1.1,⟨hk.1.1.2.2.1,⟨hk.1.1.2.2.2.1,⟨hk.1.1.2.2.2.2,hk.2⟩⟩⟩⟩⟩⟩)),(by (with_reducible repeat (first|apply Kd.V_alloc|apply Kd.V_drewN|apply Kd.V_drew));exact Kd.V_mono HO541.out (fun _ hk => ⟨hk.1.1.2.2.1,⟨hk.1.1.2.2.2.1,⟨hk.1.2,⟨hk.1.1.1,⟨hk.1.1.2.1,⟨hk.1.1.2.2.2.2.1,⟨hk.1.1.2.2.2.2.2.1,⟨hk.1.1.2.2.2.2.2.2,hk.2⟩⟩⟩⟩⟩⟩⟩⟩)),(by (with_reducible repeat (first|apply Kd.N_alloc|apply Kd.N_drewN|apply Kd.N_drew));exact Kd.N_mono HO548.out (fun _ hk => ⟨hk.1.2.1,⟨hk.1.2.2.1,⟨hk.1.1,⟨hk.1.2.2.2.1,⟨hk.1.2.2.2.2.1,⟨hk.1.2.2.2.2.2,hk.2⟩⟩⟩⟩⟩⟩)),(qR HO_515000),(by (with_reducible repeat (first|apply Kd.N_alloc|apply Kd.N_drewN|apply Kd.N_drew));exact Kd.N_mono HO_515001.out (fun _ hk => ⟨hk.1.1.2.1,⟨hk.1.1.2.2.1,⟨hk.1.2,⟨hk.1.1.1,⟨hk.1.1.2.2.2.1,⟨hk.1.1.2.2.2.2.1,⟨hk.1.1.2.2.2.2.2,hk.2⟩⟩⟩⟩⟩⟩⟩)),(qk BK514),(qk BK524),(qk BK535),(qk BK549),GW549.out,GE549.out,NB514_549.out,NB549_514.out,NB524_549.out,NB549_524.out,NB535_549.out,NB549_535.out,Q18⟩)
           ·skip
            refine box_step ?hg (N:=10) ?hd (cs:=#[.slice none 0 0,.slice none 0 0]) (t:=30) ?hr ?_;(case hd => rfl);(case hg => rfl);(case hr => exact Q16)
            intro gb549 hg w77 hbox hb
            have n0_:=aM (Kd.R_below (qR HO_515000) hb)
            have n1_:=aM (Kd.N_below (Kd.N_elderB (qN HO_515001) gb549 (Nat.le_of_eq hg.symm)) hb)
            have n2_:=aM (Kd.N_below (Kd.N_elderB (qN HO523) gb549 (Nat.le_of_eq hg.symm)) hb)
            have n3_:=aM (Kd.N_below (Kd.N_elderB (qN HO534) gb549 (Nat.le_of_eq hg.symm)) hb)
            have n4_:=aM (Kd.V_below (Kd.V_elderB (qV HL536_0) gb549 (Nat.le_of_eq hg.symm)) hb)
            have n5_:=aM (Kd.V_below (Kd.V_elderB (qV HO541) gb549 (Nat.le_of_eq hg.symm)) hb)
            have n6_:=aM (Kd.N_below (Kd.N_elderB (qN HO545) gb549 (Nat.le_of_eq hg.symm)) hb)
            have n7_:=aM (blk_below (g:=gb514) (o:=.cells #[.slice Ao11 t508.length co11,.slice (some ad536) t511.length co13] 30 (0,0)) (qk BK514) hb)
            have n8_:=aM (blk_below (g:=gb524) (o:=.cells #[.slice Ao11 t508.length co11,.slice (some ⟨go29,0,none⟩) y521.length co50] 30 (0,0)) (qk BK524) hb)
            have n9_:=aM (blk_below (g:=gb535) (o:=.cells #[.slice Ao11 t508.length co11,.slice (some ⟨go34,0,none⟩) y532.length co66] 30 (0,0)) (qk BK535) hb)
            have n10_:=aM (below_step Q10 hb)
            have n11_:=aM (hbox)
            have n12_:=aM ((Q131 : w.heap.size ≤ gb549))
            have n13_:=aM ((Q131 : w.heap.size ≤ gb549))
            have n14_:=aM ((Q92 : gb514 ≠ gb549))
            have n15_:=aM ((Q93 : gb549 ≠ gb514))
            have n16_:=aM ((Q49 : gb524 ≠ gb549))
            have n17_:=aM ((Q50 : gb549 ≠ gb524))
            have n18_:=aM ((Q88 : gb535 ≠ gb549))
            have n19_:=aM ((Q89 : gb549 ≠ gb535))
            clear HO_515000
            clear HO_515001
            clear HO523
            clear HO534
            clear HL536_0
            clear HO541
            clear HO545
            clear BK514
            clear BK524
            clear BK535
            clear HB
            have HO_515000:=n0_
            have HO_515001:=n1_
            have HO523:=n2_
            have HO534:=n3_
            have HL536_0:=n4_
            have HO541:=n5_
            have HO545:=n6_
            have BK514:=n7_
            have BK524:=n8_
            have BK535:=n9_
            have HB:=n10_
            have BK549:=n11_
            have GW549:=n12_
            have GE549:=n13_
            have NB514_549:=n14_
            have NB549_514:=n15_
            have NB524_549:=n16_
            have NB549_524:=n17_
            have NB535_549:=n18_
            have NB549_535:=n19_
            clear n0_ n1_ n2_ n3_ n4_ n5_ n6_ n7_ n8_ n9_ n10_ n11_ n12_ n13_ n14_ n15_ n16_ n17_ n18_ n19_
            clear hb hbox hg
            refine hK.out _ _ ⟨(blk_cell BK514.out 0).trans rfl,(blk_cell BK514.out 1).trans rfl⟩ (fun hHeld => ?_)
            clear hK K
            refine norm_ (a':=?_) ?_ ?_
            rotate_left
            ·show Act.put _ (some 10) _ = _
             simp only [Act.put,sI,sZ,sS,i64_w,i32_w]
             rfl
            refine one_ (i:=5) (N:=some 72) #[bT,bT,bT,bT,bT,bT,bF,bT,bF] rfl rfl (one_of HT_.out Q14) Q36 (fun K hK => ?_)
            refine Kd.N_append_rows_step (Kd.slice 3 (Kd.int .i64)) (w0:=w) w.heap.size Q70 (.tmp 69) (.tmp 71) 23 36 (.slice none 0 0) 24 rfl Try.underlying23 info36 rfl Q36 Q17 v544 y543 t511 _ _ _ (fun k_ => some k_ ≠ (.slice Ao11 t508.length co11 : Value).ownBlock ∧ some k_ ≠ (.slice (some ⟨go29,0,none⟩) y521.length co50 : Value).ownBlock ∧ some k_ ≠ (.slice (some ⟨go34,0,none⟩) y532.length co66 : Value).ownBlock ∧ k_ ≠ gb514 ∧ k_ ≠ gb524 ∧ k_ ≠ gb535 ∧ k_ ≠ gb549) (fun k_ => ((fun k_ => some k_ ≠ (.slice Ao11 t508.length co11 : Value).ownBlock ∧ some k_ ≠ (.slice (some ⟨go29,0,none⟩) y521.length co50 : Value).ownBlock ∧ some k_ ≠ (.slice (some ⟨go34,0,none⟩) y532.length co66 : Value).ownBlock ∧ k_ ≠ gb514 ∧ k_ ≠ gb524 ∧ k_ ≠ gb535 ∧ k_ ≠ gb549)) k_ ∧ some k_ ≠ (v544 : Value).ownBlock) rfl rfl ?aO ?aR (fun _ hk => hk) ?aF ?aB ?aS ?aL ?_
            (case aR => exact (by skip;exact Kd.N_F (Kd.N_mono (ok':=(fun k_ => ((fun k_ => some k_ ≠ (.slice Ao11 t508.length co11 : Value).ownBlock ∧ some k_ ≠ (.slice (some ⟨go29,0,none⟩) y521.length co50 : Value).ownBlock ∧ some k_ ≠ (.slice (some ⟨go34,0,none⟩) y532.length co66 : Value).ownBlock ∧ k_ ≠ gb514 ∧ k_ ≠ gb524 ∧ k_ ≠ gb535 ∧ k_ ≠ gb549)) k_ ∧ some k_ ≠ (v544 : Value).ownBlock)) (HO_515001.out) (fun k_ hk => ⟨⟨hk.1.1.1,⟨hk.1.1.2.1,⟨hk.1.1.2.2.1,⟨hk.1.1.2.2.2.1,⟨hk.1.1.2.2.2.2.1,⟨hk.1.1.2.2.2.2.2,hk.2⟩⟩⟩⟩⟩⟩,hk.1.2⟩))))
            (case aB => exact Q18)
            (case aF => exact (fun k_ hk => ⟨Kd.fresh' (Kd.R_lt (qR HO_515000)) k_ hk,Kd.fresh' (Kd.N_lt (qN HO523)) k_ hk,Kd.fresh' (Kd.N_lt (qN HO534)) k_ hk,Kd.freshB (g:=gb514) (o:=.cells #[.slice Ao11 t508.length co11,.slice (some ad536) t511.length co13] 30 (0,0)) (qk BK514) k_ hk,Kd.freshB (g:=gb524) (o:=.cells #[.slice Ao11 t508.length co11,.slice (some ⟨go29,0,none⟩) y521.length co50] 30 (0,0)) (qk BK524) k_ hk,Kd.freshB (g:=gb535) (o:=.cells #[.slice Ao11 t508.length co11,.slice (some ⟨go34,0,none⟩) y532.length co66] 30 (0,0)) (qk BK535) k_ hk,Kd.freshB (g:=gb549) (o:=.cells #[.slice none 0 0,.slice none 0 0] 30 (0,0)) (qk BK549) k_ hk⟩))
            (case aO => exact (by (with_reducible repeat (first|apply Kd.N_alloc|apply Kd.N_drewN|apply Kd.N_drew));exact Kd.N_mono HO545.out (fun _ hk => ⟨hk.1.1,⟨hk.1.2.2.1,⟨hk.1.2.2.2.1,⟨hk.1.2.2.2.2.1,⟨hk.1.2.2.2.2.2.1,⟨hk.1.2.2.2.2.2.2,hk.2⟩⟩⟩⟩⟩⟩)))
            (case aS => exact (below_size Q18))
            (case aL => have:=LMc35.out;omega)
            intro v547 w78 ho hb hg hat
            have hHN19_:=True.intro
            rw [← Ny546.out] at ho
            have n0_:=aM (Kd.R_over' (qR HO_515000) (Kd.N_typed (qN HO545)) Q36 hg)
            have n1_:=aM (Kd.N_afterv (ok:=(fun k_ => some k_ ≠ (.slice Ao11 t508.length co11 : Value).ownBlock ∧ some k_ ≠ (.slice (some ⟨go29,0,none⟩) y521.length co50 : Value).ownBlock ∧ some k_ ≠ (.slice (some ⟨go34,0,none⟩) y532.length co66 : Value).ownBlock ∧ k_ ≠ gb514 ∧ k_ ≠ gb524 ∧ k_ ≠ gb535 ∧ k_ ≠ gb549)) (by (with_reducible repeat (first|apply Kd.N_alloc|apply Kd.N_drewN|apply Kd.N_drew));exact Kd.N_mono HO_515001.out (fun _ hk => ⟨⟨hk.1.1.1,⟨hk.1.1.2.1,⟨hk.1.1.2.2.1,⟨hk.1.1.2.2.2.1,⟨hk.1.1.2.2.2.2.1,⟨hk.1.1.2.2.2.2.2,hk.2⟩⟩⟩⟩⟩⟩,hk.1.2⟩)) hg hat)
            have n2_:=aM (blk_grown (g:=gb514) (o:=.cells #[.slice Ao11 t508.length co11,.slice (some ad536) t511.length co13] 30 (0,0)) (qk BK514) hg (Kd.N_ne HO545.out BK514.out Q36))
            have n3_:=aM (Kd.N_afterv (ok:=(fun k_ => some k_ ≠ (.slice Ao11 t508.length co11 : Value).ownBlock ∧ some k_ ≠ (.slice (some ⟨go34,0,none⟩) y532.length co66 : Value).ownBlock ∧ k_ ≠ gb514 ∧ k_ ≠ gb524 ∧ k_ ≠ gb535 ∧ k_ ≠ gb549)) (by (with_reducible repeat (first|apply Kd.N_alloc|apply Kd.N_drewN|apply Kd.N_drew));exact Kd.N_mono HO523.out (fun _ hk => ⟨⟨hk.1.1.1,⟨hk.1.1.2.1,⟨hk.1.1.2.2.1,⟨hk.1.1.2.2.2.1,⟨hk.1.1.2.2.2.2,hk.2⟩⟩⟩⟩⟩,hk.1.2⟩)) hg hat)
            have n4_:=aM (blk_grown (g:=gb524) (o:=.cells #[.slice Ao11 t508.length co11,.slice (some ⟨go29,0,none⟩) y521.length co50] 30 (0,0)) (qk BK524) hg (Kd.N_ne HO545.out BK524.out Q36))
            have n5_:=aM (Kd.N_afterv (ok:=(fun k_ => some k_ ≠ (.slice Ao11 t508.length co11 : Value).ownBlock ∧ some k_ ≠ (.slice (some ⟨go29,0,none⟩) y521.length co50 : Value).ownBlock ∧ k_ ≠ gb514 ∧ k_ ≠ gb524 ∧ k_ ≠ gb535 ∧ k_ ≠ gb549)) (by (with_reducible repeat (first|apply Kd.N_alloc|apply Kd.N_drewN|apply Kd.N_drew));exact Kd.N_mono HO534.out (fun _ hk => ⟨⟨hk.1.1.1,⟨hk.1.1.2.1,⟨hk.1.1.2.2.1,⟨hk.1.1.2.2.2.1,⟨hk.1.1.2.2.2.2,hk.2⟩⟩⟩⟩⟩,hk.1.2⟩)) hg hat)
            have n6_:=aM (blk_grown (g:=gb535) (o:=.cells #[.slice Ao11 t508.length co11,.slice (some ⟨go34,0,none⟩) y532.length co66] 30 (0,0)) (qk BK535) hg (Kd.N_ne HO545.out BK535.out Q36))
            have n7_:=aM (Kd.V_afterv (ok:=(fun k_ => some k_ ≠ (.slice Ao11 t508.length co11 : Value).ownBlock ∧ some k_ ≠ (.slice (some ad536) t511.length co13 : Value).ownBlock ∧ some k_ ≠ (.slice (some ⟨go29,0,none⟩) y521.length co50 : Value).ownBlock ∧ some k_ ≠ (.slice (some ⟨go34,0,none⟩) y532.length co66 : Value).ownBlock ∧ k_ ≠ gb514 ∧ k_ ≠ gb524 ∧ k_ ≠ gb535 ∧ k_ ≠ gb549)) (by (with_reducible repeat (first|apply Kd.V_alloc|apply Kd.V_drewN|apply Kd.V_drew));exact Kd.V_mono HL536_0.out (fun _ hk => ⟨⟨hk.1.1.1,⟨hk.1.1.2.1,⟨hk.1.1.2.2.1,⟨hk.1.1.2.2.2.1,⟨hk.1.1.2.2.2.2.1,⟨hk.1.1.2.2.2.2.2.1,⟨hk.1.1.2.2.2.2.2.2,hk.2⟩⟩⟩⟩⟩⟩⟩,hk.1.2⟩)) hg hat)
            have n8_:=aM (Kd.V_afterv (ok:=(fun k_ => some k_ ≠ (.slice Ao11 t508.length co11 : Value).ownBlock ∧ some k_ ≠ (.slice (some ad536) t511.length co13 : Value).ownBlock ∧ some k_ ≠ (.slice (some ⟨go29,0,none⟩) y521.length co50 : Value).ownBlock ∧ some k_ ≠ (.slice (some ⟨go34,0,none⟩) y532.length co66 : Value).ownBlock ∧ k_ ≠ gb514 ∧ k_ ≠ gb524 ∧ k_ ≠ gb535 ∧ k_ ≠ gb549)) (by (with_reducible repeat (first|apply Kd.V_alloc|apply Kd.V_drewN|apply Kd.V_drew));exact Kd.V_mono HO541.out (fun _ hk => ⟨⟨hk.1.1.1,⟨hk.1.1.2.1,⟨hk.1.1.2.2.1,⟨hk.1.1.2.2.2.1,⟨hk.1.1.2.2.2.2.1,⟨hk.1.1.2.2.2.2.2.1,⟨hk.1.1.2.2.2.2.2.2,hk.2⟩⟩⟩⟩⟩⟩⟩,hk.1.2⟩)) hg hat)
            have n9_:=aM (blk_grown (g:=gb549) (o:=.cells #[.slice none 0 0,.slice none 0 0] 30 (0,0)) (qk BK549) hg (Kd.N_ne HO545.out BK549.out Q36))
            have n10_:=aM (hb)
            have n11_:=aM (ho)
            clear HO_515000
            clear HO_515001
            clear BK514
            clear HO523
            clear BK524
            clear HO534
            clear BK535
            clear HL536_0
            clear HO541
            clear BK549
            clear HB
            clear HO545
            have HO_515000:=n0_
            have HO_515001:=n1_
            have BK514:=n2_
            have HO523:=n3_
            have BK524:=n4_
            have HO534:=n5_
            have BK535:=n6_
            have HL536_0:=n7_
            have HO541:=n8_
            have BK549:=n9_
            have HB:=n10_
            have HO548:=n11_
            clear n0_ n1_ n2_ n3_ n4_ n5_ n6_ n7_ n8_ n9_ n10_ n11_
            clear ho hb hg hat
            obtain ⟨Ao79,co79,eo79⟩:=Kd.N_slice HO548.out
            (first|subst eo79|(injection eo79 with f1_ f2_ f3_;have f4_:=f1_.symm;have f5_:=f3_.symm;clear f1_ f2_ f3_;subst f4_;subst f5_))
            refine hK.out _ _ ⟨(blk_cell BK514.out 0).trans rfl,(blk_cell BK514.out 1).trans rfl⟩ (fun hHeld => ?_)
            clear hK K
            refine norm_ (a':=?_) ?_ ?_
            rotate_left
            ·show Act.put _ (some 72) _ = _
             simp only [Act.put,sI,sZ,sS,i64_w,i32_w]
             rfl
            refine pS HT_ 6 73 ?_
            exact norm_ Q98 (hCont (v544,.slice Ao79 y546.length co79,gb549) _ ⟨hHeld,Q96,Q105,Q104,Q97,Q103,(qR HO_515000),Q99,(qk BK514),(qk BK524),(qk BK535),(qk BK549),GW549.out,GE549.out,NB514_549.out,NB549_514.out,NB524_549.out,NB549_524.out,NB535_549.out,NB549_535.out,Q18⟩)
          ·skip
           refine box_step ?hg (N:=10) ?hd (cs:=#[.slice none 0 0,.slice none 0 0]) (t:=30) ?hr ?_;(case hd => rfl);(case hg => rfl);(case hr => exact Q16)
           intro gb549 hg w75 hbox hb
           have n0_:=aM (Kd.R_below (qR HO_515000) hb)
           have n1_:=aM (Kd.N_below (Kd.N_elderB (qN HO_515001) gb549 (Nat.le_of_eq hg.symm)) hb)
           have n2_:=aM (Kd.N_below (Kd.N_elderB (qN HO523) gb549 (Nat.le_of_eq hg.symm)) hb)
           have n3_:=aM (Kd.N_below (Kd.N_elderB (qN HO534) gb549 (Nat.le_of_eq hg.symm)) hb)
           have n4_:=aM (Kd.V_below (Kd.V_elderB (qV HL536_0) gb549 (Nat.le_of_eq hg.symm)) hb)
           have n5_:=aM (Kd.V_below (Kd.V_elderB (qV HO541) gb549 (Nat.le_of_eq hg.symm)) hb)
           have n6_:=aM (blk_below (g:=gb514) (o:=.cells #[.slice Ao11 t508.length co11,.slice (some ad536) t511.length co13] 30 (0,0)) (qk BK514) hb)
           have n7_:=aM (blk_below (g:=gb524) (o:=.cells #[.slice Ao11 t508.length co11,.slice (some ⟨go29,0,none⟩) y521.length co50] 30 (0,0)) (qk BK524) hb)
           have n8_:=aM (blk_below (g:=gb535) (o:=.cells #[.slice Ao11 t508.length co11,.slice (some ⟨go34,0,none⟩) y532.length co66] 30 (0,0)) (qk BK535) hb)
           have n9_:=aM (below_step Q10 hb)
           have n10_:=aM (hbox)
           have n11_:=aM ((Q131 : w.heap.size ≤ gb549))
           have n12_:=aM ((Q131 : w.heap.size ≤ gb549))
           have n13_:=aM ((Q92 : gb514 ≠ gb549))
           have n14_:=aM ((Q93 : gb549 ≠ gb514))
           have n15_:=aM ((Q49 : gb524 ≠ gb549))
           have n16_:=aM ((Q50 : gb549 ≠ gb524))
           have n17_:=aM ((Q88 : gb535 ≠ gb549))
           have n18_:=aM ((Q89 : gb549 ≠ gb535))
           clear HO_515000
           clear HO_515001
           clear HO523
           clear HO534
           clear HL536_0
           clear HO541
           clear BK514
           clear BK524
           clear BK535
           clear HB
           have HO_515000:=n0_
           have HO_515001:=n1_
           have HO523:=n2_
           have HO534:=n3_
           have HL536_0:=n4_
           have HO541:=n5_
           have BK514:=n6_
           have BK524:=n7_
           have BK535:=n8_
           have HB:=n9_
           have BK549:=n10_
           have GW549:=n11_
           have GE549:=n12_
           have NB514_549:=n13_
           have NB549_514:=n14_
           have NB524_549:=n15_
           have NB549_524:=n16_
           have NB535_549:=n17_
           have NB549_535:=n18_
           clear n0_ n1_ n2_ n3_ n4_ n5_ n6_ n7_ n8_ n9_ n10_ n11_ n12_ n13_ n14_ n15_ n16_ n17_ n18_
           clear hb hbox hg
           refine hK.out _ _ ⟨(blk_cell BK514.out 0).trans rfl,(blk_cell BK514.out 1).trans rfl⟩ (fun hHeld => ?_)
           clear hK K
           refine norm_ (a':=?_) ?_ ?_
           rotate_left
           ·show Act.put _ (some 10) _ = _
            simp only [Act.put,sI,sZ,sS,i64_w,i32_w]
            rfl
           refine one_ (i:=2) (N:=some 69) #[bT,bT,bT,bT,bT,bF,bF,bT,bF] rfl rfl (one_of HT_.out Q14) Q36 (fun K hK => ?_)
           refine Kd.N_lit_step (Kd.slice 3 (Kd.int .i64)) _ 36 ?hg (N':=69) ?hd (xs:=([] : List (List Int))) (inner:=[]) (ok:=(fun k_ => some k_ ≠ (.slice Ao11 t508.length co11 : Value).ownBlock ∧ some k_ ≠ (.slice (some ad536) t511.length co13 : Value).ownBlock ∧ some k_ ≠ (.slice (some ⟨go29,0,none⟩) y521.length co50 : Value).ownBlock ∧ some k_ ≠ (.slice (some ⟨go34,0,none⟩) y532.length co66 : Value).ownBlock ∧ k_ ≠ gb514 ∧ k_ ≠ gb524 ∧ k_ ≠ gb535 ∧ k_ ≠ gb549)) (okp:=(fun k_ => some k_ ≠ (.slice Ao11 t508.length co11 : Value).ownBlock ∧ some k_ ≠ (.slice (some ad536) t511.length co13 : Value).ownBlock ∧ some k_ ≠ (.slice (some ⟨go29,0,none⟩) y521.length co50 : Value).ownBlock ∧ some k_ ≠ (.slice (some ⟨go34,0,none⟩) y532.length co66 : Value).ownBlock ∧ k_ ≠ gb514 ∧ k_ ≠ gb524 ∧ k_ ≠ gb535 ∧ k_ ≠ gb549)) ?hr ?hp (fun _ hk => hk) ((show ∀ k_,w75.heap.size ≤ k_ → (fun k_ => some k_ ≠ (.slice Ao11 t508.length co11 : Value).ownBlock ∧ some k_ ≠ (.slice (some ad536) t511.length co13 : Value).ownBlock ∧ some k_ ≠ (.slice (some ⟨go29,0,none⟩) y521.length co50 : Value).ownBlock ∧ some k_ ≠ (.slice (some ⟨go34,0,none⟩) y532.length co66 : Value).ownBlock ∧ k_ ≠ gb514 ∧ k_ ≠ gb524 ∧ k_ ≠ gb535 ∧ k_ ≠ gb549) k_ from fun k_ hk => ⟨Kd.fresh' (Kd.R_lt (qR HO_515000)) k_ hk,Kd.fresh' (Kd.N_lt (qN HO_515001)) k_ hk,Kd.fresh' (Kd.N_lt (qN HO523)) k_ hk,Kd.fresh' (Kd.N_lt (qN HO534)) k_ hk,Kd.freshB (g:=gb514) (o:=.cells #[.slice Ao11 t508.length co11,.slice (some ad536) t511.length co13] 30 (0,0)) (qk BK514) k_ hk,Kd.freshB (g:=gb524) (o:=.cells #[.slice Ao11 t508.length co11,.slice (some ⟨go29,0,none⟩) y521.length co50] 30 (0,0)) (qk BK524) k_ hk,Kd.freshB (g:=gb535) (o:=.cells #[.slice Ao11 t508.length co11,.slice (some ⟨go34,0,none⟩) y532.length co66] 30 (0,0)) (qk BK535) k_ hk,Kd.freshB (g:=gb549) (o:=.cells #[.slice none 0 0,.slice none 0 0] 30 (0,0)) (qk BK549) k_ hk⟩) _ (Nat.le_refl _)) (Below.refl _ _) (Nat.le_refl _) Q51 ?_;(case hd => rfl);(case hg => rfl);(case hr => exact Q16);(case hp => exact (Reps.none _ _))
           intro v544 w76 ho77 hb hg_ hnew_
           clear hg_ hnew_
           (first|rw [← Ny543.out] at ho77|(simp only [Int.reduceToNat] at ho77;rw [← Ny543.out] at ho77))
           have n0_:=aM (Kd.R_below (qR HO_515000) hb)
           have n1_:=aM (Kd.N_elder' (qN HO_515001) (Kd.N_base ho77) hb)
           have n2_:=aM (Kd.N_elder' (qN HO523) (Kd.N_base ho77) hb)
           have n3_:=aM (Kd.N_elder' (qN HO534) (Kd.N_base ho77) hb)
           have n4_:=aM (Kd.V_elder' (qV HL536_0) (Kd.N_base ho77) hb)
           have n5_:=aM (Kd.V_elder' (qV HO541) (Kd.N_base ho77) hb)
           have n6_:=aM (Kd.N_lower ho77 (below_size Q18))
           have n7_:=aM (blk_below (g:=gb514) (o:=.cells #[.slice Ao11 t508.length co11,.slice (some ad536) t511.length co13] 30 (0,0)) (qk BK514) hb)
           have n8_:=aM (blk_below (g:=gb524) (o:=.cells #[.slice Ao11 t508.length co11,.slice (some ⟨go29,0,none⟩) y521.length co50] 30 (0,0)) (qk BK524) hb)
           have n9_:=aM (blk_below (g:=gb535) (o:=.cells #[.slice Ao11 t508.length co11,.slice (some ⟨go34,0,none⟩) y532.length co66] 30 (0,0)) (qk BK535) hb)
           have n10_:=aM (blk_below (g:=gb549) (o:=.cells #[.slice none 0 0,.slice none 0 0] 30 (0,0)) (qk BK549) hb)
           have n11_:=aM (below_step Q18 hb)
           clear HO_515000
           clear HO_515001
           clear HO523
           clear HO534
           clear HL536_0
           clear HO541
           clear BK514
           clear BK524
           clear BK535
           clear BK549
           clear HB
           have HO_515000:=n0_
           have HO_515001:=n1_
           have HO523:=n2_
           have HO534:=n3_
           have HL536_0:=n4_
           have HO541:=n5_
           have HO545:=n6_
           have BK514:=n7_
           have BK524:=n8_
           have BK535:=n9_
           have BK549:=n10_
           have HB:=n11_
           clear n0_ n1_ n2_ n3_ n4_ n5_ n6_ n7_ n8_ n9_ n10_ n11_
           clear hb ho77
           refine hK.out _ _ ⟨(blk_cell BK514.out 0).trans rfl,(blk_cell BK514.out 1).trans rfl⟩ (fun hHeld => ?_)
           clear hK K
           refine norm_ (a':=?_) ?_ ?_
           rotate_left
           ·show Act.put _ (some 69) _ = _
            simp only [Act.put,sI,sZ,sS,i64_w,i32_w]
            rfl
           refine one_ (i:=5) (N:=some 72) #[bT,bT,bT,bT,bT,bT,bF,bT,bF] rfl rfl (one_of HT_.out Q14) Q36 (fun K hK => ?_)
           refine Kd.N_append_rows_step (Kd.slice 3 (Kd.int .i64)) (w0:=w) w.heap.size Q70 (.tmp 69) (.tmp 71) 23 36 (.slice none 0 0) 24 rfl Try.underlying23 info36 rfl Q36 Q17 v544 y543 t511 _ _ _ (fun k_ => some k_ ≠ (.slice Ao11 t508.length co11 : Value).ownBlock ∧ some k_ ≠ (.slice (some ⟨go29,0,none⟩) y521.length co50 : Value).ownBlock ∧ some k_ ≠ (.slice (some ⟨go34,0,none⟩) y532.length co66 : Value).ownBlock ∧ k_ ≠ gb514 ∧ k_ ≠ gb524 ∧ k_ ≠ gb535 ∧ k_ ≠ gb549) (fun k_ => ((fun k_ => some k_ ≠ (.slice Ao11 t508.length co11 : Value).ownBlock ∧ some k_ ≠ (.slice (some ⟨go29,0,none⟩) y521.length co50 : Value).ownBlock ∧ some k_ ≠ (.slice (some ⟨go34,0,none⟩) y532.length co66 : Value).ownBlock ∧ k_ ≠ gb514 ∧ k_ ≠ gb524 ∧ k_ ≠ gb535 ∧ k_ ≠ gb549)) k_ ∧ some k_ ≠ (v544 : Value).ownBlock) rfl rfl ?aO ?aR (fun _ hk => hk) ?aF ?aB ?aS ?aL ?_
           (case aR => exact (by skip;exact Kd.N_F (Kd.N_mono (ok':=(fun k_ => ((fun k_ => some k_ ≠ (.slice Ao11 t508.length co11 : Value).ownBlock ∧ some k_ ≠ (.slice (some ⟨go29,0,none⟩) y521.length co50 : Value).ownBlock ∧ some k_ ≠ (.slice (some ⟨go34,0,none⟩) y532.length co66 : Value).ownBlock ∧ k_ ≠ gb514 ∧ k_ ≠ gb524 ∧ k_ ≠ gb535 ∧ k_ ≠ gb549)) k_ ∧ some k_ ≠ (v544 : Value).ownBlock)) (HO_515001.out) (fun k_ hk => ⟨⟨hk.1.1.1,⟨hk.1.1.2.1,⟨hk.1.1.2.2.1,⟨hk.1.1.2.2.2.1,⟨hk.1.1.2.2.2.2.1,⟨hk.1.1.2.2.2.2.2,hk.1.2⟩⟩⟩⟩⟩⟩,hk.2⟩))))
           (case aB => exact Q18)
           (case aF => exact (fun k_ hk => ⟨Kd.fresh' (Kd.R_lt (qR HO_515000)) k_ hk,Kd.fresh' (Kd.N_lt (qN HO523)) k_ hk,Kd.fresh' (Kd.N_lt (qN HO534)) k_ hk,Kd.freshB (g:=gb514) (o:=.cells #[.slice Ao11 t508.length co11,.slice (some ad536) t511.length co13] 30 (0,0)) (qk BK514) k_ hk,Kd.freshB (g:=gb524) (o:=.cells #[.slice Ao11 t508.length co11,.slice (some ⟨go29,0,none⟩) y521.length co50] 30 (0,0)) (qk BK524) k_ hk,Kd.freshB (g:=gb535) (o:=.cells #[.slice Ao11 t508.length co11,.slice (some ⟨go34,0,none⟩) y532.length co66] 30 (0,0)) (qk BK535) k_ hk,Kd.freshB (g:=gb549) (o:=.cells #[.slice none 0 0,.slice none 0 0] 30 (0,0)) (qk BK549) k_ hk⟩))
           (case aO => exact (by (with_reducible repeat (first|apply Kd.N_alloc|apply Kd.N_drewN|apply Kd.N_drew));exact Kd.N_mono HO545.out (fun _ hk => ⟨hk.1,⟨hk.2.2.1,⟨hk.2.2.2.1,⟨hk.2.2.2.2.1,⟨hk.2.2.2.2.2.1,⟨hk.2.2.2.2.2.2.1,hk.2.2.2.2.2.2.2⟩⟩⟩⟩⟩⟩)))
           (case aS => exact (below_size Q18))
           (case aL => have:=LMc35.out;omega)
           intro v547 w78 ho hb hg hat
           have hHN22_:=True.intro
           rw [← Ny546.out] at ho
           have n0_:=aM (Kd.R_over' (qR HO_515000) (Kd.N_typed (qN HO545)) Q36 hg)
           have n1_:=aM (Kd.N_afterv (ok:=(fun k_ => some k_ ≠ (.slice Ao11 t508.length co11 : Value).ownBlock ∧ some k_ ≠ (.slice (some ⟨go29,0,none⟩) y521.length co50 : Value).ownBlock ∧ some k_ ≠ (.slice (some ⟨go34,0,none⟩) y532.length co66 : Value).ownBlock ∧ k_ ≠ gb514 ∧ k_ ≠ gb524 ∧ k_ ≠ gb535 ∧ k_ ≠ gb549)) (by (with_reducible repeat (first|apply Kd.N_alloc|apply Kd.N_drewN|apply Kd.N_drew));exact Kd.N_mono HO_515001.out (fun _ hk => ⟨⟨hk.1.1.1,⟨hk.1.1.2.1,⟨hk.1.1.2.2.1,⟨hk.1.1.2.2.2.1,⟨hk.1.1.2.2.2.2.1,⟨hk.1.1.2.2.2.2.2,hk.1.2⟩⟩⟩⟩⟩⟩,hk.2⟩)) hg hat)
           have n2_:=aM (blk_grown (g:=gb514) (o:=.cells #[.slice Ao11 t508.length co11,.slice (some ad536) t511.length co13] 30 (0,0)) (qk BK514) hg (Kd.N_ne HO545.out BK514.out Q36))
           have n3_:=aM (Kd.N_afterv (ok:=(fun k_ => some k_ ≠ (.slice Ao11 t508.length co11 : Value).ownBlock ∧ some k_ ≠ (.slice (some ⟨go34,0,none⟩) y532.length co66 : Value).ownBlock ∧ k_ ≠ gb514 ∧ k_ ≠ gb524 ∧ k_ ≠ gb535 ∧ k_ ≠ gb549)) (by (with_reducible repeat (first|apply Kd.N_alloc|apply Kd.N_drewN|apply Kd.N_drew));exact Kd.N_mono HO523.out (fun _ hk => ⟨⟨hk.1.1.1,⟨hk.1.1.2.1,⟨hk.1.1.2.2.1,⟨hk.1.1.2.2.2.1,⟨hk.1.1.2.2.2.2,hk.1.2⟩⟩⟩⟩⟩,hk.2⟩)) hg hat)
           have n4_:=aM (blk_grown (g:=gb524) (o:=.cells #[.slice Ao11 t508.length co11,.slice (some ⟨go29,0,none⟩) y521.length co50] 30 (0,0)) (qk BK524) hg (Kd.N_ne HO545.out BK524.out Q36))
           have n5_:=aM (Kd.N_afterv (ok:=(fun k_ => some k_ ≠ (.slice Ao11 t508.length co11 : Value).ownBlock ∧ some k_ ≠ (.slice (some ⟨go29,0,none⟩) y521.length co50 : Value).ownBlock ∧ k_ ≠ gb514 ∧ k_ ≠ gb524 ∧ k_ ≠ gb535 ∧ k_ ≠ gb549)) (by (with_reducible repeat (first|apply Kd.N_alloc|apply Kd.N_drewN|apply Kd.N_drew));exact Kd.N_mono HO534.out (fun _ hk => ⟨⟨hk.1.1.1,⟨hk.1.1.2.1,⟨hk.1.1.2.2.1,⟨hk.1.1.2.2.2.1,⟨hk.1.1.2.2.2.2,hk.1.2⟩⟩⟩⟩⟩,hk.2⟩)) hg hat)
           have n6_:=aM (blk_grown (g:=gb535) (o:=.cells #[.slice Ao11 t508.length co11,.slice (some ⟨go34,0,none⟩) y532.length co66] 30 (0,0)) (qk BK535) hg (Kd.N_ne HO545.out BK535.out Q36))
           have n7_:=aM (Kd.V_afterv (ok:=(fun k_ => some k_ ≠ (.slice Ao11 t508.length co11 : Value).ownBlock ∧ some k_ ≠ (.slice (some ad536) t511.length co13 : Value).ownBlock ∧ some k_ ≠ (.slice (some ⟨go29,0,none⟩) y521.length co50 : Value).ownBlock ∧ some k_ ≠ (.slice (some ⟨go34,0,none⟩) y532.length co66 : Value).ownBlock ∧ k_ ≠ gb514 ∧ k_ ≠ gb524 ∧ k_ ≠ gb535 ∧ k_ ≠ gb549)) (by (with_reducible repeat (first|apply Kd.V_alloc|apply Kd.V_drewN|apply Kd.V_drew));exact Kd.V_mono HL536_0.out (fun _ hk => ⟨⟨hk.1.1.1,⟨hk.1.1.2.1,⟨hk.1.1.2.2.1,⟨hk.1.1.2.2.2.1,⟨hk.1.1.2.2.2.2.1,⟨hk.1.1.2.2.2.2.2.1,⟨hk.1.1.2.2.2.2.2.2,hk.1.2⟩⟩⟩⟩⟩⟩⟩,hk.2⟩)) hg hat)
           have n8_:=aM (Kd.V_afterv (ok:=(fun k_ => some k_ ≠ (.slice Ao11 t508.length co11 : Value).ownBlock ∧ some k_ ≠ (.slice (some ad536) t511.length co13 : Value).ownBlock ∧ some k_ ≠ (.slice (some ⟨go29,0,none⟩) y521.length co50 : Value).ownBlock ∧ some k_ ≠ (.slice (some ⟨go34,0,none⟩) y532.length co66 : Value).ownBlock ∧ k_ ≠ gb514 ∧ k_ ≠ gb524 ∧ k_ ≠ gb535 ∧ k_ ≠ gb549)) (by (with_reducible repeat (first|apply Kd.V_alloc|apply Kd.V_drewN|apply Kd.V_drew));exact Kd.V_mono HO541.out (fun _ hk => ⟨⟨hk.1.1.1,⟨hk.1.1.2.1,⟨hk.1.1.2.2.1,⟨hk.1.1.2.2.2.1,⟨hk.1.1.2.2.2.2.1,⟨hk.1.1.2.2.2.2.2.1,⟨hk.1.1.2.2.2.2.2.2,hk.1.2⟩⟩⟩⟩⟩⟩⟩,hk.2⟩)) hg hat)
           have n9_:=aM (blk_grown (g:=gb549) (o:=.cells #[.slice none 0 0,.slice none 0 0] 30 (0,0)) (qk BK549) hg (Kd.N_ne HO545.out BK549.out Q36))
           have n10_:=aM (hb)
           have n11_:=aM (ho)
           clear HO_515000
           clear HO_515001
           clear BK514
           clear HO523
           clear BK524
           clear HO534
           clear BK535
           clear HL536_0
           clear HO541
           clear BK549
           clear HB
           clear HO545
           have HO_515000:=n0_
           have HO_515001:=n1_
           have BK514:=n2_
           have HO523:=n3_
           have BK524:=n4_
           have HO534:=n5_
           have BK535:=n6_
           have HL536_0:=n7_
           have HO541:=n8_
           have BK549:=n9_
           have HB:=n10_
           have HO548:=n11_
           clear n0_ n1_ n2_ n3_ n4_ n5_ n6_ n7_ n8_ n9_ n10_ n11_
           clear ho hb hg hat
           obtain ⟨Ao79,co79,eo79⟩:=Kd.N_slice HO548.out
           (first|subst eo79|(injection eo79 with f1_ f2_ f3_;have f4_:=f1_.symm;have f5_:=f3_.symm;clear f1_ f2_ f3_;subst f4_;subst f5_))
           refine hK.out _ _ ⟨(blk_cell BK514.out 0).trans rfl,(blk_cell BK514.out 1).trans rfl⟩ (fun hHeld => ?_)
           clear hK K
           refine norm_ (a':=?_) ?_ ?_
           rotate_left
           ·show Act.put _ (some 72) _ = _
            simp only [Act.put,sI,sZ,sS,i64_w,i32_w]
            rfl
           refine pS HT_ 6 73 ?_
           exact norm_ Q98 (hCont (v544,.slice Ao79 y546.length co79,gb549) _ ⟨hHeld,Q96,Q105,Q104,Q97,Q103,(qR HO_515000),Q99,(qk BK514),(qk BK524),(qk BK535),(qk BK549),GW549.out,GE549.out,NB514_549.out,NB549_514.out,NB524_549.out,NB549_524.out,NB535_549.out,NB549_535.out,Q18⟩)
         rintro ⟨v544,v547,gb549⟩ w80 ⟨hS_,h0_,h1_,h2_,h3_,h4_,h5_,h6_,h7_,h8_,h9_,h10_,h11_,h12_,h13_,h14_,h15_,h16_,h17_,h18_,h19_⟩
         have n0_ : Aside0 (Kd.V (Kd.int .i64) 3 w80 w.heap.size (fun k_ => some k_ ≠ (.slice (some ⟨go29,0,none⟩) y521.length co50 : Value).ownBlock ∧ some k_ ≠ (.slice (some ⟨go34,0,none⟩) y532.length co66 : Value).ownBlock ∧ some k_ ≠ (v547 : Value).ownBlock ∧ some k_ ≠ (.slice Ao11 t508.length co11 : Value).ownBlock ∧ some k_ ≠ (.slice (some ad536) t511.length co13 : Value).ownBlock ∧ k_ ≠ gb514 ∧ k_ ≠ gb524 ∧ k_ ≠ gb535 ∧ k_ ≠ gb549) (.slice A536_0 (rd_L3 t511 (ji26)).length c536_0) (rd_L3 t511 (ji26))):=⟨h0_⟩
         have n1_ : Aside0 (Kd.N (Kd.slice 3 (Kd.int .i64)) 36 w80 w.heap.size (fun k_ => some k_ ≠ (.slice (some ⟨go34,0,none⟩) y532.length co66 : Value).ownBlock ∧ some k_ ≠ (v547 : Value).ownBlock ∧ some k_ ≠ (.slice Ao11 t508.length co11 : Value).ownBlock ∧ k_ ≠ gb514 ∧ k_ ≠ gb524 ∧ k_ ≠ gb535 ∧ k_ ≠ gb549) (.slice (some ⟨go29,0,none⟩) y521.length co50) y528):=⟨h1_⟩
         have n2_ : Aside0 (Kd.N (Kd.slice 3 (Kd.int .i64)) 36 w80 w.heap.size (fun k_ => some k_ ≠ (.slice (some ⟨go29,0,none⟩) y521.length co50 : Value).ownBlock ∧ some k_ ≠ (v547 : Value).ownBlock ∧ some k_ ≠ (.slice Ao11 t508.length co11 : Value).ownBlock ∧ k_ ≠ gb514 ∧ k_ ≠ gb524 ∧ k_ ≠ gb535 ∧ k_ ≠ gb549) (.slice (some ⟨go34,0,none⟩) y532.length co66) y542):=⟨h2_⟩
         have n3_ : Aside0 (Kd.V (Kd.int .i64) 3 w80 w.heap.size (fun k_ => some k_ ≠ (.slice (some ⟨go29,0,none⟩) y521.length co50 : Value).ownBlock ∧ some k_ ≠ (.slice (some ⟨go34,0,none⟩) y532.length co66 : Value).ownBlock ∧ some k_ ≠ (v547 : Value).ownBlock ∧ some k_ ≠ (.slice Ao11 t508.length co11 : Value).ownBlock ∧ some k_ ≠ (.slice (some ad536) t511.length co13 : Value).ownBlock ∧ k_ ≠ gb514 ∧ k_ ≠ gb524 ∧ k_ ≠ gb535 ∧ k_ ≠ gb549) (.slice A536_0 y537.length c536_0) y537):=⟨h3_⟩
         have n4_ : Aside0 (Kd.N (Kd.slice 3 (Kd.int .i64)) 36 w80 w.heap.size (fun k_ => some k_ ≠ (.slice (some ⟨go29,0,none⟩) y521.length co50 : Value).ownBlock ∧ some k_ ≠ (.slice (some ⟨go34,0,none⟩) y532.length co66 : Value).ownBlock ∧ some k_ ≠ (.slice Ao11 t508.length co11 : Value).ownBlock ∧ k_ ≠ gb514 ∧ k_ ≠ gb524 ∧ k_ ≠ gb535 ∧ k_ ≠ gb549) v547 y546):=⟨h4_⟩
         have n5_ : Aside0 (Kd.R k40 40 w80 w.heap.size (fun _ => True) (.slice Ao11 t508.length co11) t508):=⟨h5_⟩
         have n6_ : Aside0 (Kd.N (Kd.slice 3 (Kd.int .i64)) 36 w80 w.heap.size (fun k_ => some k_ ≠ (.slice (some ⟨go29,0,none⟩) y521.length co50 : Value).ownBlock ∧ some k_ ≠ (.slice (some ⟨go34,0,none⟩) y532.length co66 : Value).ownBlock ∧ some k_ ≠ (v547 : Value).ownBlock ∧ some k_ ≠ (.slice Ao11 t508.length co11 : Value).ownBlock ∧ k_ ≠ gb514 ∧ k_ ≠ gb524 ∧ k_ ≠ gb535 ∧ k_ ≠ gb549) (.slice (some ad536) t511.length co13) t511):=⟨h6_⟩
         have n7_ : Aside0 (w80.heap[gb514]? = some (.cells #[.slice Ao11 t508.length co11,.slice (some ad536) t511.length co13] 30 (0,0))):=⟨h7_⟩
         have n8_ : Aside0 (w80.heap[gb524]? = some (.cells #[.slice Ao11 t508.length co11,.slice (some ⟨go29,0,none⟩) y521.length co50] 30 (0,0))):=⟨h8_⟩
         have n9_ : Aside0 (w80.heap[gb535]? = some (.cells #[.slice Ao11 t508.length co11,.slice (some ⟨go34,0,none⟩) y532.length co66] 30 (0,0))):=⟨h9_⟩
         have n10_ : Aside0 (w80.heap[gb549]? = some (.cells #[.slice none 0 0,.slice none 0 0] 30 (0,0))):=⟨h10_⟩
         have n11_ : Aside0 (w.heap.size ≤ gb549):=⟨h11_⟩
         have n12_ : Aside0 (w.heap.size ≤ gb549):=⟨h12_⟩
         have n13_ : Aside0 (gb514 ≠ gb549):=⟨h13_⟩
         have n14_ : Aside0 (gb549 ≠ gb514):=⟨h14_⟩
         have n15_ : Aside0 (gb524 ≠ gb549):=⟨h15_⟩
         have n16_ : Aside0 (gb549 ≠ gb524):=⟨h16_⟩
         have n17_ : Aside0 (gb535 ≠ gb549):=⟨h17_⟩
         have n18_ : Aside0 (gb549 ≠ gb535):=⟨h18_⟩
         have n19_ : Aside0 (Below w.heap.size w w80):=⟨h19_⟩
         clear HO_515000
         clear HO_515001
         clear HO523
         clear HO534
         clear HL536_0
         clear HO541
         clear BK514
         clear BK524
         clear BK535
         clear HB
         clear h0_ h1_ h2_ h3_ h4_ h5_ h6_ h7_ h8_ h9_ h10_ h11_ h12_ h13_ h14_ h15_ h16_ h17_ h18_ h19_
         have HL536_0:=n0_
         have HO523:=n1_
         have HO534:=n2_
         have HO541:=n3_
         have HO548:=n4_
         have HO_515000:=n5_
         have HO_515001:=n6_
         have BK514:=n7_
         have BK524:=n8_
         have BK535:=n9_
         have BK549:=n10_
         have GW549:=n11_
         have GE549:=n12_
         have NB514_549:=n13_
         have NB549_514:=n14_
         have NB524_549:=n15_
         have NB549_524:=n16_
         have NB535_549:=n17_
         have NB549_535:=n18_
         have HB:=n19_
         clear n0_ n1_ n2_ n3_ n4_ n5_ n6_ n7_ n8_ n9_ n10_ n11_ n12_ n13_ n14_ n15_ n16_ n17_ n18_ n19_
         have hHeld : w80.cell? ⟨gb514,0,none⟩ = some (.slice Ao11 t508.length co11) ∧ w80.cell? ⟨gb514,1,none⟩ = some (.slice (some ad536) t511.length co13):=hS_
         obtain ⟨Ao81,co81,eo81⟩:=Kd.N_slice HO548.out
         (first|subst eo81|(injection eo81 with f1_ f2_ f3_;have f4_:=f1_.symm;have f5_:=f3_.symm;clear f1_ f2_ f3_;subst f4_;subst f5_))
         refine norm_ (a':=?_) ?_ ?_
         rotate_left
         ·simp only [putAll,Act.put,sI,sZ,sS]
          rfl
         refine one_ (i:=8) (N:=none) #[bT,bT,bT,bT,bT,bT,bT,bT,bT] rfl rfl (one_of HT_.out Q14) Q36 (fun K hK => ?_)
         have hs82 : w80.cell? ⟨gb549,0,none⟩ = some (.slice none 0 0):=(blk_cell BK549.out 0).trans rfl
         have hfs82:=blk_frozen BK549.out 0
         have hns82_0:=NB514_549.out
         have hns82_1:=NB524_549.out
         have hns82_2:=NB535_549.out
         have hms82_0:=NB549_514.out
         have hms82_1:=NB549_524.out
         have hms82_2:=NB549_535.out
         have hs83 : w80.cell? ⟨gb549,1,none⟩ = some (.slice none 0 0):=(blk_cell BK549.out 1).trans rfl
         have hfs83:=blk_frozen BK549.out 1
         have hns83_0:=NB514_549.out
         have hns83_1:=NB524_549.out
         have hns83_2:=NB535_549.out
         have hms83_0:=NB549_514.out
         have hms83_1:=NB549_524.out
         have hms83_2:=NB549_535.out
         refine skip_ (w1:=?_) Q70 rfl ?_ ?_
         rotate_left
         ·go_simp
          rfl
         refine hK.out _ _ ⟨((cell_far (p:=⟨gb549,_,none⟩) NB514_549.out _).trans (((cell_far (p:=⟨gb549,_,none⟩) NB514_549.out _).trans (hHeld.1)))),((cell_far (p:=⟨gb549,_,none⟩) NB514_549.out _).trans (((cell_far (p:=⟨gb549,_,none⟩) NB514_549.out _).trans (hHeld.2))))⟩ (fun hHeld => ?_)
         clear hK K
         refine done_ (done_of HT_.out Q14) ?_
         have hnb84:=NB549_514.out
         have hnc84:=NB514_549.out
         have hnb85:=NB549_524.out
         have hnc85:=NB524_549.out
         have hnb86:=NB549_535.out
         have hnc86:=NB535_549.out
         have hcz87_0 : w80.cell? ⟨gb549,0,none⟩ = some (.slice none 0 0):=(blk_cell BK549.out 0).trans rfl
         have hcz87_1 : w80.cell? ⟨gb549,1,none⟩ = some (.slice none 0 0):=(blk_cell BK549.out 1).trans rfl
         have hfz87_0:=blk_frozen BK549.out 0
         have hfz87_1:=blk_frozen BK549.out 1
         try go_wp2_with (first|((with_reducible refine gate_dst (N:=77) rfl ?_);(try (refine gate_guard Q70 ?_;dsimp only));refine Kd.R_lit (Kd.int .i64) _ 3 ?hg (N:=77) ?hd (xs:=([1,2,2] : List Int)) (inner:=[.int .i64 1,.int .i64 2,.int .i64 2]) (ok:=fun _ => True) (okp:=fun _ => True) ?hr ?hp (fun _ hk => hk) trivial (Below.refl _ _) (Nat.le_refl _) Q51 ?_;(case hd => rfl);(case hg => rfl);(case hr => exact Q16);(case hp => exact (Reps.one (show Kd.M (Kd.int .i64) _ _ _ 1 [.int .i64 1] from rfl) (Reps.one (show Kd.M (Kd.int .i64) _ _ _ 2 [.int .i64 2] from rfl) (Reps.one (show Kd.M (Kd.int .i64) _ _ _ 2 [.int .i64 2] from rfl) (Reps.none _ _)))));intro v551 w88 ho89 hb hg_ hnew_;clear hg_ hnew_;(first|rw [← Ny550.out] at ho89|(simp only [Int.reduceToNat] at ho89;rw [← Ny550.out] at ho89));obtain ⟨Av551,cv551,ev551_⟩:=Kd.R_slice ho89;subst ev551_;have n0_:=aM (Kd.R_below (by (with_reducible repeat (first|apply Kd.R_alloc|apply Kd.R_drewN|apply Kd.R_drew));exact (Kd.R_mono (Kd.R_far (p:=⟨gb549,1,none⟩) (Kd.R_far (p:=⟨gb549,0,none⟩) (Kd.R_types HO_515000.out BK549.out Q36) (fun _ hk => hk.2) (.slice Ao11 t508.length co11)) (fun _ hk => hk.2) (.slice Ao81 y546.length co81)) (fun _ h_ => h_.1))) hb);have n1_:=aM (Kd.N_elder' (by (with_reducible repeat (first|apply Kd.N_alloc|apply Kd.N_drewN|apply Kd.N_drew));exact (Kd.N_mono (Kd.N_far (p:=⟨gb549,1,none⟩) (Kd.N_far (p:=⟨gb549,0,none⟩) (Kd.N_mono HO_515001.out (fun k_ hk => (⟨hk,hk.2.2.2.2.2.2.2⟩ : _ ∧ k_ ≠ gb549))) (fun _ hk => hk.2) (.slice Ao11 t508.length co11)) (fun _ hk => hk.2) (.slice Ao81 y546.length co81)) (fun _ h_ => h_.1))) (Kd.R_base ho89) hb);have n2_:=aM (Kd.N_elder' (by (with_reducible repeat (first|apply Kd.N_alloc|apply Kd.N_drewN|apply Kd.N_drew));exact (Kd.N_mono (Kd.N_far (p:=⟨gb549,1,none⟩) (Kd.N_far (p:=⟨gb549,0,none⟩) (Kd.N_mono HO523.out (fun k_ hk => (⟨hk,hk.2.2.2.2.2.2⟩ : _ ∧ k_ ≠ gb549))) (fun _ hk => hk.2) (.slice Ao11 t508.length co11)) (fun _ hk => hk.2) (.slice Ao81 y546.length co81)) (fun _ h_ => h_.1))) (Kd.R_base ho89) hb);have n3_:=aM (Kd.N_elder' (by (with_reducible repeat (first|apply Kd.N_alloc|apply Kd.N_drewN|apply Kd.N_drew));exact (Kd.N_mono (Kd.N_far (p:=⟨gb549,1,none⟩) (Kd.N_far (p:=⟨gb549,0,none⟩) (Kd.N_mono HO534.out (fun k_ hk => (⟨hk,hk.2.2.2.2.2.2⟩ : _ ∧ k_ ≠ gb549))) (fun _ hk => hk.2) (.slice Ao11 t508.length co11)) (fun _ hk => hk.2) (.slice Ao81 y546.length co81)) (fun _ h_ => h_.1))) (Kd.R_base ho89) hb);have n4_:=aM (Kd.V_elder' (by (with_reducible repeat (first|apply Kd.V_alloc|apply Kd.V_drewN|apply Kd.V_drew));exact (Kd.V_mono (Kd.V_far (p:=⟨gb549,1,none⟩) (Kd.V_far (p:=⟨gb549,0,none⟩) (Kd.V_mono HL536_0.out (fun k_ hk => (⟨hk,hk.2.2.2.2.2.2.2.2⟩ : _ ∧ k_ ≠ gb549))) (fun _ hk => hk.2) (.slice Ao11 t508.length co11)) (fun _ hk => hk.2) (.slice Ao81 y546.length co81)) (fun _ h_ => h_.1))) (Kd.R_base ho89) hb);have n5_:=aM (Kd.V_elder' (by (with_reducible repeat (first|apply Kd.V_alloc|apply Kd.V_drewN|apply Kd.V_drew));exact (Kd.V_mono (Kd.V_far (p:=⟨gb549,1,none⟩) (Kd.V_far (p:=⟨gb549,0,none⟩) (Kd.V_mono HO541.out (fun k_ hk => (⟨hk,hk.2.2.2.2.2.2.2.2⟩ : _ ∧ k_ ≠ gb549))) (fun _ hk => hk.2) (.slice Ao11 t508.length co11)) (fun _ hk => hk.2) (.slice Ao81 y546.length co81)) (fun _ h_ => h_.1))) (Kd.R_base ho89) hb);have n6_:=aM (Kd.N_elder' (by (with_reducible repeat (first|apply Kd.N_alloc|apply Kd.N_drewN|apply Kd.N_drew));exact (Kd.N_mono (Kd.N_far (p:=⟨gb549,1,none⟩) (Kd.N_far (p:=⟨gb549,0,none⟩) (Kd.N_mono HO548.out (fun k_ hk => (⟨hk,hk.2.2.2.2.2.2⟩ : _ ∧ k_ ≠ gb549))) (fun _ hk => hk.2) (.slice Ao11 t508.length co11)) (fun _ hk => hk.2) (.slice Ao81 y546.length co81)) (fun _ h_ => h_.1))) (Kd.R_base ho89) hb);have n7_:=aM (Kd.R_lower ho89 (below_size Q18));have n8_:=aM (blk_below (g:=gb514) (o:=.cells #[.slice Ao11 t508.length co11,.slice (some ad536) t511.length co13] 30 (0,0)) (by (with_reducible repeat (first|refine blk_drewN ?_ _|refine blk_drew ?_|refine blk_alloc ?_ _));refine blk_far ?_ NB514_549.out _;(with_reducible repeat (first|refine blk_drewN ?_ _|refine blk_drew ?_|refine blk_alloc ?_ _));refine blk_far ?_ NB514_549.out _;(with_reducible repeat (first|refine blk_drewN ?_ _|refine blk_drew ?_|refine blk_alloc ?_ _));exact BK514.out) hb);have n9_:=aM (blk_below (g:=gb524) (o:=.cells #[.slice Ao11 t508.length co11,.slice (some ⟨go29,0,none⟩) y521.length co50] 30 (0,0)) (by (with_reducible repeat (first|refine blk_drewN ?_ _|refine blk_drew ?_|refine blk_alloc ?_ _));refine blk_far ?_ NB524_549.out _;(with_reducible repeat (first|refine blk_drewN ?_ _|refine blk_drew ?_|refine blk_alloc ?_ _));refine blk_far ?_ NB524_549.out _;(with_reducible repeat (first|refine blk_drewN ?_ _|refine blk_drew ?_|refine blk_alloc ?_ _));exact BK524.out) hb);have n10_:=aM (blk_below (g:=gb535) (o:=.cells #[.slice Ao11 t508.length co11,.slice (some ⟨go34,0,none⟩) y532.length co66] 30 (0,0)) (by (with_reducible repeat (first|refine blk_drewN ?_ _|refine blk_drew ?_|refine blk_alloc ?_ _));refine blk_far ?_ NB535_549.out _;(with_reducible repeat (first|refine blk_drewN ?_ _|refine blk_drew ?_|refine blk_alloc ?_ _));refine blk_far ?_ NB535_549.out _;(with_reducible repeat (first|refine blk_drewN ?_ _|refine blk_drew ?_|refine blk_alloc ?_ _));exact BK535.out) hb);have n11_:=aM (blk_below (g:=gb549) (o:=.cells #[.slice Ao11 t508.length co11,.slice Ao81 y546.length co81] 30 (0,0)) (by (with_reducible repeat (first|refine blk_drewN ?_ _|refine blk_drew ?_|refine blk_alloc ?_ _));refine blk_put (cs:=#[.slice Ao11 t508.length co11,.slice none 0 0]) ?_ 1 _ rfl;(with_reducible repeat (first|refine blk_drewN ?_ _|refine blk_drew ?_|refine blk_alloc ?_ _));refine blk_put (cs:=#[.slice none 0 0,.slice none 0 0]) ?_ 0 _ rfl;(with_reducible repeat (first|refine blk_drewN ?_ _|refine blk_drew ?_|refine blk_alloc ?_ _));exact BK549.out) hb);have n12_:=aM (below_step Q18 hb);clear HO_515000;clear HO_515001;clear HO523;clear HO534;clear HL536_0;clear HO541;clear HO548;clear BK514;clear BK524;clear BK535;clear BK549;clear HB;have HO_515000:=n0_;have HO_515001:=n1_;have HO523:=n2_;have HO534:=n3_;have HL536_0:=n4_;have HO541:=n5_;have HO548:=n6_;have HO552:=n7_;have BK514:=n8_;have BK524:=n9_;have BK535:=n10_;have BK549:=n11_;have HB:=n12_;clear n0_ n1_ n2_ n3_ n4_ n5_ n6_ n7_ n8_ n9_ n10_ n11_ n12_;clear hb ho89;have p37 : 0 ≤ ((ji26) : Int):=of_decide_eq_true Q5;have q37 : ((ji26) : Int) < ((y546.length : Int) : Int):=of_decide_eq_true Q5;obtain ⟨go37,co37,eo37,gb37,gl37,cl37,HG37⟩:=Kd.N_form HO548.out Q17;(first|cases eo37|(injection eo37 with ea_ en_ ec_;(first|subst ea_|(injection ea_ with ea_;subst ea_));subst ec_;clear en_));have GB37:=aM gb37;have GG37:=aM HG37;clear gb37 gl37 HG37;obtain ⟨ce37,hcl37,hM37,hcc37,hfr37⟩:=Kd.N_elem HO548.out [] ((ji26) : Int) p37 q37;obtain ⟨ua37_0,uc37_0,rfl,ul37_0,ge37_0⟩:=Kd.FK_slice_open hM37;have hx37_0:=hcc37 0 _ rfl;have hf37_0:=hfr37 0;(try simp only [show ((Kd.slice 3 (Kd.int .i64))).sz = 1 from rfl,Nat.mul_one,Nat.add_zero] at hx37_0);(try simp only [show ((Kd.slice 3 (Kd.int .i64))).sz = 1 from rfl,Nat.mul_one,Nat.add_zero] at hf37_0);clear hcl37 hcc37 hfr37 hM37;replace p37:=eq_true p37;replace q37:=eq_true q37;have n_:=aM (Kd.N_mono (ok':=(fun k_ => some k_ ≠ (.slice Ao11 t508.length co11 : Value).ownBlock ∧ some k_ ≠ (.slice (some ⟨go29,0,none⟩) y521.length co50 : Value).ownBlock ∧ some k_ ≠ (.slice (some ⟨go34,0,none⟩) y532.length co66 : Value).ownBlock ∧ some k_ ≠ (.slice Av551 y550.length cv551 : Value).ownBlock ∧ k_ ≠ gb514 ∧ k_ ≠ gb524 ∧ k_ ≠ gb535 ∧ k_ ≠ gb549)) HO548.out (fun k_ hk => ⟨hk.1.2.2.1,⟨hk.1.1,⟨hk.1.2.1,⟨hk.2,⟨hk.1.2.2.2.1,⟨hk.1.2.2.2.2.1,⟨hk.1.2.2.2.2.2.1,hk.1.2.2.2.2.2.2⟩⟩⟩⟩⟩⟩⟩));clear HO548;have HO548:=n_;clear n_;have HX90:=aM (show Kd.N (Kd.slice 3 (Kd.int .i64)) 36 w88 w.heap.size (fun k_ => some k_ ≠ (.slice Ao11 t508.length co11 : Value).ownBlock ∧ some k_ ≠ (.slice (some ⟨go29,0,none⟩) y521.length co50 : Value).ownBlock ∧ some k_ ≠ (.slice (some ⟨go34,0,none⟩) y532.length co66 : Value).ownBlock ∧ k_ ≠ gb514 ∧ k_ ≠ gb524 ∧ k_ ≠ gb535 ∧ k_ ≠ gb549) (.slice (some ⟨go37,0,none⟩) y546.length co81) y546 from (by (with_reducible repeat (first|apply Kd.N_alloc|apply Kd.N_drewN|apply Kd.N_drew));exact Kd.N_mono HO548.out (fun _ hk => ⟨hk.1,⟨hk.2.1,⟨hk.2.2.1,⟨hk.2.2.2.2.1,⟨hk.2.2.2.2.2.1,⟨hk.2.2.2.2.2.2.1,hk.2.2.2.2.2.2.2⟩⟩⟩⟩⟩⟩)));obtain ⟨ce90,hcl90,hM90,hcc90,hfr90⟩:=Kd.N_elem HX90.out [] ((ji26) : Int) (of_decide_eq_true Q5) Q134;obtain ⟨ua90_0,uc90_0,rfl,ul90_0,ge90_0⟩:=Kd.FK_slice_open hM90;have HP90:=Kd.N_seg HX90.out ((ji26) : Int) (of_decide_eq_true Q5) Q134 (seg:=[.slice Av551 y550.length cv551]) (j:=0) hcl90 hcc90 (show 1 ≤ 1 from Q36) (x':=y550) (Kd.FK_slice_mk (Kd.R_reads' (Kd.R_mono (ok':=(fun k_ => ((fun k_ => some k_ ≠ (.slice Ao11 t508.length co11 : Value).ownBlock ∧ some k_ ≠ (.slice (some ⟨go29,0,none⟩) y521.length co50 : Value).ownBlock ∧ some k_ ≠ (.slice (some ⟨go34,0,none⟩) y532.length co66 : Value).ownBlock ∧ k_ ≠ gb514 ∧ k_ ≠ gb524 ∧ k_ ≠ gb535 ∧ k_ ≠ gb549)) k_ ∧ k_ ≠ go37)) (Kd.R_types (Kd.R_types (Kd.R_types (Kd.R_types (Kd.R_apart' (Kd.R_apart' (Kd.R_apart' (Kd.R_apart' (HO552.out) (Kd.R_typed HO_515000.out) Q36) (Kd.N_typed HO523.out) Q36) (Kd.N_typed HO534.out) Q36) (Kd.N_typed HO548.out) Q36) BK514.out Q36) BK524.out Q36) BK535.out Q36) BK549.out Q36) (fun k_ hk => ⟨⟨hk.1.1.1.1.1.1.1.2,⟨hk.1.1.1.1.1.1.2,⟨hk.1.1.1.1.1.2,⟨hk.1.1.1.2,⟨hk.1.1.2,⟨hk.1.2,hk.2⟩⟩⟩⟩⟩⟩,fun e_ => (hk.1.1.1.1.2) Q118⟩))).2.1 (Kd.R_F (Kd.R_mono (ok':=(fun k_ => ((fun k_ => some k_ ≠ (.slice Ao11 t508.length co11 : Value).ownBlock ∧ some k_ ≠ (.slice (some ⟨go29,0,none⟩) y521.length co50 : Value).ownBlock ∧ some k_ ≠ (.slice (some ⟨go34,0,none⟩) y532.length co66 : Value).ownBlock ∧ k_ ≠ gb514 ∧ k_ ≠ gb524 ∧ k_ ≠ gb535 ∧ k_ ≠ gb549)) k_ ∧ k_ ≠ go37)) (Kd.R_types (Kd.R_types (Kd.R_types (Kd.R_types (Kd.R_apart' (Kd.R_apart' (Kd.R_apart' (Kd.R_apart' (HO552.out) (Kd.R_typed HO_515000.out) Q36) (Kd.N_typed HO523.out) Q36) (Kd.N_typed HO534.out) Q36) (Kd.N_typed HO548.out) Q36) BK514.out Q36) BK524.out Q36) BK535.out Q36) BK549.out Q36) (fun k_ hk => ⟨⟨hk.1.1.1.1.1.1.1.2,⟨hk.1.1.1.1.1.1.2,⟨hk.1.1.1.1.1.2,⟨hk.1.1.1.2,⟨hk.1.1.2,⟨hk.1.2,hk.2⟩⟩⟩⟩⟩⟩,fun e_ => (hk.1.1.1.1.2) Q118⟩)))) (fun _ hk => hk);have hx90_0:=hcc90 0 _ rfl;(try simp only [show ((Kd.slice 3 (Kd.int .i64))).sz = 1 from rfl,Nat.mul_one,Nat.add_zero] at hx90_0);have hf90_0:=hfr90 0;(try simp only [show ((Kd.slice 3 (Kd.int .i64))).sz = 1 from rfl,Nat.mul_one,Nat.add_zero] at hf90_0);clear hcl90 hcc90 hfr90 hM90;(try simp only [show ((Kd.slice 3 (Kd.int .i64))).sz = 1 from rfl,Nat.mul_one,Nat.add_zero] at HP90);(try simp only [show ((Kd.slice 3 (Kd.int .i64))).sz = 1 from rfl,Nat.mul_one,Nat.add_zero] at HP90))|((with_reducible refine gate_store (t:=36) (p:=78) rfl ?_);refine store_event (t:=36) (p:=78) (v:=?vo_w91) (w1:=(w88.setCell ⟨go37,((ji26) : Int).toNat,none⟩ (.slice Av551 y550.length cv551))) ?hg ?ho ?hn ?hr ?_;(case ho => rfl);(case hg => rfl);(case hn => rfl);(case hr => exact Q16);intro w91 hw;have hg : w88.grownBy w91 (some go37):=(by rw [hw];exact HP90.2);have hp_ : Kd.N (Kd.slice 3 (Kd.int .i64)) 36 w91 w.heap.size (fun k_ => some k_ ≠ (.slice Ao11 t508.length co11 : Value).ownBlock ∧ some k_ ≠ (.slice (some ⟨go29,0,none⟩) y521.length co50 : Value).ownBlock ∧ some k_ ≠ (.slice (some ⟨go34,0,none⟩) y532.length co66 : Value).ownBlock ∧ k_ ≠ gb514 ∧ k_ ≠ gb524 ∧ k_ ≠ gb535 ∧ k_ ≠ gb549) (.slice (some ⟨go37,0,none⟩) y546.length co81) y553:=(by rw [hw,Ny553.out];exact HP90.1);clear HP90;have n0_:=aM (Kd.R_over' (v:=(.slice (some ⟨go37,0,none⟩) y546.length co81)) (qR HO_515000) (Kd.N_typed HO548.out) Q36 hg);have n1_:=aM (Kd.N_afterv (v:=(.slice (some ⟨go37,0,none⟩) y546.length co81)) (v1:=(.slice (some ⟨go37,0,none⟩) y546.length co81)) (ok:=(fun k_ => some k_ ≠ (.slice Ao11 t508.length co11 : Value).ownBlock ∧ some k_ ≠ (.slice (some ⟨go29,0,none⟩) y521.length co50 : Value).ownBlock ∧ some k_ ≠ (.slice (some ⟨go34,0,none⟩) y532.length co66 : Value).ownBlock ∧ some k_ ≠ (.slice Av551 y550.length cv551 : Value).ownBlock ∧ k_ ≠ gb514 ∧ k_ ≠ gb524 ∧ k_ ≠ gb535 ∧ k_ ≠ gb549)) (by (with_reducible repeat (first|apply Kd.N_alloc|apply Kd.N_drewN|apply Kd.N_drew));exact Kd.N_mono HO_515001.out (fun _ hk => ⟨⟨hk.1.2.2.2.1,⟨hk.1.1,⟨hk.1.2.1,⟨hk.2,⟨hk.1.2.2.2.2.1,⟨hk.1.2.2.2.2.2.1,⟨hk.1.2.2.2.2.2.2.1,hk.1.2.2.2.2.2.2.2⟩⟩⟩⟩⟩⟩⟩,hk.1.2.2.1⟩)) hg (.inl rfl));have n2_:=aM (blk_grown (g:=gb514) (o:=.cells #[.slice Ao11 t508.length co11,.slice (some ad536) t511.length co13] 30 (0,0)) (qk BK514) hg (Kd.N_ne HO548.out BK514.out Q36));have n3_:=aM (Kd.N_afterv (v:=(.slice (some ⟨go37,0,none⟩) y546.length co81)) (v1:=(.slice (some ⟨go37,0,none⟩) y546.length co81)) (ok:=(fun k_ => some k_ ≠ (.slice Ao11 t508.length co11 : Value).ownBlock ∧ some k_ ≠ (.slice (some ⟨go34,0,none⟩) y532.length co66 : Value).ownBlock ∧ some k_ ≠ (.slice Av551 y550.length cv551 : Value).ownBlock ∧ k_ ≠ gb514 ∧ k_ ≠ gb524 ∧ k_ ≠ gb535 ∧ k_ ≠ gb549)) (by (with_reducible repeat (first|apply Kd.N_alloc|apply Kd.N_drewN|apply Kd.N_drew));exact Kd.N_mono HO523.out (fun _ hk => ⟨⟨hk.1.2.2.1,⟨hk.1.1,⟨hk.2,⟨hk.1.2.2.2.1,⟨hk.1.2.2.2.2.1,⟨hk.1.2.2.2.2.2.1,hk.1.2.2.2.2.2.2⟩⟩⟩⟩⟩⟩,hk.1.2.1⟩)) hg (.inl rfl));have n4_:=aM (blk_grown (g:=gb524) (o:=.cells #[.slice Ao11 t508.length co11,.slice (some ⟨go29,0,none⟩) y521.length co50] 30 (0,0)) (qk BK524) hg (Kd.N_ne HO548.out BK524.out Q36));have n5_:=aM (Kd.N_afterv (v:=(.slice (some ⟨go37,0,none⟩) y546.length co81)) (v1:=(.slice (some ⟨go37,0,none⟩) y546.length co81)) (ok:=(fun k_ => some k_ ≠ (.slice Ao11 t508.length co11 : Value).ownBlock ∧ some k_ ≠ (.slice (some ⟨go29,0,none⟩) y521.length co50 : Value).ownBlock ∧ some k_ ≠ (.slice Av551 y550.length cv551 : Value).ownBlock ∧ k_ ≠ gb514 ∧ k_ ≠ gb524 ∧ k_ ≠ gb535 ∧ k_ ≠ gb549)) (by (with_reducible repeat (first|apply Kd.N_alloc|apply Kd.N_drewN|apply Kd.N_drew));exact Kd.N_mono HO534.out (fun _ hk => ⟨⟨hk.1.2.2.1,⟨hk.1.1,⟨hk.2,⟨hk.1.2.2.2.1,⟨hk.1.2.2.2.2.1,⟨hk.1.2.2.2.2.2.1,hk.1.2.2.2.2.2.2⟩⟩⟩⟩⟩⟩,hk.1.2.1⟩)) hg (.inl rfl));have n6_:=aM (blk_grown (g:=gb535) (o:=.cells #[.slice Ao11 t508.length co11,.slice (some ⟨go34,0,none⟩) y532.length co66] 30 (0,0)) (qk BK535) hg (Kd.N_ne HO548.out BK535.out Q36));have n7_:=aM (Kd.V_afterv (v:=(.slice (some ⟨go37,0,none⟩) y546.length co81)) (v1:=(.slice (some ⟨go37,0,none⟩) y546.length co81)) (ok:=(fun k_ => some k_ ≠ (.slice Ao11 t508.length co11 : Value).ownBlock ∧ some k_ ≠ (.slice (some ad536) t511.length co13 : Value).ownBlock ∧ some k_ ≠ (.slice (some ⟨go29,0,none⟩) y521.length co50 : Value).ownBlock ∧ some k_ ≠ (.slice (some ⟨go34,0,none⟩) y532.length co66 : Value).ownBlock ∧ some k_ ≠ (.slice Av551 y550.length cv551 : Value).ownBlock ∧ k_ ≠ gb514 ∧ k_ ≠ gb524 ∧ k_ ≠ gb535 ∧ k_ ≠ gb549)) (by (with_reducible repeat (first|apply Kd.V_alloc|apply Kd.V_drewN|apply Kd.V_drew));exact Kd.V_mono HL536_0.out (fun _ hk => ⟨⟨hk.1.2.2.2.1,⟨hk.1.2.2.2.2.1,⟨hk.1.1,⟨hk.1.2.1,⟨hk.2,⟨hk.1.2.2.2.2.2.1,⟨hk.1.2.2.2.2.2.2.1,⟨hk.1.2.2.2.2.2.2.2.1,hk.1.2.2.2.2.2.2.2.2⟩⟩⟩⟩⟩⟩⟩⟩,hk.1.2.2.1⟩)) hg (.inl rfl));have n8_:=aM (Kd.V_afterv (v:=(.slice (some ⟨go37,0,none⟩) y546.length co81)) (v1:=(.slice (some ⟨go37,0,none⟩) y546.length co81)) (ok:=(fun k_ => some k_ ≠ (.slice Ao11 t508.length co11 : Value).ownBlock ∧ some k_ ≠ (.slice (some ad536) t511.length co13 : Value).ownBlock ∧ some k_ ≠ (.slice (some ⟨go29,0,none⟩) y521.length co50 : Value).ownBlock ∧ some k_ ≠ (.slice (some ⟨go34,0,none⟩) y532.length co66 : Value).ownBlock ∧ some k_ ≠ (.slice Av551 y550.length cv551 : Value).ownBlock ∧ k_ ≠ gb514 ∧ k_ ≠ gb524 ∧ k_ ≠ gb535 ∧ k_ ≠ gb549)) (by (with_reducible repeat (first|apply Kd.V_alloc|apply Kd.V_drewN|apply Kd.V_drew));exact Kd.V_mono HO541.out (fun _ hk => ⟨⟨hk.1.2.2.2.1,⟨hk.1.2.2.2.2.1,⟨hk.1.1,⟨hk.1.2.1,⟨hk.2,⟨hk.1.2.2.2.2.2.1,⟨hk.1.2.2.2.2.2.2.1,⟨hk.1.2.2.2.2.2.2.2.1,hk.1.2.2.2.2.2.2.2.2⟩⟩⟩⟩⟩⟩⟩⟩,hk.1.2.2.1⟩)) hg (.inl rfl));have n9_:=aM (hp_);have n10_:=aM (blk_grown (g:=gb549) (o:=.cells #[.slice Ao11 t508.length co11,.slice (some ⟨go37,0,none⟩) y546.length co81] 30 (0,0)) (qk BK549) hg (Kd.N_ne HO548.out BK549.out Q36));have n11_:=aM ((by rw [hw];exact below_set (HB.out) GB37.out : Below w.heap.size w w91));clear HO_515000;clear HO_515001;clear BK514;clear HO523;clear BK524;clear HO534;clear BK535;clear HL536_0;clear HO541;clear HO548;clear BK549;clear HB;clear HO552;have HO_515000:=n0_;have HO_515001:=n1_;have BK514:=n2_;have HO523:=n3_;have BK524:=n4_;have HO534:=n5_;have BK535:=n6_;have HL536_0:=n7_;have HO541:=n8_;have HO548:=n9_;have BK549:=n10_;have HB:=n11_;clear n0_ n1_ n2_ n3_ n4_ n5_ n6_ n7_ n8_ n9_ n10_ n11_;clear hg hw hp_;have hnb92:=NB524_535.out;have hnc92:=NB535_524.out;have hcz93_0 : w91.cell? ⟨gb524,0,none⟩ = some (.slice Ao11 t508.length co11):=(blk_cell BK524.out 0).trans rfl;have hcz93_1 : w91.cell? ⟨gb524,1,none⟩ = some (.slice (some ⟨go29,0,none⟩) y521.length co50):=(blk_cell BK524.out 1).trans rfl;have hfz93_0:=blk_frozen BK524.out 0;have hfz93_1:=blk_frozen BK524.out 1)|((with_reducible refine gate_callee (f:=9) rfl ?_);refine goesL_ (some 80) rfl rfl Try.func9 Q14 rfl #[.agg #[.slice Ao11 t508.length co11,.slice (some ⟨go29,0,none⟩) y528.length co50]] rfl (by (try simp only [List.map_toArray,List.map_cons,List.map_nil]);first|done|(rw [show y528.length = y521.length from (Kd.N_reads' HO523.out).1.symm] <;> rfl)|rfl|(simp only [List.length_drop,List.length_take];rfl)) ?_;(with_reducible refine (impl_CertOk.calls kj7 _ _ t508 _ _ y528 true _ ?side1 ?side2 ?side3 ?side4 A38.out).mono ?_);(case side1 => exact Q62);(case side2 => exact (Kd.R_reads' HO_515000.out).2.1);(case side3 => repeat (first|exact (Kd.N_reads' HO523.out).2.2|(with_reducible refine Kd.C_alloc ?_ _)|(with_reducible refine Kd.C_drewN ?_ _)|(with_reducible refine Kd.C_drew ?_)));(case side4 => rw [show y528.length = y521.length from (Kd.N_reads' HO523.out).1.symm];exact (Kd.N_reads' HO523.out).2.1);rintro e w94 ⟨rfl,hb⟩;refine ⟨_,rfl,?_⟩;have n0_:=aM (Kd.R_below (qR HO_515000) hb);have n1_:=aM (Kd.N_below (qN HO_515001) hb);have n2_:=aM (Kd.N_below (qN HO523) hb);have n3_:=aM (Kd.N_below (qN HO534) hb);have n4_:=aM (Kd.V_below (qV HL536_0) hb);have n5_:=aM (Kd.V_below (qV HO541) hb);have n6_:=aM (Kd.N_below (qN HO548) hb);have n7_:=aM (blk_below (g:=gb514) (o:=.cells #[.slice Ao11 t508.length co11,.slice (some ad536) t511.length co13] 30 (0,0)) (qk BK514) hb);have n8_:=aM (blk_below (g:=gb524) (o:=.cells #[.slice Ao11 t508.length co11,.slice (some ⟨go29,0,none⟩) y521.length co50] 30 (0,0)) (qk BK524) hb);have n9_:=aM (blk_below (g:=gb535) (o:=.cells #[.slice Ao11 t508.length co11,.slice (some ⟨go34,0,none⟩) y532.length co66] 30 (0,0)) (qk BK535) hb);have n10_:=aM (blk_below (g:=gb549) (o:=.cells #[.slice Ao11 t508.length co11,.slice (some ⟨go37,0,none⟩) y546.length co81] 30 (0,0)) (qk BK549) hb);have n11_:=aM (below_step Q18 hb);clear HO_515000;clear HO_515001;clear HO523;clear HO534;clear HL536_0;clear HO541;clear HO548;clear BK514;clear BK524;clear BK535;clear BK549;clear HB;have HO_515000:=n0_;have HO_515001:=n1_;have HO523:=n2_;have HO534:=n3_;have HL536_0:=n4_;have HO541:=n5_;have HO548:=n6_;have BK514:=n7_;have BK524:=n8_;have BK535:=n9_;have BK549:=n10_;have HB:=n11_;clear n0_ n1_ n2_ n3_ n4_ n5_ n6_ n7_ n8_ n9_ n10_ n11_;(try clear hb);(try clear hb2);(try clear hk);(try clear hi);have hnb95:=NB535_514.out;have hnc95:=NB514_535.out;have hcz96_0 : w94.cell? ⟨gb535,0,none⟩ = some (.slice Ao11 t508.length co11):=(blk_cell BK535.out 0).trans rfl;have hcz96_1 : w94.cell? ⟨gb535,1,none⟩ = some (.slice (some ⟨go34,0,none⟩) y532.length co66):=(blk_cell BK535.out 1).trans rfl;have hfz96_0:=blk_frozen BK535.out 0;have hfz96_1:=blk_frozen BK535.out 1)|(go_at_call 9;refine calls_of_args (args':=#[.agg #[.slice Ao11 t508.length co11,.slice (some ⟨go34,0,none⟩) y542.length co66]]) (by first|(rw [show y542.length = y532.length from (Kd.N_reads' HO534.out).1.symm] <;> rfl)|rfl) ?_;(with_reducible refine (impl_CertOk.calls kj7 _ _ t508 _ _ y542 false _ ?side1 ?side2 ?side3 ?side4 A40.out).mono ?_);(case side1 => exact Q62);(case side2 => exact (Kd.R_reads' HO_515000.out).2.1);(case side3 => repeat (first|exact (Kd.N_reads' HO534.out).2.2|(with_reducible refine Kd.C_alloc ?_ _)|(with_reducible refine Kd.C_drewN ?_ _)|(with_reducible refine Kd.C_drew ?_)));(case side4 => rw [show y542.length = y532.length from (Kd.N_reads' HO534.out).1.symm];exact (Kd.N_reads' HO534.out).2.1);rintro e w97 ⟨rfl,hb⟩;have n0_:=aM (Kd.R_below (qR HO_515000) hb);have n1_:=aM (Kd.N_below (qN HO_515001) hb);have n2_:=aM (Kd.N_below (qN HO523) hb);have n3_:=aM (Kd.N_below (qN HO534) hb);have n4_:=aM (Kd.V_below (qV HL536_0) hb);have n5_:=aM (Kd.V_below (qV HO541) hb);have n6_:=aM (Kd.N_below (qN HO548) hb);have n7_:=aM (blk_below (g:=gb514) (o:=.cells #[.slice Ao11 t508.length co11,.slice (some ad536) t511.length co13] 30 (0,0)) (qk BK514) hb);have n8_:=aM (blk_below (g:=gb524) (o:=.cells #[.slice Ao11 t508.length co11,.slice (some ⟨go29,0,none⟩) y521.length co50] 30 (0,0)) (qk BK524) hb);have n9_:=aM (blk_below (g:=gb535) (o:=.cells #[.slice Ao11 t508.length co11,.slice (some ⟨go34,0,none⟩) y532.length co66] 30 (0,0)) (qk BK535) hb);have n10_:=aM (blk_below (g:=gb549) (o:=.cells #[.slice Ao11 t508.length co11,.slice (some ⟨go37,0,none⟩) y546.length co81] 30 (0,0)) (qk BK549) hb);have n11_:=aM (below_step Q18 hb);clear HO_515000;clear HO_515001;clear HO523;clear HO534;clear HL536_0;clear HO541;clear HO548;clear BK514;clear BK524;clear BK535;clear BK549;clear HB;have HO_515000:=n0_;have HO_515001:=n1_;have HO523:=n2_;have HO534:=n3_;have HL536_0:=n4_;have HO541:=n5_;have HO548:=n6_;have BK514:=n7_;have BK524:=n8_;have BK535:=n9_;have BK549:=n10_;have HB:=n11_;clear n0_ n1_ n2_ n3_ n4_ n5_ n6_ n7_ n8_ n9_ n10_ n11_;(try clear hb);(try clear hb2);(try clear hk);(try clear hi);have hcz98_0 : w97.cell? ⟨gb549,0,none⟩ = some (.slice Ao11 t508.length co11):=(blk_cell BK549.out 0).trans rfl;have hcz98_1 : w97.cell? ⟨gb549,1,none⟩ = some (.slice (some ⟨go37,0,none⟩) y546.length co81):=(blk_cell BK549.out 1).trans rfl;have hfz98_0:=blk_frozen BK549.out 0;have hfz98_1:=blk_frozen BK549.out 1)|(go_at_call 9;refine calls_of_args (args':=#[.agg #[.slice Ao11 t508.length co11,.slice (some ⟨go37,0,none⟩) y553.length co81]]) (by first|(rw [show y553.length = y546.length from (Kd.N_reads' HO548.out).1.symm] <;> rfl)|rfl) ?_;(with_reducible refine (impl_CertOk.calls kj7 _ _ t508 _ _ y553 t556 _ ?side1 ?side2 ?side3 ?side4 A42.out).mono ?_);(case side1 => exact Q62);(case side2 => exact (Kd.R_reads' HO_515000.out).2.1);(case side3 => repeat (first|exact (Kd.N_reads' HO548.out).2.2|(with_reducible refine Kd.C_alloc ?_ _)|(with_reducible refine Kd.C_drewN ?_ _)|(with_reducible refine Kd.C_drew ?_)));(case side4 => rw [show y553.length = y546.length from (Kd.N_reads' HO548.out).1.symm];exact (Kd.N_reads' HO548.out).2.1);rintro e w99 ⟨rfl,hb⟩;have n0_:=aM (Kd.R_below (qR HO_515000) hb);have n1_:=aM (Kd.N_below (qN HO_515001) hb);have n2_:=aM (Kd.N_below (qN HO523) hb);have n3_:=aM (Kd.N_below (qN HO534) hb);have n4_:=aM (Kd.V_below (qV HL536_0) hb);have n5_:=aM (Kd.V_below (qV HO541) hb);have n6_:=aM (Kd.N_below (qN HO548) hb);have n7_:=aM (blk_below (g:=gb514) (o:=.cells #[.slice Ao11 t508.length co11,.slice (some ad536) t511.length co13] 30 (0,0)) (qk BK514) hb);have n8_:=aM (blk_below (g:=gb524) (o:=.cells #[.slice Ao11 t508.length co11,.slice (some ⟨go29,0,none⟩) y521.length co50] 30 (0,0)) (qk BK524) hb);have n9_:=aM (blk_below (g:=gb535) (o:=.cells #[.slice Ao11 t508.length co11,.slice (some ⟨go34,0,none⟩) y532.length co66] 30 (0,0)) (qk BK535) hb);have n10_:=aM (blk_below (g:=gb549) (o:=.cells #[.slice Ao11 t508.length co11,.slice (some ⟨go37,0,none⟩) y546.length co81] 30 (0,0)) (qk BK549) hb);have n11_:=aM (below_step Q18 hb);clear HO_515000;clear HO_515001;clear HO523;clear HO534;clear HL536_0;clear HO541;clear HO548;clear BK514;clear BK524;clear BK535;clear BK549;clear HB;have HO_515000:=n0_;have HO_515001:=n1_;have HO523:=n2_;have HO534:=n3_;have HL536_0:=n4_;have HO541:=n5_;have HO548:=n6_;have BK514:=n7_;have BK524:=n8_;have BK535:=n9_;have BK549:=n10_;have HB:=n11_;clear n0_ n1_ n2_ n3_ n4_ n5_ n6_ n7_ n8_ n9_ n10_ n11_;(try clear hb);(try clear hb2);(try clear hk);(try clear hi)))
         go_ret
         exact ⟨by first|rfl|(simp only [i64_w,i32_w];done)|(simp only [i64_w,i32_w];rfl)|(simp [errW_none,errW_some] <;> rfl)|(simp only [← hji26];first|rfl|(simp [errW_none,errW_some] <;> rfl))|(simp [*,errW_none,errW_some] <;> rfl),Q18⟩
       ·replace c39:=Bool.eq_false_iff.mpr c39
        subst c39
        have H1 : (some false) = some r:=by rw [if_neg (show ¬ (false = true) by decide)] at H;exact H
        clear H
        have H:=H1
        clear H1
        exact absurd ((Option.some.inj H).trans HR_.out) Q36

/-- What is left to prove of laws_FnCertMore. -/
def laws_FnCertMore.Pure : Prop:=∀ (l0 : List Int) (l1 : List Int),l0.length ≤ 9223372036854775807 → (∀ x,x ∈ l0 → (Lit.int .u8 x).wf = true) → l1.length ≤ 9223372036854775807 → (∀ x,x ∈ l1 → (Lit.int .u8 x).wf = true) → ∃ k,laws_FnCertMore.f k l0 l1 = some true

end Go.Proofs.Ytlcfalecbpnhbaa.P
