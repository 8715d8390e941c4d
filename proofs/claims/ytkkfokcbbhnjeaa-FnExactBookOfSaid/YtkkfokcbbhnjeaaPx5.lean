/- The printed functions: what each Go function computes, as a Lean function, and that the Go code comes to just that. Conditions: none beyond each contract's own. -/
import Derived.Test.YtkkfokcbbhnjeaaPx0
import Derived.Test.YtkkfokcbbhnjeaaPx3
import Derived.Test.YtkkfokcbbhnjeaaPx4
namespace Go.Proofs.Ytkkfokcbbhnjeaa.P
open Go.RowKit Go.Proofs.YtkkfokcbbhnjeaaW.PrintWords Go.Proofs.YtkkfokcbbhnjeaaW.PrintLast Go.Proofs.YtkkfokcbbhnjeaaW.PrintMore
attribute [local go_sem] max2_int min2_int max_two min_two max_three min_three max_four min_four   -- for this text's walks alone
set_option linter.unusedVariables false
set_option linter.unusedSimpArgs false

/-! ### spec_l2Pay: function 46 -/
def spec_l2Pay.f (l0 : List Int) (a1_0 : Int) (a1_1 : Int) (a1_2 : Int) : Option (List Int):=(some (([] : List Int) : List Int)).bind fun y276 => (if y276.length + l0.length < 17592186044416 then ((some (y276 ++ l0 : List Int)).bind fun y279 => (if 0 ≤ (wrap64 (a1_0 - 1)) then (if (wrap64 (a1_0 - 1)) < (y279.length : Int) then (if (rd y279 (wrap64 (a1_0 - 1))) ≥ a1_2 then ((some (y279.set ((wrap64 (a1_0 - 1)) : Int).toNat (wrap64 ((rd y279 (wrap64 (a1_0 - 1))) - a1_2)) : List Int)).bind fun y284 => (if 0 ≤ (wrap64 (a1_1 - 1)) then (if (wrap64 (a1_1 - 1)) < (y279.length : Int) then (some (y284.set ((wrap64 (a1_1 - 1)) : Int).toNat (wrap64 ((rd y284 (wrap64 (a1_1 - 1))) + a1_2)))) else (none)) else (none))) else (some y279)) else (none)) else (none))) else (none))
def spec_l2Pay.T2 : Bool × List (List Nat × List Nat):=(true,[([],[]),([],[]),([1],[1]),([2],[2]),([0,3],[0,3]),([4],[4]),([],[]),([6],[6]),([5,7],[5,7])])
def spec_l2Pay.B2 : List Nat:=[0,0,2,6,15,31,0,64,255]
theorem spec_l2Pay.tab2 : rtab .any (opsOf Try.f46 2) = spec_l2Pay.T2:=by kernel_rfl
theorem spec_l2Pay.bits2 : waitsOk spec_l2Pay.T2.2 spec_l2Pay.B2 = true:=by kernel_rfl
def spec_l2Pay.T3 : Bool × List (List Nat × List Nat):=(true,[([],[]),([],[]),([1],[1]),([2],[2]),([],[]),([],[]),([5],[5]),([6],[6]),([4,7],[4,7]),([8],[8]),([],[]),([10],[10]),([9,11],[9,11]),([0,3,0,1,2,3,4,5,6,7,8,9,10,11,12],[0,3]),([13,12,0,1,2,3,4,5,6,7,8,9,10,11,12],[12,13])])
def spec_l2Pay.B3 : List Nat:=[0,0,2,6,0,0,32,96,240,496,0,1024,4080,8191,16383]
theorem spec_l2Pay.tab3 : rtab .any (opsOf Try.f46 3) = spec_l2Pay.T3:=by kernel_rfl
theorem spec_l2Pay.bits3 : waitsOk spec_l2Pay.T3.2 spec_l2Pay.B3 = true:=by kernel_rfl
def spec_l2Pay.T4 : Bool × List (List Nat × List Nat):=(true,[([],[]),([],[]),([1],[1]),([2],[2]),([],[]),([],[]),([5],[5]),([6],[6]),([4,7],[4,7]),([8],[8]),([],[]),([10],[10]),([9,11],[9,11]),([0,3,0,1,2,3,4,5,6,7,8,9,10,11,12],[0,3]),([13,12,0,1,2,3,4,5,6,7,8,9,10,11,12],[12,13])])
def spec_l2Pay.B4 : List Nat:=[0,0,2,6,0,0,32,96,240,496,0,1024,4080,8191,16383]
theorem spec_l2Pay.tab4 : rtab .any (opsOf Try.f46 4) = spec_l2Pay.T4:=by kernel_rfl
theorem spec_l2Pay.bits4 : waitsOk spec_l2Pay.T4.2 spec_l2Pay.B4 = true:=by kernel_rfl
set_option maxHeartbeats 8000000 in
set_option maxRecDepth 100000 in
theorem spec_l2Pay.calls (A0 : Option Addr) (c0 : Nat) (l0 : List Int) (a1_0 : Int) (a1_1 : Int) (a1_2 : Int) (r : List Int) (w : World) (hr0 : Kd.C (Kd.int .i64) w A0 l0.length l0) (hc0 : l0.length ≤ c0) (h : spec_l2Pay.f l0 a1_0 a1_1 a1_2 = some r) :
  Calls Try.prog 46 #[.slice A0 l0.length c0,.agg #[.int .i64 a1_0,.int .i64 a1_1,.int .i64 a1_2]] w fun e w' => ∃ v0_ : Value,e = .returned (v0_) ∧ Kd.R (Kd.int .i64) 3 w' w.heap.size (fun _ => True) v0_ r ∧ Below w.heap.size w w':=by
 have hu44:=Try.underlying44
 have HR0:=aM hr0
 have HC0:=aM hc0
 clear hr0 hc0
 have HB:=aM (Below.refl w.heap.size w)
 have H : ((some (([] : List Int) : List Int)).bind fun y276 => (if y276.length + l0.length < 17592186044416 then ((some (y276 ++ l0 : List Int)).bind fun y279 => (if 0 ≤ (wrap64 (a1_0 - 1)) then (if (wrap64 (a1_0 - 1)) < (y279.length : Int) then (if (rd y279 (wrap64 (a1_0 - 1))) ≥ a1_2 then ((some (y279.set ((wrap64 (a1_0 - 1)) : Int).toNat (wrap64 ((rd y279 (wrap64 (a1_0 - 1))) - a1_2)) : List Int)).bind fun y284 => (if 0 ≤ (wrap64 (a1_1 - 1)) then (if (wrap64 (a1_1 - 1)) < (y279.length : Int) then (some (y284.set ((wrap64 (a1_1 - 1)) : Int).toNat (wrap64 ((rd y284 (wrap64 (a1_1 - 1))) + a1_2)))) else (none)) else (none))) else (some y279)) else (none)) else (none))) else (none))) = some r:=h
 clear h
 obtain ⟨y276,hy276⟩ : ∃ y_ : List Int,y_ = (([] : List Int)):=⟨_,rfl⟩
 replace H : (if y276.length + l0.length < 17592186044416 then ((some (y276 ++ l0 : List Int)).bind fun y279 => (if 0 ≤ (wrap64 (a1_0 - 1)) then (if (wrap64 (a1_0 - 1)) < (y279.length : Int) then (if (rd y279 (wrap64 (a1_0 - 1))) ≥ a1_2 then ((some (y279.set ((wrap64 (a1_0 - 1)) : Int).toNat (wrap64 ((rd y279 (wrap64 (a1_0 - 1))) - a1_2)) : List Int)).bind fun y284 => (if 0 ≤ (wrap64 (a1_1 - 1)) then (if (wrap64 (a1_1 - 1)) < (y279.length : Int) then (some (y284.set ((wrap64 (a1_1 - 1)) : Int).toNat (wrap64 ((rd y284 (wrap64 (a1_1 - 1))) + a1_2)))) else (none)) else (none))) else (some y279)) else (none)) else (none))) else (none)) = some r:=by first|(rw [hy276];with_reducible exact H)|(have H2_:=(Option.bind_some _ _).symm.trans H;rw [hy276];with_reducible exact H2_)|(have H2_:=(Option.bind_some _ _).symm.trans H;with_reducible exact H2_)|with_reducible exact H|(rw [hy276];exact H)|exact H
 have Ny276:=aM hy276
 clear hy276
 by_cases c3 : y276.length + l0.length < 17592186044416
 case neg => rw [if_neg c3] at H;exact absurd H (by simp)
 rw [if_pos c3] at H
 have LMc3:=aM c3
 clear c3
 obtain ⟨y279,hy279⟩ : ∃ y_ : List Int,y_ = (y276 ++ l0):=⟨_,rfl⟩
 replace H : (if 0 ≤ (wrap64 (a1_0 - 1)) then (if (wrap64 (a1_0 - 1)) < (y279.length : Int) then (if (rd y279 (wrap64 (a1_0 - 1))) ≥ a1_2 then ((some (y279.set ((wrap64 (a1_0 - 1)) : Int).toNat (wrap64 ((rd y279 (wrap64 (a1_0 - 1))) - a1_2)) : List Int)).bind fun y284 => (if 0 ≤ (wrap64 (a1_1 - 1)) then (if (wrap64 (a1_1 - 1)) < (y279.length : Int) then (some (y284.set ((wrap64 (a1_1 - 1)) : Int).toNat (wrap64 ((rd y284 (wrap64 (a1_1 - 1))) + a1_2)))) else (none)) else (none))) else (some y279)) else (none)) else (none)) = some r:=by first|(rw [hy279];with_reducible exact H)|(have H2_:=(Option.bind_some _ _).symm.trans H;rw [hy279];with_reducible exact H2_)|(have H2_:=(Option.bind_some _ _).symm.trans H;with_reducible exact H2_)|with_reducible exact H|(rw [hy279];exact H)|exact H
 have Ny279:=aM hy279
 clear hy279
 obtain ⟨ji4,hji4⟩ : ∃ j_ : Int,(wrap64 (a1_0 - 1)) = j_:=⟨_,rfl⟩
 replace H : (if 0 ≤ (ji4) then (if (ji4) < (y279.length : Int) then (if (rd y279 (ji4)) ≥ a1_2 then ((some (y279.set ((ji4) : Int).toNat (wrap64 ((rd y279 (ji4)) - a1_2)) : List Int)).bind fun y284 => (if 0 ≤ (wrap64 (a1_1 - 1)) then (if (wrap64 (a1_1 - 1)) < (y279.length : Int) then (some (y284.set ((wrap64 (a1_1 - 1)) : Int).toNat (wrap64 ((rd y284 (wrap64 (a1_1 - 1))) + a1_2)))) else (none)) else (none))) else (some y279)) else (none)) else (none)) = some r:=by first|(rw [hji4] at H;exact H)|(simp only [hji4] at H ⊢;exact H)
 have hji4w : (IntKind.i64.wrap (a1_0 - 1)) = ji4:=(i64_w _).trans hji4
 by_cases c5 : 0 ≤ (ji4)
 case neg => rw [if_neg c5] at H;exact absurd H (by simp)
 rw [if_pos c5] at H
 have c5b0 : decide (0 ≤ (ji4)) = true:=decide_eq_true c5
 clear c5
 by_cases c6 : (ji4) < (y279.length : Int)
 case neg => rw [if_neg c6] at H;exact absurd H (by simp)
 rw [if_pos c6] at H
 have c6b0 : decide ((ji4) < (y279.length : Int)) = true:=decide_eq_true c6
 clear c6
 by_cases c7 : (rd y279 (ji4)) ≥ a1_2
 ·rw [if_pos c7] at H
  have c7b0 : decide (a1_2 ≤ (rd y279 (ji4))) = true:=decide_eq_true c7
  clear c7
  obtain ⟨y284,hy284⟩ : ∃ y_ : List Int,y_ = (y279.set ((ji4) : Int).toNat (wrap64 ((rd y279 (ji4)) - a1_2))):=⟨_,rfl⟩
  replace H : (if 0 ≤ (wrap64 (a1_1 - 1)) then (if (wrap64 (a1_1 - 1)) < (y279.length : Int) then (some (y284.set ((wrap64 (a1_1 - 1)) : Int).toNat (wrap64 ((rd y284 (wrap64 (a1_1 - 1))) + a1_2)))) else (none)) else (none)) = some r:=by first|(rw [hy284];with_reducible exact H)|(have H2_:=(Option.bind_some _ _).symm.trans H;rw [hy284];with_reducible exact H2_)|(have H2_:=(Option.bind_some _ _).symm.trans H;with_reducible exact H2_)|with_reducible exact H|(rw [hy284];exact H)|exact H
  have Ny284:=aM hy284
  clear hy284
  obtain ⟨ji9,hji9⟩ : ∃ j_ : Int,(wrap64 (a1_1 - 1)) = j_:=⟨_,rfl⟩
  replace H : (if 0 ≤ (ji9) then (if (ji9) < (y279.length : Int) then (some (y284.set ((ji9) : Int).toNat (wrap64 ((rd y284 (ji9)) + a1_2)))) else (none)) else (none)) = some r:=by first|(rw [hji9] at H;exact H)|(simp only [hji9] at H ⊢;exact H)
  have hji9w : (IntKind.i64.wrap (a1_1 - 1)) = ji9:=(i64_w _).trans hji9
  by_cases c10 : 0 ≤ (ji9)
  case neg => rw [if_neg c10] at H;exact absurd H (by simp)
  rw [if_pos c10] at H
  have c10b0 : decide (0 ≤ (ji9)) = true:=decide_eq_true c10
  clear c10
  by_cases c11 : (ji9) < (y279.length : Int)
  case neg => rw [if_neg c11] at H;exact absurd H (by simp)
  rw [if_pos c11] at H
  have c11b0 : decide ((ji9) < (y279.length : Int)) = true:=decide_eq_true c11
  clear c11
  obtain ⟨y286,hy286⟩ : ∃ y_ : List Int,y_ = (y284.set ((ji9) : Int).toNat (wrap64 ((rd y284 (ji9)) + a1_2))):=⟨_,rfl⟩
  replace H : (some y286) = some r:=by first|(rw [hy286];with_reducible exact H)|(have H2_:=(Option.bind_some _ _).symm.trans H;rw [hy286];with_reducible exact H2_)|(have H2_:=(Option.bind_some _ _).symm.trans H;with_reducible exact H2_)|with_reducible exact H|(rw [hy286];exact H)|exact H
  have Ny286:=aM hy286
  clear hy286
  obtain rfl:=Option.some.inj H
  go_enter Try.func46,Try.ntmps46
  try go_wp2_with (first|((with_reducible refine gate_dst (N:=3) rfl ?_);refine box_event ?hg (N:=3) ?hd (cs:=#[.int .i64 a1_0,.int .i64 a1_1,.int .i64 a1_2]) (t:=44) ?hr ?_;(case hd => rfl);(case hg => rfl);(case hr => first|(go_simp;done)|(go_simp;rfl));intro gb275 hg w13 hbox hb;have n0_:=aM (below_step (by repeat (first|(with_reducible first|exact HB.out|apply bA|apply bN|apply bD)|exact HB.out)) hb);have n1_:=aM (hbox);have n2_:=aM ((by rw [hg];exact (below_size (by repeat (first|(with_reducible first|exact HB.out|apply bA|apply bN|apply bD)|exact HB.out))) : w.heap.size ≤ gb275));have n3_:=aM ((by rw [hg];exact (below_size (by repeat (first|(with_reducible first|exact HB.out|apply bA|apply bN|apply bD)|exact HB.out))) : w.heap.size ≤ gb275));clear HB;have HB:=n0_;have BK275:=n1_;have GW275:=n2_;have GE275:=n3_;clear n0_ n1_ n2_ n3_;clear hb hbox hg)|((with_reducible refine gate_dst (N:=6) rfl ?_);refine Kd.R_lit (Kd.int .i64) _ 3 ?hg (N:=6) ?hd (xs:=([] : List Int)) (inner:=[]) (ok:=fun _ => True) (okp:=fun _ => True) ?hr ?hp (fun _ hk => hk) trivial (Below.refl _ _) (Nat.le_refl _) (by simp) ?_;(case hd => rfl);(case hg => rfl);(case hr => first|(go_simp;done)|(go_simp;rfl));(case hp => exact (Reps.none _ _));intro v277 w14 ho15 hb hg_ hnew_;clear hg_ hnew_;(first|rw [← Ny276.out] at ho15|(simp only [Int.reduceToNat] at ho15;rw [← Ny276.out] at ho15));have n0_:=aM (Kd.R_lower ho15 (below_size (by repeat (first|(with_reducible first|exact HB.out|apply bA|apply bN|apply bD|refine below_set ?_ GE275.out)|exact HB.out))));have n1_:=aM (blk_below (g:=gb275) (o:=.cells #[.int .i64 a1_0,.int .i64 a1_1,.int .i64 a1_2] 44 (0,0)) (by (with_reducible repeat (first|refine blk_drewN ?_ _|refine blk_drew ?_|refine blk_alloc ?_ _));exact BK275.out) hb);have n2_:=aM (below_step (by repeat (first|(with_reducible first|exact HB.out|apply bA|apply bN|apply bD|refine below_set ?_ GE275.out)|exact HB.out)) hb);clear BK275;clear HB;have HO278:=n0_;have BK275:=n1_;have HB:=n2_;clear n0_ n1_ n2_;clear hb ho15)|((with_reducible refine gate_builtin (b:=.append) (xs:=#[.tmp 6,.tmp 7]) rfl ?_);at_builtin;refine Kd.R_append_rows (Kd.int .i64) (w0:=w) w.heap.size rfl (.tmp 6) (.tmp 7) 22 3 (.int .i64 0) 8 rfl Try.underlying22 info3 rfl (by decide) (by omega) v277 y276 l0 _ _ _ (fun _ => True) (fun _ => False) rfl rfl ?aO ?aR (fun _ _ h => h) (fun _ h => h.elim) ?aF ?aB ?aS ?aL ?_;(case aR => repeat (first|exact (Kd.C_below HR0.out HB.out)|(with_reducible refine Kd.C_alloc ?_ _)|(with_reducible refine Kd.C_drewN ?_ _)|(with_reducible refine Kd.C_drew ?_)));(case aB => exact (by repeat (first|(with_reducible first|exact HB.out|apply bA|apply bN|apply bD|refine below_set ?_ GE275.out)|exact HB.out)));(case aF => exact (fun _ _ => trivial));(case aO => exact (by (with_reducible repeat (first|apply Kd.R_alloc|apply Kd.R_drewN|apply Kd.R_drew));exact HO278.out));(case aS => exact (below_size (by repeat (first|(with_reducible first|exact HB.out|apply bA|apply bN|apply bD|refine below_set ?_ GE275.out)|exact HB.out))));(case aL => have:=LMc3.out;omega);intro v280 w16 ho hb hg hat;rw [← Ny279.out] at ho;have n0_:=aM (blk_grown (g:=gb275) (o:=.cells #[.int .i64 a1_0,.int .i64 a1_1,.int .i64 a1_2] 44 (0,0)) (by (with_reducible repeat (first|refine blk_drewN ?_ _|refine blk_drew ?_|refine blk_alloc ?_ _));exact BK275.out) hg (Kd.R_ne HO278.out BK275.out (by decide)));have n1_:=aM (hb);have n2_:=aM (ho);clear BK275;clear HB;clear HO278;have BK275:=n0_;have HB:=n1_;have HO281:=n2_;clear n0_ n1_ n2_;clear ho hb hg hat))
  have n0_:=aM (Kd.R_drew HO281.out)
  have n1_:=aM (blk_drew BK275.out)
  have n2_:=aM (bD HB.out)
  clear HO281
  clear BK275
  clear HB
  have HO281:=n0_
  have BK275:=n1_
  have HB:=n2_
  clear n0_ n1_ n2_
  obtain ⟨Ao18,co18,eo18⟩:=Kd.R_slice HO281.out
  (first|subst eo18|(injection eo18 with f1_ f2_ f3_;have f4_:=f1_.symm;have f5_:=f3_.symm;clear f1_ f2_ f3_;subst f4_;subst f5_))
  have p282 : 0 ≤ ((ji4) : Int):=of_decide_eq_true (by first|(with_reducible assumption)|assumption)
  have q282 : (ji4) < (y279.length : Int):=of_decide_eq_true (by first|(with_reducible assumption)|assumption)
  obtain ⟨ad282,e282,hx282_0⟩:=Kd.at_int (Kd.R_reads' HO281.out).2.2 (ji4) p282 q282
  cases e282
  replace p282:=eq_true p282
  replace q282:=eq_true q282
  refine start_ (n:=9) (S:=fun w' => w'.cell? ⟨gb275,0,none⟩ = some (.int .i64 a1_0) ∧ w'.cell? ⟨gb275,1,none⟩ = some (.int .i64 a1_1) ∧ w'.cell? ⟨gb275,2,none⟩ = some (.int .i64 a1_2) ∧ w'.cell? (ad282.add ((ji4)).toNat) = some (.int .i64 (rd y279 (ji4)))) (ds:=[]) #[bF,bF,bF,bF,bF,bF,bF,bF,bF] (by kernel_rfl) rfl rfl ⟨(blk_cell BK275.out 0).trans rfl,(blk_cell BK275.out 1).trans rfl,(blk_cell BK275.out 2).trans rfl,hx282_0⟩ (fun hHeld => ?_);refine with_tabW spec_l2Pay.tab2 spec_l2Pay.bits2 (fun HT_ HW_ => ?_)
  generalize w16.drew = w17 at HO281 BK275 HB hx282_0 hHeld ⊢
  refine pure_ (i:=0) (N:=some 9) (v:=?_) (a':=?_) #[bT,bF,bF,bF,bF,bF,bF,bF,bF] rfl rfl (any_of HT_.out (by kernel_rfl)) (fun _ _ _ h => h) (Or.inl ⟨by rfl,?_⟩) ?_ ?_
  rotate_left;(· intro w';go_simp;with_reducible rfl);rotate_left;(· simp only [Act.put,sI,sZ,sS,i64_w,i32_w];rfl)
  refine pure_ (i:=1) (N:=some 10) (v:=?_) (a':=?_) #[bT,bT,bF,bF,bF,bF,bF,bF,bF] rfl rfl (any_of HT_.out (by kernel_rfl)) (fun _ _ _ h => h) (Or.inl ⟨by rfl,?_⟩) ?_ ?_
  rotate_left;(· intro w';go_simp;with_reducible rfl);rotate_left;(· simp only [Act.put,sI,sZ,sS,i64_w,i32_w];rfl)
  refine pure_ (i:=6) (N:=some 15) (v:=?_) (a':=?_) #[bT,bT,bF,bF,bF,bF,bT,bF,bF] rfl rfl (any_of HT_.out (by kernel_rfl)) (fun _ _ _ h => h) (Or.inl ⟨by rfl,?_⟩) ?_ ?_
  rotate_left;(· intro w';go_simp;with_reducible rfl);rotate_left;(· simp only [Act.put,sI,sZ,sS,i64_w,i32_w];rfl)
  refine take_ (i:=2) (N:=some 11) (v:=?_) (a':=?_) #[bT,bT,bT,bF,bF,bF,bT,bF,bF] rfl rfl (take_ofW HT_.out HW_.out (by kernel_rfl)) (fun _ _ _ h => h) (Or.inl ⟨by rfl,?_⟩) hHeld ?_ ?_
  rotate_left
  ·rintro w' ⟨s0,s1,s2,s3⟩
   (try simp only [Int.toNat_natCast] at s0 s1 s2 s3)
   go_simp
   with_reducible rfl
  rotate_left
  ·simp only [Act.put,sI,sZ,sS,i64_w,i32_w]
   rfl
  refine pure_ (i:=3) (N:=some 12) (v:=?_) (a':=?_) #[bT,bT,bT,bT,bF,bF,bT,bF,bF] rfl rfl (any_of HT_.out (by kernel_rfl)) (fun _ _ _ h => h) (Or.inl ⟨by rfl,?_⟩) ?_ ?_
  rotate_left;(· intro w';go_simp;with_reducible rfl);rotate_left;(· simp only [Act.put,sI,sZ,sS,i64_w,i32_w];rfl)
  refine pure_ (i:=4) (N:=some 13) (v:=?_) (a':=?_) #[bT,bT,bT,bT,bT,bF,bT,bF,bF] rfl rfl (any_of HT_.out (by kernel_rfl)) (fun _ _ _ h => h) (Or.inl ⟨by rfl,?_⟩) ?_ ?_
  rotate_left;(· intro w';go_simp;with_reducible rfl);rotate_left;(· simp only [Act.put,sI,sZ,sS,i64_w,i32_w];rfl)
  refine take_ (i:=5) (N:=some 14) (v:=?_) (a':=?_) #[bT,bT,bT,bT,bT,bT,bT,bF,bF] rfl rfl (take_ofW HT_.out HW_.out (by kernel_rfl)) (fun _ _ _ h => h) (Or.inl ⟨by rfl,?_⟩) hHeld ?_ ?_
  rotate_left
  ·rintro w' ⟨s0,s1,s2,s3⟩
   (try simp only [Int.toNat_natCast] at s0 s1 s2 s3)
   go_simp
   with_reducible rfl
  rotate_left
  ·simp only [Act.put,sI,sZ,sS,i64_w,i32_w]
   rfl
  refine take_ (i:=7) (N:=some 16) (v:=?_) (a':=?_) #[bT,bT,bT,bT,bT,bT,bT,bT,bF] rfl rfl (take_ofW HT_.out HW_.out (by kernel_rfl)) (fun _ _ _ h => h) (Or.inl ⟨by rfl,?_⟩) hHeld ?_ ?_
  rotate_left
  ·rintro w' ⟨s0,s1,s2,s3⟩
   (try simp only [Int.toNat_natCast] at s0 s1 s2 s3)
   go_simp
   with_reducible rfl
  rotate_left
  ·simp only [Act.put,sI,sZ,sS,i64_w,i32_w]
   rfl
  refine pure_ (i:=8) (N:=some 17) (v:=?_) (a':=?_) #[bT,bT,bT,bT,bT,bT,bT,bT,bT] rfl rfl (any_of HT_.out (by kernel_rfl)) (fun _ _ _ h => h) (Or.inl ⟨by rfl,?_⟩) ?_ ?_
  rotate_left;(· intro w';go_simp;with_reducible rfl);rotate_left;(· simp only [Act.put,sI,sZ,sS,i64_w,i32_w];rfl)
  refine done_ (done_of HT_.out (by kernel_rfl)) ?_
  try go_wp2
  have n0_:=aM (Kd.R_drew HO281.out)
  have n1_:=aM (blk_drew BK275.out)
  have n2_:=aM (bD HB.out)
  clear HO281
  clear BK275
  clear HB
  have HO281:=n0_
  have BK275:=n1_
  have HB:=n2_
  clear n0_ n1_ n2_
  have p283 : 0 ≤ ((ji4) : Int):=of_decide_eq_true (by first|(with_reducible assumption)|assumption)
  have q283 : (ji4) < (y279.length : Int):=of_decide_eq_true (by first|(with_reducible assumption)|assumption)
  obtain ⟨ad283,e283,hx283_0⟩:=Kd.at_int (Kd.R_reads' HO281.out).2.2 (ji4) p283 q283
  obtain rfl : ad282 = ad283:=(by injection e283)
  replace p283:=eq_true p283
  replace q283:=eq_true q283
  have p8 : 0 ≤ ((ji4) : Int):=of_decide_eq_true (by first|(with_reducible assumption)|assumption)
  have q8 : ((ji4) : Int) < ((y279.length : Int) : Int):=of_decide_eq_true (by first|(with_reducible assumption)|assumption)
  obtain ⟨go8,co8,eo8,gb8,gl8,cl8,HG8⟩:=Kd.R_form HO281.out (by omega)
  (first|cases eo8|(injection eo8 with ea_ en_ ec_;(first|subst ea_|(injection ea_ with ea_;subst ea_));subst ec_;clear en_))
  have GB8:=aM gb8
  have GG8:=aM HG8
  clear gb8 gl8 HG8
  (first|simp only [add_plain] at hx282_0|skip)
  (first|simp only [add_plain] at hx283_0|skip)
  obtain ⟨hx8_0,hf8_0⟩:=Kd.R_celln 0 HO281.out ((ji4) : Int) p8 q8
  replace p8:=eq_true p8
  replace q8:=eq_true q8
  have HP20:=Kd.R_putn HO281.out ((ji4) : Int) (wrap64 ((rd y279 (ji4)) - a1_2))
  rw [← Ny284.out] at HP20
  have HQ20:=aM HP20
  clear HP20
  refine start_ (n:=15) (S:=fun w' => w'.cell? ⟨gb275,0,none⟩ = some (.int .i64 a1_0) ∧ w'.cell? ⟨gb275,1,none⟩ = some (.int .i64 a1_1) ∧ w'.cell? ⟨gb275,2,none⟩ = some (.int .i64 a1_2) ∧ w'.cell? ⟨go8,((ji4)).toNat,none⟩ = some (.int .i64 (rd y279 (ji4)))) (ds:=[14]) #[bF,bF,bF,bF,bF,bF,bF,bF,bF,bF,bF,bF,bF,bF,bF] (by kernel_rfl) rfl rfl ⟨(blk_cell BK275.out 0).trans rfl,(blk_cell BK275.out 1).trans rfl,(blk_cell BK275.out 2).trans rfl,hx283_0⟩ (fun hHeld => ?_);refine with_tabW spec_l2Pay.tab3 spec_l2Pay.bits3 (fun HT_ HW_ => ?_)
  generalize w17.drew = w19 at HO281 BK275 HB GG8 HQ20 hf8_0 hx282_0 hx283_0 hx8_0 hHeld ⊢
  refine pure_ (i:=0) (N:=some 18) (v:=?_) (a':=?_) #[bT,bF,bF,bF,bF,bF,bF,bF,bF,bF,bF,bF,bF,bF,bF] rfl rfl (any_of HT_.out (by kernel_rfl)) (fun _ _ _ h => h) (Or.inl ⟨by rfl,?_⟩) ?_ ?_
  rotate_left;(· intro w';go_simp;with_reducible rfl);rotate_left;(· simp only [Act.put,sI,sZ,sS,i64_w,i32_w];rfl)
  refine pure_ (i:=1) (N:=some 19) (v:=?_) (a':=?_) #[bT,bT,bF,bF,bF,bF,bF,bF,bF,bF,bF,bF,bF,bF,bF] rfl rfl (any_of HT_.out (by kernel_rfl)) (fun _ _ _ h => h) (Or.inl ⟨by rfl,?_⟩) ?_ ?_
  rotate_left;(· intro w';go_simp;with_reducible rfl);rotate_left;(· simp only [Act.put,sI,sZ,sS,i64_w,i32_w];rfl)
  refine pure_ (i:=4) (N:=some 22) (v:=?_) (a':=?_) #[bT,bT,bF,bF,bT,bF,bF,bF,bF,bF,bF,bF,bF,bF,bF] rfl rfl (any_of HT_.out (by kernel_rfl)) (fun _ _ _ h => h) (Or.inl ⟨by rfl,?_⟩) ?_ ?_
  rotate_left;(· intro w';go_simp;with_reducible rfl);rotate_left;(· simp only [Act.put,sI,sZ,sS,i64_w,i32_w];rfl)
  refine pure_ (i:=5) (N:=some 23) (v:=?_) (a':=?_) #[bT,bT,bF,bF,bT,bT,bF,bF,bF,bF,bF,bF,bF,bF,bF] rfl rfl (any_of HT_.out (by kernel_rfl)) (fun _ _ _ h => h) (Or.inl ⟨by rfl,?_⟩) ?_ ?_
  rotate_left;(· intro w';go_simp;with_reducible rfl);rotate_left;(· simp only [Act.put,sI,sZ,sS,i64_w,i32_w];rfl)
  refine pure_ (i:=10) (N:=some 28) (v:=?_) (a':=?_) #[bT,bT,bF,bF,bT,bT,bF,bF,bF,bF,bT,bF,bF,bF,bF] rfl rfl (any_of HT_.out (by kernel_rfl)) (fun _ _ _ h => h) (Or.inl ⟨by rfl,?_⟩) ?_ ?_
  rotate_left;(· intro w';go_simp;with_reducible rfl);rotate_left;(· simp only [Act.put,sI,sZ,sS,i64_w,i32_w];rfl)
  refine take_ (i:=2) (N:=some 20) (v:=?_) (a':=?_) #[bT,bT,bT,bF,bT,bT,bF,bF,bF,bF,bT,bF,bF,bF,bF] rfl rfl (take_ofW HT_.out HW_.out (by kernel_rfl)) (fun _ _ _ h => h) (Or.inl ⟨by rfl,?_⟩) hHeld ?_ ?_
  rotate_left
  ·rintro w' ⟨s0,s1,s2,s3⟩
   (try simp only [Int.toNat_natCast] at s0 s1 s2 s3)
   go_simp
   with_reducible rfl
  rotate_left
  ·simp only [Act.put,sI,sZ,sS,i64_w,i32_w]
   rfl
  refine pure_ (i:=3) (N:=some 21) (v:=?_) (a':=?_) #[bT,bT,bT,bT,bT,bT,bF,bF,bF,bF,bT,bF,bF,bF,bF] rfl rfl (any_of HT_.out (by kernel_rfl)) (fun _ _ _ h => h) (Or.inl ⟨by rfl,?_⟩) ?_ ?_
  rotate_left;(· intro w';go_simp;with_reducible rfl);rotate_left;(· simp only [Act.put,sI,sZ,sS,i64_w,i32_w];rfl)
  refine take_ (i:=6) (N:=some 24) (v:=?_) (a':=?_) #[bT,bT,bT,bT,bT,bT,bT,bF,bF,bF,bT,bF,bF,bF,bF] rfl rfl (take_ofW HT_.out HW_.out (by kernel_rfl)) (fun _ _ _ h => h) (Or.inl ⟨by rfl,?_⟩) hHeld ?_ ?_
  rotate_left
  ·rintro w' ⟨s0,s1,s2,s3⟩
   (try simp only [Int.toNat_natCast] at s0 s1 s2 s3)
   go_simp
   with_reducible rfl
  rotate_left
  ·simp only [Act.put,sI,sZ,sS,i64_w,i32_w]
   rfl
  refine pure_ (i:=7) (N:=some 25) (v:=?_) (a':=?_) #[bT,bT,bT,bT,bT,bT,bT,bT,bF,bF,bT,bF,bF,bF,bF] rfl rfl (any_of HT_.out (by kernel_rfl)) (fun _ _ _ h => h) (Or.inl ⟨by rfl,?_⟩) ?_ ?_
  rotate_left;(· intro w';go_simp;with_reducible rfl);rotate_left;(· simp only [Act.put,sI,sZ,sS,i64_w,i32_w];rfl)
  refine pure_ (i:=8) (N:=some 26) (v:=?_) (a':=?_) #[bT,bT,bT,bT,bT,bT,bT,bT,bT,bF,bT,bF,bF,bF,bF] rfl rfl (any_of HT_.out (by kernel_rfl)) (fun _ _ _ h => h) (Or.inl ⟨by rfl,?_⟩) ?_ ?_
  rotate_left;(· intro w';go_simp;with_reducible rfl);rotate_left;(· simp only [Act.put,sI,sZ,sS,i64_w,i32_w];rfl)
  refine take_ (i:=9) (N:=some 27) (v:=?_) (a':=?_) #[bT,bT,bT,bT,bT,bT,bT,bT,bT,bT,bT,bF,bF,bF,bF] rfl rfl (take_ofW HT_.out HW_.out (by kernel_rfl)) (fun _ _ _ h => h) (Or.inl ⟨by rfl,?_⟩) hHeld ?_ ?_
  rotate_left
  ·rintro w' ⟨s0,s1,s2,s3⟩
   (try simp only [Int.toNat_natCast] at s0 s1 s2 s3)
   go_simp
   with_reducible rfl
  rotate_left
  ·simp only [Act.put,sI,sZ,sS,i64_w,i32_w]
   rfl
  refine take_ (i:=11) (N:=some 29) (v:=?_) (a':=?_) #[bT,bT,bT,bT,bT,bT,bT,bT,bT,bT,bT,bT,bF,bF,bF] rfl rfl (take_ofW HT_.out HW_.out (by kernel_rfl)) (fun _ _ _ h => h) (Or.inl ⟨by rfl,?_⟩) hHeld ?_ ?_
  rotate_left
  ·rintro w' ⟨s0,s1,s2,s3⟩
   (try simp only [Int.toNat_natCast] at s0 s1 s2 s3)
   go_simp
   with_reducible rfl
  rotate_left
  ·simp only [Act.put,sI,sZ,sS,i64_w,i32_w]
   rfl
  refine pure_ (i:=12) (N:=some 30) (v:=?_) (a':=?_) #[bT,bT,bT,bT,bT,bT,bT,bT,bT,bT,bT,bT,bT,bF,bF] rfl rfl (any_of HT_.out (by kernel_rfl)) (fun _ _ _ h => h) (Or.inl ⟨by rfl,?_⟩) ?_ ?_
  rotate_left;(· intro w';go_simp;with_reducible rfl);rotate_left;(· simp only [Act.put,sI,sZ,sS,i64_w,i32_w];rfl)
  refine pure_ (i:=13) (N:=some 31) (v:=?_) (a':=?_) #[bT,bT,bT,bT,bT,bT,bT,bT,bT,bT,bT,bT,bT,bT,bF] rfl rfl (any_of HT_.out (by kernel_rfl)) (fun _ _ _ h => h) (Or.inl ⟨by rfl,?_⟩) ?_ ?_
  rotate_left;(· intro w';go_simp;with_reducible rfl);rotate_left;(· simp only [Act.put,sI,sZ,sS,i64_w,i32_w];rfl)
  refine last_ (i:=14) (N:=none) #[bT,bT,bT,bT,bT,bT,bT,bT,bT,bT,bT,bT,bT,bT,bT] rfl rfl (one_of HT_.out (by kernel_rfl)) (by decide) (fun K hK => ?_)
  refine skip_ (w1:=?_) (by rfl) rfl ?_ ?_
  rotate_left
  ·go_simp
   rfl
  refine hK.out _ _ ?_
  clear hK K
  refine done_ (done_of HT_.out (by kernel_rfl)) ?_
  try go_wp2
  have n0_ : Aside0 (Kd.R (Kd.int .i64) 3 (w19.setCell ⟨go8,((ji4) : Int).toNat,none⟩ (.int .i64 (wrap64 ((rd y279 (ji4)) - a1_2)))) w.heap.size (fun _ => True) (.slice (some ⟨go8,0,none⟩) y279.length co18) y284):=⟨by (with_reducible repeat (first|apply Kd.R_alloc|apply Kd.R_drewN|apply Kd.R_drew));exact HQ20.out⟩
  have n1_ : Aside0 ((w19.setCell ⟨go8,((ji4) : Int).toNat,none⟩ (.int .i64 (wrap64 ((rd y279 (ji4)) - a1_2)))).heap[gb275]? = some (.cells #[.int .i64 a1_0,.int .i64 a1_1,.int .i64 a1_2] 44 (0,0))):=⟨by (with_reducible repeat (first|refine blk_drewN ?_ _|refine blk_drew ?_|refine blk_alloc ?_ _));refine blk_far ?_ (by have h_:=Kd.R_ne HO281.out BK275.out (by decide);intro e_;exact h_ (by rw [e_];rfl)) _;(with_reducible repeat (first|refine blk_drewN ?_ _|refine blk_drew ?_|refine blk_alloc ?_ _));exact BK275.out⟩
  have n2_ : Aside0 (Below w.heap.size w (w19.setCell ⟨go8,((ji4) : Int).toNat,none⟩ (.int .i64 (wrap64 ((rd y279 (ji4)) - a1_2))))):=⟨by repeat (first|(with_reducible first|exact HB.out|apply bA|apply bN|apply bD|refine below_set ?_ GB8.out|refine below_set ?_ GE275.out)|exact HB.out)⟩
  (try clear HO281)
  (try clear BK275)
  (try clear HB)
  generalize (w19.setCell ⟨go8,((ji4) : Int).toNat,none⟩ (.int .i64 (wrap64 ((rd y279 (ji4)) - a1_2)))) = w21 at n0_ n1_ n2_ ⊢
  have HO281:=n0_
  have BK275:=n1_
  have HB:=n2_
  clear n0_ n1_ n2_
  have n0_:=aM (Kd.R_drew HO281.out)
  have n1_:=aM (blk_drew BK275.out)
  have n2_:=aM (bD HB.out)
  clear HO281
  clear BK275
  clear HB
  have HO281:=n0_
  have BK275:=n1_
  have HB:=n2_
  clear n0_ n1_ n2_
  have p285 : 0 ≤ ((ji9) : Int):=of_decide_eq_true (by first|(with_reducible assumption)|assumption)
  have q285 : (ji9) < (y284.length : Int):=(by have h_ : ((ji9) : Int) < ((y279.length : Int) : Int):=of_decide_eq_true (by first|(with_reducible assumption)|assumption);first|(have e_:=(Kd.R_reads' HO281.out).1;omega)|simpa only [Ny284.out,List.length_set] using h_)
  have ql285 : (((ji9) : Int) < ((y279.length : Int) : Int)) = True:=eq_true (of_decide_eq_true (by first|(with_reducible assumption)|assumption))
  obtain ⟨ad285,e285,hx285_0⟩:=Kd.at_int (Kd.R_reads' HO281.out).2.2 (ji9) p285 q285
  obtain rfl : (⟨go8,0,none⟩ : Addr) = ad285:=(by injection e285)
  (first|simp only [add_plain] at hx285_0|simp only [add_at] at hx285_0|simp only [Addr.add,Nat.zero_add] at hx285_0|skip)
  replace p285:=eq_true p285
  replace q285:=eq_true q285
  have p12 : 0 ≤ ((ji9) : Int):=of_decide_eq_true (by first|(with_reducible assumption)|assumption)
  have q12 : ((ji9) : Int) < ((y279.length : Int) : Int):=of_decide_eq_true (by first|(with_reducible assumption)|assumption)
  obtain ⟨hx12_0,hf12_0⟩:=Kd.R_celln 0 HO281.out ((ji9) : Int) p12 q12
  replace p12:=eq_true p12
  replace q12:=eq_true q12
  have HP23:=Kd.R_putn HO281.out ((ji9) : Int) (wrap64 ((rd y284 (ji9)) + a1_2))
  rw [← Ny286.out] at HP23
  have HQ23:=aM HP23
  clear HP23
  refine start_ (n:=15) (S:=fun w' => w'.cell? ⟨gb275,0,none⟩ = some (.int .i64 a1_0) ∧ w'.cell? ⟨gb275,1,none⟩ = some (.int .i64 a1_1) ∧ w'.cell? ⟨gb275,2,none⟩ = some (.int .i64 a1_2) ∧ w'.cell? ⟨go8,((ji9)).toNat,none⟩ = some (.int .i64 (rd y284 (ji9)))) (ds:=[14]) #[bF,bF,bF,bF,bF,bF,bF,bF,bF,bF,bF,bF,bF,bF,bF] (by kernel_rfl) rfl rfl ⟨(blk_cell BK275.out 0).trans rfl,(blk_cell BK275.out 1).trans rfl,(blk_cell BK275.out 2).trans rfl,hx285_0⟩ (fun hHeld => ?_);refine with_tabW spec_l2Pay.tab4 spec_l2Pay.bits4 (fun HT_ HW_ => ?_)
  generalize w21.drew = w22 at HO281 BK275 HB HQ20 HQ23 hf12_0 hx12_0 hx285_0 hHeld ⊢
  refine pure_ (i:=0) (N:=some 32) (v:=?_) (a':=?_) #[bT,bF,bF,bF,bF,bF,bF,bF,bF,bF,bF,bF,bF,bF,bF] rfl rfl (any_of HT_.out (by kernel_rfl)) (fun _ _ _ h => h) (Or.inl ⟨by rfl,?_⟩) ?_ ?_
  rotate_left;(· intro w';go_simp;with_reducible rfl);rotate_left;(· simp only [Act.put,sI,sZ,sS,i64_w,i32_w];rfl)
  refine pure_ (i:=1) (N:=some 33) (v:=?_) (a':=?_) #[bT,bT,bF,bF,bF,bF,bF,bF,bF,bF,bF,bF,bF,bF,bF] rfl rfl (any_of HT_.out (by kernel_rfl)) (fun _ _ _ h => h) (Or.inl ⟨by rfl,?_⟩) ?_ ?_
  rotate_left;(· intro w';go_simp;with_reducible rfl);rotate_left;(· simp only [Act.put,sI,sZ,sS,i64_w,i32_w];rfl)
  refine pure_ (i:=4) (N:=some 36) (v:=?_) (a':=?_) #[bT,bT,bF,bF,bT,bF,bF,bF,bF,bF,bF,bF,bF,bF,bF] rfl rfl (any_of HT_.out (by kernel_rfl)) (fun _ _ _ h => h) (Or.inl ⟨by rfl,?_⟩) ?_ ?_
  rotate_left;(· intro w';go_simp;with_reducible rfl);rotate_left;(· simp only [Act.put,sI,sZ,sS,i64_w,i32_w];rfl)
  refine pure_ (i:=5) (N:=some 37) (v:=?_) (a':=?_) #[bT,bT,bF,bF,bT,bT,bF,bF,bF,bF,bF,bF,bF,bF,bF] rfl rfl (any_of HT_.out (by kernel_rfl)) (fun _ _ _ h => h) (Or.inl ⟨by rfl,?_⟩) ?_ ?_
  rotate_left;(· intro w';go_simp;with_reducible rfl);rotate_left;(· simp only [Act.put,sI,sZ,sS,i64_w,i32_w];rfl)
  refine pure_ (i:=10) (N:=some 42) (v:=?_) (a':=?_) #[bT,bT,bF,bF,bT,bT,bF,bF,bF,bF,bT,bF,bF,bF,bF] rfl rfl (any_of HT_.out (by kernel_rfl)) (fun _ _ _ h => h) (Or.inl ⟨by rfl,?_⟩) ?_ ?_
  rotate_left;(· intro w';go_simp;with_reducible rfl);rotate_left;(· simp only [Act.put,sI,sZ,sS,i64_w,i32_w];rfl)
  refine take_ (i:=2) (N:=some 34) (v:=?_) (a':=?_) #[bT,bT,bT,bF,bT,bT,bF,bF,bF,bF,bT,bF,bF,bF,bF] rfl rfl (take_ofW HT_.out HW_.out (by kernel_rfl)) (fun _ _ _ h => h) (Or.inl ⟨by rfl,?_⟩) hHeld ?_ ?_
  rotate_left
  ·rintro w' ⟨s0,s1,s2,s3⟩
   (try simp only [Int.toNat_natCast] at s0 s1 s2 s3)
   go_simp
   with_reducible rfl
  rotate_left
  ·simp only [Act.put,sI,sZ,sS,i64_w,i32_w]
   rfl
  refine pure_ (i:=3) (N:=some 35) (v:=?_) (a':=?_) #[bT,bT,bT,bT,bT,bT,bF,bF,bF,bF,bT,bF,bF,bF,bF] rfl rfl (any_of HT_.out (by kernel_rfl)) (fun _ _ _ h => h) (Or.inl ⟨by rfl,?_⟩) ?_ ?_
  rotate_left;(· intro w';go_simp;with_reducible rfl);rotate_left;(· simp only [Act.put,sI,sZ,sS,i64_w,i32_w];rfl)
  refine take_ (i:=6) (N:=some 38) (v:=?_) (a':=?_) #[bT,bT,bT,bT,bT,bT,bT,bF,bF,bF,bT,bF,bF,bF,bF] rfl rfl (take_ofW HT_.out HW_.out (by kernel_rfl)) (fun _ _ _ h => h) (Or.inl ⟨by rfl,?_⟩) hHeld ?_ ?_
  rotate_left
  ·rintro w' ⟨s0,s1,s2,s3⟩
   (try simp only [Int.toNat_natCast] at s0 s1 s2 s3)
   go_simp
   with_reducible rfl
  rotate_left
  ·simp only [Act.put,sI,sZ,sS,i64_w,i32_w]
   rfl
  refine pure_ (i:=7) (N:=some 39) (v:=?_) (a':=?_) #[bT,bT,bT,bT,bT,bT,bT,bT,bF,bF,bT,bF,bF,bF,bF] rfl rfl (any_of HT_.out (by kernel_rfl)) (fun _ _ _ h => h) (Or.inl ⟨by rfl,?_⟩) ?_ ?_
  rotate_left;(· intro w';go_simp;with_reducible rfl);rotate_left;(· simp only [Act.put,sI,sZ,sS,i64_w,i32_w];rfl)
  refine pure_ (i:=8) (N:=some 40) (v:=?_) (a':=?_) #[bT,bT,bT,bT,bT,bT,bT,bT,bT,bF,bT,bF,bF,bF,bF] rfl rfl (any_of HT_.out (by kernel_rfl)) (fun _ _ _ h => h) (Or.inl ⟨by rfl,?_⟩) ?_ ?_
  rotate_left;(· intro w';go_simp;with_reducible rfl);rotate_left;(· simp only [Act.put,sI,sZ,sS,i64_w,i32_w];rfl)
  refine take_ (i:=9) (N:=some 41) (v:=?_) (a':=?_) #[bT,bT,bT,bT,bT,bT,bT,bT,bT,bT,bT,bF,bF,bF,bF] rfl rfl (take_ofW HT_.out HW_.out (by kernel_rfl)) (fun _ _ _ h => h) (Or.inl ⟨by rfl,?_⟩) hHeld ?_ ?_
  rotate_left
  ·rintro w' ⟨s0,s1,s2,s3⟩
   (try simp only [Int.toNat_natCast] at s0 s1 s2 s3)
   go_simp
   with_reducible rfl
  rotate_left
  ·simp only [Act.put,sI,sZ,sS,i64_w,i32_w]
   rfl
  refine take_ (i:=11) (N:=some 43) (v:=?_) (a':=?_) #[bT,bT,bT,bT,bT,bT,bT,bT,bT,bT,bT,bT,bF,bF,bF] rfl rfl (take_ofW HT_.out HW_.out (by kernel_rfl)) (fun _ _ _ h => h) (Or.inl ⟨by rfl,?_⟩) hHeld ?_ ?_
  rotate_left
  ·rintro w' ⟨s0,s1,s2,s3⟩
   (try simp only [Int.toNat_natCast] at s0 s1 s2 s3)
   go_simp
   with_reducible rfl
  rotate_left
  ·simp only [Act.put,sI,sZ,sS,i64_w,i32_w]
   rfl
  refine pure_ (i:=12) (N:=some 44) (v:=?_) (a':=?_) #[bT,bT,bT,bT,bT,bT,bT,bT,bT,bT,bT,bT,bT,bF,bF] rfl rfl (any_of HT_.out (by kernel_rfl)) (fun _ _ _ h => h) (Or.inl ⟨by rfl,?_⟩) ?_ ?_
  rotate_left;(· intro w';go_simp;with_reducible rfl);rotate_left;(· simp only [Act.put,sI,sZ,sS,i64_w,i32_w];rfl)
  refine pure_ (i:=13) (N:=some 45) (v:=?_) (a':=?_) #[bT,bT,bT,bT,bT,bT,bT,bT,bT,bT,bT,bT,bT,bT,bF] rfl rfl (any_of HT_.out (by kernel_rfl)) (fun _ _ _ h => h) (Or.inl ⟨by rfl,?_⟩) ?_ ?_
  rotate_left;(· intro w';go_simp;with_reducible rfl);rotate_left;(· simp only [Act.put,sI,sZ,sS,i64_w,i32_w];rfl)
  refine last_ (i:=14) (N:=none) #[bT,bT,bT,bT,bT,bT,bT,bT,bT,bT,bT,bT,bT,bT,bT] rfl rfl (one_of HT_.out (by kernel_rfl)) (by decide) (fun K hK => ?_)
  refine skip_ (w1:=?_) (by rfl) rfl ?_ ?_
  rotate_left
  ·go_simp
   rfl
  refine hK.out _ _ ?_
  clear hK K
  refine done_ (done_of HT_.out (by kernel_rfl)) ?_
  try go_wp2
  go_ret
  exact ⟨_,by first|rfl|(simp only [i64_w,i32_w];done)|(simp only [i64_w,i32_w];rfl)|(simp [errW_none,errW_some] <;> rfl)|(simp only [← hji4,← hji9];first|rfl|(simp [errW_none,errW_some] <;> rfl))|(simp [*,errW_none,errW_some] <;> rfl),by (with_reducible repeat (first|apply Kd.R_alloc|apply Kd.R_drewN|apply Kd.R_drew));exact HQ23.out,by repeat (first|(with_reducible first|exact HB.out|apply bA|apply bN|apply bD|refine below_set ?_ GB8.out|refine below_set ?_ GE275.out)|exact HB.out)⟩
 ·rw [if_neg c7] at H
  have c7b0 : decide (a1_2 ≤ (rd y279 (ji4))) = false:=decide_eq_false c7
  clear c7
  obtain rfl:=Option.some.inj H
  go_enter Try.func46,Try.ntmps46
  try go_wp2_with (first|((with_reducible refine gate_dst (N:=3) rfl ?_);refine box_event ?hg (N:=3) ?hd (cs:=#[.int .i64 a1_0,.int .i64 a1_1,.int .i64 a1_2]) (t:=44) ?hr ?_;(case hd => rfl);(case hg => rfl);(case hr => first|(go_simp;done)|(go_simp;rfl));intro gb275 hg w24 hbox hb;have n0_:=aM (below_step (by repeat (first|(with_reducible first|exact HB.out|apply bA|apply bN|apply bD)|exact HB.out)) hb);have n1_:=aM (hbox);have n2_:=aM ((by rw [hg];exact (below_size (by repeat (first|(with_reducible first|exact HB.out|apply bA|apply bN|apply bD)|exact HB.out))) : w.heap.size ≤ gb275));have n3_:=aM ((by rw [hg];exact (below_size (by repeat (first|(with_reducible first|exact HB.out|apply bA|apply bN|apply bD)|exact HB.out))) : w.heap.size ≤ gb275));clear HB;have HB:=n0_;have BK275:=n1_;have GW275:=n2_;have GE275:=n3_;clear n0_ n1_ n2_ n3_;clear hb hbox hg)|((with_reducible refine gate_dst (N:=6) rfl ?_);refine Kd.R_lit (Kd.int .i64) _ 3 ?hg (N:=6) ?hd (xs:=([] : List Int)) (inner:=[]) (ok:=fun _ => True) (okp:=fun _ => True) ?hr ?hp (fun _ hk => hk) trivial (Below.refl _ _) (Nat.le_refl _) (by simp) ?_;(case hd => rfl);(case hg => rfl);(case hr => first|(go_simp;done)|(go_simp;rfl));(case hp => exact (Reps.none _ _));intro v277 w25 ho26 hb hg_ hnew_;clear hg_ hnew_;(first|rw [← Ny276.out] at ho26|(simp only [Int.reduceToNat] at ho26;rw [← Ny276.out] at ho26));have n0_:=aM (Kd.R_lower ho26 (below_size (by repeat (first|(with_reducible first|exact HB.out|apply bA|apply bN|apply bD|refine below_set ?_ GE275.out)|exact HB.out))));have n1_:=aM (blk_below (g:=gb275) (o:=.cells #[.int .i64 a1_0,.int .i64 a1_1,.int .i64 a1_2] 44 (0,0)) (by (with_reducible repeat (first|refine blk_drewN ?_ _|refine blk_drew ?_|refine blk_alloc ?_ _));exact BK275.out) hb);have n2_:=aM (below_step (by repeat (first|(with_reducible first|exact HB.out|apply bA|apply bN|apply bD|refine below_set ?_ GE275.out)|exact HB.out)) hb);clear BK275;clear HB;have HO278:=n0_;have BK275:=n1_;have HB:=n2_;clear n0_ n1_ n2_;clear hb ho26)|((with_reducible refine gate_builtin (b:=.append) (xs:=#[.tmp 6,.tmp 7]) rfl ?_);at_builtin;refine Kd.R_append_rows (Kd.int .i64) (w0:=w) w.heap.size rfl (.tmp 6) (.tmp 7) 22 3 (.int .i64 0) 8 rfl Try.underlying22 info3 rfl (by decide) (by omega) v277 y276 l0 _ _ _ (fun _ => True) (fun _ => False) rfl rfl ?aO ?aR (fun _ _ h => h) (fun _ h => h.elim) ?aF ?aB ?aS ?aL ?_;(case aR => repeat (first|exact (Kd.C_below HR0.out HB.out)|(with_reducible refine Kd.C_alloc ?_ _)|(with_reducible refine Kd.C_drewN ?_ _)|(with_reducible refine Kd.C_drew ?_)));(case aB => exact (by repeat (first|(with_reducible first|exact HB.out|apply bA|apply bN|apply bD|refine below_set ?_ GE275.out)|exact HB.out)));(case aF => exact (fun _ _ => trivial));(case aO => exact (by (with_reducible repeat (first|apply Kd.R_alloc|apply Kd.R_drewN|apply Kd.R_drew));exact HO278.out));(case aS => exact (below_size (by repeat (first|(with_reducible first|exact HB.out|apply bA|apply bN|apply bD|refine below_set ?_ GE275.out)|exact HB.out))));(case aL => have:=LMc3.out;omega);intro v280 w27 ho hb hg hat;rw [← Ny279.out] at ho;have n0_:=aM (blk_grown (g:=gb275) (o:=.cells #[.int .i64 a1_0,.int .i64 a1_1,.int .i64 a1_2] 44 (0,0)) (by (with_reducible repeat (first|refine blk_drewN ?_ _|refine blk_drew ?_|refine blk_alloc ?_ _));exact BK275.out) hg (Kd.R_ne HO278.out BK275.out (by decide)));have n1_:=aM (hb);have n2_:=aM (ho);clear BK275;clear HB;clear HO278;have BK275:=n0_;have HB:=n1_;have HO281:=n2_;clear n0_ n1_ n2_;clear ho hb hg hat))
  have n0_:=aM (Kd.R_drew HO281.out)
  have n1_:=aM (blk_drew BK275.out)
  have n2_:=aM (bD HB.out)
  clear HO281
  clear BK275
  clear HB
  have HO281:=n0_
  have BK275:=n1_
  have HB:=n2_
  clear n0_ n1_ n2_
  obtain ⟨Ao29,co29,eo29⟩:=Kd.R_slice HO281.out
  (first|subst eo29|(injection eo29 with f1_ f2_ f3_;have f4_:=f1_.symm;have f5_:=f3_.symm;clear f1_ f2_ f3_;subst f4_;subst f5_))
  have p282 : 0 ≤ ((ji4) : Int):=of_decide_eq_true (by first|(with_reducible assumption)|assumption)
  have q282 : (ji4) < (y279.length : Int):=of_decide_eq_true (by first|(with_reducible assumption)|assumption)
  obtain ⟨ad282,e282,hx282_0⟩:=Kd.at_int (Kd.R_reads' HO281.out).2.2 (ji4) p282 q282
  cases e282
  replace p282:=eq_true p282
  replace q282:=eq_true q282
  refine start_ (n:=9) (S:=fun w' => w'.cell? ⟨gb275,0,none⟩ = some (.int .i64 a1_0) ∧ w'.cell? ⟨gb275,1,none⟩ = some (.int .i64 a1_1) ∧ w'.cell? ⟨gb275,2,none⟩ = some (.int .i64 a1_2) ∧ w'.cell? (ad282.add ((ji4)).toNat) = some (.int .i64 (rd y279 (ji4)))) (ds:=[]) #[bF,bF,bF,bF,bF,bF,bF,bF,bF] (by kernel_rfl) rfl rfl ⟨(blk_cell BK275.out 0).trans rfl,(blk_cell BK275.out 1).trans rfl,(blk_cell BK275.out 2).trans rfl,hx282_0⟩ (fun hHeld => ?_);refine with_tabW spec_l2Pay.tab2 spec_l2Pay.bits2 (fun HT_ HW_ => ?_)
  generalize w27.drew = w28 at HO281 BK275 HB hx282_0 hHeld ⊢
  refine pure_ (i:=0) (N:=some 9) (v:=?_) (a':=?_) #[bT,bF,bF,bF,bF,bF,bF,bF,bF] rfl rfl (any_of HT_.out (by kernel_rfl)) (fun _ _ _ h => h) (Or.inl ⟨by rfl,?_⟩) ?_ ?_
  rotate_left;(· intro w';go_simp;with_reducible rfl);rotate_left;(· simp only [Act.put,sI,sZ,sS,i64_w,i32_w];rfl)
  refine pure_ (i:=1) (N:=some 10) (v:=?_) (a':=?_) #[bT,bT,bF,bF,bF,bF,bF,bF,bF] rfl rfl (any_of HT_.out (by kernel_rfl)) (fun _ _ _ h => h) (Or.inl ⟨by rfl,?_⟩) ?_ ?_
  rotate_left;(· intro w';go_simp;with_reducible rfl);rotate_left;(· simp only [Act.put,sI,sZ,sS,i64_w,i32_w];rfl)
  refine pure_ (i:=6) (N:=some 15) (v:=?_) (a':=?_) #[bT,bT,bF,bF,bF,bF,bT,bF,bF] rfl rfl (any_of HT_.out (by kernel_rfl)) (fun _ _ _ h => h) (Or.inl ⟨by rfl,?_⟩) ?_ ?_
  rotate_left;(· intro w';go_simp;with_reducible rfl);rotate_left;(· simp only [Act.put,sI,sZ,sS,i64_w,i32_w];rfl)
  refine take_ (i:=2) (N:=some 11) (v:=?_) (a':=?_) #[bT,bT,bT,bF,bF,bF,bT,bF,bF] rfl rfl (take_ofW HT_.out HW_.out (by kernel_rfl)) (fun _ _ _ h => h) (Or.inl ⟨by rfl,?_⟩) hHeld ?_ ?_
  rotate_left
  ·rintro w' ⟨s0,s1,s2,s3⟩
   (try simp only [Int.toNat_natCast] at s0 s1 s2 s3)
   go_simp
   with_reducible rfl
  rotate_left
  ·simp only [Act.put,sI,sZ,sS,i64_w,i32_w]
   rfl
  refine pure_ (i:=3) (N:=some 12) (v:=?_) (a':=?_) #[bT,bT,bT,bT,bF,bF,bT,bF,bF] rfl rfl (any_of HT_.out (by kernel_rfl)) (fun _ _ _ h => h) (Or.inl ⟨by rfl,?_⟩) ?_ ?_
  rotate_left;(· intro w';go_simp;with_reducible rfl);rotate_left;(· simp only [Act.put,sI,sZ,sS,i64_w,i32_w];rfl)
  refine pure_ (i:=4) (N:=some 13) (v:=?_) (a':=?_) #[bT,bT,bT,bT,bT,bF,bT,bF,bF] rfl rfl (any_of HT_.out (by kernel_rfl)) (fun _ _ _ h => h) (Or.inl ⟨by rfl,?_⟩) ?_ ?_
  rotate_left;(· intro w';go_simp;with_reducible rfl);rotate_left;(· simp only [Act.put,sI,sZ,sS,i64_w,i32_w];rfl)
  refine take_ (i:=5) (N:=some 14) (v:=?_) (a':=?_) #[bT,bT,bT,bT,bT,bT,bT,bF,bF] rfl rfl (take_ofW HT_.out HW_.out (by kernel_rfl)) (fun _ _ _ h => h) (Or.inl ⟨by rfl,?_⟩) hHeld ?_ ?_
  rotate_left
  ·rintro w' ⟨s0,s1,s2,s3⟩
   (try simp only [Int.toNat_natCast] at s0 s1 s2 s3)
   go_simp
   with_reducible rfl
  rotate_left
  ·simp only [Act.put,sI,sZ,sS,i64_w,i32_w]
   rfl
  refine take_ (i:=7) (N:=some 16) (v:=?_) (a':=?_) #[bT,bT,bT,bT,bT,bT,bT,bT,bF] rfl rfl (take_ofW HT_.out HW_.out (by kernel_rfl)) (fun _ _ _ h => h) (Or.inl ⟨by rfl,?_⟩) hHeld ?_ ?_
  rotate_left
  ·rintro w' ⟨s0,s1,s2,s3⟩
   (try simp only [Int.toNat_natCast] at s0 s1 s2 s3)
   go_simp
   with_reducible rfl
  rotate_left
  ·simp only [Act.put,sI,sZ,sS,i64_w,i32_w]
   rfl
  refine pure_ (i:=8) (N:=some 17) (v:=?_) (a':=?_) #[bT,bT,bT,bT,bT,bT,bT,bT,bT] rfl rfl (any_of HT_.out (by kernel_rfl)) (fun _ _ _ h => h) (Or.inl ⟨by rfl,?_⟩) ?_ ?_
  rotate_left;(· intro w';go_simp;with_reducible rfl);rotate_left;(· simp only [Act.put,sI,sZ,sS,i64_w,i32_w];rfl)
  refine done_ (done_of HT_.out (by kernel_rfl)) ?_
  try go_wp2
  go_ret
  exact ⟨_,by first|rfl|(simp only [i64_w,i32_w];done)|(simp only [i64_w,i32_w];rfl)|(simp [errW_none,errW_some] <;> rfl)|(simp only [← hji4];first|rfl|(simp [errW_none,errW_some] <;> rfl))|(simp [*,errW_none,errW_some] <;> rfl),by (with_reducible repeat (first|apply Kd.R_alloc|apply Kd.R_drewN|apply Kd.R_drew));exact HO281.out,by repeat (first|(with_reducible first|exact HB.out|apply bA|apply bN|apply bD|refine below_set ?_ GE275.out)|exact HB.out)⟩

/-! ### spec_BookOf: function 29 -/
def spec_BookOf.l0 : Nat → List (S56) → List Int → Int → Option (List Int)
 | 0,_,_,_ => none
 | k + 1,x0,x3,x4 => if x4 < (x0.length : Int) then (if 0 ≤ x4 then ((spec_l2Pay.f x3 ((rd_T56 x0 x4).f1.f0) ((rd_T56 x0 x4).f1.f1) ((rd_T56 x0 x4).f1.f2)).bind fun t295 => (spec_BookOf.l0 k x0 t295 (wrap64 (x4 + 1)))) else (none)) else (some x3)
def spec_BookOf.f (k : Nat) (l0 : List (S56)) : Option (List Int):=(spec_ChainOk.f k l0).bind fun t287 => (if t287 = true then ((spec_BookNew.f).bind fun t291 => (spec_BookOf.l0 k l0 t291 0)) else (some (([] : List Int))))
theorem spec_BookOf.mono_l : ∀ k,(∀ y0 y1 y2,LeO (spec_BookOf.l0 k y0 y1 y2) (spec_BookOf.l0 (k + 1) y0 y1 y2))
 | 0 => fun _ _ _ r h => by simp [spec_BookOf.l0] at h
 | k + 1 => by
  have ih0:=spec_BookOf.mono_l k
  ·intro y0 y1 y2
   unfold spec_BookOf.l0
   repeat' first
   | exact LeO.refl _
   | exact ih0 _ _ _
   | exact spec_ChainOk.mono _ _
   | exact LeO.none _
   | refine LeO.ite ?_ ?_
   | refine LeO.bind ?_ (fun _ => ?_)
theorem spec_BookOf.mono : ∀ a0 k,LeO (spec_BookOf.f k a0) (spec_BookOf.f (k + 1) a0):=by
 intro a0 k
 have ih0:=spec_BookOf.mono_l k
 unfold spec_BookOf.f
 repeat' first
   | exact LeO.refl _
   | exact ih0 _ _ _
   | exact spec_ChainOk.mono _ _
   | exact LeO.none _
   | refine LeO.ite ?_ ?_
   | refine LeO.bind ?_ (fun _ => ?_)
set_option maxHeartbeats 8000000 in
set_option maxRecDepth 100000 in
theorem spec_BookOf.calls (k : Nat) (A0 : Option Addr) (c0 : Nat) (l0 : List (S56)) (r : List Int) (w : World) (hr0 : Kd.C k56 w A0 l0.length l0) (hc0 : l0.length ≤ c0) (h : spec_BookOf.f k l0 = some r) :
  Calls Try.prog 29 #[.slice A0 l0.length c0] w fun e w' => ∃ v0_ : Value,e = .returned (v0_) ∧ Kd.R (Kd.int .i64) 3 w' w.heap.size (fun _ => True) v0_ r ∧ Below w.heap.size w w':=by
 have hu44:=Try.underlying44
 have HR0:=aM hr0
 have HC0:=aM hc0
 clear hr0 hc0
 have HB:=aM (Below.refl w.heap.size w)
 have H : ((spec_ChainOk.f k l0).bind fun t287 => (if t287 = true then ((spec_BookNew.f).bind fun t291 => (spec_BookOf.l0 k l0 t291 0)) else (some (([] : List Int))))) = some r:=h
 clear h
 replace H:=Option.bind_eq_some_iff.mp H
 obtain ⟨t287,A20,H⟩:=H
 replace H : (if t287 = true then ((spec_BookNew.f).bind fun t291 => (spec_BookOf.l0 k l0 t291 0)) else (some (([] : List Int)))) = some r:=H
 have A2:=aM A20
 clear A20
 by_cases c3 : t287 = true
 ·subst c3
  have H1 : ((spec_BookNew.f).bind fun t291 => (spec_BookOf.l0 k l0 t291 0)) = some r:=by rw [if_pos rfl] at H;exact H
  clear H
  have H:=H1
  clear H1
  replace H:=Option.bind_eq_some_iff.mp H
  obtain ⟨t291,A40,H⟩:=H
  replace H : (spec_BookOf.l0 k l0 t291 0) = some r:=H
  have A4:=aM A40
  clear A40
  have H':=aM H
  clear H
  go_enter Try.func29,Try.ntmps29
  go_wp2_with (first|((with_reducible refine gate_callee (f:=16) rfl ?_);refine goesL_ (some 6) rfl rfl Try.func16 (by kernel_rfl) rfl #[.slice A0 l0.length c0] rfl (by (try simp only [List.map_toArray,List.map_cons,List.map_nil]);first|done|rfl|(simp only [List.length_drop,List.length_take];rfl)) ?_;(with_reducible refine (spec_ChainOk.calls k _ _ l0 true _ ?side1 ?side2 A2.out).mono ?_);(case side1 => repeat (first|exact HR0.out|(with_reducible refine Kd.C_alloc ?_ _)|(with_reducible refine Kd.C_drewN ?_ _)|(with_reducible refine Kd.C_drew ?_)));(case side2 => exact HC0.out);rintro e w5 ⟨rfl,hb⟩;refine ⟨_,rfl,?_⟩;have n0_:=aM (below_step (by repeat (first|(with_reducible first|exact HB.out|apply bA|apply bN|apply bD)|exact HB.out)) hb);clear HB;have HB:=n0_;clear n0_;(try clear hb);(try clear hb2);(try clear hk);(try clear hi))|((with_reducible refine gate_callee (f:=8) rfl ?_);refine goesL_ (some 9) rfl rfl Try.func8 (by kernel_rfl) rfl #[] rfl (by (try simp only [List.map_toArray,List.map_cons,List.map_nil]);first|done|rfl|(simp only [List.length_drop,List.length_take];rfl)) ?_;(with_reducible refine (spec_BookNew.calls  t291 _ A4.out).mono ?_);rintro e w6 ⟨v292,rfl,ho0,hb⟩;refine ⟨_,rfl,?_⟩;have n0_:=aM (Kd.R_lower ho0 (below_size (by repeat (first|(with_reducible first|exact HB.out|apply bA|apply bN|apply bD)|exact HB.out))));have n1_:=aM (below_step (by repeat (first|(with_reducible first|exact HB.out|apply bA|apply bN|apply bD)|exact HB.out)) hb);clear HB;have HO293:=n0_;have HB:=n1_;clear n0_ n1_;(try clear hb);(try clear hb2);(try clear hk);(try clear hi);(try clear ho0)))
  go_loopg [3,4] k (fun kq v3 v4 w' => ∃ (x3_1 : List Int) (x4_1 : Int),v4 = .int .i64 x4_1 ∧ Aside0 (spec_BookOf.l0 kq l0 x3_1 x4_1 = some r) ∧ Aside0 (kq ≤ k) ∧ Aside0 (Kd.R (Kd.int .i64) 3 w' w.heap.size (fun _ => True) v3 x3_1) ∧ Aside0 (Below w.heap.size w w'))
  case atStart => exact ⟨(t291),(0),(by first|rfl|(simp;done)|(simp [*];done)),H',⟨Nat.le_refl _⟩,⟨by (with_reducible repeat (first|apply Kd.R_alloc|apply Kd.R_drewN|apply Kd.R_drew));exact HO293.out⟩,⟨by repeat (first|(with_reducible first|exact HB.out|apply bA|apply bN|apply bD)|exact HB.out)⟩⟩
  case round =>
   clear H'
   try clear c1
   try clear c2
   try clear p2
   try clear c3
   obtain ⟨x3_1,x4_1,rfl,HA,HK1,HO_3,HB⟩:=hrel
   cases gk with
   | zero => exact absurd HA.out (by simp [spec_BookOf.l0])
   | succ k1 =>
    have H:=HA.out
    clear HA
    simp only [spec_BookOf.l0] at H
    by_cases c7 : x4_1 < (l0.length : Int)
    ·rw [if_pos c7] at H
     have c7b0 : decide (x4_1 < (l0.length : Int)) = true:=decide_eq_true c7
     clear c7
     by_cases c8 : 0 ≤ x4_1
     case neg => rw [if_neg c8] at H;exact absurd H (by simp)
     rw [if_pos c8] at H
     have c8b0 : decide (0 ≤ x4_1) = true:=decide_eq_true c8
     clear c8
     replace H:=Option.bind_eq_some_iff.mp H
     obtain ⟨t295,A90,H⟩:=H
     replace H : (spec_BookOf.l0 k1 l0 t295 (wrap64 (x4_1 + 1))) = some r:=H
     have A9:=aM A90
     clear A90
     have H':=aM H
     clear H
     have p294 : 0 ≤ (x4_1 : Int):=of_decide_eq_true (by first|(with_reducible assumption)|assumption)
     have q294 : x4_1 < (l0.length : Int):=of_decide_eq_true (by first|(with_reducible assumption)|assumption)
     obtain ⟨ad294,e294,hx294_0,hx294_1,hx294_2,hx294_3⟩:=at_T56 HR0.out x4_1 p294 q294
     cases e294
     replace hx294_0:=(HB.out.cell (bL w hx294_0)).trans hx294_0
     replace hx294_1:=(HB.out.cell (bL w hx294_1)).trans hx294_1
     replace hx294_2:=(HB.out.cell (bL w hx294_2)).trans hx294_2
     replace hx294_3:=(HB.out.cell (bL w hx294_3)).trans hx294_3
     replace p294:=eq_true p294
     replace q294:=eq_true q294
     obtain ⟨Ao10,co10,eo10⟩:=Kd.R_slice HO_3.out
     subst eo10
     go_wp2_with (first|((with_reducible refine gate_callee (f:=46) rfl ?_);refine goesL_ (some 22) rfl rfl Try.func46 (by kernel_rfl) rfl #[.slice Ao10 x3_1.length co10,.agg #[.int .i64 ((rd_T56 l0 x4_1).f1.f0),.int .i64 ((rd_T56 l0 x4_1).f1.f1),.int .i64 ((rd_T56 l0 x4_1).f1.f2)]] rfl (by (try simp only [List.map_toArray,List.map_cons,List.map_nil]);first|done|rfl|(simp only [List.length_drop,List.length_take];rfl)) ?_;(with_reducible refine (spec_l2Pay.calls _ _ x3_1 ((rd_T56 l0 x4_1).f1.f0) ((rd_T56 l0 x4_1).f1.f1) ((rd_T56 l0 x4_1).f1.f2) t295 _ ?side1 ?side2 A9.out).mono ?_);(case side1 => repeat (first|exact (Kd.R_reads' HO_3.out).2.2|(with_reducible refine Kd.C_alloc ?_ _)|(with_reducible refine Kd.C_drewN ?_ _)|(with_reducible refine Kd.C_drew ?_)));(case side2 => exact (Kd.R_reads' HO_3.out).2.1);rintro e w11 ⟨v296,rfl,ho0,hb⟩;refine ⟨_,rfl,?_⟩;have n0_:=aM (Kd.R_elder' (by (with_reducible repeat (first|apply Kd.R_alloc|apply Kd.R_drewN|apply Kd.R_drew));exact HO_3.out) (Kd.R_base ho0) hb);have n1_:=aM (Kd.R_lower (Kd.R_new' ho0 (Kd.R_lt (by (with_reducible repeat (first|apply Kd.R_alloc|apply Kd.R_drewN|apply Kd.R_drew));exact HO_3.out))) (below_size (by repeat (first|(with_reducible first|exact HB.out|apply bA|apply bN|apply bD)|exact HB.out))));have n2_:=aM (below_step (by repeat (first|(with_reducible first|exact HB.out|apply bA|apply bN|apply bD)|exact HB.out)) hb);clear HO_3;clear HB;have HO_3:=n0_;have HO297:=n1_;have HB:=n2_;clear n0_ n1_ n2_;(try clear hb);(try clear hb2);(try clear hk);(try clear hi);(try clear ho0)))
     go_roundg k1
     case measure => have:=HK1.out;omega
     case rel => exact ⟨(t295),(wrap64 (x4_1 + 1)),(by first|rfl|(simp;done)|(simp [*];done)),H',⟨by have:=HK1.out;omega⟩,⟨by (with_reducible repeat (first|apply Kd.R_alloc|apply Kd.R_drewN|apply Kd.R_drew));exact Kd.R_mono HO297.out (fun _ hk => trivial)⟩,⟨by repeat (first|(with_reducible first|exact HB.out|apply bA|apply bN|apply bD)|exact HB.out)⟩⟩
    ·rw [if_neg c7] at H
     have c7b0 : decide (x4_1 < (l0.length : Int)) = false:=decide_eq_false c7
     clear c7
     obtain rfl:=Option.some.inj H
     go_wp2
     go_ret
     exact ⟨_,by first|rfl|(simp only [i64_w,i32_w];done)|(simp only [i64_w,i32_w];rfl)|(simp [errW_none,errW_some] <;> rfl)|(simp [*,errW_none,errW_some] <;> rfl),by (with_reducible repeat (first|apply Kd.R_alloc|apply Kd.R_drewN|apply Kd.R_drew));exact HO_3.out,by repeat (first|(with_reducible first|exact HB.out|apply bA|apply bN|apply bD)|exact HB.out)⟩
 ·replace c3:=Bool.eq_false_iff.mpr c3
  subst c3
  have H1 : (some (([] : List Int))) = some r:=by rw [if_neg (show ¬ (false = true) by decide)] at H;exact H
  clear H
  have H:=H1
  clear H1
  obtain ⟨y288,hy288⟩ : ∃ y_ : List Int,y_ = (([] : List Int)):=⟨_,rfl⟩
  replace H : (some y288) = some r:=by first|(rw [hy288];with_reducible exact H)|(have H2_:=(Option.bind_some _ _).symm.trans H;rw [hy288];with_reducible exact H2_)|(have H2_:=(Option.bind_some _ _).symm.trans H;with_reducible exact H2_)|with_reducible exact H|(rw [hy288];exact H)|exact H
  have Ny288:=aM hy288
  clear hy288
  obtain rfl:=Option.some.inj H
  go_enter Try.func29,Try.ntmps29
  go_wp2_with (first|((with_reducible refine gate_callee (f:=16) rfl ?_);refine goesL_ (some 6) rfl rfl Try.func16 (by kernel_rfl) rfl #[.slice A0 l0.length c0] rfl (by (try simp only [List.map_toArray,List.map_cons,List.map_nil]);first|done|rfl|(simp only [List.length_drop,List.length_take];rfl)) ?_;(with_reducible refine (spec_ChainOk.calls k _ _ l0 false _ ?side1 ?side2 A2.out).mono ?_);(case side1 => repeat (first|exact HR0.out|(with_reducible refine Kd.C_alloc ?_ _)|(with_reducible refine Kd.C_drewN ?_ _)|(with_reducible refine Kd.C_drew ?_)));(case side2 => exact HC0.out);rintro e w12 ⟨rfl,hb⟩;refine ⟨_,rfl,?_⟩;have n0_:=aM (below_step (by repeat (first|(with_reducible first|exact HB.out|apply bA|apply bN|apply bD)|exact HB.out)) hb);clear HB;have HB:=n0_;clear n0_;(try clear hb);(try clear hb2);(try clear hk);(try clear hi))|((with_reducible refine gate_dst (N:=8) rfl ?_);refine Kd.R_lit (Kd.int .i64) _ 3 ?hg (N:=8) ?hd (xs:=([] : List Int)) (inner:=[]) (ok:=fun _ => True) (okp:=fun _ => True) ?hr ?hp (fun _ hk => hk) trivial (Below.refl _ _) (Nat.le_refl _) (by simp) ?_;(case hd => rfl);(case hg => rfl);(case hr => first|(go_simp;done)|(go_simp;rfl));(case hp => exact (Reps.none _ _));intro v289 w13 ho14 hb hg_ hnew_;clear hg_ hnew_;(first|rw [← Ny288.out] at ho14|(simp only [Int.reduceToNat] at ho14;rw [← Ny288.out] at ho14));have n0_:=aM (Kd.R_lower ho14 (below_size (by repeat (first|(with_reducible first|exact HB.out|apply bA|apply bN|apply bD)|exact HB.out))));have n1_:=aM (below_step (by repeat (first|(with_reducible first|exact HB.out|apply bA|apply bN|apply bD)|exact HB.out)) hb);clear HB;have HO290:=n0_;have HB:=n1_;clear n0_ n1_;clear hb ho14))
  go_ret
  exact ⟨_,by first|rfl|(simp only [i64_w,i32_w];done)|(simp only [i64_w,i32_w];rfl)|(simp [errW_none,errW_some] <;> rfl)|(simp [*,errW_none,errW_some] <;> rfl),by (with_reducible repeat (first|apply Kd.R_alloc|apply Kd.R_drewN|apply Kd.R_drew));exact HO290.out,by repeat (first|(with_reducible first|exact HB.out|apply bA|apply bN|apply bD)|exact HB.out)⟩

-- NOT PRINTED: function 31 (slices_Clip_int_int)

/-! ### bits_Mul32: function 60 -/
def bits_Mul32.f (a0 : Int) (a1 : Int) : Option (Int × Int):=some (((IntKind.u64.wrap ((IntKind.u64.wrap (a0)) * (IntKind.u64.wrap (a1)))) / 4294967296) % 4294967296,(IntKind.u64.wrap ((IntKind.u64.wrap (a0)) * (IntKind.u64.wrap (a1)))) % 4294967296)
set_option maxHeartbeats 8000000 in
set_option maxRecDepth 100000 in
theorem bits_Mul32.calls (a0 : Int) (a1 : Int) (r1 : Int) (r2 : Int) (w : World) (h : bits_Mul32.f a0 a1 = some (r1,r2)) :
  Calls Try.prog 60 #[.int .u32 a0,.int .u32 a1] w fun e w' => e = .returned (.tuple #[.int .u32 r1,.int .u32 r2]) ∧ Drawn0 w w':=by
 have H : (some (((IntKind.u64.wrap ((IntKind.u64.wrap (a0)) * (IntKind.u64.wrap (a1)))) / 4294967296) % 4294967296,(IntKind.u64.wrap ((IntKind.u64.wrap (a0)) * (IntKind.u64.wrap (a1)))) % 4294967296)) = some (r1,r2):=h
 clear h
 simp only [Option.some.injEq,Prod.mk.injEq] at H
 obtain ⟨rfl,rfl⟩:=H
 go_enter Try.func60,Try.ntmps60
 go_wp2
 go_ret2
 exact ⟨by first|rfl|(simp;done)|(simp [*];done),by repeat (first|exact Drawn0.refl _|apply Drawn0.step)⟩

/-! ### bits_Mul64: function 61 -/
def bits_Mul64.f (a0 : Int) (a1 : Int) : Option (Int × Int):=some (IntKind.u64.wrap ((IntKind.u64.wrap ((IntKind.u64.wrap ((a0 / 4294967296) * (a1 / 4294967296))) + ((IntKind.u64.wrap ((IntKind.u64.wrap ((a0 / 4294967296) * (Go.bits .and .u64 a1 4294967295))) + ((IntKind.u64.wrap ((Go.bits .and .u64 a0 4294967295) * (Go.bits .and .u64 a1 4294967295))) / 4294967296))) / 4294967296))) + ((IntKind.u64.wrap ((Go.bits .and .u64 (IntKind.u64.wrap ((IntKind.u64.wrap ((a0 / 4294967296) * (Go.bits .and .u64 a1 4294967295))) + ((IntKind.u64.wrap ((Go.bits .and .u64 a0 4294967295) * (Go.bits .and .u64 a1 4294967295))) / 4294967296))) 4294967295) + (IntKind.u64.wrap ((Go.bits .and .u64 a0 4294967295) * (a1 / 4294967296))))) / 4294967296)),IntKind.u64.wrap (a0 * a1))
set_option maxHeartbeats 8000000 in
set_option maxRecDepth 100000 in
theorem bits_Mul64.calls (a0 : Int) (a1 : Int) (r1 : Int) (r2 : Int) (w : World) (h : bits_Mul64.f a0 a1 = some (r1,r2)) :
  Calls Try.prog 61 #[.int .u64 a0,.int .u64 a1] w fun e w' => e = .returned (.tuple #[.int .u64 r1,.int .u64 r2]) ∧ Drawn0 w w':=by
 have H : (some (IntKind.u64.wrap ((IntKind.u64.wrap ((IntKind.u64.wrap ((a0 / 4294967296) * (a1 / 4294967296))) + ((IntKind.u64.wrap ((IntKind.u64.wrap ((a0 / 4294967296) * (Go.bits .and .u64 a1 4294967295))) + ((IntKind.u64.wrap ((Go.bits .and .u64 a0 4294967295) * (Go.bits .and .u64 a1 4294967295))) / 4294967296))) / 4294967296))) + ((IntKind.u64.wrap ((Go.bits .and .u64 (IntKind.u64.wrap ((IntKind.u64.wrap ((a0 / 4294967296) * (Go.bits .and .u64 a1 4294967295))) + ((IntKind.u64.wrap ((Go.bits .and .u64 a0 4294967295) * (Go.bits .and .u64 a1 4294967295))) / 4294967296))) 4294967295) + (IntKind.u64.wrap ((Go.bits .and .u64 a0 4294967295) * (a1 / 4294967296))))) / 4294967296)),IntKind.u64.wrap (a0 * a1))) = some (r1,r2):=h
 clear h
 simp only [Option.some.injEq,Prod.mk.injEq] at H
 obtain ⟨rfl,rfl⟩:=H
 go_enter Try.func61,Try.ntmps61
 go_wp2
 go_ret2
 exact ⟨by first|rfl|(simp;done)|(simp [*];done),by repeat (first|exact Drawn0.refl _|apply Drawn0.step)⟩

/-! ### bits_Mul: function 51 -/
def bits_Mul.f (a0 : Int) (a1 : Int) : Option (Int × Int):=(bits_Mul64.f a0 a1).bind fun bt298 => (some (bt298.1,bt298.2))
set_option maxHeartbeats 8000000 in
set_option maxRecDepth 100000 in
theorem bits_Mul.calls (a0 : Int) (a1 : Int) (r1 : Int) (r2 : Int) (w : World) (h : bits_Mul.f a0 a1 = some (r1,r2)) :
  Calls Try.prog 51 #[.int .u64 a0,.int .u64 a1] w fun e w' => e = .returned (.tuple #[.int .u64 r1,.int .u64 r2]) ∧ Drawn0 w w':=by
 have H : ((bits_Mul64.f a0 a1).bind fun bt298 => (some (bt298.1,bt298.2))) = some (r1,r2):=h
 clear h
 replace H:=Option.bind_eq_some_iff.mp H
 obtain ⟨⟨t298,t299⟩,A30,H⟩:=H
 replace H : (some (t298,t299)) = some (r1,r2):=H
 have A3:=aM A30
 clear A30
 simp only [Option.some.injEq,Prod.mk.injEq] at H
 obtain ⟨rfl,rfl⟩:=H
 go_enter Try.func51,Try.ntmps51
 go_wp2_with (first|((with_reducible refine gate_callee (f:=61) rfl ?_);refine goesL_ (some 25) rfl rfl Try.func61 (by kernel_rfl) rfl #[.int .u64 a0,.int .u64 a1] rfl (by (try simp only [List.map_toArray,List.map_cons,List.map_nil]);first|done|rfl|(simp only [List.length_drop,List.length_take];rfl)) ?_;(with_reducible refine (bits_Mul64.calls a0 a1 t298 t299 _ A3.out).mono ?_);rintro e w' ⟨rfl,⟨nd,rfl⟩⟩;refine ⟨_,rfl,?_⟩))
 go_ret2
 exact ⟨by first|rfl|(simp;done)|(simp [*];done),by repeat (first|exact Drawn0.refl _|apply Drawn0.step)⟩

-- NOT PRINTED: function 32 (slices_Repeat_int_int)

/-! ### impl_BookNew: function 9 -/
def impl_BookNew.f : Option (List Int):=some [9,9,9]
theorem bn_reps (xs : List Int) : Reps (fun (x : Int) (cs : List Value) => cs = [Value.int .i64 x]) 1 xs (xs.map (Value.int .i64)):=by
 refine ⟨by simp,fun j p hj => ?_⟩
 have hl : j < xs.length:=(List.getElem?_eq_some_iff.1 hj).1
 have e : xs[j] = p:=by
  rw [List.getElem?_eq_getElem hl] at hj
  exact Option.some.inj hj
 rw [Nat.mul_one,List.drop_eq_getElem_cons (by simpa using hl)]
 simp [e]
theorem bn_cell {w : World} {ad : Addr} {v : Value} (h : w.cell? ad = some v) : ∀ j u,[v][j]? = some u → w.cell? (ad.add j) = some u:=by
 intro j u hu
 match j with
 | 0 =>
  have e : v = u:=by simpa using hu
  rw [← e]
  exact h
 | j + 1 => simp at hu
/-- The row, as it fills. -/
def bn_row (i : Int) : List Value:=if i = 1 then [.int .i64 9,.int .i64 0,.int .i64 0] else if i = 2 then [.int .i64 9,.int .i64 9,.int .i64 0] else [.int .i64 9,.int .i64 9,.int .i64 9]
theorem bn_rowcell {W : World} {g : Nat} {i : Int} (h : W.heap[g]? = some (.cells (bn_row i).toArray 3 (0,0))) (j : Nat) (v : Value) (hj : (bn_row i)[j]? = some v) : W.cell? ⟨g,j,none⟩ = some v:=by
 rw [blk_cell h]
 simpa using hj
set_option maxHeartbeats 1000000 in
set_option maxRecDepth 100000 in
theorem bn_mul (w : World) : Calls Try.prog 51 #[.int .u64 1,.int .u64 3] w fun e w' => e = .returned (.tuple #[.int .u64 0,.int .u64 3]) ∧ w = w':=by
 go_enter Try.func51,Try.ntmps51
 go_wp2
 go_ret2
 exact ⟨by first|rfl|(simp;done),rfl⟩
set_option maxHeartbeats 1000000 in
set_option maxRecDepth 100000 in
theorem bn_repeat (b : Nat) (w : World) (hb : b < w.heap.size) (hc : w.cell? ⟨b,0,none⟩ = some (.int .i64 9)) :
  Calls Try.prog 32 #[.slice (some ⟨b,0,none⟩) 1 1,.int .i64 3] w fun e w' => ∃ v0_ : Value,e = .returned (v0_) ∧ (∃ A,v0_ = .slice A 3 3) ∧ Kd.R (Kd.int .i64) 3 w' w.heap.size (fun _ => True) v0_ [9,9,9] ∧ Below w.heap.size w w':=by
 have hmk : ∀ w : World,(Instr.makeSlice 22 (.int .i64 3) (.int .i64 3)).run Try.prog w = .ok (.slice (some ⟨w.heap.size,0,none⟩) 3 3) (w.alloc (.cells #[.int .i64 0,.int .i64 0,.int .i64 0] 3)):=fun _ => by kernel_rfl
 go_enter Try.func32,Try.ntmps32
 go_wp2_with (first|(go_at_call 51;refine (bn_mul _).mono ?_;rintro e w' ⟨rfl,rfl⟩)|((with_reducible refine gate_dst (N:=33) rfl ?_);refine wpList_copy_splice rfl (.tmp 31) (.tmp 32) 22 22 rfl 3 Try.underlying22 (by kernel_rfl) (some ⟨w.heap.size,0,none⟩) (some ⟨b,0,none⟩) 3 3 1 1 rfl rfl w.heap.size 0 [.int .i64 0,.int .i64 0,.int .i64 0] 3 ?hg [.int .i64 9] rfl ?hpos (by decide) (by decide) w.heap.size w ?hb (Nat.le_refl _) ?_;(case hg => exact heap_alloc_new w _);(case hpos => exact fun _ => ⟨rfl,_,rfl,bn_cell (pw_cell_below (bA (Below.refl _ _) _) hc)⟩);(case hb => exact bA (Below.refl _ _) _);intro w2 hg2 hb2))
 go_loopg [8] 2 (fun kq v8 wr => ∃ i : Int,(i = 1 ∧ kq = 2 ∨ i = 2 ∧ kq = 1 ∨ i = 3 ∧ kq = 0) ∧ v8 = .int .i64 i ∧ Aside0 (wr.heap[w.heap.size]? = some (.cells (bn_row i).toArray 3 (0,0))) ∧ Aside0 (Below w.heap.size w wr))
 case atStart => exact ⟨1,.inl ⟨rfl,rfl⟩,rfl,⟨hg2.out⟩,⟨hb2⟩⟩
 case round =>
  obtain ⟨i,h1,rfl,HG,HB⟩:=hrel
  rcases h1 with ⟨rfl,rfl⟩|⟨rfl,rfl⟩|⟨rfl,rfl⟩
  ·go_wp2
   go_region_law (refine step_copy_splice rfl (.tmp 41) (.tmp 44) 22 22 rfl 3 Try.underlying22 (by kernel_rfl) (some ⟨w.heap.size,1,none⟩) (some ⟨w.heap.size,0,none⟩) 2 2 1 3 (by simp [Act.eval,Act.put]) (by simp [Act.eval,Act.put]) w.heap.size 1 (bn_row 1) 3 HG.out [.int .i64 9] rfl (fun _ => ⟨rfl,_,rfl,bn_cell (bn_rowcell HG.out 0 _ rfl)⟩) (by decide) (by decide) w.heap.size w (bD HB.out) (Nat.le_refl _) ?_;intro w4 hg4 hb4)
   all_goals (go_wp2;go_roundg 1;(case measure => decide);(case rel => exact ⟨2,.inr (.inl ⟨rfl,rfl⟩),rfl,⟨hg4.out⟩,⟨hb4⟩⟩))
  ·go_wp2
   go_region_law (refine step_copy_splice rfl (.tmp 41) (.tmp 44) 22 22 rfl 3 Try.underlying22 (by kernel_rfl) (some ⟨w.heap.size,2,none⟩) (some ⟨w.heap.size,0,none⟩) 1 1 2 3 (by simp [Act.eval,Act.put]) (by simp [Act.eval,Act.put]) w.heap.size 2 (bn_row 2) 3 HG.out [.int .i64 9] rfl (fun _ => ⟨rfl,_,rfl,bn_cell (bn_rowcell HG.out 0 _ rfl)⟩) (by decide) (by decide) w.heap.size w (bD HB.out) (Nat.le_refl _) ?_;intro w4 hg4 hb4)
   all_goals (go_wp2;go_roundg 0;(case measure => decide);(case rel => exact ⟨3,.inr (.inr ⟨rfl,rfl⟩),rfl,⟨hg4.out⟩,⟨hb4⟩⟩))
  ·go_wp2
   go_ret
   exact ⟨_,rfl,⟨_,rfl⟩,⟨fun _ _ => trivial,[.int .i64 9,.int .i64 9,.int .i64 9],⟨rfl,.inr ⟨w.heap.size,3,(bn_row 3).toArray,rfl,Nat.le_refl _,HG.out,Nat.le_refl _,by decide,rfl,rfl⟩⟩,bn_reps [9,9,9]⟩,HB.out⟩
set_option maxHeartbeats 1000000 in
set_option maxRecDepth 100000 in
theorem bn_clip (A : Option Addr) (n c : Nat) (w : World) (hn : n ≤ c) (hc : c ≤ 9223372036854775807) :
  Calls Try.prog 31 #[.slice A n c] w fun e w' => e = .returned (.slice A n n) ∧ w = w':=by
 go_enter Try.func31,Try.ntmps31
 go_wp2
 go_ret
 exact ⟨rfl,rfl⟩
set_option maxHeartbeats 1000000 in
set_option maxRecDepth 100000 in
theorem impl_BookNew.calls (r : List Int) (w : World) (h : impl_BookNew.f = some r) :
  Calls Try.prog 9 #[] w fun e w' => ∃ v0_ : Value,e = .returned (v0_) ∧ Kd.R (Kd.int .i64) 3 w' w.heap.size (fun _ => True) v0_ r ∧ Below w.heap.size w w':=by
 have hr : [9,9,9] = r:=Option.some.inj h
 have HR:=aM hr
 clear hr h
 go_enter Try.func9,Try.ntmps9
 go_wp2_with (first|(go_at_call 32;refine (bn_repeat w.heap.size _ (by simp) (by first|exact blk_cell (heap_alloc_new w _) 0|(rw [blk_cell (heap_alloc_new w _)];rfl))).mono ?_;rintro e w1 ⟨v1,rfl,⟨A1,rfl⟩,ho1,hb1⟩;have HO1:=aM ho1;have HB1:=aM hb1;clear ho1 hb1)|(go_at_call 31;refine (bn_clip A1 3 3 _ (Nat.le_refl _) (by decide)).mono ?_;rintro e w' ⟨rfl,rfl⟩))
 go_ret
 refine ⟨_,rfl,?_,?_⟩
 ·rw [← HR.out]
  exact Kd.R_lower HO1.out (by simp)
 ·exact (bA (Below.refl _ _) _).trans (HB1.out.mono (by simp))

/-! ### impl_within: function 59 -/
def impl_within.f (a0 : Int) (a1 : Int) (a2 : Int) : Option (Bool):=if a0 ≥ a1 then (some (decide (a0 ≤ a2))) else (some false)
set_option maxHeartbeats 8000000 in
set_option maxRecDepth 100000 in
theorem impl_within.calls (a0 : Int) (a1 : Int) (a2 : Int) (r : Bool) (w : World) (h : impl_within.f a0 a1 a2 = some r) :
  Calls Try.prog 59 #[.int .i64 a0,.int .i64 a1,.int .i64 a2] w fun e w' => e = .returned (.bool r) ∧ Drawn0 w w':=by
 have H : (if a0 ≥ a1 then (some (decide (a0 ≤ a2))) else (some false)) = some r:=h
 clear h
 by_cases c4 : a0 ≥ a1
 ·rw [if_pos c4] at H
  have c4b0 : decide (a1 ≤ a0) = true:=decide_eq_true c4
  clear c4
  obtain rfl:=Option.some.inj H
  go_enter Try.func59,Try.ntmps59
  go_wp2
  go_ret
  exact ⟨by first|rfl|(simp;done)|(simp [*];done),by repeat (first|exact Drawn0.refl _|apply Drawn0.step)⟩
 ·rw [if_neg c4] at H
  have c4b0 : decide (a1 ≤ a0) = false:=decide_eq_false c4
  clear c4
  obtain rfl:=Option.some.inj H
  go_enter Try.func59,Try.ntmps59
  go_wp2
  go_ret
  exact ⟨by first|rfl|(simp;done)|(simp [*];done),by repeat (first|exact Drawn0.refl _|apply Drawn0.step)⟩

end Go.Proofs.Ytkkfokcbbhnjeaa.P
