/- The printed functions: what each Go function computes, as a Lean function, and that the Go code comes to just that. Conditions: none beyond each contract's own. -/
import Derived.Test.YtkkfokcbbhnjeaaPx0
import Derived.Test.YtkkfokcbbhnjeaaPx5
import Derived.Test.YtkkfokcbbhnjeaaPx7
namespace Go.Proofs.Ytkkfokcbbhnjeaa.P
open Go.RowKit Go.Proofs.YtkkfokcbbhnjeaaW.PrintWords Go.Proofs.YtkkfokcbbhnjeaaW.PrintLast Go.Proofs.YtkkfokcbbhnjeaaW.PrintMore
attribute [local go_sem] max2_int min2_int max_two min_two max_three min_three max_four min_four   -- for this text's walks alone
set_option linter.unusedVariables false
set_option linter.unusedSimpArgs false

/-! ### impl_pay: function 50 -/
def impl_pay.f (l0 : List Int) (a1_0 : Int) (a1_1 : Int) (a1_2 : Int) : Option (List Int):=if 0 ≤ (wrap64 (a1_0 - 1)) then (if (wrap64 (a1_0 - 1)) < (l0.length : Int) then (if (rd l0 (wrap64 (a1_0 - 1))) ≥ a1_2 then ((some (l0.set ((wrap64 (a1_0 - 1)) : Int).toNat (wrap64 ((rd l0 (wrap64 (a1_0 - 1))) - a1_2)) : List Int)).bind fun y313 => (if 0 ≤ (wrap64 (a1_1 - 1)) then (if (wrap64 (a1_1 - 1)) < (l0.length : Int) then (some (y313.set ((wrap64 (a1_1 - 1)) : Int).toNat (wrap64 ((rd y313 (wrap64 (a1_1 - 1))) + a1_2)))) else (none)) else (none))) else (some l0)) else (none)) else (none)
def impl_pay.T1 : Bool × List (List Nat × List Nat):=(true,[([],[]),([],[]),([1],[1]),([2],[2]),([0,3],[0,3]),([4],[4]),([],[]),([6],[6]),([5,7],[5,7])])
def impl_pay.B1 : List Nat:=[0,0,2,6,15,31,0,64,255]
theorem impl_pay.tab1 : rtab .any (opsOf Try.f50 1) = impl_pay.T1:=by kernel_rfl
theorem impl_pay.bits1 : waitsOk impl_pay.T1.2 impl_pay.B1 = true:=by kernel_rfl
def impl_pay.T2 : Bool × List (List Nat × List Nat):=(true,[([],[]),([],[]),([1],[1]),([2],[2]),([0,3],[0,3]),([4],[4]),([],[]),([6],[6]),([5,7],[5,7]),([0,3,0,1,2,3,4,5,6,7,8],[0,3]),([9,8,0,1,2,3,4,5,6,7,8],[8,9])])
def impl_pay.B2 : List Nat:=[0,0,2,6,15,31,0,64,255,511,1023]
theorem impl_pay.tab2 : rtab .any (opsOf Try.f50 2) = impl_pay.T2:=by kernel_rfl
theorem impl_pay.bits2 : waitsOk impl_pay.T2.2 impl_pay.B2 = true:=by kernel_rfl
def impl_pay.T3 : Bool × List (List Nat × List Nat):=(true,[([],[]),([],[]),([1],[1]),([2],[2]),([0,3],[0,3]),([4],[4]),([],[]),([6],[6]),([5,7],[5,7]),([0,3,0,1,2,3,4,5,6,7,8],[0,3]),([9,8,0,1,2,3,4,5,6,7,8],[8,9])])
def impl_pay.B3 : List Nat:=[0,0,2,6,15,31,0,64,255,511,1023]
theorem impl_pay.tab3 : rtab .any (opsOf Try.f50 3) = impl_pay.T3:=by kernel_rfl
theorem impl_pay.bits3 : waitsOk impl_pay.T3.2 impl_pay.B3 = true:=by kernel_rfl
set_option maxHeartbeats 8000000 in
set_option maxRecDepth 100000 in
theorem impl_pay.calls (P0_ : Nat → Prop) (u9000_ : Value) (l0 : List Int) (a1_0 : Int) (a1_1 : Int) (a1_2 : Int) (r : List Int) (w0 w : World) (hB : Below w0.heap.size w0 w) (ho0 : Kd.R (Kd.int .i64) 3 w w0.heap.size P0_ u9000_ l0) (h : impl_pay.f l0 a1_0 a1_1 a1_2 = some r) :
  Calls Try.prog 50 #[u9000_,.agg #[.int .i64 a1_0,.int .i64 a1_1,.int .i64 a1_2]] w fun e w' => e = .returned (.tuple #[]) ∧ Kd.R (Kd.int .i64) 3 w' w0.heap.size (fun k_ => (P0_ k_ ∨ w.heap.size ≤ k_)) u9000_ r ∧ Below w0.heap.size w0 w' ∧ Kept w w' (fun k_ => P0_ k_):=by
 have hu44:=Try.underlying44
 have HO0:=aM (show Kd.R (Kd.int .i64) 3 w w0.heap.size (fun k_ => (P0_ k_ ∨ w.heap.size ≤ k_)) u9000_ l0 from Kd.R_mono ho0 (fun k_ hk => (.inl hk)))
 have HK:=aM (Kept.refl w (fun k_ => P0_ k_))
 have HW0:=aM hB.size
 have HB:=aM hB
 clear hB
 have H : (if 0 ≤ (wrap64 (a1_0 - 1)) then (if (wrap64 (a1_0 - 1)) < (l0.length : Int) then (if (rd l0 (wrap64 (a1_0 - 1))) ≥ a1_2 then ((some (l0.set ((wrap64 (a1_0 - 1)) : Int).toNat (wrap64 ((rd l0 (wrap64 (a1_0 - 1))) - a1_2)) : List Int)).bind fun y313 => (if 0 ≤ (wrap64 (a1_1 - 1)) then (if (wrap64 (a1_1 - 1)) < (l0.length : Int) then (some (y313.set ((wrap64 (a1_1 - 1)) : Int).toNat (wrap64 ((rd y313 (wrap64 (a1_1 - 1))) + a1_2)))) else (none)) else (none))) else (some l0)) else (none)) else (none)) = some r:=h
 clear h
 obtain ⟨ji3,hji3⟩ : ∃ j_ : Int,(wrap64 (a1_0 - 1)) = j_:=⟨_,rfl⟩
 replace H : (if 0 ≤ (ji3) then (if (ji3) < (l0.length : Int) then (if (rd l0 (ji3)) ≥ a1_2 then ((some (l0.set ((ji3) : Int).toNat (wrap64 ((rd l0 (ji3)) - a1_2)) : List Int)).bind fun y313 => (if 0 ≤ (wrap64 (a1_1 - 1)) then (if (wrap64 (a1_1 - 1)) < (l0.length : Int) then (some (y313.set ((wrap64 (a1_1 - 1)) : Int).toNat (wrap64 ((rd y313 (wrap64 (a1_1 - 1))) + a1_2)))) else (none)) else (none))) else (some l0)) else (none)) else (none)) = some r:=by first|(rw [hji3] at H;exact H)|(simp only [hji3] at H ⊢;exact H)
 have hji3w : (IntKind.i64.wrap (a1_0 - 1)) = ji3:=(i64_w _).trans hji3
 by_cases c4 : 0 ≤ (ji3)
 case neg => rw [if_neg c4] at H;exact absurd H (by simp)
 rw [if_pos c4] at H
 have c4b0 : decide (0 ≤ (ji3)) = true:=decide_eq_true c4
 clear c4
 by_cases c5 : (ji3) < (l0.length : Int)
 case neg => rw [if_neg c5] at H;exact absurd H (by simp)
 rw [if_pos c5] at H
 have c5b0 : decide ((ji3) < (l0.length : Int)) = true:=decide_eq_true c5
 clear c5
 by_cases c6 : (rd l0 (ji3)) ≥ a1_2
 ·rw [if_pos c6] at H
  have c6b0 : decide (a1_2 ≤ (rd l0 (ji3))) = true:=decide_eq_true c6
  clear c6
  obtain ⟨y313,hy313⟩ : ∃ y_ : List Int,y_ = (l0.set ((ji3) : Int).toNat (wrap64 ((rd l0 (ji3)) - a1_2))):=⟨_,rfl⟩
  replace H : (if 0 ≤ (wrap64 (a1_1 - 1)) then (if (wrap64 (a1_1 - 1)) < (l0.length : Int) then (some (y313.set ((wrap64 (a1_1 - 1)) : Int).toNat (wrap64 ((rd y313 (wrap64 (a1_1 - 1))) + a1_2)))) else (none)) else (none)) = some r:=by first|(rw [hy313];with_reducible exact H)|(have H2_:=(Option.bind_some _ _).symm.trans H;rw [hy313];with_reducible exact H2_)|(have H2_:=(Option.bind_some _ _).symm.trans H;with_reducible exact H2_)|with_reducible exact H|(rw [hy313];exact H)|exact H
  have Ny313:=aM hy313
  clear hy313
  obtain ⟨ji8,hji8⟩ : ∃ j_ : Int,(wrap64 (a1_1 - 1)) = j_:=⟨_,rfl⟩
  replace H : (if 0 ≤ (ji8) then (if (ji8) < (l0.length : Int) then (some (y313.set ((ji8) : Int).toNat (wrap64 ((rd y313 (ji8)) + a1_2)))) else (none)) else (none)) = some r:=by first|(rw [hji8] at H;exact H)|(simp only [hji8] at H ⊢;exact H)
  have hji8w : (IntKind.i64.wrap (a1_1 - 1)) = ji8:=(i64_w _).trans hji8
  by_cases c9 : 0 ≤ (ji8)
  case neg => rw [if_neg c9] at H;exact absurd H (by simp)
  rw [if_pos c9] at H
  have c9b0 : decide (0 ≤ (ji8)) = true:=decide_eq_true c9
  clear c9
  by_cases c10 : (ji8) < (l0.length : Int)
  case neg => rw [if_neg c10] at H;exact absurd H (by simp)
  rw [if_pos c10] at H
  have c10b0 : decide ((ji8) < (l0.length : Int)) = true:=decide_eq_true c10
  clear c10
  obtain ⟨y315,hy315⟩ : ∃ y_ : List Int,y_ = (y313.set ((ji8) : Int).toNat (wrap64 ((rd y313 (ji8)) + a1_2))):=⟨_,rfl⟩
  replace H : (some y315) = some r:=by first|(rw [hy315];with_reducible exact H)|(have H2_:=(Option.bind_some _ _).symm.trans H;rw [hy315];with_reducible exact H2_)|(have H2_:=(Option.bind_some _ _).symm.trans H;with_reducible exact H2_)|with_reducible exact H|(rw [hy315];exact H)|exact H
  have Ny315:=aM hy315
  clear hy315
  obtain rfl:=Option.some.inj H
  go_enter Try.func50,Try.ntmps50
  try go_wp2_with (first|((with_reducible refine gate_dst (N:=3) rfl ?_);refine box_event ?hg (N:=3) ?hd (cs:=#[.int .i64 a1_0,.int .i64 a1_1,.int .i64 a1_2]) (t:=44) ?hr ?_;(case hd => rfl);(case hg => rfl);(case hr => first|(go_simp;done)|(go_simp;rfl));intro gb310 hg w12 hbox hb;have n0_:=aM (Kd.R_below (by (with_reducible repeat (first|apply Kd.R_alloc|apply Kd.R_drewN|apply Kd.R_drew));exact HO0.out) hb);have n1_:=aM (Kept.below (S:=(fun k_ => P0_ k_)) (by repeat (first|(with_reducible first|exact HK.out|apply Kept.alloc|apply Kept.drewN|apply Kept.drew)|exact HK.out)) hb);have n2_:=aM (below_step (by repeat (first|(with_reducible first|exact HB.out|apply bA|apply bN|apply bD)|exact HB.out)) hb);have n3_:=aM (hbox);have n4_:=aM ((by rw [hg];exact (by first|exact HK.out.1|exact (show Kept w _ (fun k_ => P0_ k_) from by repeat (first|(with_reducible first|exact HK.out|apply Kept.alloc|apply Kept.drewN|apply Kept.drew)|exact HK.out)).1) : w.heap.size ≤ gb310));have n5_:=aM ((by rw [hg];exact (below_size (by repeat (first|(with_reducible first|exact HB.out|apply bA|apply bN|apply bD)|exact HB.out))) : w0.heap.size ≤ gb310));clear HO0;clear HK;clear HB;have HO0:=n0_;have HK:=n1_;have HB:=n2_;have BK310:=n3_;have GW310:=n4_;have GE310:=n5_;clear n0_ n1_ n2_ n3_ n4_ n5_;clear hb hbox hg))
  have n0_:=aM (Kd.R_drew HO0.out)
  have n1_:=aM (blk_drew BK310.out)
  have n2_:=aM (Kept.drew HK.out)
  have n3_:=aM (bD HB.out)
  clear HO0
  clear BK310
  clear HK
  clear HB
  have HO0:=n0_
  have BK310:=n1_
  have HK:=n2_
  have HB:=n3_
  clear n0_ n1_ n2_ n3_
  obtain ⟨Ao14,co14,eo14⟩:=Kd.R_slice HO0.out
  (first|subst eo14|(injection eo14 with f1_ f2_ f3_;have f4_:=f1_.symm;have f5_:=f3_.symm;clear f1_ f2_ f3_;subst f4_;subst f5_))
  have p311 : 0 ≤ ((ji3) : Int):=of_decide_eq_true (by first|(with_reducible assumption)|assumption)
  have q311 : (ji3) < (l0.length : Int):=of_decide_eq_true (by first|(with_reducible assumption)|assumption)
  obtain ⟨ad311,e311,hx311_0⟩:=Kd.at_int (Kd.R_reads' HO0.out).2.2 (ji3) p311 q311
  cases e311
  replace p311:=eq_true p311
  replace q311:=eq_true q311
  refine start_ (n:=9) (S:=fun w' => w'.cell? ⟨gb310,0,none⟩ = some (.int .i64 a1_0) ∧ w'.cell? ⟨gb310,1,none⟩ = some (.int .i64 a1_1) ∧ w'.cell? ⟨gb310,2,none⟩ = some (.int .i64 a1_2) ∧ w'.cell? (ad311.add ((ji3)).toNat) = some (.int .i64 (rd l0 (ji3)))) (ds:=[]) #[bF,bF,bF,bF,bF,bF,bF,bF,bF] (by kernel_rfl) rfl rfl ⟨(blk_cell BK310.out 0).trans rfl,(blk_cell BK310.out 1).trans rfl,(blk_cell BK310.out 2).trans rfl,hx311_0⟩ (fun hHeld => ?_);refine with_tabW impl_pay.tab1 impl_pay.bits1 (fun HT_ HW_ => ?_)
  generalize w12.drew = w13 at HO0 BK310 HK HB hx311_0 hHeld ⊢
  refine pure_ (i:=0) (N:=some 4) (v:=?_) (a':=?_) #[bT,bF,bF,bF,bF,bF,bF,bF,bF] rfl rfl (any_of HT_.out (by kernel_rfl)) (fun _ _ _ h => h) (Or.inl ⟨by rfl,?_⟩) ?_ ?_
  rotate_left;(· intro w';go_simp;with_reducible rfl);rotate_left;(· simp only [Act.put,sI,sZ,sS,i64_w,i32_w];rfl)
  refine pure_ (i:=1) (N:=some 5) (v:=?_) (a':=?_) #[bT,bT,bF,bF,bF,bF,bF,bF,bF] rfl rfl (any_of HT_.out (by kernel_rfl)) (fun _ _ _ h => h) (Or.inl ⟨by rfl,?_⟩) ?_ ?_
  rotate_left;(· intro w';go_simp;with_reducible rfl);rotate_left;(· simp only [Act.put,sI,sZ,sS,i64_w,i32_w];rfl)
  refine pure_ (i:=6) (N:=some 10) (v:=?_) (a':=?_) #[bT,bT,bF,bF,bF,bF,bT,bF,bF] rfl rfl (any_of HT_.out (by kernel_rfl)) (fun _ _ _ h => h) (Or.inl ⟨by rfl,?_⟩) ?_ ?_
  rotate_left;(· intro w';go_simp;with_reducible rfl);rotate_left;(· simp only [Act.put,sI,sZ,sS,i64_w,i32_w];rfl)
  refine take_ (i:=2) (N:=some 6) (v:=?_) (a':=?_) #[bT,bT,bT,bF,bF,bF,bT,bF,bF] rfl rfl (take_ofW HT_.out HW_.out (by kernel_rfl)) (fun _ _ _ h => h) (Or.inl ⟨by rfl,?_⟩) hHeld ?_ ?_
  rotate_left
  ·rintro w' ⟨s0,s1,s2,s3⟩
   (try simp only [Int.toNat_natCast] at s0 s1 s2 s3)
   go_simp
   with_reducible rfl
  rotate_left
  ·simp only [Act.put,sI,sZ,sS,i64_w,i32_w]
   rfl
  refine pure_ (i:=3) (N:=some 7) (v:=?_) (a':=?_) #[bT,bT,bT,bT,bF,bF,bT,bF,bF] rfl rfl (any_of HT_.out (by kernel_rfl)) (fun _ _ _ h => h) (Or.inl ⟨by rfl,?_⟩) ?_ ?_
  rotate_left;(· intro w';go_simp;with_reducible rfl);rotate_left;(· simp only [Act.put,sI,sZ,sS,i64_w,i32_w];rfl)
  refine pure_ (i:=4) (N:=some 8) (v:=?_) (a':=?_) #[bT,bT,bT,bT,bT,bF,bT,bF,bF] rfl rfl (any_of HT_.out (by kernel_rfl)) (fun _ _ _ h => h) (Or.inl ⟨by rfl,?_⟩) ?_ ?_
  rotate_left;(· intro w';go_simp;with_reducible rfl);rotate_left;(· simp only [Act.put,sI,sZ,sS,i64_w,i32_w];rfl)
  refine take_ (i:=5) (N:=some 9) (v:=?_) (a':=?_) #[bT,bT,bT,bT,bT,bT,bT,bF,bF] rfl rfl (take_ofW HT_.out HW_.out (by kernel_rfl)) (fun _ _ _ h => h) (Or.inl ⟨by rfl,?_⟩) hHeld ?_ ?_
  rotate_left
  ·rintro w' ⟨s0,s1,s2,s3⟩
   (try simp only [Int.toNat_natCast] at s0 s1 s2 s3)
   go_simp
   with_reducible rfl
  rotate_left
  ·simp only [Act.put,sI,sZ,sS,i64_w,i32_w]
   rfl
  refine take_ (i:=7) (N:=some 11) (v:=?_) (a':=?_) #[bT,bT,bT,bT,bT,bT,bT,bT,bF] rfl rfl (take_ofW HT_.out HW_.out (by kernel_rfl)) (fun _ _ _ h => h) (Or.inl ⟨by rfl,?_⟩) hHeld ?_ ?_
  rotate_left
  ·rintro w' ⟨s0,s1,s2,s3⟩
   (try simp only [Int.toNat_natCast] at s0 s1 s2 s3)
   go_simp
   with_reducible rfl
  rotate_left
  ·simp only [Act.put,sI,sZ,sS,i64_w,i32_w]
   rfl
  refine pure_ (i:=8) (N:=some 12) (v:=?_) (a':=?_) #[bT,bT,bT,bT,bT,bT,bT,bT,bT] rfl rfl (any_of HT_.out (by kernel_rfl)) (fun _ _ _ h => h) (Or.inl ⟨by rfl,?_⟩) ?_ ?_
  rotate_left;(· intro w';go_simp;with_reducible rfl);rotate_left;(· simp only [Act.put,sI,sZ,sS,i64_w,i32_w];rfl)
  refine done_ (done_of HT_.out (by kernel_rfl)) ?_
  try go_wp2
  have n0_:=aM (Kd.R_drew HO0.out)
  have n1_:=aM (blk_drew BK310.out)
  have n2_:=aM (Kept.drew HK.out)
  have n3_:=aM (bD HB.out)
  clear HO0
  clear BK310
  clear HK
  clear HB
  have HO0:=n0_
  have BK310:=n1_
  have HK:=n2_
  have HB:=n3_
  clear n0_ n1_ n2_ n3_
  have p312 : 0 ≤ ((ji3) : Int):=of_decide_eq_true (by first|(with_reducible assumption)|assumption)
  have q312 : (ji3) < (l0.length : Int):=of_decide_eq_true (by first|(with_reducible assumption)|assumption)
  obtain ⟨ad312,e312,hx312_0⟩:=Kd.at_int (Kd.R_reads' HO0.out).2.2 (ji3) p312 q312
  obtain rfl : ad311 = ad312:=(by injection e312)
  replace p312:=eq_true p312
  replace q312:=eq_true q312
  have p7 : 0 ≤ ((ji3) : Int):=of_decide_eq_true (by first|(with_reducible assumption)|assumption)
  have q7 : ((ji3) : Int) < ((l0.length : Int) : Int):=of_decide_eq_true (by first|(with_reducible assumption)|assumption)
  obtain ⟨go7,co7,eo7,gb7,gl7,cl7,HG7⟩:=Kd.R_form HO0.out (by omega)
  (first|cases eo7|(injection eo7 with ea_ en_ ec_;(first|subst ea_|(injection ea_ with ea_;subst ea_));subst ec_;clear en_))
  have GB7:=aM gb7
  have GG7:=aM HG7
  clear gb7 gl7 HG7
  have HMgo7:=aM (show (P0_ go7 ∨ w.heap.size ≤ go7) from (HO0.out.1 _ rfl))
  (first|simp only [add_plain] at hx311_0|skip)
  (first|simp only [add_plain] at hx312_0|skip)
  obtain ⟨hx7_0,hf7_0⟩:=Kd.R_celln 0 HO0.out ((ji3) : Int) p7 q7
  replace p7:=eq_true p7
  replace q7:=eq_true q7
  have HP16:=Kd.R_putn HO0.out ((ji3) : Int) (wrap64 ((rd l0 (ji3)) - a1_2))
  rw [← Ny313.out] at HP16
  have HQ16:=aM HP16
  clear HP16
  refine start_ (n:=11) (S:=fun w' => w'.cell? ⟨gb310,0,none⟩ = some (.int .i64 a1_0) ∧ w'.cell? ⟨gb310,1,none⟩ = some (.int .i64 a1_1) ∧ w'.cell? ⟨gb310,2,none⟩ = some (.int .i64 a1_2) ∧ w'.cell? ⟨go7,((ji3)).toNat,none⟩ = some (.int .i64 (rd l0 (ji3)))) (ds:=[10]) #[bF,bF,bF,bF,bF,bF,bF,bF,bF,bF,bF] (by kernel_rfl) rfl rfl ⟨(blk_cell BK310.out 0).trans rfl,(blk_cell BK310.out 1).trans rfl,(blk_cell BK310.out 2).trans rfl,hx312_0⟩ (fun hHeld => ?_);refine with_tabW impl_pay.tab2 impl_pay.bits2 (fun HT_ HW_ => ?_)
  generalize w13.drew = w15 at HO0 BK310 HK HB GG7 HQ16 hf7_0 hx311_0 hx312_0 hx7_0 hHeld ⊢
  refine pure_ (i:=0) (N:=some 13) (v:=?_) (a':=?_) #[bT,bF,bF,bF,bF,bF,bF,bF,bF,bF,bF] rfl rfl (any_of HT_.out (by kernel_rfl)) (fun _ _ _ h => h) (Or.inl ⟨by rfl,?_⟩) ?_ ?_
  rotate_left;(· intro w';go_simp;with_reducible rfl);rotate_left;(· simp only [Act.put,sI,sZ,sS,i64_w,i32_w];rfl)
  refine pure_ (i:=1) (N:=some 14) (v:=?_) (a':=?_) #[bT,bT,bF,bF,bF,bF,bF,bF,bF,bF,bF] rfl rfl (any_of HT_.out (by kernel_rfl)) (fun _ _ _ h => h) (Or.inl ⟨by rfl,?_⟩) ?_ ?_
  rotate_left;(· intro w';go_simp;with_reducible rfl);rotate_left;(· simp only [Act.put,sI,sZ,sS,i64_w,i32_w];rfl)
  refine pure_ (i:=6) (N:=some 19) (v:=?_) (a':=?_) #[bT,bT,bF,bF,bF,bF,bT,bF,bF,bF,bF] rfl rfl (any_of HT_.out (by kernel_rfl)) (fun _ _ _ h => h) (Or.inl ⟨by rfl,?_⟩) ?_ ?_
  rotate_left;(· intro w';go_simp;with_reducible rfl);rotate_left;(· simp only [Act.put,sI,sZ,sS,i64_w,i32_w];rfl)
  refine take_ (i:=2) (N:=some 15) (v:=?_) (a':=?_) #[bT,bT,bT,bF,bF,bF,bT,bF,bF,bF,bF] rfl rfl (take_ofW HT_.out HW_.out (by kernel_rfl)) (fun _ _ _ h => h) (Or.inl ⟨by rfl,?_⟩) hHeld ?_ ?_
  rotate_left
  ·rintro w' ⟨s0,s1,s2,s3⟩
   (try simp only [Int.toNat_natCast] at s0 s1 s2 s3)
   go_simp
   with_reducible rfl
  rotate_left
  ·simp only [Act.put,sI,sZ,sS,i64_w,i32_w]
   rfl
  refine pure_ (i:=3) (N:=some 16) (v:=?_) (a':=?_) #[bT,bT,bT,bT,bF,bF,bT,bF,bF,bF,bF] rfl rfl (any_of HT_.out (by kernel_rfl)) (fun _ _ _ h => h) (Or.inl ⟨by rfl,?_⟩) ?_ ?_
  rotate_left;(· intro w';go_simp;with_reducible rfl);rotate_left;(· simp only [Act.put,sI,sZ,sS,i64_w,i32_w];rfl)
  refine pure_ (i:=4) (N:=some 17) (v:=?_) (a':=?_) #[bT,bT,bT,bT,bT,bF,bT,bF,bF,bF,bF] rfl rfl (any_of HT_.out (by kernel_rfl)) (fun _ _ _ h => h) (Or.inl ⟨by rfl,?_⟩) ?_ ?_
  rotate_left;(· intro w';go_simp;with_reducible rfl);rotate_left;(· simp only [Act.put,sI,sZ,sS,i64_w,i32_w];rfl)
  refine take_ (i:=5) (N:=some 18) (v:=?_) (a':=?_) #[bT,bT,bT,bT,bT,bT,bT,bF,bF,bF,bF] rfl rfl (take_ofW HT_.out HW_.out (by kernel_rfl)) (fun _ _ _ h => h) (Or.inl ⟨by rfl,?_⟩) hHeld ?_ ?_
  rotate_left
  ·rintro w' ⟨s0,s1,s2,s3⟩
   (try simp only [Int.toNat_natCast] at s0 s1 s2 s3)
   go_simp
   with_reducible rfl
  rotate_left
  ·simp only [Act.put,sI,sZ,sS,i64_w,i32_w]
   rfl
  refine take_ (i:=7) (N:=some 20) (v:=?_) (a':=?_) #[bT,bT,bT,bT,bT,bT,bT,bT,bF,bF,bF] rfl rfl (take_ofW HT_.out HW_.out (by kernel_rfl)) (fun _ _ _ h => h) (Or.inl ⟨by rfl,?_⟩) hHeld ?_ ?_
  rotate_left
  ·rintro w' ⟨s0,s1,s2,s3⟩
   (try simp only [Int.toNat_natCast] at s0 s1 s2 s3)
   go_simp
   with_reducible rfl
  rotate_left
  ·simp only [Act.put,sI,sZ,sS,i64_w,i32_w]
   rfl
  refine pure_ (i:=8) (N:=some 21) (v:=?_) (a':=?_) #[bT,bT,bT,bT,bT,bT,bT,bT,bT,bF,bF] rfl rfl (any_of HT_.out (by kernel_rfl)) (fun _ _ _ h => h) (Or.inl ⟨by rfl,?_⟩) ?_ ?_
  rotate_left;(· intro w';go_simp;with_reducible rfl);rotate_left;(· simp only [Act.put,sI,sZ,sS,i64_w,i32_w];rfl)
  refine pure_ (i:=9) (N:=some 22) (v:=?_) (a':=?_) #[bT,bT,bT,bT,bT,bT,bT,bT,bT,bT,bF] rfl rfl (any_of HT_.out (by kernel_rfl)) (fun _ _ _ h => h) (Or.inl ⟨by rfl,?_⟩) ?_ ?_
  rotate_left;(· intro w';go_simp;with_reducible rfl);rotate_left;(· simp only [Act.put,sI,sZ,sS,i64_w,i32_w];rfl)
  refine last_ (i:=10) (N:=none) #[bT,bT,bT,bT,bT,bT,bT,bT,bT,bT,bT] rfl rfl (one_of HT_.out (by kernel_rfl)) (by decide) (fun K hK => ?_)
  refine skip_ (w1:=?_) (by rfl) rfl ?_ ?_
  rotate_left
  ·go_simp
   rfl
  refine hK.out _ _ ?_
  clear hK K
  refine done_ (done_of HT_.out (by kernel_rfl)) ?_
  try go_wp2
  have n0_ : Aside0 (Kd.R (Kd.int .i64) 3 (w15.setCell ⟨go7,((ji3) : Int).toNat,none⟩ (.int .i64 (wrap64 ((rd l0 (ji3)) - a1_2)))) w0.heap.size (fun k_ => (P0_ k_ ∨ w.heap.size ≤ k_)) (.slice (some ⟨go7,0,none⟩) l0.length co14) y313):=⟨by (with_reducible repeat (first|apply Kd.R_alloc|apply Kd.R_drewN|apply Kd.R_drew));exact HQ16.out⟩
  have n1_ : Aside0 ((w15.setCell ⟨go7,((ji3) : Int).toNat,none⟩ (.int .i64 (wrap64 ((rd l0 (ji3)) - a1_2)))).heap[gb310]? = some (.cells #[.int .i64 a1_0,.int .i64 a1_1,.int .i64 a1_2] 44 (0,0))):=⟨by (with_reducible repeat (first|refine blk_drewN ?_ _|refine blk_drew ?_|refine blk_alloc ?_ _));refine blk_far ?_ (by have h_:=Kd.R_ne HO0.out BK310.out (by decide);intro e_;exact h_ (by rw [e_];rfl)) _;(with_reducible repeat (first|refine blk_drewN ?_ _|refine blk_drew ?_|refine blk_alloc ?_ _));exact BK310.out⟩
  have n2_ : Aside0 (Kept w (w15.setCell ⟨go7,((ji3) : Int).toNat,none⟩ (.int .i64 (wrap64 ((rd l0 (ji3)) - a1_2)))) (fun k_ => P0_ k_)):=⟨by repeat (first|(with_reducible first|exact HK.out|apply Kept.alloc|apply Kept.drewN|apply Kept.drew|refine Kept.setCell ?_ HMgo7.out _|refine Kept.setCell ?_ (.inr GW310.out) _)|exact HK.out)⟩
  have n3_ : Aside0 (Below w0.heap.size w0 (w15.setCell ⟨go7,((ji3) : Int).toNat,none⟩ (.int .i64 (wrap64 ((rd l0 (ji3)) - a1_2))))):=⟨by repeat (first|(with_reducible first|exact HB.out|apply bA|apply bN|apply bD|refine below_set ?_ GB7.out|refine below_set ?_ GE310.out)|exact HB.out)⟩
  (try clear HO0)
  (try clear BK310)
  (try clear HK)
  (try clear HB)
  generalize (w15.setCell ⟨go7,((ji3) : Int).toNat,none⟩ (.int .i64 (wrap64 ((rd l0 (ji3)) - a1_2)))) = w17 at n0_ n1_ n2_ n3_ ⊢
  have HO0:=n0_
  have BK310:=n1_
  have HK:=n2_
  have HB:=n3_
  clear n0_ n1_ n2_ n3_
  have n0_:=aM (Kd.R_drew HO0.out)
  have n1_:=aM (blk_drew BK310.out)
  have n2_:=aM (Kept.drew HK.out)
  have n3_:=aM (bD HB.out)
  clear HO0
  clear BK310
  clear HK
  clear HB
  have HO0:=n0_
  have BK310:=n1_
  have HK:=n2_
  have HB:=n3_
  clear n0_ n1_ n2_ n3_
  have p314 : 0 ≤ ((ji8) : Int):=of_decide_eq_true (by first|(with_reducible assumption)|assumption)
  have q314 : (ji8) < (y313.length : Int):=(by have h_ : ((ji8) : Int) < ((l0.length : Int) : Int):=of_decide_eq_true (by first|(with_reducible assumption)|assumption);first|(have e_:=(Kd.R_reads' HO0.out).1;omega)|simpa only [Ny313.out,List.length_set] using h_)
  have ql314 : (((ji8) : Int) < ((l0.length : Int) : Int)) = True:=eq_true (of_decide_eq_true (by first|(with_reducible assumption)|assumption))
  obtain ⟨ad314,e314,hx314_0⟩:=Kd.at_int (Kd.R_reads' HO0.out).2.2 (ji8) p314 q314
  obtain rfl : (⟨go7,0,none⟩ : Addr) = ad314:=(by injection e314)
  (first|simp only [add_plain] at hx314_0|simp only [add_at] at hx314_0|simp only [Addr.add,Nat.zero_add] at hx314_0|skip)
  replace p314:=eq_true p314
  replace q314:=eq_true q314
  have p11 : 0 ≤ ((ji8) : Int):=of_decide_eq_true (by first|(with_reducible assumption)|assumption)
  have q11 : ((ji8) : Int) < ((l0.length : Int) : Int):=of_decide_eq_true (by first|(with_reducible assumption)|assumption)
  obtain ⟨hx11_0,hf11_0⟩:=Kd.R_celln 0 HO0.out ((ji8) : Int) p11 q11
  replace p11:=eq_true p11
  replace q11:=eq_true q11
  have HP19:=Kd.R_putn HO0.out ((ji8) : Int) (wrap64 ((rd y313 (ji8)) + a1_2))
  rw [← Ny315.out] at HP19
  have HQ19:=aM HP19
  clear HP19
  refine start_ (n:=11) (S:=fun w' => w'.cell? ⟨gb310,0,none⟩ = some (.int .i64 a1_0) ∧ w'.cell? ⟨gb310,1,none⟩ = some (.int .i64 a1_1) ∧ w'.cell? ⟨gb310,2,none⟩ = some (.int .i64 a1_2) ∧ w'.cell? ⟨go7,((ji8)).toNat,none⟩ = some (.int .i64 (rd y313 (ji8)))) (ds:=[10]) #[bF,bF,bF,bF,bF,bF,bF,bF,bF,bF,bF] (by kernel_rfl) rfl rfl ⟨(blk_cell BK310.out 0).trans rfl,(blk_cell BK310.out 1).trans rfl,(blk_cell BK310.out 2).trans rfl,hx314_0⟩ (fun hHeld => ?_);refine with_tabW impl_pay.tab3 impl_pay.bits3 (fun HT_ HW_ => ?_)
  generalize w17.drew = w18 at HO0 BK310 HK HB HQ16 HQ19 hf11_0 hx11_0 hx314_0 hHeld ⊢
  refine pure_ (i:=0) (N:=some 23) (v:=?_) (a':=?_) #[bT,bF,bF,bF,bF,bF,bF,bF,bF,bF,bF] rfl rfl (any_of HT_.out (by kernel_rfl)) (fun _ _ _ h => h) (Or.inl ⟨by rfl,?_⟩) ?_ ?_
  rotate_left;(· intro w';go_simp;with_reducible rfl);rotate_left;(· simp only [Act.put,sI,sZ,sS,i64_w,i32_w];rfl)
  refine pure_ (i:=1) (N:=some 24) (v:=?_) (a':=?_) #[bT,bT,bF,bF,bF,bF,bF,bF,bF,bF,bF] rfl rfl (any_of HT_.out (by kernel_rfl)) (fun _ _ _ h => h) (Or.inl ⟨by rfl,?_⟩) ?_ ?_
  rotate_left;(· intro w';go_simp;with_reducible rfl);rotate_left;(· simp only [Act.put,sI,sZ,sS,i64_w,i32_w];rfl)
  refine pure_ (i:=6) (N:=some 29) (v:=?_) (a':=?_) #[bT,bT,bF,bF,bF,bF,bT,bF,bF,bF,bF] rfl rfl (any_of HT_.out (by kernel_rfl)) (fun _ _ _ h => h) (Or.inl ⟨by rfl,?_⟩) ?_ ?_
  rotate_left;(· intro w';go_simp;with_reducible rfl);rotate_left;(· simp only [Act.put,sI,sZ,sS,i64_w,i32_w];rfl)
  refine take_ (i:=2) (N:=some 25) (v:=?_) (a':=?_) #[bT,bT,bT,bF,bF,bF,bT,bF,bF,bF,bF] rfl rfl (take_ofW HT_.out HW_.out (by kernel_rfl)) (fun _ _ _ h => h) (Or.inl ⟨by rfl,?_⟩) hHeld ?_ ?_
  rotate_left
  ·rintro w' ⟨s0,s1,s2,s3⟩
   (try simp only [Int.toNat_natCast] at s0 s1 s2 s3)
   go_simp
   with_reducible rfl
  rotate_left
  ·simp only [Act.put,sI,sZ,sS,i64_w,i32_w]
   rfl
  refine pure_ (i:=3) (N:=some 26) (v:=?_) (a':=?_) #[bT,bT,bT,bT,bF,bF,bT,bF,bF,bF,bF] rfl rfl (any_of HT_.out (by kernel_rfl)) (fun _ _ _ h => h) (Or.inl ⟨by rfl,?_⟩) ?_ ?_
  rotate_left;(· intro w';go_simp;with_reducible rfl);rotate_left;(· simp only [Act.put,sI,sZ,sS,i64_w,i32_w];rfl)
  refine pure_ (i:=4) (N:=some 27) (v:=?_) (a':=?_) #[bT,bT,bT,bT,bT,bF,bT,bF,bF,bF,bF] rfl rfl (any_of HT_.out (by kernel_rfl)) (fun _ _ _ h => h) (Or.inl ⟨by rfl,?_⟩) ?_ ?_
  rotate_left;(· intro w';go_simp;with_reducible rfl);rotate_left;(· simp only [Act.put,sI,sZ,sS,i64_w,i32_w];rfl)
  refine take_ (i:=5) (N:=some 28) (v:=?_) (a':=?_) #[bT,bT,bT,bT,bT,bT,bT,bF,bF,bF,bF] rfl rfl (take_ofW HT_.out HW_.out (by kernel_rfl)) (fun _ _ _ h => h) (Or.inl ⟨by rfl,?_⟩) hHeld ?_ ?_
  rotate_left
  ·rintro w' ⟨s0,s1,s2,s3⟩
   (try simp only [Int.toNat_natCast] at s0 s1 s2 s3)
   go_simp
   with_reducible rfl
  rotate_left
  ·simp only [Act.put,sI,sZ,sS,i64_w,i32_w]
   rfl
  refine take_ (i:=7) (N:=some 30) (v:=?_) (a':=?_) #[bT,bT,bT,bT,bT,bT,bT,bT,bF,bF,bF] rfl rfl (take_ofW HT_.out HW_.out (by kernel_rfl)) (fun _ _ _ h => h) (Or.inl ⟨by rfl,?_⟩) hHeld ?_ ?_
  rotate_left
  ·rintro w' ⟨s0,s1,s2,s3⟩
   (try simp only [Int.toNat_natCast] at s0 s1 s2 s3)
   go_simp
   with_reducible rfl
  rotate_left
  ·simp only [Act.put,sI,sZ,sS,i64_w,i32_w]
   rfl
  refine pure_ (i:=8) (N:=some 31) (v:=?_) (a':=?_) #[bT,bT,bT,bT,bT,bT,bT,bT,bT,bF,bF] rfl rfl (any_of HT_.out (by kernel_rfl)) (fun _ _ _ h => h) (Or.inl ⟨by rfl,?_⟩) ?_ ?_
  rotate_left;(· intro w';go_simp;with_reducible rfl);rotate_left;(· simp only [Act.put,sI,sZ,sS,i64_w,i32_w];rfl)
  refine pure_ (i:=9) (N:=some 32) (v:=?_) (a':=?_) #[bT,bT,bT,bT,bT,bT,bT,bT,bT,bT,bF] rfl rfl (any_of HT_.out (by kernel_rfl)) (fun _ _ _ h => h) (Or.inl ⟨by rfl,?_⟩) ?_ ?_
  rotate_left;(· intro w';go_simp;with_reducible rfl);rotate_left;(· simp only [Act.put,sI,sZ,sS,i64_w,i32_w];rfl)
  refine last_ (i:=10) (N:=none) #[bT,bT,bT,bT,bT,bT,bT,bT,bT,bT,bT] rfl rfl (one_of HT_.out (by kernel_rfl)) (by decide) (fun K hK => ?_)
  refine skip_ (w1:=?_) (by rfl) rfl ?_ ?_
  rotate_left
  ·go_simp
   rfl
  refine hK.out _ _ ?_
  clear hK K
  refine done_ (done_of HT_.out (by kernel_rfl)) ?_
  try go_wp2
  first|go_end0|((try simp only [Exit.inBlock,Exit.then]);refine bodyPost_ret (results_none rfl _ _ _) rfl ?_)
  exact ⟨by first|rfl|(simp only [i64_w,i32_w];done)|(simp only [i64_w,i32_w];rfl)|(simp [errW_none,errW_some] <;> rfl)|(simp only [← hji3,← hji8];first|rfl|(simp [errW_none,errW_some] <;> rfl))|(simp [*,errW_none,errW_some] <;> rfl),by (with_reducible repeat (first|apply Kd.R_alloc|apply Kd.R_drewN|apply Kd.R_drew));exact HQ19.out,by repeat (first|(with_reducible first|exact HB.out|apply bA|apply bN|apply bD|refine below_set ?_ GB7.out|refine below_set ?_ GE310.out)|exact HB.out),by repeat (first|(with_reducible first|exact HK.out|apply Kept.alloc|apply Kept.drewN|apply Kept.drew|refine Kept.setCell ?_ HMgo7.out _|refine Kept.setCell ?_ (.inr GW310.out) _)|exact HK.out)⟩
 ·rw [if_neg c6] at H
  have c6b0 : decide (a1_2 ≤ (rd l0 (ji3))) = false:=decide_eq_false c6
  clear c6
  obtain rfl:=Option.some.inj H
  go_enter Try.func50,Try.ntmps50
  try go_wp2_with (first|((with_reducible refine gate_dst (N:=3) rfl ?_);refine box_event ?hg (N:=3) ?hd (cs:=#[.int .i64 a1_0,.int .i64 a1_1,.int .i64 a1_2]) (t:=44) ?hr ?_;(case hd => rfl);(case hg => rfl);(case hr => first|(go_simp;done)|(go_simp;rfl));intro gb310 hg w20 hbox hb;have n0_:=aM (Kd.R_below (by (with_reducible repeat (first|apply Kd.R_alloc|apply Kd.R_drewN|apply Kd.R_drew));exact HO0.out) hb);have n1_:=aM (Kept.below (S:=(fun k_ => P0_ k_)) (by repeat (first|(with_reducible first|exact HK.out|apply Kept.alloc|apply Kept.drewN|apply Kept.drew)|exact HK.out)) hb);have n2_:=aM (below_step (by repeat (first|(with_reducible first|exact HB.out|apply bA|apply bN|apply bD)|exact HB.out)) hb);have n3_:=aM (hbox);have n4_:=aM ((by rw [hg];exact (by first|exact HK.out.1|exact (show Kept w _ (fun k_ => P0_ k_) from by repeat (first|(with_reducible first|exact HK.out|apply Kept.alloc|apply Kept.drewN|apply Kept.drew)|exact HK.out)).1) : w.heap.size ≤ gb310));have n5_:=aM ((by rw [hg];exact (below_size (by repeat (first|(with_reducible first|exact HB.out|apply bA|apply bN|apply bD)|exact HB.out))) : w0.heap.size ≤ gb310));clear HO0;clear HK;clear HB;have HO0:=n0_;have HK:=n1_;have HB:=n2_;have BK310:=n3_;have GW310:=n4_;have GE310:=n5_;clear n0_ n1_ n2_ n3_ n4_ n5_;clear hb hbox hg))
  have n0_:=aM (Kd.R_drew HO0.out)
  have n1_:=aM (blk_drew BK310.out)
  have n2_:=aM (Kept.drew HK.out)
  have n3_:=aM (bD HB.out)
  clear HO0
  clear BK310
  clear HK
  clear HB
  have HO0:=n0_
  have BK310:=n1_
  have HK:=n2_
  have HB:=n3_
  clear n0_ n1_ n2_ n3_
  obtain ⟨Ao22,co22,eo22⟩:=Kd.R_slice HO0.out
  (first|subst eo22|(injection eo22 with f1_ f2_ f3_;have f4_:=f1_.symm;have f5_:=f3_.symm;clear f1_ f2_ f3_;subst f4_;subst f5_))
  have p311 : 0 ≤ ((ji3) : Int):=of_decide_eq_true (by first|(with_reducible assumption)|assumption)
  have q311 : (ji3) < (l0.length : Int):=of_decide_eq_true (by first|(with_reducible assumption)|assumption)
  obtain ⟨ad311,e311,hx311_0⟩:=Kd.at_int (Kd.R_reads' HO0.out).2.2 (ji3) p311 q311
  cases e311
  replace p311:=eq_true p311
  replace q311:=eq_true q311
  refine start_ (n:=9) (S:=fun w' => w'.cell? ⟨gb310,0,none⟩ = some (.int .i64 a1_0) ∧ w'.cell? ⟨gb310,1,none⟩ = some (.int .i64 a1_1) ∧ w'.cell? ⟨gb310,2,none⟩ = some (.int .i64 a1_2) ∧ w'.cell? (ad311.add ((ji3)).toNat) = some (.int .i64 (rd l0 (ji3)))) (ds:=[]) #[bF,bF,bF,bF,bF,bF,bF,bF,bF] (by kernel_rfl) rfl rfl ⟨(blk_cell BK310.out 0).trans rfl,(blk_cell BK310.out 1).trans rfl,(blk_cell BK310.out 2).trans rfl,hx311_0⟩ (fun hHeld => ?_);refine with_tabW impl_pay.tab1 impl_pay.bits1 (fun HT_ HW_ => ?_)
  generalize w20.drew = w21 at HO0 BK310 HK HB hx311_0 hHeld ⊢
  refine pure_ (i:=0) (N:=some 4) (v:=?_) (a':=?_) #[bT,bF,bF,bF,bF,bF,bF,bF,bF] rfl rfl (any_of HT_.out (by kernel_rfl)) (fun _ _ _ h => h) (Or.inl ⟨by rfl,?_⟩) ?_ ?_
  rotate_left;(· intro w';go_simp;with_reducible rfl);rotate_left;(· simp only [Act.put,sI,sZ,sS,i64_w,i32_w];rfl)
  refine pure_ (i:=1) (N:=some 5) (v:=?_) (a':=?_) #[bT,bT,bF,bF,bF,bF,bF,bF,bF] rfl rfl (any_of HT_.out (by kernel_rfl)) (fun _ _ _ h => h) (Or.inl ⟨by rfl,?_⟩) ?_ ?_
  rotate_left;(· intro w';go_simp;with_reducible rfl);rotate_left;(· simp only [Act.put,sI,sZ,sS,i64_w,i32_w];rfl)
  refine pure_ (i:=6) (N:=some 10) (v:=?_) (a':=?_) #[bT,bT,bF,bF,bF,bF,bT,bF,bF] rfl rfl (any_of HT_.out (by kernel_rfl)) (fun _ _ _ h => h) (Or.inl ⟨by rfl,?_⟩) ?_ ?_
  rotate_left;(· intro w';go_simp;with_reducible rfl);rotate_left;(· simp only [Act.put,sI,sZ,sS,i64_w,i32_w];rfl)
  refine take_ (i:=2) (N:=some 6) (v:=?_) (a':=?_) #[bT,bT,bT,bF,bF,bF,bT,bF,bF] rfl rfl (take_ofW HT_.out HW_.out (by kernel_rfl)) (fun _ _ _ h => h) (Or.inl ⟨by rfl,?_⟩) hHeld ?_ ?_
  rotate_left
  ·rintro w' ⟨s0,s1,s2,s3⟩
   (try simp only [Int.toNat_natCast] at s0 s1 s2 s3)
   go_simp
   with_reducible rfl
  rotate_left
  ·simp only [Act.put,sI,sZ,sS,i64_w,i32_w]
   rfl
  refine pure_ (i:=3) (N:=some 7) (v:=?_) (a':=?_) #[bT,bT,bT,bT,bF,bF,bT,bF,bF] rfl rfl (any_of HT_.out (by kernel_rfl)) (fun _ _ _ h => h) (Or.inl ⟨by rfl,?_⟩) ?_ ?_
  rotate_left;(· intro w';go_simp;with_reducible rfl);rotate_left;(· simp only [Act.put,sI,sZ,sS,i64_w,i32_w];rfl)
  refine pure_ (i:=4) (N:=some 8) (v:=?_) (a':=?_) #[bT,bT,bT,bT,bT,bF,bT,bF,bF] rfl rfl (any_of HT_.out (by kernel_rfl)) (fun _ _ _ h => h) (Or.inl ⟨by rfl,?_⟩) ?_ ?_
  rotate_left;(· intro w';go_simp;with_reducible rfl);rotate_left;(· simp only [Act.put,sI,sZ,sS,i64_w,i32_w];rfl)
  refine take_ (i:=5) (N:=some 9) (v:=?_) (a':=?_) #[bT,bT,bT,bT,bT,bT,bT,bF,bF] rfl rfl (take_ofW HT_.out HW_.out (by kernel_rfl)) (fun _ _ _ h => h) (Or.inl ⟨by rfl,?_⟩) hHeld ?_ ?_
  rotate_left
  ·rintro w' ⟨s0,s1,s2,s3⟩
   (try simp only [Int.toNat_natCast] at s0 s1 s2 s3)
   go_simp
   with_reducible rfl
  rotate_left
  ·simp only [Act.put,sI,sZ,sS,i64_w,i32_w]
   rfl
  refine take_ (i:=7) (N:=some 11) (v:=?_) (a':=?_) #[bT,bT,bT,bT,bT,bT,bT,bT,bF] rfl rfl (take_ofW HT_.out HW_.out (by kernel_rfl)) (fun _ _ _ h => h) (Or.inl ⟨by rfl,?_⟩) hHeld ?_ ?_
  rotate_left
  ·rintro w' ⟨s0,s1,s2,s3⟩
   (try simp only [Int.toNat_natCast] at s0 s1 s2 s3)
   go_simp
   with_reducible rfl
  rotate_left
  ·simp only [Act.put,sI,sZ,sS,i64_w,i32_w]
   rfl
  refine pure_ (i:=8) (N:=some 12) (v:=?_) (a':=?_) #[bT,bT,bT,bT,bT,bT,bT,bT,bT] rfl rfl (any_of HT_.out (by kernel_rfl)) (fun _ _ _ h => h) (Or.inl ⟨by rfl,?_⟩) ?_ ?_
  rotate_left;(· intro w';go_simp;with_reducible rfl);rotate_left;(· simp only [Act.put,sI,sZ,sS,i64_w,i32_w];rfl)
  refine done_ (done_of HT_.out (by kernel_rfl)) ?_
  try go_wp2
  first|go_end0|((try simp only [Exit.inBlock,Exit.then]);refine bodyPost_ret (results_none rfl _ _ _) rfl ?_)
  exact ⟨by first|rfl|(simp only [i64_w,i32_w];done)|(simp only [i64_w,i32_w];rfl)|(simp [errW_none,errW_some] <;> rfl)|(simp only [← hji3];first|rfl|(simp [errW_none,errW_some] <;> rfl))|(simp [*,errW_none,errW_some] <;> rfl),by (with_reducible repeat (first|apply Kd.R_alloc|apply Kd.R_drewN|apply Kd.R_drew));exact HO0.out,by repeat (first|(with_reducible first|exact HB.out|apply bA|apply bN|apply bD|refine below_set ?_ GE310.out)|exact HB.out),by repeat (first|(with_reducible first|exact HK.out|apply Kept.alloc|apply Kept.drewN|apply Kept.drew|refine Kept.setCell ?_ (.inr GW310.out) _)|exact HK.out)⟩

/-! ### impl_BookOf: function 30 -/
def impl_BookOf.l0 : Nat → List Int → List (S56) → Int → Int → Option (List Int)
 | 0,_,_,_,_ => none
 | k + 1,x3,x10,x11,x12 => if x12 < x11 then (if 0 ≤ x12 then (if x12 < (x10.length : Int) then ((impl_pay.f x3 ((rd_T56 x10 x12).f1.f0) ((rd_T56 x10 x12).f1.f1) ((rd_T56 x10 x12).f1.f2)).bind fun t322 => (impl_BookOf.l0 k t322 x10 x11 (wrap64 (x12 + 1)))) else (none)) else (none)) else (some x3)
def impl_BookOf.f (k : Nat) (l0 : List (S56)) : Option (List Int):=(impl_ChainOk.f k l0).bind fun t316 => (if t316 = true then ((impl_BookNew.f).bind fun t317 => (impl_BookOf.l0 k t317 l0 (l0.length : Int) 0)) else (some ([] : List Int)))
theorem impl_BookOf.mono_l : ∀ k,(∀ y0 y1 y2 y3,LeO (impl_BookOf.l0 k y0 y1 y2 y3) (impl_BookOf.l0 (k + 1) y0 y1 y2 y3))
 | 0 => fun _ _ _ _ r h => by simp [impl_BookOf.l0] at h
 | k + 1 => by
  have ih0:=impl_BookOf.mono_l k
  ·intro y0 y1 y2 y3
   unfold impl_BookOf.l0
   repeat' first
   | exact LeO.refl _
   | exact ih0 _ _ _ _
   | exact impl_ChainOk.mono _ _
   | exact LeO.none _
   | refine LeO.ite ?_ ?_
   | refine LeO.bind ?_ (fun _ => ?_)
theorem impl_BookOf.mono : ∀ a0 k,LeO (impl_BookOf.f k a0) (impl_BookOf.f (k + 1) a0):=by
 intro a0 k
 have ih0:=impl_BookOf.mono_l k
 unfold impl_BookOf.f
 repeat' first
   | exact LeO.refl _
   | exact ih0 _ _ _ _
   | exact impl_ChainOk.mono _ _
   | exact LeO.none _
   | refine LeO.ite ?_ ?_
   | refine LeO.bind ?_ (fun _ => ?_)
set_option maxHeartbeats 8000000 in
set_option maxRecDepth 100000 in
theorem impl_BookOf.calls (k : Nat) (A0 : Option Addr) (c0 : Nat) (l0 : List (S56)) (r : List Int) (w : World) (hr0 : Kd.C k56 w A0 l0.length l0) (hc0 : l0.length ≤ c0) (h : impl_BookOf.f k l0 = some r) :
  Calls Try.prog 30 #[.slice A0 l0.length c0] w fun e w' => ∃ v0_ : Value,e = .returned (v0_) ∧ Kd.R (Kd.int .i64) 3 w' w.heap.size (fun _ => True) v0_ r ∧ Below w.heap.size w w':=by
 have hu56:=Try.underlying56
 have hu44:=Try.underlying44
 have HR0:=aM hr0
 have HC0:=aM hc0
 clear hr0 hc0
 have HB:=aM (Below.refl w.heap.size w)
 have H : ((impl_ChainOk.f k l0).bind fun t316 => (if t316 = true then ((impl_BookNew.f).bind fun t317 => (impl_BookOf.l0 k t317 l0 (l0.length : Int) 0)) else (some ([] : List Int)))) = some r:=h
 clear h
 replace H:=Option.bind_eq_some_iff.mp H
 obtain ⟨t316,A20,H⟩:=H
 replace H : (if t316 = true then ((impl_BookNew.f).bind fun t317 => (impl_BookOf.l0 k t317 l0 (l0.length : Int) 0)) else (some ([] : List Int))) = some r:=H
 have A2:=aM A20
 clear A20
 by_cases c3 : t316 = true
 ·subst c3
  have H1 : ((impl_BookNew.f).bind fun t317 => (impl_BookOf.l0 k t317 l0 (l0.length : Int) 0)) = some r:=by rw [if_pos rfl] at H;exact H
  clear H
  have H:=H1
  clear H1
  replace H:=Option.bind_eq_some_iff.mp H
  obtain ⟨t317,A40,H⟩:=H
  replace H : (impl_BookOf.l0 k t317 l0 (l0.length : Int) 0) = some r:=H
  have A4:=aM A40
  clear A40
  have H':=aM H
  clear H
  go_enter Try.func30,Try.ntmps30
  go_wp2_with (first|((with_reducible refine gate_callee (f:=36) rfl ?_);refine goesL_ (some 7) rfl rfl Try.func36 (by kernel_rfl) rfl #[.slice A0 l0.length c0] rfl (by (try simp only [List.map_toArray,List.map_cons,List.map_nil]);first|done|rfl|(simp only [List.length_drop,List.length_take];rfl)) ?_;(with_reducible refine (impl_ChainOk.calls k _ _ l0 true _ ?side1 ?side2 A2.out).mono ?_);(case side1 => repeat (first|exact HR0.out|(with_reducible refine Kd.C_alloc ?_ _)|(with_reducible refine Kd.C_drewN ?_ _)|(with_reducible refine Kd.C_drew ?_)));(case side2 => exact HC0.out);rintro e w5 ⟨rfl,hb⟩;refine ⟨_,rfl,?_⟩;have n0_:=aM (below_step (by repeat (first|(with_reducible first|exact HB.out|apply bA|apply bN|apply bD)|exact HB.out)) hb);clear HB;have HB:=n0_;clear n0_;(try clear hb);(try clear hb2);(try clear hk);(try clear hi))|((with_reducible refine gate_callee (f:=9) rfl ?_);refine goesL_ (some 9) rfl rfl Try.func9 (by kernel_rfl) rfl #[] rfl (by (try simp only [List.map_toArray,List.map_cons,List.map_nil]);first|done|rfl|(simp only [List.length_drop,List.length_take];rfl)) ?_;(with_reducible refine (impl_BookNew.calls  t317 _ A4.out).mono ?_);rintro e w6 ⟨v318,rfl,ho0,hb⟩;refine ⟨_,rfl,?_⟩;have n0_:=aM (Kd.R_lower ho0 (below_size (by repeat (first|(with_reducible first|exact HB.out|apply bA|apply bN|apply bD)|exact HB.out))));have n1_:=aM (below_step (by repeat (first|(with_reducible first|exact HB.out|apply bA|apply bN|apply bD)|exact HB.out)) hb);clear HB;have HO319:=n0_;have HB:=n1_;clear n0_ n1_;(try clear hb);(try clear hb2);(try clear hk);(try clear hi);(try clear ho0)))
  go_loopg [12] k (fun kq v12 w' => ∃ (x3_1 : List Int) (x12_1 : Int),v12 = .int .i64 x12_1 ∧ Aside0 (impl_BookOf.l0 kq x3_1 l0 (l0.length : Int) x12_1 = some r) ∧ Aside0 (kq ≤ k) ∧ Aside0 (Kd.R (Kd.int .i64) 3 w' w.heap.size (fun _ => True) v318 x3_1) ∧ Aside0 (Below w.heap.size w w'))
  case atStart => exact ⟨(t317),(0),(by first|rfl|(simp;done)|(simp [*];done)),H',⟨Nat.le_refl _⟩,⟨by (with_reducible repeat (first|apply Kd.R_alloc|apply Kd.R_drewN|apply Kd.R_drew));exact HO319.out⟩,⟨by repeat (first|(with_reducible first|exact HB.out|apply bA|apply bN|apply bD)|exact HB.out)⟩⟩
  case round =>
   clear H'
   try clear p2
   try clear c3
   obtain ⟨x3_1,x12_1,rfl,HA,HK1,HO_3,HB⟩:=hrel
   cases gk with
   | zero => exact absurd HA.out (by simp [impl_BookOf.l0])
   | succ k1 =>
    have H:=HA.out
    clear HA
    simp only [impl_BookOf.l0] at H
    by_cases c7 : x12_1 < (l0.length : Int)
    ·rw [if_pos c7] at H
     have c7b0 : decide (x12_1 < (l0.length : Int)) = true:=decide_eq_true c7
     clear c7
     by_cases c8 : 0 ≤ x12_1
     case neg => rw [if_neg c8] at H;exact absurd H (by simp)
     rw [if_pos c8] at H
     have c8b0 : decide (0 ≤ x12_1) = true:=decide_eq_true c8
     clear c8
     by_cases c9 : x12_1 < (l0.length : Int)
     case neg => rw [if_neg c9] at H;exact absurd H (by simp)
     rw [if_pos c9] at H
     have c9b0 : decide (x12_1 < (l0.length : Int)) = true:=decide_eq_true c9
     clear c9
     replace H:=Option.bind_eq_some_iff.mp H
     obtain ⟨t322,A100,H⟩:=H
     replace H : (impl_BookOf.l0 k1 t322 l0 (l0.length : Int) (wrap64 (x12_1 + 1))) = some r:=H
     have A10:=aM A100
     clear A100
     have H':=aM H
     clear H
     have p320 : 0 ≤ (x12_1 : Int):=of_decide_eq_true (by first|(with_reducible assumption)|assumption)
     have q320 : x12_1 < (l0.length : Int):=of_decide_eq_true (by first|(with_reducible assumption)|assumption)
     obtain ⟨ad320,e320,hx320_0,hx320_1,hx320_2,hx320_3⟩:=at_T56 HR0.out x12_1 p320 q320
     cases e320
     replace hx320_0:=(HB.out.cell (bL w hx320_0)).trans hx320_0
     replace hx320_1:=(HB.out.cell (bL w hx320_1)).trans hx320_1
     replace hx320_2:=(HB.out.cell (bL w hx320_2)).trans hx320_2
     replace hx320_3:=(HB.out.cell (bL w hx320_3)).trans hx320_3
     replace p320:=eq_true p320
     replace q320:=eq_true q320
     go_wp2_with (first|((with_reducible refine gate_dst (N:=5) rfl ?_);refine box_event ?hg (N:=5) ?hd (cs:=#[.int .i64 0,.int .i64 0,.int .i64 0,.int .i64 0]) (t:=56) ?hr ?_;(case hd => rfl);(case hg => rfl);(case hr => first|(go_simp;done)|(go_simp;rfl));intro gb321 hg w11 hbox hb;have n0_:=aM (Kd.R_below (by (with_reducible repeat (first|apply Kd.R_alloc|apply Kd.R_drewN|apply Kd.R_drew));exact HO_3.out) hb);have n1_:=aM (below_step (by repeat (first|(with_reducible first|exact HB.out|apply bA|apply bN|apply bD)|exact HB.out)) hb);have n2_:=aM (hbox);have n3_:=aM ((by rw [hg];exact (below_size (by repeat (first|(with_reducible first|exact HB.out|apply bA|apply bN|apply bD)|exact HB.out))) : w.heap.size ≤ gb321));have n4_:=aM ((by rw [hg];exact (below_size (by repeat (first|(with_reducible first|exact HB.out|apply bA|apply bN|apply bD)|exact HB.out))) : w.heap.size ≤ gb321));clear HO_3;clear HB;have HO_3:=n0_;have HB:=n1_;have BK321:=n2_;have GW321:=n3_;have GE321:=n4_;clear n0_ n1_ n2_ n3_ n4_;clear hb hbox hg;have hcz12_0 : w11.cell? ⟨gb321,0,none⟩ = some (.int .i64 0):=(blk_cell BK321.out 0).trans rfl;have hcz12_1 : w11.cell? ⟨gb321,1,none⟩ = some (.int .i64 0):=(blk_cell BK321.out 1).trans rfl;have hcz12_2 : w11.cell? ⟨gb321,2,none⟩ = some (.int .i64 0):=(blk_cell BK321.out 2).trans rfl;have hcz12_3 : w11.cell? ⟨gb321,3,none⟩ = some (.int .i64 0):=(blk_cell BK321.out 3).trans rfl;have hfz12_0:=blk_frozen BK321.out 0;have hfz12_1:=blk_frozen BK321.out 1;have hfz12_2:=blk_frozen BK321.out 2;have hfz12_3:=blk_frozen BK321.out 3)|((with_reducible refine gate_store (t:=56) (p:=5) rfl ?_);refine store_event (t:=56) (p:=5) (v:=?vo_w13) (w1:=((((w11.setCell ⟨gb321,0,none⟩ (.int .i64 ((rd_T56 l0 x12_1).f0))).setCell ⟨gb321,1,none⟩ (.int .i64 ((rd_T56 l0 x12_1).f1.f0))).setCell ⟨gb321,2,none⟩ (.int .i64 ((rd_T56 l0 x12_1).f1.f1))).setCell ⟨gb321,3,none⟩ (.int .i64 ((rd_T56 l0 x12_1).f1.f2)))) ?hg ?ho ?hn ?hr ?_;(case ho => rfl);(case hg => rfl);(case hn => rfl);(case hr => first|(go_simp;done)|(go_simp;rfl));intro w13 hw;have n0_ : Aside0 (Kd.R (Kd.int .i64) 3 w13 w.heap.size (fun _ => True) v318 x3_1):=⟨(by rw [hw];exact (by (with_reducible repeat (first|apply Kd.R_alloc|apply Kd.R_drewN|apply Kd.R_drew));exact Kd.R_mono (Kd.R_far (p:=⟨gb321,3,none⟩) (Kd.R_far (p:=⟨gb321,2,none⟩) (Kd.R_far (p:=⟨gb321,1,none⟩) (Kd.R_far (p:=⟨gb321,0,none⟩) (Kd.R_types HO_3.out BK321.out (by decide)) (fun _ hk => hk.2) (.int .i64 ((rd_T56 l0 x12_1).f0))) (fun _ hk => hk.2) (.int .i64 ((rd_T56 l0 x12_1).f1.f0))) (fun _ hk => hk.2) (.int .i64 ((rd_T56 l0 x12_1).f1.f1))) (fun _ hk => hk.2) (.int .i64 ((rd_T56 l0 x12_1).f1.f2))) (fun _ hk => trivial)))⟩;have n1_ : Aside0 (w13.heap[gb321]? = some (.cells #[.int .i64 ((rd_T56 l0 x12_1).f0),.int .i64 ((rd_T56 l0 x12_1).f1.f0),.int .i64 ((rd_T56 l0 x12_1).f1.f1),.int .i64 ((rd_T56 l0 x12_1).f1.f2)] 56 (0,0))):=⟨(by rw [hw];exact (by (with_reducible repeat (first|refine blk_drewN ?_ _|refine blk_drew ?_|refine blk_alloc ?_ _));refine blk_put (cs:=#[.int .i64 ((rd_T56 l0 x12_1).f0),.int .i64 ((rd_T56 l0 x12_1).f1.f0),.int .i64 ((rd_T56 l0 x12_1).f1.f1),.int .i64 0]) ?_ 3 _ rfl;(with_reducible repeat (first|refine blk_drewN ?_ _|refine blk_drew ?_|refine blk_alloc ?_ _));refine blk_put (cs:=#[.int .i64 ((rd_T56 l0 x12_1).f0),.int .i64 ((rd_T56 l0 x12_1).f1.f0),.int .i64 0,.int .i64 0]) ?_ 2 _ rfl;(with_reducible repeat (first|refine blk_drewN ?_ _|refine blk_drew ?_|refine blk_alloc ?_ _));refine blk_put (cs:=#[.int .i64 ((rd_T56 l0 x12_1).f0),.int .i64 0,.int .i64 0,.int .i64 0]) ?_ 1 _ rfl;(with_reducible repeat (first|refine blk_drewN ?_ _|refine blk_drew ?_|refine blk_alloc ?_ _));refine blk_put (cs:=#[.int .i64 0,.int .i64 0,.int .i64 0,.int .i64 0]) ?_ 0 _ rfl;(with_reducible repeat (first|refine blk_drewN ?_ _|refine blk_drew ?_|refine blk_alloc ?_ _));exact BK321.out))⟩;have n2_ : Aside0 (Below w.heap.size w w13):=⟨(by rw [hw];exact (by repeat (first|(with_reducible first|exact HB.out|apply bA|apply bN|apply bD|refine below_set ?_ GE321.out)|exact HB.out)))⟩;clear hw;clear HO_3;clear BK321;clear HB;have HO_3:=n0_;have BK321:=n1_;have HB:=n2_;clear n0_ n1_ n2_;have hcz14_0 : w13.cell? ⟨gb321,0,none⟩ = some (.int .i64 ((rd_T56 l0 x12_1).f0)):=(blk_cell BK321.out 0).trans rfl;have hcz14_1 : w13.cell? ⟨gb321,1,none⟩ = some (.int .i64 ((rd_T56 l0 x12_1).f1.f0)):=(blk_cell BK321.out 1).trans rfl;have hcz14_2 : w13.cell? ⟨gb321,2,none⟩ = some (.int .i64 ((rd_T56 l0 x12_1).f1.f1)):=(blk_cell BK321.out 2).trans rfl;have hcz14_3 : w13.cell? ⟨gb321,3,none⟩ = some (.int .i64 ((rd_T56 l0 x12_1).f1.f2)):=(blk_cell BK321.out 3).trans rfl;have hfz14_0:=blk_frozen BK321.out 0;have hfz14_1:=blk_frozen BK321.out 1;have hfz14_2:=blk_frozen BK321.out 2;have hfz14_3:=blk_frozen BK321.out 3;obtain ⟨Ao15,co15,eo15⟩:=Kd.R_slice HO_3.out;subst eo15)|((with_reducible refine gate_callee (f:=50) rfl ?_);refine goesL_ (some 19) rfl rfl Try.func50 (by kernel_rfl) rfl #[.slice Ao15 x3_1.length co15,.agg #[.int .i64 ((rd_T56 l0 x12_1).f1.f0),.int .i64 ((rd_T56 l0 x12_1).f1.f1),.int .i64 ((rd_T56 l0 x12_1).f1.f2)]] rfl (by (try simp only [List.map_toArray,List.map_cons,List.map_nil]);first|done|rfl|(simp only [List.length_drop,List.length_take];rfl)) ?_;(with_reducible refine (impl_pay.calls (fun k_ => some k_ = (.slice Ao15 x3_1.length co15 : Value).ownBlock) (.slice Ao15 x3_1.length co15) x3_1 ((rd_T56 l0 x12_1).f1.f0) ((rd_T56 l0 x12_1).f1.f1) ((rd_T56 l0 x12_1).f1.f2) t322 w _ ?side1 ?side2 A10.out).mono ?_);(case side1 => repeat (first|(with_reducible first|exact HB.out|apply bA|apply bN|apply bD|refine below_set ?_ GE321.out)|exact HB.out));(case side2 => exact Kd.R_tight rfl HO_3.out);rintro e w16 ⟨rfl,hy0,hb,hkp⟩;refine ⟨_,rfl,?_⟩;have n0_:=aM (Kd.R_reok rfl hy0 (fun k_ e_ => HO_3.out.1 k_ e_));have n1_:=aM (blk_kept (by (with_reducible repeat (first|refine blk_drewN ?_ _|refine blk_drew ?_|refine blk_alloc ?_ _));exact BK321.out) hkp (fun hs_ => (fun e_ => (Kd.R_ne HO_3.out BK321.out (by decide)) e_) hs_));have n2_:=aM (hb);clear HO_3;clear BK321;clear HB;have HO_3:=n0_;have BK321:=n1_;have HB:=n2_;clear n0_ n1_ n2_;(try clear hb);(try clear hkp);(try clear hy0)))
     go_roundg k1
     case measure => have:=HK1.out;omega
     case rel => exact ⟨(t322),(wrap64 (x12_1 + 1)),(by first|rfl|(simp;done)|(simp [*];done)),H',⟨by have:=HK1.out;omega⟩,⟨by (with_reducible repeat (first|apply Kd.R_alloc|apply Kd.R_drewN|apply Kd.R_drew));exact HO_3.out⟩,⟨by repeat (first|(with_reducible first|exact HB.out|apply bA|apply bN|apply bD|refine below_set ?_ GE321.out)|exact HB.out)⟩⟩
    ·rw [if_neg c7] at H
     have c7b0 : decide (x12_1 < (l0.length : Int)) = false:=decide_eq_false c7
     clear c7
     obtain rfl:=Option.some.inj H
     go_wp2
     go_ret
     exact ⟨_,by first|rfl|(simp only [i64_w,i32_w];done)|(simp only [i64_w,i32_w];rfl)|(simp [errW_none,errW_some] <;> rfl)|(simp [*,errW_none,errW_some] <;> rfl),by (with_reducible repeat (first|apply Kd.R_alloc|apply Kd.R_drewN|apply Kd.R_drew));exact HO_3.out,by repeat (first|(with_reducible first|exact HB.out|apply bA|apply bN|apply bD)|exact HB.out)⟩
 ·replace c3:=Bool.eq_false_iff.mpr c3
  subst c3
  have H1 : (some ([] : List Int)) = some r:=by rw [if_neg (show ¬ (false = true) by decide)] at H;exact H
  clear H
  have H:=H1
  clear H1
  obtain rfl:=Option.some.inj H
  go_enter Try.func30,Try.ntmps30
  go_wp2_with (first|((with_reducible refine gate_callee (f:=36) rfl ?_);refine goesL_ (some 7) rfl rfl Try.func36 (by kernel_rfl) rfl #[.slice A0 l0.length c0] rfl (by (try simp only [List.map_toArray,List.map_cons,List.map_nil]);first|done|rfl|(simp only [List.length_drop,List.length_take];rfl)) ?_;(with_reducible refine (impl_ChainOk.calls k _ _ l0 false _ ?side1 ?side2 A2.out).mono ?_);(case side1 => repeat (first|exact HR0.out|(with_reducible refine Kd.C_alloc ?_ _)|(with_reducible refine Kd.C_drewN ?_ _)|(with_reducible refine Kd.C_drew ?_)));(case side2 => exact HC0.out);rintro e w17 ⟨rfl,hb⟩;refine ⟨_,rfl,?_⟩;have n0_:=aM (below_step (by repeat (first|(with_reducible first|exact HB.out|apply bA|apply bN|apply bD)|exact HB.out)) hb);clear HB;have HB:=n0_;clear n0_;(try clear hb);(try clear hb2);(try clear hk);(try clear hi)))
  go_ret
  exact ⟨_,by first|rfl|(simp only [i64_w,i32_w];done)|(simp only [i64_w,i32_w];rfl)|(simp [errW_none,errW_some] <;> rfl)|(simp [*,errW_none,errW_some] <;> rfl),by first|exact Kd.R_nil _ _ _ _ _|exact Kd.N_nil _ _ _ _ _|exact Kd.V_nil _ _ _ _ _|exact Kd.Q_nil _ _ _ _ _|exact Kd.S_nil _ _ _ _ _,by repeat (first|(with_reducible first|exact HB.out|apply bA|apply bN|apply bD)|exact HB.out)⟩

end Go.Proofs.Ytkkfokcbbhnjeaa.P
