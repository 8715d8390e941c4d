/- The printed functions: what each Go function computes, as a Lean function, and that the Go code comes to just that. Conditions: none beyond each contract's own. -/
import Derived.Test.YtkkfokcbbhnjeaaPx0
namespace Go.Proofs.Ytkkfokcbbhnjeaa.P
open Go.RowKit Go.Proofs.YtkkfokcbbhnjeaaW.PrintWords Go.Proofs.YtkkfokcbbhnjeaaW.PrintLast Go.Proofs.YtkkfokcbbhnjeaaW.PrintMore
attribute [local go_sem] max2_int min2_int max_two min_two max_three min_three max_four min_four   -- for this text's walks alone
set_option linter.unusedVariables false
set_option linter.unusedSimpArgs false

/-! ### impl_pay: function 50 -/
def impl_pay.f (l0 : List Int) (a1_0 : Int) (a1_1 : Int) (a1_2 : Int) : Option (List Int):=if 0 ≤ (wrap64 (a1_0 - 1)) then (if (wrap64 (a1_0 - 1)) < (l0.length : Int) then (if (rd l0 (wrap64 (a1_0 - 1))) ≥ a1_2 then ((some (l0.set ((wrap64 (a1_0 - 1)) : Int).toNat (wrap64 ((rd l0 (wrap64 (a1_0 - 1))) - a1_2)) : List Int)).bind fun y104 => (if 0 ≤ (wrap64 (a1_1 - 1)) then (if (wrap64 (a1_1 - 1)) < (l0.length : Int) then (some (y104.set ((wrap64 (a1_1 - 1)) : Int).toNat (wrap64 ((rd y104 (wrap64 (a1_1 - 1))) + a1_2)))) else (none)) else (none))) else (some l0)) else (none)) else (none)
def impl_pay.T1 : Bool × List (List Nat × List Nat):=(true,[([],[]),([],[]),([1],[1]),([2],[2]),([0,3],[0,3]),([4],[4]),([],[]),([6],[6]),([5,7],[5,7])])
def impl_pay.B1 : List Nat:=[0,0,2,6,15,31,0,64,255]
theorem impl_pay.tab1 : rtab .any (opsOf Try.f50 1) = impl_pay.T1:=by kernel_rfl
theorem impl_pay.bits1 : waitsOk impl_pay.T1.2 impl_pay.B1 = true:=by kernel_rfl
def impl_pay.T2 : Bool × List (List Nat × List Nat):=(true,[([],[]),([],[]),([1],[1]),([2],[2]),([0,3],[0,3]),([4],[4]),([],[]),([6],[6]),([5,7],[5,7]),([0,3,0,1,2,3,4,5,6,7,8],[0,3]),([9,8,0,1,2,3,4,5,6,7,8],[8,9])])
def impl_pay.B2 : List Nat:=[0,0,2,6,15,31,0,64,255,511,1023]
theorem impl_pay.tab2 : rtab .any (opsOf Try.f50 2) = impl_pay.T2:=by kernel_rfl
theorem impl_pay.bits2 : waitsOk impl_pay.T2.2 impl_pay.B2 = true:=by kernel_rfl
def impl_pay.T3 : Bool × List (List Nat × List Nat):=(true,[([],[]),([],[]),([1],[1]),([2],[2]),([0,3],[0,3]),([4],[4]),([],[]),([6],[6]),([5,7],[5,7]),([0,3,0,1,2,3,4,5,6,7,8],[0,3]),([9,8,0,1,2,3,4,5,6,7,8],[8,9])])
def impl_pay.B3 : List Nat:=[0,0,2,6,15,31,0,64,255,511,1023]
theorem impl_pay.tab3 : rtab .any (opsOf Try.f50 3) = impl_pay.T3:=by kernel_rfl
theorem impl_pay.bits3 : waitsOk impl_pay.T3.2 impl_pay.B3 = true:=by kernel_rfl
set_option maxHeartbeats 8000000 in
set_option maxRecDepth 100000 in
theorem impl_pay.calls (P0_ : Nat → Prop) (u9000_ : Value) (l0 : List Int) (a1_0 : Int) (a1_1 : Int) (a1_2 : Int) (r : List Int) (w0 w : World) (hB : Below w0.heap.size w0 w) (ho0 : Kd.R (Kd.int .i64) 3 w w0.heap.size P0_ u9000_ l0) (h : impl_pay.f l0 a1_0 a1_1 a1_2 = some r) :
  Calls Try.prog 50 #[u9000_,.agg #[.int .i64 a1_0,.int .i64 a1_1,.int .i64 a1_2]] w fun e w' => e = .returned (.tuple #[]) ∧ Kd.R (Kd.int .i64) 3 w' w0.heap.size (fun k_ => (P0_ k_ ∨ w.heap.size ≤ k_)) u9000_ r ∧ Below w0.heap.size w0 w' ∧ Kept w w' (fun k_ => P0_ k_):=by
 have hu44:=Try.underlying44
 have HO0:=aM (show Kd.R (Kd.int .i64) 3 w w0.heap.size (fun k_ => (P0_ k_ ∨ w.heap.size ≤ k_)) u9000_ l0 from Kd.R_mono ho0 (fun k_ hk => (.inl hk)))
 have HK:=aM (Kept.refl w (fun k_ => P0_ k_))
 have HW0:=aM hB.size
 have HB:=aM hB
 clear hB
 have H : (if 0 ≤ (wrap64 (a1_0 - 1)) then (if (wrap64 (a1_0 - 1)) < (l0.length : Int) then (if (rd l0 (wrap64 (a1_0 - 1))) ≥ a1_2 then ((some (l0.set ((wrap64 (a1_0 - 1)) : Int).toNat (wrap64 ((rd l0 (wrap64 (a1_0 - 1))) - a1_2)) : List Int)).bind fun y104 => (if 0 ≤ (wrap64 (a1_1 - 1)) then (if (wrap64 (a1_1 - 1)) < (l0.length : Int) then (some (y104.set ((wrap64 (a1_1 - 1)) : Int).toNat (wrap64 ((rd y104 (wrap64 (a1_1 - 1))) + a1_2)))) else (none)) else (none))) else (some l0)) else (none)) else (none)) = some r:=h
 clear h
 obtain ⟨ji3,hji3⟩ : ∃ j_ : Int,(wrap64 (a1_0 - 1)) = j_:=⟨_,rfl⟩
 replace H : (if 0 ≤ (ji3) then (if (ji3) < (l0.length : Int) then (if (rd l0 (ji3)) ≥ a1_2 then ((some (l0.set ((ji3) : Int).toNat (wrap64 ((rd l0 (ji3)) - a1_2)) : List Int)).bind fun y104 => (if 0 ≤ (wrap64 (a1_1 - 1)) then (if (wrap64 (a1_1 - 1)) < (l0.length : Int) then (some (y104.set ((wrap64 (a1_1 - 1)) : Int).toNat (wrap64 ((rd y104 (wrap64 (a1_1 - 1))) + a1_2)))) else (none)) else (none))) else (some l0)) else (none)) else (none)) = some r:=by first|(rw [hji3] at H;exact H)|(simp only [hji3] at H ⊢;exact H)
 have hji3w : (IntKind.i64.wrap (a1_0 - 1)) = ji3:=(i64_w _).trans hji3
 by_cases c4 : 0 ≤ (ji3)
 case neg => rw [if_neg c4] at H;exact absurd H (by simp)
 rw [if_pos c4] at H
 have c4b0 : decide (0 ≤ (ji3)) = true:=decide_eq_true c4
 clear c4
 by_cases c5 : (ji3) < (l0.length : Int)
 case neg => rw [if_neg c5] at H;exact absurd H (by simp)
 rw [if_pos c5] at H
 have c5b0 : decide ((ji3) < (l0.length : Int)) = true:=decide_eq_true c5
 clear c5
 by_cases c6 : (rd l0 (ji3)) ≥ a1_2
 ·rw [if_pos c6] at H
  have c6b0 : decide (a1_2 ≤ (rd l0 (ji3))) = true:=decide_eq_true c6
  clear c6
  obtain ⟨y104,hy104⟩ : ∃ y_ : List Int,y_ = (l0.set ((ji3) : Int).toNat (wrap64 ((rd l0 (ji3)) - a1_2))):=⟨_,rfl⟩
  replace H : (if 0 ≤ (wrap64 (a1_1 - 1)) then (if (wrap64 (a1_1 - 1)) < (l0.length : Int) then (some (y104.set ((wrap64 (a1_1 - 1)) : Int).toNat (wrap64 ((rd y104 (wrap64 (a1_1 - 1))) + a1_2)))) else (none)) else (none)) = some r:=by first|(rw [hy104];with_reducible exact H)|(have H2_:=(Option.bind_some _ _).symm.trans H;rw [hy104];with_reducible exact H2_)|(have H2_:=(Option.bind_some _ _).symm.trans H;with_reducible exact H2_)|with_reducible exact H|(rw [hy104];exact H)|exact H
  have Ny104:=aM hy104
  clear hy104
  obtain ⟨ji8,hji8⟩ : ∃ j_ : Int,(wrap64 (a1_1 - 1)) = j_:=⟨_,rfl⟩
  replace H : (if 0 ≤ (ji8) then (if (ji8) < (l0.length : Int) then (some (y104.set ((ji8) : Int).toNat (wrap64 ((rd y104 (ji8)) + a1_2)))) else (none)) else (none)) = some r:=by first|(rw [hji8] at H;exact H)|(simp only [hji8] at H ⊢;exact H)
  have hji8w : (IntKind.i64.wrap (a1_1 - 1)) = ji8:=(i64_w _).trans hji8
  by_cases c9 : 0 ≤ (ji8)
  case neg => rw [if_neg c9] at H;exact absurd H (by simp)
  rw [if_pos c9] at H
  have c9b0 : decide (0 ≤ (ji8)) = true:=decide_eq_true c9
  clear c9
  by_cases c10 : (ji8) < (l0.length : Int)
  case neg => rw [if_neg c10] at H;exact absurd H (by simp)
  rw [if_pos c10] at H
  have c10b0 : decide ((ji8) < (l0.length : Int)) = true:=decide_eq_true c10
  clear c10
  obtain ⟨y106,hy106⟩ : ∃ y_ : List Int,y_ = (y104.set ((ji8) : Int).toNat (wrap64 ((rd y104 (ji8)) + a1_2))):=⟨_,rfl⟩
  replace H : (some y106) = some r:=by first|(rw [hy106];with_reducible exact H)|(have H2_:=(Option.bind_some _ _).symm.trans H;rw [hy106];with_reducible exact H2_)|(have H2_:=(Option.bind_some _ _).symm.trans H;with_reducible exact H2_)|with_reducible exact H|(rw [hy106];exact H)|exact H
  have Ny106:=aM hy106
  clear hy106
  obtain rfl:=Option.some.inj H
  go_enter Try.func50,Try.ntmps50
  try go_wp2_with (first|((with_reducible refine gate_dst (N:=3) rfl ?_);refine box_event ?hg (N:=3) ?hd (cs:=#[.int .i64 a1_0,.int .i64 a1_1,.int .i64 a1_2]) (t:=44) ?hr ?_;(case hd => rfl);(case hg => rfl);(case hr => first|(go_simp;done)|(go_simp;rfl));intro gb101 hg w12 hbox hb;have n0_:=aM (Kd.R_below (by (with_reducible repeat (first|apply Kd.R_alloc|apply Kd.R_drewN|apply Kd.R_drew));exact HO0.out) hb);have n1_:=aM (Kept.below (S:=(fun k_ => P0_ k_)) (by repeat (first|(with_reducible first|exact HK.out|apply Kept.alloc|apply Kept.drewN|apply Kept.drew)|exact HK.out)) hb);have n2_:=aM (below_step (by repeat (first|(with_reducible first|exact HB.out|apply bA|apply bN|apply bD)|exact HB.out)) hb);have n3_:=aM (hbox);have n4_:=aM ((by rw [hg];exact (by first|exact HK.out.1|exact (show Kept w _ (fun k_ => P0_ k_) from by repeat (first|(with_reducible first|exact HK.out|apply Kept.alloc|apply Kept.drewN|apply Kept.drew)|exact HK.out)).1) : w.heap.size ≤ gb101));have n5_:=aM ((by rw [hg];exact (below_size (by repeat (first|(with_reducible first|exact HB.out|apply bA|apply bN|apply bD)|exact HB.out))) : w0.heap.size ≤ gb101));clear HO0;clear HK;clear HB;have HO0:=n0_;have HK:=n1_;have HB:=n2_;have BK101:=n3_;have GW101:=n4_;have GE101:=n5_;clear n0_ n1_ n2_ n3_ n4_ n5_;clear hb hbox hg))
  have n0_:=aM (Kd.R_drew HO0.out)
  have n1_:=aM (blk_drew BK101.out)
  have n2_:=aM (Kept.drew HK.out)
  have n3_:=aM (bD HB.out)
  clear HO0
  clear BK101
  clear HK
  clear HB
  have HO0:=n0_
  have BK101:=n1_
  have HK:=n2_
  have HB:=n3_
  clear n0_ n1_ n2_ n3_
  obtain ⟨Ao14,co14,eo14⟩:=Kd.R_slice HO0.out
  (first|subst eo14|(injection eo14 with f1_ f2_ f3_;have f4_:=f1_.symm;have f5_:=f3_.symm;clear f1_ f2_ f3_;subst f4_;subst f5_))
  have p102 : 0 ≤ ((ji3) : Int):=of_decide_eq_true (by first|(with_reducible assumption)|assumption)
  have q102 : (ji3) < (l0.length : Int):=of_decide_eq_true (by first|(with_reducible assumption)|assumption)
  obtain ⟨ad102,e102,hx102_0⟩:=Kd.at_int (Kd.R_reads' HO0.out).2.2 (ji3) p102 q102
  cases e102
  replace p102:=eq_true p102
  replace q102:=eq_true q102
  refine start_ (n:=9) (S:=fun w' => w'.cell? ⟨gb101,0,none⟩ = some (.int .i64 a1_0) ∧ w'.cell? ⟨gb101,1,none⟩ = some (.int .i64 a1_1) ∧ w'.cell? ⟨gb101,2,none⟩ = some (.int .i64 a1_2) ∧ w'.cell? (ad102.add ((ji3)).toNat) = some (.int .i64 (rd l0 (ji3)))) (ds:=[]) #[bF,bF,bF,bF,bF,bF,bF,bF,bF] (by kernel_rfl) rfl rfl ⟨(blk_cell BK101.out 0).trans rfl,(blk_cell BK101.out 1).trans rfl,(blk_cell BK101.out 2).trans rfl,hx102_0⟩ (fun hHeld => ?_);refine with_tabW impl_pay.tab1 impl_pay.bits1 (fun HT_ HW_ => ?_)
  generalize w12.drew = w13 at HO0 BK101 HK HB hx102_0 hHeld ⊢
  refine pure_ (i:=0) (N:=some 4) (v:=?_) (a':=?_) #[bT,bF,bF,bF,bF,bF,bF,bF,bF] rfl rfl (any_of HT_.out (by kernel_rfl)) (fun _ _ _ h => h) (Or.inl ⟨by rfl,?_⟩) ?_ ?_
  rotate_left;(· intro w';go_simp;with_reducible rfl);rotate_left;(· simp only [Act.put,sI,sZ,sS,i64_w,i32_w];rfl)
  refine pure_ (i:=1) (N:=some 5) (v:=?_) (a':=?_) #[bT,bT,bF,bF,bF,bF,bF,bF,bF] rfl rfl (any_of HT_.out (by kernel_rfl)) (fun _ _ _ h => h) (Or.inl ⟨by rfl,?_⟩) ?_ ?_
  rotate_left;(· intro w';go_simp;with_reducible rfl);rotate_left;(· simp only [Act.put,sI,sZ,sS,i64_w,i32_w];rfl)
  refine pure_ (i:=6) (N:=some 10) (v:=?_) (a':=?_) #[bT,bT,bF,bF,bF,bF,bT,bF,bF] rfl rfl (any_of HT_.out (by kernel_rfl)) (fun _ _ _ h => h) (Or.inl ⟨by rfl,?_⟩) ?_ ?_
  rotate_left;(· intro w';go_simp;with_reducible rfl);rotate_left;(· simp only [Act.put,sI,sZ,sS,i64_w,i32_w];rfl)
  refine take_ (i:=2) (N:=some 6) (v:=?_) (a':=?_) #[bT,bT,bT,bF,bF,bF,bT,bF,bF] rfl rfl (take_ofW HT_.out HW_.out (by kernel_rfl)) (fun _ _ _ h => h) (Or.inl ⟨by rfl,?_⟩) hHeld ?_ ?_
  rotate_left
  ·rintro w' ⟨s0,s1,s2,s3⟩
   (try simp only [Int.toNat_natCast] at s0 s1 s2 s3)
   go_simp
   with_reducible rfl
  rotate_left
  ·simp only [Act.put,sI,sZ,sS,i64_w,i32_w]
   rfl
  refine pure_ (i:=3) (N:=some 7) (v:=?_) (a':=?_) #[bT,bT,bT,bT,bF,bF,bT,bF,bF] rfl rfl (any_of HT_.out (by kernel_rfl)) (fun _ _ _ h => h) (Or.inl ⟨by rfl,?_⟩) ?_ ?_
  rotate_left;(· intro w';go_simp;with_reducible rfl);rotate_left;(· simp only [Act.put,sI,sZ,sS,i64_w,i32_w];rfl)
  refine pure_ (i:=4) (N:=some 8) (v:=?_) (a':=?_) #[bT,bT,bT,bT,bT,bF,bT,bF,bF] rfl rfl (any_of HT_.out (by kernel_rfl)) (fun _ _ _ h => h) (Or.inl ⟨by rfl,?_⟩) ?_ ?_
  rotate_left;(· intro w';go_simp;with_reducible rfl);rotate_left;(· simp only [Act.put,sI,sZ,sS,i64_w,i32_w];rfl)
  refine take_ (i:=5) (N:=some 9) (v:=?_) (a':=?_) #[bT,bT,bT,bT,bT,bT,bT,bF,bF] rfl rfl (take_ofW HT_.out HW_.out (by kernel_rfl)) (fun _ _ _ h => h) (Or.inl ⟨by rfl,?_⟩) hHeld ?_ ?_
  rotate_left
  ·rintro w' ⟨s0,s1,s2,s3⟩
   (try simp only [Int.toNat_natCast] at s0 s1 s2 s3)
   go_simp
   with_reducible rfl
  rotate_left
  ·simp only [Act.put,sI,sZ,sS,i64_w,i32_w]
   rfl
  refine take_ (i:=7) (N:=some 11) (v:=?_) (a':=?_) #[bT,bT,bT,bT,bT,bT,bT,bT,bF] rfl rfl (take_ofW HT_.out HW_.out (by kernel_rfl)) (fun _ _ _ h => h) (Or.inl ⟨by rfl,?_⟩) hHeld ?_ ?_
  rotate_left
  ·rintro w' ⟨s0,s1,s2,s3⟩
   (try simp only [Int.toNat_natCast] at s0 s1 s2 s3)
   go_simp
   with_reducible rfl
  rotate_left
  ·simp only [Act.put,sI,sZ,sS,i64_w,i32_w]
   rfl
  refine pure_ (i:=8) (N:=some 12) (v:=?_) (a':=?_) #[bT,bT,bT,bT,bT,bT,bT,bT,bT] rfl rfl (any_of HT_.out (by kernel_rfl)) (fun _ _ _ h => h) (Or.inl ⟨by rfl,?_⟩) ?_ ?_
  rotate_left;(· intro w';go_simp;with_reducible rfl);rotate_left;(· simp only [Act.put,sI,sZ,sS,i64_w,i32_w];rfl)
  refine done_ (done_of HT_.out (by kernel_rfl)) ?_
  try go_wp2
  have n0_:=aM (Kd.R_drew HO0.out)
  have n1_:=aM (blk_drew BK101.out)
  have n2_:=aM (Kept.drew HK.out)
  have n3_:=aM (bD HB.out)
  clear HO0
  clear BK101
  clear HK
  clear HB
  have HO0:=n0_
  have BK101:=n1_
  have HK:=n2_
  have HB:=n3_
  clear n0_ n1_ n2_ n3_
  have p103 : 0 ≤ ((ji3) : Int):=of_decide_eq_true (by first|(with_reducible assumption)|assumption)
  have q103 : (ji3) < (l0.length : Int):=of_decide_eq_true (by first|(with_reducible assumption)|assumption)
  obtain ⟨ad103,e103,hx103_0⟩:=Kd.at_int (Kd.R_reads' HO0.out).2.2 (ji3) p103 q103
  obtain rfl : ad102 = ad103:=(by injection e103)
  replace p103:=eq_true p103
  replace q103:=eq_true q103
  have p7 : 0 ≤ ((ji3) : Int):=of_decide_eq_true (by first|(with_reducible assumption)|assumption)
  have q7 : ((ji3) : Int) < ((l0.length : Int) : Int):=of_decide_eq_true (by first|(with_reducible assumption)|assumption)
  obtain ⟨go7,co7,eo7,gb7,gl7,cl7,HG7⟩:=Kd.R_form HO0.out (by omega)
  (first|cases eo7|(injection eo7 with ea_ en_ ec_;(first|subst ea_|(injection ea_ with ea_;subst ea_));subst ec_;clear en_))
  have GB7:=aM gb7
  have GG7:=aM HG7
  clear gb7 gl7 HG7
  have HMgo7:=aM (show (P0_ go7 ∨ w.heap.size ≤ go7) from (HO0.out.1 _ rfl))
  (first|simp only [add_plain] at hx102_0|skip)
  (first|simp only [add_plain] at hx103_0|skip)
  obtain ⟨hx7_0,hf7_0⟩:=Kd.R_celln 0 HO0.out ((ji3) : Int) p7 q7
  replace p7:=eq_true p7
  replace q7:=eq_true q7
  have HP16:=Kd.R_putn HO0.out ((ji3) : Int) (wrap64 ((rd l0 (ji3)) - a1_2))
  rw [← Ny104.out] at HP16
  have HQ16:=aM HP16
  clear HP16
  refine start_ (n:=11) (S:=fun w' => w'.cell? ⟨gb101,0,none⟩ = some (.int .i64 a1_0) ∧ w'.cell? ⟨gb101,1,none⟩ = some (.int .i64 a1_1) ∧ w'.cell? ⟨gb101,2,none⟩ = some (.int .i64 a1_2) ∧ w'.cell? ⟨go7,((ji3)).toNat,none⟩ = some (.int .i64 (rd l0 (ji3)))) (ds:=[10]) #[bF,bF,bF,bF,bF,bF,bF,bF,bF,bF,bF] (by kernel_rfl) rfl rfl ⟨(blk_cell BK101.out 0).trans rfl,(blk_cell BK101.out 1).trans rfl,(blk_cell BK101.out 2).trans rfl,hx103_0⟩ (fun hHeld => ?_);refine with_tabW impl_pay.tab2 impl_pay.bits2 (fun HT_ HW_ => ?_)
  generalize w13.drew = w15 at HO0 BK101 HK HB GG7 HQ16 hf7_0 hx102_0 hx103_0 hx7_0 hHeld ⊢
  refine pure_ (i:=0) (N:=some 13) (v:=?_) (a':=?_) #[bT,bF,bF,bF,bF,bF,bF,bF,bF,bF,bF] rfl rfl (any_of HT_.out (by kernel_rfl)) (fun _ _ _ h => h) (Or.inl ⟨by rfl,?_⟩) ?_ ?_
  rotate_left;(· intro w';go_simp;with_reducible rfl);rotate_left;(· simp only [Act.put,sI,sZ,sS,i64_w,i32_w];rfl)
  refine pure_ (i:=1) (N:=some 14) (v:=?_) (a':=?_) #[bT,bT,bF,bF,bF,bF,bF,bF,bF,bF,bF] rfl rfl (any_of HT_.out (by kernel_rfl)) (fun _ _ _ h => h) (Or.inl ⟨by rfl,?_⟩) ?_ ?_
  rotate_left;(· intro w';go_simp;with_reducible rfl);rotate_left;(· simp only [Act.put,sI,sZ,sS,i64_w,i32_w];rfl)
  refine pure_ (i:=6) (N:=some 19) (v:=?_) (a':=?_) #[bT,bT,bF,bF,bF,bF,bT,bF,bF,bF,bF] rfl rfl (any_of HT_.out (by kernel_rfl)) (fun _ _ _ h => h) (Or.inl ⟨by rfl,?_⟩) ?_ ?_
  rotate_left;(· intro w';go_simp;with_reducible rfl);rotate_left;(· simp only [Act.put,sI,sZ,sS,i64_w,i32_w];rfl)
  refine take_ (i:=2) (N:=some 15) (v:=?_) (a':=?_) #[bT,bT,bT,bF,bF,bF,bT,bF,bF,bF,bF] rfl rfl (take_ofW HT_.out HW_.out (by kernel_rfl)) (fun _ _ _ h => h) (Or.inl ⟨by rfl,?_⟩) hHeld ?_ ?_
  rotate_left
  ·rintro w' ⟨s0,s1,s2,s3⟩
   (try simp only [Int.toNat_natCast] at s0 s1 s2 s3)
   go_simp
   with_reducible rfl
  rotate_left
  ·simp only [Act.put,sI,sZ,sS,i64_w,i32_w]
   rfl
  refine pure_ (i:=3) (N:=some 16) (v:=?_) (a':=?_) #[bT,bT,bT,bT,bF,bF,bT,bF,bF,bF,bF] rfl rfl (any_of HT_.out (by kernel_rfl)) (fun _ _ _ h => h) (Or.inl ⟨by rfl,?_⟩) ?_ ?_
  rotate_left;(· intro w';go_simp;with_reducible rfl);rotate_left;(· simp only [Act.put,sI,sZ,sS,i64_w,i32_w];rfl)
  refine pure_ (i:=4) (N:=some 17) (v:=?_) (a':=?_) #[bT,bT,bT,bT,bT,bF,bT,bF,bF,bF,bF] rfl rfl (any_of HT_.out (by kernel_rfl)) (fun _ _ _ h => h) (Or.inl ⟨by rfl,?_⟩) ?_ ?_
  rotate_left;(· intro w';go_simp;with_reducible rfl);rotate_left;(· simp only [Act.put,sI,sZ,sS,i64_w,i32_w];rfl)
  refine take_ (i:=5) (N:=some 18) (v:=?_) (a':=?_) #[bT,bT,bT,bT,bT,bT,bT,bF,bF,bF,bF] rfl rfl (take_ofW HT_.out HW_.out (by kernel_rfl)) (fun _ _ _ h => h) (Or.inl ⟨by rfl,?_⟩) hHeld ?_ ?_
  rotate_left
  ·rintro w' ⟨s0,s1,s2,s3⟩
   (try simp only [Int.toNat_natCast] at s0 s1 s2 s3)
   go_simp
   with_reducible rfl
  rotate_left
  ·simp only [Act.put,sI,sZ,sS,i64_w,i32_w]
   rfl
  refine take_ (i:=7) (N:=some 20) (v:=?_) (a':=?_) #[bT,bT,bT,bT,bT,bT,bT,bT,bF,bF,bF] rfl rfl (take_ofW HT_.out HW_.out (by kernel_rfl)) (fun _ _ _ h => h) (Or.inl ⟨by rfl,?_⟩) hHeld ?_ ?_
  rotate_left
  ·rintro w' ⟨s0,s1,s2,s3⟩
   (try simp only [Int.toNat_natCast] at s0 s1 s2 s3)
   go_simp
   with_reducible rfl
  rotate_left
  ·simp only [Act.put,sI,sZ,sS,i64_w,i32_w]
   rfl
  refine pure_ (i:=8) (N:=some 21) (v:=?_) (a':=?_) #[bT,bT,bT,bT,bT,bT,bT,bT,bT,bF,bF] rfl rfl (any_of HT_.out (by kernel_rfl)) (fun _ _ _ h => h) (Or.inl ⟨by rfl,?_⟩) ?_ ?_
  rotate_left;(· intro w';go_simp;with_reducible rfl);rotate_left;(· simp only [Act.put,sI,sZ,sS,i64_w,i32_w];rfl)
  refine pure_ (i:=9) (N:=some 22) (v:=?_) (a':=?_) #[bT,bT,bT,bT,bT,bT,bT,bT,bT,bT,bF] rfl rfl (any_of HT_.out (by kernel_rfl)) (fun _ _ _ h => h) (Or.inl ⟨by rfl,?_⟩) ?_ ?_
  rotate_left;(· intro w';go_simp;with_reducible rfl);rotate_left;(· simp only [Act.put,sI,sZ,sS,i64_w,i32_w];rfl)
  refine last_ (i:=10) (N:=none) #[bT,bT,bT,bT,bT,bT,bT,bT,bT,bT,bT] rfl rfl (one_of HT_.out (by kernel_rfl)) (by decide) (fun K hK => ?_)
  refine skip_ (w1:=?_) (by rfl) rfl ?_ ?_
  rotate_left
  ·go_simp
   rfl
  refine hK.out _ _ ?_
  clear hK K
  refine done_ (done_of HT_.out (by kernel_rfl)) ?_
  try go_wp2
  have n0_ : Aside0 (Kd.R (Kd.int .i64) 3 (w15.setCell ⟨go7,((ji3) : Int).toNat,none⟩ (.int .i64 (wrap64 ((rd l0 (ji3)) - a1_2)))) w0.heap.size (fun k_ => (P0_ k_ ∨ w.heap.size ≤ k_)) (.slice (some ⟨go7,0,none⟩) l0.length co14) y104):=⟨by (with_reducible repeat (first|apply Kd.R_alloc|apply Kd.R_drewN|apply Kd.R_drew));exact HQ16.out⟩
  have n1_ : Aside0 ((w15.setCell ⟨go7,((ji3) : Int).toNat,none⟩ (.int .i64 (wrap64 ((rd l0 (ji3)) - a1_2)))).heap[gb101]? = some (.cells #[.int .i64 a1_0,.int .i64 a1_1,.int .i64 a1_2] 44 (0,0))):=⟨by (with_reducible repeat (first|refine blk_drewN ?_ _|refine blk_drew ?_|refine blk_alloc ?_ _));refine blk_far ?_ (by have h_:=Kd.R_ne HO0.out BK101.out (by decide);intro e_;exact h_ (by rw [e_];rfl)) _;(with_reducible repeat (first|refine blk_drewN ?_ _|refine blk_drew ?_|refine blk_alloc ?_ _));exact BK101.out⟩
  have n2_ : Aside0 (Kept w (w15.setCell ⟨go7,((ji3) : Int).toNat,none⟩ (.int .i64 (wrap64 ((rd l0 (ji3)) - a1_2)))) (fun k_ => P0_ k_)):=⟨by repeat (first|(with_reducible first|exact HK.out|apply Kept.alloc|apply Kept.drewN|apply Kept.drew|refine Kept.setCell ?_ HMgo7.out _|refine Kept.setCell ?_ (.inr GW101.out) _)|exact HK.out)⟩
  have n3_ : Aside0 (Below w0.heap.size w0 (w15.setCell ⟨go7,((ji3) : Int).toNat,none⟩ (.int .i64 (wrap64 ((rd l0 (ji3)) - a1_2))))):=⟨by repeat (first|(with_reducible first|exact HB.out|apply bA|apply bN|apply bD|refine below_set ?_ GB7.out|refine below_set ?_ GE101.out)|exact HB.out)⟩
  (try clear HO0)
  (try clear BK101)
  (try clear HK)
  (try clear HB)
  generalize (w15.setCell ⟨go7,((ji3) : Int).toNat,none⟩ (.int .i64 (wrap64 ((rd l0 (ji3)) - a1_2)))) = w17 at n0_ n1_ n2_ n3_ ⊢
  have HO0:=n0_
  have BK101:=n1_
  have HK:=n2_
  have HB:=n3_
  clear n0_ n1_ n2_ n3_
  have n0_:=aM (Kd.R_drew HO0.out)
  have n1_:=aM (blk_drew BK101.out)
  have n2_:=aM (Kept.drew HK.out)
  have n3_:=aM (bD HB.out)
  clear HO0
  clear BK101
  clear HK
  clear HB
  have HO0:=n0_
  have BK101:=n1_
  have HK:=n2_
  have HB:=n3_
  clear n0_ n1_ n2_ n3_
  have p105 : 0 ≤ ((ji8) : Int):=of_decide_eq_true (by first|(with_reducible assumption)|assumption)
  have q105 : (ji8) < (y104.length : Int):=(by have h_ : ((ji8) : Int) < ((l0.length : Int) : Int):=of_decide_eq_true (by first|(with_reducible assumption)|assumption);first|(have e_:=(Kd.R_reads' HO0.out).1;omega)|simpa only [Ny104.out,List.length_set] using h_)
  have ql105 : (((ji8) : Int) < ((l0.length : Int) : Int)) = True:=eq_true (of_decide_eq_true (by first|(with_reducible assumption)|assumption))
  obtain ⟨ad105,e105,hx105_0⟩:=Kd.at_int (Kd.R_reads' HO0.out).2.2 (ji8) p105 q105
  obtain rfl : (⟨go7,0,none⟩ : Addr) = ad105:=(by injection e105)
  (first|simp only [add_plain] at hx105_0|simp only [add_at] at hx105_0|simp only [Addr.add,Nat.zero_add] at hx105_0|skip)
  replace p105:=eq_true p105
  replace q105:=eq_true q105
  have p11 : 0 ≤ ((ji8) : Int):=of_decide_eq_true (by first|(with_reducible assumption)|assumption)
  have q11 : ((ji8) : Int) < ((l0.length : Int) : Int):=of_decide_eq_true (by first|(with_reducible assumption)|assumption)
  obtain ⟨hx11_0,hf11_0⟩:=Kd.R_celln 0 HO0.out ((ji8) : Int) p11 q11
  replace p11:=eq_true p11
  replace q11:=eq_true q11
  have HP19:=Kd.R_putn HO0.out ((ji8) : Int) (wrap64 ((rd y104 (ji8)) + a1_2))
  rw [← Ny106.out] at HP19
  have HQ19:=aM HP19
  clear HP19
  refine start_ (n:=11) (S:=fun w' => w'.cell? ⟨gb101,0,none⟩ = some (.int .i64 a1_0) ∧ w'.cell? ⟨gb101,1,none⟩ = some (.int .i64 a1_1) ∧ w'.cell? ⟨gb101,2,none⟩ = some (.int .i64 a1_2) ∧ w'.cell? ⟨go7,((ji8)).toNat,none⟩ = some (.int .i64 (rd y104 (ji8)))) (ds:=[10]) #[bF,bF,bF,bF,bF,bF,bF,bF,bF,bF,bF] (by kernel_rfl) rfl rfl ⟨(blk_cell BK101.out 0).trans rfl,(blk_cell BK101.out 1).trans rfl,(blk_cell BK101.out 2).trans rfl,hx105_0⟩ (fun hHeld => ?_);refine with_tabW impl_pay.tab3 impl_pay.bits3 (fun HT_ HW_ => ?_)
  generalize w17.drew = w18 at HO0 BK101 HK HB HQ16 HQ19 hf11_0 hx105_0 hx11_0 hHeld ⊢
  refine pure_ (i:=0) (N:=some 23) (v:=?_) (a':=?_) #[bT,bF,bF,bF,bF,bF,bF,bF,bF,bF,bF] rfl rfl (any_of HT_.out (by kernel_rfl)) (fun _ _ _ h => h) (Or.inl ⟨by rfl,?_⟩) ?_ ?_
  rotate_left;(· intro w';go_simp;with_reducible rfl);rotate_left;(· simp only [Act.put,sI,sZ,sS,i64_w,i32_w];rfl)
  refine pure_ (i:=1) (N:=some 24) (v:=?_) (a':=?_) #[bT,bT,bF,bF,bF,bF,bF,bF,bF,bF,bF] rfl rfl (any_of HT_.out (by kernel_rfl)) (fun _ _ _ h => h) (Or.inl ⟨by rfl,?_⟩) ?_ ?_
  rotate_left;(· intro w';go_simp;with_reducible rfl);rotate_left;(· simp only [Act.put,sI,sZ,sS,i64_w,i32_w];rfl)
  refine pure_ (i:=6) (N:=some 29) (v:=?_) (a':=?_) #[bT,bT,bF,bF,bF,bF,bT,bF,bF,bF,bF] rfl rfl (any_of HT_.out (by kernel_rfl)) (fun _ _ _ h => h) (Or.inl ⟨by rfl,?_⟩) ?_ ?_
  rotate_left;(· intro w';go_simp;with_reducible rfl);rotate_left;(· simp only [Act.put,sI,sZ,sS,i64_w,i32_w];rfl)
  refine take_ (i:=2) (N:=some 25) (v:=?_) (a':=?_) #[bT,bT,bT,bF,bF,bF,bT,bF,bF,bF,bF] rfl rfl (take_ofW HT_.out HW_.out (by kernel_rfl)) (fun _ _ _ h => h) (Or.inl ⟨by rfl,?_⟩) hHeld ?_ ?_
  rotate_left
  ·rintro w' ⟨s0,s1,s2,s3⟩
   (try simp only [Int.toNat_natCast] at s0 s1 s2 s3)
   go_simp
   with_reducible rfl
  rotate_left
  ·simp only [Act.put,sI,sZ,sS,i64_w,i32_w]
   rfl
  refine pure_ (i:=3) (N:=some 26) (v:=?_) (a':=?_) #[bT,bT,bT,bT,bF,bF,bT,bF,bF,bF,bF] rfl rfl (any_of HT_.out (by kernel_rfl)) (fun _ _ _ h => h) (Or.inl ⟨by rfl,?_⟩) ?_ ?_
  rotate_left;(· intro w';go_simp;with_reducible rfl);rotate_left;(· simp only [Act.put,sI,sZ,sS,i64_w,i32_w];rfl)
  refine pure_ (i:=4) (N:=some 27) (v:=?_) (a':=?_) #[bT,bT,bT,bT,bT,bF,bT,bF,bF,bF,bF] rfl rfl (any_of HT_.out (by kernel_rfl)) (fun _ _ _ h => h) (Or.inl ⟨by rfl,?_⟩) ?_ ?_
  rotate_left;(· intro w';go_simp;with_reducible rfl);rotate_left;(· simp only [Act.put,sI,sZ,sS,i64_w,i32_w];rfl)
  refine take_ (i:=5) (N:=some 28) (v:=?_) (a':=?_) #[bT,bT,bT,bT,bT,bT,bT,bF,bF,bF,bF] rfl rfl (take_ofW HT_.out HW_.out (by kernel_rfl)) (fun _ _ _ h => h) (Or.inl ⟨by rfl,?_⟩) hHeld ?_ ?_
  rotate_left
  ·rintro w' ⟨s0,s1,s2,s3⟩
   (try simp only [Int.toNat_natCast] at s0 s1 s2 s3)
   go_simp
   with_reducible rfl
  rotate_left
  ·simp only [Act.put,sI,sZ,sS,i64_w,i32_w]
   rfl
  refine take_ (i:=7) (N:=some 30) (v:=?_) (a':=?_) #[bT,bT,bT,bT,bT,bT,bT,bT,bF,bF,bF] rfl rfl (take_ofW HT_.out HW_.out (by kernel_rfl)) (fun _ _ _ h => h) (Or.inl ⟨by rfl,?_⟩) hHeld ?_ ?_
  rotate_left
  ·rintro w' ⟨s0,s1,s2,s3⟩
   (try simp only [Int.toNat_natCast] at s0 s1 s2 s3)
   go_simp
   with_reducible rfl
  rotate_left
  ·simp only [Act.put,sI,sZ,sS,i64_w,i32_w]
   rfl
  refine pure_ (i:=8) (N:=some 31) (v:=?_) (a':=?_) #[bT,bT,bT,bT,bT,bT,bT,bT,bT,bF,bF] rfl rfl (any_of HT_.out (by kernel_rfl)) (fun _ _ _ h => h) (Or.inl ⟨by rfl,?_⟩) ?_ ?_
  rotate_left;(· intro w';go_simp;with_reducible rfl);rotate_left;(· simp only [Act.put,sI,sZ,sS,i64_w,i32_w];rfl)
  refine pure_ (i:=9) (N:=some 32) (v:=?_) (a':=?_) #[bT,bT,bT,bT,bT,bT,bT,bT,bT,bT,bF] rfl rfl (any_of HT_.out (by kernel_rfl)) (fun _ _ _ h => h) (Or.inl ⟨by rfl,?_⟩) ?_ ?_
  rotate_left;(· intro w';go_simp;with_reducible rfl);rotate_left;(· simp only [Act.put,sI,sZ,sS,i64_w,i32_w];rfl)
  refine last_ (i:=10) (N:=none) #[bT,bT,bT,bT,bT,bT,bT,bT,bT,bT,bT] rfl rfl (one_of HT_.out (by kernel_rfl)) (by decide) (fun K hK => ?_)
  refine skip_ (w1:=?_) (by rfl) rfl ?_ ?_
  rotate_left
  ·go_simp
   rfl
  refine hK.out _ _ ?_
  clear hK K
  refine done_ (done_of HT_.out (by kernel_rfl)) ?_
  try go_wp2
  first|go_end0|((try simp only [Exit.inBlock,Exit.then]);refine bodyPost_ret (results_none rfl _ _ _) rfl ?_)
  exact ⟨by first|rfl|(simp only [i64_w,i32_w];done)|(simp only [i64_w,i32_w];rfl)|(simp [errW_none,errW_some] <;> rfl)|(simp only [← hji3,← hji8];first|rfl|(simp [errW_none,errW_some] <;> rfl))|(simp [*,errW_none,errW_some] <;> rfl),by (with_reducible repeat (first|apply Kd.R_alloc|apply Kd.R_drewN|apply Kd.R_drew));exact HQ19.out,by repeat (first|(with_reducible first|exact HB.out|apply bA|apply bN|apply bD|refine below_set ?_ GB7.out|refine below_set ?_ GE101.out)|exact HB.out),by repeat (first|(with_reducible first|exact HK.out|apply Kept.alloc|apply Kept.drewN|apply Kept.drew|refine Kept.setCell ?_ HMgo7.out _|refine Kept.setCell ?_ (.inr GW101.out) _)|exact HK.out)⟩
 ·rw [if_neg c6] at H
  have c6b0 : decide (a1_2 ≤ (rd l0 (ji3))) = false:=decide_eq_false c6
  clear c6
  obtain rfl:=Option.some.inj H
  go_enter Try.func50,Try.ntmps50
  try go_wp2_with (first|((with_reducible refine gate_dst (N:=3) rfl ?_);refine box_event ?hg (N:=3) ?hd (cs:=#[.int .i64 a1_0,.int .i64 a1_1,.int .i64 a1_2]) (t:=44) ?hr ?_;(case hd => rfl);(case hg => rfl);(case hr => first|(go_simp;done)|(go_simp;rfl));intro gb101 hg w20 hbox hb;have n0_:=aM (Kd.R_below (by (with_reducible repeat (first|apply Kd.R_alloc|apply Kd.R_drewN|apply Kd.R_drew));exact HO0.out) hb);have n1_:=aM (Kept.below (S:=(fun k_ => P0_ k_)) (by repeat (first|(with_reducible first|exact HK.out|apply Kept.alloc|apply Kept.drewN|apply Kept.drew)|exact HK.out)) hb);have n2_:=aM (below_step (by repeat (first|(with_reducible first|exact HB.out|apply bA|apply bN|apply bD)|exact HB.out)) hb);have n3_:=aM (hbox);have n4_:=aM ((by rw [hg];exact (by first|exact HK.out.1|exact (show Kept w _ (fun k_ => P0_ k_) from by repeat (first|(with_reducible first|exact HK.out|apply Kept.alloc|apply Kept.drewN|apply Kept.drew)|exact HK.out)).1) : w.heap.size ≤ gb101));have n5_:=aM ((by rw [hg];exact (below_size (by repeat (first|(with_reducible first|exact HB.out|apply bA|apply bN|apply bD)|exact HB.out))) : w0.heap.size ≤ gb101));clear HO0;clear HK;clear HB;have HO0:=n0_;have HK:=n1_;have HB:=n2_;have BK101:=n3_;have GW101:=n4_;have GE101:=n5_;clear n0_ n1_ n2_ n3_ n4_ n5_;clear hb hbox hg))
  have n0_:=aM (Kd.R_drew HO0.out)
  have n1_:=aM (blk_drew BK101.out)
  have n2_:=aM (Kept.drew HK.out)
  have n3_:=aM (bD HB.out)
  clear HO0
  clear BK101
  clear HK
  clear HB
  have HO0:=n0_
  have BK101:=n1_
  have HK:=n2_
  have HB:=n3_
  clear n0_ n1_ n2_ n3_
  obtain ⟨Ao22,co22,eo22⟩:=Kd.R_slice HO0.out
  (first|subst eo22|(injection eo22 with f1_ f2_ f3_;have f4_:=f1_.symm;have f5_:=f3_.symm;clear f1_ f2_ f3_;subst f4_;subst f5_))
  have p102 : 0 ≤ ((ji3) : Int):=of_decide_eq_true (by first|(with_reducible assumption)|assumption)
  have q102 : (ji3) < (l0.length : Int):=of_decide_eq_true (by first|(with_reducible assumption)|assumption)
  obtain ⟨ad102,e102,hx102_0⟩:=Kd.at_int (Kd.R_reads' HO0.out).2.2 (ji3) p102 q102
  cases e102
  replace p102:=eq_true p102
  replace q102:=eq_true q102
  refine start_ (n:=9) (S:=fun w' => w'.cell? ⟨gb101,0,none⟩ = some (.int .i64 a1_0) ∧ w'.cell? ⟨gb101,1,none⟩ = some (.int .i64 a1_1) ∧ w'.cell? ⟨gb101,2,none⟩ = some (.int .i64 a1_2) ∧ w'.cell? (ad102.add ((ji3)).toNat) = some (.int .i64 (rd l0 (ji3)))) (ds:=[]) #[bF,bF,bF,bF,bF,bF,bF,bF,bF] (by kernel_rfl) rfl rfl ⟨(blk_cell BK101.out 0).trans rfl,(blk_cell BK101.out 1).trans rfl,(blk_cell BK101.out 2).trans rfl,hx102_0⟩ (fun hHeld => ?_);refine with_tabW impl_pay.tab1 impl_pay.bits1 (fun HT_ HW_ => ?_)
  generalize w20.drew = w21 at HO0 BK101 HK HB hx102_0 hHeld ⊢
  refine pure_ (i:=0) (N:=some 4) (v:=?_) (a':=?_) #[bT,bF,bF,bF,bF,bF,bF,bF,bF] rfl rfl (any_of HT_.out (by kernel_rfl)) (fun _ _ _ h => h) (Or.inl ⟨by rfl,?_⟩) ?_ ?_
  rotate_left;(· intro w';go_simp;with_reducible rfl);rotate_left;(· simp only [Act.put,sI,sZ,sS,i64_w,i32_w];rfl)
  refine pure_ (i:=1) (N:=some 5) (v:=?_) (a':=?_) #[bT,bT,bF,bF,bF,bF,bF,bF,bF] rfl rfl (any_of HT_.out (by kernel_rfl)) (fun _ _ _ h => h) (Or.inl ⟨by rfl,?_⟩) ?_ ?_
  rotate_left;(· intro w';go_simp;with_reducible rfl);rotate_left;(· simp only [Act.put,sI,sZ,sS,i64_w,i32_w];rfl)
  refine pure_ (i:=6) (N:=some 10) (v:=?_) (a':=?_) #[bT,bT,bF,bF,bF,bF,bT,bF,bF] rfl rfl (any_of HT_.out (by kernel_rfl)) (fun _ _ _ h => h) (Or.inl ⟨by rfl,?_⟩) ?_ ?_
  rotate_left;(· intro w';go_simp;with_reducible rfl);rotate_left;(· simp only [Act.put,sI,sZ,sS,i64_w,i32_w];rfl)
  refine take_ (i:=2) (N:=some 6) (v:=?_) (a':=?_) #[bT,bT,bT,bF,bF,bF,bT,bF,bF] rfl rfl (take_ofW HT_.out HW_.out (by kernel_rfl)) (fun _ _ _ h => h) (Or.inl ⟨by rfl,?_⟩) hHeld ?_ ?_
  rotate_left
  ·rintro w' ⟨s0,s1,s2,s3⟩
   (try simp only [Int.toNat_natCast] at s0 s1 s2 s3)
   go_simp
   with_reducible rfl
  rotate_left
  ·simp only [Act.put,sI,sZ,sS,i64_w,i32_w]
   rfl
  refine pure_ (i:=3) (N:=some 7) (v:=?_) (a':=?_) #[bT,bT,bT,bT,bF,bF,bT,bF,bF] rfl rfl (any_of HT_.out (by kernel_rfl)) (fun _ _ _ h => h) (Or.inl ⟨by rfl,?_⟩) ?_ ?_
  rotate_left;(· intro w';go_simp;with_reducible rfl);rotate_left;(· simp only [Act.put,sI,sZ,sS,i64_w,i32_w];rfl)
  refine pure_ (i:=4) (N:=some 8) (v:=?_) (a':=?_) #[bT,bT,bT,bT,bT,bF,bT,bF,bF] rfl rfl (any_of HT_.out (by kernel_rfl)) (fun _ _ _ h => h) (Or.inl ⟨by rfl,?_⟩) ?_ ?_
  rotate_left;(· intro w';go_simp;with_reducible rfl);rotate_left;(· simp only [Act.put,sI,sZ,sS,i64_w,i32_w];rfl)
  refine take_ (i:=5) (N:=some 9) (v:=?_) (a':=?_) #[bT,bT,bT,bT,bT,bT,bT,bF,bF] rfl rfl (take_ofW HT_.out HW_.out (by kernel_rfl)) (fun _ _ _ h => h) (Or.inl ⟨by rfl,?_⟩) hHeld ?_ ?_
  rotate_left
  ·rintro w' ⟨s0,s1,s2,s3⟩
   (try simp only [Int.toNat_natCast] at s0 s1 s2 s3)
   go_simp
   with_reducible rfl
  rotate_left
  ·simp only [Act.put,sI,sZ,sS,i64_w,i32_w]
   rfl
  refine take_ (i:=7) (N:=some 11) (v:=?_) (a':=?_) #[bT,bT,bT,bT,bT,bT,bT,bT,bF] rfl rfl (take_ofW HT_.out HW_.out (by kernel_rfl)) (fun _ _ _ h => h) (Or.inl ⟨by rfl,?_⟩) hHeld ?_ ?_
  rotate_left
  ·rintro w' ⟨s0,s1,s2,s3⟩
   (try simp only [Int.toNat_natCast] at s0 s1 s2 s3)
   go_simp
   with_reducible rfl
  rotate_left
  ·simp only [Act.put,sI,sZ,sS,i64_w,i32_w]
   rfl
  refine pure_ (i:=8) (N:=some 12) (v:=?_) (a':=?_) #[bT,bT,bT,bT,bT,bT,bT,bT,bT] rfl rfl (any_of HT_.out (by kernel_rfl)) (fun _ _ _ h => h) (Or.inl ⟨by rfl,?_⟩) ?_ ?_
  rotate_left;(· intro w';go_simp;with_reducible rfl);rotate_left;(· simp only [Act.put,sI,sZ,sS,i64_w,i32_w];rfl)
  refine done_ (done_of HT_.out (by kernel_rfl)) ?_
  try go_wp2
  first|go_end0|((try simp only [Exit.inBlock,Exit.then]);refine bodyPost_ret (results_none rfl _ _ _) rfl ?_)
  exact ⟨by first|rfl|(simp only [i64_w,i32_w];done)|(simp only [i64_w,i32_w];rfl)|(simp [errW_none,errW_some] <;> rfl)|(simp only [← hji3];first|rfl|(simp [errW_none,errW_some] <;> rfl))|(simp [*,errW_none,errW_some] <;> rfl),by (with_reducible repeat (first|apply Kd.R_alloc|apply Kd.R_drewN|apply Kd.R_drew));exact HO0.out,by repeat (first|(with_reducible first|exact HB.out|apply bA|apply bN|apply bD|refine below_set ?_ GE101.out)|exact HB.out),by repeat (first|(with_reducible first|exact HK.out|apply Kept.alloc|apply Kept.drewN|apply Kept.drew|refine Kept.setCell ?_ (.inr GW101.out) _)|exact HK.out)⟩

/-! ### slices_Clone_int_int: function 49 -/
def slices_Clone_int_int.f (l0 : List (Int)) : Option (List (Int)):=if l0.length < 17592186044416 then some l0 else none
set_option maxHeartbeats 8000000 in
set_option maxRecDepth 100000 in
theorem slices_Clone_int_int.calls (A0 : Option Addr) (c0 : Nat) (l0 : List (Int)) (r : List (Int)) (w : World) (hr0 : Kd.C (Kd.int .i64) w A0 l0.length l0) (hc0 : l0.length ≤ c0) (h : slices_Clone_int_int.f l0 = some r) :
  Calls Try.prog 49 #[.slice A0 l0.length c0] w fun e w' => ∃ v0_ : Value,e = .returned (v0_) ∧ Kd.R (Kd.int .i64) 3 w' w.heap.size (fun _ => True) v0_ r ∧ Below w.heap.size w w':=by
 have hlim : l0.length < 17592186044416:=by
  unfold slices_Clone_int_int.f at h
  by_cases hx : l0.length < 17592186044416
  ·exact hx
  ·rw [if_neg hx] at h
   cases h
 have hr : l0 = r:=by
  unfold slices_Clone_int_int.f at h
  rw [if_pos hlim] at h
  exact Option.some.inj h
 have HR:=aM hr
 have HR0:=aM hr0
 have LMc2:=aM hlim
 clear hr h
 cases A0 with
 | none =>
  have hn : l0 = []:=by
   cases l0 with
   | nil => rfl
   | cons x xs =>
    obtain ⟨ad,he,_⟩:=hr0.2.2 (by simp)
    cases he
  have HN:=aM hn
  clear hr0 hc0 hlim hn
  have heq:=fun (w : World) (a : Option Addr) (l c : Nat) => Go.run_eql_slice_nil (P:=Try.prog) w 22 3 a l c Try.underlying22
  go_enter Try.func49,Try.ntmps49
  go_wp2
  go_ret
  exact ⟨_,rfl,by rw [← HR.out,HN.out];exact Kd.R_nil _ _ _ _ _,Below.refl _ _⟩
 | some a0 =>
  have HC0:=aM hc0
  clear hr0 hc0 hlim
  have HB:=aM (Below.refl w.heap.size w)
  obtain ⟨y1,hy1⟩ : ∃ y_ : List (Int),y_ = ([] : List (Int)):=⟨_,rfl⟩
  have Ny1:=aM hy1
  clear hy1
  have heq:=fun (w : World) (a : Option Addr) (l c : Nat) => Go.run_eql_slice_nil (P:=Try.prog) w 22 3 a l c Try.underlying22
  obtain ⟨y2,hy2⟩ : ∃ y_ : List (Int),y_ = (y1 ++ l0):=⟨_,rfl⟩
  have Ny2:=aM hy2
  clear hy2
  go_enter Try.func49,Try.ntmps49
  go_wp2_with (first|((with_reducible refine gate_dst (N:=5) rfl ?_);refine Kd.R_lit (Kd.int .i64) _ 3 ?hg (N:=5) ?hd (xs:=([] : List (Int))) (inner:=[]) (ok:=fun _ => True) (okp:=fun _ => True) ?hr ?hp (fun _ hk => hk) trivial (Below.refl _ _) (Nat.le_refl _) (by simp) ?_;(case hd => rfl);(case hg => rfl);(case hr => first|(go_simp;done)|(go_simp;rfl));(case hp => exact (Reps.none _ _));intro v1 w3 ho4 hb hg_ hnew_;clear hg_ hnew_;rw [← Ny1.out] at ho4;have n0_:=aM (Kd.R_lower ho4 (below_size (by repeat (first|(with_reducible first|exact HB.out|apply bA|apply bN|apply bD)|exact HB.out))));have n1_:=aM (below_step (by repeat (first|(with_reducible first|exact HB.out|apply bA|apply bN|apply bD)|exact HB.out)) hb);clear HB;have HO1:=n0_;have HB:=n1_;clear n0_ n1_;clear hb ho4)|((with_reducible refine gate_builtin (b:=.append) (xs:=#[.tmp 5,.tmp 6]) rfl ?_);at_builtin;refine Kd.R_append_rows (Kd.int .i64) (w0:=w) w.heap.size rfl (.tmp 5) (.tmp 6) 22 3 (.int .i64 0) 8 rfl Try.underlying22 info3 rfl (by decide) (by omega) v1 y1 l0 _ _ _ (fun _ => True) (fun _ => False) rfl rfl ?aO ?aR (fun _ _ h => h) (fun _ h => h.elim) ?aF ?aB ?aS ?aL ?_;(case aR => repeat (first|exact (Kd.C_below HR0.out HB.out)|(with_reducible refine Kd.C_alloc ?_ _)|(with_reducible refine Kd.C_drewN ?_ _)|(with_reducible refine Kd.C_drew ?_)));(case aB => exact (by repeat (first|(with_reducible first|exact HB.out|apply bA|apply bN|apply bD)|exact HB.out)));(case aF => exact (fun _ _ => trivial));(case aO => exact (by (with_reducible repeat (first|apply Kd.R_alloc|apply Kd.R_drewN|apply Kd.R_drew));exact HO1.out));(case aS => exact (below_size (by repeat (first|(with_reducible first|exact HB.out|apply bA|apply bN|apply bD)|exact HB.out))));(case aL => have h1:=LMc2.out;have h2:=Ny1.out;rw [h2];simp only [List.length_nil,Nat.zero_add];omega);intro v2 w5 ho hb hg hat;rw [← Ny2.out] at ho;have n0_:=aM (hb);have n1_:=aM (ho);clear HB;clear HO1;have HB:=n0_;have HO2:=n1_;clear n0_ n1_;clear ho hb hg hat))
  go_ret
  refine ⟨_,rfl,?_,by repeat (first|(with_reducible first|exact HB.out|apply bA|apply bN|apply bD)|exact HB.out)⟩
  have e : y2 = r:=by rw [Ny2.out,Ny1.out,List.nil_append,HR.out]
  rw [← e]
  (with_reducible repeat (first|apply Kd.R_alloc|apply Kd.R_drewN|apply Kd.R_drew));exact HO2.out

/-! ### impl_Item_57: function 57 -/
def impl_Item_57.f (l0 : List (S56)) : Option (List (S56)):=if l0.length < 4398046511104 then some l0 else none
set_option maxHeartbeats 8000000 in
set_option maxRecDepth 100000 in
theorem impl_Item_57.calls (A0 : Option Addr) (c0 : Nat) (l0 : List (S56)) (r : List (S56)) (w : World) (hr0 : Kd.C k56 w A0 l0.length l0) (hc0 : l0.length ≤ c0) (h : impl_Item_57.f l0 = some r) :
  Calls Try.prog 57 #[.slice A0 l0.length c0] w fun e w' => ∃ v0_ : Value,e = .returned (v0_) ∧ Kd.R k56 56 w' w.heap.size (fun _ => True) v0_ r ∧ Below w.heap.size w w':=by
 have hlim : l0.length < 4398046511104:=by
  unfold impl_Item_57.f at h
  by_cases hx : l0.length < 4398046511104
  ·exact hx
  ·rw [if_neg hx] at h
   cases h
 have hr : l0 = r:=by
  unfold impl_Item_57.f at h
  rw [if_pos hlim] at h
  exact Option.some.inj h
 have HR:=aM hr
 have HR0:=aM hr0
 have LMc2:=aM hlim
 clear hr h
 cases A0 with
 | none =>
  have hn : l0 = []:=by
   cases l0 with
   | nil => rfl
   | cons x xs =>
    obtain ⟨ad,he,_⟩:=hr0.2.2 (by simp)
    cases he
  have HN:=aM hn
  clear hr0 hc0 hlim hn
  have heq:=fun (w : World) (a : Option Addr) (l c : Nat) => Go.run_eql_slice_nil (P:=Try.prog) w 28 56 a l c Try.underlying28
  go_enter Try.func57,Try.ntmps57
  go_wp2
  go_ret
  exact ⟨_,rfl,by rw [← HR.out,HN.out];exact Kd.R_nil _ _ _ _ _,Below.refl _ _⟩
 | some a0 =>
  have HC0:=aM hc0
  clear hr0 hc0 hlim
  have HB:=aM (Below.refl w.heap.size w)
  obtain ⟨y1,hy1⟩ : ∃ y_ : List (S56),y_ = ([] : List (S56)):=⟨_,rfl⟩
  have Ny1:=aM hy1
  clear hy1
  have heq:=fun (w : World) (a : Option Addr) (l c : Nat) => Go.run_eql_slice_nil (P:=Try.prog) w 28 56 a l c Try.underlying28
  obtain ⟨y2,hy2⟩ : ∃ y_ : List (S56),y_ = (y1 ++ l0):=⟨_,rfl⟩
  have Ny2:=aM hy2
  clear hy2
  go_enter Try.func57,Try.ntmps57
  go_wp2_with (first|((with_reducible refine gate_dst (N:=5) rfl ?_);refine Kd.R_lit k56 _ 56 ?hg (N:=5) ?hd (xs:=([] : List (S56))) (inner:=[]) (ok:=fun _ => True) (okp:=fun _ => True) ?hr ?hp (fun _ hk => hk) trivial (Below.refl _ _) (Nat.le_refl _) (by simp) ?_;(case hd => rfl);(case hg => rfl);(case hr => first|(go_simp;done)|(go_simp;rfl));(case hp => exact (Reps.none _ _));intro v1 w3 ho4 hb hg_ hnew_;clear hg_ hnew_;rw [← Ny1.out] at ho4;have n0_:=aM (Kd.R_lower ho4 (below_size (by repeat (first|(with_reducible first|exact HB.out|apply bA|apply bN|apply bD)|exact HB.out))));have n1_:=aM (below_step (by repeat (first|(with_reducible first|exact HB.out|apply bA|apply bN|apply bD)|exact HB.out)) hb);clear HB;have HO1:=n0_;have HB:=n1_;clear n0_ n1_;clear hb ho4)|((with_reducible refine gate_builtin (b:=.append) (xs:=#[.tmp 5,.tmp 6]) rfl ?_);at_builtin;refine Kd.R_append_rows k56 (w0:=w) w.heap.size rfl (.tmp 5) (.tmp 6) 28 56 (.agg #[(.int .i64 0),(.int .i64 0),(.int .i64 0),(.int .i64 0)]) 32 rfl Try.underlying28 info56 rfl (by decide) (by omega) v1 y1 l0 _ _ _ (fun _ => True) (fun _ => False) rfl rfl ?aO ?aR (fun _ _ h => h) (fun _ h => h.elim) ?aF ?aB ?aS ?aL ?_;(case aR => repeat (first|exact (Kd.C_below HR0.out HB.out)|(with_reducible refine Kd.C_alloc ?_ _)|(with_reducible refine Kd.C_drewN ?_ _)|(with_reducible refine Kd.C_drew ?_)));(case aB => exact (by repeat (first|(with_reducible first|exact HB.out|apply bA|apply bN|apply bD)|exact HB.out)));(case aF => exact (fun _ _ => trivial));(case aO => exact (by (with_reducible repeat (first|apply Kd.R_alloc|apply Kd.R_drewN|apply Kd.R_drew));exact HO1.out));(case aS => exact (below_size (by repeat (first|(with_reducible first|exact HB.out|apply bA|apply bN|apply bD)|exact HB.out))));(case aL => have h1:=LMc2.out;have h2:=Ny1.out;rw [h2];simp only [List.length_nil,Nat.zero_add];omega);intro v2 w5 ho hb hg hat;rw [← Ny2.out] at ho;have n0_:=aM (hb);have n1_:=aM (ho);clear HB;clear HO1;have HB:=n0_;have HO2:=n1_;clear n0_ n1_;clear ho hb hg hat))
  go_ret
  refine ⟨_,rfl,?_,by repeat (first|(with_reducible first|exact HB.out|apply bA|apply bN|apply bD)|exact HB.out)⟩
  have e : y2 = r:=by rw [Ny2.out,Ny1.out,List.nil_append,HR.out]
  rw [← e]
  (with_reducible repeat (first|apply Kd.R_alloc|apply Kd.R_drewN|apply Kd.R_drew));exact HO2.out

/-- A state of type 69 at block g of W; what its slices lead to came in by w0. -/
def IsS69 (w0 W : World) (g : Nat) (f0 : List Int) (f1 : Int) : Prop:=∃ A0 c0,W.heap[g]? = some (.cells #[.slice A0 f0.length c0,.int .i64 f1] 69 (0,0)) ∧ w0.heap.size ≤ g ∧ Kd.C (Kd.int .u8) w0 A0 f0.length f0
theorem IsS69.grown {w0 W : World} {g : Nat} {f0 : List Int} {f1 : Int} {W1 : World} {row : Option Nat} (h : IsS69 w0 W g f0 f1) (hw : W.grownBy W1 row) (hne : some g ≠ row) : IsS69 w0 W1 g f0 f1:=by
 obtain ⟨A0,c0,hb,hg,hr0⟩:=h
 exact ⟨A0,c0,blk_grown hb hw hne,hg,hr0⟩
theorem IsS69.own_neN {w0 W : World} {g : Nat} {f0 : List Int} {f1 : Int} {α : Type} {d : Kd α} {e : Nat} {base : Nat} {ok : Nat → Prop} {v : Value} {xs : List α} (h : IsS69 w0 W g f0 f1) (ho : Kd.N d e W base ok v xs) (ht : e ≠ 69) : some g ≠ v.ownBlock:=by
 obtain ⟨A0,c0,hb,hg,hr0⟩:=h
 exact Kd.N_ne ho hb ht
theorem IsS69.fresh {w0 W : World} {g : Nat} {f0 : List Int} {f1 : Int} (h : IsS69 w0 W g f0 f1) : ∀ k,W.heap.size ≤ k → k ≠ g:=by
 obtain ⟨A0,c0,hb,hg,hr0⟩:=h
 exact Kd.freshB hb
theorem IsS69.kept {w0 W : World} {g : Nat} {f0 : List Int} {f1 : Int} {W1 : World} {S : Nat → Prop} (h : IsS69 w0 W g f0 f1) (hk : Kept W W1 S) (hne : ¬ S g) : IsS69 w0 W1 g f0 f1:=by
 obtain ⟨A0,c0,hb,hg,hr0⟩:=h
 exact ⟨A0,c0,blk_kept hb hk hne,hg,hr0⟩
theorem IsS69.below {w0 W : World} {g : Nat} {f0 : List Int} {f1 : Int} {W1 : World} (h : IsS69 w0 W g f0 f1) (hw : Below W.heap.size W W1) : IsS69 w0 W1 g f0 f1:=h.grown (grown_of_below hw none) (by simp)
theorem IsS69.alloc {w0 W : World} {g : Nat} {f0 : List Int} {f1 : Int} (h : IsS69 w0 W g f0 f1) (o : Obj) : IsS69 w0 (W.alloc o) g f0 f1:=h.below (bA (Below.refl _ _) o)
theorem IsS69.drewN {w0 W : World} {g : Nat} {f0 : List Int} {f1 : Int} (h : IsS69 w0 W g f0 f1) (m : Nat) : IsS69 w0 (W.drewN m) g f0 f1:=h
theorem IsS69.drew {w0 W : World} {g : Nat} {f0 : List Int} {f1 : Int} (h : IsS69 w0 W g f0 f1) : IsS69 w0 W.drew g f0 f1:=h
theorem IsS69.at_ {w0 W : World} {g : Nat} {f0 : List Int} {f1 : Int} {w' : World} {m : Nat} (hq : W.drewN m = w') (h : IsS69 w0 W g f0 f1) : IsS69 w0 w' g f0 f1:=by subst hq;exact IsS69.drewN h m
theorem IsS69.apart {w0 W : World} {g : Nat} {f0 : List Int} {f1 : Int} {α : Type} {d : Kd α} {e : Nat} {base : Nat} {ok : Nat → Prop} {v : Value} {xs : List α} (h : IsS69 w0 W g f0 f1) (ho : d.R e W base ok v xs) (ht : ∀ q,q ∈ e :: d.E → q ≠ 69) : d.R e W base (fun k => ok k ∧ k ≠ g) v xs:=by
 obtain ⟨A0,c0,hb,hg,hr0⟩:=h
 exact Kd.R_types ho hb ht
theorem IsS69.own_ne {w0 W : World} {g : Nat} {f0 : List Int} {f1 : Int} {α : Type} {d : Kd α} {e : Nat} {base : Nat} {ok : Nat → Prop} {v : Value} {xs : List α} (h : IsS69 w0 W g f0 f1) (ho : d.R e W base ok v xs) (ht : e ≠ 69) : some g ≠ v.ownBlock:=by
 obtain ⟨A0,c0,hb,hg,hr0⟩:=h
 exact Kd.R_ne ho hb ht
theorem IsS69.apartQ {w0 W : World} {g : Nat} {f0 : List Int} {f1 : Int} {α : Type} {d : Kd α} {e : Nat} {base : Nat} {ok : Nat → Prop} {v : Value} {xs : List α} (h : IsS69 w0 W g f0 f1) (ho : d.Q e W base ok v xs) (ht : ∀ q,q ∈ e :: d.E → q ≠ 69) : d.Q e W base (fun k => ok k ∧ k ≠ g) v xs:=by
 obtain ⟨A0,c0,hb,hg,hr0⟩:=h
 exact Kd.Q_types ho hb ht
theorem IsS69.own_neQ {w0 W : World} {g : Nat} {f0 : List Int} {f1 : Int} {α : Type} {d : Kd α} {e : Nat} {base : Nat} {ok : Nat → Prop} {v : Value} {xs : List α} (h : IsS69 w0 W g f0 f1) (ho : d.Q e W base ok v xs) (ht : e ≠ 69) : some g ≠ v.ownBlock:=by
 obtain ⟨A0,c0,hb,hg,hr0⟩:=h
 exact Kd.Q_ne ho hb ht
theorem IsS69.apartS {w0 W : World} {g : Nat} {f0 : List Int} {f1 : Int} {α : Type} {d : Kd α} {e : Nat} {base : Nat} {ok : Nat → Prop} {v : Value} {xs : List α} (h : IsS69 w0 W g f0 f1) (ho : d.S e W base ok v xs) (ht : ∀ q,q ∈ e :: d.E → q ≠ 69) : d.S e W base (fun k => ok k ∧ k ≠ g) v xs:=by
 obtain ⟨A0,c0,hb,hg,hr0⟩:=h
 exact Kd.S_types ho hb ht
theorem IsS69.own_neS {w0 W : World} {g : Nat} {f0 : List Int} {f1 : Int} {α : Type} {d : Kd α} {e : Nat} {base : Nat} {ok : Nat → Prop} {v : Value} {xs : List α} (h : IsS69 w0 W g f0 f1) (ho : d.S e W base ok v xs) (ht : e ≠ 69) : some g ≠ v.ownBlock:=by
 obtain ⟨A0,c0,hb,hg,hr0⟩:=h
 exact Kd.S_ne ho hb ht
theorem IsS69.lt {w0 W : World} {g : Nat} {f0 : List Int} {f1 : Int} (h : IsS69 w0 W g f0 f1) : g < W.heap.size:=by
 obtain ⟨A0,c0,hb,hg,hr0⟩:=h
 exact blk_lt hb
theorem IsS69.ge {w0 W : World} {g : Nat} {f0 : List Int} {f1 : Int} (h : IsS69 w0 W g f0 f1) : w0.heap.size ≤ g:=by
 obtain ⟨A0,c0,hb,hg,hr0⟩:=h
 exact hg
theorem IsS69.ne_blk {w0 W : World} {g : Nat} {f0 : List Int} {f1 : Int} {a : Nat} {cs : Array Value} {t : TypeId} {fr : Nat × Nat} (h : IsS69 w0 W g f0 f1) (hb2 : W.heap[a]? = some (.cells cs t fr)) (ht : t ≠ 69) : g ≠ a:=by
 obtain ⟨A0,c0,hb,hg,hr0⟩:=h
 rintro rfl
 rw [hb] at hb2
 injection hb2 with hb2
 injection hb2 with _ ht2
 exact ht ht2.symm
theorem IsS69.far {w0 W : World} {g : Nat} {f0 : List Int} {f1 : Int} {p : Addr} (h : IsS69 w0 W g f0 f1) (hne : g ≠ p.block) (u : Value) : IsS69 w0 (W.setCell p u) g f0 f1:=by
 obtain ⟨A0,c0,hb,hg,hr0⟩:=h
 exact ⟨A0,c0,blk_far hb hne u,hg,hr0⟩
theorem cellS69_0 {W : World} {g : Nat} {A0 : Option Addr} {c0 : Nat} {f0 : List Int} {f1 : Int} (h : W.heap[g]? = some (.cells #[.slice A0 f0.length c0,.int .i64 f1] 69 (0,0))) : W.cell? ⟨g,0,none⟩ = some (.slice A0 f0.length c0):=(blk_cell h 0).trans rfl
theorem cellS69_1 {W : World} {g : Nat} {A0 : Option Addr} {c0 : Nat} {f0 : List Int} {f1 : Int} (h : W.heap[g]? = some (.cells #[.slice A0 f0.length c0,.int .i64 f1] 69 (0,0))) : W.cell? ⟨g,1,none⟩ = some (.int .i64 f1):=(blk_cell h 1).trans rfl
theorem IsS69.set_1 {w0 W : World} {g : Nat} {f0 : List Int} {f1 : Int} (h : IsS69 w0 W g f0 f1) (x : Int) : IsS69 w0 (W.setCell ⟨g,1,none⟩ (.int .i64 x)) g f0 x:=by
 obtain ⟨A0,c0,hb,hg,hr0⟩:=h
 exact ⟨A0,c0,by simpa using blk_set hb 1 (.int .i64 x),hg,hr0⟩
theorem IsS69.new (w0 W : World) (A0 : Option Addr) (c0 : Nat) (f0 : List Int) (f1 : Int) (hB : Below w0.heap.size w0 W) (hr0 : Kd.C (Kd.int .u8) w0 A0 f0.length f0) : IsS69 w0 (W.alloc (.cells #[.slice A0 f0.length c0,.int .i64 f1] 69)) W.heap.size f0 f1:=⟨A0,c0,by simpa using heap_alloc_new W _,hB.size,hr0⟩

/-! ### spec_l6Open: function 33 -/
def spec_l6Open.f (l0 : List Int) : Option (List Int × Int):=if (l0.length : Int) > 2000 then (if 2000 ≤ (l0.length : Int) then (some (l0.take 2000,0)) else (none)) else (some (l0,0))
set_option maxHeartbeats 8000000 in
set_option maxRecDepth 100000 in
theorem spec_l6Open.calls (A0 : Option Addr) (c0 : Nat) (l0 : List Int) (r1 : List Int) (r2 : Int) (w0 w : World) (hB : Below w0.heap.size w0 w) (hr0 : Kd.C (Kd.int .u8) w0 A0 l0.length l0) (hc0 : l0.length ≤ c0) (h : spec_l6Open.f l0 = some (r1,r2)) :
  Calls Try.prog 33 #[.slice A0 l0.length c0] w fun e w' => ∃ g_ : Nat,e = .returned (.pointer (some ⟨g_,0,none⟩)) ∧ IsS69 w0 w' g_ r1 r2 ∧ Below w0.heap.size w0 w' ∧ Below w.heap.size w w':=by
 have hu69:=Try.underlying69
 have HR0:=aM hr0
 have HC0:=aM hc0
 clear hr0 hc0
 have HBW:=aM (Below.refl w.heap.size w)
 have HW0:=aM hB.size
 have HB:=aM hB
 clear hB
 have H : (if (l0.length : Int) > 2000 then (if 2000 ≤ (l0.length : Int) then (some (l0.take 2000,0)) else (none)) else (some (l0,0))) = some (r1,r2):=h
 clear h
 by_cases c2 : (l0.length : Int) > 2000
 ·rw [if_pos c2] at H
  have c2b0 : decide (2000 < (l0.length : Int)) = true:=decide_eq_true c2
  have c2b1 : decide (2000 < l0.length) = true:=decide_eq_true (by omega)
  clear c2
  by_cases c3 : 2000 ≤ (l0.length : Int)
  case neg => rw [if_neg c3] at H;exact absurd H (by simp)
  rw [if_pos c3] at H
  have c3b0:=eq_true c3
  have c3b1 : decide (2000 ≤ (l0.length : Int)) = true:=decide_eq_true c3
  clear c3
  simp only [Option.some.injEq,Prod.mk.injEq] at H
  obtain ⟨rfl,rfl⟩:=H
  obtain ⟨i04,hi04,_,hsz4,_⟩:=info_parts info5
  obtain ⟨hcut4,hA4,hC4⟩:=print_take_of (P:=Try.prog) (Value.int .u8) 0 27 5 .i64 Try.underlying27 hi04 hsz4 A0 c0 l0 2000 (by omega) (of_decide_eq_true (by first|(with_reducible assumption)|assumption)) HC0.out
  have HR107:=aM (Kd.C_of_reads (h1:=fun _ => rfl) (hA4 _ (Kd.reads_of_C HR0.out)))
  have HC107:=aM hC4
  clear hA4 hC4 hi04 hsz4
  go_enter Try.func33,Try.ntmps33
  go_wp2_with (first|((with_reducible refine gate_dst (N:=10) rfl ?_);refine box_event ?hg (N:=10) ?hd (cs:=#[.slice A0 (l0.take 2000).length c0,.int .i64 0]) (t:=69) ?hr ?_;(case hd => rfl);(case hg => rfl);(case hr => first|(go_simp;done)|(go_simp;rfl));intro gb108 hg w5 hbox hb;have n0_:=aM (below_step HBW.out hb);have n1_:=aM (below_step (by repeat (first|(with_reducible first|exact HB.out|apply bA|apply bN|apply bD)|exact HB.out)) hb);have n2_:=aM (hbox);have n3_:=aM ((by rw [hg];exact (below_size (by repeat (first|(with_reducible first|exact HBW.out|apply bA|apply bN|apply bD)|exact HBW.out))) : w.heap.size ≤ gb108));have n4_:=aM ((Nat.le_trans HW0.out (by rw [hg];exact (below_size (by repeat (first|(with_reducible first|exact HBW.out|apply bA|apply bN|apply bD)|exact HBW.out))) : w.heap.size ≤ gb108) : w0.heap.size ≤ gb108));clear HBW;clear HB;have HBW:=n0_;have HB:=n1_;have BK108:=n2_;have GW108:=n3_;have GE108:=n4_;clear n0_ n1_ n2_ n3_ n4_;clear hb hbox hg))
  go_ret
  exact ⟨_,rfl,(show IsS69 w0 _ gb108 (l0.take 2000) 0 from ⟨_,_,by (with_reducible repeat (first|refine blk_drewN ?_ _|refine blk_drew ?_|refine blk_alloc ?_ _));exact BK108.out,GE108.out,HR107.out⟩),by repeat (first|(with_reducible first|exact HB.out|apply bA|apply bN|apply bD|refine below_set ?_ GE108.out)|exact HB.out),by repeat (first|(with_reducible first|exact HBW.out|apply bA|apply bN|apply bD|refine below_set ?_ GW108.out)|exact HBW.out)⟩
 ·rw [if_neg c2] at H
  have c2b0 : decide (2000 < (l0.length : Int)) = false:=decide_eq_false c2
  have c2b1 : decide (2000 < l0.length) = false:=decide_eq_false (by omega)
  clear c2
  simp only [Option.some.injEq,Prod.mk.injEq] at H
  obtain ⟨rfl,rfl⟩:=H
  go_enter Try.func33,Try.ntmps33
  go_wp2_with (first|((with_reducible refine gate_dst (N:=10) rfl ?_);refine box_event ?hg (N:=10) ?hd (cs:=#[.slice A0 l0.length c0,.int .i64 0]) (t:=69) ?hr ?_;(case hd => rfl);(case hg => rfl);(case hr => first|(go_simp;done)|(go_simp;rfl));intro gb109 hg w6 hbox hb;have n0_:=aM (below_step HBW.out hb);have n1_:=aM (below_step (by repeat (first|(with_reducible first|exact HB.out|apply bA|apply bN|apply bD)|exact HB.out)) hb);have n2_:=aM (hbox);have n3_:=aM ((by rw [hg];exact (below_size (by repeat (first|(with_reducible first|exact HBW.out|apply bA|apply bN|apply bD)|exact HBW.out))) : w.heap.size ≤ gb109));have n4_:=aM ((Nat.le_trans HW0.out (by rw [hg];exact (below_size (by repeat (first|(with_reducible first|exact HBW.out|apply bA|apply bN|apply bD)|exact HBW.out))) : w.heap.size ≤ gb109) : w0.heap.size ≤ gb109));clear HBW;clear HB;have HBW:=n0_;have HB:=n1_;have BK109:=n2_;have GW109:=n3_;have GE109:=n4_;clear n0_ n1_ n2_ n3_ n4_;clear hb hbox hg))
  go_ret
  exact ⟨_,rfl,(show IsS69 w0 _ gb109 l0 0 from ⟨_,_,by (with_reducible repeat (first|refine blk_drewN ?_ _|refine blk_drew ?_|refine blk_alloc ?_ _));exact BK109.out,GE109.out,HR0.out⟩),by repeat (first|(with_reducible first|exact HB.out|apply bA|apply bN|apply bD|refine below_set ?_ GE109.out)|exact HB.out),by repeat (first|(with_reducible first|exact HBW.out|apply bA|apply bN|apply bD|refine below_set ?_ GW109.out)|exact HBW.out)⟩

end Go.Proofs.Ytkkfokcbbhnjeaa.P
