/- The printed functions: what each Go function computes, as a Lean function, and that the Go code comes to just that. Conditions: none beyond each contract's own. -/
import Derived.Test.YtaccamnoacdiiaaPx0
import Derived.Test.YtaccamnoacdiiaaPx2
import Derived.Test.YtaccamnoacdiiaaPx3
import Derived.Test.YtaccamnoacdiiaaPx7
import Derived.Test.YtaccamnoacdiiaaPx8
import Derived.Test.YtaccamnoacdiiaaPx10
namespace Go.Proofs.Ytaccamnoacdiiaa.P
open Go.RowKit Go.Proofs.YtaccamnoacdiiaaW.PrintWords Go.Proofs.YtaccamnoacdiiaaW.PrintLast Go.Proofs.YtaccamnoacdiiaaW.PrintMore
attribute [local go_sem] max2_int min2_int max_two min_two max_three min_three max_four min_four   -- for this text's walks alone
set_option linter.unusedVariables false
set_option linter.unusedSimpArgs false

/-! ### impl_Vote_49: function 49 -/
def impl_Vote_49.litf (a0_0 : Int) (l0_1 : List (S65)) (a1_0 : Int) (a1_1 : Int) (a1_2 : Int) : Option (Bool):=if a0_0 = a1_0 then ((impl_Vote_last.f a0_0 l0_1).bind fun t110 => (some (decide (t110 > a1_2)))) else (some false)
def impl_Vote_49.litT1 : Bool × List (List Nat × List Nat):=(true,[([],[]),([0],[0]),([],[]),([2],[2]),([1,3],[1,3]),([4],[4]),([5],[5]),([6,5,5],[5,6]),([5],[5]),([8,5],[5,8]),([7,9,5],[5,7,9]),([5,10],[5,10]),([11,7,0,1,2,3,4,5,6,7,8,9,10,11],[11])])
def impl_Vote_49.litB1 : List Nat:=[0,1,0,4,15,31,63,127,63,319,1023,2047,4095]
theorem impl_Vote_49.littab : rtab .any (opsOf Try.f50 1) = impl_Vote_49.litT1:=by kernel_rfl
theorem impl_Vote_49.litbits : waitsOk impl_Vote_49.litT1.2 impl_Vote_49.litB1 = true:=by kernel_rfl
set_option maxHeartbeats 8000000 in
set_option maxRecDepth 100000 in
theorem impl_Vote_49.lit (a0_0 : Int) (A0_1 : Option Addr) (c0_1 : Nat) (l0_1 : List (S65)) (a1_0 : Int) (a1_1 : Int) (a1_2 : Int) (v1_3_ : Value) (r : Bool) (w : World) (gb108 : Nat) (hbk_ : w.heap[gb108]? = some (.cells #[.int .i64 a1_0,.int .i64 a1_1,.int .i64 a1_2,v1_3_] 39 (0,0))) (hr0_1 : Kd.C k65 w A0_1 l0_1.length l0_1) (hc0_1 : l0_1.length ≤ c0_1) (h : impl_Vote_49.litf a0_0 l0_1 a1_0 a1_1 a1_2 = some r) :
  Calls Try.prog 50 #[.agg #[.int .i64 a0_0,.slice A0_1 l0_1.length c0_1],.pointer (some ⟨gb108,0,none⟩)] w fun e w' => e = .returned (.bool r) ∧ Below w.heap.size w w':=by
 have hu39:=Try.underlying39
 have hu25:=Try.underlying25
 have HR0_1:=aM hr0_1
 have HC0_1:=aM hc0_1
 clear hr0_1 hc0_1
 have HB:=aM (Below.refl w.heap.size w)
 have BK108:=aM hbk_
 clear hbk_
 have H : (if a0_0 = a1_0 then ((impl_Vote_last.f a0_0 l0_1).bind fun t110 => (some (decide (t110 > a1_2)))) else (some false)) = some r:=h
 clear h
 by_cases c3 : a0_0 = a1_0
 ·rw [if_pos c3] at H
  have c3b0 : (a0_0 == a1_0) = true:=beq_iff_eq.mpr c3
  have c3b1 : (a0_0 != a1_0) = false:=bne_eq_false_iff_eq.mpr c3
  clear c3
  replace H:=Option.bind_eq_some_iff.mp H
  obtain ⟨t110,A40,H⟩:=H
  replace H : (some (decide (t110 > a1_2))) = some r:=H
  have A4:=aM A40
  clear A40
  obtain rfl:=Option.some.inj H
  go_enter Try.func50,Try.ntmps50
  try go_wp2_with (first|((with_reducible refine gate_dst (N:=2) rfl ?_);refine box_event ?hg (N:=2) ?hd (cs:=#[.int .i64 a0_0,.slice A0_1 l0_1.length c0_1]) (t:=25) ?hr ?_;(case hd => rfl);(case hg => rfl);(case hr => first|(go_simp;done)|(go_simp;rfl));intro gb109 hg w6 hbox hb;have n0_:=aM (blk_below (g:=gb108) (o:=.cells #[.int .i64 a1_0,.int .i64 a1_1,.int .i64 a1_2,v1_3_] 39 (0,0)) (by (with_reducible repeat (first|refine blk_drewN ?_ _|refine blk_drew ?_|refine blk_alloc ?_ _));exact BK108.out) hb);have n1_:=aM (below_step (by repeat (first|(with_reducible first|exact HB.out|apply bA|apply bN|apply bD)|exact HB.out)) hb);have n2_:=aM (hbox);have n3_:=aM ((by rw [hg];exact (below_size (by repeat (first|(with_reducible first|exact HB.out|apply bA|apply bN|apply bD)|exact HB.out))) : w.heap.size ≤ gb109));have n4_:=aM ((by rw [hg];exact (below_size (by repeat (first|(with_reducible first|exact HB.out|apply bA|apply bN|apply bD)|exact HB.out))) : w.heap.size ≤ gb109));have n5_:=aM ((by rw [hg];exact Nat.ne_of_lt (blk_lt (g:=gb108) (o:=.cells #[.int .i64 a1_0,.int .i64 a1_1,.int .i64 a1_2,v1_3_] 39 (0,0)) (by (with_reducible repeat (first|refine blk_drewN ?_ _|refine blk_drew ?_|refine blk_alloc ?_ _));exact BK108.out)) : gb108 ≠ gb109));have n6_:=aM ((by rw [hg];exact Nat.ne_of_gt (blk_lt (g:=gb108) (o:=.cells #[.int .i64 a1_0,.int .i64 a1_1,.int .i64 a1_2,v1_3_] 39 (0,0)) (by (with_reducible repeat (first|refine blk_drewN ?_ _|refine blk_drew ?_|refine blk_alloc ?_ _));exact BK108.out)) : gb109 ≠ gb108));clear BK108;clear HB;have BK108:=n0_;have HB:=n1_;have BK109:=n2_;have GW109:=n3_;have GE109:=n4_;have NB108_109:=n5_;have NB109_108:=n6_;clear n0_ n1_ n2_ n3_ n4_ n5_ n6_;clear hb hbox hg))
  have n0_:=aM (blk_drew BK108.out)
  have n1_:=aM (blk_drew BK109.out)
  have n2_:=aM (bD HB.out)
  clear BK108
  clear BK109
  clear HB
  have BK108:=n0_
  have BK109:=n1_
  have HB:=n2_
  clear n0_ n1_ n2_
  refine start_ (n:=13) (S:=fun w' => w'.cell? ⟨gb109,0,none⟩ = some (.int .i64 a0_0) ∧ w'.cell? ⟨gb109,1,none⟩ = some (.slice A0_1 l0_1.length c0_1) ∧ w'.cell? ⟨gb108,0,none⟩ = some (.int .i64 a1_0) ∧ w'.cell? ⟨gb108,1,none⟩ = some (.int .i64 a1_1) ∧ w'.cell? ⟨gb108,2,none⟩ = some (.int .i64 a1_2) ∧ w'.cell? ⟨gb108,3,none⟩ = some (v1_3_)) (ds:=[]) #[bF,bF,bF,bF,bF,bF,bF,bF,bF,bF,bF,bF,bF] (by kernel_rfl) rfl rfl ⟨(blk_cell BK109.out 0).trans rfl,(blk_cell BK109.out 1).trans rfl,(blk_cell BK108.out 0).trans rfl,(blk_cell BK108.out 1).trans rfl,(blk_cell BK108.out 2).trans rfl,(blk_cell BK108.out 3).trans rfl⟩ (fun hHeld => ?_);refine with_tabW impl_Vote_49.littab impl_Vote_49.litbits (fun HT_ HW_ => ?_)
  generalize w6.drew = w7 at BK108 BK109 HB hHeld ⊢
  refine pure_ (i:=0) (N:=some 4) (v:=?_) (a':=?_) #[bT,bF,bF,bF,bF,bF,bF,bF,bF,bF,bF,bF,bF] rfl rfl (any_of HT_.out (by kernel_rfl)) (fun _ _ _ h => h) (Or.inl ⟨by rfl,?_⟩) ?_ ?_
  rotate_left;(· intro w';go_simp;with_reducible rfl);rotate_left;(· simp only [Act.put,sI,sZ,sS,i64_w,i32_w];rfl)
  refine pure_ (i:=2) (N:=some 6) (v:=?_) (a':=?_) #[bT,bF,bT,bF,bF,bF,bF,bF,bF,bF,bF,bF,bF] rfl rfl (any_of HT_.out (by kernel_rfl)) (fun _ _ _ h => h) (Or.inl ⟨by rfl,?_⟩) ?_ ?_
  rotate_left;(· intro w';go_simp;with_reducible rfl);rotate_left;(· simp only [Act.put,sI,sZ,sS,i64_w,i32_w];rfl)
  refine take_ (i:=1) (N:=some 5) (v:=?_) (a':=?_) #[bT,bT,bT,bF,bF,bF,bF,bF,bF,bF,bF,bF,bF] rfl rfl (take_ofW HT_.out HW_.out (by kernel_rfl)) (fun _ _ _ h => h) (Or.inl ⟨by rfl,?_⟩) hHeld ?_ ?_
  rotate_left
  ·rintro w' ⟨s0,s1,s2,s3,s4,s5⟩
   (try simp only [Int.toNat_natCast] at s0 s1 s2 s3 s4 s5)
   (try simp only [Int.toNat_natCast] at s0 s1 s2 s3 s4 s5)
   go_simp
   with_reducible rfl
  rotate_left
  ·simp only [Act.put,sI,sZ,sS,i64_w,i32_w]
   rfl
  refine take_ (i:=3) (N:=some 7) (v:=?_) (a':=?_) #[bT,bT,bT,bT,bF,bF,bF,bF,bF,bF,bF,bF,bF] rfl rfl (take_ofW HT_.out HW_.out (by kernel_rfl)) (fun _ _ _ h => h) (Or.inl ⟨by rfl,?_⟩) hHeld ?_ ?_
  rotate_left
  ·rintro w' ⟨s0,s1,s2,s3,s4,s5⟩
   (try simp only [Int.toNat_natCast] at s0 s1 s2 s3 s4 s5)
   (try simp only [Int.toNat_natCast] at s0 s1 s2 s3 s4 s5)
   go_simp
   with_reducible rfl
  rotate_left
  ·simp only [Act.put,sI,sZ,sS,i64_w,i32_w]
   rfl
  refine pure_ (i:=4) (N:=some 8) (v:=?_) (a':=?_) #[bT,bT,bT,bT,bT,bF,bF,bF,bF,bF,bF,bF,bF] rfl rfl (any_of HT_.out (by kernel_rfl)) (fun _ _ _ h => h) (Or.inl ⟨by rfl,?_⟩) ?_ ?_
  rotate_left;(· intro w';go_simp;with_reducible rfl);rotate_left;(· simp only [Act.put,sI,sZ,sS,i64_w,i32_w];rfl)
  refine pure_ (i:=5) (N:=some 9) (v:=?_) (a':=?_) #[bT,bT,bT,bT,bT,bT,bF,bF,bF,bF,bF,bF,bF] rfl rfl (any_of HT_.out (by kernel_rfl)) (fun _ _ _ h => h) (Or.inl ⟨by rfl,?_⟩) ?_ ?_
  rotate_left;(· intro w';go_simp;with_reducible rfl);rotate_left;(· simp only [Act.put,sI,sZ,sS,i64_w,i32_w];rfl)
  refine pure_ (i:=8) (N:=some 12) (v:=?_) (a':=?_) #[bT,bT,bT,bT,bT,bT,bF,bF,bT,bF,bF,bF,bF] rfl rfl (any_of HT_.out (by kernel_rfl)) (fun _ _ _ h => h) (Or.inl ⟨by rfl,?_⟩) ?_ ?_
  rotate_left;(· intro w';go_simp;with_reducible rfl);rotate_left;(· simp only [Act.put,sI,sZ,sS,i64_w,i32_w];rfl)
  refine take_ (i:=6) (N:=some 10) (v:=?_) (a':=?_) #[bT,bT,bT,bT,bT,bT,bT,bF,bT,bF,bF,bF,bF] rfl rfl (take_ofW HT_.out HW_.out (by kernel_rfl)) (fun _ _ _ h => h) (Or.inl ⟨by rfl,?_⟩) hHeld ?_ ?_
  rotate_left
  ·rintro w' ⟨s0,s1,s2,s3,s4,s5⟩
   (try simp only [Int.toNat_natCast] at s0 s1 s2 s3 s4 s5)
   (try simp only [Int.toNat_natCast] at s0 s1 s2 s3 s4 s5)
   go_simp
   with_reducible rfl
  rotate_left
  ·simp only [Act.put,sI,sZ,sS,i64_w,i32_w]
   rfl
  refine take_ (i:=9) (N:=some 13) (v:=?_) (a':=?_) #[bT,bT,bT,bT,bT,bT,bT,bF,bT,bT,bF,bF,bF] rfl rfl (take_ofW HT_.out HW_.out (by kernel_rfl)) (fun _ _ _ h => h) (Or.inl ⟨by rfl,?_⟩) hHeld ?_ ?_
  rotate_left
  ·rintro w' ⟨s0,s1,s2,s3,s4,s5⟩
   (try simp only [Int.toNat_natCast] at s0 s1 s2 s3 s4 s5)
   (try simp only [Int.toNat_natCast] at s0 s1 s2 s3 s4 s5)
   go_simp
   with_reducible rfl
  rotate_left
  ·simp only [Act.put,sI,sZ,sS,i64_w,i32_w]
   rfl
  refine one_ (i:=7) (N:=some 11) #[bT,bT,bT,bT,bT,bT,bT,bT,bT,bT,bF,bF,bF] rfl rfl (one_of HT_.out (by kernel_rfl)) (by decide) (fun K hK => ?_)
  refine goes_ Try.func51 (by kernel_rfl) rfl #[.agg #[.int .i64 a0_0,.slice A0_1 l0_1.length c0_1]] (by rfl) rfl rfl (by (try simp only [List.map_toArray,List.map_cons,List.map_nil]);first|done|rfl|(simp only [List.length_drop,List.length_take];rfl)) ?_
  with_reducible refine (impl_Vote_last.calls a0_0 _ _ l0_1 t110 _ ?side1 ?side2 A4.out).mono ?_
  (case side1 => repeat (first|exact (Kd.C_below HR0_1.out HB.out)|(with_reducible refine Kd.C_alloc ?_ _)|(with_reducible refine Kd.C_drewN ?_ _)|(with_reducible refine Kd.C_drew ?_)))
  (case side2 => exact HC0_1.out)
  rintro e w8 ⟨rfl,hb⟩
  refine ⟨_,rfl,?_⟩
  have n0_:=aM (blk_below (g:=gb108) (o:=.cells #[.int .i64 a1_0,.int .i64 a1_1,.int .i64 a1_2,v1_3_] 39 (0,0)) (by (with_reducible repeat (first|refine blk_drewN ?_ _|refine blk_drew ?_|refine blk_alloc ?_ _));exact BK108.out) hb)
  have n1_:=aM (blk_below (g:=gb109) (o:=.cells #[.int .i64 a0_0,.slice A0_1 l0_1.length c0_1] 25 (0,0)) (by (with_reducible repeat (first|refine blk_drewN ?_ _|refine blk_drew ?_|refine blk_alloc ?_ _));exact BK109.out) hb)
  have n2_:=aM (below_step (by repeat (first|(with_reducible first|exact HB.out|apply bA|apply bN|apply bD|refine below_set ?_ GE109.out)|exact HB.out)) hb)
  clear BK108
  clear BK109
  clear HB
  have BK108:=n0_
  have BK109:=n1_
  have HB:=n2_
  clear n0_ n1_ n2_
  (try clear hb)
  (try clear hb2)
  (try clear hk)
  (try clear hi)
  refine hK.out _ _ ⟨(blk_cell BK109.out 0).trans rfl,(blk_cell BK109.out 1).trans rfl,(blk_cell BK108.out 0).trans rfl,(blk_cell BK108.out 1).trans rfl,(blk_cell BK108.out 2).trans rfl,(blk_cell BK108.out 3).trans rfl⟩ (fun hHeld => ?_)
  clear hK K
  refine norm_ (a':=?_) ?_ ?_
  rotate_left
  ·show Act.put _ (some 11) _ = _
   simp only [Act.put,sI,sZ,sS,i64_w,i32_w]
   rfl
  refine pure_ (i:=10) (N:=some 14) (v:=?_) (a':=?_) #[bT,bT,bT,bT,bT,bT,bT,bT,bT,bT,bT,bF,bF] rfl rfl (any_of HT_.out (by kernel_rfl)) (fun _ _ _ h => h) (Or.inl ⟨by rfl,?_⟩) ?_ ?_
  rotate_left;(· intro w';go_simp;with_reducible rfl);rotate_left;(· simp only [Act.put,sI,sZ,sS,i64_w,i32_w];rfl)
  refine pure_ (i:=11) (N:=some 15) (v:=?_) (a':=?_) #[bT,bT,bT,bT,bT,bT,bT,bT,bT,bT,bT,bT,bF] rfl rfl (any_of HT_.out (by kernel_rfl)) (fun _ _ _ h => h) (Or.inl ⟨by rfl,?_⟩) ?_ ?_
  rotate_left;(· intro w';go_simp;with_reducible rfl);rotate_left;(· simp only [Act.put,sI,sZ,sS,i64_w,i32_w];rfl)
  refine pure_ (i:=12) (N:=some 3) (v:=?_) (a':=?_) #[bT,bT,bT,bT,bT,bT,bT,bT,bT,bT,bT,bT,bT] rfl rfl (any_of HT_.out (by kernel_rfl)) (fun _ _ _ h => h) (Or.inl ⟨by rfl,?_⟩) ?_ ?_
  rotate_left;(· intro w';go_simp;with_reducible rfl);rotate_left;(· simp only [Act.put,sI,sZ,sS,i64_w,i32_w];rfl)
  refine done_ (done_of HT_.out (by kernel_rfl)) ?_
  try go_wp2
  go_ret
  exact ⟨by first|rfl|(simp only [i64_w,i32_w];done)|(simp only [i64_w,i32_w];rfl)|(simp [errW_none,errW_some] <;> rfl)|(simp [*,errW_none,errW_some] <;> rfl),by repeat (first|(with_reducible first|exact HB.out|apply bA|apply bN|apply bD|refine below_set ?_ GE109.out)|exact HB.out)⟩
 ·rw [if_neg c3] at H
  have c3b0 : (a0_0 == a1_0) = false:=beq_eq_false_iff_ne.mpr c3
  have c3b1 : (a0_0 != a1_0) = true:=bne_iff_ne.mpr c3
  obtain rfl:=Option.some.inj H
  go_enter Try.func50,Try.ntmps50
  try go_wp2_with (first|((with_reducible refine gate_dst (N:=2) rfl ?_);refine box_event ?hg (N:=2) ?hd (cs:=#[.int .i64 a0_0,.slice A0_1 l0_1.length c0_1]) (t:=25) ?hr ?_;(case hd => rfl);(case hg => rfl);(case hr => first|(go_simp;done)|(go_simp;rfl));intro gb109 hg w10 hbox hb;have n0_:=aM (blk_below (g:=gb108) (o:=.cells #[.int .i64 a1_0,.int .i64 a1_1,.int .i64 a1_2,v1_3_] 39 (0,0)) (by (with_reducible repeat (first|refine blk_drewN ?_ _|refine blk_drew ?_|refine blk_alloc ?_ _));exact BK108.out) hb);have n1_:=aM (below_step (by repeat (first|(with_reducible first|exact HB.out|apply bA|apply bN|apply bD)|exact HB.out)) hb);have n2_:=aM (hbox);have n3_:=aM ((by rw [hg];exact (below_size (by repeat (first|(with_reducible first|exact HB.out|apply bA|apply bN|apply bD)|exact HB.out))) : w.heap.size ≤ gb109));have n4_:=aM ((by rw [hg];exact (below_size (by repeat (first|(with_reducible first|exact HB.out|apply bA|apply bN|apply bD)|exact HB.out))) : w.heap.size ≤ gb109));have n5_:=aM ((by rw [hg];exact Nat.ne_of_lt (blk_lt (g:=gb108) (o:=.cells #[.int .i64 a1_0,.int .i64 a1_1,.int .i64 a1_2,v1_3_] 39 (0,0)) (by (with_reducible repeat (first|refine blk_drewN ?_ _|refine blk_drew ?_|refine blk_alloc ?_ _));exact BK108.out)) : gb108 ≠ gb109));have n6_:=aM ((by rw [hg];exact Nat.ne_of_gt (blk_lt (g:=gb108) (o:=.cells #[.int .i64 a1_0,.int .i64 a1_1,.int .i64 a1_2,v1_3_] 39 (0,0)) (by (with_reducible repeat (first|refine blk_drewN ?_ _|refine blk_drew ?_|refine blk_alloc ?_ _));exact BK108.out)) : gb109 ≠ gb108));clear BK108;clear HB;have BK108:=n0_;have HB:=n1_;have BK109:=n2_;have GW109:=n3_;have GE109:=n4_;have NB108_109:=n5_;have NB109_108:=n6_;clear n0_ n1_ n2_ n3_ n4_ n5_ n6_;clear hb hbox hg))
  have n0_:=aM (blk_drew BK108.out)
  have n1_:=aM (blk_drew BK109.out)
  have n2_:=aM (bD HB.out)
  clear BK108
  clear BK109
  clear HB
  have BK108:=n0_
  have BK109:=n1_
  have HB:=n2_
  clear n0_ n1_ n2_
  refine start_ (n:=13) (S:=fun w' => w'.cell? ⟨gb109,0,none⟩ = some (.int .i64 a0_0) ∧ w'.cell? ⟨gb109,1,none⟩ = some (.slice A0_1 l0_1.length c0_1) ∧ w'.cell? ⟨gb108,0,none⟩ = some (.int .i64 a1_0) ∧ w'.cell? ⟨gb108,1,none⟩ = some (.int .i64 a1_1) ∧ w'.cell? ⟨gb108,2,none⟩ = some (.int .i64 a1_2) ∧ w'.cell? ⟨gb108,3,none⟩ = some (v1_3_)) (ds:=[]) #[bF,bF,bF,bF,bF,bF,bF,bF,bF,bF,bF,bF,bF] (by kernel_rfl) rfl rfl ⟨(blk_cell BK109.out 0).trans rfl,(blk_cell BK109.out 1).trans rfl,(blk_cell BK108.out 0).trans rfl,(blk_cell BK108.out 1).trans rfl,(blk_cell BK108.out 2).trans rfl,(blk_cell BK108.out 3).trans rfl⟩ (fun hHeld => ?_);refine with_tabW impl_Vote_49.littab impl_Vote_49.litbits (fun HT_ HW_ => ?_)
  generalize w10.drew = w11 at BK108 BK109 HB hHeld ⊢
  refine pure_ (i:=0) (N:=some 4) (v:=?_) (a':=?_) #[bT,bF,bF,bF,bF,bF,bF,bF,bF,bF,bF,bF,bF] rfl rfl (any_of HT_.out (by kernel_rfl)) (fun _ _ _ h => h) (Or.inl ⟨by rfl,?_⟩) ?_ ?_
  rotate_left;(· intro w';go_simp;with_reducible rfl);rotate_left;(· simp only [Act.put,sI,sZ,sS,i64_w,i32_w];rfl)
  refine pure_ (i:=2) (N:=some 6) (v:=?_) (a':=?_) #[bT,bF,bT,bF,bF,bF,bF,bF,bF,bF,bF,bF,bF] rfl rfl (any_of HT_.out (by kernel_rfl)) (fun _ _ _ h => h) (Or.inl ⟨by rfl,?_⟩) ?_ ?_
  rotate_left;(· intro w';go_simp;with_reducible rfl);rotate_left;(· simp only [Act.put,sI,sZ,sS,i64_w,i32_w];rfl)
  refine take_ (i:=1) (N:=some 5) (v:=?_) (a':=?_) #[bT,bT,bT,bF,bF,bF,bF,bF,bF,bF,bF,bF,bF] rfl rfl (take_ofW HT_.out HW_.out (by kernel_rfl)) (fun _ _ _ h => h) (Or.inl ⟨by rfl,?_⟩) hHeld ?_ ?_
  rotate_left
  ·rintro w' ⟨s0,s1,s2,s3,s4,s5⟩
   (try simp only [Int.toNat_natCast] at s0 s1 s2 s3 s4 s5)
   (try simp only [Int.toNat_natCast] at s0 s1 s2 s3 s4 s5)
   go_simp
   with_reducible rfl
  rotate_left
  ·simp only [Act.put,sI,sZ,sS,i64_w,i32_w]
   rfl
  refine take_ (i:=3) (N:=some 7) (v:=?_) (a':=?_) #[bT,bT,bT,bT,bF,bF,bF,bF,bF,bF,bF,bF,bF] rfl rfl (take_ofW HT_.out HW_.out (by kernel_rfl)) (fun _ _ _ h => h) (Or.inl ⟨by rfl,?_⟩) hHeld ?_ ?_
  rotate_left
  ·rintro w' ⟨s0,s1,s2,s3,s4,s5⟩
   (try simp only [Int.toNat_natCast] at s0 s1 s2 s3 s4 s5)
   (try simp only [Int.toNat_natCast] at s0 s1 s2 s3 s4 s5)
   go_simp
   with_reducible rfl
  rotate_left
  ·simp only [Act.put,sI,sZ,sS,i64_w,i32_w]
   rfl
  refine pure_ (i:=4) (N:=some 8) (v:=?_) (a':=?_) #[bT,bT,bT,bT,bT,bF,bF,bF,bF,bF,bF,bF,bF] rfl rfl (any_of HT_.out (by kernel_rfl)) (fun _ _ _ h => h) (Or.inl ⟨by rfl,?_⟩) ?_ ?_
  rotate_left;(· intro w';go_simp;with_reducible rfl);rotate_left;(· simp only [Act.put,sI,sZ,sS,i64_w,i32_w];rfl)
  refine pure_ (i:=5) (N:=some 9) (v:=?_) (a':=?_) #[bT,bT,bT,bT,bT,bT,bF,bF,bF,bF,bF,bF,bF] rfl rfl (any_of HT_.out (by kernel_rfl)) (fun _ _ _ h => h) (Or.inl ⟨by rfl,?_⟩) ?_ ?_
  rotate_left;(· intro w';go_simp;with_reducible rfl);rotate_left;(· simp only [Act.put,sI,sZ,sS,i64_w,i32_w];rfl)
  refine pure_ (i:=6) (N:=some 10) (v:=undef) (a':=?_) #[bT,bT,bT,bT,bT,bT,bT,bF,bF,bF,bF,bF,bF] rfl rfl (any_of HT_.out (by kernel_rfl)) (fun _ _ _ h => h) (Or.inr ⟨by rfl,rfl⟩) ?_ ?_
  rotate_left
  ·simp only [Act.put,sI,sZ,sS,i64_w,i32_w]
   rfl
  refine pure_ (i:=7) (N:=some 11) (v:=undef) (a':=?_) #[bT,bT,bT,bT,bT,bT,bT,bT,bF,bF,bF,bF,bF] rfl rfl (any_of HT_.out (by kernel_rfl)) (fun _ _ _ h => h) (Or.inr ⟨by rfl,rfl⟩) ?_ ?_
  rotate_left
  ·simp only [Act.put,sI,sZ,sS,i64_w,i32_w]
   rfl
  refine pure_ (i:=8) (N:=some 12) (v:=undef) (a':=?_) #[bT,bT,bT,bT,bT,bT,bT,bT,bT,bF,bF,bF,bF] rfl rfl (any_of HT_.out (by kernel_rfl)) (fun _ _ _ h => h) (Or.inr ⟨by rfl,rfl⟩) ?_ ?_
  rotate_left
  ·simp only [Act.put,sI,sZ,sS,i64_w,i32_w]
   rfl
  refine pure_ (i:=9) (N:=some 13) (v:=undef) (a':=?_) #[bT,bT,bT,bT,bT,bT,bT,bT,bT,bT,bF,bF,bF] rfl rfl (any_of HT_.out (by kernel_rfl)) (fun _ _ _ h => h) (Or.inr ⟨by rfl,rfl⟩) ?_ ?_
  rotate_left
  ·simp only [Act.put,sI,sZ,sS,i64_w,i32_w]
   rfl
  refine pure_ (i:=10) (N:=some 14) (v:=undef) (a':=?_) #[bT,bT,bT,bT,bT,bT,bT,bT,bT,bT,bT,bF,bF] rfl rfl (any_of HT_.out (by kernel_rfl)) (fun _ _ _ h => h) (Or.inr ⟨by rfl,rfl⟩) ?_ ?_
  rotate_left
  ·simp only [Act.put,sI,sZ,sS,i64_w,i32_w]
   rfl
  refine pure_ (i:=11) (N:=some 15) (v:=?_) (a':=?_) #[bT,bT,bT,bT,bT,bT,bT,bT,bT,bT,bT,bT,bF] rfl rfl (any_of HT_.out (by kernel_rfl)) (fun _ _ _ h => h) (Or.inl ⟨by rfl,?_⟩) ?_ ?_
  rotate_left;(· intro w';go_simp;with_reducible rfl);rotate_left;(· simp only [Act.put,sI,sZ,sS,i64_w,i32_w];rfl)
  refine pure_ (i:=12) (N:=some 3) (v:=?_) (a':=?_) #[bT,bT,bT,bT,bT,bT,bT,bT,bT,bT,bT,bT,bT] rfl rfl (any_of HT_.out (by kernel_rfl)) (fun _ _ _ h => h) (Or.inl ⟨by rfl,?_⟩) ?_ ?_
  rotate_left;(· intro w';go_simp;with_reducible rfl);rotate_left;(· simp only [Act.put,sI,sZ,sS,i64_w,i32_w];rfl)
  refine done_ (done_of HT_.out (by kernel_rfl)) ?_
  try go_wp2
  go_ret
  exact ⟨by first|rfl|(simp only [i64_w,i32_w];done)|(simp only [i64_w,i32_w];rfl)|(simp [errW_none,errW_some] <;> rfl)|(simp [*,errW_none,errW_some] <;> rfl),by repeat (first|(with_reducible first|exact HB.out|apply bA|apply bN|apply bD|refine below_set ?_ GE109.out)|exact HB.out)⟩
def impl_Vote_49.l0 : Nat → List (S25) → Int → Int → Int → Int → Option (Bool)
 | 0,_,_,_,_,_ => none
 | k + 1,l,a,b,c,x => if x < (l.length : Int) then (if 0 ≤ x then ((impl_Vote_49.litf ((rd_T25 l x).f0) ((rd_T25 l x).f1) a b c).bind fun t => (if t = true then (some true) else (impl_Vote_49.l0 k l a b c (wrap64 (x + 1))))) else (none)) else (some false)
def impl_Vote_49.f (k : Nat) (l0 : List (S25)) (a1_0 : Int) (a1_1 : Int) (a1_2 : Int) (l1_3 : List (S25)) : Option (Bool):=impl_Vote_49.l0 k l0 a1_0 a1_1 a1_2 0
theorem impl_Vote_49.mono_l : ∀ k,∀ y0 y1 y2 y3 y4,LeO (impl_Vote_49.l0 k y0 y1 y2 y3 y4) (impl_Vote_49.l0 (k + 1) y0 y1 y2 y3 y4)
 | 0 => fun _ _ _ _ _ r h => by simp [impl_Vote_49.l0] at h
 | k + 1 => by
  have ih0:=impl_Vote_49.mono_l k
  intro y0 y1 y2 y3 y4
  unfold impl_Vote_49.l0
  repeat' first
    | exact ih0 _ _ _ _ _
    | exact LeO.refl _
    | exact LeO.none _
    | refine LeO.ite ?_ ?_
    | refine LeO.bind ?_ (fun _ => ?_)
theorem impl_Vote_49.mono : ∀ a0 a1 a2 a3 a4 k,LeO (impl_Vote_49.f k a0 a1 a2 a3 a4) (impl_Vote_49.f (k + 1) a0 a1 a2 a3 a4):=fun a0 a1 a2 a3 _ k => impl_Vote_49.mono_l k a0 a1 a2 a3 0
set_option maxHeartbeats 8000000 in
set_option maxRecDepth 100000 in
theorem impl_Vote_49.idx (k : Nat) (A0 : Option Addr) (c0 : Nat) (l0 : List (S25)) (a1_0 : Int) (a1_1 : Int) (a1_2 : Int) (v1_3_ : Value) (r : Bool) (w : World) (g : Nat) (hbk_ : w.heap[g]? = some (.cells #[.int .i64 a1_0,.int .i64 a1_1,.int .i64 a1_2,v1_3_] 39 (0,0))) (hr0 : Kd.C k25 w A0 l0.length l0) (hc0 : l0.length ≤ c0) (h : impl_Vote_49.l0 k l0 a1_0 a1_1 a1_2 0 = some r) :
  Calls Try.prog 63 #[.slice A0 l0.length c0,.func (.func 50) #[] #[.pointer (some ⟨g,0,none⟩)]] w fun e w' => ∃ n : Int,e = .returned (.int .i64 n) ∧ decide (0 ≤ n) = r ∧ Below w.heap.size w w':=by
 have HR0:=aM hr0
 have BK:=aM hbk_
 have HL0:=aM h
 have HB:=aM (Below.refl w.heap.size w)
 clear hr0 hc0 hbk_ h
 go_enter Try.func63,Try.ntmps63
 go_wp2
 go_loopg [5,8] k (fun kq _ v8 w' => ∃ x : Int,v8 = .int .i64 x ∧ Aside0 (impl_Vote_49.l0 kq l0 a1_0 a1_1 a1_2 x = some r) ∧ Aside0 (kq ≤ k) ∧ Aside0 (Below w.heap.size w w'))
 case atStart => exact ⟨0,rfl,HL0,⟨Nat.le_refl _⟩,HB⟩
 case round =>
  clear HL0
  obtain ⟨x,rfl,HA,HK,HB⟩:=hrel
  cases gk with
  | zero => exact absurd HA.out (by simp [impl_Vote_49.l0])
  | succ k1 =>
   have H:=HA.out
   clear HA
   simp only [impl_Vote_49.l0] at H
   by_cases c4 : x < (l0.length : Int)
   ·rw [if_pos c4] at H
    have c4b0 : decide (x < (l0.length : Int)) = true:=decide_eq_true c4
    by_cases p1 : 0 ≤ x
    case neg => exact absurd H (by rw [if_neg p1];simp)
    rw [if_pos p1] at H
    replace H:=Option.bind_eq_some_iff.mp H
    obtain ⟨t,A70,H⟩:=H
    have A7:=aM A70
    obtain ⟨ad,Ax,cx,ex,hx0,hx1,hlx,hix⟩:=at_T25 HR0.out x p1 c4
    cases ex
    replace hx0:=(HB.out.cell (bL w hx0)).trans hx0
    replace hx1:=(HB.out.cell (bL w hx1)).trans hx1
    have HRx:=aM hix
    have HCx:=aM hlx
    clear hix hlx A70
    have p1t:=eq_true p1
    have c4t:=eq_true c4
    clear c4
    by_cases c8 : t = true
    ·subst c8
     obtain rfl:=Option.some.inj ((if_pos (α:=Option Bool) rfl).symm.trans H)
     clear H
     go_wp2_with (go_at_call 50;refine (impl_Vote_49.lit ((rd_T25 l0 x).f0) _ _ ((rd_T25 l0 x).f1) a1_0 a1_1 a1_2 v1_3_ true _ g (blk_below BK.out HB.out) (Kd.C_below HRx.out HB.out) HCx.out A7.out).mono ?_;rintro e w' ⟨rfl,hb'⟩;have n0_:=aM (below_step HB.out hb');clear HB hb';have HB:=n0_;clear n0_)
     go_ret
     exact ⟨_,rfl,decide_eq_true p1,HB.out⟩
    ·replace c8:=Bool.eq_false_iff.mpr c8
     subst c8
     have H1:=(if_neg (α:=Option Bool) (show ¬ (false = true) by decide)).symm.trans H
     have H':=aM H1
     clear H H1
     go_wp2_with (go_at_call 50;refine (impl_Vote_49.lit ((rd_T25 l0 x).f0) _ _ ((rd_T25 l0 x).f1) a1_0 a1_1 a1_2 v1_3_ false _ g (blk_below BK.out HB.out) (Kd.C_below HRx.out HB.out) HCx.out A7.out).mono ?_;rintro e w' ⟨rfl,hb'⟩;have n0_:=aM (below_step HB.out hb');clear HB hb';have HB:=n0_;clear n0_)
     go_roundg k1
     case measure => have:=HK.out;omega
     case rel => exact ⟨wrap64 (x + 1),by first|rfl|(simp;done),H',⟨by have:=HK.out;omega⟩,HB⟩
   ·rw [if_neg c4] at H
    have c4b0 : decide (x < (l0.length : Int)) = false:=decide_eq_false c4
    clear c4
    obtain rfl:=Option.some.inj H
    clear H
    go_wp2
    go_ret
    exact ⟨_,rfl,rfl,HB.out⟩
set_option maxHeartbeats 8000000 in
set_option maxRecDepth 100000 in
theorem impl_Vote_49.calls (k : Nat) (A0 : Option Addr) (c0 : Nat) (l0 : List (S25)) (a1_0 : Int) (a1_1 : Int) (a1_2 : Int) (A1_3 : Option Addr) (c1_3 : Nat) (l1_3 : List (S25)) (r : Bool) (w : World) (hr0 : Kd.C k25 w A0 l0.length l0) (hc0 : l0.length ≤ c0) (hr1_3 : Kd.C k25 w A1_3 l1_3.length l1_3) (hc1_3 : l1_3.length ≤ c1_3) (h : impl_Vote_49.f k l0 a1_0 a1_1 a1_2 l1_3 = some r) (g : Nat) (hbk_ : w.heap[g]? = some (.cells #[.int .i64 a1_0,.int .i64 a1_1,.int .i64 a1_2,.slice A1_3 l1_3.length c1_3] 39 (0,0))) :
  Calls Try.prog 49 #[.slice A0 l0.length c0,.func (.func 50) #[] #[.pointer (some ⟨g,0,none⟩)]] w fun e w' => e = .returned (.bool r) ∧ Below w.heap.size w w':=by
 have HI:=aM (impl_Vote_49.idx k A0 c0 l0 a1_0 a1_1 a1_2 _ r w g hbk_ hr0 hc0 h)
 clear hr0 hc0 hr1_3 hc1_3 hbk_ h
 go_enter Try.func49,Try.ntmps49
 go_wp2_with (go_at_call 63;refine HI.out.mono ?_;rintro e w' ⟨n,rfl,hn,hb⟩;have HN:=aM hn;have HB:=aM hb;clear hn hb)
 go_ret
 exact ⟨by rw [← HN.out];rfl,HB.out⟩

/-! ### impl_NodeOk: function 31 -/
def impl_NodeOk.f (k : Nat) (a0_0 : Int) (a0_1 : Int) (a0_2 : Int) (l0_3 : List (S25)) : Option (Bool):=(impl_nodeOk.f a0_0).bind fun t229 => (if t229 = true then ((impl_within.f a0_1 0 30).bind fun t230 => (if t230 = true then ((impl_within.f a0_2 0 a0_1).bind fun t231 => (if t231 = true then (if (l0_3.length : Int) > 80 then (some false) else ((impl_VotesOk.f k l0_3).bind fun t232 => (if t232 = true then ((impl_Vote_49.f k l0_3 a0_0 a0_1 a0_2 l0_3).bind fun t233 => (some (!t233))) else (some false)))) else (some false))) else (some false))) else (some false))
theorem impl_NodeOk.mono : ∀ a0 a1 a2 a3 k,LeO (impl_NodeOk.f k a0 a1 a2 a3) (impl_NodeOk.f (k + 1) a0 a1 a2 a3):=by
 intro a0 a1 a2 a3 k
 unfold impl_NodeOk.f
 repeat' first
   | exact LeO.refl _
   | exact impl_Vote_49.mono _ _ _ _ _ _
   | exact impl_VotesOk.mono _ _
   | exact LeO.none _
   | refine LeO.ite ?_ ?_
   | refine LeO.bind ?_ (fun _ => ?_)
set_option maxHeartbeats 8000000 in
set_option maxRecDepth 100000 in
theorem impl_NodeOk.calls (k : Nat) (a0_0 : Int) (a0_1 : Int) (a0_2 : Int) (A0_3 : Option Addr) (c0_3 : Nat) (l0_3 : List (S25)) (r : Bool) (w : World) (hr0_3 : Kd.C k25 w A0_3 l0_3.length l0_3) (hc0_3 : l0_3.length ≤ c0_3) (h : impl_NodeOk.f k a0_0 a0_1 a0_2 l0_3 = some r) :
  Calls Try.prog 31 #[.agg #[.int .i64 a0_0,.int .i64 a0_1,.int .i64 a0_2,.slice A0_3 l0_3.length c0_3]] w fun e w' => e = .returned (.bool r) ∧ Below w.heap.size w w':=by
 have hu39:=Try.underlying39
 have HR0_3:=aM hr0_3
 have HC0_3:=aM hc0_3
 clear hr0_3 hc0_3
 have HB:=aM (Below.refl w.heap.size w)
 have H : ((impl_nodeOk.f a0_0).bind fun t229 => (if t229 = true then ((impl_within.f a0_1 0 30).bind fun t230 => (if t230 = true then ((impl_within.f a0_2 0 a0_1).bind fun t231 => (if t231 = true then (if (l0_3.length : Int) > 80 then (some false) else ((impl_VotesOk.f k l0_3).bind fun t232 => (if t232 = true then ((impl_Vote_49.f k l0_3 a0_0 a0_1 a0_2 l0_3).bind fun t233 => (some (!t233))) else (some false)))) else (some false))) else (some false))) else (some false))) = some r:=h
 clear h
 replace H:=Option.bind_eq_some_iff.mp H
 obtain ⟨t229,A20,H⟩:=H
 replace H : (if t229 = true then ((impl_within.f a0_1 0 30).bind fun t230 => (if t230 = true then ((impl_within.f a0_2 0 a0_1).bind fun t231 => (if t231 = true then (if (l0_3.length : Int) > 80 then (some false) else ((impl_VotesOk.f k l0_3).bind fun t232 => (if t232 = true then ((impl_Vote_49.f k l0_3 a0_0 a0_1 a0_2 l0_3).bind fun t233 => (some (!t233))) else (some false)))) else (some false))) else (some false))) else (some false)) = some r:=H
 have A2:=aM A20
 clear A20
 by_cases c3 : t229 = true
 ·subst c3
  have H1 : ((impl_within.f a0_1 0 30).bind fun t230 => (if t230 = true then ((impl_within.f a0_2 0 a0_1).bind fun t231 => (if t231 = true then (if (l0_3.length : Int) > 80 then (some false) else ((impl_VotesOk.f k l0_3).bind fun t232 => (if t232 = true then ((impl_Vote_49.f k l0_3 a0_0 a0_1 a0_2 l0_3).bind fun t233 => (some (!t233))) else (some false)))) else (some false))) else (some false))) = some r:=by rw [if_pos rfl] at H;exact H
  clear H
  have H:=H1
  clear H1
  replace H:=Option.bind_eq_some_iff.mp H
  obtain ⟨t230,A40,H⟩:=H
  replace H : (if t230 = true then ((impl_within.f a0_2 0 a0_1).bind fun t231 => (if t231 = true then (if (l0_3.length : Int) > 80 then (some false) else ((impl_VotesOk.f k l0_3).bind fun t232 => (if t232 = true then ((impl_Vote_49.f k l0_3 a0_0 a0_1 a0_2 l0_3).bind fun t233 => (some (!t233))) else (some false)))) else (some false))) else (some false)) = some r:=H
  have A4:=aM A40
  clear A40
  by_cases c5 : t230 = true
  ·subst c5
   have H1 : ((impl_within.f a0_2 0 a0_1).bind fun t231 => (if t231 = true then (if (l0_3.length : Int) > 80 then (some false) else ((impl_VotesOk.f k l0_3).bind fun t232 => (if t232 = true then ((impl_Vote_49.f k l0_3 a0_0 a0_1 a0_2 l0_3).bind fun t233 => (some (!t233))) else (some false)))) else (some false))) = some r:=by rw [if_pos rfl] at H;exact H
   clear H
   have H:=H1
   clear H1
   replace H:=Option.bind_eq_some_iff.mp H
   obtain ⟨t231,A60,H⟩:=H
   replace H : (if t231 = true then (if (l0_3.length : Int) > 80 then (some false) else ((impl_VotesOk.f k l0_3).bind fun t232 => (if t232 = true then ((impl_Vote_49.f k l0_3 a0_0 a0_1 a0_2 l0_3).bind fun t233 => (some (!t233))) else (some false)))) else (some false)) = some r:=H
   have A6:=aM A60
   clear A60
   by_cases c7 : t231 = true
   ·subst c7
    have H1 : (if (l0_3.length : Int) > 80 then (some false) else ((impl_VotesOk.f k l0_3).bind fun t232 => (if t232 = true then ((impl_Vote_49.f k l0_3 a0_0 a0_1 a0_2 l0_3).bind fun t233 => (some (!t233))) else (some false)))) = some r:=by rw [if_pos rfl] at H;exact H
    clear H
    have H:=H1
    clear H1
    by_cases c8 : (l0_3.length : Int) > 80
    ·rw [if_pos c8] at H
     have c8b0 : decide (80 < (l0_3.length : Int)) = true:=decide_eq_true c8
     have c8b1 : decide (80 < l0_3.length) = true:=decide_eq_true (by omega)
     clear c8
     obtain rfl:=Option.some.inj H
     go_enter Try.func31,Try.ntmps31
     go_wp2_with (first|((with_reducible refine gate_dst (N:=1) rfl ?_);(try (refine gate_guard (by rfl) ?_;dsimp only));refine box_event ?hg (N:=1) ?hd (cs:=#[.int .i64 a0_0,.int .i64 a0_1,.int .i64 a0_2,.slice A0_3 l0_3.length c0_3]) (t:=39) ?hr ?_;(case hd => rfl);(case hg => rfl);(case hr => first|(go_simp;done)|(go_simp;rfl));intro gb228 hg w9 hbox hb;have n0_:=aM (below_step (by repeat (first|(with_reducible first|exact HB.out|apply bA|apply bN|apply bD)|exact HB.out)) hb);have n1_:=aM (hbox);have n2_:=aM ((by rw [hg];exact (below_size (by repeat (first|(with_reducible first|exact HB.out|apply bA|apply bN|apply bD)|exact HB.out))) : w.heap.size ≤ gb228));have n3_:=aM ((by rw [hg];exact (below_size (by repeat (first|(with_reducible first|exact HB.out|apply bA|apply bN|apply bD)|exact HB.out))) : w.heap.size ≤ gb228));clear HB;have HB:=n0_;have BK228:=n1_;have GW228:=n2_;have GE228:=n3_;clear n0_ n1_ n2_ n3_;clear hb hbox hg;have hcz10_0 : w9.cell? ⟨gb228,0,none⟩ = some (.int .i64 a0_0):=(blk_cell BK228.out 0).trans rfl;have hcz10_1 : w9.cell? ⟨gb228,1,none⟩ = some (.int .i64 a0_1):=(blk_cell BK228.out 1).trans rfl;have hcz10_2 : w9.cell? ⟨gb228,2,none⟩ = some (.int .i64 a0_2):=(blk_cell BK228.out 2).trans rfl;have hcz10_3 : w9.cell? ⟨gb228,3,none⟩ = some (.slice A0_3 l0_3.length c0_3):=(blk_cell BK228.out 3).trans rfl;have hfz10_0:=blk_frozen BK228.out 0;have hfz10_1:=blk_frozen BK228.out 1;have hfz10_2:=blk_frozen BK228.out 2;have hfz10_3:=blk_frozen BK228.out 3)|((with_reducible refine gate_callee (f:=34) rfl ?_);refine goesL_ (some 5) rfl rfl Try.func34 (by kernel_rfl) rfl #[.int .i64 a0_0] rfl (by (try simp only [List.map_toArray,List.map_cons,List.map_nil]);first|done|rfl|(simp only [List.length_drop,List.length_take];rfl)) ?_;(with_reducible refine (impl_nodeOk.calls a0_0 true _ A2.out).mono ?_);rintro e w' ⟨rfl,⟨nd,rfl⟩⟩;refine ⟨_,rfl,?_⟩)|(go_at_call 48;(with_reducible refine (impl_within.calls a0_1 0 30 true _ A4.out).mono ?_);rintro e w' ⟨rfl,⟨nd,rfl⟩⟩)|(go_at_call 48;(with_reducible refine (impl_within.calls a0_2 0 a0_1 true _ A6.out).mono ?_);rintro e w' ⟨rfl,⟨nd,rfl⟩⟩))
     go_ret
     exact ⟨by first|rfl|(simp only [i64_w,i32_w];done)|(simp only [i64_w,i32_w];rfl)|(simp [errW_none,errW_some] <;> rfl)|(simp [*,errW_none,errW_some] <;> rfl),by repeat (first|(with_reducible first|exact HB.out|apply bA|apply bN|apply bD|refine below_set ?_ GE228.out)|exact HB.out)⟩
    ·rw [if_neg c8] at H
     have c8b0 : decide (80 < (l0_3.length : Int)) = false:=decide_eq_false c8
     have c8b1 : decide (80 < l0_3.length) = false:=decide_eq_false (by omega)
     clear c8
     replace H:=Option.bind_eq_some_iff.mp H
     obtain ⟨t232,A110,H⟩:=H
     replace H : (if t232 = true then ((impl_Vote_49.f k l0_3 a0_0 a0_1 a0_2 l0_3).bind fun t233 => (some (!t233))) else (some false)) = some r:=H
     have A11:=aM A110
     clear A110
     by_cases c12 : t232 = true
     ·subst c12
      have H1 : ((impl_Vote_49.f k l0_3 a0_0 a0_1 a0_2 l0_3).bind fun t233 => (some (!t233))) = some r:=by rw [if_pos rfl] at H;exact H
      clear H
      have H:=H1
      clear H1
      replace H:=Option.bind_eq_some_iff.mp H
      obtain ⟨t233,A130,H⟩:=H
      replace H : (some (!t233)) = some r:=H
      have A13:=aM A130
      clear A130
      obtain rfl:=Option.some.inj H
      go_enter Try.func31,Try.ntmps31
      go_wp2_with (first|((with_reducible refine gate_dst (N:=1) rfl ?_);(try (refine gate_guard (by rfl) ?_;dsimp only));refine box_event ?hg (N:=1) ?hd (cs:=#[.int .i64 a0_0,.int .i64 a0_1,.int .i64 a0_2,.slice A0_3 l0_3.length c0_3]) (t:=39) ?hr ?_;(case hd => rfl);(case hg => rfl);(case hr => first|(go_simp;done)|(go_simp;rfl));intro gb228 hg w14 hbox hb;have n0_:=aM (below_step (by repeat (first|(with_reducible first|exact HB.out|apply bA|apply bN|apply bD)|exact HB.out)) hb);have n1_:=aM (hbox);have n2_:=aM ((by rw [hg];exact (below_size (by repeat (first|(with_reducible first|exact HB.out|apply bA|apply bN|apply bD)|exact HB.out))) : w.heap.size ≤ gb228));have n3_:=aM ((by rw [hg];exact (below_size (by repeat (first|(with_reducible first|exact HB.out|apply bA|apply bN|apply bD)|exact HB.out))) : w.heap.size ≤ gb228));clear HB;have HB:=n0_;have BK228:=n1_;have GW228:=n2_;have GE228:=n3_;clear n0_ n1_ n2_ n3_;clear hb hbox hg;have hcz15_0 : w14.cell? ⟨gb228,0,none⟩ = some (.int .i64 a0_0):=(blk_cell BK228.out 0).trans rfl;have hcz15_1 : w14.cell? ⟨gb228,1,none⟩ = some (.int .i64 a0_1):=(blk_cell BK228.out 1).trans rfl;have hcz15_2 : w14.cell? ⟨gb228,2,none⟩ = some (.int .i64 a0_2):=(blk_cell BK228.out 2).trans rfl;have hcz15_3 : w14.cell? ⟨gb228,3,none⟩ = some (.slice A0_3 l0_3.length c0_3):=(blk_cell BK228.out 3).trans rfl;have hfz15_0:=blk_frozen BK228.out 0;have hfz15_1:=blk_frozen BK228.out 1;have hfz15_2:=blk_frozen BK228.out 2;have hfz15_3:=blk_frozen BK228.out 3)|((with_reducible refine gate_callee (f:=34) rfl ?_);refine goesL_ (some 5) rfl rfl Try.func34 (by kernel_rfl) rfl #[.int .i64 a0_0] rfl (by (try simp only [List.map_toArray,List.map_cons,List.map_nil]);first|done|rfl|(simp only [List.length_drop,List.length_take];rfl)) ?_;(with_reducible refine (impl_nodeOk.calls a0_0 true _ A2.out).mono ?_);rintro e w' ⟨rfl,⟨nd,rfl⟩⟩;refine ⟨_,rfl,?_⟩)|(go_at_call 48;(with_reducible refine (impl_within.calls a0_1 0 30 true _ A4.out).mono ?_);rintro e w' ⟨rfl,⟨nd,rfl⟩⟩)|(go_at_call 48;(with_reducible refine (impl_within.calls a0_2 0 a0_1 true _ A6.out).mono ?_);rintro e w' ⟨rfl,⟨nd,rfl⟩⟩)|(go_at_call 24;(with_reducible refine (impl_VotesOk.calls k _ _ l0_3 true _ ?side1 ?side2 A11.out).mono ?_);(case side1 => repeat (first|exact (Kd.C_below HR0_3.out (by repeat (first|(with_reducible first|exact HB.out|apply bA|apply bN|apply bD|refine below_set ?_ GE228.out)|exact HB.out)))|(with_reducible refine Kd.C_alloc ?_ _)|(with_reducible refine Kd.C_drewN ?_ _)|(with_reducible refine Kd.C_drew ?_)));(case side2 => exact HC0_3.out);rintro e w16 ⟨rfl,hb⟩;have n0_:=aM (blk_below (g:=gb228) (o:=.cells #[.int .i64 a0_0,.int .i64 a0_1,.int .i64 a0_2,.slice A0_3 l0_3.length c0_3] 39 (0,0)) (by (with_reducible repeat (first|refine blk_drewN ?_ _|refine blk_drew ?_|refine blk_alloc ?_ _));exact BK228.out) hb);have n1_:=aM (below_step (by repeat (first|(with_reducible first|exact HB.out|apply bA|apply bN|apply bD|refine below_set ?_ GE228.out)|exact HB.out)) hb);clear BK228;clear HB;have BK228:=n0_;have HB:=n1_;clear n0_ n1_;(try clear hb);(try clear hb2);(try clear hk);(try clear hi);have hcz17_0 : w16.cell? ⟨gb228,0,none⟩ = some (.int .i64 a0_0):=(blk_cell BK228.out 0).trans rfl;have hcz17_1 : w16.cell? ⟨gb228,1,none⟩ = some (.int .i64 a0_1):=(blk_cell BK228.out 1).trans rfl;have hcz17_2 : w16.cell? ⟨gb228,2,none⟩ = some (.int .i64 a0_2):=(blk_cell BK228.out 2).trans rfl;have hcz17_3 : w16.cell? ⟨gb228,3,none⟩ = some (.slice A0_3 l0_3.length c0_3):=(blk_cell BK228.out 3).trans rfl;have hfz17_0:=blk_frozen BK228.out 0;have hfz17_1:=blk_frozen BK228.out 1;have hfz17_2:=blk_frozen BK228.out 2;have hfz17_3:=blk_frozen BK228.out 3)|((with_reducible refine gate_callee (f:=49) rfl ?_);refine goesL_ (some 36) rfl rfl Try.func49 (by kernel_rfl) rfl #[.slice A0_3 l0_3.length c0_3,.func (.func 50) #[] #[.pointer (some ⟨gb228,0,none⟩)]] rfl (by (try simp only [List.map_toArray,List.map_cons,List.map_nil]);first|done|rfl|(simp only [List.length_drop,List.length_take];rfl)) ?_;(with_reducible refine (impl_Vote_49.calls k _ _ l0_3 a0_0 a0_1 a0_2 _ _ l0_3 t233 _ ?side1 ?side2 ?side3 ?side4 A13.out gb228 (by (with_reducible repeat (first|refine blk_drewN ?_ _|refine blk_drew ?_|refine blk_alloc ?_ _));exact BK228.out)).mono ?_);(case side1 => repeat (first|exact (Kd.C_below HR0_3.out HB.out)|(with_reducible refine Kd.C_alloc ?_ _)|(with_reducible refine Kd.C_drewN ?_ _)|(with_reducible refine Kd.C_drew ?_)));(case side2 => exact HC0_3.out);(case side3 => repeat (first|exact (Kd.C_below HR0_3.out HB.out)|(with_reducible refine Kd.C_alloc ?_ _)|(with_reducible refine Kd.C_drewN ?_ _)|(with_reducible refine Kd.C_drew ?_)));(case side4 => exact HC0_3.out);rintro e w18 ⟨rfl,hb⟩;refine ⟨_,rfl,?_⟩;have n0_:=aM (blk_below (g:=gb228) (o:=.cells #[.int .i64 a0_0,.int .i64 a0_1,.int .i64 a0_2,.slice A0_3 l0_3.length c0_3] 39 (0,0)) (by (with_reducible repeat (first|refine blk_drewN ?_ _|refine blk_drew ?_|refine blk_alloc ?_ _));exact BK228.out) hb);have n1_:=aM (below_step (by repeat (first|(with_reducible first|exact HB.out|apply bA|apply bN|apply bD|refine below_set ?_ GE228.out)|exact HB.out)) hb);clear BK228;clear HB;have BK228:=n0_;have HB:=n1_;clear n0_ n1_;(try clear hb);(try clear hb2);(try clear hk);(try clear hi)))
      go_ret
      exact ⟨by first|rfl|(simp only [i64_w,i32_w];done)|(simp only [i64_w,i32_w];rfl)|(simp [errW_none,errW_some] <;> rfl)|(simp [*,errW_none,errW_some] <;> rfl),by repeat (first|(with_reducible first|exact HB.out|apply bA|apply bN|apply bD|refine below_set ?_ GE228.out)|exact HB.out)⟩
     ·replace c12:=Bool.eq_false_iff.mpr c12
      subst c12
      have H1 : (some false) = some r:=by rw [if_neg (show ¬ (false = true) by decide)] at H;exact H
      clear H
      have H:=H1
      clear H1
      obtain rfl:=Option.some.inj H
      go_enter Try.func31,Try.ntmps31
      go_wp2_with (first|((with_reducible refine gate_dst (N:=1) rfl ?_);(try (refine gate_guard (by rfl) ?_;dsimp only));refine box_event ?hg (N:=1) ?hd (cs:=#[.int .i64 a0_0,.int .i64 a0_1,.int .i64 a0_2,.slice A0_3 l0_3.length c0_3]) (t:=39) ?hr ?_;(case hd => rfl);(case hg => rfl);(case hr => first|(go_simp;done)|(go_simp;rfl));intro gb228 hg w19 hbox hb;have n0_:=aM (below_step (by repeat (first|(with_reducible first|exact HB.out|apply bA|apply bN|apply bD)|exact HB.out)) hb);have n1_:=aM (hbox);have n2_:=aM ((by rw [hg];exact (below_size (by repeat (first|(with_reducible first|exact HB.out|apply bA|apply bN|apply bD)|exact HB.out))) : w.heap.size ≤ gb228));have n3_:=aM ((by rw [hg];exact (below_size (by repeat (first|(with_reducible first|exact HB.out|apply bA|apply bN|apply bD)|exact HB.out))) : w.heap.size ≤ gb228));clear HB;have HB:=n0_;have BK228:=n1_;have GW228:=n2_;have GE228:=n3_;clear n0_ n1_ n2_ n3_;clear hb hbox hg;have hcz20_0 : w19.cell? ⟨gb228,0,none⟩ = some (.int .i64 a0_0):=(blk_cell BK228.out 0).trans rfl;have hcz20_1 : w19.cell? ⟨gb228,1,none⟩ = some (.int .i64 a0_1):=(blk_cell BK228.out 1).trans rfl;have hcz20_2 : w19.cell? ⟨gb228,2,none⟩ = some (.int .i64 a0_2):=(blk_cell BK228.out 2).trans rfl;have hcz20_3 : w19.cell? ⟨gb228,3,none⟩ = some (.slice A0_3 l0_3.length c0_3):=(blk_cell BK228.out 3).trans rfl;have hfz20_0:=blk_frozen BK228.out 0;have hfz20_1:=blk_frozen BK228.out 1;have hfz20_2:=blk_frozen BK228.out 2;have hfz20_3:=blk_frozen BK228.out 3)|((with_reducible refine gate_callee (f:=34) rfl ?_);refine goesL_ (some 5) rfl rfl Try.func34 (by kernel_rfl) rfl #[.int .i64 a0_0] rfl (by (try simp only [List.map_toArray,List.map_cons,List.map_nil]);first|done|rfl|(simp only [List.length_drop,List.length_take];rfl)) ?_;(with_reducible refine (impl_nodeOk.calls a0_0 true _ A2.out).mono ?_);rintro e w' ⟨rfl,⟨nd,rfl⟩⟩;refine ⟨_,rfl,?_⟩)|(go_at_call 48;(with_reducible refine (impl_within.calls a0_1 0 30 true _ A4.out).mono ?_);rintro e w' ⟨rfl,⟨nd,rfl⟩⟩)|(go_at_call 48;(with_reducible refine (impl_within.calls a0_2 0 a0_1 true _ A6.out).mono ?_);rintro e w' ⟨rfl,⟨nd,rfl⟩⟩)|(go_at_call 24;(with_reducible refine (impl_VotesOk.calls k _ _ l0_3 false _ ?side1 ?side2 A11.out).mono ?_);(case side1 => repeat (first|exact (Kd.C_below HR0_3.out (by repeat (first|(with_reducible first|exact HB.out|apply bA|apply bN|apply bD|refine below_set ?_ GE228.out)|exact HB.out)))|(with_reducible refine Kd.C_alloc ?_ _)|(with_reducible refine Kd.C_drewN ?_ _)|(with_reducible refine Kd.C_drew ?_)));(case side2 => exact HC0_3.out);rintro e w21 ⟨rfl,hb⟩;have n0_:=aM (blk_below (g:=gb228) (o:=.cells #[.int .i64 a0_0,.int .i64 a0_1,.int .i64 a0_2,.slice A0_3 l0_3.length c0_3] 39 (0,0)) (by (with_reducible repeat (first|refine blk_drewN ?_ _|refine blk_drew ?_|refine blk_alloc ?_ _));exact BK228.out) hb);have n1_:=aM (below_step (by repeat (first|(with_reducible first|exact HB.out|apply bA|apply bN|apply bD|refine below_set ?_ GE228.out)|exact HB.out)) hb);clear BK228;clear HB;have BK228:=n0_;have HB:=n1_;clear n0_ n1_;(try clear hb);(try clear hb2);(try clear hk);(try clear hi)))
      go_ret
      exact ⟨by first|rfl|(simp only [i64_w,i32_w];done)|(simp only [i64_w,i32_w];rfl)|(simp [errW_none,errW_some] <;> rfl)|(simp [*,errW_none,errW_some] <;> rfl),by repeat (first|(with_reducible first|exact HB.out|apply bA|apply bN|apply bD|refine below_set ?_ GE228.out)|exact HB.out)⟩
   ·replace c7:=Bool.eq_false_iff.mpr c7
    subst c7
    have H1 : (some false) = some r:=by rw [if_neg (show ¬ (false = true) by decide)] at H;exact H
    clear H
    have H:=H1
    clear H1
    obtain rfl:=Option.some.inj H
    go_enter Try.func31,Try.ntmps31
    go_wp2_with (first|((with_reducible refine gate_dst (N:=1) rfl ?_);(try (refine gate_guard (by rfl) ?_;dsimp only));refine box_event ?hg (N:=1) ?hd (cs:=#[.int .i64 a0_0,.int .i64 a0_1,.int .i64 a0_2,.slice A0_3 l0_3.length c0_3]) (t:=39) ?hr ?_;(case hd => rfl);(case hg => rfl);(case hr => first|(go_simp;done)|(go_simp;rfl));intro gb228 hg w22 hbox hb;have n0_:=aM (below_step (by repeat (first|(with_reducible first|exact HB.out|apply bA|apply bN|apply bD)|exact HB.out)) hb);have n1_:=aM (hbox);have n2_:=aM ((by rw [hg];exact (below_size (by repeat (first|(with_reducible first|exact HB.out|apply bA|apply bN|apply bD)|exact HB.out))) : w.heap.size ≤ gb228));have n3_:=aM ((by rw [hg];exact (below_size (by repeat (first|(with_reducible first|exact HB.out|apply bA|apply bN|apply bD)|exact HB.out))) : w.heap.size ≤ gb228));clear HB;have HB:=n0_;have BK228:=n1_;have GW228:=n2_;have GE228:=n3_;clear n0_ n1_ n2_ n3_;clear hb hbox hg;have hcz23_0 : w22.cell? ⟨gb228,0,none⟩ = some (.int .i64 a0_0):=(blk_cell BK228.out 0).trans rfl;have hcz23_1 : w22.cell? ⟨gb228,1,none⟩ = some (.int .i64 a0_1):=(blk_cell BK228.out 1).trans rfl;have hcz23_2 : w22.cell? ⟨gb228,2,none⟩ = some (.int .i64 a0_2):=(blk_cell BK228.out 2).trans rfl;have hcz23_3 : w22.cell? ⟨gb228,3,none⟩ = some (.slice A0_3 l0_3.length c0_3):=(blk_cell BK228.out 3).trans rfl;have hfz23_0:=blk_frozen BK228.out 0;have hfz23_1:=blk_frozen BK228.out 1;have hfz23_2:=blk_frozen BK228.out 2;have hfz23_3:=blk_frozen BK228.out 3)|((with_reducible refine gate_callee (f:=34) rfl ?_);refine goesL_ (some 5) rfl rfl Try.func34 (by kernel_rfl) rfl #[.int .i64 a0_0] rfl (by (try simp only [List.map_toArray,List.map_cons,List.map_nil]);first|done|rfl|(simp only [List.length_drop,List.length_take];rfl)) ?_;(with_reducible refine (impl_nodeOk.calls a0_0 true _ A2.out).mono ?_);rintro e w' ⟨rfl,⟨nd,rfl⟩⟩;refine ⟨_,rfl,?_⟩)|(go_at_call 48;(with_reducible refine (impl_within.calls a0_1 0 30 true _ A4.out).mono ?_);rintro e w' ⟨rfl,⟨nd,rfl⟩⟩)|(go_at_call 48;(with_reducible refine (impl_within.calls a0_2 0 a0_1 false _ A6.out).mono ?_);rintro e w' ⟨rfl,⟨nd,rfl⟩⟩))
    go_ret
    exact ⟨by first|rfl|(simp only [i64_w,i32_w];done)|(simp only [i64_w,i32_w];rfl)|(simp [errW_none,errW_some] <;> rfl)|(simp [*,errW_none,errW_some] <;> rfl),by repeat (first|(with_reducible first|exact HB.out|apply bA|apply bN|apply bD|refine below_set ?_ GE228.out)|exact HB.out)⟩
  ·replace c5:=Bool.eq_false_iff.mpr c5
   subst c5
   have H1 : (some false) = some r:=by rw [if_neg (show ¬ (false = true) by decide)] at H;exact H
   clear H
   have H:=H1
   clear H1
   obtain rfl:=Option.some.inj H
   go_enter Try.func31,Try.ntmps31
   go_wp2_with (first|((with_reducible refine gate_dst (N:=1) rfl ?_);(try (refine gate_guard (by rfl) ?_;dsimp only));refine box_event ?hg (N:=1) ?hd (cs:=#[.int .i64 a0_0,.int .i64 a0_1,.int .i64 a0_2,.slice A0_3 l0_3.length c0_3]) (t:=39) ?hr ?_;(case hd => rfl);(case hg => rfl);(case hr => first|(go_simp;done)|(go_simp;rfl));intro gb228 hg w24 hbox hb;have n0_:=aM (below_step (by repeat (first|(with_reducible first|exact HB.out|apply bA|apply bN|apply bD)|exact HB.out)) hb);have n1_:=aM (hbox);have n2_:=aM ((by rw [hg];exact (below_size (by repeat (first|(with_reducible first|exact HB.out|apply bA|apply bN|apply bD)|exact HB.out))) : w.heap.size ≤ gb228));have n3_:=aM ((by rw [hg];exact (below_size (by repeat (first|(with_reducible first|exact HB.out|apply bA|apply bN|apply bD)|exact HB.out))) : w.heap.size ≤ gb228));clear HB;have HB:=n0_;have BK228:=n1_;have GW228:=n2_;have GE228:=n3_;clear n0_ n1_ n2_ n3_;clear hb hbox hg;have hcz25_0 : w24.cell? ⟨gb228,0,none⟩ = some (.int .i64 a0_0):=(blk_cell BK228.out 0).trans rfl;have hcz25_1 : w24.cell? ⟨gb228,1,none⟩ = some (.int .i64 a0_1):=(blk_cell BK228.out 1).trans rfl;have hcz25_2 : w24.cell? ⟨gb228,2,none⟩ = some (.int .i64 a0_2):=(blk_cell BK228.out 2).trans rfl;have hcz25_3 : w24.cell? ⟨gb228,3,none⟩ = some (.slice A0_3 l0_3.length c0_3):=(blk_cell BK228.out 3).trans rfl;have hfz25_0:=blk_frozen BK228.out 0;have hfz25_1:=blk_frozen BK228.out 1;have hfz25_2:=blk_frozen BK228.out 2;have hfz25_3:=blk_frozen BK228.out 3)|((with_reducible refine gate_callee (f:=34) rfl ?_);refine goesL_ (some 5) rfl rfl Try.func34 (by kernel_rfl) rfl #[.int .i64 a0_0] rfl (by (try simp only [List.map_toArray,List.map_cons,List.map_nil]);first|done|rfl|(simp only [List.length_drop,List.length_take];rfl)) ?_;(with_reducible refine (impl_nodeOk.calls a0_0 true _ A2.out).mono ?_);rintro e w' ⟨rfl,⟨nd,rfl⟩⟩;refine ⟨_,rfl,?_⟩)|(go_at_call 48;(with_reducible refine (impl_within.calls a0_1 0 30 false _ A4.out).mono ?_);rintro e w' ⟨rfl,⟨nd,rfl⟩⟩))
   go_ret
   exact ⟨by first|rfl|(simp only [i64_w,i32_w];done)|(simp only [i64_w,i32_w];rfl)|(simp [errW_none,errW_some] <;> rfl)|(simp [*,errW_none,errW_some] <;> rfl),by repeat (first|(with_reducible first|exact HB.out|apply bA|apply bN|apply bD|refine below_set ?_ GE228.out)|exact HB.out)⟩
 ·replace c3:=Bool.eq_false_iff.mpr c3
  subst c3
  have H1 : (some false) = some r:=by rw [if_neg (show ¬ (false = true) by decide)] at H;exact H
  clear H
  have H:=H1
  clear H1
  obtain rfl:=Option.some.inj H
  go_enter Try.func31,Try.ntmps31
  go_wp2_with (first|((with_reducible refine gate_dst (N:=1) rfl ?_);(try (refine gate_guard (by rfl) ?_;dsimp only));refine box_event ?hg (N:=1) ?hd (cs:=#[.int .i64 a0_0,.int .i64 a0_1,.int .i64 a0_2,.slice A0_3 l0_3.length c0_3]) (t:=39) ?hr ?_;(case hd => rfl);(case hg => rfl);(case hr => first|(go_simp;done)|(go_simp;rfl));intro gb228 hg w26 hbox hb;have n0_:=aM (below_step (by repeat (first|(with_reducible first|exact HB.out|apply bA|apply bN|apply bD)|exact HB.out)) hb);have n1_:=aM (hbox);have n2_:=aM ((by rw [hg];exact (below_size (by repeat (first|(with_reducible first|exact HB.out|apply bA|apply bN|apply bD)|exact HB.out))) : w.heap.size ≤ gb228));have n3_:=aM ((by rw [hg];exact (below_size (by repeat (first|(with_reducible first|exact HB.out|apply bA|apply bN|apply bD)|exact HB.out))) : w.heap.size ≤ gb228));clear HB;have HB:=n0_;have BK228:=n1_;have GW228:=n2_;have GE228:=n3_;clear n0_ n1_ n2_ n3_;clear hb hbox hg;have hcz27_0 : w26.cell? ⟨gb228,0,none⟩ = some (.int .i64 a0_0):=(blk_cell BK228.out 0).trans rfl;have hcz27_1 : w26.cell? ⟨gb228,1,none⟩ = some (.int .i64 a0_1):=(blk_cell BK228.out 1).trans rfl;have hcz27_2 : w26.cell? ⟨gb228,2,none⟩ = some (.int .i64 a0_2):=(blk_cell BK228.out 2).trans rfl;have hcz27_3 : w26.cell? ⟨gb228,3,none⟩ = some (.slice A0_3 l0_3.length c0_3):=(blk_cell BK228.out 3).trans rfl;have hfz27_0:=blk_frozen BK228.out 0;have hfz27_1:=blk_frozen BK228.out 1;have hfz27_2:=blk_frozen BK228.out 2;have hfz27_3:=blk_frozen BK228.out 3)|((with_reducible refine gate_callee (f:=34) rfl ?_);refine goesL_ (some 5) rfl rfl Try.func34 (by kernel_rfl) rfl #[.int .i64 a0_0] rfl (by (try simp only [List.map_toArray,List.map_cons,List.map_nil]);first|done|rfl|(simp only [List.length_drop,List.length_take];rfl)) ?_;(with_reducible refine (impl_nodeOk.calls a0_0 false _ A2.out).mono ?_);rintro e w' ⟨rfl,⟨nd,rfl⟩⟩;refine ⟨_,rfl,?_⟩))
  go_ret
  exact ⟨by first|rfl|(simp only [i64_w,i32_w];done)|(simp only [i64_w,i32_w];rfl)|(simp [errW_none,errW_some] <;> rfl)|(simp [*,errW_none,errW_some] <;> rfl),by repeat (first|(with_reducible first|exact HB.out|apply bA|apply bN|apply bD|refine below_set ?_ GE228.out)|exact HB.out)⟩

/-! ### laws_FnExactNodeOk: function 8 -/
def laws_FnExactNodeOk.f (k : Nat) (a0_0 : Int) (a0_1 : Int) (a0_2 : Int) (l0_3 : List (S32)) : Option (Bool):=(laws_szNode.f k a0_0 a0_1 a0_2 l0_3 1048576).bind fun t235 => (if t235 < 0 then (some true) else ((laws_toNode.f k a0_0 a0_1 a0_2 l0_3).bind fun bt236 => ((spec_NodeOk.f k bt236.1 bt236.2.1 bt236.2.2.1 bt236.2.2.2).bind fun t242 => ((laws_toNode.f k a0_0 a0_1 a0_2 l0_3).bind fun bt243 => ((impl_NodeOk.f k bt243.1 bt243.2.1 bt243.2.2.1 bt243.2.2.2).bind fun t250 => (if (t250 != t242) = true then (some false) else ((laws_toNode.f k a0_0 a0_1 a0_2 l0_3).bind fun bt251 => ((laws_eqNode.f k bt243.1 bt243.2.1 bt243.2.2.1 bt243.2.2.2 bt251.1 bt251.2.1 bt251.2.2.1 bt251.2.2.2).bind fun t257 => (if t257 = true then (some true) else (some false))))))))))
theorem laws_FnExactNodeOk.mono : ∀ a0 a1 a2 a3 k,LeO (laws_FnExactNodeOk.f k a0 a1 a2 a3) (laws_FnExactNodeOk.f (k + 1) a0 a1 a2 a3):=by
 intro a0 a1 a2 a3 k
 unfold laws_FnExactNodeOk.f
 repeat' first
   | (with_reducible exact impl_NodeOk.mono _ _ _ _ _)
   | (with_reducible exact laws_eqNode.mono _ _ _ _ _ _ _ _ _)
   | (with_reducible exact laws_szNode.mono _ _ _ _ _ _)
   | (with_reducible exact laws_toNode.mono _ _ _ _ _)
   | (with_reducible exact spec_NodeOk.mono _ _ _ _ _)
   | (with_reducible exact LeO.refl _)
   | (with_reducible exact LeO.none _)
   | (with_reducible refine LeO.ite ?_ ?_)
   | (with_reducible refine LeO.bind ?_ (fun _ => ?_))
   | exact impl_NodeOk.mono _ _ _ _ _
   | exact laws_eqNode.mono _ _ _ _ _ _ _ _ _
   | exact laws_szNode.mono _ _ _ _ _ _
   | exact laws_toNode.mono _ _ _ _ _
   | exact spec_NodeOk.mono _ _ _ _ _
   | exact LeO.none _
   | refine LeO.ite ?_ ?_
   | refine LeO.bind ?_ (fun _ => ?_)
set_option maxHeartbeats 8000000 in
set_option maxRecDepth 100000 in
theorem laws_FnExactNodeOk.calls (k : Nat) (a0_0 : Int) (a0_1 : Int) (a0_2 : Int) (A0_3 : Option Addr) (c0_3 : Nat) (l0_3 : List (S32)) (r : Bool) (w : World) (hr0_3 : Kd.C k32 w A0_3 l0_3.length l0_3) (hc0_3 : l0_3.length ≤ c0_3) (h : laws_FnExactNodeOk.f k a0_0 a0_1 a0_2 l0_3 = some r) :
  Calls Try.prog 8 #[.agg #[.int .i64 a0_0,.int .i64 a0_1,.int .i64 a0_2,.slice A0_3 l0_3.length c0_3]] w fun e w' => e = .returned (.bool r) ∧ Below w.heap.size w w':=by
 have hu54:=Try.underlying54
 have hu39:=Try.underlying39
 have HR0_3:=aM hr0_3
 have HC0_3:=aM hc0_3
 clear hr0_3 hc0_3
 have HB:=aM (Below.refl w.heap.size w)
 have H : ((laws_szNode.f k a0_0 a0_1 a0_2 l0_3 1048576).bind fun t235 => (if t235 < 0 then (some true) else ((laws_toNode.f k a0_0 a0_1 a0_2 l0_3).bind fun bt236 => ((spec_NodeOk.f k bt236.1 bt236.2.1 bt236.2.2.1 bt236.2.2.2).bind fun t242 => ((laws_toNode.f k a0_0 a0_1 a0_2 l0_3).bind fun bt243 => ((impl_NodeOk.f k bt243.1 bt243.2.1 bt243.2.2.1 bt243.2.2.2).bind fun t250 => (if (t250 != t242) = true then (some false) else ((laws_toNode.f k a0_0 a0_1 a0_2 l0_3).bind fun bt251 => ((laws_eqNode.f k bt243.1 bt243.2.1 bt243.2.2.1 bt243.2.2.2 bt251.1 bt251.2.1 bt251.2.2.1 bt251.2.2.2).bind fun t257 => (if t257 = true then (some true) else (some false))))))))))) = some r:=h
 clear h
 replace H:=Option.bind_eq_some_iff.mp H
 obtain ⟨t235,A20,H⟩:=H
 replace H : (if t235 < 0 then (some true) else ((laws_toNode.f k a0_0 a0_1 a0_2 l0_3).bind fun bt236 => ((spec_NodeOk.f k bt236.1 bt236.2.1 bt236.2.2.1 bt236.2.2.2).bind fun t242 => ((laws_toNode.f k a0_0 a0_1 a0_2 l0_3).bind fun bt243 => ((impl_NodeOk.f k bt243.1 bt243.2.1 bt243.2.2.1 bt243.2.2.2).bind fun t250 => (if (t250 != t242) = true then (some false) else ((laws_toNode.f k a0_0 a0_1 a0_2 l0_3).bind fun bt251 => ((laws_eqNode.f k bt243.1 bt243.2.1 bt243.2.2.1 bt243.2.2.2 bt251.1 bt251.2.1 bt251.2.2.1 bt251.2.2.2).bind fun t257 => (if t257 = true then (some true) else (some false)))))))))) = some r:=H
 have A2:=aM A20
 clear A20
 by_cases c3 : t235 < 0
 ·rw [if_pos c3] at H
  have c3b0 : decide (t235 < 0) = true:=decide_eq_true c3
  clear c3
  obtain rfl:=Option.some.inj H
  go_enter Try.func8,Try.ntmps8
  go_wp2_with (first|((with_reducible refine gate_dst (N:=1) rfl ?_);refine box_event ?hg (N:=1) ?hd (cs:=#[.int .i64 a0_0,.int .i64 a0_1,.int .i64 a0_2,.slice A0_3 l0_3.length c0_3]) (t:=54) ?hr ?_;(case hd => rfl);(case hg => rfl);(case hr => first|(go_simp;done)|(go_simp;rfl));intro gb234 hg w4 hbox hb;have n0_:=aM (below_step (by repeat (first|(with_reducible first|exact HB.out|apply bA|apply bN|apply bD)|exact HB.out)) hb);have n1_:=aM (hbox);have n2_:=aM ((by rw [hg];exact (below_size (by repeat (first|(with_reducible first|exact HB.out|apply bA|apply bN|apply bD)|exact HB.out))) : w.heap.size ≤ gb234));have n3_:=aM ((by rw [hg];exact (below_size (by repeat (first|(with_reducible first|exact HB.out|apply bA|apply bN|apply bD)|exact HB.out))) : w.heap.size ≤ gb234));clear HB;have HB:=n0_;have BK234:=n1_;have GW234:=n2_;have GE234:=n3_;clear n0_ n1_ n2_ n3_;clear hb hbox hg;have hcz5_0 : w4.cell? ⟨gb234,0,none⟩ = some (.int .i64 a0_0):=(blk_cell BK234.out 0).trans rfl;have hcz5_1 : w4.cell? ⟨gb234,1,none⟩ = some (.int .i64 a0_1):=(blk_cell BK234.out 1).trans rfl;have hcz5_2 : w4.cell? ⟨gb234,2,none⟩ = some (.int .i64 a0_2):=(blk_cell BK234.out 2).trans rfl;have hcz5_3 : w4.cell? ⟨gb234,3,none⟩ = some (.slice A0_3 l0_3.length c0_3):=(blk_cell BK234.out 3).trans rfl;have hfz5_0:=blk_frozen BK234.out 0;have hfz5_1:=blk_frozen BK234.out 1;have hfz5_2:=blk_frozen BK234.out 2;have hfz5_3:=blk_frozen BK234.out 3)|((with_reducible refine gate_callee (f:=28) rfl ?_);refine goesL_ (some 9) rfl rfl Try.func28 (by kernel_rfl) rfl #[.agg #[.int .i64 a0_0,.int .i64 a0_1,.int .i64 a0_2,.slice A0_3 l0_3.length c0_3],.int .i64 1048576] rfl (by (try simp only [List.map_toArray,List.map_cons,List.map_nil]);first|done|rfl|(simp only [List.length_drop,List.length_take];rfl)) ?_;(with_reducible refine (laws_szNode.calls k a0_0 a0_1 a0_2 _ _ l0_3 1048576 t235 _ ?side1 ?side2 A2.out).mono ?_);(case side1 => repeat (first|exact (Kd.C_below HR0_3.out HB.out)|(with_reducible refine Kd.C_alloc ?_ _)|(with_reducible refine Kd.C_drewN ?_ _)|(with_reducible refine Kd.C_drew ?_)));(case side2 => exact HC0_3.out);rintro e w6 ⟨rfl,hb⟩;refine ⟨_,rfl,?_⟩;have n0_:=aM (blk_below (g:=gb234) (o:=.cells #[.int .i64 a0_0,.int .i64 a0_1,.int .i64 a0_2,.slice A0_3 l0_3.length c0_3] 54 (0,0)) (by (with_reducible repeat (first|refine blk_drewN ?_ _|refine blk_drew ?_|refine blk_alloc ?_ _));exact BK234.out) hb);have n1_:=aM (below_step (by repeat (first|(with_reducible first|exact HB.out|apply bA|apply bN|apply bD|refine below_set ?_ GE234.out)|exact HB.out)) hb);clear BK234;clear HB;have BK234:=n0_;have HB:=n1_;clear n0_ n1_;(try clear hb);(try clear hb2);(try clear hk);(try clear hi)))
  go_ret
  exact ⟨by first|rfl|(simp only [i64_w,i32_w];done)|(simp only [i64_w,i32_w];rfl)|(simp [errW_none,errW_some] <;> rfl)|(simp [*,errW_none,errW_some] <;> rfl),by repeat (first|(with_reducible first|exact HB.out|apply bA|apply bN|apply bD|refine below_set ?_ GE234.out)|exact HB.out)⟩
 ·rw [if_neg c3] at H
  have c3b0 : decide (t235 < 0) = false:=decide_eq_false c3
  clear c3
  replace H:=Option.bind_eq_some_iff.mp H
  obtain ⟨⟨t236,t237,t238,t239⟩,A70,H⟩:=H
  replace H : ((spec_NodeOk.f k t236 t237 t238 t239).bind fun t242 => ((laws_toNode.f k a0_0 a0_1 a0_2 l0_3).bind fun bt243 => ((impl_NodeOk.f k bt243.1 bt243.2.1 bt243.2.2.1 bt243.2.2.2).bind fun t250 => (if (t250 != t242) = true then (some false) else ((laws_toNode.f k a0_0 a0_1 a0_2 l0_3).bind fun bt251 => ((laws_eqNode.f k bt243.1 bt243.2.1 bt243.2.2.1 bt243.2.2.2 bt251.1 bt251.2.1 bt251.2.2.1 bt251.2.2.2).bind fun t257 => (if t257 = true then (some true) else (some false)))))))) = some r:=H
  have A7:=aM A70
  clear A70
  replace H:=Option.bind_eq_some_iff.mp H
  obtain ⟨t242,A80,H⟩:=H
  replace H : ((laws_toNode.f k a0_0 a0_1 a0_2 l0_3).bind fun bt243 => ((impl_NodeOk.f k bt243.1 bt243.2.1 bt243.2.2.1 bt243.2.2.2).bind fun t250 => (if (t250 != t242) = true then (some false) else ((laws_toNode.f k a0_0 a0_1 a0_2 l0_3).bind fun bt251 => ((laws_eqNode.f k bt243.1 bt243.2.1 bt243.2.2.1 bt243.2.2.2 bt251.1 bt251.2.1 bt251.2.2.1 bt251.2.2.2).bind fun t257 => (if t257 = true then (some true) else (some false))))))) = some r:=H
  have A8:=aM A80
  clear A80
  replace H:=Option.bind_eq_some_iff.mp H
  obtain ⟨⟨t243,t244,t245,t246⟩,A90,H⟩:=H
  replace H : ((impl_NodeOk.f k t243 t244 t245 t246).bind fun t250 => (if (t250 != t242) = true then (some false) else ((laws_toNode.f k a0_0 a0_1 a0_2 l0_3).bind fun bt251 => ((laws_eqNode.f k t243 t244 t245 t246 bt251.1 bt251.2.1 bt251.2.2.1 bt251.2.2.2).bind fun t257 => (if t257 = true then (some true) else (some false)))))) = some r:=H
  have A9:=aM A90
  clear A90
  replace H:=Option.bind_eq_some_iff.mp H
  obtain ⟨t250,A100,H⟩:=H
  replace H : (if (t250 != t242) = true then (some false) else ((laws_toNode.f k a0_0 a0_1 a0_2 l0_3).bind fun bt251 => ((laws_eqNode.f k t243 t244 t245 t246 bt251.1 bt251.2.1 bt251.2.2.1 bt251.2.2.2).bind fun t257 => (if t257 = true then (some true) else (some false))))) = some r:=H
  have A10:=aM A100
  clear A100
  by_cases c11 : (t250 != t242) = true
  ·rw [if_pos c11] at H
   have c11b0 : (t250 != t242) = true:=c11
   (try (have c11b1 : decide (t250 = t242) = false:=by simpa using c11))
   (try (have c11b2 : (t250 == t242) = false:=by simpa using c11))
   (try (have c11b3 : ¬ (t250 = t242):=by simpa using c11))
   clear c11
   obtain rfl:=Option.some.inj H
   go_enter Try.func8,Try.ntmps8
   go_wp2_with (first|((with_reducible refine gate_dst (N:=1) rfl ?_);refine box_event ?hg (N:=1) ?hd (cs:=#[.int .i64 a0_0,.int .i64 a0_1,.int .i64 a0_2,.slice A0_3 l0_3.length c0_3]) (t:=54) ?hr ?_;(case hd => rfl);(case hg => rfl);(case hr => first|(go_simp;done)|(go_simp;rfl));intro gb234 hg w12 hbox hb;have n0_:=aM (below_step (by repeat (first|(with_reducible first|exact HB.out|apply bA|apply bN|apply bD)|exact HB.out)) hb);have n1_:=aM (hbox);have n2_:=aM ((by rw [hg];exact (below_size (by repeat (first|(with_reducible first|exact HB.out|apply bA|apply bN|apply bD)|exact HB.out))) : w.heap.size ≤ gb234));have n3_:=aM ((by rw [hg];exact (below_size (by repeat (first|(with_reducible first|exact HB.out|apply bA|apply bN|apply bD)|exact HB.out))) : w.heap.size ≤ gb234));clear HB;have HB:=n0_;have BK234:=n1_;have GW234:=n2_;have GE234:=n3_;clear n0_ n1_ n2_ n3_;clear hb hbox hg;have hcz13_0 : w12.cell? ⟨gb234,0,none⟩ = some (.int .i64 a0_0):=(blk_cell BK234.out 0).trans rfl;have hcz13_1 : w12.cell? ⟨gb234,1,none⟩ = some (.int .i64 a0_1):=(blk_cell BK234.out 1).trans rfl;have hcz13_2 : w12.cell? ⟨gb234,2,none⟩ = some (.int .i64 a0_2):=(blk_cell BK234.out 2).trans rfl;have hcz13_3 : w12.cell? ⟨gb234,3,none⟩ = some (.slice A0_3 l0_3.length c0_3):=(blk_cell BK234.out 3).trans rfl;have hfz13_0:=blk_frozen BK234.out 0;have hfz13_1:=blk_frozen BK234.out 1;have hfz13_2:=blk_frozen BK234.out 2;have hfz13_3:=blk_frozen BK234.out 3)|((with_reducible refine gate_callee (f:=28) rfl ?_);refine goesL_ (some 9) rfl rfl Try.func28 (by kernel_rfl) rfl #[.agg #[.int .i64 a0_0,.int .i64 a0_1,.int .i64 a0_2,.slice A0_3 l0_3.length c0_3],.int .i64 1048576] rfl (by (try simp only [List.map_toArray,List.map_cons,List.map_nil]);first|done|rfl|(simp only [List.length_drop,List.length_take];rfl)) ?_;(with_reducible refine (laws_szNode.calls k a0_0 a0_1 a0_2 _ _ l0_3 1048576 t235 _ ?side1 ?side2 A2.out).mono ?_);(case side1 => repeat (first|exact (Kd.C_below HR0_3.out HB.out)|(with_reducible refine Kd.C_alloc ?_ _)|(with_reducible refine Kd.C_drewN ?_ _)|(with_reducible refine Kd.C_drew ?_)));(case side2 => exact HC0_3.out);rintro e w14 ⟨rfl,hb⟩;refine ⟨_,rfl,?_⟩;have n0_:=aM (blk_below (g:=gb234) (o:=.cells #[.int .i64 a0_0,.int .i64 a0_1,.int .i64 a0_2,.slice A0_3 l0_3.length c0_3] 54 (0,0)) (by (with_reducible repeat (first|refine blk_drewN ?_ _|refine blk_drew ?_|refine blk_alloc ?_ _));exact BK234.out) hb);have n1_:=aM (below_step (by repeat (first|(with_reducible first|exact HB.out|apply bA|apply bN|apply bD|refine below_set ?_ GE234.out)|exact HB.out)) hb);clear BK234;clear HB;have BK234:=n0_;have HB:=n1_;clear n0_ n1_;(try clear hb);(try clear hb2);(try clear hk);(try clear hi);have hcz15_0 : w14.cell? ⟨gb234,0,none⟩ = some (.int .i64 a0_0):=(blk_cell BK234.out 0).trans rfl;have hcz15_1 : w14.cell? ⟨gb234,1,none⟩ = some (.int .i64 a0_1):=(blk_cell BK234.out 1).trans rfl;have hcz15_2 : w14.cell? ⟨gb234,2,none⟩ = some (.int .i64 a0_2):=(blk_cell BK234.out 2).trans rfl;have hcz15_3 : w14.cell? ⟨gb234,3,none⟩ = some (.slice A0_3 l0_3.length c0_3):=(blk_cell BK234.out 3).trans rfl;have hfz15_0:=blk_frozen BK234.out 0;have hfz15_1:=blk_frozen BK234.out 1;have hfz15_2:=blk_frozen BK234.out 2;have hfz15_3:=blk_frozen BK234.out 3)|((with_reducible refine gate_callee (f:=30) rfl ?_);refine goesL_ (some 13) rfl rfl Try.func30 (by kernel_rfl) rfl #[.agg #[.int .i64 a0_0,.int .i64 a0_1,.int .i64 a0_2,.slice A0_3 l0_3.length c0_3]] rfl (by (try simp only [List.map_toArray,List.map_cons,List.map_nil]);first|done|rfl|(simp only [List.length_drop,List.length_take];rfl)) ?_;(with_reducible refine (laws_toNode.calls k a0_0 a0_1 a0_2 _ _ l0_3 t236 t237 t238 t239 _ ?side1 ?side2 A7.out).mono ?_);(case side1 => repeat (first|exact (Kd.C_below HR0_3.out HB.out)|(with_reducible refine Kd.C_alloc ?_ _)|(with_reducible refine Kd.C_drewN ?_ _)|(with_reducible refine Kd.C_drew ?_)));(case side2 => exact HC0_3.out);rintro e w16 ⟨v240,rfl,ho0,hb⟩;refine ⟨_,rfl,?_⟩;have n0_:=aM (Kd.R_lower ho0 (below_size (by repeat (first|(with_reducible first|exact HB.out|apply bA|apply bN|apply bD|refine below_set ?_ GE234.out)|exact HB.out))));have n1_:=aM (blk_below (g:=gb234) (o:=.cells #[.int .i64 a0_0,.int .i64 a0_1,.int .i64 a0_2,.slice A0_3 l0_3.length c0_3] 54 (0,0)) (by (with_reducible repeat (first|refine blk_drewN ?_ _|refine blk_drew ?_|refine blk_alloc ?_ _));exact BK234.out) hb);have n2_:=aM (below_step (by repeat (first|(with_reducible first|exact HB.out|apply bA|apply bN|apply bD|refine below_set ?_ GE234.out)|exact HB.out)) hb);clear BK234;clear HB;have HO241:=n0_;have BK234:=n1_;have HB:=n2_;clear n0_ n1_ n2_;(try clear hb);(try clear hb2);(try clear hk);(try clear hi);(try clear ho0);obtain ⟨Ao17,co17,eo17⟩:=Kd.R_slice HO241.out;subst eo17)|((with_reducible refine gate_callee (f:=29) rfl ?_);refine goesL_ (some 14) rfl rfl Try.func29 (by kernel_rfl) rfl #[.agg #[.int .i64 t236,.int .i64 t237,.int .i64 t238,.slice Ao17 t239.length co17]] rfl (by (try simp only [List.map_toArray,List.map_cons,List.map_nil]);first|done|rfl|(simp only [List.length_drop,List.length_take];rfl)) ?_;(with_reducible refine (spec_NodeOk.calls k t236 t237 t238 _ _ t239 t242 _ ?side1 ?side2 A8.out).mono ?_);(case side1 => repeat (first|exact (Kd.R_reads' HO241.out).2.2|(with_reducible refine Kd.C_alloc ?_ _)|(with_reducible refine Kd.C_drewN ?_ _)|(with_reducible refine Kd.C_drew ?_)));(case side2 => exact (Kd.R_reads' HO241.out).2.1);rintro e w18 ⟨rfl,hb⟩;refine ⟨_,rfl,?_⟩;have n0_:=aM (Kd.R_below (by (with_reducible repeat (first|apply Kd.R_alloc|apply Kd.R_drewN|apply Kd.R_drew));exact HO241.out) hb);have n1_:=aM (blk_below (g:=gb234) (o:=.cells #[.int .i64 a0_0,.int .i64 a0_1,.int .i64 a0_2,.slice A0_3 l0_3.length c0_3] 54 (0,0)) (by (with_reducible repeat (first|refine blk_drewN ?_ _|refine blk_drew ?_|refine blk_alloc ?_ _));exact BK234.out) hb);have n2_:=aM (below_step (by repeat (first|(with_reducible first|exact HB.out|apply bA|apply bN|apply bD|refine below_set ?_ GE234.out)|exact HB.out)) hb);clear HO241;clear BK234;clear HB;have HO241:=n0_;have BK234:=n1_;have HB:=n2_;clear n0_ n1_ n2_;(try clear hb);(try clear hb2);(try clear hk);(try clear hi);have hcz19_0 : w18.cell? ⟨gb234,0,none⟩ = some (.int .i64 a0_0):=(blk_cell BK234.out 0).trans rfl;have hcz19_1 : w18.cell? ⟨gb234,1,none⟩ = some (.int .i64 a0_1):=(blk_cell BK234.out 1).trans rfl;have hcz19_2 : w18.cell? ⟨gb234,2,none⟩ = some (.int .i64 a0_2):=(blk_cell BK234.out 2).trans rfl;have hcz19_3 : w18.cell? ⟨gb234,3,none⟩ = some (.slice A0_3 l0_3.length c0_3):=(blk_cell BK234.out 3).trans rfl;have hfz19_0:=blk_frozen BK234.out 0;have hfz19_1:=blk_frozen BK234.out 1;have hfz19_2:=blk_frozen BK234.out 2;have hfz19_3:=blk_frozen BK234.out 3)|((with_reducible refine gate_callee (f:=30) rfl ?_);refine goesL_ (some 16) rfl rfl Try.func30 (by kernel_rfl) rfl #[.agg #[.int .i64 a0_0,.int .i64 a0_1,.int .i64 a0_2,.slice A0_3 l0_3.length c0_3]] rfl (by (try simp only [List.map_toArray,List.map_cons,List.map_nil]);first|done|rfl|(simp only [List.length_drop,List.length_take];rfl)) ?_;(with_reducible refine (laws_toNode.calls k a0_0 a0_1 a0_2 _ _ l0_3 t243 t244 t245 t246 _ ?side1 ?side2 A9.out).mono ?_);(case side1 => repeat (first|exact (Kd.C_below HR0_3.out HB.out)|(with_reducible refine Kd.C_alloc ?_ _)|(with_reducible refine Kd.C_drewN ?_ _)|(with_reducible refine Kd.C_drew ?_)));(case side2 => exact HC0_3.out);rintro e w20 ⟨v247,rfl,ho0,hb⟩;refine ⟨_,rfl,?_⟩;have n0_:=aM (Kd.R_elder' (by (with_reducible repeat (first|apply Kd.R_alloc|apply Kd.R_drewN|apply Kd.R_drew));exact HO241.out) (Kd.R_base ho0) hb);have n1_:=aM (Kd.R_lower (Kd.R_new' ho0 (Kd.R_lt (by (with_reducible repeat (first|apply Kd.R_alloc|apply Kd.R_drewN|apply Kd.R_drew));exact HO241.out))) (below_size (by repeat (first|(with_reducible first|exact HB.out|apply bA|apply bN|apply bD|refine below_set ?_ GE234.out)|exact HB.out))));have n2_:=aM (blk_below (g:=gb234) (o:=.cells #[.int .i64 a0_0,.int .i64 a0_1,.int .i64 a0_2,.slice A0_3 l0_3.length c0_3] 54 (0,0)) (by (with_reducible repeat (first|refine blk_drewN ?_ _|refine blk_drew ?_|refine blk_alloc ?_ _));exact BK234.out) hb);have n3_:=aM (below_step (by repeat (first|(with_reducible first|exact HB.out|apply bA|apply bN|apply bD|refine below_set ?_ GE234.out)|exact HB.out)) hb);clear HO241;clear BK234;clear HB;have HO241:=n0_;have HO248:=n1_;have BK234:=n2_;have HB:=n3_;clear n0_ n1_ n2_ n3_;(try clear hb);(try clear hb2);(try clear hk);(try clear hi);(try clear ho0))|((with_reducible refine gate_dst (N:=5) rfl ?_);refine box_event ?hg (N:=5) ?hd (cs:=#[.int .i64 0,.int .i64 0,.int .i64 0,.slice none 0 0]) (t:=39) ?hr ?_;(case hd => rfl);(case hg => rfl);(case hr => first|(go_simp;done)|(go_simp;rfl));intro gb249 hg w21 hbox hb;have n0_:=aM (Kd.R_below (by (with_reducible repeat (first|apply Kd.R_alloc|apply Kd.R_drewN|apply Kd.R_drew));exact HO241.out) hb);have n1_:=aM (Kd.R_below (by (with_reducible repeat (first|apply Kd.R_alloc|apply Kd.R_drewN|apply Kd.R_drew));exact HO248.out) hb);have n2_:=aM (blk_below (g:=gb234) (o:=.cells #[.int .i64 a0_0,.int .i64 a0_1,.int .i64 a0_2,.slice A0_3 l0_3.length c0_3] 54 (0,0)) (by (with_reducible repeat (first|refine blk_drewN ?_ _|refine blk_drew ?_|refine blk_alloc ?_ _));exact BK234.out) hb);have n3_:=aM (below_step (by repeat (first|(with_reducible first|exact HB.out|apply bA|apply bN|apply bD|refine below_set ?_ GE234.out)|exact HB.out)) hb);have n4_:=aM (hbox);have n5_:=aM ((by rw [hg];exact (below_size (by repeat (first|(with_reducible first|exact HB.out|apply bA|apply bN|apply bD|refine below_set ?_ GE234.out)|exact HB.out))) : w.heap.size ≤ gb249));have n6_:=aM ((by rw [hg];exact (below_size (by repeat (first|(with_reducible first|exact HB.out|apply bA|apply bN|apply bD|refine below_set ?_ GE234.out)|exact HB.out))) : w.heap.size ≤ gb249));have n7_:=aM ((by rw [hg];exact Nat.ne_of_lt (blk_lt (g:=gb234) (o:=.cells #[.int .i64 a0_0,.int .i64 a0_1,.int .i64 a0_2,.slice A0_3 l0_3.length c0_3] 54 (0,0)) (by (with_reducible repeat (first|refine blk_drewN ?_ _|refine blk_drew ?_|refine blk_alloc ?_ _));exact BK234.out)) : gb234 ≠ gb249));have n8_:=aM ((by rw [hg];exact Nat.ne_of_gt (blk_lt (g:=gb234) (o:=.cells #[.int .i64 a0_0,.int .i64 a0_1,.int .i64 a0_2,.slice A0_3 l0_3.length c0_3] 54 (0,0)) (by (with_reducible repeat (first|refine blk_drewN ?_ _|refine blk_drew ?_|refine blk_alloc ?_ _));exact BK234.out)) : gb249 ≠ gb234));clear HO241;clear HO248;clear BK234;clear HB;have HO241:=n0_;have HO248:=n1_;have BK234:=n2_;have HB:=n3_;have BK249:=n4_;have GW249:=n5_;have GE249:=n6_;have NB234_249:=n7_;have NB249_234:=n8_;clear n0_ n1_ n2_ n3_ n4_ n5_ n6_ n7_ n8_;clear hb hbox hg;have hnb22:=NB249_234.out;have hnc22:=NB234_249.out;have hcz23_0 : w21.cell? ⟨gb249,0,none⟩ = some (.int .i64 0):=(blk_cell BK249.out 0).trans rfl;have hcz23_1 : w21.cell? ⟨gb249,1,none⟩ = some (.int .i64 0):=(blk_cell BK249.out 1).trans rfl;have hcz23_2 : w21.cell? ⟨gb249,2,none⟩ = some (.int .i64 0):=(blk_cell BK249.out 2).trans rfl;have hcz23_3 : w21.cell? ⟨gb249,3,none⟩ = some (.slice none 0 0):=(blk_cell BK249.out 3).trans rfl;have hfz23_0:=blk_frozen BK249.out 0;have hfz23_1:=blk_frozen BK249.out 1;have hfz23_2:=blk_frozen BK249.out 2;have hfz23_3:=blk_frozen BK249.out 3;obtain ⟨Ao24,co24,eo24⟩:=Kd.R_slice HO248.out;subst eo24)|((with_reducible refine gate_callee (f:=31) rfl ?_);refine goesL_ (some 18) rfl rfl Try.func31 (by kernel_rfl) rfl #[.agg #[.int .i64 t243,.int .i64 t244,.int .i64 t245,.slice Ao24 t246.length co24]] rfl (by (try simp only [List.map_toArray,List.map_cons,List.map_nil]);first|done|rfl|(simp only [List.length_drop,List.length_take];rfl)) ?_;(with_reducible refine (impl_NodeOk.calls k t243 t244 t245 _ _ t246 t250 _ ?side1 ?side2 A10.out).mono ?_);(case side1 => refine (Kd.R_reads' (e:=25) (base:=w.heap.size) (ok:=fun k_ => (True ∧ some k_ ≠ (.slice Ao17 t239.length co17 : Value).ownBlock)) (n:=t246.length) (c:=co24) ?_).2.2;exact (by (with_reducible repeat (first|apply Kd.R_alloc|apply Kd.R_drewN|apply Kd.R_drew));exact (Kd.R_mono (Kd.R_far (p:=⟨gb249,3,none⟩) (Kd.R_far (p:=⟨gb249,2,none⟩) (Kd.R_far (p:=⟨gb249,1,none⟩) (Kd.R_far (p:=⟨gb249,0,none⟩) (Kd.R_types HO248.out BK249.out (by decide)) (fun _ hk => hk.2) (.int .i64 t243)) (fun _ hk => hk.2) (.int .i64 t244)) (fun _ hk => hk.2) (.int .i64 t245)) (fun _ hk => hk.2) (.slice Ao24 t246.length co24)) (fun _ h_ => h_.1))));(case side2 => exact (Kd.R_reads' HO248.out).2.1);rintro e w25 ⟨rfl,hb⟩;refine ⟨_,rfl,?_⟩;have n0_:=aM (Kd.R_below (by (with_reducible repeat (first|apply Kd.R_alloc|apply Kd.R_drewN|apply Kd.R_drew));exact (Kd.R_mono (Kd.R_far (p:=⟨gb249,3,none⟩) (Kd.R_far (p:=⟨gb249,2,none⟩) (Kd.R_far (p:=⟨gb249,1,none⟩) (Kd.R_far (p:=⟨gb249,0,none⟩) (Kd.R_types HO241.out BK249.out (by decide)) (fun _ hk => hk.2) (.int .i64 t243)) (fun _ hk => hk.2) (.int .i64 t244)) (fun _ hk => hk.2) (.int .i64 t245)) (fun _ hk => hk.2) (.slice Ao24 t246.length co24)) (fun _ h_ => h_.1))) hb);have n1_:=aM (Kd.R_below (by (with_reducible repeat (first|apply Kd.R_alloc|apply Kd.R_drewN|apply Kd.R_drew));exact (Kd.R_mono (Kd.R_far (p:=⟨gb249,3,none⟩) (Kd.R_far (p:=⟨gb249,2,none⟩) (Kd.R_far (p:=⟨gb249,1,none⟩) (Kd.R_far (p:=⟨gb249,0,none⟩) (Kd.R_types HO248.out BK249.out (by decide)) (fun _ hk => hk.2) (.int .i64 t243)) (fun _ hk => hk.2) (.int .i64 t244)) (fun _ hk => hk.2) (.int .i64 t245)) (fun _ hk => hk.2) (.slice Ao24 t246.length co24)) (fun _ h_ => h_.1))) hb);have n2_:=aM (blk_below (g:=gb234) (o:=.cells #[.int .i64 a0_0,.int .i64 a0_1,.int .i64 a0_2,.slice A0_3 l0_3.length c0_3] 54 (0,0)) (by (with_reducible repeat (first|refine blk_drewN ?_ _|refine blk_drew ?_|refine blk_alloc ?_ _));refine blk_far ?_ NB234_249.out _;(with_reducible repeat (first|refine blk_drewN ?_ _|refine blk_drew ?_|refine blk_alloc ?_ _));refine blk_far ?_ NB234_249.out _;(with_reducible repeat (first|refine blk_drewN ?_ _|refine blk_drew ?_|refine blk_alloc ?_ _));refine blk_far ?_ NB234_249.out _;(with_reducible repeat (first|refine blk_drewN ?_ _|refine blk_drew ?_|refine blk_alloc ?_ _));refine blk_far ?_ NB234_249.out _;(with_reducible repeat (first|refine blk_drewN ?_ _|refine blk_drew ?_|refine blk_alloc ?_ _));exact BK234.out) hb);have n3_:=aM (blk_below (g:=gb249) (o:=.cells #[.int .i64 t243,.int .i64 t244,.int .i64 t245,.slice Ao24 t246.length co24] 39 (0,0)) (by (with_reducible repeat (first|refine blk_drewN ?_ _|refine blk_drew ?_|refine blk_alloc ?_ _));refine blk_put (cs:=#[.int .i64 t243,.int .i64 t244,.int .i64 t245,.slice none 0 0]) ?_ 3 _ rfl;(with_reducible repeat (first|refine blk_drewN ?_ _|refine blk_drew ?_|refine blk_alloc ?_ _));refine blk_put (cs:=#[.int .i64 t243,.int .i64 t244,.int .i64 0,.slice none 0 0]) ?_ 2 _ rfl;(with_reducible repeat (first|refine blk_drewN ?_ _|refine blk_drew ?_|refine blk_alloc ?_ _));refine blk_put (cs:=#[.int .i64 t243,.int .i64 0,.int .i64 0,.slice none 0 0]) ?_ 1 _ rfl;(with_reducible repeat (first|refine blk_drewN ?_ _|refine blk_drew ?_|refine blk_alloc ?_ _));refine blk_put (cs:=#[.int .i64 0,.int .i64 0,.int .i64 0,.slice none 0 0]) ?_ 0 _ rfl;(with_reducible repeat (first|refine blk_drewN ?_ _|refine blk_drew ?_|refine blk_alloc ?_ _));exact BK249.out) hb);have n4_:=aM (below_step (by repeat (first|(with_reducible first|exact HB.out|apply bA|apply bN|apply bD|refine below_set ?_ GE234.out|refine below_set ?_ GE249.out)|exact HB.out)) hb);clear HO241;clear HO248;clear BK234;clear BK249;clear HB;have HO241:=n0_;have HO248:=n1_;have BK234:=n2_;have BK249:=n3_;have HB:=n4_;clear n0_ n1_ n2_ n3_ n4_;(try clear hb);(try clear hb2);(try clear hk);(try clear hi)))
   go_ret
   exact ⟨by first|rfl|(simp only [i64_w,i32_w];done)|(simp only [i64_w,i32_w];rfl)|(simp [errW_none,errW_some] <;> rfl)|(simp [*,errW_none,errW_some] <;> rfl),by repeat (first|(with_reducible first|exact HB.out|apply bA|apply bN|apply bD|refine below_set ?_ GE234.out|refine below_set ?_ GE249.out)|exact HB.out)⟩
  ·rw [if_neg c11] at H
   have c11b0 : (t250 != t242) = false:=by simpa using c11
   (try (have c11b1 : decide (t250 = t242) = true:=by simpa using c11))
   (try (have c11b2 : (t250 == t242) = true:=by simpa using c11))
   clear c11
   replace H:=Option.bind_eq_some_iff.mp H
   obtain ⟨⟨t251,t252,t253,t254⟩,A260,H⟩:=H
   replace H : ((laws_eqNode.f k t243 t244 t245 t246 t251 t252 t253 t254).bind fun t257 => (if t257 = true then (some true) else (some false))) = some r:=H
   have A26:=aM A260
   clear A260
   replace H:=Option.bind_eq_some_iff.mp H
   obtain ⟨t257,A270,H⟩:=H
   replace H : (if t257 = true then (some true) else (some false)) = some r:=H
   have A27:=aM A270
   clear A270
   by_cases c28 : t257 = true
   ·subst c28
    have H1 : (some true) = some r:=by rw [if_pos rfl] at H;exact H
    clear H
    have H:=H1
    clear H1
    obtain rfl:=Option.some.inj H
    go_enter Try.func8,Try.ntmps8
    try go_wp2_with (first|((with_reducible refine gate_dst (N:=1) rfl ?_);refine box_event ?hg (N:=1) ?hd (cs:=#[.int .i64 a0_0,.int .i64 a0_1,.int .i64 a0_2,.slice A0_3 l0_3.length c0_3]) (t:=54) ?hr ?_;(case hd => rfl);(case hg => rfl);(case hr => first|(go_simp;done)|(go_simp;rfl));intro gb234 hg w29 hbox hb;have n0_:=aM (below_step (by repeat (first|(with_reducible first|exact HB.out|apply bA|apply bN|apply bD)|exact HB.out)) hb);have n1_:=aM (hbox);have n2_:=aM ((by rw [hg];exact (below_size (by repeat (first|(with_reducible first|exact HB.out|apply bA|apply bN|apply bD)|exact HB.out))) : w.heap.size ≤ gb234));have n3_:=aM ((by rw [hg];exact (below_size (by repeat (first|(with_reducible first|exact HB.out|apply bA|apply bN|apply bD)|exact HB.out))) : w.heap.size ≤ gb234));clear HB;have HB:=n0_;have BK234:=n1_;have GW234:=n2_;have GE234:=n3_;clear n0_ n1_ n2_ n3_;clear hb hbox hg;have hcz30_0 : w29.cell? ⟨gb234,0,none⟩ = some (.int .i64 a0_0):=(blk_cell BK234.out 0).trans rfl;have hcz30_1 : w29.cell? ⟨gb234,1,none⟩ = some (.int .i64 a0_1):=(blk_cell BK234.out 1).trans rfl;have hcz30_2 : w29.cell? ⟨gb234,2,none⟩ = some (.int .i64 a0_2):=(blk_cell BK234.out 2).trans rfl;have hcz30_3 : w29.cell? ⟨gb234,3,none⟩ = some (.slice A0_3 l0_3.length c0_3):=(blk_cell BK234.out 3).trans rfl;have hfz30_0:=blk_frozen BK234.out 0;have hfz30_1:=blk_frozen BK234.out 1;have hfz30_2:=blk_frozen BK234.out 2;have hfz30_3:=blk_frozen BK234.out 3)|((with_reducible refine gate_callee (f:=28) rfl ?_);refine goesL_ (some 9) rfl rfl Try.func28 (by kernel_rfl) rfl #[.agg #[.int .i64 a0_0,.int .i64 a0_1,.int .i64 a0_2,.slice A0_3 l0_3.length c0_3],.int .i64 1048576] rfl (by (try simp only [List.map_toArray,List.map_cons,List.map_nil]);first|done|rfl|(simp only [List.length_drop,List.length_take];rfl)) ?_;(with_reducible refine (laws_szNode.calls k a0_0 a0_1 a0_2 _ _ l0_3 1048576 t235 _ ?side1 ?side2 A2.out).mono ?_);(case side1 => repeat (first|exact (Kd.C_below HR0_3.out HB.out)|(with_reducible refine Kd.C_alloc ?_ _)|(with_reducible refine Kd.C_drewN ?_ _)|(with_reducible refine Kd.C_drew ?_)));(case side2 => exact HC0_3.out);rintro e w31 ⟨rfl,hb⟩;refine ⟨_,rfl,?_⟩;have n0_:=aM (blk_below (g:=gb234) (o:=.cells #[.int .i64 a0_0,.int .i64 a0_1,.int .i64 a0_2,.slice A0_3 l0_3.length c0_3] 54 (0,0)) (by (with_reducible repeat (first|refine blk_drewN ?_ _|refine blk_drew ?_|refine blk_alloc ?_ _));exact BK234.out) hb);have n1_:=aM (below_step (by repeat (first|(with_reducible first|exact HB.out|apply bA|apply bN|apply bD|refine below_set ?_ GE234.out)|exact HB.out)) hb);clear BK234;clear HB;have BK234:=n0_;have HB:=n1_;clear n0_ n1_;(try clear hb);(try clear hb2);(try clear hk);(try clear hi);have hcz32_0 : w31.cell? ⟨gb234,0,none⟩ = some (.int .i64 a0_0):=(blk_cell BK234.out 0).trans rfl;have hcz32_1 : w31.cell? ⟨gb234,1,none⟩ = some (.int .i64 a0_1):=(blk_cell BK234.out 1).trans rfl;have hcz32_2 : w31.cell? ⟨gb234,2,none⟩ = some (.int .i64 a0_2):=(blk_cell BK234.out 2).trans rfl;have hcz32_3 : w31.cell? ⟨gb234,3,none⟩ = some (.slice A0_3 l0_3.length c0_3):=(blk_cell BK234.out 3).trans rfl;have hfz32_0:=blk_frozen BK234.out 0;have hfz32_1:=blk_frozen BK234.out 1;have hfz32_2:=blk_frozen BK234.out 2;have hfz32_3:=blk_frozen BK234.out 3)|((with_reducible refine gate_callee (f:=30) rfl ?_);refine goesL_ (some 13) rfl rfl Try.func30 (by kernel_rfl) rfl #[.agg #[.int .i64 a0_0,.int .i64 a0_1,.int .i64 a0_2,.slice A0_3 l0_3.length c0_3]] rfl (by (try simp only [List.map_toArray,List.map_cons,List.map_nil]);first|done|rfl|(simp only [List.length_drop,List.length_take];rfl)) ?_;(with_reducible refine (laws_toNode.calls k a0_0 a0_1 a0_2 _ _ l0_3 t236 t237 t238 t239 _ ?side1 ?side2 A7.out).mono ?_);(case side1 => repeat (first|exact (Kd.C_below HR0_3.out HB.out)|(with_reducible refine Kd.C_alloc ?_ _)|(with_reducible refine Kd.C_drewN ?_ _)|(with_reducible refine Kd.C_drew ?_)));(case side2 => exact HC0_3.out);rintro e w33 ⟨v240,rfl,ho0,hb⟩;refine ⟨_,rfl,?_⟩;have n0_:=aM (Kd.R_lower ho0 (below_size (by repeat (first|(with_reducible first|exact HB.out|apply bA|apply bN|apply bD|refine below_set ?_ GE234.out)|exact HB.out))));have n1_:=aM (blk_below (g:=gb234) (o:=.cells #[.int .i64 a0_0,.int .i64 a0_1,.int .i64 a0_2,.slice A0_3 l0_3.length c0_3] 54 (0,0)) (by (with_reducible repeat (first|refine blk_drewN ?_ _|refine blk_drew ?_|refine blk_alloc ?_ _));exact BK234.out) hb);have n2_:=aM (below_step (by repeat (first|(with_reducible first|exact HB.out|apply bA|apply bN|apply bD|refine below_set ?_ GE234.out)|exact HB.out)) hb);clear BK234;clear HB;have HO241:=n0_;have BK234:=n1_;have HB:=n2_;clear n0_ n1_ n2_;(try clear hb);(try clear hb2);(try clear hk);(try clear hi);(try clear ho0);obtain ⟨Ao34,co34,eo34⟩:=Kd.R_slice HO241.out;subst eo34)|((with_reducible refine gate_callee (f:=29) rfl ?_);refine goesL_ (some 14) rfl rfl Try.func29 (by kernel_rfl) rfl #[.agg #[.int .i64 t236,.int .i64 t237,.int .i64 t238,.slice Ao34 t239.length co34]] rfl (by (try simp only [List.map_toArray,List.map_cons,List.map_nil]);first|done|rfl|(simp only [List.length_drop,List.length_take];rfl)) ?_;(with_reducible refine (spec_NodeOk.calls k t236 t237 t238 _ _ t239 t242 _ ?side1 ?side2 A8.out).mono ?_);(case side1 => repeat (first|exact (Kd.R_reads' HO241.out).2.2|(with_reducible refine Kd.C_alloc ?_ _)|(with_reducible refine Kd.C_drewN ?_ _)|(with_reducible refine Kd.C_drew ?_)));(case side2 => exact (Kd.R_reads' HO241.out).2.1);rintro e w35 ⟨rfl,hb⟩;refine ⟨_,rfl,?_⟩;have n0_:=aM (Kd.R_below (by (with_reducible repeat (first|apply Kd.R_alloc|apply Kd.R_drewN|apply Kd.R_drew));exact HO241.out) hb);have n1_:=aM (blk_below (g:=gb234) (o:=.cells #[.int .i64 a0_0,.int .i64 a0_1,.int .i64 a0_2,.slice A0_3 l0_3.length c0_3] 54 (0,0)) (by (with_reducible repeat (first|refine blk_drewN ?_ _|refine blk_drew ?_|refine blk_alloc ?_ _));exact BK234.out) hb);have n2_:=aM (below_step (by repeat (first|(with_reducible first|exact HB.out|apply bA|apply bN|apply bD|refine below_set ?_ GE234.out)|exact HB.out)) hb);clear HO241;clear BK234;clear HB;have HO241:=n0_;have BK234:=n1_;have HB:=n2_;clear n0_ n1_ n2_;(try clear hb);(try clear hb2);(try clear hk);(try clear hi);have hcz36_0 : w35.cell? ⟨gb234,0,none⟩ = some (.int .i64 a0_0):=(blk_cell BK234.out 0).trans rfl;have hcz36_1 : w35.cell? ⟨gb234,1,none⟩ = some (.int .i64 a0_1):=(blk_cell BK234.out 1).trans rfl;have hcz36_2 : w35.cell? ⟨gb234,2,none⟩ = some (.int .i64 a0_2):=(blk_cell BK234.out 2).trans rfl;have hcz36_3 : w35.cell? ⟨gb234,3,none⟩ = some (.slice A0_3 l0_3.length c0_3):=(blk_cell BK234.out 3).trans rfl;have hfz36_0:=blk_frozen BK234.out 0;have hfz36_1:=blk_frozen BK234.out 1;have hfz36_2:=blk_frozen BK234.out 2;have hfz36_3:=blk_frozen BK234.out 3)|((with_reducible refine gate_callee (f:=30) rfl ?_);refine goesL_ (some 16) rfl rfl Try.func30 (by kernel_rfl) rfl #[.agg #[.int .i64 a0_0,.int .i64 a0_1,.int .i64 a0_2,.slice A0_3 l0_3.length c0_3]] rfl (by (try simp only [List.map_toArray,List.map_cons,List.map_nil]);first|done|rfl|(simp only [List.length_drop,List.length_take];rfl)) ?_;(with_reducible refine (laws_toNode.calls k a0_0 a0_1 a0_2 _ _ l0_3 t243 t244 t245 t246 _ ?side1 ?side2 A9.out).mono ?_);(case side1 => repeat (first|exact (Kd.C_below HR0_3.out HB.out)|(with_reducible refine Kd.C_alloc ?_ _)|(with_reducible refine Kd.C_drewN ?_ _)|(with_reducible refine Kd.C_drew ?_)));(case side2 => exact HC0_3.out);rintro e w37 ⟨v247,rfl,ho0,hb⟩;refine ⟨_,rfl,?_⟩;have n0_:=aM (Kd.R_elder' (by (with_reducible repeat (first|apply Kd.R_alloc|apply Kd.R_drewN|apply Kd.R_drew));exact HO241.out) (Kd.R_base ho0) hb);have n1_:=aM (Kd.R_lower (Kd.R_new' ho0 (Kd.R_lt (by (with_reducible repeat (first|apply Kd.R_alloc|apply Kd.R_drewN|apply Kd.R_drew));exact HO241.out))) (below_size (by repeat (first|(with_reducible first|exact HB.out|apply bA|apply bN|apply bD|refine below_set ?_ GE234.out)|exact HB.out))));have n2_:=aM (blk_below (g:=gb234) (o:=.cells #[.int .i64 a0_0,.int .i64 a0_1,.int .i64 a0_2,.slice A0_3 l0_3.length c0_3] 54 (0,0)) (by (with_reducible repeat (first|refine blk_drewN ?_ _|refine blk_drew ?_|refine blk_alloc ?_ _));exact BK234.out) hb);have n3_:=aM (below_step (by repeat (first|(with_reducible first|exact HB.out|apply bA|apply bN|apply bD|refine below_set ?_ GE234.out)|exact HB.out)) hb);clear HO241;clear BK234;clear HB;have HO241:=n0_;have HO248:=n1_;have BK234:=n2_;have HB:=n3_;clear n0_ n1_ n2_ n3_;(try clear hb);(try clear hb2);(try clear hk);(try clear hi);(try clear ho0))|((with_reducible refine gate_dst (N:=5) rfl ?_);refine box_event ?hg (N:=5) ?hd (cs:=#[.int .i64 0,.int .i64 0,.int .i64 0,.slice none 0 0]) (t:=39) ?hr ?_;(case hd => rfl);(case hg => rfl);(case hr => first|(go_simp;done)|(go_simp;rfl));intro gb249 hg w38 hbox hb;have n0_:=aM (Kd.R_below (by (with_reducible repeat (first|apply Kd.R_alloc|apply Kd.R_drewN|apply Kd.R_drew));exact HO241.out) hb);have n1_:=aM (Kd.R_below (by (with_reducible repeat (first|apply Kd.R_alloc|apply Kd.R_drewN|apply Kd.R_drew));exact HO248.out) hb);have n2_:=aM (blk_below (g:=gb234) (o:=.cells #[.int .i64 a0_0,.int .i64 a0_1,.int .i64 a0_2,.slice A0_3 l0_3.length c0_3] 54 (0,0)) (by (with_reducible repeat (first|refine blk_drewN ?_ _|refine blk_drew ?_|refine blk_alloc ?_ _));exact BK234.out) hb);have n3_:=aM (below_step (by repeat (first|(with_reducible first|exact HB.out|apply bA|apply bN|apply bD|refine below_set ?_ GE234.out)|exact HB.out)) hb);have n4_:=aM (hbox);have n5_:=aM ((by rw [hg];exact (below_size (by repeat (first|(with_reducible first|exact HB.out|apply bA|apply bN|apply bD|refine below_set ?_ GE234.out)|exact HB.out))) : w.heap.size ≤ gb249));have n6_:=aM ((by rw [hg];exact (below_size (by repeat (first|(with_reducible first|exact HB.out|apply bA|apply bN|apply bD|refine below_set ?_ GE234.out)|exact HB.out))) : w.heap.size ≤ gb249));have n7_:=aM ((by rw [hg];exact Nat.ne_of_lt (blk_lt (g:=gb234) (o:=.cells #[.int .i64 a0_0,.int .i64 a0_1,.int .i64 a0_2,.slice A0_3 l0_3.length c0_3] 54 (0,0)) (by (with_reducible repeat (first|refine blk_drewN ?_ _|refine blk_drew ?_|refine blk_alloc ?_ _));exact BK234.out)) : gb234 ≠ gb249));have n8_:=aM ((by rw [hg];exact Nat.ne_of_gt (blk_lt (g:=gb234) (o:=.cells #[.int .i64 a0_0,.int .i64 a0_1,.int .i64 a0_2,.slice A0_3 l0_3.length c0_3] 54 (0,0)) (by (with_reducible repeat (first|refine blk_drewN ?_ _|refine blk_drew ?_|refine blk_alloc ?_ _));exact BK234.out)) : gb249 ≠ gb234));clear HO241;clear HO248;clear BK234;clear HB;have HO241:=n0_;have HO248:=n1_;have BK234:=n2_;have HB:=n3_;have BK249:=n4_;have GW249:=n5_;have GE249:=n6_;have NB234_249:=n7_;have NB249_234:=n8_;clear n0_ n1_ n2_ n3_ n4_ n5_ n6_ n7_ n8_;clear hb hbox hg;have hnb39:=NB249_234.out;have hnc39:=NB234_249.out;have hcz40_0 : w38.cell? ⟨gb249,0,none⟩ = some (.int .i64 0):=(blk_cell BK249.out 0).trans rfl;have hcz40_1 : w38.cell? ⟨gb249,1,none⟩ = some (.int .i64 0):=(blk_cell BK249.out 1).trans rfl;have hcz40_2 : w38.cell? ⟨gb249,2,none⟩ = some (.int .i64 0):=(blk_cell BK249.out 2).trans rfl;have hcz40_3 : w38.cell? ⟨gb249,3,none⟩ = some (.slice none 0 0):=(blk_cell BK249.out 3).trans rfl;have hfz40_0:=blk_frozen BK249.out 0;have hfz40_1:=blk_frozen BK249.out 1;have hfz40_2:=blk_frozen BK249.out 2;have hfz40_3:=blk_frozen BK249.out 3;obtain ⟨Ao41,co41,eo41⟩:=Kd.R_slice HO248.out;subst eo41)|((with_reducible refine gate_callee (f:=31) rfl ?_);refine goesL_ (some 18) rfl rfl Try.func31 (by kernel_rfl) rfl #[.agg #[.int .i64 t243,.int .i64 t244,.int .i64 t245,.slice Ao41 t246.length co41]] rfl (by (try simp only [List.map_toArray,List.map_cons,List.map_nil]);first|done|rfl|(simp only [List.length_drop,List.length_take];rfl)) ?_;(with_reducible refine (impl_NodeOk.calls k t243 t244 t245 _ _ t246 t250 _ ?side1 ?side2 A10.out).mono ?_);(case side1 => refine (Kd.R_reads' (e:=25) (base:=w.heap.size) (ok:=fun k_ => (True ∧ some k_ ≠ (.slice Ao34 t239.length co34 : Value).ownBlock)) (n:=t246.length) (c:=co41) ?_).2.2;exact (by (with_reducible repeat (first|apply Kd.R_alloc|apply Kd.R_drewN|apply Kd.R_drew));exact (Kd.R_mono (Kd.R_far (p:=⟨gb249,3,none⟩) (Kd.R_far (p:=⟨gb249,2,none⟩) (Kd.R_far (p:=⟨gb249,1,none⟩) (Kd.R_far (p:=⟨gb249,0,none⟩) (Kd.R_types HO248.out BK249.out (by decide)) (fun _ hk => hk.2) (.int .i64 t243)) (fun _ hk => hk.2) (.int .i64 t244)) (fun _ hk => hk.2) (.int .i64 t245)) (fun _ hk => hk.2) (.slice Ao41 t246.length co41)) (fun _ h_ => h_.1))));(case side2 => exact (Kd.R_reads' HO248.out).2.1);rintro e w42 ⟨rfl,hb⟩;refine ⟨_,rfl,?_⟩;have n0_:=aM (Kd.R_below (by (with_reducible repeat (first|apply Kd.R_alloc|apply Kd.R_drewN|apply Kd.R_drew));exact (Kd.R_mono (Kd.R_far (p:=⟨gb249,3,none⟩) (Kd.R_far (p:=⟨gb249,2,none⟩) (Kd.R_far (p:=⟨gb249,1,none⟩) (Kd.R_far (p:=⟨gb249,0,none⟩) (Kd.R_types HO241.out BK249.out (by decide)) (fun _ hk => hk.2) (.int .i64 t243)) (fun _ hk => hk.2) (.int .i64 t244)) (fun _ hk => hk.2) (.int .i64 t245)) (fun _ hk => hk.2) (.slice Ao41 t246.length co41)) (fun _ h_ => h_.1))) hb);have n1_:=aM (Kd.R_below (by (with_reducible repeat (first|apply Kd.R_alloc|apply Kd.R_drewN|apply Kd.R_drew));exact (Kd.R_mono (Kd.R_far (p:=⟨gb249,3,none⟩) (Kd.R_far (p:=⟨gb249,2,none⟩) (Kd.R_far (p:=⟨gb249,1,none⟩) (Kd.R_far (p:=⟨gb249,0,none⟩) (Kd.R_types HO248.out BK249.out (by decide)) (fun _ hk => hk.2) (.int .i64 t243)) (fun _ hk => hk.2) (.int .i64 t244)) (fun _ hk => hk.2) (.int .i64 t245)) (fun _ hk => hk.2) (.slice Ao41 t246.length co41)) (fun _ h_ => h_.1))) hb);have n2_:=aM (blk_below (g:=gb234) (o:=.cells #[.int .i64 a0_0,.int .i64 a0_1,.int .i64 a0_2,.slice A0_3 l0_3.length c0_3] 54 (0,0)) (by (with_reducible repeat (first|refine blk_drewN ?_ _|refine blk_drew ?_|refine blk_alloc ?_ _));refine blk_far ?_ NB234_249.out _;(with_reducible repeat (first|refine blk_drewN ?_ _|refine blk_drew ?_|refine blk_alloc ?_ _));refine blk_far ?_ NB234_249.out _;(with_reducible repeat (first|refine blk_drewN ?_ _|refine blk_drew ?_|refine blk_alloc ?_ _));refine blk_far ?_ NB234_249.out _;(with_reducible repeat (first|refine blk_drewN ?_ _|refine blk_drew ?_|refine blk_alloc ?_ _));refine blk_far ?_ NB234_249.out _;(with_reducible repeat (first|refine blk_drewN ?_ _|refine blk_drew ?_|refine blk_alloc ?_ _));exact BK234.out) hb);have n3_:=aM (blk_below (g:=gb249) (o:=.cells #[.int .i64 t243,.int .i64 t244,.int .i64 t245,.slice Ao41 t246.length co41] 39 (0,0)) (by (with_reducible repeat (first|refine blk_drewN ?_ _|refine blk_drew ?_|refine blk_alloc ?_ _));refine blk_put (cs:=#[.int .i64 t243,.int .i64 t244,.int .i64 t245,.slice none 0 0]) ?_ 3 _ rfl;(with_reducible repeat (first|refine blk_drewN ?_ _|refine blk_drew ?_|refine blk_alloc ?_ _));refine blk_put (cs:=#[.int .i64 t243,.int .i64 t244,.int .i64 0,.slice none 0 0]) ?_ 2 _ rfl;(with_reducible repeat (first|refine blk_drewN ?_ _|refine blk_drew ?_|refine blk_alloc ?_ _));refine blk_put (cs:=#[.int .i64 t243,.int .i64 0,.int .i64 0,.slice none 0 0]) ?_ 1 _ rfl;(with_reducible repeat (first|refine blk_drewN ?_ _|refine blk_drew ?_|refine blk_alloc ?_ _));refine blk_put (cs:=#[.int .i64 0,.int .i64 0,.int .i64 0,.slice none 0 0]) ?_ 0 _ rfl;(with_reducible repeat (first|refine blk_drewN ?_ _|refine blk_drew ?_|refine blk_alloc ?_ _));exact BK249.out) hb);have n4_:=aM (below_step (by repeat (first|(with_reducible first|exact HB.out|apply bA|apply bN|apply bD|refine below_set ?_ GE234.out|refine below_set ?_ GE249.out)|exact HB.out)) hb);clear HO241;clear HO248;clear BK234;clear BK249;clear HB;have HO241:=n0_;have HO248:=n1_;have BK234:=n2_;have BK249:=n3_;have HB:=n4_;clear n0_ n1_ n2_ n3_ n4_;(try clear hb);(try clear hb2);(try clear hk);(try clear hi)))
    have n0_:=aM (Kd.R_drew HO241.out)
    have n1_:=aM (Kd.R_drew HO248.out)
    have n2_:=aM (blk_drew BK234.out)
    have n3_:=aM (blk_drew BK249.out)
    have n4_:=aM (bD HB.out)
    clear HO241
    clear HO248
    clear BK234
    clear BK249
    clear HB
    have HO241:=n0_
    have HO248:=n1_
    have BK234:=n2_
    have BK249:=n3_
    have HB:=n4_
    clear n0_ n1_ n2_ n3_ n4_
    refine start_ (n:=5) (S:=fun w' => w'.cell? ⟨gb249,0,none⟩ = some (.int .i64 t243) ∧ w'.cell? ⟨gb249,1,none⟩ = some (.int .i64 t244) ∧ w'.cell? ⟨gb249,2,none⟩ = some (.int .i64 t245) ∧ w'.cell? ⟨gb249,3,none⟩ = some (.slice Ao41 t246.length co41) ∧ w'.cell? ⟨gb234,0,none⟩ = some (.int .i64 a0_0) ∧ w'.cell? ⟨gb234,1,none⟩ = some (.int .i64 a0_1) ∧ w'.cell? ⟨gb234,2,none⟩ = some (.int .i64 a0_2) ∧ w'.cell? ⟨gb234,3,none⟩ = some (.slice A0_3 l0_3.length c0_3)) (ds:=[]) #[bF,bF,bF,bF,bF] (by kernel_rfl) rfl rfl ⟨(blk_cell BK249.out 0).trans rfl,(blk_cell BK249.out 1).trans rfl,(blk_cell BK249.out 2).trans rfl,(blk_cell BK249.out 3).trans rfl,(blk_cell BK234.out 0).trans rfl,(blk_cell BK234.out 1).trans rfl,(blk_cell BK234.out 2).trans rfl,(blk_cell BK234.out 3).trans rfl⟩ (fun hHeld => ?_)
    generalize w42.drew = w43 at HO241 HO248 BK234 BK249 HB hHeld ⊢
    refine take_ (i:=0) (N:=some 22) (v:=?_) (a':=?_) #[bT,bF,bF,bF,bF] rfl rfl (by kernel_rfl) (fun _ _ _ h => h) (Or.inl ⟨by rfl,?_⟩) hHeld ?_ ?_
    rotate_left
    ·rintro w' ⟨s0,s1,s2,s3,s4,s5,s6,s7⟩
     (try simp only [Int.toNat_natCast] at s0 s1 s2 s3 s4 s5 s6 s7)
     go_simp
     with_reducible rfl
    rotate_left
    ·simp only [Act.put,sI,sZ,sS,i64_w,i32_w]
     rfl
    refine take_ (i:=1) (N:=some 23) (v:=?_) (a':=?_) #[bT,bT,bF,bF,bF] rfl rfl (by kernel_rfl) (fun _ _ _ h => h) (Or.inl ⟨by rfl,?_⟩) hHeld ?_ ?_
    rotate_left
    ·rintro w' ⟨s0,s1,s2,s3,s4,s5,s6,s7⟩
     (try simp only [Int.toNat_natCast] at s0 s1 s2 s3 s4 s5 s6 s7)
     go_simp
     with_reducible rfl
    rotate_left
    ·simp only [Act.put,sI,sZ,sS,i64_w,i32_w]
     rfl
    refine one_ (i:=2) (N:=some 24) #[bT,bT,bT,bF,bF] rfl rfl (by kernel_rfl) (by decide) (fun K hK => ?_)
    refine goes_ Try.func30 (by kernel_rfl) rfl #[.agg #[.int .i64 a0_0,.int .i64 a0_1,.int .i64 a0_2,.slice A0_3 l0_3.length c0_3]] (by rfl) rfl rfl (by (try simp only [List.map_toArray,List.map_cons,List.map_nil]);first|done|rfl|(simp only [List.length_drop,List.length_take];rfl)) ?_
    with_reducible refine (laws_toNode.calls k a0_0 a0_1 a0_2 _ _ l0_3 t251 t252 t253 t254 _ ?side1 ?side2 A26.out).mono ?_
    (case side1 => repeat (first|exact (Kd.C_below HR0_3.out HB.out)|(with_reducible refine Kd.C_alloc ?_ _)|(with_reducible refine Kd.C_drewN ?_ _)|(with_reducible refine Kd.C_drew ?_)))
    (case side2 => exact HC0_3.out)
    rintro e w44 ⟨v255,rfl,ho0,hb⟩
    refine ⟨_,rfl,?_⟩
    have n0_:=aM (Kd.R_elder' (by (with_reducible repeat (first|apply Kd.R_alloc|apply Kd.R_drewN|apply Kd.R_drew));exact HO241.out) (Kd.R_base ho0) hb)
    have n1_:=aM (Kd.R_elder' (by (with_reducible repeat (first|apply Kd.R_alloc|apply Kd.R_drewN|apply Kd.R_drew));exact HO248.out) (Kd.R_base ho0) hb)
    have n2_:=aM (Kd.R_lower (Kd.R_new' (Kd.R_new' ho0 (Kd.R_lt (by (with_reducible repeat (first|apply Kd.R_alloc|apply Kd.R_drewN|apply Kd.R_drew));exact HO241.out))) (Kd.R_lt (by (with_reducible repeat (first|apply Kd.R_alloc|apply Kd.R_drewN|apply Kd.R_drew));exact HO248.out))) (below_size (by repeat (first|(with_reducible first|exact HB.out|apply bA|apply bN|apply bD|refine below_set ?_ GE234.out|refine below_set ?_ GE249.out)|exact HB.out))))
    have n3_:=aM (blk_below (g:=gb234) (o:=.cells #[.int .i64 a0_0,.int .i64 a0_1,.int .i64 a0_2,.slice A0_3 l0_3.length c0_3] 54 (0,0)) (by (with_reducible repeat (first|refine blk_drewN ?_ _|refine blk_drew ?_|refine blk_alloc ?_ _));exact BK234.out) hb)
    have n4_:=aM (blk_below (g:=gb249) (o:=.cells #[.int .i64 t243,.int .i64 t244,.int .i64 t245,.slice Ao41 t246.length co41] 39 (0,0)) (by (with_reducible repeat (first|refine blk_drewN ?_ _|refine blk_drew ?_|refine blk_alloc ?_ _));exact BK249.out) hb)
    have n5_:=aM (below_step (by repeat (first|(with_reducible first|exact HB.out|apply bA|apply bN|apply bD|refine below_set ?_ GE234.out|refine below_set ?_ GE249.out)|exact HB.out)) hb)
    clear HO241
    clear HO248
    clear BK234
    clear BK249
    clear HB
    have HO241:=n0_
    have HO248:=n1_
    have HO256:=n2_
    have BK234:=n3_
    have BK249:=n4_
    have HB:=n5_
    clear n0_ n1_ n2_ n3_ n4_ n5_
    (try clear hb)
    (try clear hb2)
    (try clear hk)
    (try clear hi)
    (try clear ho0)
    obtain ⟨Ao45,co45,eo45⟩:=Kd.R_slice HO256.out
    (first|subst eo45|(injection eo45 with f1_ f2_ f3_;have f4_:=f1_.symm;have f5_:=f3_.symm;clear f1_ f2_ f3_;subst f4_;subst f5_))
    refine hK.out _ _ ⟨(blk_cell BK249.out 0).trans rfl,(blk_cell BK249.out 1).trans rfl,(blk_cell BK249.out 2).trans rfl,(blk_cell BK249.out 3).trans rfl,(blk_cell BK234.out 0).trans rfl,(blk_cell BK234.out 1).trans rfl,(blk_cell BK234.out 2).trans rfl,(blk_cell BK234.out 3).trans rfl⟩ (fun hHeld => ?_)
    clear hK K
    refine norm_ (a':=?_) ?_ ?_
    rotate_left
    ·show Act.put _ (some 24) _ = _
     simp only [Act.put,sI,sZ,sS,i64_w,i32_w]
     rfl
    refine one_ (i:=3) (N:=some 25) #[bT,bT,bT,bT,bF] rfl rfl (by kernel_rfl) (by decide) (fun K hK => ?_)
    refine goes_ Try.func18 (by kernel_rfl) rfl #[.agg #[.int .i64 t243,.int .i64 t244,.int .i64 t245,.slice Ao41 t246.length co41],.agg #[.int .i64 t251,.int .i64 t252,.int .i64 t253,.slice Ao45 t254.length co45]] (by rfl) rfl rfl (by (try simp only [List.map_toArray,List.map_cons,List.map_nil]);first|done|rfl|(simp only [List.length_drop,List.length_take];rfl)) ?_
    with_reducible refine (laws_eqNode.calls k t243 t244 t245 _ _ t246 t251 t252 t253 _ _ t254 true _ ?side1 ?side2 ?side3 ?side4 A27.out).mono ?_
    (case side1 => repeat (first|exact (Kd.R_reads' HO248.out).2.2|(with_reducible refine Kd.C_alloc ?_ _)|(with_reducible refine Kd.C_drewN ?_ _)|(with_reducible refine Kd.C_drew ?_)))
    (case side2 => exact (Kd.R_reads' HO248.out).2.1)
    (case side3 => repeat (first|exact (Kd.R_reads' HO256.out).2.2|(with_reducible refine Kd.C_alloc ?_ _)|(with_reducible refine Kd.C_drewN ?_ _)|(with_reducible refine Kd.C_drew ?_)))
    (case side4 => exact (Kd.R_reads' HO256.out).2.1)
    rintro e w46 ⟨rfl,hb⟩
    refine ⟨_,rfl,?_⟩
    have n0_:=aM (Kd.R_below (by (with_reducible repeat (first|apply Kd.R_alloc|apply Kd.R_drewN|apply Kd.R_drew));exact HO241.out) hb)
    have n1_:=aM (Kd.R_below (by (with_reducible repeat (first|apply Kd.R_alloc|apply Kd.R_drewN|apply Kd.R_drew));exact HO248.out) hb)
    have n2_:=aM (Kd.R_below (by (with_reducible repeat (first|apply Kd.R_alloc|apply Kd.R_drewN|apply Kd.R_drew));exact HO256.out) hb)
    have n3_:=aM (blk_below (g:=gb234) (o:=.cells #[.int .i64 a0_0,.int .i64 a0_1,.int .i64 a0_2,.slice A0_3 l0_3.length c0_3] 54 (0,0)) (by (with_reducible repeat (first|refine blk_drewN ?_ _|refine blk_drew ?_|refine blk_alloc ?_ _));exact BK234.out) hb)
    have n4_:=aM (blk_below (g:=gb249) (o:=.cells #[.int .i64 t243,.int .i64 t244,.int .i64 t245,.slice Ao41 t246.length co41] 39 (0,0)) (by (with_reducible repeat (first|refine blk_drewN ?_ _|refine blk_drew ?_|refine blk_alloc ?_ _));exact BK249.out) hb)
    have n5_:=aM (below_step (by repeat (first|(with_reducible first|exact HB.out|apply bA|apply bN|apply bD|refine below_set ?_ GE234.out|refine below_set ?_ GE249.out)|exact HB.out)) hb)
    clear HO241
    clear HO248
    clear HO256
    clear BK234
    clear BK249
    clear HB
    have HO241:=n0_
    have HO248:=n1_
    have HO256:=n2_
    have BK234:=n3_
    have BK249:=n4_
    have HB:=n5_
    clear n0_ n1_ n2_ n3_ n4_ n5_
    (try clear hb)
    (try clear hb2)
    (try clear hk)
    (try clear hi)
    refine hK.out _ _ ⟨(blk_cell BK249.out 0).trans rfl,(blk_cell BK249.out 1).trans rfl,(blk_cell BK249.out 2).trans rfl,(blk_cell BK249.out 3).trans rfl,(blk_cell BK234.out 0).trans rfl,(blk_cell BK234.out 1).trans rfl,(blk_cell BK234.out 2).trans rfl,(blk_cell BK234.out 3).trans rfl⟩ (fun hHeld => ?_)
    clear hK K
    refine norm_ (a':=?_) ?_ ?_
    rotate_left
    ·show Act.put _ (some 25) _ = _
     simp only [Act.put,sI,sZ,sS,i64_w,i32_w]
     rfl
    refine pure_ (i:=4) (N:=some 26) (v:=?_) (a':=?_) #[bT,bT,bT,bT,bT] rfl rfl (by kernel_rfl) (fun _ _ _ h => h) (Or.inl ⟨by rfl,?_⟩) ?_ ?_
    rotate_left;(· intro w';go_simp;with_reducible rfl);rotate_left;(· simp only [Act.put,sI,sZ,sS,i64_w,i32_w];rfl)
    refine done_ (by kernel_rfl) ?_
    try go_wp2
    go_ret
    exact ⟨by first|rfl|(simp only [i64_w,i32_w];done)|(simp only [i64_w,i32_w];rfl)|(simp [errW_none,errW_some] <;> rfl)|(simp [*,errW_none,errW_some] <;> rfl),by repeat (first|(with_reducible first|exact HB.out|apply bA|apply bN|apply bD|refine below_set ?_ GE234.out|refine below_set ?_ GE249.out)|exact HB.out)⟩
   ·replace c28:=Bool.eq_false_iff.mpr c28
    subst c28
    have H1 : (some false) = some r:=by rw [if_neg (show ¬ (false = true) by decide)] at H;exact H
    clear H
    have H:=H1
    clear H1
    obtain rfl:=Option.some.inj H
    go_enter Try.func8,Try.ntmps8
    try go_wp2_with (first|((with_reducible refine gate_dst (N:=1) rfl ?_);refine box_event ?hg (N:=1) ?hd (cs:=#[.int .i64 a0_0,.int .i64 a0_1,.int .i64 a0_2,.slice A0_3 l0_3.length c0_3]) (t:=54) ?hr ?_;(case hd => rfl);(case hg => rfl);(case hr => first|(go_simp;done)|(go_simp;rfl));intro gb234 hg w47 hbox hb;have n0_:=aM (below_step (by repeat (first|(with_reducible first|exact HB.out|apply bA|apply bN|apply bD)|exact HB.out)) hb);have n1_:=aM (hbox);have n2_:=aM ((by rw [hg];exact (below_size (by repeat (first|(with_reducible first|exact HB.out|apply bA|apply bN|apply bD)|exact HB.out))) : w.heap.size ≤ gb234));have n3_:=aM ((by rw [hg];exact (below_size (by repeat (first|(with_reducible first|exact HB.out|apply bA|apply bN|apply bD)|exact HB.out))) : w.heap.size ≤ gb234));clear HB;have HB:=n0_;have BK234:=n1_;have GW234:=n2_;have GE234:=n3_;clear n0_ n1_ n2_ n3_;clear hb hbox hg;have hcz48_0 : w47.cell? ⟨gb234,0,none⟩ = some (.int .i64 a0_0):=(blk_cell BK234.out 0).trans rfl;have hcz48_1 : w47.cell? ⟨gb234,1,none⟩ = some (.int .i64 a0_1):=(blk_cell BK234.out 1).trans rfl;have hcz48_2 : w47.cell? ⟨gb234,2,none⟩ = some (.int .i64 a0_2):=(blk_cell BK234.out 2).trans rfl;have hcz48_3 : w47.cell? ⟨gb234,3,none⟩ = some (.slice A0_3 l0_3.length c0_3):=(blk_cell BK234.out 3).trans rfl;have hfz48_0:=blk_frozen BK234.out 0;have hfz48_1:=blk_frozen BK234.out 1;have hfz48_2:=blk_frozen BK234.out 2;have hfz48_3:=blk_frozen BK234.out 3)|((with_reducible refine gate_callee (f:=28) rfl ?_);refine goesL_ (some 9) rfl rfl Try.func28 (by kernel_rfl) rfl #[.agg #[.int .i64 a0_0,.int .i64 a0_1,.int .i64 a0_2,.slice A0_3 l0_3.length c0_3],.int .i64 1048576] rfl (by (try simp only [List.map_toArray,List.map_cons,List.map_nil]);first|done|rfl|(simp only [List.length_drop,List.length_take];rfl)) ?_;(with_reducible refine (laws_szNode.calls k a0_0 a0_1 a0_2 _ _ l0_3 1048576 t235 _ ?side1 ?side2 A2.out).mono ?_);(case side1 => repeat (first|exact (Kd.C_below HR0_3.out HB.out)|(with_reducible refine Kd.C_alloc ?_ _)|(with_reducible refine Kd.C_drewN ?_ _)|(with_reducible refine Kd.C_drew ?_)));(case side2 => exact HC0_3.out);rintro e w49 ⟨rfl,hb⟩;refine ⟨_,rfl,?_⟩;have n0_:=aM (blk_below (g:=gb234) (o:=.cells #[.int .i64 a0_0,.int .i64 a0_1,.int .i64 a0_2,.slice A0_3 l0_3.length c0_3] 54 (0,0)) (by (with_reducible repeat (first|refine blk_drewN ?_ _|refine blk_drew ?_|refine blk_alloc ?_ _));exact BK234.out) hb);have n1_:=aM (below_step (by repeat (first|(with_reducible first|exact HB.out|apply bA|apply bN|apply bD|refine below_set ?_ GE234.out)|exact HB.out)) hb);clear BK234;clear HB;have BK234:=n0_;have HB:=n1_;clear n0_ n1_;(try clear hb);(try clear hb2);(try clear hk);(try clear hi);have hcz50_0 : w49.cell? ⟨gb234,0,none⟩ = some (.int .i64 a0_0):=(blk_cell BK234.out 0).trans rfl;have hcz50_1 : w49.cell? ⟨gb234,1,none⟩ = some (.int .i64 a0_1):=(blk_cell BK234.out 1).trans rfl;have hcz50_2 : w49.cell? ⟨gb234,2,none⟩ = some (.int .i64 a0_2):=(blk_cell BK234.out 2).trans rfl;have hcz50_3 : w49.cell? ⟨gb234,3,none⟩ = some (.slice A0_3 l0_3.length c0_3):=(blk_cell BK234.out 3).trans rfl;have hfz50_0:=blk_frozen BK234.out 0;have hfz50_1:=blk_frozen BK234.out 1;have hfz50_2:=blk_frozen BK234.out 2;have hfz50_3:=blk_frozen BK234.out 3)|((with_reducible refine gate_callee (f:=30) rfl ?_);refine goesL_ (some 13) rfl rfl Try.func30 (by kernel_rfl) rfl #[.agg #[.int .i64 a0_0,.int .i64 a0_1,.int .i64 a0_2,.slice A0_3 l0_3.length c0_3]] rfl (by (try simp only [List.map_toArray,List.map_cons,List.map_nil]);first|done|rfl|(simp only [List.length_drop,List.length_take];rfl)) ?_;(with_reducible refine (laws_toNode.calls k a0_0 a0_1 a0_2 _ _ l0_3 t236 t237 t238 t239 _ ?side1 ?side2 A7.out).mono ?_);(case side1 => repeat (first|exact (Kd.C_below HR0_3.out HB.out)|(with_reducible refine Kd.C_alloc ?_ _)|(with_reducible refine Kd.C_drewN ?_ _)|(with_reducible refine Kd.C_drew ?_)));(case side2 => exact HC0_3.out);rintro e w51 ⟨v240,rfl,ho0,hb⟩;refine ⟨_,rfl,?_⟩;have n0_:=aM (Kd.R_lower ho0 (below_size (by repeat (first|(with_reducible first|exact HB.out|apply bA|apply bN|apply bD|refine below_set ?_ GE234.out)|exact HB.out))));have n1_:=aM (blk_below (g:=gb234) (o:=.cells #[.int .i64 a0_0,.int .i64 a0_1,.int .i64 a0_2,.slice A0_3 l0_3.length c0_3] 54 (0,0)) (by (with_reducible repeat (first|refine blk_drewN ?_ _|refine blk_drew ?_|refine blk_alloc ?_ _));exact BK234.out) hb);have n2_:=aM (below_step (by repeat (first|(with_reducible first|exact HB.out|apply bA|apply bN|apply bD|refine below_set ?_ GE234.out)|exact HB.out)) hb);clear BK234;clear HB;have HO241:=n0_;have BK234:=n1_;have HB:=n2_;clear n0_ n1_ n2_;(try clear hb);(try clear hb2);(try clear hk);(try clear hi);(try clear ho0);obtain ⟨Ao52,co52,eo52⟩:=Kd.R_slice HO241.out;subst eo52)|((with_reducible refine gate_callee (f:=29) rfl ?_);refine goesL_ (some 14) rfl rfl Try.func29 (by kernel_rfl) rfl #[.agg #[.int .i64 t236,.int .i64 t237,.int .i64 t238,.slice Ao52 t239.length co52]] rfl (by (try simp only [List.map_toArray,List.map_cons,List.map_nil]);first|done|rfl|(simp only [List.length_drop,List.length_take];rfl)) ?_;(with_reducible refine (spec_NodeOk.calls k t236 t237 t238 _ _ t239 t242 _ ?side1 ?side2 A8.out).mono ?_);(case side1 => repeat (first|exact (Kd.R_reads' HO241.out).2.2|(with_reducible refine Kd.C_alloc ?_ _)|(with_reducible refine Kd.C_drewN ?_ _)|(with_reducible refine Kd.C_drew ?_)));(case side2 => exact (Kd.R_reads' HO241.out).2.1);rintro e w53 ⟨rfl,hb⟩;refine ⟨_,rfl,?_⟩;have n0_:=aM (Kd.R_below (by (with_reducible repeat (first|apply Kd.R_alloc|apply Kd.R_drewN|apply Kd.R_drew));exact HO241.out) hb);have n1_:=aM (blk_below (g:=gb234) (o:=.cells #[.int .i64 a0_0,.int .i64 a0_1,.int .i64 a0_2,.slice A0_3 l0_3.length c0_3] 54 (0,0)) (by (with_reducible repeat (first|refine blk_drewN ?_ _|refine blk_drew ?_|refine blk_alloc ?_ _));exact BK234.out) hb);have n2_:=aM (below_step (by repeat (first|(with_reducible first|exact HB.out|apply bA|apply bN|apply bD|refine below_set ?_ GE234.out)|exact HB.out)) hb);clear HO241;clear BK234;clear HB;have HO241:=n0_;have BK234:=n1_;have HB:=n2_;clear n0_ n1_ n2_;(try clear hb);(try clear hb2);(try clear hk);(try clear hi);have hcz54_0 : w53.cell? ⟨gb234,0,none⟩ = some (.int .i64 a0_0):=(blk_cell BK234.out 0).trans rfl;have hcz54_1 : w53.cell? ⟨gb234,1,none⟩ = some (.int .i64 a0_1):=(blk_cell BK234.out 1).trans rfl;have hcz54_2 : w53.cell? ⟨gb234,2,none⟩ = some (.int .i64 a0_2):=(blk_cell BK234.out 2).trans rfl;have hcz54_3 : w53.cell? ⟨gb234,3,none⟩ = some (.slice A0_3 l0_3.length c0_3):=(blk_cell BK234.out 3).trans rfl;have hfz54_0:=blk_frozen BK234.out 0;have hfz54_1:=blk_frozen BK234.out 1;have hfz54_2:=blk_frozen BK234.out 2;have hfz54_3:=blk_frozen BK234.out 3)|((with_reducible refine gate_callee (f:=30) rfl ?_);refine goesL_ (some 16) rfl rfl Try.func30 (by kernel_rfl) rfl #[.agg #[.int .i64 a0_0,.int .i64 a0_1,.int .i64 a0_2,.slice A0_3 l0_3.length c0_3]] rfl (by (try simp only [List.map_toArray,List.map_cons,List.map_nil]);first|done|rfl|(simp only [List.length_drop,List.length_take];rfl)) ?_;(with_reducible refine (laws_toNode.calls k a0_0 a0_1 a0_2 _ _ l0_3 t243 t244 t245 t246 _ ?side1 ?side2 A9.out).mono ?_);(case side1 => repeat (first|exact (Kd.C_below HR0_3.out HB.out)|(with_reducible refine Kd.C_alloc ?_ _)|(with_reducible refine Kd.C_drewN ?_ _)|(with_reducible refine Kd.C_drew ?_)));(case side2 => exact HC0_3.out);rintro e w55 ⟨v247,rfl,ho0,hb⟩;refine ⟨_,rfl,?_⟩;have n0_:=aM (Kd.R_elder' (by (with_reducible repeat (first|apply Kd.R_alloc|apply Kd.R_drewN|apply Kd.R_drew));exact HO241.out) (Kd.R_base ho0) hb);have n1_:=aM (Kd.R_lower (Kd.R_new' ho0 (Kd.R_lt (by (with_reducible repeat (first|apply Kd.R_alloc|apply Kd.R_drewN|apply Kd.R_drew));exact HO241.out))) (below_size (by repeat (first|(with_reducible first|exact HB.out|apply bA|apply bN|apply bD|refine below_set ?_ GE234.out)|exact HB.out))));have n2_:=aM (blk_below (g:=gb234) (o:=.cells #[.int .i64 a0_0,.int .i64 a0_1,.int .i64 a0_2,.slice A0_3 l0_3.length c0_3] 54 (0,0)) (by (with_reducible repeat (first|refine blk_drewN ?_ _|refine blk_drew ?_|refine blk_alloc ?_ _));exact BK234.out) hb);have n3_:=aM (below_step (by repeat (first|(with_reducible first|exact HB.out|apply bA|apply bN|apply bD|refine below_set ?_ GE234.out)|exact HB.out)) hb);clear HO241;clear BK234;clear HB;have HO241:=n0_;have HO248:=n1_;have BK234:=n2_;have HB:=n3_;clear n0_ n1_ n2_ n3_;(try clear hb);(try clear hb2);(try clear hk);(try clear hi);(try clear ho0))|((with_reducible refine gate_dst (N:=5) rfl ?_);refine box_event ?hg (N:=5) ?hd (cs:=#[.int .i64 0,.int .i64 0,.int .i64 0,.slice none 0 0]) (t:=39) ?hr ?_;(case hd => rfl);(case hg => rfl);(case hr => first|(go_simp;done)|(go_simp;rfl));intro gb249 hg w56 hbox hb;have n0_:=aM (Kd.R_below (by (with_reducible repeat (first|apply Kd.R_alloc|apply Kd.R_drewN|apply Kd.R_drew));exact HO241.out) hb);have n1_:=aM (Kd.R_below (by (with_reducible repeat (first|apply Kd.R_alloc|apply Kd.R_drewN|apply Kd.R_drew));exact HO248.out) hb);have n2_:=aM (blk_below (g:=gb234) (o:=.cells #[.int .i64 a0_0,.int .i64 a0_1,.int .i64 a0_2,.slice A0_3 l0_3.length c0_3] 54 (0,0)) (by (with_reducible repeat (first|refine blk_drewN ?_ _|refine blk_drew ?_|refine blk_alloc ?_ _));exact BK234.out) hb);have n3_:=aM (below_step (by repeat (first|(with_reducible first|exact HB.out|apply bA|apply bN|apply bD|refine below_set ?_ GE234.out)|exact HB.out)) hb);have n4_:=aM (hbox);have n5_:=aM ((by rw [hg];exact (below_size (by repeat (first|(with_reducible first|exact HB.out|apply bA|apply bN|apply bD|refine below_set ?_ GE234.out)|exact HB.out))) : w.heap.size ≤ gb249));have n6_:=aM ((by rw [hg];exact (below_size (by repeat (first|(with_reducible first|exact HB.out|apply bA|apply bN|apply bD|refine below_set ?_ GE234.out)|exact HB.out))) : w.heap.size ≤ gb249));have n7_:=aM ((by rw [hg];exact Nat.ne_of_lt (blk_lt (g:=gb234) (o:=.cells #[.int .i64 a0_0,.int .i64 a0_1,.int .i64 a0_2,.slice A0_3 l0_3.length c0_3] 54 (0,0)) (by (with_reducible repeat (first|refine blk_drewN ?_ _|refine blk_drew ?_|refine blk_alloc ?_ _));exact BK234.out)) : gb234 ≠ gb249));have n8_:=aM ((by rw [hg];exact Nat.ne_of_gt (blk_lt (g:=gb234) (o:=.cells #[.int .i64 a0_0,.int .i64 a0_1,.int .i64 a0_2,.slice A0_3 l0_3.length c0_3] 54 (0,0)) (by (with_reducible repeat (first|refine blk_drewN ?_ _|refine blk_drew ?_|refine blk_alloc ?_ _));exact BK234.out)) : gb249 ≠ gb234));clear HO241;clear HO248;clear BK234;clear HB;have HO241:=n0_;have HO248:=n1_;have BK234:=n2_;have HB:=n3_;have BK249:=n4_;have GW249:=n5_;have GE249:=n6_;have NB234_249:=n7_;have NB249_234:=n8_;clear n0_ n1_ n2_ n3_ n4_ n5_ n6_ n7_ n8_;clear hb hbox hg;have hnb57:=NB249_234.out;have hnc57:=NB234_249.out;have hcz58_0 : w56.cell? ⟨gb249,0,none⟩ = some (.int .i64 0):=(blk_cell BK249.out 0).trans rfl;have hcz58_1 : w56.cell? ⟨gb249,1,none⟩ = some (.int .i64 0):=(blk_cell BK249.out 1).trans rfl;have hcz58_2 : w56.cell? ⟨gb249,2,none⟩ = some (.int .i64 0):=(blk_cell BK249.out 2).trans rfl;have hcz58_3 : w56.cell? ⟨gb249,3,none⟩ = some (.slice none 0 0):=(blk_cell BK249.out 3).trans rfl;have hfz58_0:=blk_frozen BK249.out 0;have hfz58_1:=blk_frozen BK249.out 1;have hfz58_2:=blk_frozen BK249.out 2;have hfz58_3:=blk_frozen BK249.out 3;obtain ⟨Ao59,co59,eo59⟩:=Kd.R_slice HO248.out;subst eo59)|((with_reducible refine gate_callee (f:=31) rfl ?_);refine goesL_ (some 18) rfl rfl Try.func31 (by kernel_rfl) rfl #[.agg #[.int .i64 t243,.int .i64 t244,.int .i64 t245,.slice Ao59 t246.length co59]] rfl (by (try simp only [List.map_toArray,List.map_cons,List.map_nil]);first|done|rfl|(simp only [List.length_drop,List.length_take];rfl)) ?_;(with_reducible refine (impl_NodeOk.calls k t243 t244 t245 _ _ t246 t250 _ ?side1 ?side2 A10.out).mono ?_);(case side1 => refine (Kd.R_reads' (e:=25) (base:=w.heap.size) (ok:=fun k_ => (True ∧ some k_ ≠ (.slice Ao52 t239.length co52 : Value).ownBlock)) (n:=t246.length) (c:=co59) ?_).2.2;exact (by (with_reducible repeat (first|apply Kd.R_alloc|apply Kd.R_drewN|apply Kd.R_drew));exact (Kd.R_mono (Kd.R_far (p:=⟨gb249,3,none⟩) (Kd.R_far (p:=⟨gb249,2,none⟩) (Kd.R_far (p:=⟨gb249,1,none⟩) (Kd.R_far (p:=⟨gb249,0,none⟩) (Kd.R_types HO248.out BK249.out (by decide)) (fun _ hk => hk.2) (.int .i64 t243)) (fun _ hk => hk.2) (.int .i64 t244)) (fun _ hk => hk.2) (.int .i64 t245)) (fun _ hk => hk.2) (.slice Ao59 t246.length co59)) (fun _ h_ => h_.1))));(case side2 => exact (Kd.R_reads' HO248.out).2.1);rintro e w60 ⟨rfl,hb⟩;refine ⟨_,rfl,?_⟩;have n0_:=aM (Kd.R_below (by (with_reducible repeat (first|apply Kd.R_alloc|apply Kd.R_drewN|apply Kd.R_drew));exact (Kd.R_mono (Kd.R_far (p:=⟨gb249,3,none⟩) (Kd.R_far (p:=⟨gb249,2,none⟩) (Kd.R_far (p:=⟨gb249,1,none⟩) (Kd.R_far (p:=⟨gb249,0,none⟩) (Kd.R_types HO241.out BK249.out (by decide)) (fun _ hk => hk.2) (.int .i64 t243)) (fun _ hk => hk.2) (.int .i64 t244)) (fun _ hk => hk.2) (.int .i64 t245)) (fun _ hk => hk.2) (.slice Ao59 t246.length co59)) (fun _ h_ => h_.1))) hb);have n1_:=aM (Kd.R_below (by (with_reducible repeat (first|apply Kd.R_alloc|apply Kd.R_drewN|apply Kd.R_drew));exact (Kd.R_mono (Kd.R_far (p:=⟨gb249,3,none⟩) (Kd.R_far (p:=⟨gb249,2,none⟩) (Kd.R_far (p:=⟨gb249,1,none⟩) (Kd.R_far (p:=⟨gb249,0,none⟩) (Kd.R_types HO248.out BK249.out (by decide)) (fun _ hk => hk.2) (.int .i64 t243)) (fun _ hk => hk.2) (.int .i64 t244)) (fun _ hk => hk.2) (.int .i64 t245)) (fun _ hk => hk.2) (.slice Ao59 t246.length co59)) (fun _ h_ => h_.1))) hb);have n2_:=aM (blk_below (g:=gb234) (o:=.cells #[.int .i64 a0_0,.int .i64 a0_1,.int .i64 a0_2,.slice A0_3 l0_3.length c0_3] 54 (0,0)) (by (with_reducible repeat (first|refine blk_drewN ?_ _|refine blk_drew ?_|refine blk_alloc ?_ _));refine blk_far ?_ NB234_249.out _;(with_reducible repeat (first|refine blk_drewN ?_ _|refine blk_drew ?_|refine blk_alloc ?_ _));refine blk_far ?_ NB234_249.out _;(with_reducible repeat (first|refine blk_drewN ?_ _|refine blk_drew ?_|refine blk_alloc ?_ _));refine blk_far ?_ NB234_249.out _;(with_reducible repeat (first|refine blk_drewN ?_ _|refine blk_drew ?_|refine blk_alloc ?_ _));refine blk_far ?_ NB234_249.out _;(with_reducible repeat (first|refine blk_drewN ?_ _|refine blk_drew ?_|refine blk_alloc ?_ _));exact BK234.out) hb);have n3_:=aM (blk_below (g:=gb249) (o:=.cells #[.int .i64 t243,.int .i64 t244,.int .i64 t245,.slice Ao59 t246.length co59] 39 (0,0)) (by (with_reducible repeat (first|refine blk_drewN ?_ _|refine blk_drew ?_|refine blk_alloc ?_ _));refine blk_put (cs:=#[.int .i64 t243,.int .i64 t244,.int .i64 t245,.slice none 0 0]) ?_ 3 _ rfl;(with_reducible repeat (first|refine blk_drewN ?_ _|refine blk_drew ?_|refine blk_alloc ?_ _));refine blk_put (cs:=#[.int .i64 t243,.int .i64 t244,.int .i64 0,.slice none 0 0]) ?_ 2 _ rfl;(with_reducible repeat (first|refine blk_drewN ?_ _|refine blk_drew ?_|refine blk_alloc ?_ _));refine blk_put (cs:=#[.int .i64 t243,.int .i64 0,.int .i64 0,.slice none 0 0]) ?_ 1 _ rfl;(with_reducible repeat (first|refine blk_drewN ?_ _|refine blk_drew ?_|refine blk_alloc ?_ _));refine blk_put (cs:=#[.int .i64 0,.int .i64 0,.int .i64 0,.slice none 0 0]) ?_ 0 _ rfl;(with_reducible repeat (first|refine blk_drewN ?_ _|refine blk_drew ?_|refine blk_alloc ?_ _));exact BK249.out) hb);have n4_:=aM (below_step (by repeat (first|(with_reducible first|exact HB.out|apply bA|apply bN|apply bD|refine below_set ?_ GE234.out|refine below_set ?_ GE249.out)|exact HB.out)) hb);clear HO241;clear HO248;clear BK234;clear BK249;clear HB;have HO241:=n0_;have HO248:=n1_;have BK234:=n2_;have BK249:=n3_;have HB:=n4_;clear n0_ n1_ n2_ n3_ n4_;(try clear hb);(try clear hb2);(try clear hk);(try clear hi)))
    have n0_:=aM (Kd.R_drew HO241.out)
    have n1_:=aM (Kd.R_drew HO248.out)
    have n2_:=aM (blk_drew BK234.out)
    have n3_:=aM (blk_drew BK249.out)
    have n4_:=aM (bD HB.out)
    clear HO241
    clear HO248
    clear BK234
    clear BK249
    clear HB
    have HO241:=n0_
    have HO248:=n1_
    have BK234:=n2_
    have BK249:=n3_
    have HB:=n4_
    clear n0_ n1_ n2_ n3_ n4_
    refine start_ (n:=5) (S:=fun w' => w'.cell? ⟨gb249,0,none⟩ = some (.int .i64 t243) ∧ w'.cell? ⟨gb249,1,none⟩ = some (.int .i64 t244) ∧ w'.cell? ⟨gb249,2,none⟩ = some (.int .i64 t245) ∧ w'.cell? ⟨gb249,3,none⟩ = some (.slice Ao59 t246.length co59) ∧ w'.cell? ⟨gb234,0,none⟩ = some (.int .i64 a0_0) ∧ w'.cell? ⟨gb234,1,none⟩ = some (.int .i64 a0_1) ∧ w'.cell? ⟨gb234,2,none⟩ = some (.int .i64 a0_2) ∧ w'.cell? ⟨gb234,3,none⟩ = some (.slice A0_3 l0_3.length c0_3)) (ds:=[]) #[bF,bF,bF,bF,bF] (by kernel_rfl) rfl rfl ⟨(blk_cell BK249.out 0).trans rfl,(blk_cell BK249.out 1).trans rfl,(blk_cell BK249.out 2).trans rfl,(blk_cell BK249.out 3).trans rfl,(blk_cell BK234.out 0).trans rfl,(blk_cell BK234.out 1).trans rfl,(blk_cell BK234.out 2).trans rfl,(blk_cell BK234.out 3).trans rfl⟩ (fun hHeld => ?_)
    generalize w60.drew = w61 at HO241 HO248 BK234 BK249 HB hHeld ⊢
    refine take_ (i:=0) (N:=some 22) (v:=?_) (a':=?_) #[bT,bF,bF,bF,bF] rfl rfl (by kernel_rfl) (fun _ _ _ h => h) (Or.inl ⟨by rfl,?_⟩) hHeld ?_ ?_
    rotate_left
    ·rintro w' ⟨s0,s1,s2,s3,s4,s5,s6,s7⟩
     (try simp only [Int.toNat_natCast] at s0 s1 s2 s3 s4 s5 s6 s7)
     go_simp
     with_reducible rfl
    rotate_left
    ·simp only [Act.put,sI,sZ,sS,i64_w,i32_w]
     rfl
    refine take_ (i:=1) (N:=some 23) (v:=?_) (a':=?_) #[bT,bT,bF,bF,bF] rfl rfl (by kernel_rfl) (fun _ _ _ h => h) (Or.inl ⟨by rfl,?_⟩) hHeld ?_ ?_
    rotate_left
    ·rintro w' ⟨s0,s1,s2,s3,s4,s5,s6,s7⟩
     (try simp only [Int.toNat_natCast] at s0 s1 s2 s3 s4 s5 s6 s7)
     go_simp
     with_reducible rfl
    rotate_left
    ·simp only [Act.put,sI,sZ,sS,i64_w,i32_w]
     rfl
    refine one_ (i:=2) (N:=some 24) #[bT,bT,bT,bF,bF] rfl rfl (by kernel_rfl) (by decide) (fun K hK => ?_)
    refine goes_ Try.func30 (by kernel_rfl) rfl #[.agg #[.int .i64 a0_0,.int .i64 a0_1,.int .i64 a0_2,.slice A0_3 l0_3.length c0_3]] (by rfl) rfl rfl (by (try simp only [List.map_toArray,List.map_cons,List.map_nil]);first|done|rfl|(simp only [List.length_drop,List.length_take];rfl)) ?_
    with_reducible refine (laws_toNode.calls k a0_0 a0_1 a0_2 _ _ l0_3 t251 t252 t253 t254 _ ?side1 ?side2 A26.out).mono ?_
    (case side1 => repeat (first|exact (Kd.C_below HR0_3.out HB.out)|(with_reducible refine Kd.C_alloc ?_ _)|(with_reducible refine Kd.C_drewN ?_ _)|(with_reducible refine Kd.C_drew ?_)))
    (case side2 => exact HC0_3.out)
    rintro e w62 ⟨v255,rfl,ho0,hb⟩
    refine ⟨_,rfl,?_⟩
    have n0_:=aM (Kd.R_elder' (by (with_reducible repeat (first|apply Kd.R_alloc|apply Kd.R_drewN|apply Kd.R_drew));exact HO241.out) (Kd.R_base ho0) hb)
    have n1_:=aM (Kd.R_elder' (by (with_reducible repeat (first|apply Kd.R_alloc|apply Kd.R_drewN|apply Kd.R_drew));exact HO248.out) (Kd.R_base ho0) hb)
    have n2_:=aM (Kd.R_lower (Kd.R_new' (Kd.R_new' ho0 (Kd.R_lt (by (with_reducible repeat (first|apply Kd.R_alloc|apply Kd.R_drewN|apply Kd.R_drew));exact HO241.out))) (Kd.R_lt (by (with_reducible repeat (first|apply Kd.R_alloc|apply Kd.R_drewN|apply Kd.R_drew));exact HO248.out))) (below_size (by repeat (first|(with_reducible first|exact HB.out|apply bA|apply bN|apply bD|refine below_set ?_ GE234.out|refine below_set ?_ GE249.out)|exact HB.out))))
    have n3_:=aM (blk_below (g:=gb234) (o:=.cells #[.int .i64 a0_0,.int .i64 a0_1,.int .i64 a0_2,.slice A0_3 l0_3.length c0_3] 54 (0,0)) (by (with_reducible repeat (first|refine blk_drewN ?_ _|refine blk_drew ?_|refine blk_alloc ?_ _));exact BK234.out) hb)
    have n4_:=aM (blk_below (g:=gb249) (o:=.cells #[.int .i64 t243,.int .i64 t244,.int .i64 t245,.slice Ao59 t246.length co59] 39 (0,0)) (by (with_reducible repeat (first|refine blk_drewN ?_ _|refine blk_drew ?_|refine blk_alloc ?_ _));exact BK249.out) hb)
    have n5_:=aM (below_step (by repeat (first|(with_reducible first|exact HB.out|apply bA|apply bN|apply bD|refine below_set ?_ GE234.out|refine below_set ?_ GE249.out)|exact HB.out)) hb)
    clear HO241
    clear HO248
    clear BK234
    clear BK249
    clear HB
    have HO241:=n0_
    have HO248:=n1_
    have HO256:=n2_
    have BK234:=n3_
    have BK249:=n4_
    have HB:=n5_
    clear n0_ n1_ n2_ n3_ n4_ n5_
    (try clear hb)
    (try clear hb2)
    (try clear hk)
    (try clear hi)
    (try clear ho0)
    obtain ⟨Ao63,co63,eo63⟩:=Kd.R_slice HO256.out
    (first|subst eo63|(injection eo63 with f1_ f2_ f3_;have f4_:=f1_.symm;have f5_:=f3_.symm;clear f1_ f2_ f3_;subst f4_;subst f5_))
    refine hK.out _ _ ⟨(blk_cell BK249.out 0).trans rfl,(blk_cell BK249.out 1).trans rfl,(blk_cell BK249.out 2).trans rfl,(blk_cell BK249.out 3).trans rfl,(blk_cell BK234.out 0).trans rfl,(blk_cell BK234.out 1).trans rfl,(blk_cell BK234.out 2).trans rfl,(blk_cell BK234.out 3).trans rfl⟩ (fun hHeld => ?_)
    clear hK K
    refine norm_ (a':=?_) ?_ ?_
    rotate_left
    ·show Act.put _ (some 24) _ = _
     simp only [Act.put,sI,sZ,sS,i64_w,i32_w]
     rfl
    refine one_ (i:=3) (N:=some 25) #[bT,bT,bT,bT,bF] rfl rfl (by kernel_rfl) (by decide) (fun K hK => ?_)
    refine goes_ Try.func18 (by kernel_rfl) rfl #[.agg #[.int .i64 t243,.int .i64 t244,.int .i64 t245,.slice Ao59 t246.length co59],.agg #[.int .i64 t251,.int .i64 t252,.int .i64 t253,.slice Ao63 t254.length co63]] (by rfl) rfl rfl (by (try simp only [List.map_toArray,List.map_cons,List.map_nil]);first|done|rfl|(simp only [List.length_drop,List.length_take];rfl)) ?_
    with_reducible refine (laws_eqNode.calls k t243 t244 t245 _ _ t246 t251 t252 t253 _ _ t254 false _ ?side1 ?side2 ?side3 ?side4 A27.out).mono ?_
    (case side1 => repeat (first|exact (Kd.R_reads' HO248.out).2.2|(with_reducible refine Kd.C_alloc ?_ _)|(with_reducible refine Kd.C_drewN ?_ _)|(with_reducible refine Kd.C_drew ?_)))
    (case side2 => exact (Kd.R_reads' HO248.out).2.1)
    (case side3 => repeat (first|exact (Kd.R_reads' HO256.out).2.2|(with_reducible refine Kd.C_alloc ?_ _)|(with_reducible refine Kd.C_drewN ?_ _)|(with_reducible refine Kd.C_drew ?_)))
    (case side4 => exact (Kd.R_reads' HO256.out).2.1)
    rintro e w64 ⟨rfl,hb⟩
    refine ⟨_,rfl,?_⟩
    have n0_:=aM (Kd.R_below (by (with_reducible repeat (first|apply Kd.R_alloc|apply Kd.R_drewN|apply Kd.R_drew));exact HO241.out) hb)
    have n1_:=aM (Kd.R_below (by (with_reducible repeat (first|apply Kd.R_alloc|apply Kd.R_drewN|apply Kd.R_drew));exact HO248.out) hb)
    have n2_:=aM (Kd.R_below (by (with_reducible repeat (first|apply Kd.R_alloc|apply Kd.R_drewN|apply Kd.R_drew));exact HO256.out) hb)
    have n3_:=aM (blk_below (g:=gb234) (o:=.cells #[.int .i64 a0_0,.int .i64 a0_1,.int .i64 a0_2,.slice A0_3 l0_3.length c0_3] 54 (0,0)) (by (with_reducible repeat (first|refine blk_drewN ?_ _|refine blk_drew ?_|refine blk_alloc ?_ _));exact BK234.out) hb)
    have n4_:=aM (blk_below (g:=gb249) (o:=.cells #[.int .i64 t243,.int .i64 t244,.int .i64 t245,.slice Ao59 t246.length co59] 39 (0,0)) (by (with_reducible repeat (first|refine blk_drewN ?_ _|refine blk_drew ?_|refine blk_alloc ?_ _));exact BK249.out) hb)
    have n5_:=aM (below_step (by repeat (first|(with_reducible first|exact HB.out|apply bA|apply bN|apply bD|refine below_set ?_ GE234.out|refine below_set ?_ GE249.out)|exact HB.out)) hb)
    clear HO241
    clear HO248
    clear HO256
    clear BK234
    clear BK249
    clear HB
    have HO241:=n0_
    have HO248:=n1_
    have HO256:=n2_
    have BK234:=n3_
    have BK249:=n4_
    have HB:=n5_
    clear n0_ n1_ n2_ n3_ n4_ n5_
    (try clear hb)
    (try clear hb2)
    (try clear hk)
    (try clear hi)
    refine hK.out _ _ ⟨(blk_cell BK249.out 0).trans rfl,(blk_cell BK249.out 1).trans rfl,(blk_cell BK249.out 2).trans rfl,(blk_cell BK249.out 3).trans rfl,(blk_cell BK234.out 0).trans rfl,(blk_cell BK234.out 1).trans rfl,(blk_cell BK234.out 2).trans rfl,(blk_cell BK234.out 3).trans rfl⟩ (fun hHeld => ?_)
    clear hK K
    refine norm_ (a':=?_) ?_ ?_
    rotate_left
    ·show Act.put _ (some 25) _ = _
     simp only [Act.put,sI,sZ,sS,i64_w,i32_w]
     rfl
    refine pure_ (i:=4) (N:=some 26) (v:=?_) (a':=?_) #[bT,bT,bT,bT,bT] rfl rfl (by kernel_rfl) (fun _ _ _ h => h) (Or.inl ⟨by rfl,?_⟩) ?_ ?_
    rotate_left;(· intro w';go_simp;with_reducible rfl);rotate_left;(· simp only [Act.put,sI,sZ,sS,i64_w,i32_w];rfl)
    refine done_ (by kernel_rfl) ?_
    try go_wp2
    go_ret
    exact ⟨by first|rfl|(simp only [i64_w,i32_w];done)|(simp only [i64_w,i32_w];rfl)|(simp [errW_none,errW_some] <;> rfl)|(simp [*,errW_none,errW_some] <;> rfl),by repeat (first|(with_reducible first|exact HB.out|apply bA|apply bN|apply bD|refine below_set ?_ GE234.out|refine below_set ?_ GE249.out)|exact HB.out)⟩

/-- What is left to prove of laws_FnExactNodeOk. -/
def laws_FnExactNodeOk.Pure : Prop:=∀ (a0_0 : Int) (a0_1 : Int) (a0_2 : Int) (l0_3 : List (S32)),l0_3.length ≤ 9223372036854775807 → (∀ v,v ∈ l0_3 → v.f1.length ≤ 9223372036854775807) → ∃ k,laws_FnExactNodeOk.f k a0_0 a0_1 a0_2 l0_3 = some true

end Go.Proofs.Ytaccamnoacdiiaa.P
