/- The printed functions: what each Go function computes, as a Lean function, and that the Go code comes to just that. Conditions: none beyond each contract's own. -/
import Derived.Test.YtlcfalecbpnhbaaPx0
import Derived.Test.YtlcfalecbpnhbaaPx5
import Derived.Test.YtlcfalecbpnhbaaPx6
namespace Go.Proofs.Ytlcfalecbpnhbaa.P
open Go.RowKit Go.Proofs.YtlcfalecbpnhbaaW.PrintWords Go.Proofs.YtlcfalecbpnhbaaW.PrintLast Go.Proofs.YtlcfalecbpnhbaaW.PrintMore
attribute [local go_sem] max2_int min2_int max_two min_two max_three min_three max_four min_four   -- for this text's walks alone
set_option linter.unusedVariables false
set_option linter.unusedSimpArgs false

/-! ### impl_CertOk: function 9 -/
def impl_CertOk.f (k : Nat) (l0_0 : List (S40)) (l0_1 : List (List Int)) : Option (Bool):=(impl_ChainOk.f k l0_0).bind fun t142 => (if t142 = true then (if (l0_0.length : Int) < 3 then (some false) else ((impl_final.f k l0_0).bind fun t143 => (if t143 = (wrap64 ((l0_0.length : Int) - 1)) then (if (l0_1.length : Int) = 3 then ((slices_ContainsFunc_int_int.f k l0_1).bind fun t144 => (some (!t144))) else (some false)) else (some false)))) else (some false))
theorem impl_CertOk.mono : ∀ a0 a1 k,LeO (impl_CertOk.f k a0 a1) (impl_CertOk.f (k + 1) a0 a1):=by
 intro a0 a1 k
 unfold impl_CertOk.f
 repeat' first
   | exact LeO.refl _
   | exact impl_ChainOk.mono _ _
   | exact impl_final.mono _ _
   | exact slices_ContainsFunc_int_int.mono _ _
   | exact LeO.none _
   | refine LeO.ite ?_ ?_
   | refine LeO.bind ?_ (fun _ => ?_)
def impl_CertOk.T1 : Bool × List (List Nat × List Nat):=(true,[([],[]),([0],[0]),([1],[1]),([2],[2]),([3,2],[3]),([4],[4]),([5,4],[4,5]),([6,4],[4,6]),([7,4],[4,7]),([4,8],[4,8]),([9,4],[9]),([10],[10]),([11,10],[10,11]),([12,10,10],[10,12]),([10],[10]),([14,10],[10,14]),([15,10],[10,15]),([16,10],[10,16]),([13,17,10],[10,13,17]),([10,18],[10,18])])
def impl_CertOk.B1 : List Nat:=[0,1,3,7,15,31,63,127,255,511,1023,2047,4095,8191,2047,18431,51199,116735,262143,524287]
theorem impl_CertOk.tab1 : rtab .any (opsOf Try.f9 1) = impl_CertOk.T1:=by kernel_rfl
theorem impl_CertOk.bits1 : waitsOk impl_CertOk.T1.2 impl_CertOk.B1 = true:=by kernel_rfl
set_option maxHeartbeats 8000000 in
set_option maxRecDepth 100000 in
theorem impl_CertOk.calls (k : Nat) (A0_0 : Option Addr) (c0_0 : Nat) (l0_0 : List (S40)) (A0_1 : Option Addr) (c0_1 : Nat) (l0_1 : List (List Int)) (r : Bool) (w : World) (hr0_0 : Kd.C k40 w A0_0 l0_0.length l0_0) (hc0_0 : l0_0.length ≤ c0_0) (hr0_1 : Kd.C (Kd.slice 3 (Kd.int .i64)) w A0_1 l0_1.length l0_1) (hc0_1 : l0_1.length ≤ c0_1) (h : impl_CertOk.f k l0_0 l0_1 = some r) :
  Calls Try.prog 9 #[.agg #[.slice A0_0 l0_0.length c0_0,.slice A0_1 l0_1.length c0_1]] w fun e w' => e = .returned (.bool r) ∧ Below w.heap.size w w':=by
 have hu30:=Try.underlying30
 have HR0_0:=aM hr0_0
 have HC0_0:=aM hc0_0
 clear hr0_0 hc0_0
 have HR0_1:=aM hr0_1
 have HC0_1:=aM hc0_1
 clear hr0_1 hc0_1
 have HB:=aM (Below.refl w.heap.size w)
 have H : ((impl_ChainOk.f k l0_0).bind fun t142 => (if t142 = true then (if (l0_0.length : Int) < 3 then (some false) else ((impl_final.f k l0_0).bind fun t143 => (if t143 = (wrap64 ((l0_0.length : Int) - 1)) then (if (l0_1.length : Int) = 3 then ((slices_ContainsFunc_int_int.f k l0_1).bind fun t144 => (some (!t144))) else (some false)) else (some false)))) else (some false))) = some r:=h
 clear h
 replace H:=Option.bind_eq_some_iff.mp H
 obtain ⟨t142,A20,H⟩:=H
 replace H : (if t142 = true then (if (l0_0.length : Int) < 3 then (some false) else ((impl_final.f k l0_0).bind fun t143 => (if t143 = (wrap64 ((l0_0.length : Int) - 1)) then (if (l0_1.length : Int) = 3 then ((slices_ContainsFunc_int_int.f k l0_1).bind fun t144 => (some (!t144))) else (some false)) else (some false)))) else (some false)) = some r:=H
 have A2:=aM A20
 clear A20
 by_cases c3 : t142 = true
 ·subst c3
  have H1 : (if (l0_0.length : Int) < 3 then (some false) else ((impl_final.f k l0_0).bind fun t143 => (if t143 = (wrap64 ((l0_0.length : Int) - 1)) then (if (l0_1.length : Int) = 3 then ((slices_ContainsFunc_int_int.f k l0_1).bind fun t144 => (some (!t144))) else (some false)) else (some false)))) = some r:=by rw [if_pos rfl] at H;exact H
  clear H
  have H:=H1
  clear H1
  by_cases c4 : (l0_0.length : Int) < 3
  ·rw [if_pos c4] at H
   have c4b0 : decide ((l0_0.length : Int) < 3) = true:=decide_eq_true c4
   have c4b1 : decide (l0_0.length < 3) = true:=decide_eq_true Q17
   clear c4
   obtain rfl:=Option.some.inj H
   go_enter Try.func9,Try.ntmps9
   try go_wp2_with (first|((with_reducible refine gate_dst (N:=1) rfl ?_);(try (refine gate_guard Q70 ?_;dsimp only));refine box_event ?hg (N:=1) ?hd (cs:=#[.slice A0_0 l0_0.length c0_0,.slice A0_1 l0_1.length c0_1]) (t:=30) ?hr ?_;(case hd => rfl);(case hg => rfl);(case hr => exact Q16);intro gb141 hg w5 hbox hb;have n0_:=aM (below_step Q3 hb);have n1_:=aM (hbox);have n2_:=aM ((Q37 : w.heap.size ≤ gb141));have n3_:=aM ((Q37 : w.heap.size ≤ gb141));clear HB;have HB:=n0_;have BK141:=n1_;have GW141:=n2_;have GE141:=n3_;clear n0_ n1_ n2_ n3_;clear hb hbox hg))
   have n0_:=aM (blk_drew BK141.out)
   have n1_:=aM (bD HB.out)
   clear BK141
   clear HB
   have BK141:=n0_
   have HB:=n1_
   clear n0_ n1_
   refine start_ (n:=20) (S:=fun w' => w'.cell? ⟨gb141,0,none⟩ = some (.slice A0_0 l0_0.length c0_0) ∧ w'.cell? ⟨gb141,1,none⟩ = some (.slice A0_1 l0_1.length c0_1)) (ds:=[]) #[bF,bF,bF,bF,bF,bF,bF,bF,bF,bF,bF,bF,bF,bF,bF,bF,bF,bF,bF,bF] Q14 rfl rfl ⟨(blk_cell BK141.out 0).trans rfl,(blk_cell BK141.out 1).trans rfl⟩ (fun hHeld => ?_);refine with_tabW impl_CertOk.tab1 impl_CertOk.bits1 (fun HT_ HW_ => ?_)
   generalize w5.drew = w6 at BK141 HB hHeld ⊢
   refine pS HT_ 0 3 ?_
   refine take_ (i:=1) (N:=some 4) (v:=?_) (a':=?_) #[bT,bT,bF,bF,bF,bF,bF,bF,bF,bF,bF,bF,bF,bF,bF,bF,bF,bF,bF,bF] rfl rfl (take_ofW HT_.out HW_.out Q14) (fun _ _ _ h => h) (Or.inl ⟨Q70,?_⟩) hHeld ?_ ?_
   rotate_left
   ·rintro w' ⟨s0,s1⟩
    (try simp only [Int.toNat_natCast] at s0 s1)
    go_simp
    with_reducible rfl
   rotate_left
   ·simp only [Act.put,sI,sZ,sS,i64_w,i32_w]
    rfl
   refine one_ (i:=2) (N:=some 5) #[bT,bT,bT,bF,bF,bF,bF,bF,bF,bF,bF,bF,bF,bF,bF,bF,bF,bF,bF,bF] rfl rfl (one_of HT_.out Q14) Q36 (fun K hK => ?_)
   refine goes_ Try.func18 Q14 rfl #[.slice A0_0 l0_0.length c0_0] Q70 rfl rfl Q1 ?_
   with_reducible refine (impl_ChainOk.calls k _ _ l0_0 true _ ?side1 ?side2 A2.out).mono ?_
   (case side1 => exact Q20)
   (case side2 => exact HC0_0.out)
   rintro e w7 ⟨rfl,hb⟩
   refine ⟨_,rfl,?_⟩
   have n0_:=aM (blk_below (g:=gb141) (o:=.cells #[.slice A0_0 l0_0.length c0_0,.slice A0_1 l0_1.length c0_1] 30 (0,0)) (qk BK141) hb)
   have n1_:=aM (below_step Q38 hb)
   clear BK141
   clear HB
   have BK141:=n0_
   have HB:=n1_
   clear n0_ n1_
   (try clear hb)
   (try clear hb2)
   (try clear hk)
   (try clear hi)
   refine hK.out _ _ ⟨(blk_cell BK141.out 0).trans rfl,(blk_cell BK141.out 1).trans rfl⟩ (fun hHeld => ?_)
   clear hK K
   refine norm_ (a':=?_) ?_ ?_
   rotate_left
   ·show Act.put _ (some 5) _ = _
    simp only [Act.put,sI,sZ,sS,i64_w,i32_w]
    rfl
   refine pS HT_ 3 6 ?_
   refine pS HT_ 4 7 ?_
   refine pS HT_ 5 8 ?_
   refine take_ (i:=6) (N:=some 9) (v:=?_) (a':=?_) #[bT,bT,bT,bT,bT,bT,bT,bF,bF,bF,bF,bF,bF,bF,bF,bF,bF,bF,bF,bF] rfl rfl (take_ofW HT_.out HW_.out Q14) (fun _ _ _ h => h) (Or.inl ⟨Q70,?_⟩) hHeld ?_ ?_
   rotate_left
   ·rintro w' ⟨s0,s1⟩
    (try simp only [Int.toNat_natCast] at s0 s1)
    go_simp
    with_reducible rfl
   rotate_left
   ·simp only [Act.put,sI,sZ,sS,i64_w,i32_w]
    rfl
   refine pS HT_ 7 10 ?_
   refine pS HT_ 8 11 ?_
   refine pS HT_ 9 12 ?_
   refine pS HT_ 10 13 ?_
   refine pU HT_ 11 14 ?_
   refine pU HT_ 12 15 ?_
   refine pU HT_ 13 16 ?_
   refine pU HT_ 14 17 ?_
   refine pU HT_ 15 18 ?_
   refine pU HT_ 16 19 ?_
   refine pU HT_ 17 20 ?_
   refine pU HT_ 18 21 ?_
   refine pS HT_ 19 22 ?_
   refine done_ (done_of HT_.out Q14) ?_
   try go_wp2
   go_ret
   exact ⟨Q6,Q38⟩
  ·rw [if_neg c4] at H
   have c4b0 : decide ((l0_0.length : Int) < 3) = false:=decide_eq_false c4
   have c4b1 : decide (l0_0.length < 3) = false:=decide_eq_false Q17
   clear c4
   replace H:=Option.bind_eq_some_iff.mp H
   obtain ⟨t143,A80,H⟩:=H
   replace H : (if t143 = (wrap64 ((l0_0.length : Int) - 1)) then (if (l0_1.length : Int) = 3 then ((slices_ContainsFunc_int_int.f k l0_1).bind fun t144 => (some (!t144))) else (some false)) else (some false)) = some r:=H
   have A8:=aM A80
   clear A80
   by_cases c9 : t143 = (wrap64 ((l0_0.length : Int) - 1))
   ·rw [if_pos c9] at H
    have c9b0 : (t143 == (wrap64 ((l0_0.length : Int) - 1))) = true:=beq_iff_eq.mpr c9
    have c9b1 : (t143 != (wrap64 ((l0_0.length : Int) - 1))) = false:=bne_eq_false_iff_eq.mpr c9
    clear c9
    by_cases c10 : (l0_1.length : Int) = 3
    ·rw [if_pos c10] at H
     have c10b0 : ((l0_1.length : Int) == 3) = true:=beq_iff_eq.mpr c10
     have c10b1 : ((l0_1.length : Int) != 3) = false:=bne_eq_false_iff_eq.mpr c10
     clear c10
     replace H:=Option.bind_eq_some_iff.mp H
     obtain ⟨t144,A110,H⟩:=H
     replace H : (some (!t144)) = some r:=H
     have A11:=aM A110
     clear A110
     obtain rfl:=Option.some.inj H
     go_enter Try.func9,Try.ntmps9
     try go_wp2_with (first|((with_reducible refine gate_dst (N:=1) rfl ?_);(try (refine gate_guard Q70 ?_;dsimp only));refine box_event ?hg (N:=1) ?hd (cs:=#[.slice A0_0 l0_0.length c0_0,.slice A0_1 l0_1.length c0_1]) (t:=30) ?hr ?_;(case hd => rfl);(case hg => rfl);(case hr => exact Q16);intro gb141 hg w12 hbox hb;have n0_:=aM (below_step Q3 hb);have n1_:=aM (hbox);have n2_:=aM ((Q37 : w.heap.size ≤ gb141));have n3_:=aM ((Q37 : w.heap.size ≤ gb141));clear HB;have HB:=n0_;have BK141:=n1_;have GW141:=n2_;have GE141:=n3_;clear n0_ n1_ n2_ n3_;clear hb hbox hg))
     have n0_:=aM (blk_drew BK141.out)
     have n1_:=aM (bD HB.out)
     clear BK141
     clear HB
     have BK141:=n0_
     have HB:=n1_
     clear n0_ n1_
     refine start_ (n:=20) (S:=fun w' => w'.cell? ⟨gb141,0,none⟩ = some (.slice A0_0 l0_0.length c0_0) ∧ w'.cell? ⟨gb141,1,none⟩ = some (.slice A0_1 l0_1.length c0_1)) (ds:=[]) #[bF,bF,bF,bF,bF,bF,bF,bF,bF,bF,bF,bF,bF,bF,bF,bF,bF,bF,bF,bF] Q14 rfl rfl ⟨(blk_cell BK141.out 0).trans rfl,(blk_cell BK141.out 1).trans rfl⟩ (fun hHeld => ?_);refine with_tabW impl_CertOk.tab1 impl_CertOk.bits1 (fun HT_ HW_ => ?_)
     generalize w12.drew = w13 at BK141 HB hHeld ⊢
     refine pS HT_ 0 3 ?_
     refine take_ (i:=1) (N:=some 4) (v:=?_) (a':=?_) #[bT,bT,bF,bF,bF,bF,bF,bF,bF,bF,bF,bF,bF,bF,bF,bF,bF,bF,bF,bF] rfl rfl (take_ofW HT_.out HW_.out Q14) (fun _ _ _ h => h) (Or.inl ⟨Q70,?_⟩) hHeld ?_ ?_
     rotate_left
     ·rintro w' ⟨s0,s1⟩
      (try simp only [Int.toNat_natCast] at s0 s1)
      go_simp
      with_reducible rfl
     rotate_left
     ·simp only [Act.put,sI,sZ,sS,i64_w,i32_w]
      rfl
     refine one_ (i:=2) (N:=some 5) #[bT,bT,bT,bF,bF,bF,bF,bF,bF,bF,bF,bF,bF,bF,bF,bF,bF,bF,bF,bF] rfl rfl (one_of HT_.out Q14) Q36 (fun K hK => ?_)
     refine goes_ Try.func18 Q14 rfl #[.slice A0_0 l0_0.length c0_0] Q70 rfl rfl Q1 ?_
     with_reducible refine (impl_ChainOk.calls k _ _ l0_0 true _ ?side1 ?side2 A2.out).mono ?_
     (case side1 => exact Q20)
     (case side2 => exact HC0_0.out)
     rintro e w14 ⟨rfl,hb⟩
     refine ⟨_,rfl,?_⟩
     have n0_:=aM (blk_below (g:=gb141) (o:=.cells #[.slice A0_0 l0_0.length c0_0,.slice A0_1 l0_1.length c0_1] 30 (0,0)) (qk BK141) hb)
     have n1_:=aM (below_step Q38 hb)
     clear BK141
     clear HB
     have BK141:=n0_
     have HB:=n1_
     clear n0_ n1_
     (try clear hb)
     (try clear hb2)
     (try clear hk)
     (try clear hi)
     refine hK.out _ _ ⟨(blk_cell BK141.out 0).trans rfl,(blk_cell BK141.out 1).trans rfl⟩ (fun hHeld => ?_)
     clear hK K
     refine norm_ (a':=?_) ?_ ?_
     rotate_left
     ·show Act.put _ (some 5) _ = _
      simp only [Act.put,sI,sZ,sS,i64_w,i32_w]
      rfl
     refine pS HT_ 3 6 ?_
     refine pS HT_ 4 7 ?_
     refine pS HT_ 5 8 ?_
     refine take_ (i:=6) (N:=some 9) (v:=?_) (a':=?_) #[bT,bT,bT,bT,bT,bT,bT,bF,bF,bF,bF,bF,bF,bF,bF,bF,bF,bF,bF,bF] rfl rfl (take_ofW HT_.out HW_.out Q14) (fun _ _ _ h => h) (Or.inl ⟨Q70,?_⟩) hHeld ?_ ?_
     rotate_left
     ·rintro w' ⟨s0,s1⟩
      (try simp only [Int.toNat_natCast] at s0 s1)
      go_simp
      with_reducible rfl
     rotate_left
     ·simp only [Act.put,sI,sZ,sS,i64_w,i32_w]
      rfl
     refine pS HT_ 7 10 ?_
     refine pS HT_ 8 11 ?_
     refine pS HT_ 9 12 ?_
     refine pS HT_ 10 13 ?_
     refine pS HT_ 11 14 ?_
     refine pS HT_ 14 17 ?_
     refine take_ (i:=12) (N:=some 15) (v:=?_) (a':=?_) #[bT,bT,bT,bT,bT,bT,bT,bT,bT,bT,bT,bT,bT,bF,bT,bF,bF,bF,bF,bF] rfl rfl (take_ofW HT_.out HW_.out Q14) (fun _ _ _ h => h) (Or.inl ⟨Q70,?_⟩) hHeld ?_ ?_
     rotate_left
     ·rintro w' ⟨s0,s1⟩
      (try simp only [Int.toNat_natCast] at s0 s1)
      go_simp
      with_reducible rfl
     rotate_left
     ·simp only [Act.put,sI,sZ,sS,i64_w,i32_w]
      rfl
     refine take_ (i:=15) (N:=some 18) (v:=?_) (a':=?_) #[bT,bT,bT,bT,bT,bT,bT,bT,bT,bT,bT,bT,bT,bF,bT,bT,bF,bF,bF,bF] rfl rfl (take_ofW HT_.out HW_.out Q14) (fun _ _ _ h => h) (Or.inl ⟨Q70,?_⟩) hHeld ?_ ?_
     rotate_left
     ·rintro w' ⟨s0,s1⟩
      (try simp only [Int.toNat_natCast] at s0 s1)
      go_simp
      with_reducible rfl
     rotate_left
     ·simp only [Act.put,sI,sZ,sS,i64_w,i32_w]
      rfl
     refine pS HT_ 16 19 ?_
     refine pS HT_ 17 20 ?_
     refine one_ (i:=13) (N:=some 16) #[bT,bT,bT,bT,bT,bT,bT,bT,bT,bT,bT,bT,bT,bT,bT,bT,bT,bT,bF,bF] rfl rfl (one_of HT_.out Q14) Q36 (fun K hK => ?_)
     refine goes_ Try.func19 Q14 rfl #[.slice A0_0 l0_0.length c0_0] Q70 rfl rfl Q1 ?_
     with_reducible refine (impl_final.calls k _ _ l0_0 t143 _ ?side1 ?side2 A8.out).mono ?_
     (case side1 => exact Q20)
     (case side2 => exact HC0_0.out)
     rintro e w' ⟨rfl,⟨nd,rfl⟩⟩
     refine ⟨_,rfl,?_⟩
     refine hK.out _ _ ⟨(blk_cell BK141.out 0).trans rfl,(blk_cell BK141.out 1).trans rfl⟩ (fun hHeld => ?_)
     clear hK K
     refine norm_ (a':=?_) ?_ ?_
     rotate_left
     ·show Act.put _ (some 16) _ = _
      simp only [Act.put,sI,sZ,sS,i64_w,i32_w]
      rfl
     refine pS HT_ 18 21 ?_
     refine pS HT_ 19 22 ?_
     refine done_ (done_of HT_.out Q14) ?_
     have hcz15_0 : w14.cell? ⟨gb141,0,none⟩ = some (.slice A0_0 l0_0.length c0_0):=(blk_cell BK141.out 0).trans rfl
     have hcz15_1 : w14.cell? ⟨gb141,1,none⟩ = some (.slice A0_1 l0_1.length c0_1):=(blk_cell BK141.out 1).trans rfl
     have hfz15_0:=blk_frozen BK141.out 0
     have hfz15_1:=blk_frozen BK141.out 1
     try go_wp2_with (first|(go_at_call 20;(with_reducible refine (slices_ContainsFunc_int_int.calls k _ _ l0_1 t144 _ ?side1 ?side2 A11.out).mono ?_);(case side1 => repeat (first|exact (Kd.C_below HR0_1.out Q38)|(with_reducible refine Kd.C_alloc ?_ _)|(with_reducible refine Kd.C_drewN ?_ _)|(with_reducible refine Kd.C_drew ?_)));(case side2 => exact HC0_1.out);rintro e w16 ⟨rfl,hb⟩;have n0_:=aM (blk_below (g:=gb141) (o:=.cells #[.slice A0_0 l0_0.length c0_0,.slice A0_1 l0_1.length c0_1] 30 (0,0)) (qk BK141) hb);have n1_:=aM (below_step Q38 hb);clear BK141;clear HB;have BK141:=n0_;have HB:=n1_;clear n0_ n1_;(try clear hb);(try clear hb2);(try clear hk);(try clear hi)))
     go_ret
     exact ⟨Q6,Q38⟩
    ·rw [if_neg c10] at H
     have c10b0 : ((l0_1.length : Int) == 3) = false:=beq_eq_false_iff_ne.mpr c10
     have c10b1 : ((l0_1.length : Int) != 3) = true:=bne_iff_ne.mpr c10
     obtain rfl:=Option.some.inj H
     go_enter Try.func9,Try.ntmps9
     try go_wp2_with (first|((with_reducible refine gate_dst (N:=1) rfl ?_);(try (refine gate_guard Q70 ?_;dsimp only));refine box_event ?hg (N:=1) ?hd (cs:=#[.slice A0_0 l0_0.length c0_0,.slice A0_1 l0_1.length c0_1]) (t:=30) ?hr ?_;(case hd => rfl);(case hg => rfl);(case hr => exact Q16);intro gb141 hg w17 hbox hb;have n0_:=aM (below_step Q3 hb);have n1_:=aM (hbox);have n2_:=aM ((Q37 : w.heap.size ≤ gb141));have n3_:=aM ((Q37 : w.heap.size ≤ gb141));clear HB;have HB:=n0_;have BK141:=n1_;have GW141:=n2_;have GE141:=n3_;clear n0_ n1_ n2_ n3_;clear hb hbox hg))
     have n0_:=aM (blk_drew BK141.out)
     have n1_:=aM (bD HB.out)
     clear BK141
     clear HB
     have BK141:=n0_
     have HB:=n1_
     clear n0_ n1_
     refine start_ (n:=20) (S:=fun w' => w'.cell? ⟨gb141,0,none⟩ = some (.slice A0_0 l0_0.length c0_0) ∧ w'.cell? ⟨gb141,1,none⟩ = some (.slice A0_1 l0_1.length c0_1)) (ds:=[]) #[bF,bF,bF,bF,bF,bF,bF,bF,bF,bF,bF,bF,bF,bF,bF,bF,bF,bF,bF,bF] Q14 rfl rfl ⟨(blk_cell BK141.out 0).trans rfl,(blk_cell BK141.out 1).trans rfl⟩ (fun hHeld => ?_);refine with_tabW impl_CertOk.tab1 impl_CertOk.bits1 (fun HT_ HW_ => ?_)
     generalize w17.drew = w18 at BK141 HB hHeld ⊢
     refine pS HT_ 0 3 ?_
     refine take_ (i:=1) (N:=some 4) (v:=?_) (a':=?_) #[bT,bT,bF,bF,bF,bF,bF,bF,bF,bF,bF,bF,bF,bF,bF,bF,bF,bF,bF,bF] rfl rfl (take_ofW HT_.out HW_.out Q14) (fun _ _ _ h => h) (Or.inl ⟨Q70,?_⟩) hHeld ?_ ?_
     rotate_left
     ·rintro w' ⟨s0,s1⟩
      (try simp only [Int.toNat_natCast] at s0 s1)
      go_simp
      with_reducible rfl
     rotate_left
     ·simp only [Act.put,sI,sZ,sS,i64_w,i32_w]
      rfl
     refine one_ (i:=2) (N:=some 5) #[bT,bT,bT,bF,bF,bF,bF,bF,bF,bF,bF,bF,bF,bF,bF,bF,bF,bF,bF,bF] rfl rfl (one_of HT_.out Q14) Q36 (fun K hK => ?_)
     refine goes_ Try.func18 Q14 rfl #[.slice A0_0 l0_0.length c0_0] Q70 rfl rfl Q1 ?_
     with_reducible refine (impl_ChainOk.calls k _ _ l0_0 true _ ?side1 ?side2 A2.out).mono ?_
     (case side1 => exact Q20)
     (case side2 => exact HC0_0.out)
     rintro e w19 ⟨rfl,hb⟩
     refine ⟨_,rfl,?_⟩
     have n0_:=aM (blk_below (g:=gb141) (o:=.cells #[.slice A0_0 l0_0.length c0_0,.slice A0_1 l0_1.length c0_1] 30 (0,0)) (qk BK141) hb)
     have n1_:=aM (below_step Q38 hb)
     clear BK141
     clear HB
     have BK141:=n0_
     have HB:=n1_
     clear n0_ n1_
     (try clear hb)
     (try clear hb2)
     (try clear hk)
     (try clear hi)
     refine hK.out _ _ ⟨(blk_cell BK141.out 0).trans rfl,(blk_cell BK141.out 1).trans rfl⟩ (fun hHeld => ?_)
     clear hK K
     refine norm_ (a':=?_) ?_ ?_
     rotate_left
     ·show Act.put _ (some 5) _ = _
      simp only [Act.put,sI,sZ,sS,i64_w,i32_w]
      rfl
     refine pS HT_ 3 6 ?_
     refine pS HT_ 4 7 ?_
     refine pS HT_ 5 8 ?_
     refine take_ (i:=6) (N:=some 9) (v:=?_) (a':=?_) #[bT,bT,bT,bT,bT,bT,bT,bF,bF,bF,bF,bF,bF,bF,bF,bF,bF,bF,bF,bF] rfl rfl (take_ofW HT_.out HW_.out Q14) (fun _ _ _ h => h) (Or.inl ⟨Q70,?_⟩) hHeld ?_ ?_
     rotate_left
     ·rintro w' ⟨s0,s1⟩
      (try simp only [Int.toNat_natCast] at s0 s1)
      go_simp
      with_reducible rfl
     rotate_left
     ·simp only [Act.put,sI,sZ,sS,i64_w,i32_w]
      rfl
     refine pS HT_ 7 10 ?_
     refine pS HT_ 8 11 ?_
     refine pS HT_ 9 12 ?_
     refine pS HT_ 10 13 ?_
     refine pS HT_ 11 14 ?_
     refine pS HT_ 14 17 ?_
     refine take_ (i:=12) (N:=some 15) (v:=?_) (a':=?_) #[bT,bT,bT,bT,bT,bT,bT,bT,bT,bT,bT,bT,bT,bF,bT,bF,bF,bF,bF,bF] rfl rfl (take_ofW HT_.out HW_.out Q14) (fun _ _ _ h => h) (Or.inl ⟨Q70,?_⟩) hHeld ?_ ?_
     rotate_left
     ·rintro w' ⟨s0,s1⟩
      (try simp only [Int.toNat_natCast] at s0 s1)
      go_simp
      with_reducible rfl
     rotate_left
     ·simp only [Act.put,sI,sZ,sS,i64_w,i32_w]
      rfl
     refine take_ (i:=15) (N:=some 18) (v:=?_) (a':=?_) #[bT,bT,bT,bT,bT,bT,bT,bT,bT,bT,bT,bT,bT,bF,bT,bT,bF,bF,bF,bF] rfl rfl (take_ofW HT_.out HW_.out Q14) (fun _ _ _ h => h) (Or.inl ⟨Q70,?_⟩) hHeld ?_ ?_
     rotate_left
     ·rintro w' ⟨s0,s1⟩
      (try simp only [Int.toNat_natCast] at s0 s1)
      go_simp
      with_reducible rfl
     rotate_left
     ·simp only [Act.put,sI,sZ,sS,i64_w,i32_w]
      rfl
     refine pS HT_ 16 19 ?_
     refine pS HT_ 17 20 ?_
     refine one_ (i:=13) (N:=some 16) #[bT,bT,bT,bT,bT,bT,bT,bT,bT,bT,bT,bT,bT,bT,bT,bT,bT,bT,bF,bF] rfl rfl (one_of HT_.out Q14) Q36 (fun K hK => ?_)
     refine goes_ Try.func19 Q14 rfl #[.slice A0_0 l0_0.length c0_0] Q70 rfl rfl Q1 ?_
     with_reducible refine (impl_final.calls k _ _ l0_0 t143 _ ?side1 ?side2 A8.out).mono ?_
     (case side1 => exact Q20)
     (case side2 => exact HC0_0.out)
     rintro e w' ⟨rfl,⟨nd,rfl⟩⟩
     refine ⟨_,rfl,?_⟩
     refine hK.out _ _ ⟨(blk_cell BK141.out 0).trans rfl,(blk_cell BK141.out 1).trans rfl⟩ (fun hHeld => ?_)
     clear hK K
     refine norm_ (a':=?_) ?_ ?_
     rotate_left
     ·show Act.put _ (some 16) _ = _
      simp only [Act.put,sI,sZ,sS,i64_w,i32_w]
      rfl
     refine pS HT_ 18 21 ?_
     refine pS HT_ 19 22 ?_
     refine done_ (done_of HT_.out Q14) ?_
     have hcz20_0 : w19.cell? ⟨gb141,0,none⟩ = some (.slice A0_0 l0_0.length c0_0):=(blk_cell BK141.out 0).trans rfl
     have hcz20_1 : w19.cell? ⟨gb141,1,none⟩ = some (.slice A0_1 l0_1.length c0_1):=(blk_cell BK141.out 1).trans rfl
     have hfz20_0:=blk_frozen BK141.out 0
     have hfz20_1:=blk_frozen BK141.out 1
     try go_wp2
     go_ret
     exact ⟨Q6,Q38⟩
   ·rw [if_neg c9] at H
    have c9b0 : (t143 == (wrap64 ((l0_0.length : Int) - 1))) = false:=beq_eq_false_iff_ne.mpr c9
    have c9b1 : (t143 != (wrap64 ((l0_0.length : Int) - 1))) = true:=bne_iff_ne.mpr c9
    obtain rfl:=Option.some.inj H
    go_enter Try.func9,Try.ntmps9
    try go_wp2_with (first|((with_reducible refine gate_dst (N:=1) rfl ?_);(try (refine gate_guard Q70 ?_;dsimp only));refine box_event ?hg (N:=1) ?hd (cs:=#[.slice A0_0 l0_0.length c0_0,.slice A0_1 l0_1.length c0_1]) (t:=30) ?hr ?_;(case hd => rfl);(case hg => rfl);(case hr => exact Q16);intro gb141 hg w21 hbox hb;have n0_:=aM (below_step Q3 hb);have n1_:=aM (hbox);have n2_:=aM ((Q37 : w.heap.size ≤ gb141));have n3_:=aM ((Q37 : w.heap.size ≤ gb141));clear HB;have HB:=n0_;have BK141:=n1_;have GW141:=n2_;have GE141:=n3_;clear n0_ n1_ n2_ n3_;clear hb hbox hg))
    have n0_:=aM (blk_drew BK141.out)
    have n1_:=aM (bD HB.out)
    clear BK141
    clear HB
    have BK141:=n0_
    have HB:=n1_
    clear n0_ n1_
    refine start_ (n:=20) (S:=fun w' => w'.cell? ⟨gb141,0,none⟩ = some (.slice A0_0 l0_0.length c0_0) ∧ w'.cell? ⟨gb141,1,none⟩ = some (.slice A0_1 l0_1.length c0_1)) (ds:=[]) #[bF,bF,bF,bF,bF,bF,bF,bF,bF,bF,bF,bF,bF,bF,bF,bF,bF,bF,bF,bF] Q14 rfl rfl ⟨(blk_cell BK141.out 0).trans rfl,(blk_cell BK141.out 1).trans rfl⟩ (fun hHeld => ?_);refine with_tabW impl_CertOk.tab1 impl_CertOk.bits1 (fun HT_ HW_ => ?_)
    generalize w21.drew = w22 at BK141 HB hHeld ⊢
    refine pS HT_ 0 3 ?_
    refine take_ (i:=1) (N:=some 4) (v:=?_) (a':=?_) #[bT,bT,bF,bF,bF,bF,bF,bF,bF,bF,bF,bF,bF,bF,bF,bF,bF,bF,bF,bF] rfl rfl (take_ofW HT_.out HW_.out Q14) (fun _ _ _ h => h) (Or.inl ⟨Q70,?_⟩) hHeld ?_ ?_
    rotate_left
    ·rintro w' ⟨s0,s1⟩
     (try simp only [Int.toNat_natCast] at s0 s1)
     go_simp
     with_reducible rfl
    rotate_left
    ·simp only [Act.put,sI,sZ,sS,i64_w,i32_w]
     rfl
    refine one_ (i:=2) (N:=some 5) #[bT,bT,bT,bF,bF,bF,bF,bF,bF,bF,bF,bF,bF,bF,bF,bF,bF,bF,bF,bF] rfl rfl (one_of HT_.out Q14) Q36 (fun K hK => ?_)
    refine goes_ Try.func18 Q14 rfl #[.slice A0_0 l0_0.length c0_0] Q70 rfl rfl Q1 ?_
    with_reducible refine (impl_ChainOk.calls k _ _ l0_0 true _ ?side1 ?side2 A2.out).mono ?_
    (case side1 => exact Q20)
    (case side2 => exact HC0_0.out)
    rintro e w23 ⟨rfl,hb⟩
    refine ⟨_,rfl,?_⟩
    have n0_:=aM (blk_below (g:=gb141) (o:=.cells #[.slice A0_0 l0_0.length c0_0,.slice A0_1 l0_1.length c0_1] 30 (0,0)) (qk BK141) hb)
    have n1_:=aM (below_step Q38 hb)
    clear BK141
    clear HB
    have BK141:=n0_
    have HB:=n1_
    clear n0_ n1_
    (try clear hb)
    (try clear hb2)
    (try clear hk)
    (try clear hi)
    refine hK.out _ _ ⟨(blk_cell BK141.out 0).trans rfl,(blk_cell BK141.out 1).trans rfl⟩ (fun hHeld => ?_)
    clear hK K
    refine norm_ (a':=?_) ?_ ?_
    rotate_left
    ·show Act.put _ (some 5) _ = _
     simp only [Act.put,sI,sZ,sS,i64_w,i32_w]
     rfl
    refine pS HT_ 3 6 ?_
    refine pS HT_ 4 7 ?_
    refine pS HT_ 5 8 ?_
    refine take_ (i:=6) (N:=some 9) (v:=?_) (a':=?_) #[bT,bT,bT,bT,bT,bT,bT,bF,bF,bF,bF,bF,bF,bF,bF,bF,bF,bF,bF,bF] rfl rfl (take_ofW HT_.out HW_.out Q14) (fun _ _ _ h => h) (Or.inl ⟨Q70,?_⟩) hHeld ?_ ?_
    rotate_left
    ·rintro w' ⟨s0,s1⟩
     (try simp only [Int.toNat_natCast] at s0 s1)
     go_simp
     with_reducible rfl
    rotate_left
    ·simp only [Act.put,sI,sZ,sS,i64_w,i32_w]
     rfl
    refine pS HT_ 7 10 ?_
    refine pS HT_ 8 11 ?_
    refine pS HT_ 9 12 ?_
    refine pS HT_ 10 13 ?_
    refine pS HT_ 11 14 ?_
    refine pS HT_ 14 17 ?_
    refine take_ (i:=12) (N:=some 15) (v:=?_) (a':=?_) #[bT,bT,bT,bT,bT,bT,bT,bT,bT,bT,bT,bT,bT,bF,bT,bF,bF,bF,bF,bF] rfl rfl (take_ofW HT_.out HW_.out Q14) (fun _ _ _ h => h) (Or.inl ⟨Q70,?_⟩) hHeld ?_ ?_
    rotate_left
    ·rintro w' ⟨s0,s1⟩
     (try simp only [Int.toNat_natCast] at s0 s1)
     go_simp
     with_reducible rfl
    rotate_left
    ·simp only [Act.put,sI,sZ,sS,i64_w,i32_w]
     rfl
    refine take_ (i:=15) (N:=some 18) (v:=?_) (a':=?_) #[bT,bT,bT,bT,bT,bT,bT,bT,bT,bT,bT,bT,bT,bF,bT,bT,bF,bF,bF,bF] rfl rfl (take_ofW HT_.out HW_.out Q14) (fun _ _ _ h => h) (Or.inl ⟨Q70,?_⟩) hHeld ?_ ?_
    rotate_left
    ·rintro w' ⟨s0,s1⟩
     (try simp only [Int.toNat_natCast] at s0 s1)
     go_simp
     with_reducible rfl
    rotate_left
    ·simp only [Act.put,sI,sZ,sS,i64_w,i32_w]
     rfl
    refine pS HT_ 16 19 ?_
    refine pS HT_ 17 20 ?_
    refine one_ (i:=13) (N:=some 16) #[bT,bT,bT,bT,bT,bT,bT,bT,bT,bT,bT,bT,bT,bT,bT,bT,bT,bT,bF,bF] rfl rfl (one_of HT_.out Q14) Q36 (fun K hK => ?_)
    refine goes_ Try.func19 Q14 rfl #[.slice A0_0 l0_0.length c0_0] Q70 rfl rfl Q1 ?_
    with_reducible refine (impl_final.calls k _ _ l0_0 t143 _ ?side1 ?side2 A8.out).mono ?_
    (case side1 => exact Q20)
    (case side2 => exact HC0_0.out)
    rintro e w' ⟨rfl,⟨nd,rfl⟩⟩
    refine ⟨_,rfl,?_⟩
    refine hK.out _ _ ⟨(blk_cell BK141.out 0).trans rfl,(blk_cell BK141.out 1).trans rfl⟩ (fun hHeld => ?_)
    clear hK K
    refine norm_ (a':=?_) ?_ ?_
    rotate_left
    ·show Act.put _ (some 16) _ = _
     simp only [Act.put,sI,sZ,sS,i64_w,i32_w]
     rfl
    refine pS HT_ 18 21 ?_
    refine pS HT_ 19 22 ?_
    refine done_ (done_of HT_.out Q14) ?_
    try go_wp2
    go_ret
    exact ⟨Q6,Q38⟩
 ·replace c3:=Bool.eq_false_iff.mpr c3
  subst c3
  have H1 : (some false) = some r:=by rw [if_neg (show ¬ (false = true) by decide)] at H;exact H
  clear H
  have H:=H1
  clear H1
  obtain rfl:=Option.some.inj H
  go_enter Try.func9,Try.ntmps9
  try go_wp2_with (first|((with_reducible refine gate_dst (N:=1) rfl ?_);(try (refine gate_guard Q70 ?_;dsimp only));refine box_event ?hg (N:=1) ?hd (cs:=#[.slice A0_0 l0_0.length c0_0,.slice A0_1 l0_1.length c0_1]) (t:=30) ?hr ?_;(case hd => rfl);(case hg => rfl);(case hr => exact Q16);intro gb141 hg w24 hbox hb;have n0_:=aM (below_step Q3 hb);have n1_:=aM (hbox);have n2_:=aM ((Q37 : w.heap.size ≤ gb141));have n3_:=aM ((Q37 : w.heap.size ≤ gb141));clear HB;have HB:=n0_;have BK141:=n1_;have GW141:=n2_;have GE141:=n3_;clear n0_ n1_ n2_ n3_;clear hb hbox hg))
  have n0_:=aM (blk_drew BK141.out)
  have n1_:=aM (bD HB.out)
  clear BK141
  clear HB
  have BK141:=n0_
  have HB:=n1_
  clear n0_ n1_
  refine start_ (n:=20) (S:=fun w' => w'.cell? ⟨gb141,0,none⟩ = some (.slice A0_0 l0_0.length c0_0) ∧ w'.cell? ⟨gb141,1,none⟩ = some (.slice A0_1 l0_1.length c0_1)) (ds:=[]) #[bF,bF,bF,bF,bF,bF,bF,bF,bF,bF,bF,bF,bF,bF,bF,bF,bF,bF,bF,bF] Q14 rfl rfl ⟨(blk_cell BK141.out 0).trans rfl,(blk_cell BK141.out 1).trans rfl⟩ (fun hHeld => ?_);refine with_tabW impl_CertOk.tab1 impl_CertOk.bits1 (fun HT_ HW_ => ?_)
  generalize w24.drew = w25 at BK141 HB hHeld ⊢
  refine pS HT_ 0 3 ?_
  refine take_ (i:=1) (N:=some 4) (v:=?_) (a':=?_) #[bT,bT,bF,bF,bF,bF,bF,bF,bF,bF,bF,bF,bF,bF,bF,bF,bF,bF,bF,bF] rfl rfl (take_ofW HT_.out HW_.out Q14) (fun _ _ _ h => h) (Or.inl ⟨Q70,?_⟩) hHeld ?_ ?_
  rotate_left
  ·rintro w' ⟨s0,s1⟩
   (try simp only [Int.toNat_natCast] at s0 s1)
   go_simp
   with_reducible rfl
  rotate_left
  ·simp only [Act.put,sI,sZ,sS,i64_w,i32_w]
   rfl
  refine one_ (i:=2) (N:=some 5) #[bT,bT,bT,bF,bF,bF,bF,bF,bF,bF,bF,bF,bF,bF,bF,bF,bF,bF,bF,bF] rfl rfl (one_of HT_.out Q14) Q36 (fun K hK => ?_)
  refine goes_ Try.func18 Q14 rfl #[.slice A0_0 l0_0.length c0_0] Q70 rfl rfl Q1 ?_
  with_reducible refine (impl_ChainOk.calls k _ _ l0_0 false _ ?side1 ?side2 A2.out).mono ?_
  (case side1 => exact Q20)
  (case side2 => exact HC0_0.out)
  rintro e w26 ⟨rfl,hb⟩
  refine ⟨_,rfl,?_⟩
  have n0_:=aM (blk_below (g:=gb141) (o:=.cells #[.slice A0_0 l0_0.length c0_0,.slice A0_1 l0_1.length c0_1] 30 (0,0)) (qk BK141) hb)
  have n1_:=aM (below_step Q38 hb)
  clear BK141
  clear HB
  have BK141:=n0_
  have HB:=n1_
  clear n0_ n1_
  (try clear hb)
  (try clear hb2)
  (try clear hk)
  (try clear hi)
  refine hK.out _ _ ⟨(blk_cell BK141.out 0).trans rfl,(blk_cell BK141.out 1).trans rfl⟩ (fun hHeld => ?_)
  clear hK K
  refine norm_ (a':=?_) ?_ ?_
  rotate_left
  ·show Act.put _ (some 5) _ = _
   simp only [Act.put,sI,sZ,sS,i64_w,i32_w]
   rfl
  refine pS HT_ 3 6 ?_
  refine pS HT_ 4 7 ?_
  refine pU HT_ 5 8 ?_
  refine pU HT_ 6 9 ?_
  refine pU HT_ 7 10 ?_
  refine pU HT_ 8 11 ?_
  refine pS HT_ 9 12 ?_
  refine pS HT_ 10 13 ?_
  refine pU HT_ 11 14 ?_
  refine pU HT_ 12 15 ?_
  refine pU HT_ 13 16 ?_
  refine pU HT_ 14 17 ?_
  refine pU HT_ 15 18 ?_
  refine pU HT_ 16 19 ?_
  refine pU HT_ 17 20 ?_
  refine pU HT_ 18 21 ?_
  refine pS HT_ 19 22 ?_
  refine done_ (done_of HT_.out Q14) ?_
  try go_wp2
  go_ret
  exact ⟨Q6,Q38⟩

end Go.Proofs.Ytlcfalecbpnhbaa.P
