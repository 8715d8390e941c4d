/- The printed functions: what each Go function computes, as a Lean function, and that the Go code comes to just that. Conditions: none beyond each contract's own. -/
import Derived.Test.YtlcfalecbpnhbaaPx0
import Derived.Test.YtlcfalecbpnhbaaPx2
namespace Go.Proofs.Ytlcfalecbpnhbaa.P
open Go.RowKit Go.Proofs.YtlcfalecbpnhbaaW.PrintWords Go.Proofs.YtlcfalecbpnhbaaW.PrintLast Go.Proofs.YtlcfalecbpnhbaaW.PrintMore
attribute [local go_sem] max2_int min2_int max_two min_two max_three min_three max_four min_four   -- for this text's walks alone
set_option linter.unusedVariables false
set_option linter.unusedSimpArgs false

/-! ### spec_ChainOk: function 14 -/
def spec_ChainOk.l0 : Nat → List (S40) → Int → Option (Bool)
 | 0,_,_ => none
 | k + 1,x0,x3 => if x3 < (x0.length : Int) then (if 0 ≤ x3 then ((spec_l6In.f ((rd_T40 x0 x3).f0) 1 30).bind fun t110 => (if t110 = true then ((spec_PayOk.f ((rd_T40 x0 x3).f1.f0) ((rd_T40 x0 x3).f1.f1) ((rd_T40 x0 x3).f1.f2)).bind fun t112 => (if t112 = true then (if x3 > 0 then (if 0 ≤ (wrap64 (x3 - 1)) then (if (wrap64 (x3 - 1)) < (x0.length : Int) then (if ((rd_T40 x0 (wrap64 (x3 - 1))).f0) ≥ ((rd_T40 x0 x3).f0) then (some false) else (spec_ChainOk.l0 k x0 (wrap64 (x3 + 1)))) else (none)) else (none)) else (spec_ChainOk.l0 k x0 (wrap64 (x3 + 1)))) else (some false))) else (some false))) else (none)) else (some (decide ((x0.length : Int) ≤ 16)))
def spec_ChainOk.f (k : Nat) (l0 : List (S40)) : Option (Bool):=spec_ChainOk.l0 k l0 0
theorem spec_ChainOk.mono_l : ∀ k,(∀ y0 y1,LeO (spec_ChainOk.l0 k y0 y1) (spec_ChainOk.l0 (k + 1) y0 y1))
 | 0 => fun _ _ r h => by simp [spec_ChainOk.l0] at h
 | k + 1 => by
  have ih0:=spec_ChainOk.mono_l k
  ·intro y0 y1
   unfold spec_ChainOk.l0
   repeat' first
   | exact LeO.refl _
   | exact ih0 _ _
   | exact LeO.none _
   | refine LeO.ite ?_ ?_
   | refine LeO.bind ?_ (fun _ => ?_)
theorem spec_ChainOk.mono : ∀ a0 k,LeO (spec_ChainOk.f k a0) (spec_ChainOk.f (k + 1) a0):=by
 intro a0 k
 have ih0:=spec_ChainOk.mono_l k
 unfold spec_ChainOk.f
 repeat' first
   | exact LeO.refl _
   | exact ih0 _ _
   | exact LeO.none _
   | refine LeO.ite ?_ ?_
   | refine LeO.bind ?_ (fun _ => ?_)
def spec_ChainOk.T4 : Bool × List (List Nat × List Nat):=(true,[([],[]),([],[]),([0,1],[0,1]),([2],[2]),([3],[3]),([4],[4]),([5],[5]),([6,5],[6]),([7],[7]),([7],[7]),([8,9,7],[7,8,9]),([10,7],[7,10]),([11,7],[7,11]),([12,7,7],[7,12]),([13,7],[7,13]),([7,14],[7,14]),([15,13],[15]),([16],[16]),([17,16],[16,17]),([18,16,16],[16,18]),([19],[19]),([19],[19]),([21,19],[19,21]),([20,22,19],[19,20,22]),([23,19],[19,23]),([24,19],[19,24]),([19],[19]),([19],[19]),([26,27,19],[19,26,27]),([28,19],[19,28]),([29,19],[19,29]),([25,30,19],[19,25,30]),([19,31,16],[16,19,31]),([16,32],[16,32])])
def spec_ChainOk.B4 : List Nat:=[0,0,3,7,15,31,63,127,255,255,1023,2047,4095,8191,16383,32767,65535,131071,262143,524287,1048575,1048575,3145727,8388607,16777215,33554431,1048575,1048575,202375167,470810623,1007681535,2147483647,4294967295,8589934591]
theorem spec_ChainOk.tab4 : rtab .any (opsOf Try.f14 4) = spec_ChainOk.T4:=by kernel_rfl
theorem spec_ChainOk.bits4 : waitsOk spec_ChainOk.T4.2 spec_ChainOk.B4 = true:=by kernel_rfl
set_option maxHeartbeats 8000000 in
set_option maxRecDepth 100000 in
theorem spec_ChainOk.calls (k : Nat) (A0 : Option Addr) (c0 : Nat) (l0 : List (S40)) (r : Bool) (w : World) (hr0 : Kd.C k40 w A0 l0.length l0) (hc0 : l0.length ≤ c0) (h : spec_ChainOk.f k l0 = some r) :
  Calls Try.prog 14 #[.slice A0 l0.length c0] w fun e w' => e = .returned (.bool r) ∧ Below w.heap.size w w':=by
 have hu38:=Try.underlying38
 have HR0:=aM hr0
 have HC0:=aM hc0
 clear hr0 hc0
 have HB:=aM (Below.refl w.heap.size w)
 have H : (spec_ChainOk.l0 k l0 0) = some r:=h
 clear h
 have H':=aM H
 clear H
 go_enter Try.func14,Try.ntmps14
 go_wp2
 go_loopg [3] k (fun kq v3 w' => ∃ (x3_1 : Int),v3 = .int .i64 x3_1 ∧ Aside0 (spec_ChainOk.l0 kq l0 x3_1 = some r) ∧ Aside0 (kq ≤ k) ∧ Aside0 (Below w.heap.size w w'))
 case atStart => exact ⟨(0),Q11,H',⟨Nat.le_refl _⟩,⟨Q3⟩⟩
 case round =>
  clear H'
  try clear c1
  obtain ⟨x3_1,rfl,HA,HK1,HB⟩:=hrel
  cases gk with
  | zero => exact absurd HA.out (by simp [spec_ChainOk.l0])
  | succ k1 =>
   have H:=HA.out
   clear HA
   simp only [spec_ChainOk.l0] at H
   by_cases c2 : x3_1 < (l0.length : Int)
   ·rw [if_pos c2] at H
    have c2b0 : decide (x3_1 < (l0.length : Int)) = true:=decide_eq_true c2
    clear c2
    by_cases c3 : 0 ≤ x3_1
    case neg => rw [if_neg c3] at H;exact absurd H Q51
    rw [if_pos c3] at H
    have c3b0 : decide (0 ≤ x3_1) = true:=decide_eq_true c3
    clear c3
    replace H:=Option.bind_eq_some_iff.mp H
    obtain ⟨t110,A40,H⟩:=H
    replace H : (if t110 = true then ((spec_PayOk.f ((rd_T40 l0 x3_1).f1.f0) ((rd_T40 l0 x3_1).f1.f1) ((rd_T40 l0 x3_1).f1.f2)).bind fun t112 => (if t112 = true then (if x3_1 > 0 then (if 0 ≤ (wrap64 (x3_1 - 1)) then (if (wrap64 (x3_1 - 1)) < (l0.length : Int) then (if ((rd_T40 l0 (wrap64 (x3_1 - 1))).f0) ≥ ((rd_T40 l0 x3_1).f0) then (some false) else (spec_ChainOk.l0 k1 l0 (wrap64 (x3_1 + 1)))) else (none)) else (none)) else (spec_ChainOk.l0 k1 l0 (wrap64 (x3_1 + 1)))) else (some false))) else (some false)) = some r:=H
    have A4:=aM A40
    clear A40
    by_cases c5 : t110 = true
    ·subst c5
     have H1 : ((spec_PayOk.f ((rd_T40 l0 x3_1).f1.f0) ((rd_T40 l0 x3_1).f1.f1) ((rd_T40 l0 x3_1).f1.f2)).bind fun t112 => (if t112 = true then (if x3_1 > 0 then (if 0 ≤ (wrap64 (x3_1 - 1)) then (if (wrap64 (x3_1 - 1)) < (l0.length : Int) then (if ((rd_T40 l0 (wrap64 (x3_1 - 1))).f0) ≥ ((rd_T40 l0 x3_1).f0) then (some false) else (spec_ChainOk.l0 k1 l0 (wrap64 (x3_1 + 1)))) else (none)) else (none)) else (spec_ChainOk.l0 k1 l0 (wrap64 (x3_1 + 1)))) else (some false))) = some r:=by rw [if_pos rfl] at H;exact H
     clear H
     have H:=H1
     clear H1
     replace H:=Option.bind_eq_some_iff.mp H
     obtain ⟨t112,A60,H⟩:=H
     replace H : (if t112 = true then (if x3_1 > 0 then (if 0 ≤ (wrap64 (x3_1 - 1)) then (if (wrap64 (x3_1 - 1)) < (l0.length : Int) then (if ((rd_T40 l0 (wrap64 (x3_1 - 1))).f0) ≥ ((rd_T40 l0 x3_1).f0) then (some false) else (spec_ChainOk.l0 k1 l0 (wrap64 (x3_1 + 1)))) else (none)) else (none)) else (spec_ChainOk.l0 k1 l0 (wrap64 (x3_1 + 1)))) else (some false)) = some r:=H
     have A6:=aM A60
     clear A60
     by_cases c7 : t112 = true
     ·subst c7
      have H1 : (if x3_1 > 0 then (if 0 ≤ (wrap64 (x3_1 - 1)) then (if (wrap64 (x3_1 - 1)) < (l0.length : Int) then (if ((rd_T40 l0 (wrap64 (x3_1 - 1))).f0) ≥ ((rd_T40 l0 x3_1).f0) then (some false) else (spec_ChainOk.l0 k1 l0 (wrap64 (x3_1 + 1)))) else (none)) else (none)) else (spec_ChainOk.l0 k1 l0 (wrap64 (x3_1 + 1)))) = some r:=by rw [if_pos rfl] at H;exact H
      clear H
      have H:=H1
      clear H1
      by_cases c8 : x3_1 > 0
      ·rw [if_pos c8] at H
       have c8b0 : decide (0 < x3_1) = true:=decide_eq_true c8
       clear c8
       obtain ⟨ji9,hji9⟩ : ∃ j_ : Int,(wrap64 (x3_1 - 1)) = j_:=⟨_,rfl⟩
       replace H : (if 0 ≤ (ji9) then (if (ji9) < (l0.length : Int) then (if ((rd_T40 l0 (ji9)).f0) ≥ ((rd_T40 l0 x3_1).f0) then (some false) else (spec_ChainOk.l0 k1 l0 (wrap64 (x3_1 + 1)))) else (none)) else (none)) = some r:=by first|(rw [hji9] at H;exact H)|(simp only [hji9] at H ⊢;exact H)
       (try rw [hji9] at A4)
       (try rw [hji9] at A6)
       have hji9w : (IntKind.i64.wrap (x3_1 - 1)) = ji9:=(i64_w _).trans hji9
       by_cases c10 : 0 ≤ (ji9)
       case neg => rw [if_neg c10] at H;exact absurd H Q51
       rw [if_pos c10] at H
       have c10b0 : decide (0 ≤ (ji9)) = true:=decide_eq_true c10
       clear c10
       by_cases c11 : (ji9) < (l0.length : Int)
       case neg => rw [if_neg c11] at H;exact absurd H Q51
       rw [if_pos c11] at H
       have c11b0 : decide ((ji9) < (l0.length : Int)) = true:=decide_eq_true c11
       clear c11
       by_cases c12 : ((rd_T40 l0 (ji9)).f0) ≥ ((rd_T40 l0 x3_1).f0)
       ·rw [if_pos c12] at H
        have c12b0 : decide (((rd_T40 l0 x3_1).f0) ≤ ((rd_T40 l0 (ji9)).f0)) = true:=decide_eq_true c12
        clear c12
        obtain rfl:=Option.some.inj H
        try go_wp2
        have n0_:=aM (bD HB.out)
        clear HB
        have HB:=n0_
        clear n0_
        have p109 : 0 ≤ (x3_1 : Int):=of_decide_eq_true Q5
        have q109 : x3_1 < (l0.length : Int):=of_decide_eq_true Q5
        obtain ⟨ad109,e109,hx109_0,hx109_1,hx109_2,hx109_3⟩:=at_T40 HR0.out x3_1 p109 q109
        have hw109_3:=hx109_3
        have hw109_2:=hx109_2
        have hw109_1:=hx109_1
        have hw109_0:=hx109_0
        cases e109
        replace hx109_0:=(HB.out.cell (bL w hx109_0)).trans hx109_0
        replace hx109_1:=(HB.out.cell (bL w hx109_1)).trans hx109_1
        replace hx109_2:=(HB.out.cell (bL w hx109_2)).trans hx109_2
        replace hx109_3:=(HB.out.cell (bL w hx109_3)).trans hx109_3
        replace p109:=eq_true p109
        replace q109:=eq_true q109
        have p111 : 0 ≤ (x3_1 : Int):=of_decide_eq_true Q5
        have q111 : x3_1 < (l0.length : Int):=of_decide_eq_true Q5
        obtain ⟨ad111,e111,hx111_0,hx111_1,hx111_2,hx111_3⟩:=at_T40 HR0.out x3_1 p111 q111
        have hw111_3:=hx111_3
        have hw111_2:=hx111_2
        have hw111_1:=hx111_1
        have hw111_0:=hx111_0
        obtain rfl : ad109 = ad111:=(by injection e111)
        replace hx111_0:=(HB.out.cell (bL w hx111_0)).trans hx111_0
        replace hx111_1:=(HB.out.cell (bL w hx111_1)).trans hx111_1
        replace hx111_2:=(HB.out.cell (bL w hx111_2)).trans hx111_2
        replace hx111_3:=(HB.out.cell (bL w hx111_3)).trans hx111_3
        replace p111:=eq_true p111
        replace q111:=eq_true q111
        have p113 : 0 ≤ ((ji9) : Int):=of_decide_eq_true Q5
        have q113 : (ji9) < (l0.length : Int):=of_decide_eq_true Q5
        obtain ⟨ad113,e113,hx113_0,hx113_1,hx113_2,hx113_3⟩:=at_T40 HR0.out (ji9) p113 q113
        have hw113_3:=hx113_3
        have hw113_2:=hx113_2
        have hw113_1:=hx113_1
        have hw113_0:=hx113_0
        obtain rfl : ad109 = ad113:=(by injection e113)
        replace hx113_0:=(HB.out.cell (bL w hx113_0)).trans hx113_0
        replace hx113_1:=(HB.out.cell (bL w hx113_1)).trans hx113_1
        replace hx113_2:=(HB.out.cell (bL w hx113_2)).trans hx113_2
        replace hx113_3:=(HB.out.cell (bL w hx113_3)).trans hx113_3
        replace p113:=eq_true p113
        replace q113:=eq_true q113
        have p114 : 0 ≤ (x3_1 : Int):=of_decide_eq_true Q5
        have q114 : x3_1 < (l0.length : Int):=of_decide_eq_true Q5
        obtain ⟨ad114,e114,hx114_0,hx114_1,hx114_2,hx114_3⟩:=at_T40 HR0.out x3_1 p114 q114
        have hw114_3:=hx114_3
        have hw114_2:=hx114_2
        have hw114_1:=hx114_1
        have hw114_0:=hx114_0
        obtain rfl : ad109 = ad114:=(by injection e114)
        replace hx114_0:=(HB.out.cell (bL w hx114_0)).trans hx114_0
        replace hx114_1:=(HB.out.cell (bL w hx114_1)).trans hx114_1
        replace hx114_2:=(HB.out.cell (bL w hx114_2)).trans hx114_2
        replace hx114_3:=(HB.out.cell (bL w hx114_3)).trans hx114_3
        replace p114:=eq_true p114
        replace q114:=eq_true q114
        refine start_ (n:=34) (S:=fun w' => w'.cell? (ad109.add ((x3_1).toNat * 4)) = some (.int .i64 ((rd_T40 l0 x3_1).f0)) ∧ w'.cell? ⟨(ad109.add ((x3_1).toNat * 4)).block,(ad109.add ((x3_1).toNat * 4)).off + 1,none⟩ = some (.int .i64 ((rd_T40 l0 x3_1).f1.f0)) ∧ w'.cell? ⟨(ad109.add ((x3_1).toNat * 4)).block,(ad109.add ((x3_1).toNat * 4)).off + 2,none⟩ = some (.int .i64 ((rd_T40 l0 x3_1).f1.f1)) ∧ w'.cell? ⟨(ad109.add ((x3_1).toNat * 4)).block,(ad109.add ((x3_1).toNat * 4)).off + 3,none⟩ = some (.int .i64 ((rd_T40 l0 x3_1).f1.f2)) ∧ w'.cell? (ad109.add ((x3_1).toNat * 4)) = some (.int .i64 ((rd_T40 l0 x3_1).f0)) ∧ w'.cell? ⟨(ad109.add ((x3_1).toNat * 4)).block,(ad109.add ((x3_1).toNat * 4)).off + 1,none⟩ = some (.int .i64 ((rd_T40 l0 x3_1).f1.f0)) ∧ w'.cell? ⟨(ad109.add ((x3_1).toNat * 4)).block,(ad109.add ((x3_1).toNat * 4)).off + 2,none⟩ = some (.int .i64 ((rd_T40 l0 x3_1).f1.f1)) ∧ w'.cell? ⟨(ad109.add ((x3_1).toNat * 4)).block,(ad109.add ((x3_1).toNat * 4)).off + 3,none⟩ = some (.int .i64 ((rd_T40 l0 x3_1).f1.f2)) ∧ w'.cell? (ad109.add (((ji9)).toNat * 4)) = some (.int .i64 ((rd_T40 l0 (ji9)).f0)) ∧ w'.cell? ⟨(ad109.add (((ji9)).toNat * 4)).block,(ad109.add (((ji9)).toNat * 4)).off + 1,none⟩ = some (.int .i64 ((rd_T40 l0 (ji9)).f1.f0)) ∧ w'.cell? ⟨(ad109.add (((ji9)).toNat * 4)).block,(ad109.add (((ji9)).toNat * 4)).off + 2,none⟩ = some (.int .i64 ((rd_T40 l0 (ji9)).f1.f1)) ∧ w'.cell? ⟨(ad109.add (((ji9)).toNat * 4)).block,(ad109.add (((ji9)).toNat * 4)).off + 3,none⟩ = some (.int .i64 ((rd_T40 l0 (ji9)).f1.f2)) ∧ w'.cell? (ad109.add ((x3_1).toNat * 4)) = some (.int .i64 ((rd_T40 l0 x3_1).f0)) ∧ w'.cell? ⟨(ad109.add ((x3_1).toNat * 4)).block,(ad109.add ((x3_1).toNat * 4)).off + 1,none⟩ = some (.int .i64 ((rd_T40 l0 x3_1).f1.f0)) ∧ w'.cell? ⟨(ad109.add ((x3_1).toNat * 4)).block,(ad109.add ((x3_1).toNat * 4)).off + 2,none⟩ = some (.int .i64 ((rd_T40 l0 x3_1).f1.f1)) ∧ w'.cell? ⟨(ad109.add ((x3_1).toNat * 4)).block,(ad109.add ((x3_1).toNat * 4)).off + 3,none⟩ = some (.int .i64 ((rd_T40 l0 x3_1).f1.f2))) (ds:=[]) #[bF,bF,bF,bF,bF,bF,bF,bF,bF,bF,bF,bF,bF,bF,bF,bF,bF,bF,bF,bF,bF,bF,bF,bF,bF,bF,bF,bF,bF,bF,bF,bF,bF,bF] Q14 rfl rfl ⟨((HB.out.cell (bL w hw109_0)).trans hw109_0),((HB.out.cell (bL w hw109_1)).trans hw109_1),((HB.out.cell (bL w hw109_2)).trans hw109_2),((HB.out.cell (bL w hw109_3)).trans hw109_3),((HB.out.cell (bL w hw111_0)).trans hw111_0),((HB.out.cell (bL w hw111_1)).trans hw111_1),((HB.out.cell (bL w hw111_2)).trans hw111_2),((HB.out.cell (bL w hw111_3)).trans hw111_3),((HB.out.cell (bL w hw113_0)).trans hw113_0),((HB.out.cell (bL w hw113_1)).trans hw113_1),((HB.out.cell (bL w hw113_2)).trans hw113_2),((HB.out.cell (bL w hw113_3)).trans hw113_3),((HB.out.cell (bL w hw114_0)).trans hw114_0),((HB.out.cell (bL w hw114_1)).trans hw114_1),((HB.out.cell (bL w hw114_2)).trans hw114_2),((HB.out.cell (bL w hw114_3)).trans hw114_3)⟩ (fun hHeld => ?_);refine with_tabW spec_ChainOk.tab4 spec_ChainOk.bits4 (fun HT_ HW_ => ?_)
        generalize wr.drew = w13 at HB hx109_0 hx109_1 hx109_2 hx109_3 hx111_0 hx111_1 hx111_2 hx111_3 hx113_0 hx113_1 hx113_2 hx113_3 hx114_0 hx114_1 hx114_2 hx114_3 hHeld ⊢
        refine pS HT_ 0 10 ?_
        refine pS HT_ 1 11 ?_
        refine pS HT_ 2 12 ?_
        refine pS HT_ 3 13 ?_
        refine take_ (i:=4) (N:=some 14) (v:=?_) (a':=?_) #[bT,bT,bT,bT,bT,bF,bF,bF,bF,bF,bF,bF,bF,bF,bF,bF,bF,bF,bF,bF,bF,bF,bF,bF,bF,bF,bF,bF,bF,bF,bF,bF,bF,bF] rfl rfl (take_ofW HT_.out HW_.out Q14) (fun _ _ _ h => h) (Or.inl ⟨Q70,?_⟩) hHeld ?_ ?_
        rotate_left
        ·rintro w' ⟨s0,s1,s2,s3,s4,s5,s6,s7,s8,s9,s10,s11,s12,s13,s14,s15⟩
         (try simp only [Int.toNat_natCast] at s0 s1 s2 s3 s4 s5 s6 s7 s8 s9 s10 s11 s12 s13 s14 s15)
         go_simp
         with_reducible rfl
        rotate_left
        ·simp only [Act.put,sI,sZ,sS,i64_w,i32_w]
         rfl
        refine one_ (i:=5) (N:=some 15) #[bT,bT,bT,bT,bT,bT,bF,bF,bF,bF,bF,bF,bF,bF,bF,bF,bF,bF,bF,bF,bF,bF,bF,bF,bF,bF,bF,bF,bF,bF,bF,bF,bF,bF] rfl rfl (one_of HT_.out Q14) Q36 (fun K hK => ?_)
        refine goes_ Try.func28 Q14 rfl #[.int .i64 ((rd_T40 l0 x3_1).f0),.int .i64 1,.int .i64 30] Q70 rfl rfl Q1 ?_
        with_reducible refine (spec_l6In.calls ((rd_T40 l0 x3_1).f0) 1 30 true _ A4.out).mono ?_
        rintro e w' ⟨rfl,⟨nd,rfl⟩⟩
        refine ⟨_,rfl,?_⟩
        refine hK.out _ _ ⟨((HB.out.cell (bL w hw109_0)).trans hw109_0),((HB.out.cell (bL w hw109_1)).trans hw109_1),((HB.out.cell (bL w hw109_2)).trans hw109_2),((HB.out.cell (bL w hw109_3)).trans hw109_3),((HB.out.cell (bL w hw111_0)).trans hw111_0),((HB.out.cell (bL w hw111_1)).trans hw111_1),((HB.out.cell (bL w hw111_2)).trans hw111_2),((HB.out.cell (bL w hw111_3)).trans hw111_3),((HB.out.cell (bL w hw113_0)).trans hw113_0),((HB.out.cell (bL w hw113_1)).trans hw113_1),((HB.out.cell (bL w hw113_2)).trans hw113_2),((HB.out.cell (bL w hw113_3)).trans hw113_3),((HB.out.cell (bL w hw114_0)).trans hw114_0),((HB.out.cell (bL w hw114_1)).trans hw114_1),((HB.out.cell (bL w hw114_2)).trans hw114_2),((HB.out.cell (bL w hw114_3)).trans hw114_3)⟩ (fun hHeld => ?_)
        clear hK K
        refine norm_ (a':=?_) ?_ ?_
        rotate_left
        ·show Act.put _ (some 15) _ = _
         simp only [Act.put,sI,sZ,sS,i64_w,i32_w]
         rfl
        refine pS HT_ 6 16 ?_
        refine pS HT_ 7 17 ?_
        refine pS HT_ 8 18 ?_
        refine pS HT_ 9 19 ?_
        refine pS HT_ 10 20 ?_
        refine pS HT_ 11 21 ?_
        refine take_ (i:=12) (N:=some 22) (v:=?_) (a':=?_) #[bT,bT,bT,bT,bT,bT,bT,bT,bT,bT,bT,bT,bT,bF,bF,bF,bF,bF,bF,bF,bF,bF,bF,bF,bF,bF,bF,bF,bF,bF,bF,bF,bF,bF] rfl rfl (take_ofW HT_.out HW_.out Q14) (fun _ _ _ h => h) (Or.inl ⟨Q70,?_⟩) hHeld ?_ ?_
        rotate_left
        ·rintro w' ⟨s0,s1,s2,s3,s4,s5,s6,s7,s8,s9,s10,s11,s12,s13,s14,s15⟩
         (try simp only [Int.toNat_natCast] at s0 s1 s2 s3 s4 s5 s6 s7 s8 s9 s10 s11 s12 s13 s14 s15)
         go_simp
         with_reducible rfl
        rotate_left
        ·simp only [Act.put,sI,sZ,sS,i64_w,i32_w]
         rfl
        refine one_ (i:=13) (N:=some 23) #[bT,bT,bT,bT,bT,bT,bT,bT,bT,bT,bT,bT,bT,bT,bF,bF,bF,bF,bF,bF,bF,bF,bF,bF,bF,bF,bF,bF,bF,bF,bF,bF,bF,bF] rfl rfl (one_of HT_.out Q14) Q36 (fun K hK => ?_)
        refine goes_ Try.func29 Q14 rfl #[.agg #[.int .i64 ((rd_T40 l0 x3_1).f1.f0),.int .i64 ((rd_T40 l0 x3_1).f1.f1),.int .i64 ((rd_T40 l0 x3_1).f1.f2)]] Q70 rfl rfl Q1 ?_
        with_reducible refine (spec_PayOk.calls ((rd_T40 l0 x3_1).f1.f0) ((rd_T40 l0 x3_1).f1.f1) ((rd_T40 l0 x3_1).f1.f2) true _ A6.out).mono ?_
        rintro e w14 ⟨rfl,hb⟩
        refine ⟨_,rfl,?_⟩
        have n0_:=aM (below_step Q3 hb)
        clear HB
        have HB:=n0_
        clear n0_
        (try clear hb)
        (try clear hb2)
        (try clear hk)
        (try clear hi)
        refine hK.out _ _ ⟨((HB.out.cell (bL w hw109_0)).trans hw109_0),((HB.out.cell (bL w hw109_1)).trans hw109_1),((HB.out.cell (bL w hw109_2)).trans hw109_2),((HB.out.cell (bL w hw109_3)).trans hw109_3),((HB.out.cell (bL w hw111_0)).trans hw111_0),((HB.out.cell (bL w hw111_1)).trans hw111_1),((HB.out.cell (bL w hw111_2)).trans hw111_2),((HB.out.cell (bL w hw111_3)).trans hw111_3),((HB.out.cell (bL w hw113_0)).trans hw113_0),((HB.out.cell (bL w hw113_1)).trans hw113_1),((HB.out.cell (bL w hw113_2)).trans hw113_2),((HB.out.cell (bL w hw113_3)).trans hw113_3),((HB.out.cell (bL w hw114_0)).trans hw114_0),((HB.out.cell (bL w hw114_1)).trans hw114_1),((HB.out.cell (bL w hw114_2)).trans hw114_2),((HB.out.cell (bL w hw114_3)).trans hw114_3)⟩ (fun hHeld => ?_)
        clear hK K
        refine norm_ (a':=?_) ?_ ?_
        rotate_left
        ·show Act.put _ (some 23) _ = _
         simp only [Act.put,sI,sZ,sS,i64_w,i32_w]
         rfl
        refine pS HT_ 14 24 ?_
        refine pS HT_ 15 25 ?_
        refine pS HT_ 16 26 ?_
        refine pS HT_ 17 27 ?_
        refine pS HT_ 18 28 ?_
        refine pS HT_ 19 29 ?_
        refine pS HT_ 20 30 ?_
        refine pS HT_ 21 31 ?_
        refine pS HT_ 22 32 ?_
        refine pS HT_ 23 33 ?_
        refine pS HT_ 24 34 ?_
        refine pS HT_ 26 36 ?_
        refine pS HT_ 27 37 ?_
        refine pS HT_ 28 38 ?_
        refine pS HT_ 29 39 ?_
        refine take_ (i:=25) (N:=some 35) (v:=?_) (a':=?_) #[bT,bT,bT,bT,bT,bT,bT,bT,bT,bT,bT,bT,bT,bT,bT,bT,bT,bT,bT,bT,bT,bT,bT,bT,bT,bT,bT,bT,bT,bT,bF,bF,bF,bF] rfl rfl (take_ofW HT_.out HW_.out Q14) (fun _ _ _ h => h) (Or.inl ⟨Q70,?_⟩) hHeld ?_ ?_
        rotate_left
        ·rintro w' ⟨s0,s1,s2,s3,s4,s5,s6,s7,s8,s9,s10,s11,s12,s13,s14,s15⟩
         (try simp only [Int.toNat_natCast] at s0 s1 s2 s3 s4 s5 s6 s7 s8 s9 s10 s11 s12 s13 s14 s15)
         go_simp
         with_reducible rfl
        rotate_left
        ·simp only [Act.put,sI,sZ,sS,i64_w,i32_w]
         rfl
        refine take_ (i:=30) (N:=some 40) (v:=?_) (a':=?_) #[bT,bT,bT,bT,bT,bT,bT,bT,bT,bT,bT,bT,bT,bT,bT,bT,bT,bT,bT,bT,bT,bT,bT,bT,bT,bT,bT,bT,bT,bT,bT,bF,bF,bF] rfl rfl (take_ofW HT_.out HW_.out Q14) (fun _ _ _ h => h) (Or.inl ⟨Q70,?_⟩) hHeld ?_ ?_
        rotate_left
        ·rintro w' ⟨s0,s1,s2,s3,s4,s5,s6,s7,s8,s9,s10,s11,s12,s13,s14,s15⟩
         (try simp only [Int.toNat_natCast] at s0 s1 s2 s3 s4 s5 s6 s7 s8 s9 s10 s11 s12 s13 s14 s15)
         go_simp
         with_reducible rfl
        rotate_left
        ·simp only [Act.put,sI,sZ,sS,i64_w,i32_w]
         rfl
        refine pS HT_ 31 41 ?_
        refine pS HT_ 32 42 ?_
        refine pS HT_ 33 43 ?_
        refine done_ (done_of HT_.out Q14) ?_
        try go_wp2
        go_ret
        exact ⟨Q109,Q3⟩
       ·rw [if_neg c12] at H
        have c12b0 : decide (((rd_T40 l0 x3_1).f0) ≤ ((rd_T40 l0 (ji9)).f0)) = false:=decide_eq_false c12
        clear c12
        have H':=aM H
        clear H
        try go_wp2
        have n0_:=aM (bD HB.out)
        clear HB
        have HB:=n0_
        clear n0_
        have p109 : 0 ≤ (x3_1 : Int):=of_decide_eq_true Q5
        have q109 : x3_1 < (l0.length : Int):=of_decide_eq_true Q5
        obtain ⟨ad109,e109,hx109_0,hx109_1,hx109_2,hx109_3⟩:=at_T40 HR0.out x3_1 p109 q109
        have hw109_3:=hx109_3
        have hw109_2:=hx109_2
        have hw109_1:=hx109_1
        have hw109_0:=hx109_0
        cases e109
        replace hx109_0:=(HB.out.cell (bL w hx109_0)).trans hx109_0
        replace hx109_1:=(HB.out.cell (bL w hx109_1)).trans hx109_1
        replace hx109_2:=(HB.out.cell (bL w hx109_2)).trans hx109_2
        replace hx109_3:=(HB.out.cell (bL w hx109_3)).trans hx109_3
        replace p109:=eq_true p109
        replace q109:=eq_true q109
        have p111 : 0 ≤ (x3_1 : Int):=of_decide_eq_true Q5
        have q111 : x3_1 < (l0.length : Int):=of_decide_eq_true Q5
        obtain ⟨ad111,e111,hx111_0,hx111_1,hx111_2,hx111_3⟩:=at_T40 HR0.out x3_1 p111 q111
        have hw111_3:=hx111_3
        have hw111_2:=hx111_2
        have hw111_1:=hx111_1
        have hw111_0:=hx111_0
        obtain rfl : ad109 = ad111:=(by injection e111)
        replace hx111_0:=(HB.out.cell (bL w hx111_0)).trans hx111_0
        replace hx111_1:=(HB.out.cell (bL w hx111_1)).trans hx111_1
        replace hx111_2:=(HB.out.cell (bL w hx111_2)).trans hx111_2
        replace hx111_3:=(HB.out.cell (bL w hx111_3)).trans hx111_3
        replace p111:=eq_true p111
        replace q111:=eq_true q111
        have p113 : 0 ≤ ((ji9) : Int):=of_decide_eq_true Q5
        have q113 : (ji9) < (l0.length : Int):=of_decide_eq_true Q5
        obtain ⟨ad113,e113,hx113_0,hx113_1,hx113_2,hx113_3⟩:=at_T40 HR0.out (ji9) p113 q113
        have hw113_3:=hx113_3
        have hw113_2:=hx113_2
        have hw113_1:=hx113_1
        have hw113_0:=hx113_0
        obtain rfl : ad109 = ad113:=(by injection e113)
        replace hx113_0:=(HB.out.cell (bL w hx113_0)).trans hx113_0
        replace hx113_1:=(HB.out.cell (bL w hx113_1)).trans hx113_1
        replace hx113_2:=(HB.out.cell (bL w hx113_2)).trans hx113_2
        replace hx113_3:=(HB.out.cell (bL w hx113_3)).trans hx113_3
        replace p113:=eq_true p113
        replace q113:=eq_true q113
        have p114 : 0 ≤ (x3_1 : Int):=of_decide_eq_true Q5
        have q114 : x3_1 < (l0.length : Int):=of_decide_eq_true Q5
        obtain ⟨ad114,e114,hx114_0,hx114_1,hx114_2,hx114_3⟩:=at_T40 HR0.out x3_1 p114 q114
        have hw114_3:=hx114_3
        have hw114_2:=hx114_2
        have hw114_1:=hx114_1
        have hw114_0:=hx114_0
        obtain rfl : ad109 = ad114:=(by injection e114)
        replace hx114_0:=(HB.out.cell (bL w hx114_0)).trans hx114_0
        replace hx114_1:=(HB.out.cell (bL w hx114_1)).trans hx114_1
        replace hx114_2:=(HB.out.cell (bL w hx114_2)).trans hx114_2
        replace hx114_3:=(HB.out.cell (bL w hx114_3)).trans hx114_3
        replace p114:=eq_true p114
        replace q114:=eq_true q114
        refine start_ (n:=34) (S:=fun w' => w'.cell? (ad109.add ((x3_1).toNat * 4)) = some (.int .i64 ((rd_T40 l0 x3_1).f0)) ∧ w'.cell? ⟨(ad109.add ((x3_1).toNat * 4)).block,(ad109.add ((x3_1).toNat * 4)).off + 1,none⟩ = some (.int .i64 ((rd_T40 l0 x3_1).f1.f0)) ∧ w'.cell? ⟨(ad109.add ((x3_1).toNat * 4)).block,(ad109.add ((x3_1).toNat * 4)).off + 2,none⟩ = some (.int .i64 ((rd_T40 l0 x3_1).f1.f1)) ∧ w'.cell? ⟨(ad109.add ((x3_1).toNat * 4)).block,(ad109.add ((x3_1).toNat * 4)).off + 3,none⟩ = some (.int .i64 ((rd_T40 l0 x3_1).f1.f2)) ∧ w'.cell? (ad109.add ((x3_1).toNat * 4)) = some (.int .i64 ((rd_T40 l0 x3_1).f0)) ∧ w'.cell? ⟨(ad109.add ((x3_1).toNat * 4)).block,(ad109.add ((x3_1).toNat * 4)).off + 1,none⟩ = some (.int .i64 ((rd_T40 l0 x3_1).f1.f0)) ∧ w'.cell? ⟨(ad109.add ((x3_1).toNat * 4)).block,(ad109.add ((x3_1).toNat * 4)).off + 2,none⟩ = some (.int .i64 ((rd_T40 l0 x3_1).f1.f1)) ∧ w'.cell? ⟨(ad109.add ((x3_1).toNat * 4)).block,(ad109.add ((x3_1).toNat * 4)).off + 3,none⟩ = some (.int .i64 ((rd_T40 l0 x3_1).f1.f2)) ∧ w'.cell? (ad109.add (((ji9)).toNat * 4)) = some (.int .i64 ((rd_T40 l0 (ji9)).f0)) ∧ w'.cell? ⟨(ad109.add (((ji9)).toNat * 4)).block,(ad109.add (((ji9)).toNat * 4)).off + 1,none⟩ = some (.int .i64 ((rd_T40 l0 (ji9)).f1.f0)) ∧ w'.cell? ⟨(ad109.add (((ji9)).toNat * 4)).block,(ad109.add (((ji9)).toNat * 4)).off + 2,none⟩ = some (.int .i64 ((rd_T40 l0 (ji9)).f1.f1)) ∧ w'.cell? ⟨(ad109.add (((ji9)).toNat * 4)).block,(ad109.add (((ji9)).toNat * 4)).off + 3,none⟩ = some (.int .i64 ((rd_T40 l0 (ji9)).f1.f2)) ∧ w'.cell? (ad109.add ((x3_1).toNat * 4)) = some (.int .i64 ((rd_T40 l0 x3_1).f0)) ∧ w'.cell? ⟨(ad109.add ((x3_1).toNat * 4)).block,(ad109.add ((x3_1).toNat * 4)).off + 1,none⟩ = some (.int .i64 ((rd_T40 l0 x3_1).f1.f0)) ∧ w'.cell? ⟨(ad109.add ((x3_1).toNat * 4)).block,(ad109.add ((x3_1).toNat * 4)).off + 2,none⟩ = some (.int .i64 ((rd_T40 l0 x3_1).f1.f1)) ∧ w'.cell? ⟨(ad109.add ((x3_1).toNat * 4)).block,(ad109.add ((x3_1).toNat * 4)).off + 3,none⟩ = some (.int .i64 ((rd_T40 l0 x3_1).f1.f2))) (ds:=[]) #[bF,bF,bF,bF,bF,bF,bF,bF,bF,bF,bF,bF,bF,bF,bF,bF,bF,bF,bF,bF,bF,bF,bF,bF,bF,bF,bF,bF,bF,bF,bF,bF,bF,bF] Q14 rfl rfl ⟨((HB.out.cell (bL w hw109_0)).trans hw109_0),((HB.out.cell (bL w hw109_1)).trans hw109_1),((HB.out.cell (bL w hw109_2)).trans hw109_2),((HB.out.cell (bL w hw109_3)).trans hw109_3),((HB.out.cell (bL w hw111_0)).trans hw111_0),((HB.out.cell (bL w hw111_1)).trans hw111_1),((HB.out.cell (bL w hw111_2)).trans hw111_2),((HB.out.cell (bL w hw111_3)).trans hw111_3),((HB.out.cell (bL w hw113_0)).trans hw113_0),((HB.out.cell (bL w hw113_1)).trans hw113_1),((HB.out.cell (bL w hw113_2)).trans hw113_2),((HB.out.cell (bL w hw113_3)).trans hw113_3),((HB.out.cell (bL w hw114_0)).trans hw114_0),((HB.out.cell (bL w hw114_1)).trans hw114_1),((HB.out.cell (bL w hw114_2)).trans hw114_2),((HB.out.cell (bL w hw114_3)).trans hw114_3)⟩ (fun hHeld => ?_);refine with_tabW spec_ChainOk.tab4 spec_ChainOk.bits4 (fun HT_ HW_ => ?_)
        generalize wr.drew = w15 at HB hx109_0 hx109_1 hx109_2 hx109_3 hx111_0 hx111_1 hx111_2 hx111_3 hx113_0 hx113_1 hx113_2 hx113_3 hx114_0 hx114_1 hx114_2 hx114_3 hHeld ⊢
        refine pS HT_ 0 10 ?_
        refine pS HT_ 1 11 ?_
        refine pS HT_ 2 12 ?_
        refine pS HT_ 3 13 ?_
        refine take_ (i:=4) (N:=some 14) (v:=?_) (a':=?_) #[bT,bT,bT,bT,bT,bF,bF,bF,bF,bF,bF,bF,bF,bF,bF,bF,bF,bF,bF,bF,bF,bF,bF,bF,bF,bF,bF,bF,bF,bF,bF,bF,bF,bF] rfl rfl (take_ofW HT_.out HW_.out Q14) (fun _ _ _ h => h) (Or.inl ⟨Q70,?_⟩) hHeld ?_ ?_
        rotate_left
        ·rintro w' ⟨s0,s1,s2,s3,s4,s5,s6,s7,s8,s9,s10,s11,s12,s13,s14,s15⟩
         (try simp only [Int.toNat_natCast] at s0 s1 s2 s3 s4 s5 s6 s7 s8 s9 s10 s11 s12 s13 s14 s15)
         go_simp
         with_reducible rfl
        rotate_left
        ·simp only [Act.put,sI,sZ,sS,i64_w,i32_w]
         rfl
        refine one_ (i:=5) (N:=some 15) #[bT,bT,bT,bT,bT,bT,bF,bF,bF,bF,bF,bF,bF,bF,bF,bF,bF,bF,bF,bF,bF,bF,bF,bF,bF,bF,bF,bF,bF,bF,bF,bF,bF,bF] rfl rfl (one_of HT_.out Q14) Q36 (fun K hK => ?_)
        refine goes_ Try.func28 Q14 rfl #[.int .i64 ((rd_T40 l0 x3_1).f0),.int .i64 1,.int .i64 30] Q70 rfl rfl Q1 ?_
        with_reducible refine (spec_l6In.calls ((rd_T40 l0 x3_1).f0) 1 30 true _ A4.out).mono ?_
        rintro e w' ⟨rfl,⟨nd,rfl⟩⟩
        refine ⟨_,rfl,?_⟩
        refine hK.out _ _ ⟨((HB.out.cell (bL w hw109_0)).trans hw109_0),((HB.out.cell (bL w hw109_1)).trans hw109_1),((HB.out.cell (bL w hw109_2)).trans hw109_2),((HB.out.cell (bL w hw109_3)).trans hw109_3),((HB.out.cell (bL w hw111_0)).trans hw111_0),((HB.out.cell (bL w hw111_1)).trans hw111_1),((HB.out.cell (bL w hw111_2)).trans hw111_2),((HB.out.cell (bL w hw111_3)).trans hw111_3),((HB.out.cell (bL w hw113_0)).trans hw113_0),((HB.out.cell (bL w hw113_1)).trans hw113_1),((HB.out.cell (bL w hw113_2)).trans hw113_2),((HB.out.cell (bL w hw113_3)).trans hw113_3),((HB.out.cell (bL w hw114_0)).trans hw114_0),((HB.out.cell (bL w hw114_1)).trans hw114_1),((HB.out.cell (bL w hw114_2)).trans hw114_2),((HB.out.cell (bL w hw114_3)).trans hw114_3)⟩ (fun hHeld => ?_)
        clear hK K
        refine norm_ (a':=?_) ?_ ?_
        rotate_left
        ·show Act.put _ (some 15) _ = _
         simp only [Act.put,sI,sZ,sS,i64_w,i32_w]
         rfl
        refine pS HT_ 6 16 ?_
        refine pS HT_ 7 17 ?_
        refine pS HT_ 8 18 ?_
        refine pS HT_ 9 19 ?_
        refine pS HT_ 10 20 ?_
        refine pS HT_ 11 21 ?_
        refine take_ (i:=12) (N:=some 22) (v:=?_) (a':=?_) #[bT,bT,bT,bT,bT,bT,bT,bT,bT,bT,bT,bT,bT,bF,bF,bF,bF,bF,bF,bF,bF,bF,bF,bF,bF,bF,bF,bF,bF,bF,bF,bF,bF,bF] rfl rfl (take_ofW HT_.out HW_.out Q14) (fun _ _ _ h => h) (Or.inl ⟨Q70,?_⟩) hHeld ?_ ?_
        rotate_left
        ·rintro w' ⟨s0,s1,s2,s3,s4,s5,s6,s7,s8,s9,s10,s11,s12,s13,s14,s15⟩
         (try simp only [Int.toNat_natCast] at s0 s1 s2 s3 s4 s5 s6 s7 s8 s9 s10 s11 s12 s13 s14 s15)
         go_simp
         with_reducible rfl
        rotate_left
        ·simp only [Act.put,sI,sZ,sS,i64_w,i32_w]
         rfl
        refine one_ (i:=13) (N:=some 23) #[bT,bT,bT,bT,bT,bT,bT,bT,bT,bT,bT,bT,bT,bT,bF,bF,bF,bF,bF,bF,bF,bF,bF,bF,bF,bF,bF,bF,bF,bF,bF,bF,bF,bF] rfl rfl (one_of HT_.out Q14) Q36 (fun K hK => ?_)
        refine goes_ Try.func29 Q14 rfl #[.agg #[.int .i64 ((rd_T40 l0 x3_1).f1.f0),.int .i64 ((rd_T40 l0 x3_1).f1.f1),.int .i64 ((rd_T40 l0 x3_1).f1.f2)]] Q70 rfl rfl Q1 ?_
        with_reducible refine (spec_PayOk.calls ((rd_T40 l0 x3_1).f1.f0) ((rd_T40 l0 x3_1).f1.f1) ((rd_T40 l0 x3_1).f1.f2) true _ A6.out).mono ?_
        rintro e w16 ⟨rfl,hb⟩
        refine ⟨_,rfl,?_⟩
        have n0_:=aM (below_step Q3 hb)
        clear HB
        have HB:=n0_
        clear n0_
        (try clear hb)
        (try clear hb2)
        (try clear hk)
        (try clear hi)
        refine hK.out _ _ ⟨((HB.out.cell (bL w hw109_0)).trans hw109_0),((HB.out.cell (bL w hw109_1)).trans hw109_1),((HB.out.cell (bL w hw109_2)).trans hw109_2),((HB.out.cell (bL w hw109_3)).trans hw109_3),((HB.out.cell (bL w hw111_0)).trans hw111_0),((HB.out.cell (bL w hw111_1)).trans hw111_1),((HB.out.cell (bL w hw111_2)).trans hw111_2),((HB.out.cell (bL w hw111_3)).trans hw111_3),((HB.out.cell (bL w hw113_0)).trans hw113_0),((HB.out.cell (bL w hw113_1)).trans hw113_1),((HB.out.cell (bL w hw113_2)).trans hw113_2),((HB.out.cell (bL w hw113_3)).trans hw113_3),((HB.out.cell (bL w hw114_0)).trans hw114_0),((HB.out.cell (bL w hw114_1)).trans hw114_1),((HB.out.cell (bL w hw114_2)).trans hw114_2),((HB.out.cell (bL w hw114_3)).trans hw114_3)⟩ (fun hHeld => ?_)
        clear hK K
        refine norm_ (a':=?_) ?_ ?_
        rotate_left
        ·show Act.put _ (some 23) _ = _
         simp only [Act.put,sI,sZ,sS,i64_w,i32_w]
         rfl
        refine pS HT_ 14 24 ?_
        refine pS HT_ 15 25 ?_
        refine pS HT_ 16 26 ?_
        refine pS HT_ 17 27 ?_
        refine pS HT_ 18 28 ?_
        refine pS HT_ 19 29 ?_
        refine pS HT_ 20 30 ?_
        refine pS HT_ 21 31 ?_
        refine pS HT_ 22 32 ?_
        refine pS HT_ 23 33 ?_
        refine pS HT_ 24 34 ?_
        refine pS HT_ 26 36 ?_
        refine pS HT_ 27 37 ?_
        refine pS HT_ 28 38 ?_
        refine pS HT_ 29 39 ?_
        refine take_ (i:=25) (N:=some 35) (v:=?_) (a':=?_) #[bT,bT,bT,bT,bT,bT,bT,bT,bT,bT,bT,bT,bT,bT,bT,bT,bT,bT,bT,bT,bT,bT,bT,bT,bT,bT,bT,bT,bT,bT,bF,bF,bF,bF] rfl rfl (take_ofW HT_.out HW_.out Q14) (fun _ _ _ h => h) (Or.inl ⟨Q70,?_⟩) hHeld ?_ ?_
        rotate_left
        ·rintro w' ⟨s0,s1,s2,s3,s4,s5,s6,s7,s8,s9,s10,s11,s12,s13,s14,s15⟩
         (try simp only [Int.toNat_natCast] at s0 s1 s2 s3 s4 s5 s6 s7 s8 s9 s10 s11 s12 s13 s14 s15)
         go_simp
         with_reducible rfl
        rotate_left
        ·simp only [Act.put,sI,sZ,sS,i64_w,i32_w]
         rfl
        refine take_ (i:=30) (N:=some 40) (v:=?_) (a':=?_) #[bT,bT,bT,bT,bT,bT,bT,bT,bT,bT,bT,bT,bT,bT,bT,bT,bT,bT,bT,bT,bT,bT,bT,bT,bT,bT,bT,bT,bT,bT,bT,bF,bF,bF] rfl rfl (take_ofW HT_.out HW_.out Q14) (fun _ _ _ h => h) (Or.inl ⟨Q70,?_⟩) hHeld ?_ ?_
        rotate_left
        ·rintro w' ⟨s0,s1,s2,s3,s4,s5,s6,s7,s8,s9,s10,s11,s12,s13,s14,s15⟩
         (try simp only [Int.toNat_natCast] at s0 s1 s2 s3 s4 s5 s6 s7 s8 s9 s10 s11 s12 s13 s14 s15)
         go_simp
         with_reducible rfl
        rotate_left
        ·simp only [Act.put,sI,sZ,sS,i64_w,i32_w]
         rfl
        refine pS HT_ 31 41 ?_
        refine pS HT_ 32 42 ?_
        refine pS HT_ 33 43 ?_
        refine done_ (done_of HT_.out Q14) ?_
        try go_wp2
        go_roundg k1
        case measure => have:=HK1.out;omega
        case rel => exact ⟨(wrap64 (x3_1 + 1)),Q11,H',⟨Q60⟩,⟨Q3⟩⟩
      ·rw [if_neg c8] at H
       have c8b0 : decide (0 < x3_1) = false:=decide_eq_false c8
       clear c8
       have H':=aM H
       clear H
       try go_wp2
       have n0_:=aM (bD HB.out)
       clear HB
       have HB:=n0_
       clear n0_
       have p109 : 0 ≤ (x3_1 : Int):=of_decide_eq_true Q5
       have q109 : x3_1 < (l0.length : Int):=of_decide_eq_true Q5
       obtain ⟨ad109,e109,hx109_0,hx109_1,hx109_2,hx109_3⟩:=at_T40 HR0.out x3_1 p109 q109
       have hw109_3:=hx109_3
       have hw109_2:=hx109_2
       have hw109_1:=hx109_1
       have hw109_0:=hx109_0
       cases e109
       replace hx109_0:=(HB.out.cell (bL w hx109_0)).trans hx109_0
       replace hx109_1:=(HB.out.cell (bL w hx109_1)).trans hx109_1
       replace hx109_2:=(HB.out.cell (bL w hx109_2)).trans hx109_2
       replace hx109_3:=(HB.out.cell (bL w hx109_3)).trans hx109_3
       replace p109:=eq_true p109
       replace q109:=eq_true q109
       have p111 : 0 ≤ (x3_1 : Int):=of_decide_eq_true Q5
       have q111 : x3_1 < (l0.length : Int):=of_decide_eq_true Q5
       obtain ⟨ad111,e111,hx111_0,hx111_1,hx111_2,hx111_3⟩:=at_T40 HR0.out x3_1 p111 q111
       have hw111_3:=hx111_3
       have hw111_2:=hx111_2
       have hw111_1:=hx111_1
       have hw111_0:=hx111_0
       obtain rfl : ad109 = ad111:=(by injection e111)
       replace hx111_0:=(HB.out.cell (bL w hx111_0)).trans hx111_0
       replace hx111_1:=(HB.out.cell (bL w hx111_1)).trans hx111_1
       replace hx111_2:=(HB.out.cell (bL w hx111_2)).trans hx111_2
       replace hx111_3:=(HB.out.cell (bL w hx111_3)).trans hx111_3
       replace p111:=eq_true p111
       replace q111:=eq_true q111
       refine start_ (n:=34) (S:=fun w' => w'.cell? (ad109.add ((x3_1).toNat * 4)) = some (.int .i64 ((rd_T40 l0 x3_1).f0)) ∧ w'.cell? ⟨(ad109.add ((x3_1).toNat * 4)).block,(ad109.add ((x3_1).toNat * 4)).off + 1,none⟩ = some (.int .i64 ((rd_T40 l0 x3_1).f1.f0)) ∧ w'.cell? ⟨(ad109.add ((x3_1).toNat * 4)).block,(ad109.add ((x3_1).toNat * 4)).off + 2,none⟩ = some (.int .i64 ((rd_T40 l0 x3_1).f1.f1)) ∧ w'.cell? ⟨(ad109.add ((x3_1).toNat * 4)).block,(ad109.add ((x3_1).toNat * 4)).off + 3,none⟩ = some (.int .i64 ((rd_T40 l0 x3_1).f1.f2)) ∧ w'.cell? (ad109.add ((x3_1).toNat * 4)) = some (.int .i64 ((rd_T40 l0 x3_1).f0)) ∧ w'.cell? ⟨(ad109.add ((x3_1).toNat * 4)).block,(ad109.add ((x3_1).toNat * 4)).off + 1,none⟩ = some (.int .i64 ((rd_T40 l0 x3_1).f1.f0)) ∧ w'.cell? ⟨(ad109.add ((x3_1).toNat * 4)).block,(ad109.add ((x3_1).toNat * 4)).off + 2,none⟩ = some (.int .i64 ((rd_T40 l0 x3_1).f1.f1)) ∧ w'.cell? ⟨(ad109.add ((x3_1).toNat * 4)).block,(ad109.add ((x3_1).toNat * 4)).off + 3,none⟩ = some (.int .i64 ((rd_T40 l0 x3_1).f1.f2))) (ds:=[]) #[bF,bF,bF,bF,bF,bF,bF,bF,bF,bF,bF,bF,bF,bF,bF,bF,bF,bF,bF,bF,bF,bF,bF,bF,bF,bF,bF,bF,bF,bF,bF,bF,bF,bF] Q14 rfl rfl ⟨((HB.out.cell (bL w hw109_0)).trans hw109_0),((HB.out.cell (bL w hw109_1)).trans hw109_1),((HB.out.cell (bL w hw109_2)).trans hw109_2),((HB.out.cell (bL w hw109_3)).trans hw109_3),((HB.out.cell (bL w hw111_0)).trans hw111_0),((HB.out.cell (bL w hw111_1)).trans hw111_1),((HB.out.cell (bL w hw111_2)).trans hw111_2),((HB.out.cell (bL w hw111_3)).trans hw111_3)⟩ (fun hHeld => ?_);refine with_tabW spec_ChainOk.tab4 spec_ChainOk.bits4 (fun HT_ HW_ => ?_)
       generalize wr.drew = w17 at HB hx109_0 hx109_1 hx109_2 hx109_3 hx111_0 hx111_1 hx111_2 hx111_3 hHeld ⊢
       refine pS HT_ 0 10 ?_
       refine pS HT_ 1 11 ?_
       refine pS HT_ 2 12 ?_
       refine pS HT_ 3 13 ?_
       refine take_ (i:=4) (N:=some 14) (v:=?_) (a':=?_) #[bT,bT,bT,bT,bT,bF,bF,bF,bF,bF,bF,bF,bF,bF,bF,bF,bF,bF,bF,bF,bF,bF,bF,bF,bF,bF,bF,bF,bF,bF,bF,bF,bF,bF] rfl rfl (take_ofW HT_.out HW_.out Q14) (fun _ _ _ h => h) (Or.inl ⟨Q70,?_⟩) hHeld ?_ ?_
       rotate_left
       ·rintro w' ⟨s0,s1,s2,s3,s4,s5,s6,s7⟩
        (try simp only [Int.toNat_natCast] at s0 s1 s2 s3 s4 s5 s6 s7)
        go_simp
        with_reducible rfl
       rotate_left
       ·simp only [Act.put,sI,sZ,sS,i64_w,i32_w]
        rfl
       refine one_ (i:=5) (N:=some 15) #[bT,bT,bT,bT,bT,bT,bF,bF,bF,bF,bF,bF,bF,bF,bF,bF,bF,bF,bF,bF,bF,bF,bF,bF,bF,bF,bF,bF,bF,bF,bF,bF,bF,bF] rfl rfl (one_of HT_.out Q14) Q36 (fun K hK => ?_)
       refine goes_ Try.func28 Q14 rfl #[.int .i64 ((rd_T40 l0 x3_1).f0),.int .i64 1,.int .i64 30] Q70 rfl rfl Q1 ?_
       with_reducible refine (spec_l6In.calls ((rd_T40 l0 x3_1).f0) 1 30 true _ A4.out).mono ?_
       rintro e w' ⟨rfl,⟨nd,rfl⟩⟩
       refine ⟨_,rfl,?_⟩
       refine hK.out _ _ ⟨((HB.out.cell (bL w hw109_0)).trans hw109_0),((HB.out.cell (bL w hw109_1)).trans hw109_1),((HB.out.cell (bL w hw109_2)).trans hw109_2),((HB.out.cell (bL w hw109_3)).trans hw109_3),((HB.out.cell (bL w hw111_0)).trans hw111_0),((HB.out.cell (bL w hw111_1)).trans hw111_1),((HB.out.cell (bL w hw111_2)).trans hw111_2),((HB.out.cell (bL w hw111_3)).trans hw111_3)⟩ (fun hHeld => ?_)
       clear hK K
       refine norm_ (a':=?_) ?_ ?_
       rotate_left
       ·show Act.put _ (some 15) _ = _
        simp only [Act.put,sI,sZ,sS,i64_w,i32_w]
        rfl
       refine pS HT_ 6 16 ?_
       refine pS HT_ 7 17 ?_
       refine pS HT_ 8 18 ?_
       refine pS HT_ 9 19 ?_
       refine pS HT_ 10 20 ?_
       refine pS HT_ 11 21 ?_
       refine take_ (i:=12) (N:=some 22) (v:=?_) (a':=?_) #[bT,bT,bT,bT,bT,bT,bT,bT,bT,bT,bT,bT,bT,bF,bF,bF,bF,bF,bF,bF,bF,bF,bF,bF,bF,bF,bF,bF,bF,bF,bF,bF,bF,bF] rfl rfl (take_ofW HT_.out HW_.out Q14) (fun _ _ _ h => h) (Or.inl ⟨Q70,?_⟩) hHeld ?_ ?_
       rotate_left
       ·rintro w' ⟨s0,s1,s2,s3,s4,s5,s6,s7⟩
        (try simp only [Int.toNat_natCast] at s0 s1 s2 s3 s4 s5 s6 s7)
        go_simp
        with_reducible rfl
       rotate_left
       ·simp only [Act.put,sI,sZ,sS,i64_w,i32_w]
        rfl
       refine one_ (i:=13) (N:=some 23) #[bT,bT,bT,bT,bT,bT,bT,bT,bT,bT,bT,bT,bT,bT,bF,bF,bF,bF,bF,bF,bF,bF,bF,bF,bF,bF,bF,bF,bF,bF,bF,bF,bF,bF] rfl rfl (one_of HT_.out Q14) Q36 (fun K hK => ?_)
       refine goes_ Try.func29 Q14 rfl #[.agg #[.int .i64 ((rd_T40 l0 x3_1).f1.f0),.int .i64 ((rd_T40 l0 x3_1).f1.f1),.int .i64 ((rd_T40 l0 x3_1).f1.f2)]] Q70 rfl rfl Q1 ?_
       with_reducible refine (spec_PayOk.calls ((rd_T40 l0 x3_1).f1.f0) ((rd_T40 l0 x3_1).f1.f1) ((rd_T40 l0 x3_1).f1.f2) true _ A6.out).mono ?_
       rintro e w18 ⟨rfl,hb⟩
       refine ⟨_,rfl,?_⟩
       have n0_:=aM (below_step Q3 hb)
       clear HB
       have HB:=n0_
       clear n0_
       (try clear hb)
       (try clear hb2)
       (try clear hk)
       (try clear hi)
       refine hK.out _ _ ⟨((HB.out.cell (bL w hw109_0)).trans hw109_0),((HB.out.cell (bL w hw109_1)).trans hw109_1),((HB.out.cell (bL w hw109_2)).trans hw109_2),((HB.out.cell (bL w hw109_3)).trans hw109_3),((HB.out.cell (bL w hw111_0)).trans hw111_0),((HB.out.cell (bL w hw111_1)).trans hw111_1),((HB.out.cell (bL w hw111_2)).trans hw111_2),((HB.out.cell (bL w hw111_3)).trans hw111_3)⟩ (fun hHeld => ?_)
       clear hK K
       refine norm_ (a':=?_) ?_ ?_
       rotate_left
       ·show Act.put _ (some 23) _ = _
        simp only [Act.put,sI,sZ,sS,i64_w,i32_w]
        rfl
       refine pS HT_ 14 24 ?_
       refine pS HT_ 15 25 ?_
       refine pS HT_ 16 26 ?_
       refine pS HT_ 17 27 ?_
       refine pS HT_ 18 28 ?_
       refine pS HT_ 19 29 ?_
       refine pU HT_ 20 30 ?_
       refine pU HT_ 21 31 ?_
       refine pU HT_ 22 32 ?_
       refine pU HT_ 23 33 ?_
       refine pU HT_ 24 34 ?_
       refine pU HT_ 25 35 ?_
       refine pU HT_ 26 36 ?_
       refine pU HT_ 27 37 ?_
       refine pU HT_ 28 38 ?_
       refine pU HT_ 29 39 ?_
       refine pU HT_ 30 40 ?_
       refine pU HT_ 31 41 ?_
       refine pS HT_ 32 42 ?_
       refine pS HT_ 33 43 ?_
       refine done_ (done_of HT_.out Q14) ?_
       try go_wp2
       go_roundg k1
       case measure => have:=HK1.out;omega
       case rel => exact ⟨(wrap64 (x3_1 + 1)),Q11,H',⟨Q60⟩,⟨Q3⟩⟩
     ·replace c7:=Bool.eq_false_iff.mpr c7
      subst c7
      have H1 : (some false) = some r:=by rw [if_neg (show ¬ (false = true) by decide)] at H;exact H
      clear H
      have H:=H1
      clear H1
      obtain rfl:=Option.some.inj H
      try go_wp2
      have n0_:=aM (bD HB.out)
      clear HB
      have HB:=n0_
      clear n0_
      have p109 : 0 ≤ (x3_1 : Int):=of_decide_eq_true Q5
      have q109 : x3_1 < (l0.length : Int):=of_decide_eq_true Q5
      obtain ⟨ad109,e109,hx109_0,hx109_1,hx109_2,hx109_3⟩:=at_T40 HR0.out x3_1 p109 q109
      have hw109_3:=hx109_3
      have hw109_2:=hx109_2
      have hw109_1:=hx109_1
      have hw109_0:=hx109_0
      cases e109
      replace hx109_0:=(HB.out.cell (bL w hx109_0)).trans hx109_0
      replace hx109_1:=(HB.out.cell (bL w hx109_1)).trans hx109_1
      replace hx109_2:=(HB.out.cell (bL w hx109_2)).trans hx109_2
      replace hx109_3:=(HB.out.cell (bL w hx109_3)).trans hx109_3
      replace p109:=eq_true p109
      replace q109:=eq_true q109
      have p111 : 0 ≤ (x3_1 : Int):=of_decide_eq_true Q5
      have q111 : x3_1 < (l0.length : Int):=of_decide_eq_true Q5
      obtain ⟨ad111,e111,hx111_0,hx111_1,hx111_2,hx111_3⟩:=at_T40 HR0.out x3_1 p111 q111
      have hw111_3:=hx111_3
      have hw111_2:=hx111_2
      have hw111_1:=hx111_1
      have hw111_0:=hx111_0
      obtain rfl : ad109 = ad111:=(by injection e111)
      replace hx111_0:=(HB.out.cell (bL w hx111_0)).trans hx111_0
      replace hx111_1:=(HB.out.cell (bL w hx111_1)).trans hx111_1
      replace hx111_2:=(HB.out.cell (bL w hx111_2)).trans hx111_2
      replace hx111_3:=(HB.out.cell (bL w hx111_3)).trans hx111_3
      replace p111:=eq_true p111
      replace q111:=eq_true q111
      refine start_ (n:=34) (S:=fun w' => w'.cell? (ad109.add ((x3_1).toNat * 4)) = some (.int .i64 ((rd_T40 l0 x3_1).f0)) ∧ w'.cell? ⟨(ad109.add ((x3_1).toNat * 4)).block,(ad109.add ((x3_1).toNat * 4)).off + 1,none⟩ = some (.int .i64 ((rd_T40 l0 x3_1).f1.f0)) ∧ w'.cell? ⟨(ad109.add ((x3_1).toNat * 4)).block,(ad109.add ((x3_1).toNat * 4)).off + 2,none⟩ = some (.int .i64 ((rd_T40 l0 x3_1).f1.f1)) ∧ w'.cell? ⟨(ad109.add ((x3_1).toNat * 4)).block,(ad109.add ((x3_1).toNat * 4)).off + 3,none⟩ = some (.int .i64 ((rd_T40 l0 x3_1).f1.f2)) ∧ w'.cell? (ad109.add ((x3_1).toNat * 4)) = some (.int .i64 ((rd_T40 l0 x3_1).f0)) ∧ w'.cell? ⟨(ad109.add ((x3_1).toNat * 4)).block,(ad109.add ((x3_1).toNat * 4)).off + 1,none⟩ = some (.int .i64 ((rd_T40 l0 x3_1).f1.f0)) ∧ w'.cell? ⟨(ad109.add ((x3_1).toNat * 4)).block,(ad109.add ((x3_1).toNat * 4)).off + 2,none⟩ = some (.int .i64 ((rd_T40 l0 x3_1).f1.f1)) ∧ w'.cell? ⟨(ad109.add ((x3_1).toNat * 4)).block,(ad109.add ((x3_1).toNat * 4)).off + 3,none⟩ = some (.int .i64 ((rd_T40 l0 x3_1).f1.f2))) (ds:=[]) #[bF,bF,bF,bF,bF,bF,bF,bF,bF,bF,bF,bF,bF,bF,bF,bF,bF,bF,bF,bF,bF,bF,bF,bF,bF,bF,bF,bF,bF,bF,bF,bF,bF,bF] Q14 rfl rfl ⟨((HB.out.cell (bL w hw109_0)).trans hw109_0),((HB.out.cell (bL w hw109_1)).trans hw109_1),((HB.out.cell (bL w hw109_2)).trans hw109_2),((HB.out.cell (bL w hw109_3)).trans hw109_3),((HB.out.cell (bL w hw111_0)).trans hw111_0),((HB.out.cell (bL w hw111_1)).trans hw111_1),((HB.out.cell (bL w hw111_2)).trans hw111_2),((HB.out.cell (bL w hw111_3)).trans hw111_3)⟩ (fun hHeld => ?_);refine with_tabW spec_ChainOk.tab4 spec_ChainOk.bits4 (fun HT_ HW_ => ?_)
      generalize wr.drew = w19 at HB hx109_0 hx109_1 hx109_2 hx109_3 hx111_0 hx111_1 hx111_2 hx111_3 hHeld ⊢
      refine pS HT_ 0 10 ?_
      refine pS HT_ 1 11 ?_
      refine pS HT_ 2 12 ?_
      refine pS HT_ 3 13 ?_
      refine take_ (i:=4) (N:=some 14) (v:=?_) (a':=?_) #[bT,bT,bT,bT,bT,bF,bF,bF,bF,bF,bF,bF,bF,bF,bF,bF,bF,bF,bF,bF,bF,bF,bF,bF,bF,bF,bF,bF,bF,bF,bF,bF,bF,bF] rfl rfl (take_ofW HT_.out HW_.out Q14) (fun _ _ _ h => h) (Or.inl ⟨Q70,?_⟩) hHeld ?_ ?_
      rotate_left
      ·rintro w' ⟨s0,s1,s2,s3,s4,s5,s6,s7⟩
       (try simp only [Int.toNat_natCast] at s0 s1 s2 s3 s4 s5 s6 s7)
       go_simp
       with_reducible rfl
      rotate_left
      ·simp only [Act.put,sI,sZ,sS,i64_w,i32_w]
       rfl
      refine one_ (i:=5) (N:=some 15) #[bT,bT,bT,bT,bT,bT,bF,bF,bF,bF,bF,bF,bF,bF,bF,bF,bF,bF,bF,bF,bF,bF,bF,bF,bF,bF,bF,bF,bF,bF,bF,bF,bF,bF] rfl rfl (one_of HT_.out Q14) Q36 (fun K hK => ?_)
      refine goes_ Try.func28 Q14 rfl #[.int .i64 ((rd_T40 l0 x3_1).f0),.int .i64 1,.int .i64 30] Q70 rfl rfl Q1 ?_
      with_reducible refine (spec_l6In.calls ((rd_T40 l0 x3_1).f0) 1 30 true _ A4.out).mono ?_
      rintro e w' ⟨rfl,⟨nd,rfl⟩⟩
      refine ⟨_,rfl,?_⟩
      refine hK.out _ _ ⟨((HB.out.cell (bL w hw109_0)).trans hw109_0),((HB.out.cell (bL w hw109_1)).trans hw109_1),((HB.out.cell (bL w hw109_2)).trans hw109_2),((HB.out.cell (bL w hw109_3)).trans hw109_3),((HB.out.cell (bL w hw111_0)).trans hw111_0),((HB.out.cell (bL w hw111_1)).trans hw111_1),((HB.out.cell (bL w hw111_2)).trans hw111_2),((HB.out.cell (bL w hw111_3)).trans hw111_3)⟩ (fun hHeld => ?_)
      clear hK K
      refine norm_ (a':=?_) ?_ ?_
      rotate_left
      ·show Act.put _ (some 15) _ = _
       simp only [Act.put,sI,sZ,sS,i64_w,i32_w]
       rfl
      refine pS HT_ 6 16 ?_
      refine pS HT_ 7 17 ?_
      refine pS HT_ 8 18 ?_
      refine pS HT_ 9 19 ?_
      refine pS HT_ 10 20 ?_
      refine pS HT_ 11 21 ?_
      refine take_ (i:=12) (N:=some 22) (v:=?_) (a':=?_) #[bT,bT,bT,bT,bT,bT,bT,bT,bT,bT,bT,bT,bT,bF,bF,bF,bF,bF,bF,bF,bF,bF,bF,bF,bF,bF,bF,bF,bF,bF,bF,bF,bF,bF] rfl rfl (take_ofW HT_.out HW_.out Q14) (fun _ _ _ h => h) (Or.inl ⟨Q70,?_⟩) hHeld ?_ ?_
      rotate_left
      ·rintro w' ⟨s0,s1,s2,s3,s4,s5,s6,s7⟩
       (try simp only [Int.toNat_natCast] at s0 s1 s2 s3 s4 s5 s6 s7)
       go_simp
       with_reducible rfl
      rotate_left
      ·simp only [Act.put,sI,sZ,sS,i64_w,i32_w]
       rfl
      refine one_ (i:=13) (N:=some 23) #[bT,bT,bT,bT,bT,bT,bT,bT,bT,bT,bT,bT,bT,bT,bF,bF,bF,bF,bF,bF,bF,bF,bF,bF,bF,bF,bF,bF,bF,bF,bF,bF,bF,bF] rfl rfl (one_of HT_.out Q14) Q36 (fun K hK => ?_)
      refine goes_ Try.func29 Q14 rfl #[.agg #[.int .i64 ((rd_T40 l0 x3_1).f1.f0),.int .i64 ((rd_T40 l0 x3_1).f1.f1),.int .i64 ((rd_T40 l0 x3_1).f1.f2)]] Q70 rfl rfl Q1 ?_
      with_reducible refine (spec_PayOk.calls ((rd_T40 l0 x3_1).f1.f0) ((rd_T40 l0 x3_1).f1.f1) ((rd_T40 l0 x3_1).f1.f2) false _ A6.out).mono ?_
      rintro e w20 ⟨rfl,hb⟩
      refine ⟨_,rfl,?_⟩
      have n0_:=aM (below_step Q3 hb)
      clear HB
      have HB:=n0_
      clear n0_
      (try clear hb)
      (try clear hb2)
      (try clear hk)
      (try clear hi)
      refine hK.out _ _ ⟨((HB.out.cell (bL w hw109_0)).trans hw109_0),((HB.out.cell (bL w hw109_1)).trans hw109_1),((HB.out.cell (bL w hw109_2)).trans hw109_2),((HB.out.cell (bL w hw109_3)).trans hw109_3),((HB.out.cell (bL w hw111_0)).trans hw111_0),((HB.out.cell (bL w hw111_1)).trans hw111_1),((HB.out.cell (bL w hw111_2)).trans hw111_2),((HB.out.cell (bL w hw111_3)).trans hw111_3)⟩ (fun hHeld => ?_)
      clear hK K
      refine norm_ (a':=?_) ?_ ?_
      rotate_left
      ·show Act.put _ (some 23) _ = _
       simp only [Act.put,sI,sZ,sS,i64_w,i32_w]
       rfl
      refine pS HT_ 14 24 ?_
      refine pS HT_ 15 25 ?_
      refine pS HT_ 16 26 ?_
      refine pU HT_ 17 27 ?_
      refine pU HT_ 18 28 ?_
      refine pU HT_ 19 29 ?_
      refine pU HT_ 20 30 ?_
      refine pU HT_ 21 31 ?_
      refine pU HT_ 22 32 ?_
      refine pU HT_ 23 33 ?_
      refine pU HT_ 24 34 ?_
      refine pU HT_ 25 35 ?_
      refine pU HT_ 26 36 ?_
      refine pU HT_ 27 37 ?_
      refine pU HT_ 28 38 ?_
      refine pU HT_ 29 39 ?_
      refine pU HT_ 30 40 ?_
      refine pU HT_ 31 41 ?_
      refine pU HT_ 32 42 ?_
      refine pS HT_ 33 43 ?_
      refine done_ (done_of HT_.out Q14) ?_
      try go_wp2
      go_ret
      exact ⟨Q6,Q3⟩
    ·replace c5:=Bool.eq_false_iff.mpr c5
     subst c5
     have H1 : (some false) = some r:=by rw [if_neg (show ¬ (false = true) by decide)] at H;exact H
     clear H
     have H:=H1
     clear H1
     obtain rfl:=Option.some.inj H
     try go_wp2
     have n0_:=aM (bD HB.out)
     clear HB
     have HB:=n0_
     clear n0_
     have p109 : 0 ≤ (x3_1 : Int):=of_decide_eq_true Q5
     have q109 : x3_1 < (l0.length : Int):=of_decide_eq_true Q5
     obtain ⟨ad109,e109,hx109_0,hx109_1,hx109_2,hx109_3⟩:=at_T40 HR0.out x3_1 p109 q109
     have hw109_3:=hx109_3
     have hw109_2:=hx109_2
     have hw109_1:=hx109_1
     have hw109_0:=hx109_0
     cases e109
     replace hx109_0:=(HB.out.cell (bL w hx109_0)).trans hx109_0
     replace hx109_1:=(HB.out.cell (bL w hx109_1)).trans hx109_1
     replace hx109_2:=(HB.out.cell (bL w hx109_2)).trans hx109_2
     replace hx109_3:=(HB.out.cell (bL w hx109_3)).trans hx109_3
     replace p109:=eq_true p109
     replace q109:=eq_true q109
     refine start_ (n:=34) (S:=fun w' => w'.cell? (ad109.add ((x3_1).toNat * 4)) = some (.int .i64 ((rd_T40 l0 x3_1).f0)) ∧ w'.cell? ⟨(ad109.add ((x3_1).toNat * 4)).block,(ad109.add ((x3_1).toNat * 4)).off + 1,none⟩ = some (.int .i64 ((rd_T40 l0 x3_1).f1.f0)) ∧ w'.cell? ⟨(ad109.add ((x3_1).toNat * 4)).block,(ad109.add ((x3_1).toNat * 4)).off + 2,none⟩ = some (.int .i64 ((rd_T40 l0 x3_1).f1.f1)) ∧ w'.cell? ⟨(ad109.add ((x3_1).toNat * 4)).block,(ad109.add ((x3_1).toNat * 4)).off + 3,none⟩ = some (.int .i64 ((rd_T40 l0 x3_1).f1.f2))) (ds:=[]) #[bF,bF,bF,bF,bF,bF,bF,bF,bF,bF,bF,bF,bF,bF,bF,bF,bF,bF,bF,bF,bF,bF,bF,bF,bF,bF,bF,bF,bF,bF,bF,bF,bF,bF] Q14 rfl rfl ⟨((HB.out.cell (bL w hw109_0)).trans hw109_0),((HB.out.cell (bL w hw109_1)).trans hw109_1),((HB.out.cell (bL w hw109_2)).trans hw109_2),((HB.out.cell (bL w hw109_3)).trans hw109_3)⟩ (fun hHeld => ?_);refine with_tabW spec_ChainOk.tab4 spec_ChainOk.bits4 (fun HT_ HW_ => ?_)
     generalize wr.drew = w21 at HB hx109_0 hx109_1 hx109_2 hx109_3 hHeld ⊢
     refine pS HT_ 0 10 ?_
     refine pS HT_ 1 11 ?_
     refine pS HT_ 2 12 ?_
     refine pS HT_ 3 13 ?_
     refine take_ (i:=4) (N:=some 14) (v:=?_) (a':=?_) #[bT,bT,bT,bT,bT,bF,bF,bF,bF,bF,bF,bF,bF,bF,bF,bF,bF,bF,bF,bF,bF,bF,bF,bF,bF,bF,bF,bF,bF,bF,bF,bF,bF,bF] rfl rfl (take_ofW HT_.out HW_.out Q14) (fun _ _ _ h => h) (Or.inl ⟨Q70,?_⟩) hHeld ?_ ?_
     rotate_left
     ·rintro w' ⟨s0,s1,s2,s3⟩
      (try simp only [Int.toNat_natCast] at s0 s1 s2 s3)
      go_simp
      with_reducible rfl
     rotate_left
     ·simp only [Act.put,sI,sZ,sS,i64_w,i32_w]
      rfl
     refine one_ (i:=5) (N:=some 15) #[bT,bT,bT,bT,bT,bT,bF,bF,bF,bF,bF,bF,bF,bF,bF,bF,bF,bF,bF,bF,bF,bF,bF,bF,bF,bF,bF,bF,bF,bF,bF,bF,bF,bF] rfl rfl (one_of HT_.out Q14) Q36 (fun K hK => ?_)
     refine goes_ Try.func28 Q14 rfl #[.int .i64 ((rd_T40 l0 x3_1).f0),.int .i64 1,.int .i64 30] Q70 rfl rfl Q1 ?_
     with_reducible refine (spec_l6In.calls ((rd_T40 l0 x3_1).f0) 1 30 false _ A4.out).mono ?_
     rintro e w' ⟨rfl,⟨nd,rfl⟩⟩
     refine ⟨_,rfl,?_⟩
     refine hK.out _ _ ⟨((HB.out.cell (bL w hw109_0)).trans hw109_0),((HB.out.cell (bL w hw109_1)).trans hw109_1),((HB.out.cell (bL w hw109_2)).trans hw109_2),((HB.out.cell (bL w hw109_3)).trans hw109_3)⟩ (fun hHeld => ?_)
     clear hK K
     refine norm_ (a':=?_) ?_ ?_
     rotate_left
     ·show Act.put _ (some 15) _ = _
      simp only [Act.put,sI,sZ,sS,i64_w,i32_w]
      rfl
     refine pS HT_ 6 16 ?_
     refine pS HT_ 7 17 ?_
     refine pU HT_ 8 18 ?_
     refine pU HT_ 9 19 ?_
     refine pU HT_ 10 20 ?_
     refine pU HT_ 11 21 ?_
     refine pU HT_ 12 22 ?_
     refine pU HT_ 13 23 ?_
     refine pU HT_ 14 24 ?_
     refine pS HT_ 15 25 ?_
     refine pS HT_ 16 26 ?_
     refine pU HT_ 17 27 ?_
     refine pU HT_ 18 28 ?_
     refine pU HT_ 19 29 ?_
     refine pU HT_ 20 30 ?_
     refine pU HT_ 21 31 ?_
     refine pU HT_ 22 32 ?_
     refine pU HT_ 23 33 ?_
     refine pU HT_ 24 34 ?_
     refine pU HT_ 25 35 ?_
     refine pU HT_ 26 36 ?_
     refine pU HT_ 27 37 ?_
     refine pU HT_ 28 38 ?_
     refine pU HT_ 29 39 ?_
     refine pU HT_ 30 40 ?_
     refine pU HT_ 31 41 ?_
     refine pU HT_ 32 42 ?_
     refine pS HT_ 33 43 ?_
     refine done_ (done_of HT_.out Q14) ?_
     try go_wp2
     go_ret
     exact ⟨Q6,Q3⟩
   ·rw [if_neg c2] at H
    have c2b0 : decide (x3_1 < (l0.length : Int)) = false:=decide_eq_false c2
    clear c2
    obtain rfl:=Option.some.inj H
    go_wp2
    go_ret
    exact ⟨Q6,Q3⟩

end Go.Proofs.Ytlcfalecbpnhbaa.P
