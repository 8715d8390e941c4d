/- The printed functions: what each Go function computes, as a Lean function, and that the Go code comes to just that. Conditions: none beyond each contract's own. -/
import Derived.Test.YthjpkfcejdddkaaDoorPx0
import Derived.Test.YthjpkfcejdddkaaDoorPx5
import Derived.Test.YthjpkfcejdddkaaDoorPx6
namespace Go.Proofs.YthjpkfcejdddkaaDoor.P
open Go.RowKit Go.Proofs.YthjpkfcejdddkaaDoorW.PrintWords Go.Proofs.YthjpkfcejdddkaaDoorW.PrintLast Go.Proofs.YthjpkfcejdddkaaDoorW.PrintMore
attribute [local go_sem] max2_int min2_int max_two min_two max_three min_three max_four min_four   -- for this text's walks alone
set_option linter.unusedVariables false
set_option linter.unusedSimpArgs false

/-! ### spec_ChainText: function 11 -/
theorem spec_ChainText.lit1 (x : UInt8) : (⟨#[x]⟩ : ByteArray).size = 1:=rfl
def spec_ChainText.l0 : Nat → List (S48) → ByteArray → Int → Option (ByteArray)
 | 0,_,_,_ => none
 | k + 1,x0,x3,x4 => if x4 < (x0.length : Int) then (if 0 ≤ x4 then ((spec_l6Dec.f k ((rd_T48 x0 x4).f0)).bind fun t149 => (if x3.size + t149.size ≤ 9223372036854775807 then (if (x3 ++ t149).size + 1 ≤ 9223372036854775807 then ((spec_l6Dec.f k ((rd_T48 x0 x4).f1.f0)).bind fun t151 => (if ((x3 ++ t149) ++ (⟨#[58]⟩ : ByteArray)).size + t151.size ≤ 9223372036854775807 then ((spec_l6Dec.f k ((rd_T48 x0 x4).f1.f1)).bind fun t153 => (if (((x3 ++ t149) ++ (⟨#[58]⟩ : ByteArray)) ++ t151).size + t153.size ≤ 9223372036854775807 then ((spec_l6Dec.f k ((rd_T48 x0 x4).f1.f2)).bind fun t155 => (if ((((x3 ++ t149) ++ (⟨#[58]⟩ : ByteArray)) ++ t151) ++ t153).size + t155.size ≤ 9223372036854775807 then (if (((((x3 ++ t149) ++ (⟨#[58]⟩ : ByteArray)) ++ t151) ++ t153) ++ t155).size + 1 ≤ 9223372036854775807 then (spec_ChainText.l0 k x0 ((((((x3 ++ t149) ++ (⟨#[58]⟩ : ByteArray)) ++ t151) ++ t153) ++ t155) ++ (⟨#[10]⟩ : ByteArray)) (wrap64 (x4 + 1))) else (none)) else (none))) else (none))) else (none))) else (none)) else (none))) else (none)) else (some x3)
def spec_ChainText.f (k : Nat) (l0 : List (S48)) : Option (ByteArray):=(spec_ChainOk.f k l0).bind fun t147 => (if t147 = true then (spec_ChainText.l0 k l0 (⟨#[]⟩ : ByteArray) 0) else (some (⟨#[]⟩ : ByteArray)))
theorem spec_ChainText.mono_l : ∀ k,(∀ y0 y1 y2,LeO (spec_ChainText.l0 k y0 y1 y2) (spec_ChainText.l0 (k + 1) y0 y1 y2))
 | 0 => fun _ _ _ r h => by simp [spec_ChainText.l0] at h
 | k + 1 => by
  have ih0:=spec_ChainText.mono_l k
  ·intro y0 y1 y2
   unfold spec_ChainText.l0
   repeat' first
   | (with_reducible exact ih0 _ _ _)
   | (with_reducible exact spec_ChainOk.mono _ _)
   | (with_reducible exact spec_l6Dec.mono _ _)
   | (with_reducible exact LeO.refl _)
   | (with_reducible exact LeO.none _)
   | (with_reducible refine LeO.ite ?_ ?_)
   | (with_reducible refine LeO.bind ?_ (fun _ => ?_))
   | exact ih0 _ _ _
   | exact spec_ChainOk.mono _ _
   | exact spec_l6Dec.mono _ _
   | exact LeO.none _
   | refine LeO.ite ?_ ?_
   | refine LeO.bind ?_ (fun _ => ?_)
theorem spec_ChainText.mono : ∀ a0 k,LeO (spec_ChainText.f k a0) (spec_ChainText.f (k + 1) a0):=by
 intro a0 k
 have ih0:=spec_ChainText.mono_l k
 unfold spec_ChainText.f
 repeat' first
   | (with_reducible exact ih0 _ _ _)
   | (with_reducible exact spec_ChainOk.mono _ _)
   | (with_reducible exact spec_l6Dec.mono _ _)
   | (with_reducible exact LeO.refl _)
   | (with_reducible exact LeO.none _)
   | (with_reducible refine LeO.ite ?_ ?_)
   | (with_reducible refine LeO.bind ?_ (fun _ => ?_))
   | exact ih0 _ _ _
   | exact spec_ChainOk.mono _ _
   | exact spec_l6Dec.mono _ _
   | exact LeO.none _
   | refine LeO.ite ?_ ?_
   | refine LeO.bind ?_ (fun _ => ?_)
def spec_ChainText.T7 : Bool × List (List Nat × List Nat):=(true,[([],[]),([],[]),([],[]),([1,2],[1,2]),([3],[3]),([4],[4]),([5],[5]),([0,6],[0,6]),([7],[7]),([],[]),([],[]),([9,10],[9,10]),([11],[11]),([12],[12]),([13],[13]),([14,6],[14]),([8,15],[8,15]),([],[]),([],[]),([17,18],[17,18]),([19],[19]),([20],[20]),([21],[21]),([22,15],[22]),([16,23],[16,23]),([],[]),([],[]),([25,26],[25,26]),([27],[27]),([28],[28]),([29],[29]),([30,23],[30]),([24,31],[24,31]),([32],[32]),([33,31,0,1,2,3,4,5,6,7,8,9,10,11,12,13,14,15,16,17,18,19,20,21,22,23,24,25,26,27,28,29,30,31,32,33],[0,33])])
def spec_ChainText.B7 : List Nat:=[0,0,0,6,14,30,62,127,255,0,0,1536,3584,7680,15872,32382,65535,0,0,393216,917504,1966080,4063232,8322686,16777215,0,0,100663296,234881024,503316480,1040187392,2130640510,4294967295,8589934591,17179869183]
theorem spec_ChainText.tab7 : rtab .any (opsOf Tryd.f11 7) = spec_ChainText.T7:=by kernel_rfl
theorem spec_ChainText.bits7 : waitsOk spec_ChainText.T7.2 spec_ChainText.B7 = true:=by kernel_rfl
set_option maxHeartbeats 8000000 in
set_option maxRecDepth 100000 in
theorem spec_ChainText.calls (k : Nat) (A0 : Option Addr) (c0 : Nat) (l0 : List (S48)) (r : ByteArray) (w : World) (hr0 : Kd.C k48 w A0 l0.length l0) (hc0 : l0.length ≤ c0) (h : spec_ChainText.f k l0 = some r) :
  Calls Tryd.prog 11 #[.slice A0 l0.length c0] w fun e w' => e = .returned (.string r) ∧ Below w.heap.size w w':=by
 have HR0:=aM hr0
 have HC0:=aM hc0
 clear hr0 hc0
 have HB:=aM (Below.refl w.heap.size w)
 have H : ((spec_ChainOk.f k l0).bind fun t147 => (if t147 = true then (spec_ChainText.l0 k l0 (⟨#[]⟩ : ByteArray) 0) else (some (⟨#[]⟩ : ByteArray)))) = some r:=h
 clear h
 replace H:=Option.bind_eq_some_iff.mp H
 obtain ⟨t147,A20,H⟩:=H
 replace H : (if t147 = true then (spec_ChainText.l0 k l0 (⟨#[]⟩ : ByteArray) 0) else (some (⟨#[]⟩ : ByteArray))) = some r:=H
 have A2:=aM A20
 clear A20
 by_cases c3 : t147 = true
 ·subst c3
  have H1 : (spec_ChainText.l0 k l0 (⟨#[]⟩ : ByteArray) 0) = some r:=by rw [if_pos rfl] at H;exact H
  clear H
  have H:=H1
  clear H1
  have H':=aM H
  clear H
  go_enter Tryd.func11,Tryd.ntmps11
  go_wp2_with (first|((with_reducible refine gate_callee (f:=22) rfl ?_);refine goesL_ (some 6) rfl rfl Tryd.func22 (by kernel_rfl) rfl #[.slice A0 l0.length c0] rfl (by (try simp only [List.map_toArray,List.map_cons,List.map_nil]);first|done|rfl|(simp only [List.length_drop,List.length_take];rfl)) ?_;(with_reducible refine (spec_ChainOk.calls k _ _ l0 true _ ?side1 ?side2 A2.out).mono ?_);(case side1 => repeat (first|exact HR0.out|(with_reducible refine Kd.C_alloc ?_ _)|(with_reducible refine Kd.C_drewN ?_ _)|(with_reducible refine Kd.C_drew ?_)));(case side2 => exact HC0.out);rintro e w4 ⟨rfl,hb⟩;refine ⟨_,rfl,?_⟩;have n0_:=aM (below_step (by repeat (first|(with_reducible first|exact HB.out|apply bA|apply bN|apply bD)|exact HB.out)) hb);clear HB;have HB:=n0_;clear n0_;(try clear hb);(try clear hb2);(try clear hk);(try clear hi)))
  go_loopg [3,4] k (fun kq v3 v4 w' => ∃ (x3_1 : ByteArray) (x4_1 : Int),v3 = .string x3_1 ∧ v4 = .int .i64 x4_1 ∧ Aside0 (spec_ChainText.l0 kq l0 x3_1 x4_1 = some r) ∧ Aside0 (kq ≤ k) ∧ Aside0 (Below w.heap.size w w'))
  case atStart => exact ⟨((⟨#[]⟩ : ByteArray)),(0),(by first|rfl|(simp;done)|(simp [*];done)),(by first|rfl|(simp;done)|(simp [*];done)),H',⟨Nat.le_refl _⟩,⟨by repeat (first|(with_reducible first|exact HB.out|apply bA|apply bN|apply bD)|exact HB.out)⟩⟩
  case round =>
   clear H'
   try clear c1
   try clear c2
   try clear p2
   try clear c3
   obtain ⟨x3_1,x4_1,rfl,rfl,HA,HK1,HB⟩:=hrel
   cases gk with
   | zero => exact absurd HA.out (by simp [spec_ChainText.l0])
   | succ k1 =>
    have H:=HA.out
    clear HA
    simp only [spec_ChainText.l0] at H
    by_cases c5 : x4_1 < (l0.length : Int)
    ·rw [if_pos c5] at H
     have c5b0 : decide (x4_1 < (l0.length : Int)) = true:=decide_eq_true c5
     clear c5
     by_cases c6 : 0 ≤ x4_1
     case neg => rw [if_neg c6] at H;exact absurd H (by simp)
     rw [if_pos c6] at H
     have c6b0 : decide (0 ≤ x4_1) = true:=decide_eq_true c6
     clear c6
     replace H:=Option.bind_eq_some_iff.mp H
     obtain ⟨t149,A70,H⟩:=H
     replace H : (if x3_1.size + t149.size ≤ 9223372036854775807 then (if (x3_1 ++ t149).size + 1 ≤ 9223372036854775807 then ((spec_l6Dec.f k1 ((rd_T48 l0 x4_1).f1.f0)).bind fun t151 => (if ((x3_1 ++ t149) ++ (⟨#[58]⟩ : ByteArray)).size + t151.size ≤ 9223372036854775807 then ((spec_l6Dec.f k1 ((rd_T48 l0 x4_1).f1.f1)).bind fun t153 => (if (((x3_1 ++ t149) ++ (⟨#[58]⟩ : ByteArray)) ++ t151).size + t153.size ≤ 9223372036854775807 then ((spec_l6Dec.f k1 ((rd_T48 l0 x4_1).f1.f2)).bind fun t155 => (if ((((x3_1 ++ t149) ++ (⟨#[58]⟩ : ByteArray)) ++ t151) ++ t153).size + t155.size ≤ 9223372036854775807 then (if (((((x3_1 ++ t149) ++ (⟨#[58]⟩ : ByteArray)) ++ t151) ++ t153) ++ t155).size + 1 ≤ 9223372036854775807 then (spec_ChainText.l0 k1 l0 ((((((x3_1 ++ t149) ++ (⟨#[58]⟩ : ByteArray)) ++ t151) ++ t153) ++ t155) ++ (⟨#[10]⟩ : ByteArray)) (wrap64 (x4_1 + 1))) else (none)) else (none))) else (none))) else (none))) else (none)) else (none)) = some r:=H
     have A7:=aM A70
     clear A70
     by_cases c8 : x3_1.size + t149.size ≤ 9223372036854775807
     case neg => rw [if_neg c8] at H;exact absurd H (by simp)
     rw [if_pos c8] at H
     have c8b0:=eq_true c8
     have c8b1 : decide (x3_1.size + t149.size ≤ 9223372036854775807) = true:=decide_eq_true c8
     try have c8b2 : (9223372036854775807 < x3_1.size + t149.size) = False:=eq_false (Nat.not_lt.2 c8)
     try have c8b3:=c8b2
     (try simp only [ByteArray.size_append,spec_ChainText.lit1] at c8b3)
     by_cases c9 : (x3_1 ++ t149).size + 1 ≤ 9223372036854775807
     case neg => rw [if_neg c9] at H;exact absurd H (by simp)
     rw [if_pos c9] at H
     have c9b0:=eq_true c9
     have c9b1 : decide ((x3_1 ++ t149).size + 1 ≤ 9223372036854775807) = true:=decide_eq_true c9
     try have c9b2 : (9223372036854775807 < (x3_1 ++ t149).size + 1) = False:=eq_false (Nat.not_lt.2 c9)
     try have c9b3:=c9b2
     (try simp only [ByteArray.size_append,spec_ChainText.lit1] at c9b3)
     replace H:=Option.bind_eq_some_iff.mp H
     obtain ⟨t151,A100,H⟩:=H
     replace H : (if ((x3_1 ++ t149) ++ (⟨#[58]⟩ : ByteArray)).size + t151.size ≤ 9223372036854775807 then ((spec_l6Dec.f k1 ((rd_T48 l0 x4_1).f1.f1)).bind fun t153 => (if (((x3_1 ++ t149) ++ (⟨#[58]⟩ : ByteArray)) ++ t151).size + t153.size ≤ 9223372036854775807 then ((spec_l6Dec.f k1 ((rd_T48 l0 x4_1).f1.f2)).bind fun t155 => (if ((((x3_1 ++ t149) ++ (⟨#[58]⟩ : ByteArray)) ++ t151) ++ t153).size + t155.size ≤ 9223372036854775807 then (if (((((x3_1 ++ t149) ++ (⟨#[58]⟩ : ByteArray)) ++ t151) ++ t153) ++ t155).size + 1 ≤ 9223372036854775807 then (spec_ChainText.l0 k1 l0 ((((((x3_1 ++ t149) ++ (⟨#[58]⟩ : ByteArray)) ++ t151) ++ t153) ++ t155) ++ (⟨#[10]⟩ : ByteArray)) (wrap64 (x4_1 + 1))) else (none)) else (none))) else (none))) else (none)) = some r:=H
     have A10:=aM A100
     clear A100
     by_cases c11 : ((x3_1 ++ t149) ++ (⟨#[58]⟩ : ByteArray)).size + t151.size ≤ 9223372036854775807
     case neg => rw [if_neg c11] at H;exact absurd H (by simp)
     rw [if_pos c11] at H
     have c11b0:=eq_true c11
     have c11b1 : decide (((x3_1 ++ t149) ++ (⟨#[58]⟩ : ByteArray)).size + t151.size ≤ 9223372036854775807) = true:=decide_eq_true c11
     try have c11b2 : (9223372036854775807 < ((x3_1 ++ t149) ++ (⟨#[58]⟩ : ByteArray)).size + t151.size) = False:=eq_false (Nat.not_lt.2 c11)
     try have c11b3:=c11b2
     (try simp only [ByteArray.size_append,spec_ChainText.lit1] at c11b3)
     replace H:=Option.bind_eq_some_iff.mp H
     obtain ⟨t153,A120,H⟩:=H
     replace H : (if (((x3_1 ++ t149) ++ (⟨#[58]⟩ : ByteArray)) ++ t151).size + t153.size ≤ 9223372036854775807 then ((spec_l6Dec.f k1 ((rd_T48 l0 x4_1).f1.f2)).bind fun t155 => (if ((((x3_1 ++ t149) ++ (⟨#[58]⟩ : ByteArray)) ++ t151) ++ t153).size + t155.size ≤ 9223372036854775807 then (if (((((x3_1 ++ t149) ++ (⟨#[58]⟩ : ByteArray)) ++ t151) ++ t153) ++ t155).size + 1 ≤ 9223372036854775807 then (spec_ChainText.l0 k1 l0 ((((((x3_1 ++ t149) ++ (⟨#[58]⟩ : ByteArray)) ++ t151) ++ t153) ++ t155) ++ (⟨#[10]⟩ : ByteArray)) (wrap64 (x4_1 + 1))) else (none)) else (none))) else (none)) = some r:=H
     have A12:=aM A120
     clear A120
     by_cases c13 : (((x3_1 ++ t149) ++ (⟨#[58]⟩ : ByteArray)) ++ t151).size + t153.size ≤ 9223372036854775807
     case neg => rw [if_neg c13] at H;exact absurd H (by simp)
     rw [if_pos c13] at H
     have c13b0:=eq_true c13
     have c13b1 : decide ((((x3_1 ++ t149) ++ (⟨#[58]⟩ : ByteArray)) ++ t151).size + t153.size ≤ 9223372036854775807) = true:=decide_eq_true c13
     try have c13b2 : (9223372036854775807 < (((x3_1 ++ t149) ++ (⟨#[58]⟩ : ByteArray)) ++ t151).size + t153.size) = False:=eq_false (Nat.not_lt.2 c13)
     try have c13b3:=c13b2
     (try simp only [ByteArray.size_append,spec_ChainText.lit1] at c13b3)
     replace H:=Option.bind_eq_some_iff.mp H
     obtain ⟨t155,A140,H⟩:=H
     replace H : (if ((((x3_1 ++ t149) ++ (⟨#[58]⟩ : ByteArray)) ++ t151) ++ t153).size + t155.size ≤ 9223372036854775807 then (if (((((x3_1 ++ t149) ++ (⟨#[58]⟩ : ByteArray)) ++ t151) ++ t153) ++ t155).size + 1 ≤ 9223372036854775807 then (spec_ChainText.l0 k1 l0 ((((((x3_1 ++ t149) ++ (⟨#[58]⟩ : ByteArray)) ++ t151) ++ t153) ++ t155) ++ (⟨#[10]⟩ : ByteArray)) (wrap64 (x4_1 + 1))) else (none)) else (none)) = some r:=H
     have A14:=aM A140
     clear A140
     by_cases c15 : ((((x3_1 ++ t149) ++ (⟨#[58]⟩ : ByteArray)) ++ t151) ++ t153).size + t155.size ≤ 9223372036854775807
     case neg => rw [if_neg c15] at H;exact absurd H (by simp)
     rw [if_pos c15] at H
     have c15b0:=eq_true c15
     have c15b1 : decide (((((x3_1 ++ t149) ++ (⟨#[58]⟩ : ByteArray)) ++ t151) ++ t153).size + t155.size ≤ 9223372036854775807) = true:=decide_eq_true c15
     try have c15b2 : (9223372036854775807 < ((((x3_1 ++ t149) ++ (⟨#[58]⟩ : ByteArray)) ++ t151) ++ t153).size + t155.size) = False:=eq_false (Nat.not_lt.2 c15)
     try have c15b3:=c15b2
     (try simp only [ByteArray.size_append,spec_ChainText.lit1] at c15b3)
     by_cases c16 : (((((x3_1 ++ t149) ++ (⟨#[58]⟩ : ByteArray)) ++ t151) ++ t153) ++ t155).size + 1 ≤ 9223372036854775807
     case neg => rw [if_neg c16] at H;exact absurd H (by simp)
     rw [if_pos c16] at H
     have c16b0:=eq_true c16
     have c16b1 : decide ((((((x3_1 ++ t149) ++ (⟨#[58]⟩ : ByteArray)) ++ t151) ++ t153) ++ t155).size + 1 ≤ 9223372036854775807) = true:=decide_eq_true c16
     try have c16b2 : (9223372036854775807 < (((((x3_1 ++ t149) ++ (⟨#[58]⟩ : ByteArray)) ++ t151) ++ t153) ++ t155).size + 1) = False:=eq_false (Nat.not_lt.2 c16)
     try have c16b3:=c16b2
     (try simp only [ByteArray.size_append,spec_ChainText.lit1] at c16b3)
     have H':=aM H
     clear H
     try go_wp2
     have n0_:=aM (bD HB.out)
     clear HB
     have HB:=n0_
     clear n0_
     have p148 : 0 ≤ (x4_1 : Int):=of_decide_eq_true (by first|(with_reducible assumption)|assumption)
     have q148 : x4_1 < (l0.length : Int):=of_decide_eq_true (by first|(with_reducible assumption)|assumption)
     obtain ⟨ad148,e148,hx148_0,hx148_1,hx148_2,hx148_3⟩:=at_T48 HR0.out x4_1 p148 q148
     have hw148_3:=hx148_3
     have hw148_2:=hx148_2
     have hw148_1:=hx148_1
     have hw148_0:=hx148_0
     cases e148
     replace hx148_0:=(HB.out.cell (bL w hx148_0)).trans hx148_0
     replace hx148_1:=(HB.out.cell (bL w hx148_1)).trans hx148_1
     replace hx148_2:=(HB.out.cell (bL w hx148_2)).trans hx148_2
     replace hx148_3:=(HB.out.cell (bL w hx148_3)).trans hx148_3
     replace p148:=eq_true p148
     replace q148:=eq_true q148
     have p150 : 0 ≤ (x4_1 : Int):=of_decide_eq_true (by first|(with_reducible assumption)|assumption)
     have q150 : x4_1 < (l0.length : Int):=of_decide_eq_true (by first|(with_reducible assumption)|assumption)
     obtain ⟨ad150,e150,hx150_0,hx150_1,hx150_2,hx150_3⟩:=at_T48 HR0.out x4_1 p150 q150
     have hw150_3:=hx150_3
     have hw150_2:=hx150_2
     have hw150_1:=hx150_1
     have hw150_0:=hx150_0
     obtain rfl : ad148 = ad150:=(by injection e150)
     replace hx150_0:=(HB.out.cell (bL w hx150_0)).trans hx150_0
     replace hx150_1:=(HB.out.cell (bL w hx150_1)).trans hx150_1
     replace hx150_2:=(HB.out.cell (bL w hx150_2)).trans hx150_2
     replace hx150_3:=(HB.out.cell (bL w hx150_3)).trans hx150_3
     replace p150:=eq_true p150
     replace q150:=eq_true q150
     have p152 : 0 ≤ (x4_1 : Int):=of_decide_eq_true (by first|(with_reducible assumption)|assumption)
     have q152 : x4_1 < (l0.length : Int):=of_decide_eq_true (by first|(with_reducible assumption)|assumption)
     obtain ⟨ad152,e152,hx152_0,hx152_1,hx152_2,hx152_3⟩:=at_T48 HR0.out x4_1 p152 q152
     have hw152_3:=hx152_3
     have hw152_2:=hx152_2
     have hw152_1:=hx152_1
     have hw152_0:=hx152_0
     obtain rfl : ad148 = ad152:=(by injection e152)
     replace hx152_0:=(HB.out.cell (bL w hx152_0)).trans hx152_0
     replace hx152_1:=(HB.out.cell (bL w hx152_1)).trans hx152_1
     replace hx152_2:=(HB.out.cell (bL w hx152_2)).trans hx152_2
     replace hx152_3:=(HB.out.cell (bL w hx152_3)).trans hx152_3
     replace p152:=eq_true p152
     replace q152:=eq_true q152
     have p154 : 0 ≤ (x4_1 : Int):=of_decide_eq_true (by first|(with_reducible assumption)|assumption)
     have q154 : x4_1 < (l0.length : Int):=of_decide_eq_true (by first|(with_reducible assumption)|assumption)
     obtain ⟨ad154,e154,hx154_0,hx154_1,hx154_2,hx154_3⟩:=at_T48 HR0.out x4_1 p154 q154
     have hw154_3:=hx154_3
     have hw154_2:=hx154_2
     have hw154_1:=hx154_1
     have hw154_0:=hx154_0
     obtain rfl : ad148 = ad154:=(by injection e154)
     replace hx154_0:=(HB.out.cell (bL w hx154_0)).trans hx154_0
     replace hx154_1:=(HB.out.cell (bL w hx154_1)).trans hx154_1
     replace hx154_2:=(HB.out.cell (bL w hx154_2)).trans hx154_2
     replace hx154_3:=(HB.out.cell (bL w hx154_3)).trans hx154_3
     replace p154:=eq_true p154
     replace q154:=eq_true q154
     refine start_ (n:=35) (S:=fun w' => w'.cell? (ad148.add ((x4_1).toNat * 4)) = some (.int .i64 ((rd_T48 l0 x4_1).f0)) ∧ w'.cell? ⟨(ad148.add ((x4_1).toNat * 4)).block,(ad148.add ((x4_1).toNat * 4)).off + 1,none⟩ = some (.int .i64 ((rd_T48 l0 x4_1).f1.f0)) ∧ w'.cell? ⟨(ad148.add ((x4_1).toNat * 4)).block,(ad148.add ((x4_1).toNat * 4)).off + 2,none⟩ = some (.int .i64 ((rd_T48 l0 x4_1).f1.f1)) ∧ w'.cell? ⟨(ad148.add ((x4_1).toNat * 4)).block,(ad148.add ((x4_1).toNat * 4)).off + 3,none⟩ = some (.int .i64 ((rd_T48 l0 x4_1).f1.f2)) ∧ w'.cell? (ad148.add ((x4_1).toNat * 4)) = some (.int .i64 ((rd_T48 l0 x4_1).f0)) ∧ w'.cell? ⟨(ad148.add ((x4_1).toNat * 4)).block,(ad148.add ((x4_1).toNat * 4)).off + 1,none⟩ = some (.int .i64 ((rd_T48 l0 x4_1).f1.f0)) ∧ w'.cell? ⟨(ad148.add ((x4_1).toNat * 4)).block,(ad148.add ((x4_1).toNat * 4)).off + 2,none⟩ = some (.int .i64 ((rd_T48 l0 x4_1).f1.f1)) ∧ w'.cell? ⟨(ad148.add ((x4_1).toNat * 4)).block,(ad148.add ((x4_1).toNat * 4)).off + 3,none⟩ = some (.int .i64 ((rd_T48 l0 x4_1).f1.f2)) ∧ w'.cell? (ad148.add ((x4_1).toNat * 4)) = some (.int .i64 ((rd_T48 l0 x4_1).f0)) ∧ w'.cell? ⟨(ad148.add ((x4_1).toNat * 4)).block,(ad148.add ((x4_1).toNat * 4)).off + 1,none⟩ = some (.int .i64 ((rd_T48 l0 x4_1).f1.f0)) ∧ w'.cell? ⟨(ad148.add ((x4_1).toNat * 4)).block,(ad148.add ((x4_1).toNat * 4)).off + 2,none⟩ = some (.int .i64 ((rd_T48 l0 x4_1).f1.f1)) ∧ w'.cell? ⟨(ad148.add ((x4_1).toNat * 4)).block,(ad148.add ((x4_1).toNat * 4)).off + 3,none⟩ = some (.int .i64 ((rd_T48 l0 x4_1).f1.f2)) ∧ w'.cell? (ad148.add ((x4_1).toNat * 4)) = some (.int .i64 ((rd_T48 l0 x4_1).f0)) ∧ w'.cell? ⟨(ad148.add ((x4_1).toNat * 4)).block,(ad148.add ((x4_1).toNat * 4)).off + 1,none⟩ = some (.int .i64 ((rd_T48 l0 x4_1).f1.f0)) ∧ w'.cell? ⟨(ad148.add ((x4_1).toNat * 4)).block,(ad148.add ((x4_1).toNat * 4)).off + 2,none⟩ = some (.int .i64 ((rd_T48 l0 x4_1).f1.f1)) ∧ w'.cell? ⟨(ad148.add ((x4_1).toNat * 4)).block,(ad148.add ((x4_1).toNat * 4)).off + 3,none⟩ = some (.int .i64 ((rd_T48 l0 x4_1).f1.f2))) (ds:=[]) #[bF,bF,bF,bF,bF,bF,bF,bF,bF,bF,bF,bF,bF,bF,bF,bF,bF,bF,bF,bF,bF,bF,bF,bF,bF,bF,bF,bF,bF,bF,bF,bF,bF,bF,bF] (by kernel_rfl) rfl rfl ⟨((HB.out.cell (bL w hw148_0)).trans hw148_0),((HB.out.cell (bL w hw148_1)).trans hw148_1),((HB.out.cell (bL w hw148_2)).trans hw148_2),((HB.out.cell (bL w hw148_3)).trans hw148_3),((HB.out.cell (bL w hw150_0)).trans hw150_0),((HB.out.cell (bL w hw150_1)).trans hw150_1),((HB.out.cell (bL w hw150_2)).trans hw150_2),((HB.out.cell (bL w hw150_3)).trans hw150_3),((HB.out.cell (bL w hw152_0)).trans hw152_0),((HB.out.cell (bL w hw152_1)).trans hw152_1),((HB.out.cell (bL w hw152_2)).trans hw152_2),((HB.out.cell (bL w hw152_3)).trans hw152_3),((HB.out.cell (bL w hw154_0)).trans hw154_0),((HB.out.cell (bL w hw154_1)).trans hw154_1),((HB.out.cell (bL w hw154_2)).trans hw154_2),((HB.out.cell (bL w hw154_3)).trans hw154_3)⟩ (fun hHeld => ?_);refine with_tabW spec_ChainText.tab7 spec_ChainText.bits7 (fun HT_ HW_ => ?_)
     generalize wr.drew = w17 at HB hx148_0 hx148_1 hx148_2 hx148_3 hx150_0 hx150_1 hx150_2 hx150_3 hx152_0 hx152_1 hx152_2 hx152_3 hx154_0 hx154_1 hx154_2 hx154_3 hHeld ⊢
     refine pure_ (i:=0) (N:=some 15) (v:=?_) (a':=?_) #[bT,bF,bF,bF,bF,bF,bF,bF,bF,bF,bF,bF,bF,bF,bF,bF,bF,bF,bF,bF,bF,bF,bF,bF,bF,bF,bF,bF,bF,bF,bF,bF,bF,bF,bF] rfl rfl (any_of HT_.out (by kernel_rfl)) (fun _ _ _ h => h) (Or.inl ⟨by rfl,?_⟩) ?_ ?_
     rotate_left;(· intro w';go_simp;with_reducible rfl);rotate_left;(· simp only [Act.put,sI,sZ,sS,i64_w,i32_w];rfl)
     refine pure_ (i:=1) (N:=some 16) (v:=?_) (a':=?_) #[bT,bT,bF,bF,bF,bF,bF,bF,bF,bF,bF,bF,bF,bF,bF,bF,bF,bF,bF,bF,bF,bF,bF,bF,bF,bF,bF,bF,bF,bF,bF,bF,bF,bF,bF] rfl rfl (any_of HT_.out (by kernel_rfl)) (fun _ _ _ h => h) (Or.inl ⟨by rfl,?_⟩) ?_ ?_
     rotate_left;(· intro w';go_simp;with_reducible rfl);rotate_left;(· simp only [Act.put,sI,sZ,sS,i64_w,i32_w];rfl)
     refine pure_ (i:=2) (N:=some 17) (v:=?_) (a':=?_) #[bT,bT,bT,bF,bF,bF,bF,bF,bF,bF,bF,bF,bF,bF,bF,bF,bF,bF,bF,bF,bF,bF,bF,bF,bF,bF,bF,bF,bF,bF,bF,bF,bF,bF,bF] rfl rfl (any_of HT_.out (by kernel_rfl)) (fun _ _ _ h => h) (Or.inl ⟨by rfl,?_⟩) ?_ ?_
     rotate_left;(· intro w';go_simp;with_reducible rfl);rotate_left;(· simp only [Act.put,sI,sZ,sS,i64_w,i32_w];rfl)
     refine pure_ (i:=3) (N:=some 18) (v:=?_) (a':=?_) #[bT,bT,bT,bT,bF,bF,bF,bF,bF,bF,bF,bF,bF,bF,bF,bF,bF,bF,bF,bF,bF,bF,bF,bF,bF,bF,bF,bF,bF,bF,bF,bF,bF,bF,bF] rfl rfl (any_of HT_.out (by kernel_rfl)) (fun _ _ _ h => h) (Or.inl ⟨by rfl,?_⟩) ?_ ?_
     rotate_left;(· intro w';go_simp;with_reducible rfl);rotate_left;(· simp only [Act.put,sI,sZ,sS,i64_w,i32_w];rfl)
     refine pure_ (i:=4) (N:=some 19) (v:=?_) (a':=?_) #[bT,bT,bT,bT,bT,bF,bF,bF,bF,bF,bF,bF,bF,bF,bF,bF,bF,bF,bF,bF,bF,bF,bF,bF,bF,bF,bF,bF,bF,bF,bF,bF,bF,bF,bF] rfl rfl (any_of HT_.out (by kernel_rfl)) (fun _ _ _ h => h) (Or.inl ⟨by rfl,?_⟩) ?_ ?_
     rotate_left;(· intro w';go_simp;with_reducible rfl);rotate_left;(· simp only [Act.put,sI,sZ,sS,i64_w,i32_w];rfl)
     refine pure_ (i:=9) (N:=some 24) (v:=?_) (a':=?_) #[bT,bT,bT,bT,bT,bF,bF,bF,bF,bT,bF,bF,bF,bF,bF,bF,bF,bF,bF,bF,bF,bF,bF,bF,bF,bF,bF,bF,bF,bF,bF,bF,bF,bF,bF] rfl rfl (any_of HT_.out (by kernel_rfl)) (fun _ _ _ h => h) (Or.inl ⟨by rfl,?_⟩) ?_ ?_
     rotate_left;(· intro w';go_simp;with_reducible rfl);rotate_left;(· simp only [Act.put,sI,sZ,sS,i64_w,i32_w];rfl)
     refine pure_ (i:=10) (N:=some 25) (v:=?_) (a':=?_) #[bT,bT,bT,bT,bT,bF,bF,bF,bF,bT,bT,bF,bF,bF,bF,bF,bF,bF,bF,bF,bF,bF,bF,bF,bF,bF,bF,bF,bF,bF,bF,bF,bF,bF,bF] rfl rfl (any_of HT_.out (by kernel_rfl)) (fun _ _ _ h => h) (Or.inl ⟨by rfl,?_⟩) ?_ ?_
     rotate_left;(· intro w';go_simp;with_reducible rfl);rotate_left;(· simp only [Act.put,sI,sZ,sS,i64_w,i32_w];rfl)
     refine pure_ (i:=11) (N:=some 26) (v:=?_) (a':=?_) #[bT,bT,bT,bT,bT,bF,bF,bF,bF,bT,bT,bT,bF,bF,bF,bF,bF,bF,bF,bF,bF,bF,bF,bF,bF,bF,bF,bF,bF,bF,bF,bF,bF,bF,bF] rfl rfl (any_of HT_.out (by kernel_rfl)) (fun _ _ _ h => h) (Or.inl ⟨by rfl,?_⟩) ?_ ?_
     rotate_left;(· intro w';go_simp;with_reducible rfl);rotate_left;(· simp only [Act.put,sI,sZ,sS,i64_w,i32_w];rfl)
     refine pure_ (i:=12) (N:=some 27) (v:=?_) (a':=?_) #[bT,bT,bT,bT,bT,bF,bF,bF,bF,bT,bT,bT,bT,bF,bF,bF,bF,bF,bF,bF,bF,bF,bF,bF,bF,bF,bF,bF,bF,bF,bF,bF,bF,bF,bF] rfl rfl (any_of HT_.out (by kernel_rfl)) (fun _ _ _ h => h) (Or.inl ⟨by rfl,?_⟩) ?_ ?_
     rotate_left;(· intro w';go_simp;with_reducible rfl);rotate_left;(· simp only [Act.put,sI,sZ,sS,i64_w,i32_w];rfl)
     refine pure_ (i:=13) (N:=some 28) (v:=?_) (a':=?_) #[bT,bT,bT,bT,bT,bF,bF,bF,bF,bT,bT,bT,bT,bT,bF,bF,bF,bF,bF,bF,bF,bF,bF,bF,bF,bF,bF,bF,bF,bF,bF,bF,bF,bF,bF] rfl rfl (any_of HT_.out (by kernel_rfl)) (fun _ _ _ h => h) (Or.inl ⟨by rfl,?_⟩) ?_ ?_
     rotate_left;(· intro w';go_simp;with_reducible rfl);rotate_left;(· simp only [Act.put,sI,sZ,sS,i64_w,i32_w];rfl)
     refine pure_ (i:=17) (N:=some 32) (v:=?_) (a':=?_) #[bT,bT,bT,bT,bT,bF,bF,bF,bF,bT,bT,bT,bT,bT,bF,bF,bF,bT,bF,bF,bF,bF,bF,bF,bF,bF,bF,bF,bF,bF,bF,bF,bF,bF,bF] rfl rfl (any_of HT_.out (by kernel_rfl)) (fun _ _ _ h => h) (Or.inl ⟨by rfl,?_⟩) ?_ ?_
     rotate_left;(· intro w';go_simp;with_reducible rfl);rotate_left;(· simp only [Act.put,sI,sZ,sS,i64_w,i32_w];rfl)
     refine pure_ (i:=18) (N:=some 33) (v:=?_) (a':=?_) #[bT,bT,bT,bT,bT,bF,bF,bF,bF,bT,bT,bT,bT,bT,bF,bF,bF,bT,bT,bF,bF,bF,bF,bF,bF,bF,bF,bF,bF,bF,bF,bF,bF,bF,bF] rfl rfl (any_of HT_.out (by kernel_rfl)) (fun _ _ _ h => h) (Or.inl ⟨by rfl,?_⟩) ?_ ?_
     rotate_left;(· intro w';go_simp;with_reducible rfl);rotate_left;(· simp only [Act.put,sI,sZ,sS,i64_w,i32_w];rfl)
     refine pure_ (i:=19) (N:=some 34) (v:=?_) (a':=?_) #[bT,bT,bT,bT,bT,bF,bF,bF,bF,bT,bT,bT,bT,bT,bF,bF,bF,bT,bT,bT,bF,bF,bF,bF,bF,bF,bF,bF,bF,bF,bF,bF,bF,bF,bF] rfl rfl (any_of HT_.out (by kernel_rfl)) (fun _ _ _ h => h) (Or.inl ⟨by rfl,?_⟩) ?_ ?_
     rotate_left;(· intro w';go_simp;with_reducible rfl);rotate_left;(· simp only [Act.put,sI,sZ,sS,i64_w,i32_w];rfl)
     refine pure_ (i:=20) (N:=some 35) (v:=?_) (a':=?_) #[bT,bT,bT,bT,bT,bF,bF,bF,bF,bT,bT,bT,bT,bT,bF,bF,bF,bT,bT,bT,bT,bF,bF,bF,bF,bF,bF,bF,bF,bF,bF,bF,bF,bF,bF] rfl rfl (any_of HT_.out (by kernel_rfl)) (fun _ _ _ h => h) (Or.inl ⟨by rfl,?_⟩) ?_ ?_
     rotate_left;(· intro w';go_simp;with_reducible rfl);rotate_left;(· simp only [Act.put,sI,sZ,sS,i64_w,i32_w];rfl)
     refine pure_ (i:=21) (N:=some 36) (v:=?_) (a':=?_) #[bT,bT,bT,bT,bT,bF,bF,bF,bF,bT,bT,bT,bT,bT,bF,bF,bF,bT,bT,bT,bT,bT,bF,bF,bF,bF,bF,bF,bF,bF,bF,bF,bF,bF,bF] rfl rfl (any_of HT_.out (by kernel_rfl)) (fun _ _ _ h => h) (Or.inl ⟨by rfl,?_⟩) ?_ ?_
     rotate_left;(· intro w';go_simp;with_reducible rfl);rotate_left;(· simp only [Act.put,sI,sZ,sS,i64_w,i32_w];rfl)
     refine pure_ (i:=25) (N:=some 40) (v:=?_) (a':=?_) #[bT,bT,bT,bT,bT,bF,bF,bF,bF,bT,bT,bT,bT,bT,bF,bF,bF,bT,bT,bT,bT,bT,bF,bF,bF,bT,bF,bF,bF,bF,bF,bF,bF,bF,bF] rfl rfl (any_of HT_.out (by kernel_rfl)) (fun _ _ _ h => h) (Or.inl ⟨by rfl,?_⟩) ?_ ?_
     rotate_left;(· intro w';go_simp;with_reducible rfl);rotate_left;(· simp only [Act.put,sI,sZ,sS,i64_w,i32_w];rfl)
     refine pure_ (i:=26) (N:=some 41) (v:=?_) (a':=?_) #[bT,bT,bT,bT,bT,bF,bF,bF,bF,bT,bT,bT,bT,bT,bF,bF,bF,bT,bT,bT,bT,bT,bF,bF,bF,bT,bT,bF,bF,bF,bF,bF,bF,bF,bF] rfl rfl (any_of HT_.out (by kernel_rfl)) (fun _ _ _ h => h) (Or.inl ⟨by rfl,?_⟩) ?_ ?_
     rotate_left;(· intro w';go_simp;with_reducible rfl);rotate_left;(· simp only [Act.put,sI,sZ,sS,i64_w,i32_w];rfl)
     refine pure_ (i:=27) (N:=some 42) (v:=?_) (a':=?_) #[bT,bT,bT,bT,bT,bF,bF,bF,bF,bT,bT,bT,bT,bT,bF,bF,bF,bT,bT,bT,bT,bT,bF,bF,bF,bT,bT,bT,bF,bF,bF,bF,bF,bF,bF] rfl rfl (any_of HT_.out (by kernel_rfl)) (fun _ _ _ h => h) (Or.inl ⟨by rfl,?_⟩) ?_ ?_
     rotate_left;(· intro w';go_simp;with_reducible rfl);rotate_left;(· simp only [Act.put,sI,sZ,sS,i64_w,i32_w];rfl)
     refine pure_ (i:=28) (N:=some 43) (v:=?_) (a':=?_) #[bT,bT,bT,bT,bT,bF,bF,bF,bF,bT,bT,bT,bT,bT,bF,bF,bF,bT,bT,bT,bT,bT,bF,bF,bF,bT,bT,bT,bT,bF,bF,bF,bF,bF,bF] rfl rfl (any_of HT_.out (by kernel_rfl)) (fun _ _ _ h => h) (Or.inl ⟨by rfl,?_⟩) ?_ ?_
     rotate_left;(· intro w';go_simp;with_reducible rfl);rotate_left;(· simp only [Act.put,sI,sZ,sS,i64_w,i32_w];rfl)
     refine pure_ (i:=29) (N:=some 44) (v:=?_) (a':=?_) #[bT,bT,bT,bT,bT,bF,bF,bF,bF,bT,bT,bT,bT,bT,bF,bF,bF,bT,bT,bT,bT,bT,bF,bF,bF,bT,bT,bT,bT,bT,bF,bF,bF,bF,bF] rfl rfl (any_of HT_.out (by kernel_rfl)) (fun _ _ _ h => h) (Or.inl ⟨by rfl,?_⟩) ?_ ?_
     rotate_left;(· intro w';go_simp;with_reducible rfl);rotate_left;(· simp only [Act.put,sI,sZ,sS,i64_w,i32_w];rfl)
     refine take_ (i:=5) (N:=some 20) (v:=?_) (a':=?_) #[bT,bT,bT,bT,bT,bT,bF,bF,bF,bT,bT,bT,bT,bT,bF,bF,bF,bT,bT,bT,bT,bT,bF,bF,bF,bT,bT,bT,bT,bT,bF,bF,bF,bF,bF] rfl rfl (take_ofW HT_.out HW_.out (by kernel_rfl)) (fun _ _ _ h => h) (Or.inl ⟨by rfl,?_⟩) hHeld ?_ ?_
     rotate_left
     ·rintro w' ⟨s0,s1,s2,s3,s4,s5,s6,s7,s8,s9,s10,s11,s12,s13,s14,s15⟩
      (try simp only [Int.toNat_natCast] at s0 s1 s2 s3 s4 s5 s6 s7 s8 s9 s10 s11 s12 s13 s14 s15)
      go_simp
      with_reducible rfl
     rotate_left
     ·simp only [Act.put,sI,sZ,sS,i64_w,i32_w]
      rfl
     refine take_ (i:=14) (N:=some 29) (v:=?_) (a':=?_) #[bT,bT,bT,bT,bT,bT,bF,bF,bF,bT,bT,bT,bT,bT,bT,bF,bF,bT,bT,bT,bT,bT,bF,bF,bF,bT,bT,bT,bT,bT,bF,bF,bF,bF,bF] rfl rfl (take_ofW HT_.out HW_.out (by kernel_rfl)) (fun _ _ _ h => h) (Or.inl ⟨by rfl,?_⟩) hHeld ?_ ?_
     rotate_left
     ·rintro w' ⟨s0,s1,s2,s3,s4,s5,s6,s7,s8,s9,s10,s11,s12,s13,s14,s15⟩
      (try simp only [Int.toNat_natCast] at s0 s1 s2 s3 s4 s5 s6 s7 s8 s9 s10 s11 s12 s13 s14 s15)
      go_simp
      with_reducible rfl
     rotate_left
     ·simp only [Act.put,sI,sZ,sS,i64_w,i32_w]
      rfl
     refine take_ (i:=22) (N:=some 37) (v:=?_) (a':=?_) #[bT,bT,bT,bT,bT,bT,bF,bF,bF,bT,bT,bT,bT,bT,bT,bF,bF,bT,bT,bT,bT,bT,bT,bF,bF,bT,bT,bT,bT,bT,bF,bF,bF,bF,bF] rfl rfl (take_ofW HT_.out HW_.out (by kernel_rfl)) (fun _ _ _ h => h) (Or.inl ⟨by rfl,?_⟩) hHeld ?_ ?_
     rotate_left
     ·rintro w' ⟨s0,s1,s2,s3,s4,s5,s6,s7,s8,s9,s10,s11,s12,s13,s14,s15⟩
      (try simp only [Int.toNat_natCast] at s0 s1 s2 s3 s4 s5 s6 s7 s8 s9 s10 s11 s12 s13 s14 s15)
      go_simp
      with_reducible rfl
     rotate_left
     ·simp only [Act.put,sI,sZ,sS,i64_w,i32_w]
      rfl
     refine take_ (i:=30) (N:=some 45) (v:=?_) (a':=?_) #[bT,bT,bT,bT,bT,bT,bF,bF,bF,bT,bT,bT,bT,bT,bT,bF,bF,bT,bT,bT,bT,bT,bT,bF,bF,bT,bT,bT,bT,bT,bT,bF,bF,bF,bF] rfl rfl (take_ofW HT_.out HW_.out (by kernel_rfl)) (fun _ _ _ h => h) (Or.inl ⟨by rfl,?_⟩) hHeld ?_ ?_
     rotate_left
     ·rintro w' ⟨s0,s1,s2,s3,s4,s5,s6,s7,s8,s9,s10,s11,s12,s13,s14,s15⟩
      (try simp only [Int.toNat_natCast] at s0 s1 s2 s3 s4 s5 s6 s7 s8 s9 s10 s11 s12 s13 s14 s15)
      go_simp
      with_reducible rfl
     rotate_left
     ·simp only [Act.put,sI,sZ,sS,i64_w,i32_w]
      rfl
     refine one_ (i:=6) (N:=some 21) #[bT,bT,bT,bT,bT,bT,bT,bF,bF,bT,bT,bT,bT,bT,bT,bF,bF,bT,bT,bT,bT,bT,bT,bF,bF,bT,bT,bT,bT,bT,bT,bF,bF,bF,bF] rfl rfl (one_of HT_.out (by kernel_rfl)) (by decide) (fun K hK => ?_)
     refine goes_ Tryd.func29 (by kernel_rfl) rfl #[.int .i64 ((rd_T48 l0 x4_1).f0)] (by rfl) rfl rfl (by (try simp only [List.map_toArray,List.map_cons,List.map_nil]);first|done|rfl|(simp only [List.length_drop,List.length_take];rfl)) ?_
     with_reducible refine (spec_l6Dec.calls k1 ((rd_T48 l0 x4_1).f0) t149 _ A7.out).mono ?_
     rintro e w18 ⟨rfl,hb⟩
     refine ⟨_,rfl,?_⟩
     have n0_:=aM (below_step (by repeat (first|(with_reducible first|exact HB.out|apply bA|apply bN|apply bD)|exact HB.out)) hb)
     clear HB
     have HB:=n0_
     clear n0_
     (try clear hb)
     (try clear hb2)
     (try clear hk)
     (try clear hi)
     refine hK.out _ _ ⟨((HB.out.cell (bL w hw148_0)).trans hw148_0),((HB.out.cell (bL w hw148_1)).trans hw148_1),((HB.out.cell (bL w hw148_2)).trans hw148_2),((HB.out.cell (bL w hw148_3)).trans hw148_3),((HB.out.cell (bL w hw150_0)).trans hw150_0),((HB.out.cell (bL w hw150_1)).trans hw150_1),((HB.out.cell (bL w hw150_2)).trans hw150_2),((HB.out.cell (bL w hw150_3)).trans hw150_3),((HB.out.cell (bL w hw152_0)).trans hw152_0),((HB.out.cell (bL w hw152_1)).trans hw152_1),((HB.out.cell (bL w hw152_2)).trans hw152_2),((HB.out.cell (bL w hw152_3)).trans hw152_3),((HB.out.cell (bL w hw154_0)).trans hw154_0),((HB.out.cell (bL w hw154_1)).trans hw154_1),((HB.out.cell (bL w hw154_2)).trans hw154_2),((HB.out.cell (bL w hw154_3)).trans hw154_3)⟩ (fun hHeld => ?_)
     clear hK K
     refine norm_ (a':=?_) ?_ ?_
     rotate_left
     ·show Act.put _ (some 21) _ = _
      simp only [Act.put,sI,sZ,sS,i64_w,i32_w]
      rfl
     refine pure_ (i:=7) (N:=some 22) (v:=?_) (a':=?_) #[bT,bT,bT,bT,bT,bT,bT,bT,bF,bT,bT,bT,bT,bT,bT,bF,bF,bT,bT,bT,bT,bT,bT,bF,bF,bT,bT,bT,bT,bT,bT,bF,bF,bF,bF] rfl rfl (any_of HT_.out (by kernel_rfl)) (fun _ _ _ h => h) (Or.inl ⟨by rfl,?_⟩) ?_ ?_
     rotate_left;(· intro w';go_simp;with_reducible rfl);rotate_left;(· simp only [Act.put,sI,sZ,sS,i64_w,i32_w];rfl)
     refine pure_ (i:=8) (N:=some 23) (v:=?_) (a':=?_) #[bT,bT,bT,bT,bT,bT,bT,bT,bT,bT,bT,bT,bT,bT,bT,bF,bF,bT,bT,bT,bT,bT,bT,bF,bF,bT,bT,bT,bT,bT,bT,bF,bF,bF,bF] rfl rfl (any_of HT_.out (by kernel_rfl)) (fun _ _ _ h => h) (Or.inl ⟨by rfl,?_⟩) ?_ ?_
     rotate_left;(· intro w';go_simp;with_reducible rfl);rotate_left;(· simp only [Act.put,sI,sZ,sS,i64_w,i32_w];rfl)
     refine one_ (i:=15) (N:=some 30) #[bT,bT,bT,bT,bT,bT,bT,bT,bT,bT,bT,bT,bT,bT,bT,bT,bF,bT,bT,bT,bT,bT,bT,bF,bF,bT,bT,bT,bT,bT,bT,bF,bF,bF,bF] rfl rfl (one_of HT_.out (by kernel_rfl)) (by decide) (fun K hK => ?_)
     refine goes_ Tryd.func29 (by kernel_rfl) rfl #[.int .i64 ((rd_T48 l0 x4_1).f1.f0)] (by rfl) rfl rfl (by (try simp only [List.map_toArray,List.map_cons,List.map_nil]);first|done|rfl|(simp only [List.length_drop,List.length_take];rfl)) ?_
     with_reducible refine (spec_l6Dec.calls k1 ((rd_T48 l0 x4_1).f1.f0) t151 _ A10.out).mono ?_
     rintro e w19 ⟨rfl,hb⟩
     refine ⟨_,rfl,?_⟩
     have n0_:=aM (below_step (by repeat (first|(with_reducible first|exact HB.out|apply bA|apply bN|apply bD)|exact HB.out)) hb)
     clear HB
     have HB:=n0_
     clear n0_
     (try clear hb)
     (try clear hb2)
     (try clear hk)
     (try clear hi)
     refine hK.out _ _ ⟨((HB.out.cell (bL w hw148_0)).trans hw148_0),((HB.out.cell (bL w hw148_1)).trans hw148_1),((HB.out.cell (bL w hw148_2)).trans hw148_2),((HB.out.cell (bL w hw148_3)).trans hw148_3),((HB.out.cell (bL w hw150_0)).trans hw150_0),((HB.out.cell (bL w hw150_1)).trans hw150_1),((HB.out.cell (bL w hw150_2)).trans hw150_2),((HB.out.cell (bL w hw150_3)).trans hw150_3),((HB.out.cell (bL w hw152_0)).trans hw152_0),((HB.out.cell (bL w hw152_1)).trans hw152_1),((HB.out.cell (bL w hw152_2)).trans hw152_2),((HB.out.cell (bL w hw152_3)).trans hw152_3),((HB.out.cell (bL w hw154_0)).trans hw154_0),((HB.out.cell (bL w hw154_1)).trans hw154_1),((HB.out.cell (bL w hw154_2)).trans hw154_2),((HB.out.cell (bL w hw154_3)).trans hw154_3)⟩ (fun hHeld => ?_)
     clear hK K
     refine norm_ (a':=?_) ?_ ?_
     rotate_left
     ·show Act.put _ (some 30) _ = _
      simp only [Act.put,sI,sZ,sS,i64_w,i32_w]
      rfl
     refine pure_ (i:=16) (N:=some 31) (v:=?_) (a':=?_) #[bT,bT,bT,bT,bT,bT,bT,bT,bT,bT,bT,bT,bT,bT,bT,bT,bT,bT,bT,bT,bT,bT,bT,bF,bF,bT,bT,bT,bT,bT,bT,bF,bF,bF,bF] rfl rfl (any_of HT_.out (by kernel_rfl)) (fun _ _ _ h => h) (Or.inl ⟨by rfl,?_⟩) ?_ ?_
     rotate_left;(· intro w';go_simp;with_reducible rfl);rotate_left;(· simp only [Act.put,sI,sZ,sS,i64_w,i32_w];rfl)
     refine one_ (i:=23) (N:=some 38) #[bT,bT,bT,bT,bT,bT,bT,bT,bT,bT,bT,bT,bT,bT,bT,bT,bT,bT,bT,bT,bT,bT,bT,bT,bF,bT,bT,bT,bT,bT,bT,bF,bF,bF,bF] rfl rfl (one_of HT_.out (by kernel_rfl)) (by decide) (fun K hK => ?_)
     refine goes_ Tryd.func29 (by kernel_rfl) rfl #[.int .i64 ((rd_T48 l0 x4_1).f1.f1)] (by rfl) rfl rfl (by (try simp only [List.map_toArray,List.map_cons,List.map_nil]);first|done|rfl|(simp only [List.length_drop,List.length_take];rfl)) ?_
     with_reducible refine (spec_l6Dec.calls k1 ((rd_T48 l0 x4_1).f1.f1) t153 _ A12.out).mono ?_
     rintro e w20 ⟨rfl,hb⟩
     refine ⟨_,rfl,?_⟩
     have n0_:=aM (below_step (by repeat (first|(with_reducible first|exact HB.out|apply bA|apply bN|apply bD)|exact HB.out)) hb)
     clear HB
     have HB:=n0_
     clear n0_
     (try clear hb)
     (try clear hb2)
     (try clear hk)
     (try clear hi)
     refine hK.out _ _ ⟨((HB.out.cell (bL w hw148_0)).trans hw148_0),((HB.out.cell (bL w hw148_1)).trans hw148_1),((HB.out.cell (bL w hw148_2)).trans hw148_2),((HB.out.cell (bL w hw148_3)).trans hw148_3),((HB.out.cell (bL w hw150_0)).trans hw150_0),((HB.out.cell (bL w hw150_1)).trans hw150_1),((HB.out.cell (bL w hw150_2)).trans hw150_2),((HB.out.cell (bL w hw150_3)).trans hw150_3),((HB.out.cell (bL w hw152_0)).trans hw152_0),((HB.out.cell (bL w hw152_1)).trans hw152_1),((HB.out.cell (bL w hw152_2)).trans hw152_2),((HB.out.cell (bL w hw152_3)).trans hw152_3),((HB.out.cell (bL w hw154_0)).trans hw154_0),((HB.out.cell (bL w hw154_1)).trans hw154_1),((HB.out.cell (bL w hw154_2)).trans hw154_2),((HB.out.cell (bL w hw154_3)).trans hw154_3)⟩ (fun hHeld => ?_)
     clear hK K
     refine norm_ (a':=?_) ?_ ?_
     rotate_left
     ·show Act.put _ (some 38) _ = _
      simp only [Act.put,sI,sZ,sS,i64_w,i32_w]
      rfl
     refine pure_ (i:=24) (N:=some 39) (v:=?_) (a':=?_) #[bT,bT,bT,bT,bT,bT,bT,bT,bT,bT,bT,bT,bT,bT,bT,bT,bT,bT,bT,bT,bT,bT,bT,bT,bT,bT,bT,bT,bT,bT,bT,bF,bF,bF,bF] rfl rfl (any_of HT_.out (by kernel_rfl)) (fun _ _ _ h => h) (Or.inl ⟨by rfl,?_⟩) ?_ ?_
     rotate_left;(· intro w';go_simp;with_reducible rfl);rotate_left;(· simp only [Act.put,sI,sZ,sS,i64_w,i32_w];rfl)
     refine one_ (i:=31) (N:=some 46) #[bT,bT,bT,bT,bT,bT,bT,bT,bT,bT,bT,bT,bT,bT,bT,bT,bT,bT,bT,bT,bT,bT,bT,bT,bT,bT,bT,bT,bT,bT,bT,bT,bF,bF,bF] rfl rfl (one_of HT_.out (by kernel_rfl)) (by decide) (fun K hK => ?_)
     refine goes_ Tryd.func29 (by kernel_rfl) rfl #[.int .i64 ((rd_T48 l0 x4_1).f1.f2)] (by rfl) rfl rfl (by (try simp only [List.map_toArray,List.map_cons,List.map_nil]);first|done|rfl|(simp only [List.length_drop,List.length_take];rfl)) ?_
     with_reducible refine (spec_l6Dec.calls k1 ((rd_T48 l0 x4_1).f1.f2) t155 _ A14.out).mono ?_
     rintro e w21 ⟨rfl,hb⟩
     refine ⟨_,rfl,?_⟩
     have n0_:=aM (below_step (by repeat (first|(with_reducible first|exact HB.out|apply bA|apply bN|apply bD)|exact HB.out)) hb)
     clear HB
     have HB:=n0_
     clear n0_
     (try clear hb)
     (try clear hb2)
     (try clear hk)
     (try clear hi)
     refine hK.out _ _ ⟨((HB.out.cell (bL w hw148_0)).trans hw148_0),((HB.out.cell (bL w hw148_1)).trans hw148_1),((HB.out.cell (bL w hw148_2)).trans hw148_2),((HB.out.cell (bL w hw148_3)).trans hw148_3),((HB.out.cell (bL w hw150_0)).trans hw150_0),((HB.out.cell (bL w hw150_1)).trans hw150_1),((HB.out.cell (bL w hw150_2)).trans hw150_2),((HB.out.cell (bL w hw150_3)).trans hw150_3),((HB.out.cell (bL w hw152_0)).trans hw152_0),((HB.out.cell (bL w hw152_1)).trans hw152_1),((HB.out.cell (bL w hw152_2)).trans hw152_2),((HB.out.cell (bL w hw152_3)).trans hw152_3),((HB.out.cell (bL w hw154_0)).trans hw154_0),((HB.out.cell (bL w hw154_1)).trans hw154_1),((HB.out.cell (bL w hw154_2)).trans hw154_2),((HB.out.cell (bL w hw154_3)).trans hw154_3)⟩ (fun hHeld => ?_)
     clear hK K
     refine norm_ (a':=?_) ?_ ?_
     rotate_left
     ·show Act.put _ (some 46) _ = _
      simp only [Act.put,sI,sZ,sS,i64_w,i32_w]
      rfl
     refine pure_ (i:=32) (N:=some 47) (v:=?_) (a':=?_) #[bT,bT,bT,bT,bT,bT,bT,bT,bT,bT,bT,bT,bT,bT,bT,bT,bT,bT,bT,bT,bT,bT,bT,bT,bT,bT,bT,bT,bT,bT,bT,bT,bT,bF,bF] rfl rfl (any_of HT_.out (by kernel_rfl)) (fun _ _ _ h => h) (Or.inl ⟨by rfl,?_⟩) ?_ ?_
     rotate_left;(· intro w';go_simp;with_reducible rfl);rotate_left;(· simp only [Act.put,sI,sZ,sS,i64_w,i32_w];rfl)
     refine pure_ (i:=33) (N:=some 48) (v:=?_) (a':=?_) #[bT,bT,bT,bT,bT,bT,bT,bT,bT,bT,bT,bT,bT,bT,bT,bT,bT,bT,bT,bT,bT,bT,bT,bT,bT,bT,bT,bT,bT,bT,bT,bT,bT,bT,bF] rfl rfl (any_of HT_.out (by kernel_rfl)) (fun _ _ _ h => h) (Or.inl ⟨by rfl,?_⟩) ?_ ?_
     rotate_left;(· intro w';go_simp;with_reducible rfl);rotate_left;(· simp only [Act.put,sI,sZ,sS,i64_w,i32_w];rfl)
     refine pure_ (i:=34) (N:=some 3) (v:=?_) (a':=?_) #[bT,bT,bT,bT,bT,bT,bT,bT,bT,bT,bT,bT,bT,bT,bT,bT,bT,bT,bT,bT,bT,bT,bT,bT,bT,bT,bT,bT,bT,bT,bT,bT,bT,bT,bT] rfl rfl (any_of HT_.out (by kernel_rfl)) (fun _ _ _ h => h) (Or.inl ⟨by rfl,?_⟩) ?_ ?_
     rotate_left;(· intro w';go_simp;with_reducible rfl);rotate_left;(· simp only [Act.put,sI,sZ,sS,i64_w,i32_w];rfl)
     refine done_ (done_of HT_.out (by kernel_rfl)) ?_
     try go_wp2
     go_roundg k1
     case measure => have:=HK1.out;omega
     case rel => exact ⟨((((((x3_1 ++ t149) ++ (⟨#[58]⟩ : ByteArray)) ++ t151) ++ t153) ++ t155) ++ (⟨#[10]⟩ : ByteArray)),(wrap64 (x4_1 + 1)),(by first|rfl|(simp;done)|(simp [*];done)),(by first|rfl|(simp;done)|(simp [*];done)),H',⟨by have:=HK1.out;omega⟩,⟨by repeat (first|(with_reducible first|exact HB.out|apply bA|apply bN|apply bD)|exact HB.out)⟩⟩
    ·rw [if_neg c5] at H
     have c5b0 : decide (x4_1 < (l0.length : Int)) = false:=decide_eq_false c5
     clear c5
     obtain rfl:=Option.some.inj H
     go_wp2
     go_ret
     exact ⟨by first|rfl|(simp only [i64_w,i32_w];done)|(simp only [i64_w,i32_w];rfl)|(simp [errW_none,errW_some] <;> rfl)|(simp [*,errW_none,errW_some] <;> rfl),by repeat (first|(with_reducible first|exact HB.out|apply bA|apply bN|apply bD)|exact HB.out)⟩
 ·replace c3:=Bool.eq_false_iff.mpr c3
  subst c3
  have H1 : (some (⟨#[]⟩ : ByteArray)) = some r:=by rw [if_neg (show ¬ (false = true) by decide)] at H;exact H
  clear H
  have H:=H1
  clear H1
  obtain rfl:=Option.some.inj H
  go_enter Tryd.func11,Tryd.ntmps11
  go_wp2_with (first|((with_reducible refine gate_callee (f:=22) rfl ?_);refine goesL_ (some 6) rfl rfl Tryd.func22 (by kernel_rfl) rfl #[.slice A0 l0.length c0] rfl (by (try simp only [List.map_toArray,List.map_cons,List.map_nil]);first|done|rfl|(simp only [List.length_drop,List.length_take];rfl)) ?_;(with_reducible refine (spec_ChainOk.calls k _ _ l0 false _ ?side1 ?side2 A2.out).mono ?_);(case side1 => repeat (first|exact HR0.out|(with_reducible refine Kd.C_alloc ?_ _)|(with_reducible refine Kd.C_drewN ?_ _)|(with_reducible refine Kd.C_drew ?_)));(case side2 => exact HC0.out);rintro e w22 ⟨rfl,hb⟩;refine ⟨_,rfl,?_⟩;have n0_:=aM (below_step (by repeat (first|(with_reducible first|exact HB.out|apply bA|apply bN|apply bD)|exact HB.out)) hb);clear HB;have HB:=n0_;clear n0_;(try clear hb);(try clear hb2);(try clear hk);(try clear hi)))
  go_ret
  exact ⟨by first|rfl|(simp only [i64_w,i32_w];done)|(simp only [i64_w,i32_w];rfl)|(simp [errW_none,errW_some] <;> rfl)|(simp [*,errW_none,errW_some] <;> rfl),by repeat (first|(with_reducible first|exact HB.out|apply bA|apply bN|apply bD)|exact HB.out)⟩

end Go.Proofs.YthjpkfcejdddkaaDoor.P
