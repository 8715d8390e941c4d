/- The printed functions: what each Go function computes, as a Lean function, and that the Go code comes to just that. Conditions: none beyond each contract's own. -/
import Derived.Test.YtknmmkgaijndfaaPx0
import Derived.Test.YtknmmkgaijndfaaPx2
import Derived.Test.YtknmmkgaijndfaaPx4
import Derived.Test.YtknmmkgaijndfaaPx5
namespace Go.Proofs.Ytknmmkgaijndfaa.P
open Go.RowKit Go.Proofs.YtknmmkgaijndfaaW.PrintWords Go.Proofs.YtknmmkgaijndfaaW.PrintLast Go.Proofs.YtknmmkgaijndfaaW.PrintMore
attribute [local go_sem] max2_int min2_int max_two min_two max_three min_three max_four min_four   -- for this text's walks alone
set_option linter.unusedVariables false
set_option linter.unusedSimpArgs false

/-! ### spec_l3Many: function 50 -/
def spec_l3Many.l0 : Nat → List (S48) → List (S58) → Int → Int → Option (Int)
 | 0,_,_,_,_ => none
 | k + 1,x0,x1,x5,x6 => if x6 < (x0.length : Int) then (if 0 ≤ x6 then ((spec_l3Same.f k ((rd_T48 x0 x6).f1) x1).bind fun t139 => (if t139 = true then (spec_l3Many.l0 k x0 x1 (wrap64 (x5 + 1)) (wrap64 (x6 + 1))) else (spec_l3Many.l0 k x0 x1 x5 (wrap64 (x6 + 1))))) else (none)) else (some x5)
def spec_l3Many.f (k : Nat) (l0 : List (S48)) (l1 : List (S58)) : Option (Int):=spec_l3Many.l0 k l0 l1 0 0
theorem spec_l3Many.mono_l : ∀ k,(∀ y0 y1 y2 y3,LeO (spec_l3Many.l0 k y0 y1 y2 y3) (spec_l3Many.l0 (k + 1) y0 y1 y2 y3))
 | 0 => fun _ _ _ _ r h => by simp [spec_l3Many.l0] at h
 | k + 1 => by
  have ih0:=spec_l3Many.mono_l k
  ·intro y0 y1 y2 y3
   unfold spec_l3Many.l0
   repeat' first
   | exact LeO.refl _
   | exact ih0 _ _ _ _
   | exact spec_l3Same.mono _ _ _
   | exact LeO.none _
   | refine LeO.ite ?_ ?_
   | refine LeO.bind ?_ (fun _ => ?_)
theorem spec_l3Many.mono : ∀ a0 a1 k,LeO (spec_l3Many.f k a0 a1) (spec_l3Many.f (k + 1) a0 a1):=by
 intro a0 a1 k
 have ih0:=spec_l3Many.mono_l k
 unfold spec_l3Many.f
 repeat' first
   | exact LeO.refl _
   | exact ih0 _ _ _ _
   | exact spec_l3Same.mono _ _ _
   | exact LeO.none _
   | refine LeO.ite ?_ ?_
   | refine LeO.bind ?_ (fun _ => ?_)
set_option maxHeartbeats 8000000 in
set_option maxRecDepth 100000 in
theorem spec_l3Many.calls (k : Nat) (A0 : Option Addr) (c0 : Nat) (l0 : List (S48)) (A1 : Option Addr) (c1 : Nat) (l1 : List (S58)) (r : Int) (w : World) (hr0 : Kd.C k48 w A0 l0.length l0) (hc0 : l0.length ≤ c0) (hr1 : Kd.C k58 w A1 l1.length l1) (hc1 : l1.length ≤ c1) (h : spec_l3Many.f k l0 l1 = some r) :
  Calls Try.prog 50 #[.slice A0 l0.length c0,.slice A1 l1.length c1] w fun e w' => e = .returned (.int .i64 r) ∧ Drawn0 w w':=by
 have HR0:=aM hr0
 have HC0:=aM hc0
 clear hr0 hc0
 have HR1:=aM hr1
 have HC1:=aM hc1
 clear hr1 hc1
 have H : (spec_l3Many.l0 k l0 l1 0 0) = some r:=h
 clear h
 have H':=aM H
 clear H
 go_enter Try.func50,Try.ntmps50
 go_wp2
 go_loopg [5,6] k (fun kq v5 v6 w' => ∃ (x5_1 : Int) (x6_1 : Int),v5 = .int .i64 x5_1 ∧ v6 = .int .i64 x6_1 ∧ Aside0 (spec_l3Many.l0 kq l0 l1 x5_1 x6_1 = some r) ∧ Aside0 (kq ≤ k) ∧ Drawn0 w w')
 case atStart => exact ⟨(0),(0),(by first|rfl|(simp;done)|(simp [*];done)),(by first|rfl|(simp;done)|(simp [*];done)),H',⟨Nat.le_refl _⟩,by repeat (first|exact Drawn0.refl _|apply Drawn0.step)⟩
 case round =>
  clear H'
  try clear c1
  try clear p2
  obtain ⟨x5_1,x6_1,rfl,rfl,HA,HK1,⟨m1,rfl⟩⟩:=hrel
  cases gk with
  | zero => exact absurd HA.out (by simp [spec_l3Many.l0])
  | succ k1 =>
   have H:=HA.out
   clear HA
   simp only [spec_l3Many.l0] at H
   by_cases c3 : x6_1 < (l0.length : Int)
   ·rw [if_pos c3] at H
    have c3b0 : decide (x6_1 < (l0.length : Int)) = true:=decide_eq_true c3
    clear c3
    by_cases c4 : 0 ≤ x6_1
    case neg => rw [if_neg c4] at H;exact absurd H (by simp)
    rw [if_pos c4] at H
    have c4b0 : decide (0 ≤ x6_1) = true:=decide_eq_true c4
    clear c4
    replace H:=Option.bind_eq_some_iff.mp H
    obtain ⟨t139,A50,H⟩:=H
    replace H : (if t139 = true then (spec_l3Many.l0 k1 l0 l1 (wrap64 (x5_1 + 1)) (wrap64 (x6_1 + 1))) else (spec_l3Many.l0 k1 l0 l1 x5_1 (wrap64 (x6_1 + 1)))) = some r:=H
    have A5:=aM A50
    clear A50
    by_cases c6 : t139 = true
    ·subst c6
     have H1 : (spec_l3Many.l0 k1 l0 l1 (wrap64 (x5_1 + 1)) (wrap64 (x6_1 + 1))) = some r:=by rw [if_pos rfl] at H;exact H
     clear H
     have H:=H1
     clear H1
     have H':=aM H
     clear H
     have p138 : 0 ≤ (x6_1 : Int):=of_decide_eq_true (by first|(with_reducible assumption)|assumption)
     have q138 : x6_1 < (l0.length : Int):=of_decide_eq_true (by first|(with_reducible assumption)|assumption)
     obtain ⟨ad138,A138_1,c138_1,e138,hx138_0,hx138_1,hl138_1,hi138_1⟩:=at_T48 HR0.out x6_1 p138 q138
     cases e138
     have HR138_1:=aM hi138_1
     have HC138_1:=aM hl138_1
     clear hi138_1 hl138_1
     replace p138:=eq_true p138
     replace q138:=eq_true q138
     go_wp2_with (first|((with_reducible refine gate_callee (f:=57) rfl ?_);refine goesL_ (some 19) rfl rfl Try.func57 (by kernel_rfl) rfl #[.slice A138_1 ((rd_T48 l0 x6_1).f1).length c138_1,.slice A1 l1.length c1] rfl (by (try simp only [List.map_toArray,List.map_cons,List.map_nil]);first|done|rfl|(simp only [List.length_drop,List.length_take];rfl)) ?_;(with_reducible refine (spec_l3Same.calls k1 _ _ ((rd_T48 l0 x6_1).f1) _ _ l1 true _ ?side1 ?side2 ?side3 ?side4 A5.out).mono ?_);(case side1 => repeat (first|exact HR138_1.out|(with_reducible refine Kd.C_alloc ?_ _)|(with_reducible refine Kd.C_drewN ?_ _)|(with_reducible refine Kd.C_drew ?_)));(case side2 => exact HC138_1.out);(case side3 => repeat (first|exact HR1.out|(with_reducible refine Kd.C_alloc ?_ _)|(with_reducible refine Kd.C_drewN ?_ _)|(with_reducible refine Kd.C_drew ?_)));(case side4 => exact HC1.out);rintro e w' ⟨rfl,⟨nd,rfl⟩⟩;refine ⟨_,rfl,?_⟩))
     go_roundg k1
     case measure => have:=HK1.out;omega
     case rel => exact ⟨(wrap64 (x5_1 + 1)),(wrap64 (x6_1 + 1)),(by first|rfl|(simp;done)|(simp [*];done)),(by first|rfl|(simp;done)|(simp [*];done)),H',⟨by have:=HK1.out;omega⟩,by repeat (first|exact Drawn0.refl _|apply Drawn0.step)⟩
    ·replace c6:=Bool.eq_false_iff.mpr c6
     subst c6
     have H1 : (spec_l3Many.l0 k1 l0 l1 x5_1 (wrap64 (x6_1 + 1))) = some r:=by rw [if_neg (show ¬ (false = true) by decide)] at H;exact H
     clear H
     have H:=H1
     clear H1
     have H':=aM H
     clear H
     have p138 : 0 ≤ (x6_1 : Int):=of_decide_eq_true (by first|(with_reducible assumption)|assumption)
     have q138 : x6_1 < (l0.length : Int):=of_decide_eq_true (by first|(with_reducible assumption)|assumption)
     obtain ⟨ad138,A138_1,c138_1,e138,hx138_0,hx138_1,hl138_1,hi138_1⟩:=at_T48 HR0.out x6_1 p138 q138
     cases e138
     have HR138_1:=aM hi138_1
     have HC138_1:=aM hl138_1
     clear hi138_1 hl138_1
     replace p138:=eq_true p138
     replace q138:=eq_true q138
     go_wp2_with (first|((with_reducible refine gate_callee (f:=57) rfl ?_);refine goesL_ (some 19) rfl rfl Try.func57 (by kernel_rfl) rfl #[.slice A138_1 ((rd_T48 l0 x6_1).f1).length c138_1,.slice A1 l1.length c1] rfl (by (try simp only [List.map_toArray,List.map_cons,List.map_nil]);first|done|rfl|(simp only [List.length_drop,List.length_take];rfl)) ?_;(with_reducible refine (spec_l3Same.calls k1 _ _ ((rd_T48 l0 x6_1).f1) _ _ l1 false _ ?side1 ?side2 ?side3 ?side4 A5.out).mono ?_);(case side1 => repeat (first|exact HR138_1.out|(with_reducible refine Kd.C_alloc ?_ _)|(with_reducible refine Kd.C_drewN ?_ _)|(with_reducible refine Kd.C_drew ?_)));(case side2 => exact HC138_1.out);(case side3 => repeat (first|exact HR1.out|(with_reducible refine Kd.C_alloc ?_ _)|(with_reducible refine Kd.C_drewN ?_ _)|(with_reducible refine Kd.C_drew ?_)));(case side4 => exact HC1.out);rintro e w' ⟨rfl,⟨nd,rfl⟩⟩;refine ⟨_,rfl,?_⟩))
     go_roundg k1
     case measure => have:=HK1.out;omega
     case rel => exact ⟨(x5_1),(wrap64 (x6_1 + 1)),(by first|rfl|(simp;done)|(simp [*];done)),(by first|rfl|(simp;done)|(simp [*];done)),H',⟨by have:=HK1.out;omega⟩,by repeat (first|exact Drawn0.refl _|apply Drawn0.step)⟩
   ·rw [if_neg c3] at H
    have c3b0 : decide (x6_1 < (l0.length : Int)) = false:=decide_eq_false c3
    clear c3
    obtain rfl:=Option.some.inj H
    go_wp2
    go_ret
    exact ⟨by first|rfl|(simp;done)|(simp [*];done),by repeat (first|exact Drawn0.refl _|apply Drawn0.step)⟩

/-! ### spec_l11Sure: function 34 -/
def spec_l11Sure.l0 : Nat → List (S48) → List (S58) → Int → Option (Bool)
 | 0,_,_,_ => none
 | k + 1,x0,x1,x5 => if x5 ≤ (x1.length : Int) then (if 0 ≤ x5 then ((spec_l3Many.f k x0 (x1.take (x5 : Int).toNat)).bind fun t144 => (if t144 < 3 then (some false) else (spec_l11Sure.l0 k x0 x1 (wrap64 (x5 + 1))))) else (none)) else (some true)
def spec_l11Sure.f (k : Nat) (l0 : List (S48)) (l1 : List (S58)) : Option (Bool):=spec_l11Sure.l0 k l0 l1 1
theorem spec_l11Sure.mono_l : ∀ k,(∀ y0 y1 y2,LeO (spec_l11Sure.l0 k y0 y1 y2) (spec_l11Sure.l0 (k + 1) y0 y1 y2))
 | 0 => fun _ _ _ r h => by simp [spec_l11Sure.l0] at h
 | k + 1 => by
  have ih0:=spec_l11Sure.mono_l k
  ·intro y0 y1 y2
   unfold spec_l11Sure.l0
   repeat' first
   | exact LeO.refl _
   | exact ih0 _ _ _
   | exact spec_l3Many.mono _ _ _
   | exact LeO.none _
   | refine LeO.ite ?_ ?_
   | refine LeO.bind ?_ (fun _ => ?_)
theorem spec_l11Sure.mono : ∀ a0 a1 k,LeO (spec_l11Sure.f k a0 a1) (spec_l11Sure.f (k + 1) a0 a1):=by
 intro a0 a1 k
 have ih0:=spec_l11Sure.mono_l k
 unfold spec_l11Sure.f
 repeat' first
   | exact LeO.refl _
   | exact ih0 _ _ _
   | exact spec_l3Many.mono _ _ _
   | exact LeO.none _
   | refine LeO.ite ?_ ?_
   | refine LeO.bind ?_ (fun _ => ?_)
set_option maxHeartbeats 8000000 in
set_option maxRecDepth 100000 in
theorem spec_l11Sure.calls (k : Nat) (A0 : Option Addr) (c0 : Nat) (l0 : List (S48)) (A1 : Option Addr) (c1 : Nat) (l1 : List (S58)) (r : Bool) (w : World) (hr0 : Kd.C k48 w A0 l0.length l0) (hc0 : l0.length ≤ c0) (hr1 : Kd.C k58 w A1 l1.length l1) (hc1 : l1.length ≤ c1) (h : spec_l11Sure.f k l0 l1 = some r) :
  Calls Try.prog 34 #[.slice A0 l0.length c0,.slice A1 l1.length c1] w fun e w' => e = .returned (.bool r) ∧ Drawn0 w w':=by
 have HR0:=aM hr0
 have HC0:=aM hc0
 clear hr0 hc0
 have HR1:=aM hr1
 have HC1:=aM hc1
 clear hr1 hc1
 have H : (spec_l11Sure.l0 k l0 l1 1) = some r:=h
 clear h
 have H':=aM H
 clear H
 go_enter Try.func34,Try.ntmps34
 go_wp2
 go_loopg [5] k (fun kq v5 w' => ∃ (x5_1 : Int),v5 = .int .i64 x5_1 ∧ Aside0 (spec_l11Sure.l0 kq l0 l1 x5_1 = some r) ∧ Aside0 (kq ≤ k) ∧ Drawn0 w w')
 case atStart => exact ⟨(1),(by first|rfl|(simp;done)|(simp [*];done)),H',⟨Nat.le_refl _⟩,by repeat (first|exact Drawn0.refl _|apply Drawn0.step)⟩
 case round =>
  clear H'
  try clear c1
  try clear p2
  obtain ⟨x5_1,rfl,HA,HK1,⟨m1,rfl⟩⟩:=hrel
  cases gk with
  | zero => exact absurd HA.out (by simp [spec_l11Sure.l0])
  | succ k1 =>
   have H:=HA.out
   clear HA
   simp only [spec_l11Sure.l0] at H
   by_cases c3 : x5_1 ≤ (l1.length : Int)
   ·rw [if_pos c3] at H
    have c3b0 : decide (x5_1 ≤ (l1.length : Int)) = true:=decide_eq_true c3
    clear c3
    by_cases c4 : 0 ≤ x5_1
    case neg => rw [if_neg c4] at H;exact absurd H (by simp)
    rw [if_pos c4] at H
    have c4b0:=eq_true c4
    have c4b1 : decide (0 ≤ x5_1) = true:=decide_eq_true c4
    clear c4
    have c5b0:=eq_true (of_decide_eq_true (by first|(with_reducible assumption)|assumption) : x5_1 ≤ (l1.length : Int))
    obtain ⟨y140,hy140⟩ : ∃ y_ : List (S58),y_ = (l1.take (x5_1 : Int).toNat):=⟨_,rfl⟩
    replace H : ((spec_l3Many.f k1 l0 y140).bind fun t144 => (if t144 < 3 then (some false) else (spec_l11Sure.l0 k1 l0 l1 (wrap64 (x5_1 + 1))))) = some r:=by first|(rw [hy140];with_reducible exact H)|(have H2_:=(Option.bind_some _ _).symm.trans H;rw [hy140];with_reducible exact H2_)|(have H2_:=(Option.bind_some _ _).symm.trans H;with_reducible exact H2_)|with_reducible exact H|(rw [hy140];exact H)|exact H
    have Ny140:=aM hy140
    clear hy140
    replace H:=Option.bind_eq_some_iff.mp H
    obtain ⟨t144,A60,H⟩:=H
    replace H : (if t144 < 3 then (some false) else (spec_l11Sure.l0 k1 l0 l1 (wrap64 (x5_1 + 1)))) = some r:=H
    have A6:=aM A60
    clear A60
    by_cases c7 : t144 < 3
    ·rw [if_pos c7] at H
     have c7b0 : decide (t144 < 3) = true:=decide_eq_true c7
     clear c7
     obtain rfl:=Option.some.inj H
     have q8 : (x5_1 : Int) ≤ ((l1.length : Int) : Int):=of_decide_eq_true (by first|(with_reducible assumption)|assumption)
     obtain ⟨i08,hi08,_,hsz8,_⟩:=info_parts info58
     have hroom8 : l1.length ≤ c1:=HC1.out
     have hC8 : Kd.C k58 _ A1 l1.length l1:=HR1.out
     have hcut8:=cut_to (P:=Try.prog) 29 58 .i64 Try.underlying29 hi08 A1 l1.length c1 x5_1 (of_decide_eq_true (by first|(with_reducible assumption)|assumption)) q8 hroom8
     have hr8:=Kd.C_take (m:=(x5_1 : Int).toNat) hC8 (by omega)
     have hy8 : y140.length = (x5_1 : Int).toNat:=(by rw [Ny140.out,List.length_take];omega)
     rw [← Ny140.out] at hr8
     rw [← hy8] at hcut8
     have HR143:=aM hr8
     have HC143:=aM (show y140.length ≤ c1 from by omega)
     clear hr8 hC8 hroom8 hi08 hsz8
     have KY8:=aM hy8
     clear hy8
     replace q8:=eq_true q8
     go_wp2_with (first|((with_reducible refine gate_callee (f:=50) rfl ?_);refine goesL_ (some 16) rfl rfl Try.func50 (by kernel_rfl) rfl #[.slice A0 l0.length c0,.slice A1 y140.length c1] rfl (by (try simp only [List.map_toArray,List.map_cons,List.map_nil]);first|done|rfl|(simp only [List.length_drop,List.length_take];rfl)) ?_;(with_reducible refine (spec_l3Many.calls k1 _ _ l0 _ _ y140 t144 _ ?side1 ?side2 ?side3 ?side4 A6.out).mono ?_);(case side1 => repeat (first|exact HR0.out|(with_reducible refine Kd.C_alloc ?_ _)|(with_reducible refine Kd.C_drewN ?_ _)|(with_reducible refine Kd.C_drew ?_)));(case side2 => exact HC0.out);(case side3 => repeat (first|exact HR143.out|(with_reducible refine Kd.C_alloc ?_ _)|(with_reducible refine Kd.C_drewN ?_ _)|(with_reducible refine Kd.C_drew ?_)));(case side4 => exact HC143.out);rintro e w' ⟨rfl,⟨nd,rfl⟩⟩;refine ⟨_,rfl,?_⟩))
     go_ret
     exact ⟨by first|rfl|(simp;done)|(simp [*];done),by repeat (first|exact Drawn0.refl _|apply Drawn0.step)⟩
    ·rw [if_neg c7] at H
     have c7b0 : decide (t144 < 3) = false:=decide_eq_false c7
     clear c7
     have H':=aM H
     clear H
     have q9 : (x5_1 : Int) ≤ ((l1.length : Int) : Int):=of_decide_eq_true (by first|(with_reducible assumption)|assumption)
     obtain ⟨i09,hi09,_,hsz9,_⟩:=info_parts info58
     have hroom9 : l1.length ≤ c1:=HC1.out
     have hC9 : Kd.C k58 _ A1 l1.length l1:=HR1.out
     have hcut9:=cut_to (P:=Try.prog) 29 58 .i64 Try.underlying29 hi09 A1 l1.length c1 x5_1 (of_decide_eq_true (by first|(with_reducible assumption)|assumption)) q9 hroom9
     have hr9:=Kd.C_take (m:=(x5_1 : Int).toNat) hC9 (by omega)
     have hy9 : y140.length = (x5_1 : Int).toNat:=(by rw [Ny140.out,List.length_take];omega)
     rw [← Ny140.out] at hr9
     rw [← hy9] at hcut9
     have HR143:=aM hr9
     have HC143:=aM (show y140.length ≤ c1 from by omega)
     clear hr9 hC9 hroom9 hi09 hsz9
     have KY9:=aM hy9
     clear hy9
     replace q9:=eq_true q9
     go_wp2_with (first|((with_reducible refine gate_callee (f:=50) rfl ?_);refine goesL_ (some 16) rfl rfl Try.func50 (by kernel_rfl) rfl #[.slice A0 l0.length c0,.slice A1 y140.length c1] rfl (by (try simp only [List.map_toArray,List.map_cons,List.map_nil]);first|done|rfl|(simp only [List.length_drop,List.length_take];rfl)) ?_;(with_reducible refine (spec_l3Many.calls k1 _ _ l0 _ _ y140 t144 _ ?side1 ?side2 ?side3 ?side4 A6.out).mono ?_);(case side1 => repeat (first|exact HR0.out|(with_reducible refine Kd.C_alloc ?_ _)|(with_reducible refine Kd.C_drewN ?_ _)|(with_reducible refine Kd.C_drew ?_)));(case side2 => exact HC0.out);(case side3 => repeat (first|exact HR143.out|(with_reducible refine Kd.C_alloc ?_ _)|(with_reducible refine Kd.C_drewN ?_ _)|(with_reducible refine Kd.C_drew ?_)));(case side4 => exact HC143.out);rintro e w' ⟨rfl,⟨nd,rfl⟩⟩;refine ⟨_,rfl,?_⟩))
     go_roundg k1
     case measure => have:=HK1.out;omega
     case rel => exact ⟨(wrap64 (x5_1 + 1)),(by first|rfl|(simp;done)|(simp [*];done)),H',⟨by have:=HK1.out;omega⟩,by repeat (first|exact Drawn0.refl _|apply Drawn0.step)⟩
   ·rw [if_neg c3] at H
    have c3b0 : decide (x5_1 ≤ (l1.length : Int)) = false:=decide_eq_false c3
    clear c3
    obtain rfl:=Option.some.inj H
    go_wp2
    go_ret
    exact ⟨by first|rfl|(simp;done)|(simp [*];done),by repeat (first|exact Drawn0.refl _|apply Drawn0.step)⟩

/-! ### spec_TreeSure: function 12 -/
def spec_TreeSure.f (k : Nat) (l0 : List (S48)) (l1 : List (S58)) : Option (Bool):=(spec_VotesOk.f k l0).bind fun t145 => (if t145 = true then ((spec_ChainOk.f k l1).bind fun t146 => (if t146 = true then ((spec_l11Sure.f k l0 l1).bind fun t147 => (some t147)) else (some false))) else (some false))
theorem spec_TreeSure.mono : ∀ a0 a1 k,LeO (spec_TreeSure.f k a0 a1) (spec_TreeSure.f (k + 1) a0 a1):=by
 intro a0 a1 k
 unfold spec_TreeSure.f
 repeat' first
   | exact LeO.refl _
   | exact spec_ChainOk.mono _ _
   | exact spec_VotesOk.mono _ _
   | exact spec_l11Sure.mono _ _ _
   | exact LeO.none _
   | refine LeO.ite ?_ ?_
   | refine LeO.bind ?_ (fun _ => ?_)
set_option maxHeartbeats 8000000 in
set_option maxRecDepth 100000 in
theorem spec_TreeSure.calls (k : Nat) (A0 : Option Addr) (c0 : Nat) (l0 : List (S48)) (A1 : Option Addr) (c1 : Nat) (l1 : List (S58)) (r : Bool) (w : World) (hr0 : Kd.C k48 w A0 l0.length l0) (hc0 : l0.length ≤ c0) (hr1 : Kd.C k58 w A1 l1.length l1) (hc1 : l1.length ≤ c1) (h : spec_TreeSure.f k l0 l1 = some r) :
  Calls Try.prog 12 #[.slice A0 l0.length c0,.slice A1 l1.length c1] w fun e w' => e = .returned (.bool r) ∧ Below w.heap.size w w':=by
 have HR0:=aM hr0
 have HC0:=aM hc0
 clear hr0 hc0
 have HR1:=aM hr1
 have HC1:=aM hc1
 clear hr1 hc1
 have HB:=aM (Below.refl w.heap.size w)
 have H : ((spec_VotesOk.f k l0).bind fun t145 => (if t145 = true then ((spec_ChainOk.f k l1).bind fun t146 => (if t146 = true then ((spec_l11Sure.f k l0 l1).bind fun t147 => (some t147)) else (some false))) else (some false))) = some r:=h
 clear h
 replace H:=Option.bind_eq_some_iff.mp H
 obtain ⟨t145,A30,H⟩:=H
 replace H : (if t145 = true then ((spec_ChainOk.f k l1).bind fun t146 => (if t146 = true then ((spec_l11Sure.f k l0 l1).bind fun t147 => (some t147)) else (some false))) else (some false)) = some r:=H
 have A3:=aM A30
 clear A30
 by_cases c4 : t145 = true
 ·subst c4
  have H1 : ((spec_ChainOk.f k l1).bind fun t146 => (if t146 = true then ((spec_l11Sure.f k l0 l1).bind fun t147 => (some t147)) else (some false))) = some r:=by rw [if_pos rfl] at H;exact H
  clear H
  have H:=H1
  clear H1
  replace H:=Option.bind_eq_some_iff.mp H
  obtain ⟨t146,A50,H⟩:=H
  replace H : (if t146 = true then ((spec_l11Sure.f k l0 l1).bind fun t147 => (some t147)) else (some false)) = some r:=H
  have A5:=aM A50
  clear A50
  by_cases c6 : t146 = true
  ·subst c6
   have H1 : ((spec_l11Sure.f k l0 l1).bind fun t147 => (some t147)) = some r:=by rw [if_pos rfl] at H;exact H
   clear H
   have H:=H1
   clear H1
   replace H:=Option.bind_eq_some_iff.mp H
   obtain ⟨t147,A70,H⟩:=H
   replace H : (some t147) = some r:=H
   have A7:=aM A70
   clear A70
   obtain rfl:=Option.some.inj H
   go_enter Try.func12,Try.ntmps12
   go_wp2_with (first|((with_reducible refine gate_callee (f:=26) rfl ?_);refine goesL_ (some 6) rfl rfl Try.func26 (by kernel_rfl) rfl #[.slice A0 l0.length c0] rfl (by (try simp only [List.map_toArray,List.map_cons,List.map_nil]);first|done|rfl|(simp only [List.length_drop,List.length_take];rfl)) ?_;(with_reducible refine (spec_VotesOk.calls k _ _ l0 true _ ?side1 ?side2 A3.out).mono ?_);(case side1 => repeat (first|exact HR0.out|(with_reducible refine Kd.C_alloc ?_ _)|(with_reducible refine Kd.C_drewN ?_ _)|(with_reducible refine Kd.C_drew ?_)));(case side2 => exact HC0.out);rintro e w8 ⟨rfl,hb⟩;refine ⟨_,rfl,?_⟩;have n0_:=aM (below_step (by repeat (first|(with_reducible first|exact HB.out|apply bA|apply bN|apply bD)|exact HB.out)) hb);clear HB;have HB:=n0_;clear n0_;(try clear hb);(try clear hb2);(try clear hk);(try clear hi))|(go_at_call 27;(with_reducible refine (spec_ChainOk.calls k _ _ l1 true _ ?side1 ?side2 A5.out).mono ?_);(case side1 => repeat (first|exact (Kd.C_below HR1.out HB.out)|(with_reducible refine Kd.C_alloc ?_ _)|(with_reducible refine Kd.C_drewN ?_ _)|(with_reducible refine Kd.C_drew ?_)));(case side2 => exact HC1.out);rintro e w9 ⟨rfl,hb⟩;have n0_:=aM (below_step (by repeat (first|(with_reducible first|exact HB.out|apply bA|apply bN|apply bD)|exact HB.out)) hb);clear HB;have HB:=n0_;clear n0_;(try clear hb);(try clear hb2);(try clear hk);(try clear hi))|(go_at_call 34;(with_reducible refine (spec_l11Sure.calls k _ _ l0 _ _ l1 t147 _ ?side1 ?side2 ?side3 ?side4 A7.out).mono ?_);(case side1 => repeat (first|exact (Kd.C_below HR0.out HB.out)|(with_reducible refine Kd.C_alloc ?_ _)|(with_reducible refine Kd.C_drewN ?_ _)|(with_reducible refine Kd.C_drew ?_)));(case side2 => exact HC0.out);(case side3 => repeat (first|exact (Kd.C_below HR1.out HB.out)|(with_reducible refine Kd.C_alloc ?_ _)|(with_reducible refine Kd.C_drewN ?_ _)|(with_reducible refine Kd.C_drew ?_)));(case side4 => exact HC1.out);rintro e w' ⟨rfl,⟨nd,rfl⟩⟩))
   go_ret
   exact ⟨by first|rfl|(simp only [i64_w,i32_w];done)|(simp only [i64_w,i32_w];rfl)|(simp [errW_none,errW_some] <;> rfl)|(simp [*,errW_none,errW_some] <;> rfl),by repeat (first|(with_reducible first|exact HB.out|apply bA|apply bN|apply bD)|exact HB.out)⟩
  ·replace c6:=Bool.eq_false_iff.mpr c6
   subst c6
   have H1 : (some false) = some r:=by rw [if_neg (show ¬ (false = true) by decide)] at H;exact H
   clear H
   have H:=H1
   clear H1
   obtain rfl:=Option.some.inj H
   go_enter Try.func12,Try.ntmps12
   go_wp2_with (first|((with_reducible refine gate_callee (f:=26) rfl ?_);refine goesL_ (some 6) rfl rfl Try.func26 (by kernel_rfl) rfl #[.slice A0 l0.length c0] rfl (by (try simp only [List.map_toArray,List.map_cons,List.map_nil]);first|done|rfl|(simp only [List.length_drop,List.length_take];rfl)) ?_;(with_reducible refine (spec_VotesOk.calls k _ _ l0 true _ ?side1 ?side2 A3.out).mono ?_);(case side1 => repeat (first|exact HR0.out|(with_reducible refine Kd.C_alloc ?_ _)|(with_reducible refine Kd.C_drewN ?_ _)|(with_reducible refine Kd.C_drew ?_)));(case side2 => exact HC0.out);rintro e w10 ⟨rfl,hb⟩;refine ⟨_,rfl,?_⟩;have n0_:=aM (below_step (by repeat (first|(with_reducible first|exact HB.out|apply bA|apply bN|apply bD)|exact HB.out)) hb);clear HB;have HB:=n0_;clear n0_;(try clear hb);(try clear hb2);(try clear hk);(try clear hi))|(go_at_call 27;(with_reducible refine (spec_ChainOk.calls k _ _ l1 false _ ?side1 ?side2 A5.out).mono ?_);(case side1 => repeat (first|exact (Kd.C_below HR1.out HB.out)|(with_reducible refine Kd.C_alloc ?_ _)|(with_reducible refine Kd.C_drewN ?_ _)|(with_reducible refine Kd.C_drew ?_)));(case side2 => exact HC1.out);rintro e w11 ⟨rfl,hb⟩;have n0_:=aM (below_step (by repeat (first|(with_reducible first|exact HB.out|apply bA|apply bN|apply bD)|exact HB.out)) hb);clear HB;have HB:=n0_;clear n0_;(try clear hb);(try clear hb2);(try clear hk);(try clear hi)))
   go_ret
   exact ⟨by first|rfl|(simp only [i64_w,i32_w];done)|(simp only [i64_w,i32_w];rfl)|(simp [errW_none,errW_some] <;> rfl)|(simp [*,errW_none,errW_some] <;> rfl),by repeat (first|(with_reducible first|exact HB.out|apply bA|apply bN|apply bD)|exact HB.out)⟩
 ·replace c4:=Bool.eq_false_iff.mpr c4
  subst c4
  have H1 : (some false) = some r:=by rw [if_neg (show ¬ (false = true) by decide)] at H;exact H
  clear H
  have H:=H1
  clear H1
  obtain rfl:=Option.some.inj H
  go_enter Try.func12,Try.ntmps12
  go_wp2_with (first|((with_reducible refine gate_callee (f:=26) rfl ?_);refine goesL_ (some 6) rfl rfl Try.func26 (by kernel_rfl) rfl #[.slice A0 l0.length c0] rfl (by (try simp only [List.map_toArray,List.map_cons,List.map_nil]);first|done|rfl|(simp only [List.length_drop,List.length_take];rfl)) ?_;(with_reducible refine (spec_VotesOk.calls k _ _ l0 false _ ?side1 ?side2 A3.out).mono ?_);(case side1 => repeat (first|exact HR0.out|(with_reducible refine Kd.C_alloc ?_ _)|(with_reducible refine Kd.C_drewN ?_ _)|(with_reducible refine Kd.C_drew ?_)));(case side2 => exact HC0.out);rintro e w12 ⟨rfl,hb⟩;refine ⟨_,rfl,?_⟩;have n0_:=aM (below_step (by repeat (first|(with_reducible first|exact HB.out|apply bA|apply bN|apply bD)|exact HB.out)) hb);clear HB;have HB:=n0_;clear n0_;(try clear hb);(try clear hb2);(try clear hk);(try clear hi)))
  go_ret
  exact ⟨by first|rfl|(simp only [i64_w,i32_w];done)|(simp only [i64_w,i32_w];rfl)|(simp [errW_none,errW_some] <;> rfl)|(simp [*,errW_none,errW_some] <;> rfl),by repeat (first|(with_reducible first|exact HB.out|apply bA|apply bN|apply bD)|exact HB.out)⟩

/-! ### laws_toPay: function 51 -/
def laws_toPay.f (a0_0 : Int) (a0_1 : Int) (a0_2 : Int) : Option (Int × Int × Int):=some (a0_0,a0_1,a0_2)
set_option maxHeartbeats 8000000 in
set_option maxRecDepth 100000 in
theorem laws_toPay.calls (a0_0 : Int) (a0_1 : Int) (a0_2 : Int) (r1 : Int) (r2 : Int) (r3 : Int) (w : World) (h : laws_toPay.f a0_0 a0_1 a0_2 = some (r1,r2,r3)) :
  Calls Try.prog 51 #[.agg #[.int .i64 a0_0,.int .i64 a0_1,.int .i64 a0_2]] w fun e w' => e = .returned (.agg #[.int .i64 r1,.int .i64 r2,.int .i64 r3]) ∧ Below w.heap.size w w':=by
 have hu60:=Try.underlying60
 have hu56:=Try.underlying56
 have HB:=aM (Below.refl w.heap.size w)
 have H : (some (a0_0,a0_1,a0_2)) = some (r1,r2,r3):=h
 clear h
 simp only [Option.some.injEq,Prod.mk.injEq] at H
 obtain ⟨rfl,rfl,rfl⟩:=H
 go_enter Try.func51,Try.ntmps51
 go_wp2_with (first|((with_reducible refine gate_dst (N:=1) rfl ?_);refine box_event ?hg (N:=1) ?hd (cs:=#[.int .i64 a0_0,.int .i64 a0_1,.int .i64 a0_2]) (t:=60) ?hr ?_;(case hd => rfl);(case hg => rfl);(case hr => first|(go_simp;done)|(go_simp;rfl));intro gb148 hg w2 hbox hb;have n0_:=aM (below_step (by repeat (first|(with_reducible first|exact HB.out|apply bA|apply bN|apply bD)|exact HB.out)) hb);have n1_:=aM (hbox);have n2_:=aM ((by rw [hg];exact (below_size (by repeat (first|(with_reducible first|exact HB.out|apply bA|apply bN|apply bD)|exact HB.out))) : w.heap.size ≤ gb148));have n3_:=aM ((by rw [hg];exact (below_size (by repeat (first|(with_reducible first|exact HB.out|apply bA|apply bN|apply bD)|exact HB.out))) : w.heap.size ≤ gb148));clear HB;have HB:=n0_;have BK148:=n1_;have GW148:=n2_;have GE148:=n3_;clear n0_ n1_ n2_ n3_;clear hb hbox hg)|((with_reducible refine gate_dst (N:=2) rfl ?_);refine box_event ?hg (N:=2) ?hd (cs:=#[.int .i64 0,.int .i64 0,.int .i64 0]) (t:=56) ?hr ?_;(case hd => rfl);(case hg => rfl);(case hr => first|(go_simp;done)|(go_simp;rfl));intro gb149 hg w3 hbox hb;have n0_:=aM (blk_below (g:=gb148) (o:=.cells #[.int .i64 a0_0,.int .i64 a0_1,.int .i64 a0_2] 60 (0,0)) (by (with_reducible repeat (first|refine blk_drewN ?_ _|refine blk_drew ?_|refine blk_alloc ?_ _));exact BK148.out) hb);have n1_:=aM (below_step (by repeat (first|(with_reducible first|exact HB.out|apply bA|apply bN|apply bD|refine below_set ?_ GE148.out)|exact HB.out)) hb);have n2_:=aM (hbox);have n3_:=aM ((by rw [hg];exact (below_size (by repeat (first|(with_reducible first|exact HB.out|apply bA|apply bN|apply bD|refine below_set ?_ GE148.out)|exact HB.out))) : w.heap.size ≤ gb149));have n4_:=aM ((by rw [hg];exact (below_size (by repeat (first|(with_reducible first|exact HB.out|apply bA|apply bN|apply bD|refine below_set ?_ GE148.out)|exact HB.out))) : w.heap.size ≤ gb149));have n5_:=aM ((by rw [hg];exact Nat.ne_of_lt (blk_lt (g:=gb148) (o:=.cells #[.int .i64 a0_0,.int .i64 a0_1,.int .i64 a0_2] 60 (0,0)) (by (with_reducible repeat (first|refine blk_drewN ?_ _|refine blk_drew ?_|refine blk_alloc ?_ _));exact BK148.out)) : gb148 ≠ gb149));have n6_:=aM ((by rw [hg];exact Nat.ne_of_gt (blk_lt (g:=gb148) (o:=.cells #[.int .i64 a0_0,.int .i64 a0_1,.int .i64 a0_2] 60 (0,0)) (by (with_reducible repeat (first|refine blk_drewN ?_ _|refine blk_drew ?_|refine blk_alloc ?_ _));exact BK148.out)) : gb149 ≠ gb148));clear BK148;clear HB;have BK148:=n0_;have HB:=n1_;have BK149:=n2_;have GW149:=n3_;have GE149:=n4_;have NB148_149:=n5_;have NB149_148:=n6_;clear n0_ n1_ n2_ n3_ n4_ n5_ n6_;clear hb hbox hg)|((with_reducible refine gate_dst (N:=3) rfl ?_);refine box_event ?hg (N:=3) ?hd (cs:=#[.int .i64 0,.int .i64 0,.int .i64 0]) (t:=56) ?hr ?_;(case hd => rfl);(case hg => rfl);(case hr => first|(go_simp;done)|(go_simp;rfl));intro gb150 hg w4 hbox hb;have n0_:=aM (blk_below (g:=gb148) (o:=.cells #[.int .i64 a0_0,.int .i64 a0_1,.int .i64 a0_2] 60 (0,0)) (by (with_reducible repeat (first|refine blk_drewN ?_ _|refine blk_drew ?_|refine blk_alloc ?_ _));exact BK148.out) hb);have n1_:=aM (blk_below (g:=gb149) (o:=.cells #[.int .i64 0,.int .i64 0,.int .i64 0] 56 (0,0)) (by (with_reducible repeat (first|refine blk_drewN ?_ _|refine blk_drew ?_|refine blk_alloc ?_ _));exact BK149.out) hb);have n2_:=aM (below_step (by repeat (first|(with_reducible first|exact HB.out|apply bA|apply bN|apply bD|refine below_set ?_ GE148.out|refine below_set ?_ GE149.out)|exact HB.out)) hb);have n3_:=aM (hbox);have n4_:=aM ((by rw [hg];exact (below_size (by repeat (first|(with_reducible first|exact HB.out|apply bA|apply bN|apply bD|refine below_set ?_ GE148.out|refine below_set ?_ GE149.out)|exact HB.out))) : w.heap.size ≤ gb150));have n5_:=aM ((by rw [hg];exact (below_size (by repeat (first|(with_reducible first|exact HB.out|apply bA|apply bN|apply bD|refine below_set ?_ GE148.out|refine below_set ?_ GE149.out)|exact HB.out))) : w.heap.size ≤ gb150));have n6_:=aM ((by rw [hg];exact Nat.ne_of_lt (blk_lt (g:=gb148) (o:=.cells #[.int .i64 a0_0,.int .i64 a0_1,.int .i64 a0_2] 60 (0,0)) (by (with_reducible repeat (first|refine blk_drewN ?_ _|refine blk_drew ?_|refine blk_alloc ?_ _));exact BK148.out)) : gb148 ≠ gb150));have n7_:=aM ((by rw [hg];exact Nat.ne_of_gt (blk_lt (g:=gb148) (o:=.cells #[.int .i64 a0_0,.int .i64 a0_1,.int .i64 a0_2] 60 (0,0)) (by (with_reducible repeat (first|refine blk_drewN ?_ _|refine blk_drew ?_|refine blk_alloc ?_ _));exact BK148.out)) : gb150 ≠ gb148));have n8_:=aM ((by rw [hg];exact Nat.ne_of_lt (blk_lt (g:=gb149) (o:=.cells #[.int .i64 0,.int .i64 0,.int .i64 0] 56 (0,0)) (by (with_reducible repeat (first|refine blk_drewN ?_ _|refine blk_drew ?_|refine blk_alloc ?_ _));exact BK149.out)) : gb149 ≠ gb150));have n9_:=aM ((by rw [hg];exact Nat.ne_of_gt (blk_lt (g:=gb149) (o:=.cells #[.int .i64 0,.int .i64 0,.int .i64 0] 56 (0,0)) (by (with_reducible repeat (first|refine blk_drewN ?_ _|refine blk_drew ?_|refine blk_alloc ?_ _));exact BK149.out)) : gb150 ≠ gb149));clear BK148;clear BK149;clear HB;have BK148:=n0_;have BK149:=n1_;have HB:=n2_;have BK150:=n3_;have GW150:=n4_;have GE150:=n5_;have NB148_150:=n6_;have NB150_148:=n7_;have NB149_150:=n8_;have NB150_149:=n9_;clear n0_ n1_ n2_ n3_ n4_ n5_ n6_ n7_ n8_ n9_;clear hb hbox hg;have hnb5:=NB148_149.out;have hnc5:=NB149_148.out;have hnb6:=NB148_150.out;have hnc6:=NB150_148.out;have hcz7_0 : w4.cell? ⟨gb148,0,none⟩ = some (.int .i64 a0_0):=(blk_cell BK148.out 0).trans rfl;have hcz7_1 : w4.cell? ⟨gb148,1,none⟩ = some (.int .i64 a0_1):=(blk_cell BK148.out 1).trans rfl;have hcz7_2 : w4.cell? ⟨gb148,2,none⟩ = some (.int .i64 a0_2):=(blk_cell BK148.out 2).trans rfl;have hfz7_0:=blk_frozen BK148.out 0;have hfz7_1:=blk_frozen BK148.out 1;have hfz7_2:=blk_frozen BK148.out 2;have hnb8:=NB150_149.out;have hnc8:=NB149_150.out;have hcz9_0 : w4.cell? ⟨gb150,0,none⟩ = some (.int .i64 0):=(blk_cell BK150.out 0).trans rfl;have hcz9_1 : w4.cell? ⟨gb150,1,none⟩ = some (.int .i64 0):=(blk_cell BK150.out 1).trans rfl;have hcz9_2 : w4.cell? ⟨gb150,2,none⟩ = some (.int .i64 0):=(blk_cell BK150.out 2).trans rfl;have hfz9_0:=blk_frozen BK150.out 0;have hfz9_1:=blk_frozen BK150.out 1;have hfz9_2:=blk_frozen BK150.out 2;have hcz10_0 : w4.cell? ⟨gb149,0,none⟩ = some (.int .i64 0):=(blk_cell BK149.out 0).trans rfl;have hcz10_1 : w4.cell? ⟨gb149,1,none⟩ = some (.int .i64 0):=(blk_cell BK149.out 1).trans rfl;have hcz10_2 : w4.cell? ⟨gb149,2,none⟩ = some (.int .i64 0):=(blk_cell BK149.out 2).trans rfl;have hfz10_0:=blk_frozen BK149.out 0;have hfz10_1:=blk_frozen BK149.out 1;have hfz10_2:=blk_frozen BK149.out 2))
 refine bodyPost_ret (results_cell_row rfl _ _ gb149 56 #[.int .i64 a0_0,.int .i64 a0_1,.int .i64 a0_2] (0,0) _ rfl (by (with_reducible repeat (first|refine blk_drewN ?_ _|refine blk_drew ?_|refine blk_alloc ?_ _));refine blk_put (cs:=#[.int .i64 a0_0,.int .i64 a0_1,.int .i64 0]) ?_ 2 _ rfl;(with_reducible repeat (first|refine blk_drewN ?_ _|refine blk_drew ?_|refine blk_alloc ?_ _));refine blk_put (cs:=#[.int .i64 a0_0,.int .i64 0,.int .i64 0]) ?_ 1 _ rfl;(with_reducible repeat (first|refine blk_drewN ?_ _|refine blk_drew ?_|refine blk_alloc ?_ _));refine blk_put (cs:=#[.int .i64 0,.int .i64 0,.int .i64 0]) ?_ 0 _ rfl;(with_reducible repeat (first|refine blk_drewN ?_ _|refine blk_drew ?_|refine blk_alloc ?_ _));refine blk_far ?_ NB149_150.out _;(with_reducible repeat (first|refine blk_drewN ?_ _|refine blk_drew ?_|refine blk_alloc ?_ _));refine blk_far ?_ NB149_150.out _;(with_reducible repeat (first|refine blk_drewN ?_ _|refine blk_drew ?_|refine blk_alloc ?_ _));refine blk_far ?_ NB149_150.out _;(with_reducible repeat (first|refine blk_drewN ?_ _|refine blk_drew ?_|refine blk_alloc ?_ _));exact BK149.out) Try.underlying56 rfl (by kernel_rfl)) rfl ?_
 exact ⟨by first|rfl|(simp only [i64_w,i32_w];done)|(simp only [i64_w,i32_w];rfl)|(simp [errW_none,errW_some] <;> rfl)|(simp [*,errW_none,errW_some] <;> rfl),by repeat (first|(with_reducible first|exact HB.out|apply bA|apply bN|apply bD|refine below_set ?_ GE148.out|refine below_set ?_ GE149.out|refine below_set ?_ GE150.out)|exact HB.out)⟩

/-! ### laws_toItem: function 36 -/
def laws_toItem.f (a0_0 : Int) (a0_1 : Int) (a0_2 : Int) (a0_3 : Int) : Option (Int × Int × Int × Int):=(laws_toPay.f a0_1 a0_2 a0_3).bind fun bt154 => (some (a0_0,bt154.1,bt154.2.1,bt154.2.2))
set_option maxHeartbeats 8000000 in
set_option maxRecDepth 100000 in
theorem laws_toItem.calls (a0_0 : Int) (a0_1 : Int) (a0_2 : Int) (a0_3 : Int) (r1 : Int) (r2 : Int) (r3 : Int) (r4 : Int) (w : World) (h : laws_toItem.f a0_0 a0_1 a0_2 a0_3 = some (r1,r2,r3,r4)) :
  Calls Try.prog 36 #[.agg #[.int .i64 a0_0,.int .i64 a0_1,.int .i64 a0_2,.int .i64 a0_3]] w fun e w' => e = .returned (.agg #[.int .i64 r1,.int .i64 r2,.int .i64 r3,.int .i64 r4]) ∧ Below w.heap.size w w':=by
 have hu62:=Try.underlying62
 have hu58:=Try.underlying58
 have hu60:=Try.underlying60
 have hu56:=Try.underlying56
 have HB:=aM (Below.refl w.heap.size w)
 have H : ((laws_toPay.f a0_1 a0_2 a0_3).bind fun bt154 => (some (a0_0,bt154.1,bt154.2.1,bt154.2.2))) = some (r1,r2,r3,r4):=h
 clear h
 replace H:=Option.bind_eq_some_iff.mp H
 obtain ⟨⟨t154,t155,t156⟩,A20,H⟩:=H
 replace H : (some (a0_0,t154,t155,t156)) = some (r1,r2,r3,r4):=H
 have A2:=aM A20
 clear A20
 simp only [Option.some.injEq,Prod.mk.injEq] at H
 obtain ⟨rfl,rfl,rfl,rfl⟩:=H
 go_enter Try.func36,Try.ntmps36
 go_wp2_with (first|((with_reducible refine gate_dst (N:=1) rfl ?_);refine box_event ?hg (N:=1) ?hd (cs:=#[.int .i64 a0_0,.int .i64 a0_1,.int .i64 a0_2,.int .i64 a0_3]) (t:=62) ?hr ?_;(case hd => rfl);(case hg => rfl);(case hr => first|(go_simp;done)|(go_simp;rfl));intro gb151 hg w3 hbox hb;have n0_:=aM (below_step (by repeat (first|(with_reducible first|exact HB.out|apply bA|apply bN|apply bD)|exact HB.out)) hb);have n1_:=aM (hbox);have n2_:=aM ((by rw [hg];exact (below_size (by repeat (first|(with_reducible first|exact HB.out|apply bA|apply bN|apply bD)|exact HB.out))) : w.heap.size ≤ gb151));have n3_:=aM ((by rw [hg];exact (below_size (by repeat (first|(with_reducible first|exact HB.out|apply bA|apply bN|apply bD)|exact HB.out))) : w.heap.size ≤ gb151));clear HB;have HB:=n0_;have BK151:=n1_;have GW151:=n2_;have GE151:=n3_;clear n0_ n1_ n2_ n3_;clear hb hbox hg)|((with_reducible refine gate_dst (N:=2) rfl ?_);refine box_event ?hg (N:=2) ?hd (cs:=#[.int .i64 0,.int .i64 0,.int .i64 0,.int .i64 0]) (t:=58) ?hr ?_;(case hd => rfl);(case hg => rfl);(case hr => first|(go_simp;done)|(go_simp;rfl));intro gb152 hg w4 hbox hb;have n0_:=aM (blk_below (g:=gb151) (o:=.cells #[.int .i64 a0_0,.int .i64 a0_1,.int .i64 a0_2,.int .i64 a0_3] 62 (0,0)) (by (with_reducible repeat (first|refine blk_drewN ?_ _|refine blk_drew ?_|refine blk_alloc ?_ _));exact BK151.out) hb);have n1_:=aM (below_step (by repeat (first|(with_reducible first|exact HB.out|apply bA|apply bN|apply bD|refine below_set ?_ GE151.out)|exact HB.out)) hb);have n2_:=aM (hbox);have n3_:=aM ((by rw [hg];exact (below_size (by repeat (first|(with_reducible first|exact HB.out|apply bA|apply bN|apply bD|refine below_set ?_ GE151.out)|exact HB.out))) : w.heap.size ≤ gb152));have n4_:=aM ((by rw [hg];exact (below_size (by repeat (first|(with_reducible first|exact HB.out|apply bA|apply bN|apply bD|refine below_set ?_ GE151.out)|exact HB.out))) : w.heap.size ≤ gb152));have n5_:=aM ((by rw [hg];exact Nat.ne_of_lt (blk_lt (g:=gb151) (o:=.cells #[.int .i64 a0_0,.int .i64 a0_1,.int .i64 a0_2,.int .i64 a0_3] 62 (0,0)) (by (with_reducible repeat (first|refine blk_drewN ?_ _|refine blk_drew ?_|refine blk_alloc ?_ _));exact BK151.out)) : gb151 ≠ gb152));have n6_:=aM ((by rw [hg];exact Nat.ne_of_gt (blk_lt (g:=gb151) (o:=.cells #[.int .i64 a0_0,.int .i64 a0_1,.int .i64 a0_2,.int .i64 a0_3] 62 (0,0)) (by (with_reducible repeat (first|refine blk_drewN ?_ _|refine blk_drew ?_|refine blk_alloc ?_ _));exact BK151.out)) : gb152 ≠ gb151));clear BK151;clear HB;have BK151:=n0_;have HB:=n1_;have BK152:=n2_;have GW152:=n3_;have GE152:=n4_;have NB151_152:=n5_;have NB152_151:=n6_;clear n0_ n1_ n2_ n3_ n4_ n5_ n6_;clear hb hbox hg)|((with_reducible refine gate_dst (N:=3) rfl ?_);refine box_event ?hg (N:=3) ?hd (cs:=#[.int .i64 0,.int .i64 0,.int .i64 0,.int .i64 0]) (t:=58) ?hr ?_;(case hd => rfl);(case hg => rfl);(case hr => first|(go_simp;done)|(go_simp;rfl));intro gb153 hg w5 hbox hb;have n0_:=aM (blk_below (g:=gb151) (o:=.cells #[.int .i64 a0_0,.int .i64 a0_1,.int .i64 a0_2,.int .i64 a0_3] 62 (0,0)) (by (with_reducible repeat (first|refine blk_drewN ?_ _|refine blk_drew ?_|refine blk_alloc ?_ _));exact BK151.out) hb);have n1_:=aM (blk_below (g:=gb152) (o:=.cells #[.int .i64 0,.int .i64 0,.int .i64 0,.int .i64 0] 58 (0,0)) (by (with_reducible repeat (first|refine blk_drewN ?_ _|refine blk_drew ?_|refine blk_alloc ?_ _));exact BK152.out) hb);have n2_:=aM (below_step (by repeat (first|(with_reducible first|exact HB.out|apply bA|apply bN|apply bD|refine below_set ?_ GE151.out|refine below_set ?_ GE152.out)|exact HB.out)) hb);have n3_:=aM (hbox);have n4_:=aM ((by rw [hg];exact (below_size (by repeat (first|(with_reducible first|exact HB.out|apply bA|apply bN|apply bD|refine below_set ?_ GE151.out|refine below_set ?_ GE152.out)|exact HB.out))) : w.heap.size ≤ gb153));have n5_:=aM ((by rw [hg];exact (below_size (by repeat (first|(with_reducible first|exact HB.out|apply bA|apply bN|apply bD|refine below_set ?_ GE151.out|refine below_set ?_ GE152.out)|exact HB.out))) : w.heap.size ≤ gb153));have n6_:=aM ((by rw [hg];exact Nat.ne_of_lt (blk_lt (g:=gb151) (o:=.cells #[.int .i64 a0_0,.int .i64 a0_1,.int .i64 a0_2,.int .i64 a0_3] 62 (0,0)) (by (with_reducible repeat (first|refine blk_drewN ?_ _|refine blk_drew ?_|refine blk_alloc ?_ _));exact BK151.out)) : gb151 ≠ gb153));have n7_:=aM ((by rw [hg];exact Nat.ne_of_gt (blk_lt (g:=gb151) (o:=.cells #[.int .i64 a0_0,.int .i64 a0_1,.int .i64 a0_2,.int .i64 a0_3] 62 (0,0)) (by (with_reducible repeat (first|refine blk_drewN ?_ _|refine blk_drew ?_|refine blk_alloc ?_ _));exact BK151.out)) : gb153 ≠ gb151));have n8_:=aM ((by rw [hg];exact Nat.ne_of_lt (blk_lt (g:=gb152) (o:=.cells #[.int .i64 0,.int .i64 0,.int .i64 0,.int .i64 0] 58 (0,0)) (by (with_reducible repeat (first|refine blk_drewN ?_ _|refine blk_drew ?_|refine blk_alloc ?_ _));exact BK152.out)) : gb152 ≠ gb153));have n9_:=aM ((by rw [hg];exact Nat.ne_of_gt (blk_lt (g:=gb152) (o:=.cells #[.int .i64 0,.int .i64 0,.int .i64 0,.int .i64 0] 58 (0,0)) (by (with_reducible repeat (first|refine blk_drewN ?_ _|refine blk_drew ?_|refine blk_alloc ?_ _));exact BK152.out)) : gb153 ≠ gb152));clear BK151;clear BK152;clear HB;have BK151:=n0_;have BK152:=n1_;have HB:=n2_;have BK153:=n3_;have GW153:=n4_;have GE153:=n5_;have NB151_153:=n6_;have NB153_151:=n7_;have NB152_153:=n8_;have NB153_152:=n9_;clear n0_ n1_ n2_ n3_ n4_ n5_ n6_ n7_ n8_ n9_;clear hb hbox hg;have hnb6:=NB151_152.out;have hnc6:=NB152_151.out;have hnb7:=NB151_153.out;have hnc7:=NB153_151.out;have hcz8_0 : w5.cell? ⟨gb151,0,none⟩ = some (.int .i64 a0_0):=(blk_cell BK151.out 0).trans rfl;have hcz8_1 : w5.cell? ⟨gb151,1,none⟩ = some (.int .i64 a0_1):=(blk_cell BK151.out 1).trans rfl;have hcz8_2 : w5.cell? ⟨gb151,2,none⟩ = some (.int .i64 a0_2):=(blk_cell BK151.out 2).trans rfl;have hcz8_3 : w5.cell? ⟨gb151,3,none⟩ = some (.int .i64 a0_3):=(blk_cell BK151.out 3).trans rfl;have hfz8_0:=blk_frozen BK151.out 0;have hfz8_1:=blk_frozen BK151.out 1;have hfz8_2:=blk_frozen BK151.out 2;have hfz8_3:=blk_frozen BK151.out 3;have hnb9:=NB153_152.out;have hnc9:=NB152_153.out;have hcz10_0 : w5.cell? ⟨gb153,0,none⟩ = some (.int .i64 0):=(blk_cell BK153.out 0).trans rfl;have hcz10_1 : w5.cell? ⟨gb153,1,none⟩ = some (.int .i64 0):=(blk_cell BK153.out 1).trans rfl;have hcz10_2 : w5.cell? ⟨gb153,2,none⟩ = some (.int .i64 0):=(blk_cell BK153.out 2).trans rfl;have hcz10_3 : w5.cell? ⟨gb153,3,none⟩ = some (.int .i64 0):=(blk_cell BK153.out 3).trans rfl;have hfz10_0:=blk_frozen BK153.out 0;have hfz10_1:=blk_frozen BK153.out 1;have hfz10_2:=blk_frozen BK153.out 2;have hfz10_3:=blk_frozen BK153.out 3)|((with_reducible refine gate_callee (f:=51) rfl ?_);refine goesL_ (some 9) rfl rfl Try.func51 (by kernel_rfl) rfl #[.agg #[.int .i64 a0_1,.int .i64 a0_2,.int .i64 a0_3]] rfl (by (try simp only [List.map_toArray,List.map_cons,List.map_nil]);first|done|rfl|(simp only [List.length_drop,List.length_take];rfl)) ?_;(with_reducible refine (laws_toPay.calls a0_1 a0_2 a0_3 t154 t155 t156 _ A2.out).mono ?_);rintro e w11 ⟨rfl,hb⟩;refine ⟨_,rfl,?_⟩;have n0_:=aM (blk_below (g:=gb151) (o:=.cells #[.int .i64 a0_0,.int .i64 a0_1,.int .i64 a0_2,.int .i64 a0_3] 62 (0,0)) (by (with_reducible repeat (first|refine blk_drewN ?_ _|refine blk_drew ?_|refine blk_alloc ?_ _));refine blk_far ?_ NB151_153.out _;(with_reducible repeat (first|refine blk_drewN ?_ _|refine blk_drew ?_|refine blk_alloc ?_ _));exact BK151.out) hb);have n1_:=aM (blk_below (g:=gb152) (o:=.cells #[.int .i64 0,.int .i64 0,.int .i64 0,.int .i64 0] 58 (0,0)) (by (with_reducible repeat (first|refine blk_drewN ?_ _|refine blk_drew ?_|refine blk_alloc ?_ _));refine blk_far ?_ NB152_153.out _;(with_reducible repeat (first|refine blk_drewN ?_ _|refine blk_drew ?_|refine blk_alloc ?_ _));exact BK152.out) hb);have n2_:=aM (blk_below (g:=gb153) (o:=.cells #[.int .i64 a0_0,.int .i64 0,.int .i64 0,.int .i64 0] 58 (0,0)) (by (with_reducible repeat (first|refine blk_drewN ?_ _|refine blk_drew ?_|refine blk_alloc ?_ _));refine blk_put (cs:=#[.int .i64 0,.int .i64 0,.int .i64 0,.int .i64 0]) ?_ 0 _ rfl;(with_reducible repeat (first|refine blk_drewN ?_ _|refine blk_drew ?_|refine blk_alloc ?_ _));exact BK153.out) hb);have n3_:=aM (below_step (by repeat (first|(with_reducible first|exact HB.out|apply bA|apply bN|apply bD|refine below_set ?_ GE151.out|refine below_set ?_ GE152.out|refine below_set ?_ GE153.out)|exact HB.out)) hb);clear BK151;clear BK152;clear BK153;clear HB;have BK151:=n0_;have BK152:=n1_;have BK153:=n2_;have HB:=n3_;clear n0_ n1_ n2_ n3_;(try clear hb);(try clear hb2);(try clear hk);(try clear hi);have hcz12_0 : w11.cell? ⟨gb153,0,none⟩ = some (.int .i64 a0_0):=(blk_cell BK153.out 0).trans rfl;have hcz12_1 : w11.cell? ⟨gb153,1,none⟩ = some (.int .i64 0):=(blk_cell BK153.out 1).trans rfl;have hcz12_2 : w11.cell? ⟨gb153,2,none⟩ = some (.int .i64 0):=(blk_cell BK153.out 2).trans rfl;have hcz12_3 : w11.cell? ⟨gb153,3,none⟩ = some (.int .i64 0):=(blk_cell BK153.out 3).trans rfl;have hfz12_0:=blk_frozen BK153.out 0;have hfz12_1:=blk_frozen BK153.out 1;have hfz12_2:=blk_frozen BK153.out 2;have hfz12_3:=blk_frozen BK153.out 3;have hcz13_0 : w11.cell? ⟨gb152,0,none⟩ = some (.int .i64 0):=(blk_cell BK152.out 0).trans rfl;have hcz13_1 : w11.cell? ⟨gb152,1,none⟩ = some (.int .i64 0):=(blk_cell BK152.out 1).trans rfl;have hcz13_2 : w11.cell? ⟨gb152,2,none⟩ = some (.int .i64 0):=(blk_cell BK152.out 2).trans rfl;have hcz13_3 : w11.cell? ⟨gb152,3,none⟩ = some (.int .i64 0):=(blk_cell BK152.out 3).trans rfl;have hfz13_0:=blk_frozen BK152.out 0;have hfz13_1:=blk_frozen BK152.out 1;have hfz13_2:=blk_frozen BK152.out 2;have hfz13_3:=blk_frozen BK152.out 3))
 refine bodyPost_ret (results_cell_row rfl _ _ gb152 58 #[.int .i64 a0_0,.int .i64 t154,.int .i64 t155,.int .i64 t156] (0,0) _ rfl (by (with_reducible repeat (first|refine blk_drewN ?_ _|refine blk_drew ?_|refine blk_alloc ?_ _));refine blk_put (cs:=#[.int .i64 a0_0,.int .i64 t154,.int .i64 t155,.int .i64 0]) ?_ 3 _ rfl;(with_reducible repeat (first|refine blk_drewN ?_ _|refine blk_drew ?_|refine blk_alloc ?_ _));refine blk_put (cs:=#[.int .i64 a0_0,.int .i64 t154,.int .i64 0,.int .i64 0]) ?_ 2 _ rfl;(with_reducible repeat (first|refine blk_drewN ?_ _|refine blk_drew ?_|refine blk_alloc ?_ _));refine blk_put (cs:=#[.int .i64 a0_0,.int .i64 0,.int .i64 0,.int .i64 0]) ?_ 1 _ rfl;(with_reducible repeat (first|refine blk_drewN ?_ _|refine blk_drew ?_|refine blk_alloc ?_ _));refine blk_put (cs:=#[.int .i64 0,.int .i64 0,.int .i64 0,.int .i64 0]) ?_ 0 _ rfl;(with_reducible repeat (first|refine blk_drewN ?_ _|refine blk_drew ?_|refine blk_alloc ?_ _));refine blk_far ?_ NB152_153.out _;(with_reducible repeat (first|refine blk_drewN ?_ _|refine blk_drew ?_|refine blk_alloc ?_ _));refine blk_far ?_ NB152_153.out _;(with_reducible repeat (first|refine blk_drewN ?_ _|refine blk_drew ?_|refine blk_alloc ?_ _));refine blk_far ?_ NB152_153.out _;(with_reducible repeat (first|refine blk_drewN ?_ _|refine blk_drew ?_|refine blk_alloc ?_ _));exact BK152.out) Try.underlying58 rfl (by kernel_rfl)) rfl ?_
 exact ⟨by first|rfl|(simp only [i64_w,i32_w];done)|(simp only [i64_w,i32_w];rfl)|(simp [errW_none,errW_some] <;> rfl)|(simp [*,errW_none,errW_some] <;> rfl),by repeat (first|(with_reducible first|exact HB.out|apply bA|apply bN|apply bD|refine below_set ?_ GE151.out|refine below_set ?_ GE152.out|refine below_set ?_ GE153.out)|exact HB.out)⟩

/-! ### laws_toItemS: function 14 -/
def laws_toItemS.l0 : Nat → List (S62) → List (S58) → Int → Option ((List (S58)))
 | 0,_,_,_ => none
 | k + 1,x0,x3,x4 => if x4 < (x0.length : Int) then (if 0 ≤ x4 then ((laws_toItem.f ((rd_T62 x0 x4).f0) ((rd_T62 x0 x4).f1.f0) ((rd_T62 x0 x4).f1.f1) ((rd_T62 x0 x4).f1.f2)).bind fun bt161 => (if x4 < (x3.length : Int) then (laws_toItemS.l0 k x0 (x3.set (x4 : Int).toNat (⟨bt161.1,(⟨bt161.2.1,bt161.2.2.1,bt161.2.2.2⟩ : S56)⟩ : S58)) (wrap64 (x4 + 1))) else (none))) else (none)) else (some x3)
def laws_toItemS.f (k : Nat) (l0 : List (S62)) : Option ((List (S58))):=if 0 ≤ (l0.length : Int) then (if ((l0.length : Int) : Int).toNat ≤ 8796093022208 then (laws_toItemS.l0 k l0 (List.replicate ((l0.length : Int) : Int).toNat z58) 0) else (none)) else (none)
theorem laws_toItemS.mono_l : ∀ k,(∀ y0 y1 y2,LeO (laws_toItemS.l0 k y0 y1 y2) (laws_toItemS.l0 (k + 1) y0 y1 y2))
 | 0 => fun _ _ _ r h => by simp [laws_toItemS.l0] at h
 | k + 1 => by
  have ih0:=laws_toItemS.mono_l k
  ·intro y0 y1 y2
   unfold laws_toItemS.l0
   repeat' first
   | exact LeO.refl _
   | exact ih0 _ _ _
   | exact LeO.none _
   | refine LeO.ite ?_ ?_
   | refine LeO.bind ?_ (fun _ => ?_)
theorem laws_toItemS.mono : ∀ a0 k,LeO (laws_toItemS.f k a0) (laws_toItemS.f (k + 1) a0):=by
 intro a0 k
 have ih0:=laws_toItemS.mono_l k
 unfold laws_toItemS.f
 repeat' first
   | exact LeO.refl _
   | exact ih0 _ _ _
   | exact LeO.none _
   | refine LeO.ite ?_ ?_
   | refine LeO.bind ?_ (fun _ => ?_)
set_option maxHeartbeats 8000000 in
set_option maxRecDepth 100000 in
theorem laws_toItemS.calls (k : Nat) (A0 : Option Addr) (c0 : Nat) (l0 : List (S62)) (r : List (S58)) (w : World) (hr0 : Kd.C k62 w A0 l0.length l0) (hc0 : l0.length ≤ c0) (h : laws_toItemS.f k l0 = some r) :
  Calls Try.prog 14 #[.slice A0 l0.length c0] w fun e w' => ∃ v0_ : Value,e = .returned (v0_) ∧ Kd.R k58 58 w' w.heap.size (fun _ => True) v0_ r ∧ Below w.heap.size w w':=by
 have hu62:=Try.underlying62
 have hu58:=Try.underlying58
 have HR0:=aM hr0
 have HC0:=aM hc0
 clear hr0 hc0
 have HB:=aM (Below.refl w.heap.size w)
 have H : (if 0 ≤ (l0.length : Int) then (if ((l0.length : Int) : Int).toNat ≤ 8796093022208 then (laws_toItemS.l0 k l0 (List.replicate ((l0.length : Int) : Int).toNat z58) 0) else (none)) else (none)) = some r:=h
 clear h
 by_cases c2 : 0 ≤ (l0.length : Int)
 case neg => rw [if_neg c2] at H;exact absurd H (by simp)
 rw [if_pos c2] at H
 have c2b0:=eq_true c2
 have c2b1 : decide (0 ≤ (l0.length : Int)) = true:=decide_eq_true c2
 clear c2
 by_cases c3 : ((l0.length : Int) : Int).toNat ≤ 8796093022208
 case neg => rw [if_neg c3] at H;exact absurd H (by simp)
 rw [if_pos c3] at H
 have c3b0:=eq_true c3
 have c3b1 : decide (((l0.length : Int) : Int).toNat ≤ 8796093022208) = true:=decide_eq_true c3
 clear c3
 obtain ⟨y157,hy157⟩ : ∃ y_ : List (S58),y_ = (List.replicate ((l0.length : Int) : Int).toNat z58):=⟨_,rfl⟩
 replace H : (laws_toItemS.l0 k l0 y157 0) = some r:=by first|(rw [hy157];with_reducible exact H)|(have H2_:=(Option.bind_some _ _).symm.trans H;rw [hy157];with_reducible exact H2_)|(have H2_:=(Option.bind_some _ _).symm.trans H;with_reducible exact H2_)|with_reducible exact H|(rw [hy157];exact H)|exact H
 have Ny157:=aM hy157
 clear hy157
 have H':=aM H
 clear H
 go_enter Try.func14,Try.ntmps14
 go_wp2_with (first|((with_reducible refine gate_dst (N:=7) rfl ?_);refine Kd.R_make k58 _ 58 rfl (N:=7) rfl 29 _ _ rfl (l0.length : Int) rfl rfl Try.underlying29 (.agg #[(.int .i64 0),(.int .i64 0),(.int .i64 0),(.int .i64 0)]) 32 info58 rfl (by decide) (by omega) z58 (ok:=fun _ => True) (okp:=fun _ => True) (k58_mkM _ _ _ z58 ) (fun _ hk => hk) trivial (of_decide_eq_true (by first|(with_reducible assumption)|assumption)) (Nat.le_trans (Nat.mul_le_mul_right _ (of_decide_eq_true (by first|(with_reducible assumption)|assumption) : (l0.length : Int).toNat ≤ 8796093022208)) (by omega)) (Below.refl _ _) (Nat.le_refl _) ?_;intro v158 w4 ho5 hb hg_ hnew_;clear hg_ hnew_;(first|rw [← Ny157.out] at ho5|(simp only [Int.reduceToNat] at ho5;rw [← Ny157.out] at ho5));have n0_:=aM (Kd.R_lower ho5 (below_size (by repeat (first|(with_reducible first|exact HB.out|apply bA|apply bN|apply bD)|exact HB.out))));have n1_:=aM (below_step (by repeat (first|(with_reducible first|exact HB.out|apply bA|apply bN|apply bD)|exact HB.out)) hb);clear HB;have HO159:=n0_;have HB:=n1_;clear n0_ n1_;clear hb ho5))
 go_loopg [4] k (fun kq v4 w' => ∃ (x3_1 : List (S58)) (x4_1 : Int),v4 = .int .i64 x4_1 ∧ Aside0 (laws_toItemS.l0 kq l0 x3_1 x4_1 = some r) ∧ Aside0 (kq ≤ k) ∧ Aside0 (Kd.R k58 58 w' w.heap.size (fun _ => True) v158 x3_1) ∧ Aside0 (Below w.heap.size w w'))
 case atStart => exact ⟨(y157),(0),(by first|rfl|(simp;done)|(simp [*];done)),H',⟨Nat.le_refl _⟩,⟨by (with_reducible repeat (first|apply Kd.R_alloc|apply Kd.R_drewN|apply Kd.R_drew));exact HO159.out⟩,⟨by repeat (first|(with_reducible first|exact HB.out|apply bA|apply bN|apply bD)|exact HB.out)⟩⟩
 case round =>
  clear H'
  try clear c1
  try clear c2
  try clear c2b0
  try clear c2b1
  try clear p2
  try clear c3
  try clear c3b0
  try clear c3b1
  obtain ⟨x3_1,x4_1,rfl,HA,HK1,HO_3,HB⟩:=hrel
  cases gk with
  | zero => exact absurd HA.out (by simp [laws_toItemS.l0])
  | succ k1 =>
   have H:=HA.out
   clear HA
   simp only [laws_toItemS.l0] at H
   by_cases c6 : x4_1 < (l0.length : Int)
   ·rw [if_pos c6] at H
    have c6b0 : decide (x4_1 < (l0.length : Int)) = true:=decide_eq_true c6
    clear c6
    by_cases c7 : 0 ≤ x4_1
    case neg => rw [if_neg c7] at H;exact absurd H (by simp)
    rw [if_pos c7] at H
    have c7b0 : decide (0 ≤ x4_1) = true:=decide_eq_true c7
    clear c7
    replace H:=Option.bind_eq_some_iff.mp H
    obtain ⟨⟨t161,t162,t163,t164⟩,A80,H⟩:=H
    replace H : (if x4_1 < (x3_1.length : Int) then (laws_toItemS.l0 k1 l0 (x3_1.set (x4_1 : Int).toNat (⟨t161,(⟨t162,t163,t164⟩ : S56)⟩ : S58)) (wrap64 (x4_1 + 1))) else (none)) = some r:=H
    have A8:=aM A80
    clear A80
    by_cases c9 : x4_1 < (x3_1.length : Int)
    case neg => rw [if_neg c9] at H;exact absurd H (by simp)
    rw [if_pos c9] at H
    have c9b0 : decide (x4_1 < (x3_1.length : Int)) = true:=decide_eq_true c9
    clear c9
    obtain ⟨y165,hy165⟩ : ∃ y_ : List (S58),y_ = (x3_1.set (x4_1 : Int).toNat (⟨t161,(⟨t162,t163,t164⟩ : S56)⟩ : S58)):=⟨_,rfl⟩
    replace H : (laws_toItemS.l0 k1 l0 y165 (wrap64 (x4_1 + 1))) = some r:=by first|(rw [hy165];with_reducible exact H)|(have H2_:=(Option.bind_some _ _).symm.trans H;rw [hy165];with_reducible exact H2_)|(have H2_:=(Option.bind_some _ _).symm.trans H;with_reducible exact H2_)|with_reducible exact H|(rw [hy165];exact H)|exact H
    have Ny165:=aM hy165
    clear hy165
    have H':=aM H
    clear H
    have p160 : 0 ≤ (x4_1 : Int):=of_decide_eq_true (by first|(with_reducible assumption)|assumption)
    have q160 : x4_1 < (l0.length : Int):=of_decide_eq_true (by first|(with_reducible assumption)|assumption)
    obtain ⟨ad160,e160,hx160_0,hx160_1,hx160_2,hx160_3⟩:=at_T62 HR0.out x4_1 p160 q160
    cases e160
    replace hx160_0:=(HB.out.cell (bL w hx160_0)).trans hx160_0
    replace hx160_1:=(HB.out.cell (bL w hx160_1)).trans hx160_1
    replace hx160_2:=(HB.out.cell (bL w hx160_2)).trans hx160_2
    replace hx160_3:=(HB.out.cell (bL w hx160_3)).trans hx160_3
    replace p160:=eq_true p160
    replace q160:=eq_true q160
    go_wp2_with (first|((with_reducible refine gate_callee (f:=36) rfl ?_);refine goesL_ (some 20) rfl rfl Try.func36 (by kernel_rfl) rfl #[.agg #[.int .i64 ((rd_T62 l0 x4_1).f0),.int .i64 ((rd_T62 l0 x4_1).f1.f0),.int .i64 ((rd_T62 l0 x4_1).f1.f1),.int .i64 ((rd_T62 l0 x4_1).f1.f2)]] rfl (by (try simp only [List.map_toArray,List.map_cons,List.map_nil]);first|done|rfl|(simp only [List.length_drop,List.length_take];rfl)) ?_;(with_reducible refine (laws_toItem.calls ((rd_T62 l0 x4_1).f0) ((rd_T62 l0 x4_1).f1.f0) ((rd_T62 l0 x4_1).f1.f1) ((rd_T62 l0 x4_1).f1.f2) t161 t162 t163 t164 _ A8.out).mono ?_);rintro e w11 ⟨rfl,hb⟩;refine ⟨_,rfl,?_⟩;have n0_:=aM (Kd.R_below (by (with_reducible repeat (first|apply Kd.R_alloc|apply Kd.R_drewN|apply Kd.R_drew));exact HO_3.out) hb);have n1_:=aM (below_step (by repeat (first|(with_reducible first|exact HB.out|apply bA|apply bN|apply bD)|exact HB.out)) hb);clear HO_3;clear HB;have HO_3:=n0_;have HB:=n1_;clear n0_ n1_;(try clear hb);(try clear hb2);(try clear hk);(try clear hi);have p10 : 0 ≤ (x4_1 : Int):=of_decide_eq_true (by first|(with_reducible assumption)|assumption);have q10 : (x4_1 : Int) < ((x3_1.length : Int) : Int):=of_decide_eq_true (by first|(with_reducible assumption)|assumption);obtain ⟨go10,co10,eo10,gb10,gl10,cl10,HG10⟩:=Kd.R_form HO_3.out (by omega);(first|cases eo10|(injection eo10 with ea_ en_ ec_;(first|subst ea_|(injection ea_ with ea_;subst ea_));subst ec_;clear en_));have GB10:=aM gb10;have GG10:=aM HG10;clear gb10 gl10 HG10;obtain ⟨ce10,hcl10,hM10,hcc10,hfr10⟩:=Kd.R_elem HO_3.out z58 (x4_1 : Int) p10 q10;obtain rfl:=k58_openM hM10;have hx10_0 : w11.cell? ⟨go10,(x4_1 : Int).toNat * 4,none⟩ = some (.int .i64 ((rd_T58 x3_1 x4_1).f0)):=hcc10 0 _ rfl;have hx10_1 : w11.cell? ⟨go10,(x4_1 : Int).toNat * 4 + 1,none⟩ = some (.int .i64 ((rd_T58 x3_1 x4_1).f1.f0)):=hcc10 1 _ rfl;have hx10_2 : w11.cell? ⟨go10,(x4_1 : Int).toNat * 4 + 2,none⟩ = some (.int .i64 ((rd_T58 x3_1 x4_1).f1.f1)):=hcc10 2 _ rfl;have hx10_3 : w11.cell? ⟨go10,(x4_1 : Int).toNat * 4 + 3,none⟩ = some (.int .i64 ((rd_T58 x3_1 x4_1).f1.f2)):=hcc10 3 _ rfl;have hf10_0 : w11.frozen? ⟨go10,(x4_1 : Int).toNat * 4,none⟩ = false:=hfr10 0;have hf10_1 : w11.frozen? ⟨go10,(x4_1 : Int).toNat * 4 + 1,none⟩ = false:=hfr10 1;have hf10_2 : w11.frozen? ⟨go10,(x4_1 : Int).toNat * 4 + 2,none⟩ = false:=hfr10 2;have hf10_3 : w11.frozen? ⟨go10,(x4_1 : Int).toNat * 4 + 3,none⟩ = false:=hfr10 3;clear hcl10 hcc10 hfr10 hM10;replace p10:=eq_true p10;replace q10:=eq_true q10;have HX12:=aM (show Kd.R k58 58 w11 w.heap.size (fun _ => True) (.slice (some ⟨go10,0,none⟩) x3_1.length co10) x3_1 from (by (with_reducible repeat (first|apply Kd.R_alloc|apply Kd.R_drewN|apply Kd.R_drew));exact HO_3.out));obtain ⟨ce12,hcl12,hM12,hcc12,hfr12⟩:=Kd.R_elem HX12.out z58 (x4_1 : Int) (of_decide_eq_true (by first|(with_reducible assumption)|assumption)) (by have h_ : (x4_1 : Int) < ((x3_1.length : Int) : Int):=of_decide_eq_true (by first|(with_reducible assumption)|assumption);first|exact h_|(have e_:=(Kd.R_reads' HO_3.out).1;omega)|simpa using h_);obtain rfl:=k58_openM hM12;have HP12:=Kd.R_seg HX12.out (x4_1 : Int) (of_decide_eq_true (by first|(with_reducible assumption)|assumption)) (by have h_ : (x4_1 : Int) < ((x3_1.length : Int) : Int):=of_decide_eq_true (by first|(with_reducible assumption)|assumption);first|exact h_|(have e_:=(Kd.R_reads' HO_3.out).1;omega)|simpa using h_) (seg:=[.int .i64 t161,.int .i64 t162,.int .i64 t163,.int .i64 t164]) (j:=0) hcl12 hcc12 (show 4 ≤ 4 from by decide) (x':=(⟨t161,(⟨t162,t163,t164⟩ : S56)⟩ : S58)) (k58_mkM _ _ _ (⟨t161,(⟨t162,t163,t164⟩ : S56)⟩ : S58) ) (fun _ hk => hk);have hx12_0:=hcc12 0 _ rfl;(try simp only [show (k58).sz = 4 from rfl,Nat.mul_one,Nat.add_zero] at hx12_0);have hf12_0:=hfr12 0;(try simp only [show (k58).sz = 4 from rfl,Nat.mul_one,Nat.add_zero] at hf12_0);have hx12_1:=hcc12 1 _ rfl;(try simp only [show (k58).sz = 4 from rfl,Nat.mul_one,Nat.add_zero] at hx12_1);have hf12_1:=hfr12 1;(try simp only [show (k58).sz = 4 from rfl,Nat.mul_one,Nat.add_zero] at hf12_1);have hx12_2:=hcc12 2 _ rfl;(try simp only [show (k58).sz = 4 from rfl,Nat.mul_one,Nat.add_zero] at hx12_2);have hf12_2:=hfr12 2;(try simp only [show (k58).sz = 4 from rfl,Nat.mul_one,Nat.add_zero] at hf12_2);have hx12_3:=hcc12 3 _ rfl;(try simp only [show (k58).sz = 4 from rfl,Nat.mul_one,Nat.add_zero] at hx12_3);have hf12_3:=hfr12 3;(try simp only [show (k58).sz = 4 from rfl,Nat.mul_one,Nat.add_zero] at hf12_3);clear hcl12 hcc12 hfr12 hM12)|((with_reducible refine gate_store (t:=58) (p:=21) rfl ?_);refine store_event (t:=58) (p:=21) (v:=?vo_w13) (w1:=((((w11.setCell ⟨go10,(x4_1 : Int).toNat * 4,none⟩ (.int .i64 t161)).setCell ⟨go10,(x4_1 : Int).toNat * 4 + 1,none⟩ (.int .i64 t162)).setCell ⟨go10,(x4_1 : Int).toNat * 4 + 2,none⟩ (.int .i64 t163)).setCell ⟨go10,(x4_1 : Int).toNat * 4 + 3,none⟩ (.int .i64 t164))) ?hg ?ho ?hn ?hr ?_;(case ho => rfl);(case hg => rfl);(case hn => rfl);(case hr => first|(go_simp;done)|(go_simp;rfl));intro w13 hw;have hg : w11.grownBy w13 (some go10):=(by rw [hw];exact HP12.2);have hp_ : Kd.R k58 58 w13 w.heap.size (fun _ => True) (.slice (some ⟨go10,0,none⟩) x3_1.length co10) y165:=(by rw [hw,Ny165.out];exact HP12.1);clear HP12;have n0_:=aM (hp_);have n1_:=aM ((by rw [hw];exact below_set (below_set (below_set (below_set (HB.out) GB10.out) GB10.out) GB10.out) GB10.out : Below w.heap.size w w13));clear HO_3;clear HB;have HO_3:=n0_;have HB:=n1_;clear n0_ n1_;clear hg hw hp_))
    go_roundg k1
    case measure => have:=HK1.out;omega
    case rel => exact ⟨(y165),(wrap64 (x4_1 + 1)),(by first|rfl|(simp;done)|(simp [*];done)),H',⟨by have:=HK1.out;omega⟩,⟨by (with_reducible repeat (first|apply Kd.R_alloc|apply Kd.R_drewN|apply Kd.R_drew));exact HO_3.out⟩,⟨by repeat (first|(with_reducible first|exact HB.out|apply bA|apply bN|apply bD)|exact HB.out)⟩⟩
   ·rw [if_neg c6] at H
    have c6b0 : decide (x4_1 < (l0.length : Int)) = false:=decide_eq_false c6
    clear c6
    obtain rfl:=Option.some.inj H
    go_wp2
    go_ret
    exact ⟨_,by first|rfl|(simp only [i64_w,i32_w];done)|(simp only [i64_w,i32_w];rfl)|(simp [errW_none,errW_some] <;> rfl)|(simp [*,errW_none,errW_some] <;> rfl),by (with_reducible repeat (first|apply Kd.R_alloc|apply Kd.R_drewN|apply Kd.R_drew));exact HO_3.out,by repeat (first|(with_reducible first|exact HB.out|apply bA|apply bN|apply bD)|exact HB.out)⟩

/-! ### laws_toVote: function 35 -/
def laws_toVote.f (k : Nat) (a0_0 : Int) (l0_1 : List (S62)) : Option (Int × (List (S58))):=(laws_toItemS.f k l0_1).bind fun t169 => (some (a0_0,t169))
theorem laws_toVote.mono : ∀ a0 a1 k,LeO (laws_toVote.f k a0 a1) (laws_toVote.f (k + 1) a0 a1):=by
 intro a0 a1 k
 unfold laws_toVote.f
 repeat' first
   | exact LeO.refl _
   | exact laws_toItemS.mono _ _
   | exact LeO.none _
   | refine LeO.ite ?_ ?_
   | refine LeO.bind ?_ (fun _ => ?_)
set_option maxHeartbeats 8000000 in
set_option maxRecDepth 100000 in
theorem laws_toVote.calls (k : Nat) (a0_0 : Int) (A0_1 : Option Addr) (c0_1 : Nat) (l0_1 : List (S62)) (r1 : Int) (r2 : List (S58)) (w : World) (hr0_1 : Kd.C k62 w A0_1 l0_1.length l0_1) (hc0_1 : l0_1.length ≤ c0_1) (h : laws_toVote.f k a0_0 l0_1 = some (r1,r2)) :
  Calls Try.prog 35 #[.agg #[.int .i64 a0_0,.slice A0_1 l0_1.length c0_1]] w fun e w' => ∃ v1_ : Value,e = .returned (.agg #[.int .i64 r1,v1_]) ∧ Kd.R k58 58 w' w.heap.size (fun _ => True) v1_ r2 ∧ Below w.heap.size w w':=by
 have hu53:=Try.underlying53
 have hu48:=Try.underlying48
 have HR0_1:=aM hr0_1
 have HC0_1:=aM hc0_1
 clear hr0_1 hc0_1
 have HB:=aM (Below.refl w.heap.size w)
 have H : ((laws_toItemS.f k l0_1).bind fun t169 => (some (a0_0,t169))) = some (r1,r2):=h
 clear h
 replace H:=Option.bind_eq_some_iff.mp H
 obtain ⟨t169,A20,H⟩:=H
 replace H : (some (a0_0,t169)) = some (r1,r2):=H
 have A2:=aM A20
 clear A20
 simp only [Option.some.injEq,Prod.mk.injEq] at H
 obtain ⟨rfl,rfl⟩:=H
 go_enter Try.func35,Try.ntmps35
 go_wp2_with (first|((with_reducible refine gate_dst (N:=1) rfl ?_);refine box_event ?hg (N:=1) ?hd (cs:=#[.int .i64 a0_0,.slice A0_1 l0_1.length c0_1]) (t:=53) ?hr ?_;(case hd => rfl);(case hg => rfl);(case hr => first|(go_simp;done)|(go_simp;rfl));intro gb166 hg w3 hbox hb;have n0_:=aM (below_step (by repeat (first|(with_reducible first|exact HB.out|apply bA|apply bN|apply bD)|exact HB.out)) hb);have n1_:=aM (hbox);have n2_:=aM ((by rw [hg];exact (below_size (by repeat (first|(with_reducible first|exact HB.out|apply bA|apply bN|apply bD)|exact HB.out))) : w.heap.size ≤ gb166));have n3_:=aM ((by rw [hg];exact (below_size (by repeat (first|(with_reducible first|exact HB.out|apply bA|apply bN|apply bD)|exact HB.out))) : w.heap.size ≤ gb166));clear HB;have HB:=n0_;have BK166:=n1_;have GW166:=n2_;have GE166:=n3_;clear n0_ n1_ n2_ n3_;clear hb hbox hg)|((with_reducible refine gate_dst (N:=2) rfl ?_);refine box_event ?hg (N:=2) ?hd (cs:=#[.int .i64 0,.slice none 0 0]) (t:=48) ?hr ?_;(case hd => rfl);(case hg => rfl);(case hr => first|(go_simp;done)|(go_simp;rfl));intro gb167 hg w4 hbox hb;have n0_:=aM (blk_below (g:=gb166) (o:=.cells #[.int .i64 a0_0,.slice A0_1 l0_1.length c0_1] 53 (0,0)) (by (with_reducible repeat (first|refine blk_drewN ?_ _|refine blk_drew ?_|refine blk_alloc ?_ _));exact BK166.out) hb);have n1_:=aM (below_step (by repeat (first|(with_reducible first|exact HB.out|apply bA|apply bN|apply bD|refine below_set ?_ GE166.out)|exact HB.out)) hb);have n2_:=aM (hbox);have n3_:=aM ((by rw [hg];exact (below_size (by repeat (first|(with_reducible first|exact HB.out|apply bA|apply bN|apply bD|refine below_set ?_ GE166.out)|exact HB.out))) : w.heap.size ≤ gb167));have n4_:=aM ((by rw [hg];exact (below_size (by repeat (first|(with_reducible first|exact HB.out|apply bA|apply bN|apply bD|refine below_set ?_ GE166.out)|exact HB.out))) : w.heap.size ≤ gb167));have n5_:=aM ((by rw [hg];exact Nat.ne_of_lt (blk_lt (g:=gb166) (o:=.cells #[.int .i64 a0_0,.slice A0_1 l0_1.length c0_1] 53 (0,0)) (by (with_reducible repeat (first|refine blk_drewN ?_ _|refine blk_drew ?_|refine blk_alloc ?_ _));exact BK166.out)) : gb166 ≠ gb167));have n6_:=aM ((by rw [hg];exact Nat.ne_of_gt (blk_lt (g:=gb166) (o:=.cells #[.int .i64 a0_0,.slice A0_1 l0_1.length c0_1] 53 (0,0)) (by (with_reducible repeat (first|refine blk_drewN ?_ _|refine blk_drew ?_|refine blk_alloc ?_ _));exact BK166.out)) : gb167 ≠ gb166));clear BK166;clear HB;have BK166:=n0_;have HB:=n1_;have BK167:=n2_;have GW167:=n3_;have GE167:=n4_;have NB166_167:=n5_;have NB167_166:=n6_;clear n0_ n1_ n2_ n3_ n4_ n5_ n6_;clear hb hbox hg)|((with_reducible refine gate_dst (N:=3) rfl ?_);refine box_event ?hg (N:=3) ?hd (cs:=#[.int .i64 0,.slice none 0 0]) (t:=48) ?hr ?_;(case hd => rfl);(case hg => rfl);(case hr => first|(go_simp;done)|(go_simp;rfl));intro gb168 hg w5 hbox hb;have n0_:=aM (blk_below (g:=gb166) (o:=.cells #[.int .i64 a0_0,.slice A0_1 l0_1.length c0_1] 53 (0,0)) (by (with_reducible repeat (first|refine blk_drewN ?_ _|refine blk_drew ?_|refine blk_alloc ?_ _));exact BK166.out) hb);have n1_:=aM (blk_below (g:=gb167) (o:=.cells #[.int .i64 0,.slice none 0 0] 48 (0,0)) (by (with_reducible repeat (first|refine blk_drewN ?_ _|refine blk_drew ?_|refine blk_alloc ?_ _));exact BK167.out) hb);have n2_:=aM (below_step (by repeat (first|(with_reducible first|exact HB.out|apply bA|apply bN|apply bD|refine below_set ?_ GE166.out|refine below_set ?_ GE167.out)|exact HB.out)) hb);have n3_:=aM (hbox);have n4_:=aM ((by rw [hg];exact (below_size (by repeat (first|(with_reducible first|exact HB.out|apply bA|apply bN|apply bD|refine below_set ?_ GE166.out|refine below_set ?_ GE167.out)|exact HB.out))) : w.heap.size ≤ gb168));have n5_:=aM ((by rw [hg];exact (below_size (by repeat (first|(with_reducible first|exact HB.out|apply bA|apply bN|apply bD|refine below_set ?_ GE166.out|refine below_set ?_ GE167.out)|exact HB.out))) : w.heap.size ≤ gb168));have n6_:=aM ((by rw [hg];exact Nat.ne_of_lt (blk_lt (g:=gb166) (o:=.cells #[.int .i64 a0_0,.slice A0_1 l0_1.length c0_1] 53 (0,0)) (by (with_reducible repeat (first|refine blk_drewN ?_ _|refine blk_drew ?_|refine blk_alloc ?_ _));exact BK166.out)) : gb166 ≠ gb168));have n7_:=aM ((by rw [hg];exact Nat.ne_of_gt (blk_lt (g:=gb166) (o:=.cells #[.int .i64 a0_0,.slice A0_1 l0_1.length c0_1] 53 (0,0)) (by (with_reducible repeat (first|refine blk_drewN ?_ _|refine blk_drew ?_|refine blk_alloc ?_ _));exact BK166.out)) : gb168 ≠ gb166));have n8_:=aM ((by rw [hg];exact Nat.ne_of_lt (blk_lt (g:=gb167) (o:=.cells #[.int .i64 0,.slice none 0 0] 48 (0,0)) (by (with_reducible repeat (first|refine blk_drewN ?_ _|refine blk_drew ?_|refine blk_alloc ?_ _));exact BK167.out)) : gb167 ≠ gb168));have n9_:=aM ((by rw [hg];exact Nat.ne_of_gt (blk_lt (g:=gb167) (o:=.cells #[.int .i64 0,.slice none 0 0] 48 (0,0)) (by (with_reducible repeat (first|refine blk_drewN ?_ _|refine blk_drew ?_|refine blk_alloc ?_ _));exact BK167.out)) : gb168 ≠ gb167));clear BK166;clear BK167;clear HB;have BK166:=n0_;have BK167:=n1_;have HB:=n2_;have BK168:=n3_;have GW168:=n4_;have GE168:=n5_;have NB166_168:=n6_;have NB168_166:=n7_;have NB167_168:=n8_;have NB168_167:=n9_;clear n0_ n1_ n2_ n3_ n4_ n5_ n6_ n7_ n8_ n9_;clear hb hbox hg;have hnb6:=NB166_167.out;have hnc6:=NB167_166.out;have hnb7:=NB166_168.out;have hnc7:=NB168_166.out;have hcz8_0 : w5.cell? ⟨gb166,0,none⟩ = some (.int .i64 a0_0):=(blk_cell BK166.out 0).trans rfl;have hcz8_1 : w5.cell? ⟨gb166,1,none⟩ = some (.slice A0_1 l0_1.length c0_1):=(blk_cell BK166.out 1).trans rfl;have hfz8_0:=blk_frozen BK166.out 0;have hfz8_1:=blk_frozen BK166.out 1;have hnb9:=NB168_167.out;have hnc9:=NB167_168.out;have hcz10_0 : w5.cell? ⟨gb168,0,none⟩ = some (.int .i64 0):=(blk_cell BK168.out 0).trans rfl;have hcz10_1 : w5.cell? ⟨gb168,1,none⟩ = some (.slice none 0 0):=(blk_cell BK168.out 1).trans rfl;have hfz10_0:=blk_frozen BK168.out 0;have hfz10_1:=blk_frozen BK168.out 1)|((with_reducible refine gate_callee (f:=14) rfl ?_);refine goesL_ (some 9) rfl rfl Try.func14 (by kernel_rfl) rfl #[.slice A0_1 l0_1.length c0_1] rfl (by (try simp only [List.map_toArray,List.map_cons,List.map_nil]);first|done|rfl|(simp only [List.length_drop,List.length_take];rfl)) ?_;(with_reducible refine (laws_toItemS.calls k _ _ l0_1 t169 _ ?side1 ?side2 A2.out).mono ?_);(case side1 => exact Kd.C_below HR0_1.out (by repeat (first|(with_reducible first|exact HB.out|apply bA|apply bN|apply bD|refine below_set ?_ GE166.out|refine below_set ?_ GE167.out|refine below_set ?_ GE168.out)|exact HB.out)));(case side2 => exact HC0_1.out);rintro e w11 ⟨v170,rfl,ho0,hb⟩;refine ⟨_,rfl,?_⟩;have n0_:=aM (Kd.R_lower ho0 (below_size (by repeat (first|(with_reducible first|exact HB.out|apply bA|apply bN|apply bD|refine below_set ?_ GE166.out|refine below_set ?_ GE167.out|refine below_set ?_ GE168.out)|exact HB.out))));have n1_:=aM (blk_below (g:=gb166) (o:=.cells #[.int .i64 a0_0,.slice A0_1 l0_1.length c0_1] 53 (0,0)) (by (with_reducible repeat (first|refine blk_drewN ?_ _|refine blk_drew ?_|refine blk_alloc ?_ _));refine blk_far ?_ NB166_168.out _;(with_reducible repeat (first|refine blk_drewN ?_ _|refine blk_drew ?_|refine blk_alloc ?_ _));exact BK166.out) hb);have n2_:=aM (blk_below (g:=gb167) (o:=.cells #[.int .i64 0,.slice none 0 0] 48 (0,0)) (by (with_reducible repeat (first|refine blk_drewN ?_ _|refine blk_drew ?_|refine blk_alloc ?_ _));refine blk_far ?_ NB167_168.out _;(with_reducible repeat (first|refine blk_drewN ?_ _|refine blk_drew ?_|refine blk_alloc ?_ _));exact BK167.out) hb);have n3_:=aM (blk_below (g:=gb168) (o:=.cells #[.int .i64 a0_0,.slice none 0 0] 48 (0,0)) (by (with_reducible repeat (first|refine blk_drewN ?_ _|refine blk_drew ?_|refine blk_alloc ?_ _));refine blk_put (cs:=#[.int .i64 0,.slice none 0 0]) ?_ 0 _ rfl;(with_reducible repeat (first|refine blk_drewN ?_ _|refine blk_drew ?_|refine blk_alloc ?_ _));exact BK168.out) hb);have n4_:=aM (below_step (by repeat (first|(with_reducible first|exact HB.out|apply bA|apply bN|apply bD|refine below_set ?_ GE166.out|refine below_set ?_ GE167.out|refine below_set ?_ GE168.out)|exact HB.out)) hb);clear BK166;clear BK167;clear BK168;clear HB;have HO171:=n0_;have BK166:=n1_;have BK167:=n2_;have BK168:=n3_;have HB:=n4_;clear n0_ n1_ n2_ n3_ n4_;(try clear hb);(try clear hb2);(try clear hk);(try clear hi);(try clear ho0);obtain ⟨Ao12,co12,eo12⟩:=Kd.R_slice HO171.out;subst eo12;have hcz13_0 : w11.cell? ⟨gb168,0,none⟩ = some (.int .i64 a0_0):=(blk_cell BK168.out 0).trans rfl;have hcz13_1 : w11.cell? ⟨gb168,1,none⟩ = some (.slice none 0 0):=(blk_cell BK168.out 1).trans rfl;have hfz13_0:=blk_frozen BK168.out 0;have hfz13_1:=blk_frozen BK168.out 1;have hcz14_0 : w11.cell? ⟨gb167,0,none⟩ = some (.int .i64 0):=(blk_cell BK167.out 0).trans rfl;have hcz14_1 : w11.cell? ⟨gb167,1,none⟩ = some (.slice none 0 0):=(blk_cell BK167.out 1).trans rfl;have hfz14_0:=blk_frozen BK167.out 0;have hfz14_1:=blk_frozen BK167.out 1))
 refine bodyPost_ret (results_cell_row rfl _ _ gb167 48 #[.int .i64 a0_0,.slice Ao12 t169.length co12] (0,0) _ rfl (by (with_reducible repeat (first|refine blk_drewN ?_ _|refine blk_drew ?_|refine blk_alloc ?_ _));refine blk_put (cs:=#[.int .i64 a0_0,.slice none 0 0]) ?_ 1 _ rfl;(with_reducible repeat (first|refine blk_drewN ?_ _|refine blk_drew ?_|refine blk_alloc ?_ _));refine blk_put (cs:=#[.int .i64 0,.slice none 0 0]) ?_ 0 _ rfl;(with_reducible repeat (first|refine blk_drewN ?_ _|refine blk_drew ?_|refine blk_alloc ?_ _));refine blk_far ?_ NB167_168.out _;(with_reducible repeat (first|refine blk_drewN ?_ _|refine blk_drew ?_|refine blk_alloc ?_ _));exact BK167.out) Try.underlying48 rfl (by kernel_rfl)) rfl ?_
 exact ⟨_,by first|rfl|(simp only [i64_w,i32_w];done)|(simp only [i64_w,i32_w];rfl)|(simp [errW_none,errW_some] <;> rfl)|(simp [*,errW_none,errW_some] <;> rfl),by (with_reducible repeat (first|apply Kd.R_alloc|apply Kd.R_drewN|apply Kd.R_drew));exact Kd.R_mono (Kd.R_far (p:=⟨gb167,1,none⟩) (Kd.R_far (p:=⟨gb167,0,none⟩) (Kd.R_far (p:=⟨gb168,1,none⟩) (Kd.R_types (Kd.R_types HO171.out BK168.out (by decide)) BK167.out (by decide)) (fun _ hk => hk.1.2) (.slice Ao12 t169.length co12)) (fun _ hk => hk.2) (.int .i64 a0_0)) (fun _ hk => hk.2) (.slice Ao12 t169.length co12)) (fun _ hk => trivial),by repeat (first|(with_reducible first|exact HB.out|apply bA|apply bN|apply bD|refine below_set ?_ GE166.out|refine below_set ?_ GE167.out|refine below_set ?_ GE168.out)|exact HB.out)⟩

/-! ### laws_toVoteS: function 13 -/
def laws_toVoteS.l0 : Nat → List (S53) → List (S48) → Int → Option ((List (S48)))
 | 0,_,_,_ => none
 | k + 1,x0,x3,x4 => if x4 < (x0.length : Int) then (if 0 ≤ x4 then ((laws_toVote.f k ((rd_T53 x0 x4).f0) ((rd_T53 x0 x4).f1)).bind fun bt176 => (if x4 < (x3.length : Int) then (laws_toVoteS.l0 k x0 (x3.set (x4 : Int).toNat (⟨bt176.1,bt176.2⟩ : S48)) (wrap64 (x4 + 1))) else (none))) else (none)) else (some x3)
def laws_toVoteS.f (k : Nat) (l0 : List (S53)) : Option ((List (S48))):=if 0 ≤ (l0.length : Int) then (if ((l0.length : Int) : Int).toNat ≤ 8796093022208 then (laws_toVoteS.l0 k l0 (List.replicate ((l0.length : Int) : Int).toNat z48) 0) else (none)) else (none)
theorem laws_toVoteS.mono_l : ∀ k,(∀ y0 y1 y2,LeO (laws_toVoteS.l0 k y0 y1 y2) (laws_toVoteS.l0 (k + 1) y0 y1 y2))
 | 0 => fun _ _ _ r h => by simp [laws_toVoteS.l0] at h
 | k + 1 => by
  have ih0:=laws_toVoteS.mono_l k
  ·intro y0 y1 y2
   unfold laws_toVoteS.l0
   repeat' first
   | exact LeO.refl _
   | exact ih0 _ _ _
   | exact laws_toVote.mono _ _ _
   | exact LeO.none _
   | refine LeO.ite ?_ ?_
   | refine LeO.bind ?_ (fun _ => ?_)
theorem laws_toVoteS.mono : ∀ a0 k,LeO (laws_toVoteS.f k a0) (laws_toVoteS.f (k + 1) a0):=by
 intro a0 k
 have ih0:=laws_toVoteS.mono_l k
 unfold laws_toVoteS.f
 repeat' first
   | exact LeO.refl _
   | exact ih0 _ _ _
   | exact laws_toVote.mono _ _ _
   | exact LeO.none _
   | refine LeO.ite ?_ ?_
   | refine LeO.bind ?_ (fun _ => ?_)
set_option maxHeartbeats 8000000 in
set_option maxRecDepth 100000 in
theorem laws_toVoteS.calls (k : Nat) (A0 : Option Addr) (c0 : Nat) (l0 : List (S53)) (r : List (S48)) (w : World) (hr0 : Kd.C k53 w A0 l0.length l0) (hc0 : l0.length ≤ c0) (h : laws_toVoteS.f k l0 = some r) :
  Calls Try.prog 13 #[.slice A0 l0.length c0] w fun e w' => ∃ v0_ : Value,e = .returned (v0_) ∧ Kd.R k48 48 w' w.heap.size (fun _ => True) v0_ r ∧ Below w.heap.size w w':=by
 have hu53:=Try.underlying53
 have hu48:=Try.underlying48
 have HR0:=aM hr0
 have HC0:=aM hc0
 clear hr0 hc0
 have HB:=aM (Below.refl w.heap.size w)
 have H : (if 0 ≤ (l0.length : Int) then (if ((l0.length : Int) : Int).toNat ≤ 8796093022208 then (laws_toVoteS.l0 k l0 (List.replicate ((l0.length : Int) : Int).toNat z48) 0) else (none)) else (none)) = some r:=h
 clear h
 by_cases c2 : 0 ≤ (l0.length : Int)
 case neg => rw [if_neg c2] at H;exact absurd H (by simp)
 rw [if_pos c2] at H
 have c2b0:=eq_true c2
 have c2b1 : decide (0 ≤ (l0.length : Int)) = true:=decide_eq_true c2
 clear c2
 by_cases c3 : ((l0.length : Int) : Int).toNat ≤ 8796093022208
 case neg => rw [if_neg c3] at H;exact absurd H (by simp)
 rw [if_pos c3] at H
 have c3b0:=eq_true c3
 have c3b1 : decide (((l0.length : Int) : Int).toNat ≤ 8796093022208) = true:=decide_eq_true c3
 clear c3
 obtain ⟨y172,hy172⟩ : ∃ y_ : List (S48),y_ = (List.replicate ((l0.length : Int) : Int).toNat z48):=⟨_,rfl⟩
 replace H : (laws_toVoteS.l0 k l0 y172 0) = some r:=by first|(rw [hy172];with_reducible exact H)|(have H2_:=(Option.bind_some _ _).symm.trans H;rw [hy172];with_reducible exact H2_)|(have H2_:=(Option.bind_some _ _).symm.trans H;with_reducible exact H2_)|with_reducible exact H|(rw [hy172];exact H)|exact H
 have Ny172:=aM hy172
 clear hy172
 have H':=aM H
 clear H
 go_enter Try.func13,Try.ntmps13
 go_wp2_with (first|((with_reducible refine gate_dst (N:=7) rfl ?_);refine Kd.R_make k48 _ 48 rfl (N:=7) rfl 27 _ _ rfl (l0.length : Int) rfl rfl Try.underlying27 (.agg #[(.int .i64 0),(.slice none 0 0)]) 32 info48 rfl (by decide) (by omega) z48 (ok:=fun _ => True) (okp:=fun _ => True) (k48_mkM _ _ _ z48 (Kd.R_nil _ _ _ _ _)) (fun _ hk => hk) trivial (of_decide_eq_true (by first|(with_reducible assumption)|assumption)) (Nat.le_trans (Nat.mul_le_mul_right _ (of_decide_eq_true (by first|(with_reducible assumption)|assumption) : (l0.length : Int).toNat ≤ 8796093022208)) (by omega)) (Below.refl _ _) (Nat.le_refl _) ?_;intro v173 w4 ho5 hb hg_ hnew_;clear hg_ hnew_;(first|rw [← Ny172.out] at ho5|(simp only [Int.reduceToNat] at ho5;rw [← Ny172.out] at ho5));have n0_:=aM (Kd.R_lower ho5 (below_size (by repeat (first|(with_reducible first|exact HB.out|apply bA|apply bN|apply bD)|exact HB.out))));have n1_:=aM (below_step (by repeat (first|(with_reducible first|exact HB.out|apply bA|apply bN|apply bD)|exact HB.out)) hb);clear HB;have HO174:=n0_;have HB:=n1_;clear n0_ n1_;clear hb ho5))
 go_loopg [4] k (fun kq v4 w' => ∃ (x3_1 : List (S48)) (x4_1 : Int),v4 = .int .i64 x4_1 ∧ Aside0 (laws_toVoteS.l0 kq l0 x3_1 x4_1 = some r) ∧ Aside0 (kq ≤ k) ∧ Aside0 (Kd.R k48 48 w' w.heap.size (fun _ => True) v173 x3_1) ∧ Aside0 (Below w.heap.size w w'))
 case atStart => exact ⟨(y172),(0),(by first|rfl|(simp;done)|(simp [*];done)),H',⟨Nat.le_refl _⟩,⟨by (with_reducible repeat (first|apply Kd.R_alloc|apply Kd.R_drewN|apply Kd.R_drew));exact HO174.out⟩,⟨by repeat (first|(with_reducible first|exact HB.out|apply bA|apply bN|apply bD)|exact HB.out)⟩⟩
 case round =>
  clear H'
  try clear c1
  try clear c2
  try clear c2b0
  try clear c2b1
  try clear p2
  try clear c3
  try clear c3b0
  try clear c3b1
  obtain ⟨x3_1,x4_1,rfl,HA,HK1,HO_3,HB⟩:=hrel
  cases gk with
  | zero => exact absurd HA.out (by simp [laws_toVoteS.l0])
  | succ k1 =>
   have H:=HA.out
   clear HA
   simp only [laws_toVoteS.l0] at H
   by_cases c6 : x4_1 < (l0.length : Int)
   ·rw [if_pos c6] at H
    have c6b0 : decide (x4_1 < (l0.length : Int)) = true:=decide_eq_true c6
    clear c6
    by_cases c7 : 0 ≤ x4_1
    case neg => rw [if_neg c7] at H;exact absurd H (by simp)
    rw [if_pos c7] at H
    have c7b0 : decide (0 ≤ x4_1) = true:=decide_eq_true c7
    clear c7
    replace H:=Option.bind_eq_some_iff.mp H
    obtain ⟨⟨t176,t177⟩,A80,H⟩:=H
    replace H : (if x4_1 < (x3_1.length : Int) then (laws_toVoteS.l0 k1 l0 (x3_1.set (x4_1 : Int).toNat (⟨t176,t177⟩ : S48)) (wrap64 (x4_1 + 1))) else (none)) = some r:=H
    have A8:=aM A80
    clear A80
    by_cases c9 : x4_1 < (x3_1.length : Int)
    case neg => rw [if_neg c9] at H;exact absurd H (by simp)
    rw [if_pos c9] at H
    have c9b0 : decide (x4_1 < (x3_1.length : Int)) = true:=decide_eq_true c9
    clear c9
    obtain ⟨y180,hy180⟩ : ∃ y_ : List (S48),y_ = (x3_1.set (x4_1 : Int).toNat (⟨t176,t177⟩ : S48)):=⟨_,rfl⟩
    replace H : (laws_toVoteS.l0 k1 l0 y180 (wrap64 (x4_1 + 1))) = some r:=by first|(rw [hy180];with_reducible exact H)|(have H2_:=(Option.bind_some _ _).symm.trans H;rw [hy180];with_reducible exact H2_)|(have H2_:=(Option.bind_some _ _).symm.trans H;with_reducible exact H2_)|with_reducible exact H|(rw [hy180];exact H)|exact H
    have Ny180:=aM hy180
    clear hy180
    have H':=aM H
    clear H
    have p175 : 0 ≤ (x4_1 : Int):=of_decide_eq_true (by first|(with_reducible assumption)|assumption)
    have q175 : x4_1 < (l0.length : Int):=of_decide_eq_true (by first|(with_reducible assumption)|assumption)
    obtain ⟨ad175,A175_1,c175_1,e175,hx175_0,hx175_1,hl175_1,hi175_1⟩:=at_T53 HR0.out x4_1 p175 q175
    cases e175
    replace hx175_0:=(HB.out.cell (bL w hx175_0)).trans hx175_0
    replace hx175_1:=(HB.out.cell (bL w hx175_1)).trans hx175_1
    have HR175_1:=aM hi175_1
    have HC175_1:=aM hl175_1
    clear hi175_1 hl175_1
    replace p175:=eq_true p175
    replace q175:=eq_true q175
    go_wp2_with (first|((with_reducible refine gate_callee (f:=35) rfl ?_);refine goesL_ (some 20) rfl rfl Try.func35 (by kernel_rfl) rfl #[.agg #[.int .i64 ((rd_T53 l0 x4_1).f0),.slice A175_1 ((rd_T53 l0 x4_1).f1).length c175_1]] rfl (by (try simp only [List.map_toArray,List.map_cons,List.map_nil]);first|done|rfl|(simp only [List.length_drop,List.length_take];rfl)) ?_;(with_reducible refine (laws_toVote.calls k1 ((rd_T53 l0 x4_1).f0) _ _ ((rd_T53 l0 x4_1).f1) t176 t177 _ ?side1 ?side2 A8.out).mono ?_);(case side1 => repeat (first|exact (Kd.C_below HR175_1.out HB.out)|(with_reducible refine Kd.C_alloc ?_ _)|(with_reducible refine Kd.C_drewN ?_ _)|(with_reducible refine Kd.C_drew ?_)));(case side2 => exact HC175_1.out);rintro e w11 ⟨v178,rfl,ho0,hb⟩;refine ⟨_,rfl,?_⟩;have hs178_:=fun (a_ : Addr) (m_ : Mode) (W_ : World) => run_store Try.prog W_ a_ v178 m_ (by obtain ⟨A_,c_,e_⟩:=Kd.R_slice ho0;rw [e_];rfl);have n0_:=aM (Kd.R_elder' (by (with_reducible repeat (first|apply Kd.R_alloc|apply Kd.R_drewN|apply Kd.R_drew));exact HO_3.out) (Kd.R_base ho0) hb);have n1_:=aM (Kd.R_lower ho0 (below_size (by repeat (first|(with_reducible first|exact HB.out|apply bA|apply bN|apply bD)|exact HB.out))));have n2_:=aM (below_step (by repeat (first|(with_reducible first|exact HB.out|apply bA|apply bN|apply bD)|exact HB.out)) hb);clear HO_3;clear HB;have HO_3:=n0_;have HO179:=n1_;have HB:=n2_;clear n0_ n1_ n2_;(try clear hb);(try clear hb2);(try clear hk);(try clear hi);(try clear ho0);have p10 : 0 ≤ (x4_1 : Int):=of_decide_eq_true (by first|(with_reducible assumption)|assumption);have q10 : (x4_1 : Int) < ((x3_1.length : Int) : Int):=of_decide_eq_true (by first|(with_reducible assumption)|assumption);obtain ⟨go10,co10,eo10,gb10,gl10,cl10,HG10⟩:=Kd.R_form HO_3.out (by omega);(first|cases eo10|(injection eo10 with ea_ en_ ec_;(first|subst ea_|(injection ea_ with ea_;subst ea_));subst ec_;clear en_));have GB10:=aM gb10;have GG10:=aM HG10;clear gb10 gl10 HG10;obtain ⟨ce10,hcl10,hM10,hcc10,hfr10⟩:=Kd.R_elem HO_3.out z48 (x4_1 : Int) p10 q10;obtain ⟨ve10_1,rfl,ge10_1⟩:=k48_openM hM10;have hx10_0 : w11.cell? ⟨go10,(x4_1 : Int).toNat * 2,none⟩ = some (.int .i64 ((rd_T48 x3_1 x4_1).f0)):=hcc10 0 _ rfl;have hx10_1 : w11.cell? ⟨go10,(x4_1 : Int).toNat * 2 + 1,none⟩ = some (ve10_1):=hcc10 1 _ rfl;have hf10_0 : w11.frozen? ⟨go10,(x4_1 : Int).toNat * 2,none⟩ = false:=hfr10 0;have hf10_1 : w11.frozen? ⟨go10,(x4_1 : Int).toNat * 2 + 1,none⟩ = false:=hfr10 1;clear hcl10 hcc10 hfr10 hM10;replace p10:=eq_true p10;replace q10:=eq_true q10;have n_:=aM (Kd.R_mono (ok':=(fun k_ => some k_ ≠ (v178 : Value).ownBlock)) HO_3.out (fun k_ hk => hk.2));clear HO_3;have HO_3:=n_;clear n_;have HX12:=aM (show Kd.R k48 48 w11 w.heap.size (fun _ => True) (.slice (some ⟨go10,0,none⟩) x3_1.length co10) x3_1 from (by (with_reducible repeat (first|apply Kd.R_alloc|apply Kd.R_drewN|apply Kd.R_drew));exact Kd.R_mono HO_3.out (fun _ hk => trivial)));obtain ⟨ce12,hcl12,hM12,hcc12,hfr12⟩:=Kd.R_elem HX12.out z48 (x4_1 : Int) (of_decide_eq_true (by first|(with_reducible assumption)|assumption)) (by have h_ : (x4_1 : Int) < ((x3_1.length : Int) : Int):=of_decide_eq_true (by first|(with_reducible assumption)|assumption);first|exact h_|(have e_:=(Kd.R_reads' HO_3.out).1;omega)|simpa using h_);obtain ⟨ve12_1,rfl,ge12_1⟩:=k48_openM hM12;have HP12:=Kd.R_seg HX12.out (x4_1 : Int) (of_decide_eq_true (by first|(with_reducible assumption)|assumption)) (by have h_ : (x4_1 : Int) < ((x3_1.length : Int) : Int):=of_decide_eq_true (by first|(with_reducible assumption)|assumption);first|exact h_|(have e_:=(Kd.R_reads' HO_3.out).1;omega)|simpa using h_) (seg:=[.int .i64 t176,v178]) (j:=0) hcl12 hcc12 (show 2 ≤ 2 from by decide) (x':=(⟨t176,t177⟩ : S48)) (k48_mkM _ _ _ (⟨t176,t177⟩ : S48) (Kd.R_mono (Kd.R_apart' (HO179.out) (Kd.R_typed HO_3.out) (by decide)) (fun k_ hk => ⟨trivial,fun e_ => (hk.2) (by rw [e_];rfl)⟩))) (fun _ hk => hk);have hx12_0:=hcc12 0 _ rfl;(try simp only [show (k48).sz = 2 from rfl,Nat.mul_one,Nat.add_zero] at hx12_0);have hf12_0:=hfr12 0;(try simp only [show (k48).sz = 2 from rfl,Nat.mul_one,Nat.add_zero] at hf12_0);have hx12_1:=hcc12 1 _ rfl;(try simp only [show (k48).sz = 2 from rfl,Nat.mul_one,Nat.add_zero] at hx12_1);have hf12_1:=hfr12 1;(try simp only [show (k48).sz = 2 from rfl,Nat.mul_one,Nat.add_zero] at hf12_1);clear hcl12 hcc12 hfr12 hM12)|((with_reducible refine gate_store (t:=48) (p:=21) rfl ?_);refine store_event (t:=48) (p:=21) (v:=?vo_w13) (w1:=((w11.setCell ⟨go10,(x4_1 : Int).toNat * 2,none⟩ (.int .i64 t176)).setCell ⟨go10,(x4_1 : Int).toNat * 2 + 1,none⟩ (v178))) ?hg ?ho ?hn ?hr ?_;(case ho => rfl);(case hg => rfl);(case hn => rfl);(case hr => first|(go_simp;done)|(go_simp;rfl));intro w13 hw;have hg : w11.grownBy w13 (some go10):=(by rw [hw];exact HP12.2);have hp_ : Kd.R k48 48 w13 w.heap.size (fun _ => True) (.slice (some ⟨go10,0,none⟩) x3_1.length co10) y180:=(by rw [hw,Ny180.out];exact HP12.1);clear HP12;have n0_:=aM (hp_);have n1_:=aM ((by rw [hw];exact below_set (below_set (HB.out) GB10.out) GB10.out : Below w.heap.size w w13));clear HO_3;clear HB;clear HO179;have HO_3:=n0_;have HB:=n1_;clear n0_ n1_;clear hg hw hp_))
    go_roundg k1
    case measure => have:=HK1.out;omega
    case rel => exact ⟨(y180),(wrap64 (x4_1 + 1)),(by first|rfl|(simp;done)|(simp [*];done)),H',⟨by have:=HK1.out;omega⟩,⟨by (with_reducible repeat (first|apply Kd.R_alloc|apply Kd.R_drewN|apply Kd.R_drew));exact HO_3.out⟩,⟨by repeat (first|(with_reducible first|exact HB.out|apply bA|apply bN|apply bD)|exact HB.out)⟩⟩
   ·rw [if_neg c6] at H
    have c6b0 : decide (x4_1 < (l0.length : Int)) = false:=decide_eq_false c6
    clear c6
    obtain rfl:=Option.some.inj H
    go_wp2
    go_ret
    exact ⟨_,by first|rfl|(simp only [i64_w,i32_w];done)|(simp only [i64_w,i32_w];rfl)|(simp [errW_none,errW_some] <;> rfl)|(simp [*,errW_none,errW_some] <;> rfl),by (with_reducible repeat (first|apply Kd.R_alloc|apply Kd.R_drewN|apply Kd.R_drew));exact HO_3.out,by repeat (first|(with_reducible first|exact HB.out|apply bA|apply bN|apply bD)|exact HB.out)⟩

/-! ### impl_within: function 65 -/
def impl_within.f (a0 : Int) (a1 : Int) (a2 : Int) : Option (Bool):=if a0 ≥ a1 then (some (decide (a0 ≤ a2))) else (some false)
set_option maxHeartbeats 8000000 in
set_option maxRecDepth 100000 in
theorem impl_within.calls (a0 : Int) (a1 : Int) (a2 : Int) (r : Bool) (w : World) (h : impl_within.f a0 a1 a2 = some r) :
  Calls Try.prog 65 #[.int .i64 a0,.int .i64 a1,.int .i64 a2] w fun e w' => e = .returned (.bool r) ∧ Drawn0 w w':=by
 have H : (if a0 ≥ a1 then (some (decide (a0 ≤ a2))) else (some false)) = some r:=h
 clear h
 by_cases c4 : a0 ≥ a1
 ·rw [if_pos c4] at H
  have c4b0 : decide (a1 ≤ a0) = true:=decide_eq_true c4
  clear c4
  obtain rfl:=Option.some.inj H
  go_enter Try.func65,Try.ntmps65
  go_wp2
  go_ret
  exact ⟨by first|rfl|(simp;done)|(simp [*];done),by repeat (first|exact Drawn0.refl _|apply Drawn0.step)⟩
 ·rw [if_neg c4] at H
  have c4b0 : decide (a1 ≤ a0) = false:=decide_eq_false c4
  clear c4
  obtain rfl:=Option.some.inj H
  go_enter Try.func65,Try.ntmps65
  go_wp2
  go_ret
  exact ⟨by first|rfl|(simp;done)|(simp [*];done),by repeat (first|exact Drawn0.refl _|apply Drawn0.step)⟩

/-! ### impl_epochOk: function 54 -/
def impl_epochOk.f (a0 : Int) : Option (Bool):=(impl_within.f a0 1 30).bind fun t181 => (some t181)
set_option maxHeartbeats 8000000 in
set_option maxRecDepth 100000 in
theorem impl_epochOk.calls (a0 : Int) (r : Bool) (w : World) (h : impl_epochOk.f a0 = some r) :
  Calls Try.prog 54 #[.int .i64 a0] w fun e w' => e = .returned (.bool r) ∧ Drawn0 w w':=by
 have H : ((impl_within.f a0 1 30).bind fun t181 => (some t181)) = some r:=h
 clear h
 replace H:=Option.bind_eq_some_iff.mp H
 obtain ⟨t181,A20,H⟩:=H
 replace H : (some t181) = some r:=H
 have A2:=aM A20
 clear A20
 obtain rfl:=Option.some.inj H
 go_enter Try.func54,Try.ntmps54
 go_wp2_with (first|((with_reducible refine gate_callee (f:=65) rfl ?_);refine goesL_ (some 4) rfl rfl Try.func65 (by kernel_rfl) rfl #[.int .i64 a0,.int .i64 1,.int .i64 30] rfl (by (try simp only [List.map_toArray,List.map_cons,List.map_nil]);first|done|rfl|(simp only [List.length_drop,List.length_take];rfl)) ?_;(with_reducible refine (impl_within.calls a0 1 30 t181 _ A2.out).mono ?_);rintro e w' ⟨rfl,⟨nd,rfl⟩⟩;refine ⟨_,rfl,?_⟩))
 go_ret
 exact ⟨by first|rfl|(simp;done)|(simp [*];done),by repeat (first|exact Drawn0.refl _|apply Drawn0.step)⟩

/-! ### impl_PayOk: function 55 -/
def impl_PayOk.f (a0_0 : Int) (a0_1 : Int) (a0_2 : Int) : Option (Bool):=(impl_within.f a0_0 1 3).bind fun t183 => (if t183 = true then ((impl_within.f a0_1 1 3).bind fun t184 => (if t184 = true then (if a0_0 = a0_1 then (some false) else ((impl_within.f a0_2 1 9).bind fun t185 => (some t185))) else (some false))) else (some false))
set_option maxHeartbeats 8000000 in
set_option maxRecDepth 100000 in
theorem impl_PayOk.calls (a0_0 : Int) (a0_1 : Int) (a0_2 : Int) (r : Bool) (w : World) (h : impl_PayOk.f a0_0 a0_1 a0_2 = some r) :
  Calls Try.prog 55 #[.agg #[.int .i64 a0_0,.int .i64 a0_1,.int .i64 a0_2]] w fun e w' => e = .returned (.bool r) ∧ Below w.heap.size w w':=by
 have hu56:=Try.underlying56
 have HB:=aM (Below.refl w.heap.size w)
 have H : ((impl_within.f a0_0 1 3).bind fun t183 => (if t183 = true then ((impl_within.f a0_1 1 3).bind fun t184 => (if t184 = true then (if a0_0 = a0_1 then (some false) else ((impl_within.f a0_2 1 9).bind fun t185 => (some t185))) else (some false))) else (some false))) = some r:=h
 clear h
 replace H:=Option.bind_eq_some_iff.mp H
 obtain ⟨t183,A20,H⟩:=H
 replace H : (if t183 = true then ((impl_within.f a0_1 1 3).bind fun t184 => (if t184 = true then (if a0_0 = a0_1 then (some false) else ((impl_within.f a0_2 1 9).bind fun t185 => (some t185))) else (some false))) else (some false)) = some r:=H
 have A2:=aM A20
 clear A20
 by_cases c3 : t183 = true
 ·subst c3
  have H1 : ((impl_within.f a0_1 1 3).bind fun t184 => (if t184 = true then (if a0_0 = a0_1 then (some false) else ((impl_within.f a0_2 1 9).bind fun t185 => (some t185))) else (some false))) = some r:=by rw [if_pos rfl] at H;exact H
  clear H
  have H:=H1
  clear H1
  replace H:=Option.bind_eq_some_iff.mp H
  obtain ⟨t184,A40,H⟩:=H
  replace H : (if t184 = true then (if a0_0 = a0_1 then (some false) else ((impl_within.f a0_2 1 9).bind fun t185 => (some t185))) else (some false)) = some r:=H
  have A4:=aM A40
  clear A40
  by_cases c5 : t184 = true
  ·subst c5
   have H1 : (if a0_0 = a0_1 then (some false) else ((impl_within.f a0_2 1 9).bind fun t185 => (some t185))) = some r:=by rw [if_pos rfl] at H;exact H
   clear H
   have H:=H1
   clear H1
   by_cases c6 : a0_0 = a0_1
   ·rw [if_pos c6] at H
    have c6b0 : (a0_0 == a0_1) = true:=beq_iff_eq.mpr c6
    have c6b1 : (a0_0 != a0_1) = false:=bne_eq_false_iff_eq.mpr c6
    clear c6
    obtain rfl:=Option.some.inj H
    go_enter Try.func55,Try.ntmps55
    go_wp2_with (first|((with_reducible refine gate_dst (N:=1) rfl ?_);refine box_event ?hg (N:=1) ?hd (cs:=#[.int .i64 a0_0,.int .i64 a0_1,.int .i64 a0_2]) (t:=56) ?hr ?_;(case hd => rfl);(case hg => rfl);(case hr => first|(go_simp;done)|(go_simp;rfl));intro gb182 hg w7 hbox hb;have n0_:=aM (below_step (by repeat (first|(with_reducible first|exact HB.out|apply bA|apply bN|apply bD)|exact HB.out)) hb);have n1_:=aM (hbox);have n2_:=aM ((by rw [hg];exact (below_size (by repeat (first|(with_reducible first|exact HB.out|apply bA|apply bN|apply bD)|exact HB.out))) : w.heap.size ≤ gb182));have n3_:=aM ((by rw [hg];exact (below_size (by repeat (first|(with_reducible first|exact HB.out|apply bA|apply bN|apply bD)|exact HB.out))) : w.heap.size ≤ gb182));clear HB;have HB:=n0_;have BK182:=n1_;have GW182:=n2_;have GE182:=n3_;clear n0_ n1_ n2_ n3_;clear hb hbox hg;have hcz8_0 : w7.cell? ⟨gb182,0,none⟩ = some (.int .i64 a0_0):=(blk_cell BK182.out 0).trans rfl;have hcz8_1 : w7.cell? ⟨gb182,1,none⟩ = some (.int .i64 a0_1):=(blk_cell BK182.out 1).trans rfl;have hcz8_2 : w7.cell? ⟨gb182,2,none⟩ = some (.int .i64 a0_2):=(blk_cell BK182.out 2).trans rfl;have hfz8_0:=blk_frozen BK182.out 0;have hfz8_1:=blk_frozen BK182.out 1;have hfz8_2:=blk_frozen BK182.out 2)|((with_reducible refine gate_callee (f:=65) rfl ?_);refine goesL_ (some 5) rfl rfl Try.func65 (by kernel_rfl) rfl #[.int .i64 a0_0,.int .i64 1,.int .i64 3] rfl (by (try simp only [List.map_toArray,List.map_cons,List.map_nil]);first|done|rfl|(simp only [List.length_drop,List.length_take];rfl)) ?_;(with_reducible refine (impl_within.calls a0_0 1 3 true _ A2.out).mono ?_);rintro e w' ⟨rfl,⟨nd,rfl⟩⟩;refine ⟨_,rfl,?_⟩)|(go_at_call 65;(with_reducible refine (impl_within.calls a0_1 1 3 true _ A4.out).mono ?_);rintro e w' ⟨rfl,⟨nd,rfl⟩⟩))
    go_ret
    exact ⟨by first|rfl|(simp only [i64_w,i32_w];done)|(simp only [i64_w,i32_w];rfl)|(simp [errW_none,errW_some] <;> rfl)|(simp [*,errW_none,errW_some] <;> rfl),by repeat (first|(with_reducible first|exact HB.out|apply bA|apply bN|apply bD|refine below_set ?_ GE182.out)|exact HB.out)⟩
   ·rw [if_neg c6] at H
    have c6b0 : (a0_0 == a0_1) = false:=beq_eq_false_iff_ne.mpr c6
    have c6b1 : (a0_0 != a0_1) = true:=bne_iff_ne.mpr c6
    replace H:=Option.bind_eq_some_iff.mp H
    obtain ⟨t185,A90,H⟩:=H
    replace H : (some t185) = some r:=H
    have A9:=aM A90
    clear A90
    obtain rfl:=Option.some.inj H
    go_enter Try.func55,Try.ntmps55
    go_wp2_with (first|((with_reducible refine gate_dst (N:=1) rfl ?_);refine box_event ?hg (N:=1) ?hd (cs:=#[.int .i64 a0_0,.int .i64 a0_1,.int .i64 a0_2]) (t:=56) ?hr ?_;(case hd => rfl);(case hg => rfl);(case hr => first|(go_simp;done)|(go_simp;rfl));intro gb182 hg w10 hbox hb;have n0_:=aM (below_step (by repeat (first|(with_reducible first|exact HB.out|apply bA|apply bN|apply bD)|exact HB.out)) hb);have n1_:=aM (hbox);have n2_:=aM ((by rw [hg];exact (below_size (by repeat (first|(with_reducible first|exact HB.out|apply bA|apply bN|apply bD)|exact HB.out))) : w.heap.size ≤ gb182));have n3_:=aM ((by rw [hg];exact (below_size (by repeat (first|(with_reducible first|exact HB.out|apply bA|apply bN|apply bD)|exact HB.out))) : w.heap.size ≤ gb182));clear HB;have HB:=n0_;have BK182:=n1_;have GW182:=n2_;have GE182:=n3_;clear n0_ n1_ n2_ n3_;clear hb hbox hg;have hcz11_0 : w10.cell? ⟨gb182,0,none⟩ = some (.int .i64 a0_0):=(blk_cell BK182.out 0).trans rfl;have hcz11_1 : w10.cell? ⟨gb182,1,none⟩ = some (.int .i64 a0_1):=(blk_cell BK182.out 1).trans rfl;have hcz11_2 : w10.cell? ⟨gb182,2,none⟩ = some (.int .i64 a0_2):=(blk_cell BK182.out 2).trans rfl;have hfz11_0:=blk_frozen BK182.out 0;have hfz11_1:=blk_frozen BK182.out 1;have hfz11_2:=blk_frozen BK182.out 2)|((with_reducible refine gate_callee (f:=65) rfl ?_);refine goesL_ (some 5) rfl rfl Try.func65 (by kernel_rfl) rfl #[.int .i64 a0_0,.int .i64 1,.int .i64 3] rfl (by (try simp only [List.map_toArray,List.map_cons,List.map_nil]);first|done|rfl|(simp only [List.length_drop,List.length_take];rfl)) ?_;(with_reducible refine (impl_within.calls a0_0 1 3 true _ A2.out).mono ?_);rintro e w' ⟨rfl,⟨nd,rfl⟩⟩;refine ⟨_,rfl,?_⟩)|(go_at_call 65;(with_reducible refine (impl_within.calls a0_1 1 3 true _ A4.out).mono ?_);rintro e w' ⟨rfl,⟨nd,rfl⟩⟩)|(go_at_call 65;(with_reducible refine (impl_within.calls a0_2 1 9 t185 _ A9.out).mono ?_);rintro e w' ⟨rfl,⟨nd,rfl⟩⟩))
    go_ret
    exact ⟨by first|rfl|(simp only [i64_w,i32_w];done)|(simp only [i64_w,i32_w];rfl)|(simp [errW_none,errW_some] <;> rfl)|(simp [*,errW_none,errW_some] <;> rfl),by repeat (first|(with_reducible first|exact HB.out|apply bA|apply bN|apply bD|refine below_set ?_ GE182.out)|exact HB.out)⟩
  ·replace c5:=Bool.eq_false_iff.mpr c5
   subst c5
   have H1 : (some false) = some r:=by rw [if_neg (show ¬ (false = true) by decide)] at H;exact H
   clear H
   have H:=H1
   clear H1
   obtain rfl:=Option.some.inj H
   go_enter Try.func55,Try.ntmps55
   go_wp2_with (first|((with_reducible refine gate_dst (N:=1) rfl ?_);refine box_event ?hg (N:=1) ?hd (cs:=#[.int .i64 a0_0,.int .i64 a0_1,.int .i64 a0_2]) (t:=56) ?hr ?_;(case hd => rfl);(case hg => rfl);(case hr => first|(go_simp;done)|(go_simp;rfl));intro gb182 hg w12 hbox hb;have n0_:=aM (below_step (by repeat (first|(with_reducible first|exact HB.out|apply bA|apply bN|apply bD)|exact HB.out)) hb);have n1_:=aM (hbox);have n2_:=aM ((by rw [hg];exact (below_size (by repeat (first|(with_reducible first|exact HB.out|apply bA|apply bN|apply bD)|exact HB.out))) : w.heap.size ≤ gb182));have n3_:=aM ((by rw [hg];exact (below_size (by repeat (first|(with_reducible first|exact HB.out|apply bA|apply bN|apply bD)|exact HB.out))) : w.heap.size ≤ gb182));clear HB;have HB:=n0_;have BK182:=n1_;have GW182:=n2_;have GE182:=n3_;clear n0_ n1_ n2_ n3_;clear hb hbox hg;have hcz13_0 : w12.cell? ⟨gb182,0,none⟩ = some (.int .i64 a0_0):=(blk_cell BK182.out 0).trans rfl;have hcz13_1 : w12.cell? ⟨gb182,1,none⟩ = some (.int .i64 a0_1):=(blk_cell BK182.out 1).trans rfl;have hcz13_2 : w12.cell? ⟨gb182,2,none⟩ = some (.int .i64 a0_2):=(blk_cell BK182.out 2).trans rfl;have hfz13_0:=blk_frozen BK182.out 0;have hfz13_1:=blk_frozen BK182.out 1;have hfz13_2:=blk_frozen BK182.out 2)|((with_reducible refine gate_callee (f:=65) rfl ?_);refine goesL_ (some 5) rfl rfl Try.func65 (by kernel_rfl) rfl #[.int .i64 a0_0,.int .i64 1,.int .i64 3] rfl (by (try simp only [List.map_toArray,List.map_cons,List.map_nil]);first|done|rfl|(simp only [List.length_drop,List.length_take];rfl)) ?_;(with_reducible refine (impl_within.calls a0_0 1 3 true _ A2.out).mono ?_);rintro e w' ⟨rfl,⟨nd,rfl⟩⟩;refine ⟨_,rfl,?_⟩)|(go_at_call 65;(with_reducible refine (impl_within.calls a0_1 1 3 false _ A4.out).mono ?_);rintro e w' ⟨rfl,⟨nd,rfl⟩⟩))
   go_ret
   exact ⟨by first|rfl|(simp only [i64_w,i32_w];done)|(simp only [i64_w,i32_w];rfl)|(simp [errW_none,errW_some] <;> rfl)|(simp [*,errW_none,errW_some] <;> rfl),by repeat (first|(with_reducible first|exact HB.out|apply bA|apply bN|apply bD|refine below_set ?_ GE182.out)|exact HB.out)⟩
 ·replace c3:=Bool.eq_false_iff.mpr c3
  subst c3
  have H1 : (some false) = some r:=by rw [if_neg (show ¬ (false = true) by decide)] at H;exact H
  clear H
  have H:=H1
  clear H1
  obtain rfl:=Option.some.inj H
  go_enter Try.func55,Try.ntmps55
  go_wp2_with (first|((with_reducible refine gate_dst (N:=1) rfl ?_);refine box_event ?hg (N:=1) ?hd (cs:=#[.int .i64 a0_0,.int .i64 a0_1,.int .i64 a0_2]) (t:=56) ?hr ?_;(case hd => rfl);(case hg => rfl);(case hr => first|(go_simp;done)|(go_simp;rfl));intro gb182 hg w14 hbox hb;have n0_:=aM (below_step (by repeat (first|(with_reducible first|exact HB.out|apply bA|apply bN|apply bD)|exact HB.out)) hb);have n1_:=aM (hbox);have n2_:=aM ((by rw [hg];exact (below_size (by repeat (first|(with_reducible first|exact HB.out|apply bA|apply bN|apply bD)|exact HB.out))) : w.heap.size ≤ gb182));have n3_:=aM ((by rw [hg];exact (below_size (by repeat (first|(with_reducible first|exact HB.out|apply bA|apply bN|apply bD)|exact HB.out))) : w.heap.size ≤ gb182));clear HB;have HB:=n0_;have BK182:=n1_;have GW182:=n2_;have GE182:=n3_;clear n0_ n1_ n2_ n3_;clear hb hbox hg;have hcz15_0 : w14.cell? ⟨gb182,0,none⟩ = some (.int .i64 a0_0):=(blk_cell BK182.out 0).trans rfl;have hcz15_1 : w14.cell? ⟨gb182,1,none⟩ = some (.int .i64 a0_1):=(blk_cell BK182.out 1).trans rfl;have hcz15_2 : w14.cell? ⟨gb182,2,none⟩ = some (.int .i64 a0_2):=(blk_cell BK182.out 2).trans rfl;have hfz15_0:=blk_frozen BK182.out 0;have hfz15_1:=blk_frozen BK182.out 1;have hfz15_2:=blk_frozen BK182.out 2)|((with_reducible refine gate_callee (f:=65) rfl ?_);refine goesL_ (some 5) rfl rfl Try.func65 (by kernel_rfl) rfl #[.int .i64 a0_0,.int .i64 1,.int .i64 3] rfl (by (try simp only [List.map_toArray,List.map_cons,List.map_nil]);first|done|rfl|(simp only [List.length_drop,List.length_take];rfl)) ?_;(with_reducible refine (impl_within.calls a0_0 1 3 false _ A2.out).mono ?_);rintro e w' ⟨rfl,⟨nd,rfl⟩⟩;refine ⟨_,rfl,?_⟩))
  go_ret
  exact ⟨by first|rfl|(simp only [i64_w,i32_w];done)|(simp only [i64_w,i32_w];rfl)|(simp [errW_none,errW_some] <;> rfl)|(simp [*,errW_none,errW_some] <;> rfl),by repeat (first|(with_reducible first|exact HB.out|apply bA|apply bN|apply bD|refine below_set ?_ GE182.out)|exact HB.out)⟩

end Go.Proofs.Ytknmmkgaijndfaa.P
