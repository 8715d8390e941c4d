/- The printed functions: what each Go function computes, as a Lean function, and that the Go code comes to just that. Conditions: none beyond each contract's own. -/
import Derived.Test.YtlcfalecbpnhbaaPx0
import Derived.Test.YtlcfalecbpnhbaaPx8
import Derived.Test.YtlcfalecbpnhbaaPx9
namespace Go.Proofs.Ytlcfalecbpnhbaa.P
open Go.RowKit Go.Proofs.YtlcfalecbpnhbaaW.PrintWords Go.Proofs.YtlcfalecbpnhbaaW.PrintLast Go.Proofs.YtlcfalecbpnhbaaW.PrintMore
attribute [local go_sem] max2_int min2_int max_two min_two max_three min_three max_four min_four   -- for this text's walks alone
set_option linter.unusedVariables false
set_option linter.unusedSimpArgs false

/-! ### spec_l3Many: function 63 -/
def spec_l3Many.l0 : Nat → List (S82) → List (S40) → Int → Int → Option (Int)
 | 0,_,_,_,_ => none
 | k + 1,x0,x1,x5,x6 => if x6 < (x0.length : Int) then (if 0 ≤ x6 then ((spec_l3Same.f k ((rd_T82 x0 x6).f1) x1).bind fun t355 => (if t355 = true then (spec_l3Many.l0 k x0 x1 (wrap64 (x5 + 1)) (wrap64 (x6 + 1))) else (spec_l3Many.l0 k x0 x1 x5 (wrap64 (x6 + 1))))) else (none)) else (some x5)
def spec_l3Many.f (k : Nat) (l0 : List (S82)) (l1 : List (S40)) : Option (Int):=spec_l3Many.l0 k l0 l1 0 0
theorem spec_l3Many.mono_l : ∀ k,(∀ y0 y1 y2 y3,LeO (spec_l3Many.l0 k y0 y1 y2 y3) (spec_l3Many.l0 (k + 1) y0 y1 y2 y3))
 | 0 => fun _ _ _ _ r h => by simp [spec_l3Many.l0] at h
 | k + 1 => by
  have ih0:=spec_l3Many.mono_l k
  ·intro y0 y1 y2 y3
   unfold spec_l3Many.l0
   repeat' first
   | exact LeO.refl _
   | exact ih0 _ _ _ _
   | exact spec_l3Same.mono _ _ _
   | exact LeO.none _
   | refine LeO.ite ?_ ?_
   | refine LeO.bind ?_ (fun _ => ?_)
theorem spec_l3Many.mono : ∀ a0 a1 k,LeO (spec_l3Many.f k a0 a1) (spec_l3Many.f (k + 1) a0 a1):=by
 intro a0 a1 k
 have ih0:=spec_l3Many.mono_l k
 unfold spec_l3Many.f
 repeat' first
   | exact LeO.refl _
   | exact ih0 _ _ _ _
   | exact spec_l3Same.mono _ _ _
   | exact LeO.none _
   | refine LeO.ite ?_ ?_
   | refine LeO.bind ?_ (fun _ => ?_)
set_option maxHeartbeats 8000000 in
set_option maxRecDepth 100000 in
theorem spec_l3Many.calls (k : Nat) (A0 : Option Addr) (c0 : Nat) (l0 : List (S82)) (A1 : Option Addr) (c1 : Nat) (l1 : List (S40)) (r : Int) (w : World) (hr0 : Kd.C k82 w A0 l0.length l0) (hc0 : l0.length ≤ c0) (hr1 : Kd.C k40 w A1 l1.length l1) (hc1 : l1.length ≤ c1) (h : spec_l3Many.f k l0 l1 = some r) :
  Calls Try.prog 63 #[.slice A0 l0.length c0,.slice A1 l1.length c1] w fun e w' => e = .returned (.int .i64 r) ∧ Drawn0 w w':=by
 have HR0:=aM hr0
 have HC0:=aM hc0
 clear hr0 hc0
 have HR1:=aM hr1
 have HC1:=aM hc1
 clear hr1 hc1
 have H : (spec_l3Many.l0 k l0 l1 0 0) = some r:=h
 clear h
 have H':=aM H
 clear H
 go_enter Try.func63,Try.ntmps63
 go_wp2
 go_loopg [5,6] k (fun kq v5 v6 w' => ∃ (x5_1 : Int) (x6_1 : Int),v5 = .int .i64 x5_1 ∧ v6 = .int .i64 x6_1 ∧ Aside0 (spec_l3Many.l0 kq l0 l1 x5_1 x6_1 = some r) ∧ Aside0 (kq ≤ k) ∧ Drawn0 w w')
 case atStart => exact ⟨(0),(0),Q11,Q11,H',⟨Nat.le_refl _⟩,Q27⟩
 case round =>
  clear H'
  try clear c1
  try clear p2
  obtain ⟨x5_1,x6_1,rfl,rfl,HA,HK1,⟨m1,rfl⟩⟩:=hrel
  cases gk with
  | zero => exact absurd HA.out (by simp [spec_l3Many.l0])
  | succ k1 =>
   have H:=HA.out
   clear HA
   simp only [spec_l3Many.l0] at H
   by_cases c3 : x6_1 < (l0.length : Int)
   ·rw [if_pos c3] at H
    have c3b0 : decide (x6_1 < (l0.length : Int)) = true:=decide_eq_true c3
    clear c3
    by_cases c4 : 0 ≤ x6_1
    case neg => rw [if_neg c4] at H;exact absurd H Q51
    rw [if_pos c4] at H
    have c4b0 : decide (0 ≤ x6_1) = true:=decide_eq_true c4
    clear c4
    replace H:=Option.bind_eq_some_iff.mp H
    obtain ⟨t355,A50,H⟩:=H
    replace H : (if t355 = true then (spec_l3Many.l0 k1 l0 l1 (wrap64 (x5_1 + 1)) (wrap64 (x6_1 + 1))) else (spec_l3Many.l0 k1 l0 l1 x5_1 (wrap64 (x6_1 + 1)))) = some r:=H
    have A5:=aM A50
    clear A50
    by_cases c6 : t355 = true
    ·subst c6
     have H1 : (spec_l3Many.l0 k1 l0 l1 (wrap64 (x5_1 + 1)) (wrap64 (x6_1 + 1))) = some r:=by rw [if_pos rfl] at H;exact H
     clear H
     have H:=H1
     clear H1
     have H':=aM H
     clear H
     have p354 : 0 ≤ (x6_1 : Int):=of_decide_eq_true Q5
     have q354 : x6_1 < (l0.length : Int):=of_decide_eq_true Q5
     obtain ⟨ad354,A354_1,c354_1,e354,hx354_0,hx354_1,hl354_1,hi354_1⟩:=at_T82 HR0.out x6_1 p354 q354
     cases e354
     have HR354_1:=aM hi354_1
     have HC354_1:=aM hl354_1
     clear hi354_1 hl354_1
     replace p354:=eq_true p354
     replace q354:=eq_true q354
     go_wp2_with (first|((with_reducible refine gate_callee (f:=59) rfl ?_);refine goesL_ (some 19) rfl rfl Try.func59 Q14 rfl #[.slice A354_1 ((rd_T82 l0 x6_1).f1).length c354_1,.slice A1 l1.length c1] rfl Q1 ?_;(with_reducible refine (spec_l3Same.calls k1 _ _ ((rd_T82 l0 x6_1).f1) _ _ l1 true _ ?side1 ?side2 ?side3 ?side4 A5.out).mono ?_);(case side1 => exact Q137);(case side2 => exact HC354_1.out);(case side3 => exact Q94);(case side4 => exact HC1.out);rintro e w' ⟨rfl,⟨nd,rfl⟩⟩;refine ⟨_,rfl,?_⟩))
     go_roundg k1
     case measure => have:=HK1.out;omega
     case rel => exact ⟨(wrap64 (x5_1 + 1)),(wrap64 (x6_1 + 1)),Q11,Q11,H',⟨Q60⟩,Q27⟩
    ·replace c6:=Bool.eq_false_iff.mpr c6
     subst c6
     have H1 : (spec_l3Many.l0 k1 l0 l1 x5_1 (wrap64 (x6_1 + 1))) = some r:=by rw [if_neg (show ¬ (false = true) by decide)] at H;exact H
     clear H
     have H:=H1
     clear H1
     have H':=aM H
     clear H
     have p354 : 0 ≤ (x6_1 : Int):=of_decide_eq_true Q5
     have q354 : x6_1 < (l0.length : Int):=of_decide_eq_true Q5
     obtain ⟨ad354,A354_1,c354_1,e354,hx354_0,hx354_1,hl354_1,hi354_1⟩:=at_T82 HR0.out x6_1 p354 q354
     cases e354
     have HR354_1:=aM hi354_1
     have HC354_1:=aM hl354_1
     clear hi354_1 hl354_1
     replace p354:=eq_true p354
     replace q354:=eq_true q354
     go_wp2_with (first|((with_reducible refine gate_callee (f:=59) rfl ?_);refine goesL_ (some 19) rfl rfl Try.func59 Q14 rfl #[.slice A354_1 ((rd_T82 l0 x6_1).f1).length c354_1,.slice A1 l1.length c1] rfl Q1 ?_;(with_reducible refine (spec_l3Same.calls k1 _ _ ((rd_T82 l0 x6_1).f1) _ _ l1 false _ ?side1 ?side2 ?side3 ?side4 A5.out).mono ?_);(case side1 => exact Q137);(case side2 => exact HC354_1.out);(case side3 => exact Q94);(case side4 => exact HC1.out);rintro e w' ⟨rfl,⟨nd,rfl⟩⟩;refine ⟨_,rfl,?_⟩))
     go_roundg k1
     case measure => have:=HK1.out;omega
     case rel => exact ⟨(x5_1),(wrap64 (x6_1 + 1)),Q11,Q11,H',⟨Q60⟩,Q27⟩
   ·rw [if_neg c3] at H
    have c3b0 : decide (x6_1 < (l0.length : Int)) = false:=decide_eq_false c3
    clear c3
    obtain rfl:=Option.some.inj H
    go_wp2
    go_ret
    exact ⟨Q11,Q27⟩

/-! ### spec_l11Sure: function 60 -/
def spec_l11Sure.l0 : Nat → List (S82) → List (S40) → Int → Option (Bool)
 | 0,_,_,_ => none
 | k + 1,x0,x1,x5 => if x5 ≤ (x1.length : Int) then (if 0 ≤ x5 then ((spec_l3Many.f k x0 (x1.take (x5 : Int).toNat)).bind fun t360 => (if t360 < 3 then (some false) else (spec_l11Sure.l0 k x0 x1 (wrap64 (x5 + 1))))) else (none)) else (some true)
def spec_l11Sure.f (k : Nat) (l0 : List (S82)) (l1 : List (S40)) : Option (Bool):=spec_l11Sure.l0 k l0 l1 1
theorem spec_l11Sure.mono_l : ∀ k,(∀ y0 y1 y2,LeO (spec_l11Sure.l0 k y0 y1 y2) (spec_l11Sure.l0 (k + 1) y0 y1 y2))
 | 0 => fun _ _ _ r h => by simp [spec_l11Sure.l0] at h
 | k + 1 => by
  have ih0:=spec_l11Sure.mono_l k
  ·intro y0 y1 y2
   unfold spec_l11Sure.l0
   repeat' first
   | exact LeO.refl _
   | exact ih0 _ _ _
   | exact spec_l3Many.mono _ _ _
   | exact LeO.none _
   | refine LeO.ite ?_ ?_
   | refine LeO.bind ?_ (fun _ => ?_)
theorem spec_l11Sure.mono : ∀ a0 a1 k,LeO (spec_l11Sure.f k a0 a1) (spec_l11Sure.f (k + 1) a0 a1):=by
 intro a0 a1 k
 have ih0:=spec_l11Sure.mono_l k
 unfold spec_l11Sure.f
 repeat' first
   | exact LeO.refl _
   | exact ih0 _ _ _
   | exact spec_l3Many.mono _ _ _
   | exact LeO.none _
   | refine LeO.ite ?_ ?_
   | refine LeO.bind ?_ (fun _ => ?_)
set_option maxHeartbeats 8000000 in
set_option maxRecDepth 100000 in
theorem spec_l11Sure.calls (k : Nat) (A0 : Option Addr) (c0 : Nat) (l0 : List (S82)) (A1 : Option Addr) (c1 : Nat) (l1 : List (S40)) (r : Bool) (w : World) (hr0 : Kd.C k82 w A0 l0.length l0) (hc0 : l0.length ≤ c0) (hr1 : Kd.C k40 w A1 l1.length l1) (hc1 : l1.length ≤ c1) (h : spec_l11Sure.f k l0 l1 = some r) :
  Calls Try.prog 60 #[.slice A0 l0.length c0,.slice A1 l1.length c1] w fun e w' => e = .returned (.bool r) ∧ Drawn0 w w':=by
 have HR0:=aM hr0
 have HC0:=aM hc0
 clear hr0 hc0
 have HR1:=aM hr1
 have HC1:=aM hc1
 clear hr1 hc1
 have H : (spec_l11Sure.l0 k l0 l1 1) = some r:=h
 clear h
 have H':=aM H
 clear H
 go_enter Try.func60,Try.ntmps60
 go_wp2
 go_loopg [5] k (fun kq v5 w' => ∃ (x5_1 : Int),v5 = .int .i64 x5_1 ∧ Aside0 (spec_l11Sure.l0 kq l0 l1 x5_1 = some r) ∧ Aside0 (kq ≤ k) ∧ Drawn0 w w')
 case atStart => exact ⟨(1),Q11,H',⟨Nat.le_refl _⟩,Q27⟩
 case round =>
  clear H'
  try clear c1
  try clear p2
  obtain ⟨x5_1,rfl,HA,HK1,⟨m1,rfl⟩⟩:=hrel
  cases gk with
  | zero => exact absurd HA.out (by simp [spec_l11Sure.l0])
  | succ k1 =>
   have H:=HA.out
   clear HA
   simp only [spec_l11Sure.l0] at H
   by_cases c3 : x5_1 ≤ (l1.length : Int)
   ·rw [if_pos c3] at H
    have c3b0 : decide (x5_1 ≤ (l1.length : Int)) = true:=decide_eq_true c3
    clear c3
    by_cases c4 : 0 ≤ x5_1
    case neg => rw [if_neg c4] at H;exact absurd H Q51
    rw [if_pos c4] at H
    have c4b0:=eq_true c4
    have c4b1 : decide (0 ≤ x5_1) = true:=decide_eq_true c4
    clear c4
    have c5b0:=eq_true (of_decide_eq_true Q5 : x5_1 ≤ (l1.length : Int))
    obtain ⟨y356,hy356⟩ : ∃ y_ : List (S40),y_ = (l1.take (x5_1 : Int).toNat):=⟨_,rfl⟩
    replace H : ((spec_l3Many.f k1 l0 y356).bind fun t360 => (if t360 < 3 then (some false) else (spec_l11Sure.l0 k1 l0 l1 (wrap64 (x5_1 + 1))))) = some r:=by first|(rw [hy356];with_reducible exact H)|(have H2_:=(Option.bind_some _ _).symm.trans H;rw [hy356];with_reducible exact H2_)|(have H2_:=(Option.bind_some _ _).symm.trans H;with_reducible exact H2_)|with_reducible exact H|(rw [hy356];exact H)|exact H
    have Ny356:=aM hy356
    clear hy356
    replace H:=Option.bind_eq_some_iff.mp H
    obtain ⟨t360,A60,H⟩:=H
    replace H : (if t360 < 3 then (some false) else (spec_l11Sure.l0 k1 l0 l1 (wrap64 (x5_1 + 1)))) = some r:=H
    have A6:=aM A60
    clear A60
    by_cases c7 : t360 < 3
    ·rw [if_pos c7] at H
     have c7b0 : decide (t360 < 3) = true:=decide_eq_true c7
     clear c7
     obtain rfl:=Option.some.inj H
     have q8 : (x5_1 : Int) ≤ ((l1.length : Int) : Int):=of_decide_eq_true Q5
     obtain ⟨i08,hi08,_,hsz8,_⟩:=info_parts info40
     have hroom8 : l1.length ≤ c1:=HC1.out
     have hC8 : Kd.C k40 _ A1 l1.length l1:=HR1.out
     have hcut8:=cut_to (P:=Try.prog) 28 40 .i64 Try.underlying28 hi08 A1 l1.length c1 x5_1 (of_decide_eq_true Q5) q8 hroom8
     have hr8:=Kd.C_take (m:=(x5_1 : Int).toNat) hC8 Q17
     have hy8 : y356.length = (x5_1 : Int).toNat:=(by rw [Ny356.out,List.length_take];omega)
     rw [← Ny356.out] at hr8
     rw [← hy8] at hcut8
     have HR359:=aM hr8
     have HC359:=aM (show y356.length ≤ c1 from Q17)
     clear hr8 hC8 hroom8 hi08 hsz8
     have KY8:=aM hy8
     clear hy8
     replace q8:=eq_true q8
     go_wp2_with (first|((with_reducible refine gate_callee (f:=63) rfl ?_);refine goesL_ (some 16) rfl rfl Try.func63 Q14 rfl #[.slice A0 l0.length c0,.slice A1 y356.length c1] rfl Q1 ?_;(with_reducible refine (spec_l3Many.calls k1 _ _ l0 _ _ y356 t360 _ ?side1 ?side2 ?side3 ?side4 A6.out).mono ?_);(case side1 => exact Q68);(case side2 => exact HC0.out);(case side3 => exact Q140);(case side4 => exact HC359.out);rintro e w' ⟨rfl,⟨nd,rfl⟩⟩;refine ⟨_,rfl,?_⟩))
     go_ret
     exact ⟨Q11,Q27⟩
    ·rw [if_neg c7] at H
     have c7b0 : decide (t360 < 3) = false:=decide_eq_false c7
     clear c7
     have H':=aM H
     clear H
     have q9 : (x5_1 : Int) ≤ ((l1.length : Int) : Int):=of_decide_eq_true Q5
     obtain ⟨i09,hi09,_,hsz9,_⟩:=info_parts info40
     have hroom9 : l1.length ≤ c1:=HC1.out
     have hC9 : Kd.C k40 _ A1 l1.length l1:=HR1.out
     have hcut9:=cut_to (P:=Try.prog) 28 40 .i64 Try.underlying28 hi09 A1 l1.length c1 x5_1 (of_decide_eq_true Q5) q9 hroom9
     have hr9:=Kd.C_take (m:=(x5_1 : Int).toNat) hC9 Q17
     have hy9 : y356.length = (x5_1 : Int).toNat:=(by rw [Ny356.out,List.length_take];omega)
     rw [← Ny356.out] at hr9
     rw [← hy9] at hcut9
     have HR359:=aM hr9
     have HC359:=aM (show y356.length ≤ c1 from Q17)
     clear hr9 hC9 hroom9 hi09 hsz9
     have KY9:=aM hy9
     clear hy9
     replace q9:=eq_true q9
     go_wp2_with (first|((with_reducible refine gate_callee (f:=63) rfl ?_);refine goesL_ (some 16) rfl rfl Try.func63 Q14 rfl #[.slice A0 l0.length c0,.slice A1 y356.length c1] rfl Q1 ?_;(with_reducible refine (spec_l3Many.calls k1 _ _ l0 _ _ y356 t360 _ ?side1 ?side2 ?side3 ?side4 A6.out).mono ?_);(case side1 => exact Q68);(case side2 => exact HC0.out);(case side3 => exact Q140);(case side4 => exact HC359.out);rintro e w' ⟨rfl,⟨nd,rfl⟩⟩;refine ⟨_,rfl,?_⟩))
     go_roundg k1
     case measure => have:=HK1.out;omega
     case rel => exact ⟨(wrap64 (x5_1 + 1)),Q11,H',⟨Q60⟩,Q27⟩
   ·rw [if_neg c3] at H
    have c3b0 : decide (x5_1 ≤ (l1.length : Int)) = false:=decide_eq_false c3
    clear c3
    obtain rfl:=Option.some.inj H
    go_wp2
    go_ret
    exact ⟨Q11,Q27⟩

/-! ### spec_l11All: function 51 -/
mutual
def spec_l11All.l0 : Nat → List (S82) → List (List (S40)) → Int → Option ((List (List (S40))))
 | 0,_,_,_ => none
 | k + 1,x0,x3,x4 => if x4 < (x0.length : Int) then (spec_l11All.l1 k x0 x3 x4 false 0) else (some x3)
def spec_l11All.l1 : Nat → List (S82) → List (List (S40)) → Int → Bool → Int → Option ((List (List (S40))))
 | 0,_,_,_,_,_ => none
 | k + 1,x0,x3,x4,x5,x6 => if x6 < (x3.length : Int) then (if x5 = true then (spec_l11All.l1 k x0 x3 x4 true (wrap64 (x6 + 1))) else (if 0 ≤ x6 then (if 0 ≤ x4 then (if x4 < (x0.length : Int) then ((spec_l3Same.f k (rd_L7 x3 x6) ((rd_T82 x0 x4).f1)).bind fun t369 => (spec_l11All.l1 k x0 x3 x4 t369 (wrap64 (x6 + 1)))) else (none)) else (none)) else (none))) else (if x5 = true then (spec_l11All.l0 k x0 x3 (wrap64 (x4 + 1))) else (if 0 ≤ x4 then (if x4 < (x0.length : Int) then ((spec_l11Sure.f k x0 ((rd_T82 x0 x4).f1)).bind fun t371 => (if t371 = true then ((spec_l1Copy.f ((rd_T82 x0 x4).f1)).bind fun t373 => (if x3.length < 5864062014805 then (spec_l11All.l0 k x0 (x3 ++ [t373]) (wrap64 (x4 + 1))) else (none))) else (spec_l11All.l0 k x0 x3 (wrap64 (x4 + 1))))) else (none)) else (none)))
end
def spec_l11All.f (k : Nat) (l0 : List (S82)) : Option ((List (List (S40)))):=spec_l11All.l0 k l0 (([(([] : List (S40)))] : List (List (S40)))) 0
theorem spec_l11All.mono_l : ∀ k,(∀ y0 y1 y2,LeO (spec_l11All.l0 k y0 y1 y2) (spec_l11All.l0 (k + 1) y0 y1 y2)) ∧ (∀ y0 y1 y2 y3 y4,LeO (spec_l11All.l1 k y0 y1 y2 y3 y4) (spec_l11All.l1 (k + 1) y0 y1 y2 y3 y4))
 | 0 => ⟨fun _ _ _ r h => by simp [spec_l11All.l0] at h,fun _ _ _ _ _ r h => by simp [spec_l11All.l1] at h⟩
 | k + 1 => by
  obtain ⟨ih0,ih1⟩:=spec_l11All.mono_l k
  refine ⟨?_,?_⟩
  ·intro y0 y1 y2
   unfold spec_l11All.l0
   repeat' first
   | exact LeO.refl _
   | exact ih0 _ _ _
   | exact ih1 _ _ _ _ _
   | exact spec_l11Sure.mono _ _ _
   | exact spec_l3Same.mono _ _ _
   | exact LeO.none _
   | refine LeO.ite ?_ ?_
   | refine LeO.bind ?_ (fun _ => ?_)
  ·intro y0 y1 y2 y3 y4
   unfold spec_l11All.l1
   repeat' first
   | exact LeO.refl _
   | exact ih0 _ _ _
   | exact ih1 _ _ _ _ _
   | exact spec_l11Sure.mono _ _ _
   | exact spec_l3Same.mono _ _ _
   | exact LeO.none _
   | refine LeO.ite ?_ ?_
   | refine LeO.bind ?_ (fun _ => ?_)
theorem spec_l11All.mono : ∀ a0 k,LeO (spec_l11All.f k a0) (spec_l11All.f (k + 1) a0):=by
 intro a0 k
 obtain ⟨ih0,ih1⟩:=spec_l11All.mono_l k
 unfold spec_l11All.f
 repeat' first
   | exact LeO.refl _
   | exact ih0 _ _ _
   | exact ih1 _ _ _ _ _
   | exact spec_l11Sure.mono _ _ _
   | exact spec_l3Same.mono _ _ _
   | exact LeO.none _
   | refine LeO.ite ?_ ?_
   | refine LeO.bind ?_ (fun _ => ?_)
set_option maxHeartbeats 8000000 in
set_option maxRecDepth 100000 in
theorem spec_l11All.calls (k : Nat) (A0 : Option Addr) (c0 : Nat) (l0 : List (S82)) (r : List (List (S40))) (w : World) (hr0 : Kd.C k82 w A0 l0.length l0) (hc0 : l0.length ≤ c0) (h : spec_l11All.f k l0 = some r) :
  Calls Try.prog 51 #[.slice A0 l0.length c0] w fun e w' => ∃ v0_ : Value,e = .returned (v0_) ∧ Kd.N (Kd.slice 40 k40) 28 w' w.heap.size (fun k_ => (w.heap.size ≤ k_)) v0_ r ∧ Below w.heap.size w w':=by
 have HR0:=aM hr0
 have HC0:=aM hc0
 clear hr0 hc0
 have HB:=aM (Below.refl w.heap.size w)
 have H : (spec_l11All.l0 k l0 (([(([] : List (S40)))] : List (List (S40)))) 0) = some r:=h
 clear h
 obtain ⟨y361,hy361⟩ : ∃ y_ : List (S40),y_ = (([] : List (S40))):=⟨_,rfl⟩
 replace H : (spec_l11All.l0 k l0 (([y361] : List (List (S40)))) 0) = some r:=by first|(rw [hy361];with_reducible exact H)|(have H2_:=(Option.bind_some _ _).symm.trans H;rw [hy361];with_reducible exact H2_)|(have H2_:=(Option.bind_some _ _).symm.trans H;with_reducible exact H2_)|with_reducible exact H|(rw [hy361];exact H)|exact H
 have Ny361:=aM hy361
 clear hy361
 obtain ⟨y364,hy364⟩ : ∃ y_ : List (List (S40)),y_ = (([y361] : List (List (S40)))):=⟨_,rfl⟩
 replace H : (spec_l11All.l0 k l0 y364 0) = some r:=by first|(rw [hy364];with_reducible exact H)|(have H2_:=(Option.bind_some _ _).symm.trans H;rw [hy364];with_reducible exact H2_)|(have H2_:=(Option.bind_some _ _).symm.trans H;with_reducible exact H2_)|with_reducible exact H|(rw [hy364];exact H)|exact H
 have Ny364:=aM hy364
 clear hy364
 have H':=aM H
 clear H
 go_enter Try.func51,Try.ntmps51
 go_wp2_with (first|((with_reducible refine gate_dst (N:=7) rfl ?_);refine Kd.R_lit k40 _ 40 ?hg (N:=7) ?hd (xs:=([] : List (S40))) (inner:=[]) (ok:=fun _ => True) (okp:=fun _ => True) ?hr ?hp (fun _ hk => hk) trivial (Below.refl _ _) (Nat.le_refl _) Q51 ?_;(case hd => rfl);(case hg => rfl);(case hr => exact Q16);(case hp => exact (Reps.none _ _));intro v362 w2 ho3 hb hg_ hnew_;clear hg_ hnew_;(first|rw [← Ny361.out] at ho3|(simp only [Int.reduceToNat] at ho3;rw [← Ny361.out] at ho3));have n0_:=aM (Kd.R_lower (Kd.R_newM (M:=fun k_ => (w.heap.size ≤ k_)) ho3 (below_size Q3) (fun k_ h_ => h_)) (below_size Q3));have n1_:=aM (below_step Q3 hb);clear HB;have HO363:=n0_;have HB:=n1_;clear n0_ n1_;clear hb ho3;obtain ⟨Ao4,co4,eo4⟩:=Kd.R_slice HO363.out;subst eo4)|((with_reducible refine gate_dst (N:=8) rfl ?_);refine Kd.N_lit (Kd.slice 40 k40) _ 28 ?hg (N':=8) ?hd (xs:=([y361] : List (List (S40)))) (inner:=[.slice Ao4 y361.length co4]) (ok:=(fun k_ => (w.heap.size ≤ k_))) (okp:=(fun k_ => (w.heap.size ≤ k_))) ?hr ?hp (fun _ hk => hk) ((show ∀ k_,w2.heap.size ≤ k_ → (fun k_ => (w.heap.size ≤ k_)) k_ from fun k_ hk => (Nat.le_trans (below_size Q3) hk)) _ (Nat.le_refl _)) (Below.refl _ _) (Nat.le_refl _) Q51 ?_;(case hd => rfl);(case hg => rfl);(case hr => exact Q16);(case hp => exact (Reps.one (show Kd.FK (Kd.slice 40 k40) _ _ y361 [.slice Ao4 y361.length co4] from (Kd.FK_slice_mk (Kd.R_reads' (Kd.R_mono (ok':=(fun k_ => (w.heap.size ≤ k_))) (HO363.out) (fun k_ hk => hk.1))).2.1 (Kd.R_F (Kd.R_mono (ok':=(fun k_ => (w.heap.size ≤ k_))) (HO363.out) (fun k_ hk => hk.1))))) (Reps.none _ _)));intro v365 w5 ho6 hb hg_ hnew_;clear hg_ hnew_;(first|rw [← Ny364.out] at ho6|(simp only [Int.reduceToNat] at ho6;rw [← Ny364.out] at ho6));have n0_:=aM (Kd.N_lower ho6 (below_size Q3));have n1_:=aM (below_step Q3 hb);clear HB;clear HO363;have HO366:=n0_;have HB:=n1_;clear n0_ n1_;clear hb ho6))
 repeat (go_quiet (first|((with_reducible refine gate_dst (N:=7) rfl ?_);refine Kd.R_lit k40 _ 40 ?hg (N:=7) ?hd (xs:=([] : List (S40))) (inner:=[]) (ok:=fun _ => True) (okp:=fun _ => True) ?hr ?hp (fun _ hk => hk) trivial (Below.refl _ _) (Nat.le_refl _) Q51 ?_;(case hd => rfl);(case hg => rfl);(case hr => exact Q16);(case hp => exact (Reps.none _ _));intro v362 w2 ho3 hb hg_ hnew_;clear hg_ hnew_;(first|rw [← Ny361.out] at ho3|(simp only [Int.reduceToNat] at ho3;rw [← Ny361.out] at ho3));have n0_:=aM (Kd.R_lower (Kd.R_newM (M:=fun k_ => (w.heap.size ≤ k_)) ho3 (below_size Q3) (fun k_ h_ => h_)) (below_size Q3));have n1_:=aM (below_step Q3 hb);clear HB;have HO363:=n0_;have HB:=n1_;clear n0_ n1_;clear hb ho3;obtain ⟨Ao4,co4,eo4⟩:=Kd.R_slice HO363.out;subst eo4)|((with_reducible refine gate_dst (N:=8) rfl ?_);refine Kd.N_lit (Kd.slice 40 k40) _ 28 ?hg (N':=8) ?hd (xs:=([y361] : List (List (S40)))) (inner:=[.slice Ao4 y361.length co4]) (ok:=(fun k_ => (w.heap.size ≤ k_))) (okp:=(fun k_ => (w.heap.size ≤ k_))) ?hr ?hp (fun _ hk => hk) ((show ∀ k_,w2.heap.size ≤ k_ → (fun k_ => (w.heap.size ≤ k_)) k_ from fun k_ hk => (Nat.le_trans (below_size Q3) hk)) _ (Nat.le_refl _)) (Below.refl _ _) (Nat.le_refl _) Q51 ?_;(case hd => rfl);(case hg => rfl);(case hr => exact Q16);(case hp => exact (Reps.one (show Kd.FK (Kd.slice 40 k40) _ _ y361 [.slice Ao4 y361.length co4] from (Kd.FK_slice_mk (Kd.R_reads' (Kd.R_mono (ok':=(fun k_ => (w.heap.size ≤ k_))) (HO363.out) (fun k_ hk => hk.1))).2.1 (Kd.R_F (Kd.R_mono (ok':=(fun k_ => (w.heap.size ≤ k_))) (HO363.out) (fun k_ hk => hk.1))))) (Reps.none _ _)));intro v365 w5 ho6 hb hg_ hnew_;clear hg_ hnew_;(first|rw [← Ny364.out] at ho6|(simp only [Int.reduceToNat] at ho6;rw [← Ny364.out] at ho6));have n0_:=aM (Kd.N_lower ho6 (below_size Q3));have n1_:=aM (below_step Q3 hb);clear HB;clear HO363;have HO366:=n0_;have HB:=n1_;clear n0_ n1_;clear hb ho6));try go_wp2_with (first|((with_reducible refine gate_dst (N:=7) rfl ?_);refine Kd.R_lit k40 _ 40 ?hg (N:=7) ?hd (xs:=([] : List (S40))) (inner:=[]) (ok:=fun _ => True) (okp:=fun _ => True) ?hr ?hp (fun _ hk => hk) trivial (Below.refl _ _) (Nat.le_refl _) Q51 ?_;(case hd => rfl);(case hg => rfl);(case hr => exact Q16);(case hp => exact (Reps.none _ _));intro v362 w2 ho3 hb hg_ hnew_;clear hg_ hnew_;(first|rw [← Ny361.out] at ho3|(simp only [Int.reduceToNat] at ho3;rw [← Ny361.out] at ho3));have n0_:=aM (Kd.R_lower (Kd.R_newM (M:=fun k_ => (w.heap.size ≤ k_)) ho3 (below_size Q3) (fun k_ h_ => h_)) (below_size Q3));have n1_:=aM (below_step Q3 hb);clear HB;have HO363:=n0_;have HB:=n1_;clear n0_ n1_;clear hb ho3;obtain ⟨Ao4,co4,eo4⟩:=Kd.R_slice HO363.out;subst eo4)|((with_reducible refine gate_dst (N:=8) rfl ?_);refine Kd.N_lit (Kd.slice 40 k40) _ 28 ?hg (N':=8) ?hd (xs:=([y361] : List (List (S40)))) (inner:=[.slice Ao4 y361.length co4]) (ok:=(fun k_ => (w.heap.size ≤ k_))) (okp:=(fun k_ => (w.heap.size ≤ k_))) ?hr ?hp (fun _ hk => hk) ((show ∀ k_,w2.heap.size ≤ k_ → (fun k_ => (w.heap.size ≤ k_)) k_ from fun k_ hk => (Nat.le_trans (below_size Q3) hk)) _ (Nat.le_refl _)) (Below.refl _ _) (Nat.le_refl _) Q51 ?_;(case hd => rfl);(case hg => rfl);(case hr => exact Q16);(case hp => exact (Reps.one (show Kd.FK (Kd.slice 40 k40) _ _ y361 [.slice Ao4 y361.length co4] from (Kd.FK_slice_mk (Kd.R_reads' (Kd.R_mono (ok':=(fun k_ => (w.heap.size ≤ k_))) (HO363.out) (fun k_ hk => hk.1))).2.1 (Kd.R_F (Kd.R_mono (ok':=(fun k_ => (w.heap.size ≤ k_))) (HO363.out) (fun k_ hk => hk.1))))) (Reps.none _ _)));intro v365 w5 ho6 hb hg_ hnew_;clear hg_ hnew_;(first|rw [← Ny364.out] at ho6|(simp only [Int.reduceToNat] at ho6;rw [← Ny364.out] at ho6));have n0_:=aM (Kd.N_lower ho6 (below_size Q3));have n1_:=aM (below_step Q3 hb);clear HB;clear HO363;have HO366:=n0_;have HB:=n1_;clear n0_ n1_;clear hb ho6)))
 go_loopg [3,4] k (fun kq v3 v4 w' => ∃ (x3_1 : List (List (S40))) (x4_1 : Int),v4 = .int .i64 x4_1 ∧ Aside0 (spec_l11All.l0 kq l0 x3_1 x4_1 = some r) ∧ Aside0 (kq ≤ k) ∧ Aside0 (Kd.N (Kd.slice 40 k40) 28 w' w.heap.size (fun k_ => (w.heap.size ≤ k_)) v3 x3_1) ∧ Aside0 (Below w.heap.size w w'))
 case atStart => exact ⟨(y364),(0),Q11,H',⟨Nat.le_refl _⟩,⟨qN HO366⟩,⟨Q3⟩⟩
 case round =>
  clear H'
  try clear p2
  try clear c5
  obtain ⟨x3_1,x4_1,rfl,HA,HK1,HO_3,HB⟩:=hrel
  cases gk with
  | zero => exact absurd HA.out (by simp [spec_l11All.l0])
  | succ k1 =>
   have H:=HA.out
   clear HA
   simp only [spec_l11All.l0] at H
   by_cases c7 : x4_1 < (l0.length : Int)
   ·rw [if_pos c7] at H
    have c7b0 : decide (x4_1 < (l0.length : Int)) = true:=decide_eq_true c7
    clear c7
    have H':=aM H
    clear H
    go_wp2
    repeat (go_quiet (fail);try go_wp2)
    go_loopg [5,6] k1 (fun kq v5 v6 w' => ∃ (x5_2 : Bool) (x6_2 : Int),v5 = .bool x5_2 ∧ v6 = .int .i64 x6_2 ∧ Aside0 (spec_l11All.l1 kq l0 x3_1 x4_1 x5_2 x6_2 = some r) ∧ Aside0 (kq ≤ k1) ∧ Aside0 (Kd.N (Kd.slice 40 k40) 28 w' w.heap.size (fun k_ => (w.heap.size ≤ k_)) u3 x3_1) ∧ Aside0 (Below w.heap.size w w'))
    case atStart => exact ⟨(false),(0),Q11,Q11,H',⟨Nat.le_refl _⟩,⟨qN HO_3⟩,⟨Q3⟩⟩
    case round =>
     clear H'
     try clear p2
     try clear c5
     try clear c7
     try clear c7b0
     try clear p2
     obtain ⟨x5_2,x6_2,rfl,rfl,HA,HK2,HO_3,HB⟩:=hrel
     cases gk with
     | zero => exact absurd HA.out (by simp [spec_l11All.l1])
     | succ k2 =>
      have H:=HA.out
      clear HA
      simp only [spec_l11All.l1] at H
      by_cases c8 : x6_2 < (x3_1.length : Int)
      ·rw [if_pos c8] at H
       have c8b0 : decide (x6_2 < (x3_1.length : Int)) = true:=decide_eq_true c8
       clear c8
       by_cases c9 : x5_2 = true
       ·subst c9
        have H1 : (spec_l11All.l1 k2 l0 x3_1 x4_1 true (wrap64 (x6_2 + 1))) = some r:=by rw [if_pos rfl] at H;exact H
        clear H
        have H:=H1
        clear H1
        have H':=aM H
        clear H
        obtain ⟨Ao10,co10,eo10⟩:=Kd.N_slice HO_3.out
        subst eo10
        go_wp2
        repeat (go_quiet (fail);try go_wp2)
        go_roundg k2
        case measure => have:=HK1.out;have:=HK2.out;omega
        case rel => exact ⟨(true),(wrap64 (x6_2 + 1)),Q11,Q11,H',⟨Q149⟩,⟨qN HO_3⟩,⟨Q3⟩⟩
       ·replace c9:=Bool.eq_false_iff.mpr c9
        subst c9
        have H1 : (if 0 ≤ x6_2 then (if 0 ≤ x4_1 then (if x4_1 < (l0.length : Int) then ((spec_l3Same.f k2 (rd_L7 x3_1 x6_2) ((rd_T82 l0 x4_1).f1)).bind fun t369 => (spec_l11All.l1 k2 l0 x3_1 x4_1 t369 (wrap64 (x6_2 + 1)))) else (none)) else (none)) else (none)) = some r:=by rw [if_neg (show ¬ (false = true) by decide)] at H;exact H
        clear H
        have H:=H1
        clear H1
        by_cases c11 : 0 ≤ x6_2
        case neg => rw [if_neg c11] at H;exact absurd H Q51
        rw [if_pos c11] at H
        have c11b0 : decide (0 ≤ x6_2) = true:=decide_eq_true c11
        clear c11
        by_cases c12 : 0 ≤ x4_1
        case neg => rw [if_neg c12] at H;exact absurd H Q51
        rw [if_pos c12] at H
        have c12b0 : decide (0 ≤ x4_1) = true:=decide_eq_true c12
        clear c12
        by_cases c13 : x4_1 < (l0.length : Int)
        case neg => rw [if_neg c13] at H;exact absurd H Q51
        rw [if_pos c13] at H
        have c13b0 : decide (x4_1 < (l0.length : Int)) = true:=decide_eq_true c13
        clear c13
        replace H:=Option.bind_eq_some_iff.mp H
        obtain ⟨t369,A140,H⟩:=H
        replace H : (spec_l11All.l1 k2 l0 x3_1 x4_1 t369 (wrap64 (x6_2 + 1))) = some r:=H
        have A14:=aM A140
        clear A140
        have H':=aM H
        clear H
        obtain ⟨Ao15,co15,eo15⟩:=Kd.N_slice HO_3.out
        subst eo15
        have p367 : 0 ≤ (x6_2 : Int):=of_decide_eq_true Q5
        have q367 : x6_2 < (x3_1.length : Int):=of_decide_eq_true Q5
        obtain ⟨ad367,A367_0,c367_0,e367,hx367_0,hl367_0,hi367_0⟩:=at_L7 (Kd.N_reads' HO_3.out).2.2 x6_2 p367 q367
        cases e367
        obtain ⟨ce367,hce367,hMe367,hcc367⟩:=Kd.N_get HO_3.out [] x6_2 p367 (by first|exact q367|exact of_decide_eq_true Q5|(have e_:=(Kd.N_reads' HO_3.out).1;omega))
        obtain ⟨ua367_0,uc367_0,rfl,ul367_0,ge367_0⟩:=Kd.FK_slice_open hMe367
        have hv367_0:=hcc367 0 _ rfl
        rw [Nat.add_zero,show ((Kd.slice 40 k40)).sz = 1 from rfl,Nat.mul_one] at hv367_0
        replace hv367_0:=Option.some.inj (hv367_0.symm.trans hx367_0)
        injection hv367_0 with hva_ hvn_ hvc_
        rw [hva_] at ge367_0
        rw [hvc_] at ul367_0
        have HL367_0:=aM (show Kd.V k40 40 _ w.heap.size _ _ (rd_L7 x3_1 x6_2) from Kd.V_mk ul367_0 ge367_0)
        clear hva_ hvn_ hvc_ ge367_0 ul367_0
        clear hcc367 hce367
        have HR367_0:=aM hi367_0
        have HC367_0:=aM hl367_0
        clear hi367_0 hl367_0
        replace p367:=eq_true p367
        replace q367:=eq_true q367
        have p368 : 0 ≤ (x4_1 : Int):=of_decide_eq_true Q5
        have q368 : x4_1 < (l0.length : Int):=of_decide_eq_true Q5
        obtain ⟨ad368,A368_1,c368_1,e368,hx368_0,hx368_1,hl368_1,hi368_1⟩:=at_T82 HR0.out x4_1 p368 q368
        cases e368
        replace hx368_0:=(HB.out.cell (bL w hx368_0)).trans hx368_0
        replace hx368_1:=(HB.out.cell (bL w hx368_1)).trans hx368_1
        have HR368_1:=aM hi368_1
        have HC368_1:=aM hl368_1
        clear hi368_1 hl368_1
        replace p368:=eq_true p368
        replace q368:=eq_true q368
        go_wp2_with (first|(go_at_call 59;(with_reducible refine (spec_l3Same.calls k2 _ _ (rd_L7 x3_1 x6_2) _ _ ((rd_T82 l0 x4_1).f1) t369 _ ?side1 ?side2 ?side3 ?side4 A14.out).mono ?_);(case side1 => exact Q57);(case side2 => exact HC367_0.out);(case side3 => exact Q84);(case side4 => exact HC368_1.out);rintro e w' ⟨rfl,⟨nd,rfl⟩⟩;(try first|exact ⟨rfl,_,World.drewN_drewN _ _ _⟩|exact ⟨rfl,_,Eq.trans (World.drewN_drewN _ _ _) (congrArg (World.drewN _) (Nat.add_assoc _ _ _))⟩)))
        repeat (go_quiet (first|(go_at_call 59;(with_reducible refine (spec_l3Same.calls k2 _ _ (rd_L7 x3_1 x6_2) _ _ ((rd_T82 l0 x4_1).f1) t369 _ ?side1 ?side2 ?side3 ?side4 A14.out).mono ?_);(case side1 => exact Q57);(case side2 => exact HC367_0.out);(case side3 => exact Q84);(case side4 => exact HC368_1.out);rintro e w' ⟨rfl,⟨nd,rfl⟩⟩;(try first|exact ⟨rfl,_,World.drewN_drewN _ _ _⟩|exact ⟨rfl,_,Eq.trans (World.drewN_drewN _ _ _) (congrArg (World.drewN _) (Nat.add_assoc _ _ _))⟩)));try go_wp2_with (first|(go_at_call 59;(with_reducible refine (spec_l3Same.calls k2 _ _ (rd_L7 x3_1 x6_2) _ _ ((rd_T82 l0 x4_1).f1) t369 _ ?side1 ?side2 ?side3 ?side4 A14.out).mono ?_);(case side1 => exact Q57);(case side2 => exact HC367_0.out);(case side3 => exact Q84);(case side4 => exact HC368_1.out);rintro e w' ⟨rfl,⟨nd,rfl⟩⟩;(try first|exact ⟨rfl,_,World.drewN_drewN _ _ _⟩|exact ⟨rfl,_,Eq.trans (World.drewN_drewN _ _ _) (congrArg (World.drewN _) (Nat.add_assoc _ _ _))⟩))))
        go_roundg k2
        case measure => have:=HK1.out;have:=HK2.out;omega
        case rel => exact ⟨(t369),(wrap64 (x6_2 + 1)),Q11,Q11,H',⟨Q149⟩,⟨qN HO_3⟩,⟨Q3⟩⟩
      ·rw [if_neg c8] at H
       have c8b0 : decide (x6_2 < (x3_1.length : Int)) = false:=decide_eq_false c8
       clear c8
       by_cases c16 : x5_2 = true
       ·subst c16
        have H1 : (spec_l11All.l0 k2 l0 x3_1 (wrap64 (x4_1 + 1))) = some r:=by rw [if_pos rfl] at H;exact H
        clear H
        have H:=H1
        clear H1
        have H':=aM H
        clear H
        obtain ⟨Ao17,co17,eo17⟩:=Kd.N_slice HO_3.out
        subst eo17
        go_wp2
        repeat (go_quiet (fail);try go_wp2)
        go_roundg k2
        case measure => have:=HK1.out;have:=HK2.out;omega
        case rel => exact ⟨(x3_1),(wrap64 (x4_1 + 1)),Q11,H',⟨Q149⟩,⟨qN HO_3⟩,⟨Q3⟩⟩
       ·replace c16:=Bool.eq_false_iff.mpr c16
        subst c16
        have H1 : (if 0 ≤ x4_1 then (if x4_1 < (l0.length : Int) then ((spec_l11Sure.f k2 l0 ((rd_T82 l0 x4_1).f1)).bind fun t371 => (if t371 = true then ((spec_l1Copy.f ((rd_T82 l0 x4_1).f1)).bind fun t373 => (if x3_1.length < 5864062014805 then (spec_l11All.l0 k2 l0 (x3_1 ++ [t373]) (wrap64 (x4_1 + 1))) else (none))) else (spec_l11All.l0 k2 l0 x3_1 (wrap64 (x4_1 + 1))))) else (none)) else (none)) = some r:=by rw [if_neg (show ¬ (false = true) by decide)] at H;exact H
        clear H
        have H:=H1
        clear H1
        by_cases c18 : 0 ≤ x4_1
        case neg => rw [if_neg c18] at H;exact absurd H Q51
        rw [if_pos c18] at H
        have c18b0 : decide (0 ≤ x4_1) = true:=decide_eq_true c18
        clear c18
        by_cases c19 : x4_1 < (l0.length : Int)
        case neg => rw [if_neg c19] at H;exact absurd H Q51
        rw [if_pos c19] at H
        have c19b0 : decide (x4_1 < (l0.length : Int)) = true:=decide_eq_true c19
        clear c19
        replace H:=Option.bind_eq_some_iff.mp H
        obtain ⟨t371,A200,H⟩:=H
        replace H : (if t371 = true then ((spec_l1Copy.f ((rd_T82 l0 x4_1).f1)).bind fun t373 => (if x3_1.length < 5864062014805 then (spec_l11All.l0 k2 l0 (x3_1 ++ [t373]) (wrap64 (x4_1 + 1))) else (none))) else (spec_l11All.l0 k2 l0 x3_1 (wrap64 (x4_1 + 1)))) = some r:=H
        have A20:=aM A200
        clear A200
        by_cases c21 : t371 = true
        ·subst c21
         have H1 : ((spec_l1Copy.f ((rd_T82 l0 x4_1).f1)).bind fun t373 => (if x3_1.length < 5864062014805 then (spec_l11All.l0 k2 l0 (x3_1 ++ [t373]) (wrap64 (x4_1 + 1))) else (none))) = some r:=by rw [if_pos rfl] at H;exact H
         clear H
         have H:=H1
         clear H1
         replace H:=Option.bind_eq_some_iff.mp H
         obtain ⟨t373,A220,H⟩:=H
         replace H : (if x3_1.length < 5864062014805 then (spec_l11All.l0 k2 l0 (x3_1 ++ [t373]) (wrap64 (x4_1 + 1))) else (none)) = some r:=H
         have A22:=aM A220
         clear A220
         by_cases c23 : x3_1.length < 5864062014805
         case neg => rw [if_neg c23] at H;exact absurd H Q51
         rw [if_pos c23] at H
         have LMc23:=aM c23
         clear c23
         obtain ⟨y376,hy376⟩ : ∃ y_ : List (List (S40)),y_ = (x3_1 ++ [t373]):=⟨_,rfl⟩
         replace H : (spec_l11All.l0 k2 l0 y376 (wrap64 (x4_1 + 1))) = some r:=by first|(rw [hy376];with_reducible exact H)|(have H2_:=(Option.bind_some _ _).symm.trans H;rw [hy376];with_reducible exact H2_)|(have H2_:=(Option.bind_some _ _).symm.trans H;with_reducible exact H2_)|with_reducible exact H|(rw [hy376];exact H)|exact H
         have Ny376:=aM hy376
         clear hy376
         have H':=aM H
         clear H
         obtain ⟨Ao24,co24,eo24⟩:=Kd.N_slice HO_3.out
         subst eo24
         have p370 : 0 ≤ (x4_1 : Int):=of_decide_eq_true Q5
         have q370 : x4_1 < (l0.length : Int):=of_decide_eq_true Q5
         obtain ⟨ad370,A370_1,c370_1,e370,hx370_0,hx370_1,hl370_1,hi370_1⟩:=at_T82 HR0.out x4_1 p370 q370
         cases e370
         replace hx370_0:=(HB.out.cell (bL w hx370_0)).trans hx370_0
         replace hx370_1:=(HB.out.cell (bL w hx370_1)).trans hx370_1
         have HR370_1:=aM hi370_1
         have HC370_1:=aM hl370_1
         clear hi370_1 hl370_1
         replace p370:=eq_true p370
         replace q370:=eq_true q370
         go_wp2_with (first|(go_at_call 60;(with_reducible refine (spec_l11Sure.calls k2 _ _ l0 _ _ ((rd_T82 l0 x4_1).f1) true _ ?side1 ?side2 ?side3 ?side4 A20.out).mono ?_);(case side1 => exact Q19);(case side2 => exact HC0.out);(case side3 => exact Q43);(case side4 => exact HC370_1.out);rintro e w' ⟨rfl,⟨nd,rfl⟩⟩;(try first|exact ⟨rfl,_,World.drewN_drewN _ _ _⟩|exact ⟨rfl,_,Eq.trans (World.drewN_drewN _ _ _) (congrArg (World.drewN _) (Nat.add_assoc _ _ _))⟩);have p372 : 0 ≤ (x4_1 : Int):=of_decide_eq_true Q5;have q372 : x4_1 < (l0.length : Int):=of_decide_eq_true Q5;obtain ⟨ad372,A372_1,c372_1,e372,hx372_0,hx372_1,hl372_1,hi372_1⟩:=at_T82 HR0.out x4_1 p372 q372;obtain rfl : ad370 = ad372:=(by injection e372);replace hx372_0:=(HB.out.cell (bL w hx372_0)).trans hx372_0;replace hx372_1:=(HB.out.cell (bL w hx372_1)).trans hx372_1;have HR372_1:=aM hi372_1;have HC372_1:=aM hl372_1;clear hi372_1 hl372_1;replace p372:=eq_true p372;replace q372:=eq_true q372;have ea_:=Option.some.inj (hx370_1.symm.trans hx372_1);injection ea_ with ea_ en_ ec_;subst ea_;subst ec_;clear en_)|(go_at_call 48;(with_reducible refine (spec_l1Copy.calls _ _ ((rd_T82 l0 x4_1).f1) t373 _ ?side1 ?side2 A22.out).mono ?_);(case side1 => exact Q86);(case side2 => exact HC372_1.out);rintro e w25 ⟨v374,rfl,ho0,hb⟩;have n0_:=aM (Kd.N_elder' (qN HO_3) (Kd.R_base ho0) hb);have n1_:=aM (Kd.R_lower (Kd.R_newM (M:=fun k_ => (w.heap.size ≤ k_)) ho0 (below_size Q3) (fun k_ h_ => h_)) (below_size Q3));have n2_:=aM (below_step Q3 hb);clear HO_3;clear HB;have HO_3:=n0_;have HO375:=n1_;have HB:=n2_;clear n0_ n1_ n2_;(try clear hb);(try clear hb2);(try clear hk);(try clear hi);(try clear ho0);obtain ⟨Ao27,co27,eo27⟩:=Kd.R_slice HO375.out;subst eo27)|((with_reducible refine gate_builtin (b:=.append) (xs:=#[.tmp 45,.tmp 52]) rfl ?_);at_builtin;refine Kd.N_append (Kd.slice 40 k40) (w0:=w) w.heap.size rfl (.tmp 45) (.tmp 52) 88 28 (.slice none 0 0) 24 rfl Try.underlying88 info28 rfl Q36 Q17 (.slice Ao24 x3_1.length co24) x3_1 t373 [.slice Ao27 t373.length co27] (fun k_ => (w.heap.size ≤ k_)) (fun k_ => ((fun k_ => (w.heap.size ≤ k_))) k_ ∧ some k_ ≠ (.slice Ao24 x3_1.length co24 : Value).ownBlock) rfl rfl ?aP (fun _ hk => hk) ?aF ?aO ?aB ?aS ?aL ?_;(case aP => exact (Kd.FK_slice_mk (Kd.R_reads' (Kd.R_mono (ok':=(fun k_ => ((fun k_ => (w.heap.size ≤ k_))) k_ ∧ some k_ ≠ (.slice Ao24 x3_1.length co24 : Value).ownBlock)) (Kd.R_apart' (HO375.out) (Kd.N_typed HO_3.out) Q36) (fun k_ hk => ⟨hk.1.1,hk.2⟩))).2.1 (Kd.R_F (Kd.R_mono (ok':=(fun k_ => ((fun k_ => (w.heap.size ≤ k_))) k_ ∧ some k_ ≠ (.slice Ao24 x3_1.length co24 : Value).ownBlock)) (Kd.R_apart' (HO375.out) (Kd.N_typed HO_3.out) Q36) (fun k_ hk => ⟨hk.1.1,hk.2⟩)))));(case aB => exact Q3);(case aF => exact (fun k_ hk => (Nat.le_trans (below_size Q3) hk)));(case aO => exact Q101);(case aS => exact (below_size Q3));(case aL => have:=LMc23.out;omega);intro v377 w26 ho hb hg hat;rw [← Ny376.out] at ho;have n0_:=aM (hb);have n1_:=aM (ho);clear HB;clear HO_3;clear HO375;have HB:=n0_;have HO378:=n1_;clear n0_ n1_;clear ho hb hg hat))
         repeat (go_quiet (first|(go_at_call 60;(with_reducible refine (spec_l11Sure.calls k2 _ _ l0 _ _ ((rd_T82 l0 x4_1).f1) true _ ?side1 ?side2 ?side3 ?side4 A20.out).mono ?_);(case side1 => exact Q19);(case side2 => exact HC0.out);(case side3 => exact Q43);(case side4 => exact HC370_1.out);rintro e w' ⟨rfl,⟨nd,rfl⟩⟩;(try first|exact ⟨rfl,_,World.drewN_drewN _ _ _⟩|exact ⟨rfl,_,Eq.trans (World.drewN_drewN _ _ _) (congrArg (World.drewN _) (Nat.add_assoc _ _ _))⟩);have p372 : 0 ≤ (x4_1 : Int):=of_decide_eq_true Q5;have q372 : x4_1 < (l0.length : Int):=of_decide_eq_true Q5;obtain ⟨ad372,A372_1,c372_1,e372,hx372_0,hx372_1,hl372_1,hi372_1⟩:=at_T82 HR0.out x4_1 p372 q372;obtain rfl : ad370 = ad372:=(by injection e372);replace hx372_0:=(HB.out.cell (bL w hx372_0)).trans hx372_0;replace hx372_1:=(HB.out.cell (bL w hx372_1)).trans hx372_1;have HR372_1:=aM hi372_1;have HC372_1:=aM hl372_1;clear hi372_1 hl372_1;replace p372:=eq_true p372;replace q372:=eq_true q372;have ea_:=Option.some.inj (hx370_1.symm.trans hx372_1);injection ea_ with ea_ en_ ec_;subst ea_;subst ec_;clear en_)|(go_at_call 48;(with_reducible refine (spec_l1Copy.calls _ _ ((rd_T82 l0 x4_1).f1) t373 _ ?side1 ?side2 A22.out).mono ?_);(case side1 => exact Q86);(case side2 => exact HC372_1.out);rintro e w25 ⟨v374,rfl,ho0,hb⟩;have n0_:=aM (Kd.N_elder' (qN HO_3) (Kd.R_base ho0) hb);have n1_:=aM (Kd.R_lower (Kd.R_newM (M:=fun k_ => (w.heap.size ≤ k_)) ho0 (below_size Q3) (fun k_ h_ => h_)) (below_size Q3));have n2_:=aM (below_step Q3 hb);clear HO_3;clear HB;have HO_3:=n0_;have HO375:=n1_;have HB:=n2_;clear n0_ n1_ n2_;(try clear hb);(try clear hb2);(try clear hk);(try clear hi);(try clear ho0);obtain ⟨Ao27,co27,eo27⟩:=Kd.R_slice HO375.out;subst eo27)|((with_reducible refine gate_builtin (b:=.append) (xs:=#[.tmp 45,.tmp 52]) rfl ?_);at_builtin;refine Kd.N_append (Kd.slice 40 k40) (w0:=w) w.heap.size rfl (.tmp 45) (.tmp 52) 88 28 (.slice none 0 0) 24 rfl Try.underlying88 info28 rfl Q36 Q17 (.slice Ao24 x3_1.length co24) x3_1 t373 [.slice Ao27 t373.length co27] (fun k_ => (w.heap.size ≤ k_)) (fun k_ => ((fun k_ => (w.heap.size ≤ k_))) k_ ∧ some k_ ≠ (.slice Ao24 x3_1.length co24 : Value).ownBlock) rfl rfl ?aP (fun _ hk => hk) ?aF ?aO ?aB ?aS ?aL ?_;(case aP => exact (Kd.FK_slice_mk (Kd.R_reads' (Kd.R_mono (ok':=(fun k_ => ((fun k_ => (w.heap.size ≤ k_))) k_ ∧ some k_ ≠ (.slice Ao24 x3_1.length co24 : Value).ownBlock)) (Kd.R_apart' (HO375.out) (Kd.N_typed HO_3.out) Q36) (fun k_ hk => ⟨hk.1.1,hk.2⟩))).2.1 (Kd.R_F (Kd.R_mono (ok':=(fun k_ => ((fun k_ => (w.heap.size ≤ k_))) k_ ∧ some k_ ≠ (.slice Ao24 x3_1.length co24 : Value).ownBlock)) (Kd.R_apart' (HO375.out) (Kd.N_typed HO_3.out) Q36) (fun k_ hk => ⟨hk.1.1,hk.2⟩)))));(case aB => exact Q3);(case aF => exact (fun k_ hk => (Nat.le_trans (below_size Q3) hk)));(case aO => exact Q101);(case aS => exact (below_size Q3));(case aL => have:=LMc23.out;omega);intro v377 w26 ho hb hg hat;rw [← Ny376.out] at ho;have n0_:=aM (hb);have n1_:=aM (ho);clear HB;clear HO_3;clear HO375;have HB:=n0_;have HO378:=n1_;clear n0_ n1_;clear ho hb hg hat));try go_wp2_with (first|(go_at_call 60;(with_reducible refine (spec_l11Sure.calls k2 _ _ l0 _ _ ((rd_T82 l0 x4_1).f1) true _ ?side1 ?side2 ?side3 ?side4 A20.out).mono ?_);(case side1 => exact Q19);(case side2 => exact HC0.out);(case side3 => exact Q43);(case side4 => exact HC370_1.out);rintro e w' ⟨rfl,⟨nd,rfl⟩⟩;(try first|exact ⟨rfl,_,World.drewN_drewN _ _ _⟩|exact ⟨rfl,_,Eq.trans (World.drewN_drewN _ _ _) (congrArg (World.drewN _) (Nat.add_assoc _ _ _))⟩);have p372 : 0 ≤ (x4_1 : Int):=of_decide_eq_true Q5;have q372 : x4_1 < (l0.length : Int):=of_decide_eq_true Q5;obtain ⟨ad372,A372_1,c372_1,e372,hx372_0,hx372_1,hl372_1,hi372_1⟩:=at_T82 HR0.out x4_1 p372 q372;obtain rfl : ad370 = ad372:=(by injection e372);replace hx372_0:=(HB.out.cell (bL w hx372_0)).trans hx372_0;replace hx372_1:=(HB.out.cell (bL w hx372_1)).trans hx372_1;have HR372_1:=aM hi372_1;have HC372_1:=aM hl372_1;clear hi372_1 hl372_1;replace p372:=eq_true p372;replace q372:=eq_true q372;have ea_:=Option.some.inj (hx370_1.symm.trans hx372_1);injection ea_ with ea_ en_ ec_;subst ea_;subst ec_;clear en_)|(go_at_call 48;(with_reducible refine (spec_l1Copy.calls _ _ ((rd_T82 l0 x4_1).f1) t373 _ ?side1 ?side2 A22.out).mono ?_);(case side1 => exact Q86);(case side2 => exact HC372_1.out);rintro e w25 ⟨v374,rfl,ho0,hb⟩;have n0_:=aM (Kd.N_elder' (qN HO_3) (Kd.R_base ho0) hb);have n1_:=aM (Kd.R_lower (Kd.R_newM (M:=fun k_ => (w.heap.size ≤ k_)) ho0 (below_size Q3) (fun k_ h_ => h_)) (below_size Q3));have n2_:=aM (below_step Q3 hb);clear HO_3;clear HB;have HO_3:=n0_;have HO375:=n1_;have HB:=n2_;clear n0_ n1_ n2_;(try clear hb);(try clear hb2);(try clear hk);(try clear hi);(try clear ho0);obtain ⟨Ao27,co27,eo27⟩:=Kd.R_slice HO375.out;subst eo27)|((with_reducible refine gate_builtin (b:=.append) (xs:=#[.tmp 45,.tmp 52]) rfl ?_);at_builtin;refine Kd.N_append (Kd.slice 40 k40) (w0:=w) w.heap.size rfl (.tmp 45) (.tmp 52) 88 28 (.slice none 0 0) 24 rfl Try.underlying88 info28 rfl Q36 Q17 (.slice Ao24 x3_1.length co24) x3_1 t373 [.slice Ao27 t373.length co27] (fun k_ => (w.heap.size ≤ k_)) (fun k_ => ((fun k_ => (w.heap.size ≤ k_))) k_ ∧ some k_ ≠ (.slice Ao24 x3_1.length co24 : Value).ownBlock) rfl rfl ?aP (fun _ hk => hk) ?aF ?aO ?aB ?aS ?aL ?_;(case aP => exact (Kd.FK_slice_mk (Kd.R_reads' (Kd.R_mono (ok':=(fun k_ => ((fun k_ => (w.heap.size ≤ k_))) k_ ∧ some k_ ≠ (.slice Ao24 x3_1.length co24 : Value).ownBlock)) (Kd.R_apart' (HO375.out) (Kd.N_typed HO_3.out) Q36) (fun k_ hk => ⟨hk.1.1,hk.2⟩))).2.1 (Kd.R_F (Kd.R_mono (ok':=(fun k_ => ((fun k_ => (w.heap.size ≤ k_))) k_ ∧ some k_ ≠ (.slice Ao24 x3_1.length co24 : Value).ownBlock)) (Kd.R_apart' (HO375.out) (Kd.N_typed HO_3.out) Q36) (fun k_ hk => ⟨hk.1.1,hk.2⟩)))));(case aB => exact Q3);(case aF => exact (fun k_ hk => (Nat.le_trans (below_size Q3) hk)));(case aO => exact Q101);(case aS => exact (below_size Q3));(case aL => have:=LMc23.out;omega);intro v377 w26 ho hb hg hat;rw [← Ny376.out] at ho;have n0_:=aM (hb);have n1_:=aM (ho);clear HB;clear HO_3;clear HO375;have HB:=n0_;have HO378:=n1_;clear n0_ n1_;clear ho hb hg hat)))
         go_roundg k2
         case measure => have:=HK1.out;have:=HK2.out;omega
         case rel => exact ⟨(y376),(wrap64 (x4_1 + 1)),Q11,H',⟨Q149⟩,⟨qN HO378⟩,⟨Q3⟩⟩
        ·replace c21:=Bool.eq_false_iff.mpr c21
         subst c21
         have H1 : (spec_l11All.l0 k2 l0 x3_1 (wrap64 (x4_1 + 1))) = some r:=by rw [if_neg (show ¬ (false = true) by decide)] at H;exact H
         clear H
         have H:=H1
         clear H1
         have H':=aM H
         clear H
         obtain ⟨Ao28,co28,eo28⟩:=Kd.N_slice HO_3.out
         subst eo28
         have p370 : 0 ≤ (x4_1 : Int):=of_decide_eq_true Q5
         have q370 : x4_1 < (l0.length : Int):=of_decide_eq_true Q5
         obtain ⟨ad370,A370_1,c370_1,e370,hx370_0,hx370_1,hl370_1,hi370_1⟩:=at_T82 HR0.out x4_1 p370 q370
         cases e370
         replace hx370_0:=(HB.out.cell (bL w hx370_0)).trans hx370_0
         replace hx370_1:=(HB.out.cell (bL w hx370_1)).trans hx370_1
         have HR370_1:=aM hi370_1
         have HC370_1:=aM hl370_1
         clear hi370_1 hl370_1
         replace p370:=eq_true p370
         replace q370:=eq_true q370
         go_wp2_with (first|(go_at_call 60;(with_reducible refine (spec_l11Sure.calls k2 _ _ l0 _ _ ((rd_T82 l0 x4_1).f1) false _ ?side1 ?side2 ?side3 ?side4 A20.out).mono ?_);(case side1 => exact Q19);(case side2 => exact HC0.out);(case side3 => exact Q43);(case side4 => exact HC370_1.out);rintro e w' ⟨rfl,⟨nd,rfl⟩⟩;(try first|exact ⟨rfl,_,World.drewN_drewN _ _ _⟩|exact ⟨rfl,_,Eq.trans (World.drewN_drewN _ _ _) (congrArg (World.drewN _) (Nat.add_assoc _ _ _))⟩)))
         repeat (go_quiet (first|(go_at_call 60;(with_reducible refine (spec_l11Sure.calls k2 _ _ l0 _ _ ((rd_T82 l0 x4_1).f1) false _ ?side1 ?side2 ?side3 ?side4 A20.out).mono ?_);(case side1 => exact Q19);(case side2 => exact HC0.out);(case side3 => exact Q43);(case side4 => exact HC370_1.out);rintro e w' ⟨rfl,⟨nd,rfl⟩⟩;(try first|exact ⟨rfl,_,World.drewN_drewN _ _ _⟩|exact ⟨rfl,_,Eq.trans (World.drewN_drewN _ _ _) (congrArg (World.drewN _) (Nat.add_assoc _ _ _))⟩)));try go_wp2_with (first|(go_at_call 60;(with_reducible refine (spec_l11Sure.calls k2 _ _ l0 _ _ ((rd_T82 l0 x4_1).f1) false _ ?side1 ?side2 ?side3 ?side4 A20.out).mono ?_);(case side1 => exact Q19);(case side2 => exact HC0.out);(case side3 => exact Q43);(case side4 => exact HC370_1.out);rintro e w' ⟨rfl,⟨nd,rfl⟩⟩;(try first|exact ⟨rfl,_,World.drewN_drewN _ _ _⟩|exact ⟨rfl,_,Eq.trans (World.drewN_drewN _ _ _) (congrArg (World.drewN _) (Nat.add_assoc _ _ _))⟩))))
         go_roundg k2
         case measure => have:=HK1.out;have:=HK2.out;omega
         case rel => exact ⟨(x3_1),(wrap64 (x4_1 + 1)),Q11,H',⟨Q149⟩,⟨qN HO_3⟩,⟨Q3⟩⟩
   ·rw [if_neg c7] at H
    have c7b0 : decide (x4_1 < (l0.length : Int)) = false:=decide_eq_false c7
    clear c7
    obtain rfl:=Option.some.inj H
    go_wp2
    repeat (go_quiet (fail);try go_wp2)
    go_ret
    exact ⟨_,Q6,qN HO_3,Q3⟩

/-! ### spec_l11FinalIn: function 53 -/
def spec_l11FinalIn.l0 : Nat → List (S40) → Int → Option (Int)
 | 0,_,_ => none
 | k + 1,x0,x3 => if x3 ≥ 2 then (if 0 ≤ (wrap64 (x3 - 2)) then (if (wrap64 (x3 - 2)) < (x0.length : Int) then (if 0 ≤ (wrap64 (x3 - 1)) then (if (wrap64 (x3 - 1)) < (x0.length : Int) then (if (wrap64 (((rd_T40 x0 (wrap64 (x3 - 2))).f0) + 1)) = ((rd_T40 x0 (wrap64 (x3 - 1))).f0) then (if 0 ≤ x3 then (if x3 < (x0.length : Int) then (if (wrap64 (((rd_T40 x0 (wrap64 (x3 - 1))).f0) + 1)) = ((rd_T40 x0 x3).f0) then (some x3) else (spec_l11FinalIn.l0 k x0 (wrap64 (x3 - 1)))) else (none)) else (none)) else (spec_l11FinalIn.l0 k x0 (wrap64 (x3 - 1)))) else (none)) else (none)) else (none)) else (none)) else (some 0)
def spec_l11FinalIn.f (k : Nat) (l0 : List (S40)) : Option (Int):=spec_l11FinalIn.l0 k l0 (wrap64 ((l0.length : Int) - 1))
theorem spec_l11FinalIn.mono_l : ∀ k,(∀ y0 y1,LeO (spec_l11FinalIn.l0 k y0 y1) (spec_l11FinalIn.l0 (k + 1) y0 y1))
 | 0 => fun _ _ r h => by simp [spec_l11FinalIn.l0] at h
 | k + 1 => by
  have ih0:=spec_l11FinalIn.mono_l k
  ·intro y0 y1
   unfold spec_l11FinalIn.l0
   repeat' first
   | exact LeO.refl _
   | exact ih0 _ _
   | exact LeO.none _
   | refine LeO.ite ?_ ?_
   | refine LeO.bind ?_ (fun _ => ?_)
theorem spec_l11FinalIn.mono : ∀ a0 k,LeO (spec_l11FinalIn.f k a0) (spec_l11FinalIn.f (k + 1) a0):=by
 intro a0 k
 have ih0:=spec_l11FinalIn.mono_l k
 unfold spec_l11FinalIn.f
 repeat' first
   | exact LeO.refl _
   | exact ih0 _ _
   | exact LeO.none _
   | refine LeO.ite ?_ ?_
   | refine LeO.bind ?_ (fun _ => ?_)
set_option maxHeartbeats 8000000 in
set_option maxRecDepth 100000 in
theorem spec_l11FinalIn.calls (k : Nat) (A0 : Option Addr) (c0 : Nat) (l0 : List (S40)) (r : Int) (w : World) (hr0 : Kd.C k40 w A0 l0.length l0) (hc0 : l0.length ≤ c0) (h : spec_l11FinalIn.f k l0 = some r) :
  Calls Try.prog 53 #[.slice A0 l0.length c0] w fun e w' => e = .returned (.int .i64 r) ∧ Drawn0 w w':=by
 have HR0:=aM hr0
 have HC0:=aM hc0
 clear hr0 hc0
 have H : (spec_l11FinalIn.l0 k l0 (wrap64 ((l0.length : Int) - 1))) = some r:=h
 clear h
 have H':=aM H
 clear H
 go_enter Try.func53,Try.ntmps53
 go_wp2
 repeat (go_quiet (fail);try go_wp2)
 go_loopg [3] k (fun kq v3 w' => ∃ (x3_1 : Int),v3 = .int .i64 x3_1 ∧ Aside0 (spec_l11FinalIn.l0 kq l0 x3_1 = some r) ∧ Aside0 (kq ≤ k) ∧ Drawn0 w w')
 case atStart => exact ⟨(wrap64 ((l0.length : Int) - 1)),Q11,H',⟨Nat.le_refl _⟩,Q27⟩
 case round =>
  clear H'
  obtain ⟨x3_1,rfl,HA,HK1,⟨m1,rfl⟩⟩:=hrel
  cases gk with
  | zero => exact absurd HA.out (by simp [spec_l11FinalIn.l0])
  | succ k1 =>
   have H:=HA.out
   clear HA
   simp only [spec_l11FinalIn.l0] at H
   by_cases c2 : x3_1 ≥ 2
   ·rw [if_pos c2] at H
    have c2b0 : decide (2 ≤ x3_1) = true:=decide_eq_true c2
    clear c2
    obtain ⟨ji3,hji3⟩ : ∃ j_ : Int,(wrap64 (x3_1 - 2)) = j_:=⟨_,rfl⟩
    replace H : (if 0 ≤ (ji3) then (if (ji3) < (l0.length : Int) then (if 0 ≤ (wrap64 (x3_1 - 1)) then (if (wrap64 (x3_1 - 1)) < (l0.length : Int) then (if (wrap64 (((rd_T40 l0 (ji3)).f0) + 1)) = ((rd_T40 l0 (wrap64 (x3_1 - 1))).f0) then (if 0 ≤ x3_1 then (if x3_1 < (l0.length : Int) then (if (wrap64 (((rd_T40 l0 (wrap64 (x3_1 - 1))).f0) + 1)) = ((rd_T40 l0 x3_1).f0) then (some x3_1) else (spec_l11FinalIn.l0 k1 l0 (wrap64 (x3_1 - 1)))) else (none)) else (none)) else (spec_l11FinalIn.l0 k1 l0 (wrap64 (x3_1 - 1)))) else (none)) else (none)) else (none)) else (none)) = some r:=by first|(rw [hji3] at H;exact H)|(simp only [hji3] at H ⊢;exact H)
    have hji3w : (IntKind.i64.wrap (x3_1 - 2)) = ji3:=(i64_w _).trans hji3
    by_cases c4 : 0 ≤ (ji3)
    case neg => rw [if_neg c4] at H;exact absurd H Q51
    rw [if_pos c4] at H
    have c4b0 : decide (0 ≤ (ji3)) = true:=decide_eq_true c4
    clear c4
    by_cases c5 : (ji3) < (l0.length : Int)
    case neg => rw [if_neg c5] at H;exact absurd H Q51
    rw [if_pos c5] at H
    have c5b0 : decide ((ji3) < (l0.length : Int)) = true:=decide_eq_true c5
    clear c5
    obtain ⟨ji6,hji6⟩ : ∃ j_ : Int,(wrap64 (x3_1 - 1)) = j_:=⟨_,rfl⟩
    replace H : (if 0 ≤ (ji6) then (if (ji6) < (l0.length : Int) then (if (wrap64 (((rd_T40 l0 (ji3)).f0) + 1)) = ((rd_T40 l0 (ji6)).f0) then (if 0 ≤ x3_1 then (if x3_1 < (l0.length : Int) then (if (wrap64 (((rd_T40 l0 (ji6)).f0) + 1)) = ((rd_T40 l0 x3_1).f0) then (some x3_1) else (spec_l11FinalIn.l0 k1 l0 ji6)) else (none)) else (none)) else (spec_l11FinalIn.l0 k1 l0 ji6)) else (none)) else (none)) = some r:=by first|(rw [hji6] at H;exact H)|(simp only [hji6] at H ⊢;exact H)
    have hji6w : (IntKind.i64.wrap (x3_1 - 1)) = ji6:=(i64_w _).trans hji6
    by_cases c7 : 0 ≤ (ji6)
    case neg => rw [if_neg c7] at H;exact absurd H Q51
    rw [if_pos c7] at H
    have c7b0 : decide (0 ≤ (ji6)) = true:=decide_eq_true c7
    clear c7
    by_cases c8 : (ji6) < (l0.length : Int)
    case neg => rw [if_neg c8] at H;exact absurd H Q51
    rw [if_pos c8] at H
    have c8b0 : decide ((ji6) < (l0.length : Int)) = true:=decide_eq_true c8
    clear c8
    by_cases c9 : (wrap64 (((rd_T40 l0 (ji3)).f0) + 1)) = ((rd_T40 l0 (ji6)).f0)
    ·rw [if_pos c9] at H
     have c9b0 : ((wrap64 (((rd_T40 l0 (ji3)).f0) + 1)) == ((rd_T40 l0 (ji6)).f0)) = true:=beq_iff_eq.mpr c9
     have c9b1 : ((wrap64 (((rd_T40 l0 (ji3)).f0) + 1)) != ((rd_T40 l0 (ji6)).f0)) = false:=bne_eq_false_iff_eq.mpr c9
     clear c9
     by_cases c10 : 0 ≤ x3_1
     case neg => rw [if_neg c10] at H;exact absurd H Q51
     rw [if_pos c10] at H
     have c10b0 : decide (0 ≤ x3_1) = true:=decide_eq_true c10
     clear c10
     by_cases c11 : x3_1 < (l0.length : Int)
     case neg => rw [if_neg c11] at H;exact absurd H Q51
     rw [if_pos c11] at H
     have c11b0 : decide (x3_1 < (l0.length : Int)) = true:=decide_eq_true c11
     clear c11
     by_cases c12 : (wrap64 (((rd_T40 l0 (ji6)).f0) + 1)) = ((rd_T40 l0 x3_1).f0)
     ·rw [if_pos c12] at H
      have c12b0 : ((wrap64 (((rd_T40 l0 (ji6)).f0) + 1)) == ((rd_T40 l0 x3_1).f0)) = true:=beq_iff_eq.mpr c12
      have c12b1 : ((wrap64 (((rd_T40 l0 (ji6)).f0) + 1)) != ((rd_T40 l0 x3_1).f0)) = false:=bne_eq_false_iff_eq.mpr c12
      clear c12
      obtain rfl:=Option.some.inj H
      have p379 : 0 ≤ ((ji3) : Int):=of_decide_eq_true Q5
      have q379 : (ji3) < (l0.length : Int):=of_decide_eq_true Q5
      obtain ⟨ad379,e379,hx379_0,hx379_1,hx379_2,hx379_3⟩:=at_T40 HR0.out (ji3) p379 q379
      cases e379
      replace p379:=eq_true p379
      replace q379:=eq_true q379
      have p380 : 0 ≤ ((ji6) : Int):=of_decide_eq_true Q5
      have q380 : (ji6) < (l0.length : Int):=of_decide_eq_true Q5
      obtain ⟨ad380,e380,hx380_0,hx380_1,hx380_2,hx380_3⟩:=at_T40 HR0.out (ji6) p380 q380
      obtain rfl : ad379 = ad380:=(by injection e380)
      replace p380:=eq_true p380
      replace q380:=eq_true q380
      have p381 : 0 ≤ ((ji6) : Int):=of_decide_eq_true Q5
      have q381 : (ji6) < (l0.length : Int):=of_decide_eq_true Q5
      obtain ⟨ad381,e381,hx381_0,hx381_1,hx381_2,hx381_3⟩:=at_T40 HR0.out (ji6) p381 q381
      obtain rfl : ad379 = ad381:=(by injection e381)
      replace p381:=eq_true p381
      replace q381:=eq_true q381
      have p382 : 0 ≤ (x3_1 : Int):=of_decide_eq_true Q5
      have q382 : x3_1 < (l0.length : Int):=of_decide_eq_true Q5
      obtain ⟨ad382,e382,hx382_0,hx382_1,hx382_2,hx382_3⟩:=at_T40 HR0.out x3_1 p382 q382
      obtain rfl : ad379 = ad382:=(by injection e382)
      replace p382:=eq_true p382
      replace q382:=eq_true q382
      go_wp2
      repeat (go_quiet (fail);try go_wp2)
      go_ret
      exact ⟨by first|rfl|(simp;done)|(simp only [← hji3,← hji6] <;> (first|rfl|simp))|(simp [*];done),Q27⟩
     ·rw [if_neg c12] at H
      have c12b0 : ((wrap64 (((rd_T40 l0 (ji6)).f0) + 1)) == ((rd_T40 l0 x3_1).f0)) = false:=beq_eq_false_iff_ne.mpr c12
      have c12b1 : ((wrap64 (((rd_T40 l0 (ji6)).f0) + 1)) != ((rd_T40 l0 x3_1).f0)) = true:=bne_iff_ne.mpr c12
      have H':=aM H
      clear H
      have p379 : 0 ≤ ((ji3) : Int):=of_decide_eq_true Q5
      have q379 : (ji3) < (l0.length : Int):=of_decide_eq_true Q5
      obtain ⟨ad379,e379,hx379_0,hx379_1,hx379_2,hx379_3⟩:=at_T40 HR0.out (ji3) p379 q379
      cases e379
      replace p379:=eq_true p379
      replace q379:=eq_true q379
      have p380 : 0 ≤ ((ji6) : Int):=of_decide_eq_true Q5
      have q380 : (ji6) < (l0.length : Int):=of_decide_eq_true Q5
      obtain ⟨ad380,e380,hx380_0,hx380_1,hx380_2,hx380_3⟩:=at_T40 HR0.out (ji6) p380 q380
      obtain rfl : ad379 = ad380:=(by injection e380)
      replace p380:=eq_true p380
      replace q380:=eq_true q380
      have p381 : 0 ≤ ((ji6) : Int):=of_decide_eq_true Q5
      have q381 : (ji6) < (l0.length : Int):=of_decide_eq_true Q5
      obtain ⟨ad381,e381,hx381_0,hx381_1,hx381_2,hx381_3⟩:=at_T40 HR0.out (ji6) p381 q381
      obtain rfl : ad379 = ad381:=(by injection e381)
      replace p381:=eq_true p381
      replace q381:=eq_true q381
      have p382 : 0 ≤ (x3_1 : Int):=of_decide_eq_true Q5
      have q382 : x3_1 < (l0.length : Int):=of_decide_eq_true Q5
      obtain ⟨ad382,e382,hx382_0,hx382_1,hx382_2,hx382_3⟩:=at_T40 HR0.out x3_1 p382 q382
      obtain rfl : ad379 = ad382:=(by injection e382)
      replace p382:=eq_true p382
      replace q382:=eq_true q382
      go_wp2
      repeat (go_quiet (fail);try go_wp2)
      go_roundg k1
      case measure => have:=HK1.out;omega
      case rel => exact ⟨(ji6),(by first|rfl|(simp;done)|(simp only [← hji6] <;> (first|rfl|simp))|(simp [*];done)),H',⟨Q60⟩,Q27⟩
    ·rw [if_neg c9] at H
     have c9b0 : ((wrap64 (((rd_T40 l0 (ji3)).f0) + 1)) == ((rd_T40 l0 (ji6)).f0)) = false:=beq_eq_false_iff_ne.mpr c9
     have c9b1 : ((wrap64 (((rd_T40 l0 (ji3)).f0) + 1)) != ((rd_T40 l0 (ji6)).f0)) = true:=bne_iff_ne.mpr c9
     have H':=aM H
     clear H
     have p379 : 0 ≤ ((ji3) : Int):=of_decide_eq_true Q5
     have q379 : (ji3) < (l0.length : Int):=of_decide_eq_true Q5
     obtain ⟨ad379,e379,hx379_0,hx379_1,hx379_2,hx379_3⟩:=at_T40 HR0.out (ji3) p379 q379
     cases e379
     replace p379:=eq_true p379
     replace q379:=eq_true q379
     have p380 : 0 ≤ ((ji6) : Int):=of_decide_eq_true Q5
     have q380 : (ji6) < (l0.length : Int):=of_decide_eq_true Q5
     obtain ⟨ad380,e380,hx380_0,hx380_1,hx380_2,hx380_3⟩:=at_T40 HR0.out (ji6) p380 q380
     obtain rfl : ad379 = ad380:=(by injection e380)
     replace p380:=eq_true p380
     replace q380:=eq_true q380
     go_wp2
     repeat (go_quiet (fail);try go_wp2)
     go_roundg k1
     case measure => have:=HK1.out;omega
     case rel => exact ⟨(ji6),(by first|rfl|(simp;done)|(simp only [← hji6] <;> (first|rfl|simp))|(simp [*];done)),H',⟨Q60⟩,Q27⟩
   ·rw [if_neg c2] at H
    have c2b0 : decide (2 ≤ x3_1) = false:=decide_eq_false c2
    clear c2
    obtain rfl:=Option.some.inj H
    go_wp2
    repeat (go_quiet (fail);try go_wp2)
    go_ret
    exact ⟨Q11,Q27⟩

end Go.Proofs.Ytlcfalecbpnhbaa.P
