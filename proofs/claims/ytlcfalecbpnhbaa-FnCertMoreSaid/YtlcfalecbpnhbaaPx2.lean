/- The printed functions: what each Go function computes, as a Lean function, and that the Go code comes to just that. Conditions: none beyond each contract's own. -/
import Derived.Test.YtlcfalecbpnhbaaPx0
namespace Go.Proofs.Ytlcfalecbpnhbaa.P
open Go.RowKit Go.Proofs.YtlcfalecbpnhbaaW.PrintWords Go.Proofs.YtlcfalecbpnhbaaW.PrintLast Go.Proofs.YtlcfalecbpnhbaaW.PrintMore
attribute [local go_sem] max2_int min2_int max_two min_two max_three min_three max_four min_four   -- for this text's walks alone
set_option linter.unusedVariables false
set_option linter.unusedSimpArgs false

/-! ### impl_within: function 43 -/
def impl_within.f (a0 : Int) (a1 : Int) (a2 : Int) : Option (Bool):=if a0 ≥ a1 then (some (decide (a0 ≤ a2))) else (some false)
set_option maxHeartbeats 8000000 in
set_option maxRecDepth 100000 in
theorem impl_within.calls (a0 : Int) (a1 : Int) (a2 : Int) (r : Bool) (w : World) (h : impl_within.f a0 a1 a2 = some r) :
  Calls Try.prog 43 #[.int .i64 a0,.int .i64 a1,.int .i64 a2] w fun e w' => e = .returned (.bool r) ∧ Drawn0 w w':=by
 have H : (if a0 ≥ a1 then (some (decide (a0 ≤ a2))) else (some false)) = some r:=h
 clear h
 by_cases c4 : a0 ≥ a1
 ·rw [if_pos c4] at H
  have c4b0 : decide (a1 ≤ a0) = true:=decide_eq_true c4
  clear c4
  obtain rfl:=Option.some.inj H
  go_enter Try.func43,Try.ntmps43
  go_wp2
  go_ret
  exact ⟨Q11,Q27⟩
 ·rw [if_neg c4] at H
  have c4b0 : decide (a1 ≤ a0) = false:=decide_eq_false c4
  clear c4
  obtain rfl:=Option.some.inj H
  go_enter Try.func43,Try.ntmps43
  go_wp2
  go_ret
  exact ⟨Q11,Q27⟩

/-! ### impl_nodeOk: function 35 -/
def impl_nodeOk.f (a0 : Int) : Option (Bool):=(impl_within.f a0 1 4).bind fun t101 => (some t101)
set_option maxHeartbeats 8000000 in
set_option maxRecDepth 100000 in
theorem impl_nodeOk.calls (a0 : Int) (r : Bool) (w : World) (h : impl_nodeOk.f a0 = some r) :
  Calls Try.prog 35 #[.int .i64 a0] w fun e w' => e = .returned (.bool r) ∧ Drawn0 w w':=by
 have H : ((impl_within.f a0 1 4).bind fun t101 => (some t101)) = some r:=h
 clear h
 replace H:=Option.bind_eq_some_iff.mp H
 obtain ⟨t101,A20,H⟩:=H
 replace H : (some t101) = some r:=H
 have A2:=aM A20
 clear A20
 obtain rfl:=Option.some.inj H
 go_enter Try.func35,Try.ntmps35
 go_wp2_with (first|((with_reducible refine gate_callee (f:=43) rfl ?_);refine goesL_ (some 4) rfl rfl Try.func43 Q14 rfl #[.int .i64 a0,.int .i64 1,.int .i64 4] rfl Q1 ?_;(with_reducible refine (impl_within.calls a0 1 4 t101 _ A2.out).mono ?_);rintro e w' ⟨rfl,⟨nd,rfl⟩⟩;refine ⟨_,rfl,?_⟩))
 go_ret
 exact ⟨Q11,Q27⟩

/-! ### impl_votersOk: function 22 -/
def impl_votersOk.l0 : Nat → List Int → List Int → Int → Int → Option (Bool)
 | 0,_,_,_,_ => none
 | k + 1,x0,x5,x6,x7 => if x7 < x6 then (if 0 ≤ x7 then (if x7 < (x5.length : Int) then ((impl_nodeOk.f (rd x5 x7)).bind fun t103 => (if t103 = true then (if x7 > 0 then (if 0 ≤ (wrap64 (x7 - 1)) then (if (wrap64 (x7 - 1)) < (x0.length : Int) then (if (rd x0 (wrap64 (x7 - 1))) ≥ (rd x5 x7) then (some false) else (impl_votersOk.l0 k x0 x5 x6 (wrap64 (x7 + 1)))) else (none)) else (none)) else (impl_votersOk.l0 k x0 x5 x6 (wrap64 (x7 + 1)))) else (some false))) else (none)) else (none)) else (some (decide ((x0.length : Int) ≥ 3)))
def impl_votersOk.f (k : Nat) (l0 : List Int) : Option (Bool):=impl_votersOk.l0 k l0 l0 (l0.length : Int) 0
theorem impl_votersOk.mono_l : ∀ k,(∀ y0 y1 y2 y3,LeO (impl_votersOk.l0 k y0 y1 y2 y3) (impl_votersOk.l0 (k + 1) y0 y1 y2 y3))
 | 0 => fun _ _ _ _ r h => by simp [impl_votersOk.l0] at h
 | k + 1 => by
  have ih0:=impl_votersOk.mono_l k
  ·intro y0 y1 y2 y3
   unfold impl_votersOk.l0
   repeat' first
   | exact LeO.refl _
   | exact ih0 _ _ _ _
   | exact LeO.none _
   | refine LeO.ite ?_ ?_
   | refine LeO.bind ?_ (fun _ => ?_)
theorem impl_votersOk.mono : ∀ a0 k,LeO (impl_votersOk.f k a0) (impl_votersOk.f (k + 1) a0):=by
 intro a0 k
 have ih0:=impl_votersOk.mono_l k
 unfold impl_votersOk.f
 repeat' first
   | exact LeO.refl _
   | exact ih0 _ _ _ _
   | exact LeO.none _
   | refine LeO.ite ?_ ?_
   | refine LeO.bind ?_ (fun _ => ?_)
set_option maxHeartbeats 8000000 in
set_option maxRecDepth 100000 in
theorem impl_votersOk.calls (k : Nat) (A0 : Option Addr) (c0 : Nat) (l0 : List Int) (r : Bool) (w : World) (hr0 : Kd.C (Kd.int .i64) w A0 l0.length l0) (hc0 : l0.length ≤ c0) (h : impl_votersOk.f k l0 = some r) :
  Calls Try.prog 22 #[.slice A0 l0.length c0] w fun e w' => e = .returned (.bool r) ∧ Drawn0 w w':=by
 have HR0:=aM hr0
 have HC0:=aM hc0
 clear hr0 hc0
 have H : (impl_votersOk.l0 k l0 l0 (l0.length : Int) 0) = some r:=h
 clear h
 have H':=aM H
 clear H
 go_enter Try.func22,Try.ntmps22
 go_wp2
 go_loopg [7] k (fun kq v7 w' => ∃ (x7_1 : Int),v7 = .int .i64 x7_1 ∧ Aside0 (impl_votersOk.l0 kq l0 l0 (l0.length : Int) x7_1 = some r) ∧ Aside0 (kq ≤ k) ∧ Drawn0 w w')
 case atStart => exact ⟨(0),Q11,H',⟨Nat.le_refl _⟩,Q27⟩
 case round =>
  clear H'
  obtain ⟨x7_1,rfl,HA,HK1,⟨m1,rfl⟩⟩:=hrel
  cases gk with
  | zero => exact absurd HA.out (by simp [impl_votersOk.l0])
  | succ k1 =>
   have H:=HA.out
   clear HA
   simp only [impl_votersOk.l0] at H
   by_cases c2 : x7_1 < (l0.length : Int)
   ·rw [if_pos c2] at H
    have c2b0 : decide (x7_1 < (l0.length : Int)) = true:=decide_eq_true c2
    clear c2
    by_cases c3 : 0 ≤ x7_1
    case neg => rw [if_neg c3] at H;exact absurd H Q51
    rw [if_pos c3] at H
    have c3b0 : decide (0 ≤ x7_1) = true:=decide_eq_true c3
    clear c3
    by_cases c4 : x7_1 < (l0.length : Int)
    case neg => rw [if_neg c4] at H;exact absurd H Q51
    rw [if_pos c4] at H
    have c4b0 : decide (x7_1 < (l0.length : Int)) = true:=decide_eq_true c4
    clear c4
    replace H:=Option.bind_eq_some_iff.mp H
    obtain ⟨t103,A50,H⟩:=H
    replace H : (if t103 = true then (if x7_1 > 0 then (if 0 ≤ (wrap64 (x7_1 - 1)) then (if (wrap64 (x7_1 - 1)) < (l0.length : Int) then (if (rd l0 (wrap64 (x7_1 - 1))) ≥ (rd l0 x7_1) then (some false) else (impl_votersOk.l0 k1 l0 l0 (l0.length : Int) (wrap64 (x7_1 + 1)))) else (none)) else (none)) else (impl_votersOk.l0 k1 l0 l0 (l0.length : Int) (wrap64 (x7_1 + 1)))) else (some false)) = some r:=H
    have A5:=aM A50
    clear A50
    by_cases c6 : t103 = true
    ·subst c6
     have H1 : (if x7_1 > 0 then (if 0 ≤ (wrap64 (x7_1 - 1)) then (if (wrap64 (x7_1 - 1)) < (l0.length : Int) then (if (rd l0 (wrap64 (x7_1 - 1))) ≥ (rd l0 x7_1) then (some false) else (impl_votersOk.l0 k1 l0 l0 (l0.length : Int) (wrap64 (x7_1 + 1)))) else (none)) else (none)) else (impl_votersOk.l0 k1 l0 l0 (l0.length : Int) (wrap64 (x7_1 + 1)))) = some r:=by rw [if_pos rfl] at H;exact H
     clear H
     have H:=H1
     clear H1
     by_cases c7 : x7_1 > 0
     ·rw [if_pos c7] at H
      have c7b0 : decide (0 < x7_1) = true:=decide_eq_true c7
      clear c7
      obtain ⟨ji8,hji8⟩ : ∃ j_ : Int,(wrap64 (x7_1 - 1)) = j_:=⟨_,rfl⟩
      replace H : (if 0 ≤ (ji8) then (if (ji8) < (l0.length : Int) then (if (rd l0 (ji8)) ≥ (rd l0 x7_1) then (some false) else (impl_votersOk.l0 k1 l0 l0 (l0.length : Int) (wrap64 (x7_1 + 1)))) else (none)) else (none)) = some r:=by first|(rw [hji8] at H;exact H)|(simp only [hji8] at H ⊢;exact H)
      (try rw [hji8] at A5)
      have hji8w : (IntKind.i64.wrap (x7_1 - 1)) = ji8:=(i64_w _).trans hji8
      by_cases c9 : 0 ≤ (ji8)
      case neg => rw [if_neg c9] at H;exact absurd H Q51
      rw [if_pos c9] at H
      have c9b0 : decide (0 ≤ (ji8)) = true:=decide_eq_true c9
      clear c9
      by_cases c10 : (ji8) < (l0.length : Int)
      case neg => rw [if_neg c10] at H;exact absurd H Q51
      rw [if_pos c10] at H
      have c10b0 : decide ((ji8) < (l0.length : Int)) = true:=decide_eq_true c10
      clear c10
      by_cases c11 : (rd l0 (ji8)) ≥ (rd l0 x7_1)
      ·rw [if_pos c11] at H
       have c11b0 : decide ((rd l0 x7_1) ≤ (rd l0 (ji8))) = true:=decide_eq_true c11
       clear c11
       obtain rfl:=Option.some.inj H
       have p102 : 0 ≤ (x7_1 : Int):=of_decide_eq_true Q5
       have q102 : x7_1 < (l0.length : Int):=of_decide_eq_true Q5
       obtain ⟨ad102,e102,hx102_0⟩:=Kd.at_int HR0.out x7_1 p102 q102
       cases e102
       replace p102:=eq_true p102
       replace q102:=eq_true q102
       go_wp2_with (first|((with_reducible refine gate_callee (f:=35) rfl ?_);refine goesL_ (some 13) rfl rfl Try.func35 Q14 rfl #[.int .i64 (rd l0 x7_1)] rfl Q1 ?_;(with_reducible refine (impl_nodeOk.calls (rd l0 x7_1) true _ A5.out).mono ?_);rintro e w' ⟨rfl,⟨nd,rfl⟩⟩;refine ⟨_,rfl,?_⟩;have p104 : 0 ≤ ((ji8) : Int):=of_decide_eq_true Q5;have q104 : (ji8) < (l0.length : Int):=of_decide_eq_true Q5;obtain ⟨ad104,e104,hx104_0⟩:=Kd.at_int HR0.out (ji8) p104 q104;obtain rfl : ad102 = ad104:=(by injection e104);replace p104:=eq_true p104;replace q104:=eq_true q104))
       go_ret
       exact ⟨by first|rfl|(simp;done)|(simp only [← hji8] <;> (first|rfl|simp))|(simp [*];done),Q27⟩
      ·rw [if_neg c11] at H
       have c11b0 : decide ((rd l0 x7_1) ≤ (rd l0 (ji8))) = false:=decide_eq_false c11
       clear c11
       have H':=aM H
       clear H
       have p102 : 0 ≤ (x7_1 : Int):=of_decide_eq_true Q5
       have q102 : x7_1 < (l0.length : Int):=of_decide_eq_true Q5
       obtain ⟨ad102,e102,hx102_0⟩:=Kd.at_int HR0.out x7_1 p102 q102
       cases e102
       replace p102:=eq_true p102
       replace q102:=eq_true q102
       go_wp2_with (first|((with_reducible refine gate_callee (f:=35) rfl ?_);refine goesL_ (some 13) rfl rfl Try.func35 Q14 rfl #[.int .i64 (rd l0 x7_1)] rfl Q1 ?_;(with_reducible refine (impl_nodeOk.calls (rd l0 x7_1) true _ A5.out).mono ?_);rintro e w' ⟨rfl,⟨nd,rfl⟩⟩;refine ⟨_,rfl,?_⟩;have p104 : 0 ≤ ((ji8) : Int):=of_decide_eq_true Q5;have q104 : (ji8) < (l0.length : Int):=of_decide_eq_true Q5;obtain ⟨ad104,e104,hx104_0⟩:=Kd.at_int HR0.out (ji8) p104 q104;obtain rfl : ad102 = ad104:=(by injection e104);replace p104:=eq_true p104;replace q104:=eq_true q104))
       go_roundg k1
       case measure => have:=HK1.out;omega
       case rel => exact ⟨(wrap64 (x7_1 + 1)),Q11,H',⟨Q60⟩,Q27⟩
     ·rw [if_neg c7] at H
      have c7b0 : decide (0 < x7_1) = false:=decide_eq_false c7
      clear c7
      have H':=aM H
      clear H
      have p102 : 0 ≤ (x7_1 : Int):=of_decide_eq_true Q5
      have q102 : x7_1 < (l0.length : Int):=of_decide_eq_true Q5
      obtain ⟨ad102,e102,hx102_0⟩:=Kd.at_int HR0.out x7_1 p102 q102
      cases e102
      replace p102:=eq_true p102
      replace q102:=eq_true q102
      go_wp2_with (first|((with_reducible refine gate_callee (f:=35) rfl ?_);refine goesL_ (some 13) rfl rfl Try.func35 Q14 rfl #[.int .i64 (rd l0 x7_1)] rfl Q1 ?_;(with_reducible refine (impl_nodeOk.calls (rd l0 x7_1) true _ A5.out).mono ?_);rintro e w' ⟨rfl,⟨nd,rfl⟩⟩;refine ⟨_,rfl,?_⟩))
      go_roundg k1
      case measure => have:=HK1.out;omega
      case rel => exact ⟨(wrap64 (x7_1 + 1)),Q11,H',⟨Q60⟩,Q27⟩
    ·replace c6:=Bool.eq_false_iff.mpr c6
     subst c6
     have H1 : (some false) = some r:=by rw [if_neg (show ¬ (false = true) by decide)] at H;exact H
     clear H
     have H:=H1
     clear H1
     obtain rfl:=Option.some.inj H
     have p102 : 0 ≤ (x7_1 : Int):=of_decide_eq_true Q5
     have q102 : x7_1 < (l0.length : Int):=of_decide_eq_true Q5
     obtain ⟨ad102,e102,hx102_0⟩:=Kd.at_int HR0.out x7_1 p102 q102
     cases e102
     replace p102:=eq_true p102
     replace q102:=eq_true q102
     go_wp2_with (first|((with_reducible refine gate_callee (f:=35) rfl ?_);refine goesL_ (some 13) rfl rfl Try.func35 Q14 rfl #[.int .i64 (rd l0 x7_1)] rfl Q1 ?_;(with_reducible refine (impl_nodeOk.calls (rd l0 x7_1) false _ A5.out).mono ?_);rintro e w' ⟨rfl,⟨nd,rfl⟩⟩;refine ⟨_,rfl,?_⟩))
     go_ret
     exact ⟨Q11,Q27⟩
   ·rw [if_neg c2] at H
    have c2b0 : decide (x7_1 < (l0.length : Int)) = false:=decide_eq_false c2
    clear c2
    obtain rfl:=Option.some.inj H
    go_wp2
    go_ret
    exact ⟨Q11,Q27⟩

/-! ### spec_l6In: function 28 -/
def spec_l6In.f (a0 : Int) (a1 : Int) (a2 : Int) : Option (Bool):=if a0 ≥ a1 then (some (decide (a0 ≤ a2))) else (some false)
set_option maxHeartbeats 8000000 in
set_option maxRecDepth 100000 in
theorem spec_l6In.calls (a0 : Int) (a1 : Int) (a2 : Int) (r : Bool) (w : World) (h : spec_l6In.f a0 a1 a2 = some r) :
  Calls Try.prog 28 #[.int .i64 a0,.int .i64 a1,.int .i64 a2] w fun e w' => e = .returned (.bool r) ∧ Drawn0 w w':=by
 have H : (if a0 ≥ a1 then (some (decide (a0 ≤ a2))) else (some false)) = some r:=h
 clear h
 by_cases c4 : a0 ≥ a1
 ·rw [if_pos c4] at H
  have c4b0 : decide (a1 ≤ a0) = true:=decide_eq_true c4
  clear c4
  obtain rfl:=Option.some.inj H
  go_enter Try.func28,Try.ntmps28
  go_wp2
  go_ret
  exact ⟨Q11,Q27⟩
 ·rw [if_neg c4] at H
  have c4b0 : decide (a1 ≤ a0) = false:=decide_eq_false c4
  clear c4
  obtain rfl:=Option.some.inj H
  go_enter Try.func28,Try.ntmps28
  go_wp2
  go_ret
  exact ⟨Q11,Q27⟩

/-! ### spec_PayOk: function 29 -/
def spec_PayOk.f (a0_0 : Int) (a0_1 : Int) (a0_2 : Int) : Option (Bool):=(spec_l6In.f a0_0 1 3).bind fun t106 => (if t106 = true then ((spec_l6In.f a0_1 1 3).bind fun t107 => (if t107 = true then (if a0_0 = a0_1 then (some false) else ((spec_l6In.f a0_2 1 9).bind fun t108 => (some t108))) else (some false))) else (some false))
set_option maxHeartbeats 8000000 in
set_option maxRecDepth 100000 in
theorem spec_PayOk.calls (a0_0 : Int) (a0_1 : Int) (a0_2 : Int) (r : Bool) (w : World) (h : spec_PayOk.f a0_0 a0_1 a0_2 = some r) :
  Calls Try.prog 29 #[.agg #[.int .i64 a0_0,.int .i64 a0_1,.int .i64 a0_2]] w fun e w' => e = .returned (.bool r) ∧ Below w.heap.size w w':=by
 have hu38:=Try.underlying38
 have HB:=aM (Below.refl w.heap.size w)
 have H : ((spec_l6In.f a0_0 1 3).bind fun t106 => (if t106 = true then ((spec_l6In.f a0_1 1 3).bind fun t107 => (if t107 = true then (if a0_0 = a0_1 then (some false) else ((spec_l6In.f a0_2 1 9).bind fun t108 => (some t108))) else (some false))) else (some false))) = some r:=h
 clear h
 replace H:=Option.bind_eq_some_iff.mp H
 obtain ⟨t106,A20,H⟩:=H
 replace H : (if t106 = true then ((spec_l6In.f a0_1 1 3).bind fun t107 => (if t107 = true then (if a0_0 = a0_1 then (some false) else ((spec_l6In.f a0_2 1 9).bind fun t108 => (some t108))) else (some false))) else (some false)) = some r:=H
 have A2:=aM A20
 clear A20
 by_cases c3 : t106 = true
 ·subst c3
  have H1 : ((spec_l6In.f a0_1 1 3).bind fun t107 => (if t107 = true then (if a0_0 = a0_1 then (some false) else ((spec_l6In.f a0_2 1 9).bind fun t108 => (some t108))) else (some false))) = some r:=by rw [if_pos rfl] at H;exact H
  clear H
  have H:=H1
  clear H1
  replace H:=Option.bind_eq_some_iff.mp H
  obtain ⟨t107,A40,H⟩:=H
  replace H : (if t107 = true then (if a0_0 = a0_1 then (some false) else ((spec_l6In.f a0_2 1 9).bind fun t108 => (some t108))) else (some false)) = some r:=H
  have A4:=aM A40
  clear A40
  by_cases c5 : t107 = true
  ·subst c5
   have H1 : (if a0_0 = a0_1 then (some false) else ((spec_l6In.f a0_2 1 9).bind fun t108 => (some t108))) = some r:=by rw [if_pos rfl] at H;exact H
   clear H
   have H:=H1
   clear H1
   by_cases c6 : a0_0 = a0_1
   ·rw [if_pos c6] at H
    have c6b0 : (a0_0 == a0_1) = true:=beq_iff_eq.mpr c6
    have c6b1 : (a0_0 != a0_1) = false:=bne_eq_false_iff_eq.mpr c6
    clear c6
    obtain rfl:=Option.some.inj H
    go_enter Try.func29,Try.ntmps29
    go_wp2_with (first|((with_reducible refine gate_dst (N:=1) rfl ?_);refine box_event ?hg (N:=1) ?hd (cs:=#[.int .i64 a0_0,.int .i64 a0_1,.int .i64 a0_2]) (t:=38) ?hr ?_;(case hd => rfl);(case hg => rfl);(case hr => exact Q16);intro gb105 hg w7 hbox hb;have n0_:=aM (below_step Q3 hb);have n1_:=aM (hbox);have n2_:=aM ((Q37 : w.heap.size ≤ gb105));have n3_:=aM ((Q37 : w.heap.size ≤ gb105));clear HB;have HB:=n0_;have BK105:=n1_;have GW105:=n2_;have GE105:=n3_;clear n0_ n1_ n2_ n3_;clear hb hbox hg;have hcz8_0 : w7.cell? ⟨gb105,0,none⟩ = some (.int .i64 a0_0):=(blk_cell BK105.out 0).trans rfl;have hcz8_1 : w7.cell? ⟨gb105,1,none⟩ = some (.int .i64 a0_1):=(blk_cell BK105.out 1).trans rfl;have hcz8_2 : w7.cell? ⟨gb105,2,none⟩ = some (.int .i64 a0_2):=(blk_cell BK105.out 2).trans rfl;have hfz8_0:=blk_frozen BK105.out 0;have hfz8_1:=blk_frozen BK105.out 1;have hfz8_2:=blk_frozen BK105.out 2)|((with_reducible refine gate_callee (f:=28) rfl ?_);refine goesL_ (some 5) rfl rfl Try.func28 Q14 rfl #[.int .i64 a0_0,.int .i64 1,.int .i64 3] rfl Q1 ?_;(with_reducible refine (spec_l6In.calls a0_0 1 3 true _ A2.out).mono ?_);rintro e w' ⟨rfl,⟨nd,rfl⟩⟩;refine ⟨_,rfl,?_⟩)|(go_at_call 28;(with_reducible refine (spec_l6In.calls a0_1 1 3 true _ A4.out).mono ?_);rintro e w' ⟨rfl,⟨nd,rfl⟩⟩))
    go_ret
    exact ⟨Q6,Q80⟩
   ·rw [if_neg c6] at H
    have c6b0 : (a0_0 == a0_1) = false:=beq_eq_false_iff_ne.mpr c6
    have c6b1 : (a0_0 != a0_1) = true:=bne_iff_ne.mpr c6
    replace H:=Option.bind_eq_some_iff.mp H
    obtain ⟨t108,A90,H⟩:=H
    replace H : (some t108) = some r:=H
    have A9:=aM A90
    clear A90
    obtain rfl:=Option.some.inj H
    go_enter Try.func29,Try.ntmps29
    go_wp2_with (first|((with_reducible refine gate_dst (N:=1) rfl ?_);refine box_event ?hg (N:=1) ?hd (cs:=#[.int .i64 a0_0,.int .i64 a0_1,.int .i64 a0_2]) (t:=38) ?hr ?_;(case hd => rfl);(case hg => rfl);(case hr => exact Q16);intro gb105 hg w10 hbox hb;have n0_:=aM (below_step Q3 hb);have n1_:=aM (hbox);have n2_:=aM ((Q37 : w.heap.size ≤ gb105));have n3_:=aM ((Q37 : w.heap.size ≤ gb105));clear HB;have HB:=n0_;have BK105:=n1_;have GW105:=n2_;have GE105:=n3_;clear n0_ n1_ n2_ n3_;clear hb hbox hg;have hcz11_0 : w10.cell? ⟨gb105,0,none⟩ = some (.int .i64 a0_0):=(blk_cell BK105.out 0).trans rfl;have hcz11_1 : w10.cell? ⟨gb105,1,none⟩ = some (.int .i64 a0_1):=(blk_cell BK105.out 1).trans rfl;have hcz11_2 : w10.cell? ⟨gb105,2,none⟩ = some (.int .i64 a0_2):=(blk_cell BK105.out 2).trans rfl;have hfz11_0:=blk_frozen BK105.out 0;have hfz11_1:=blk_frozen BK105.out 1;have hfz11_2:=blk_frozen BK105.out 2)|((with_reducible refine gate_callee (f:=28) rfl ?_);refine goesL_ (some 5) rfl rfl Try.func28 Q14 rfl #[.int .i64 a0_0,.int .i64 1,.int .i64 3] rfl Q1 ?_;(with_reducible refine (spec_l6In.calls a0_0 1 3 true _ A2.out).mono ?_);rintro e w' ⟨rfl,⟨nd,rfl⟩⟩;refine ⟨_,rfl,?_⟩)|(go_at_call 28;(with_reducible refine (spec_l6In.calls a0_1 1 3 true _ A4.out).mono ?_);rintro e w' ⟨rfl,⟨nd,rfl⟩⟩)|(go_at_call 28;(with_reducible refine (spec_l6In.calls a0_2 1 9 t108 _ A9.out).mono ?_);rintro e w' ⟨rfl,⟨nd,rfl⟩⟩))
    go_ret
    exact ⟨Q6,Q80⟩
  ·replace c5:=Bool.eq_false_iff.mpr c5
   subst c5
   have H1 : (some false) = some r:=by rw [if_neg (show ¬ (false = true) by decide)] at H;exact H
   clear H
   have H:=H1
   clear H1
   obtain rfl:=Option.some.inj H
   go_enter Try.func29,Try.ntmps29
   go_wp2_with (first|((with_reducible refine gate_dst (N:=1) rfl ?_);refine box_event ?hg (N:=1) ?hd (cs:=#[.int .i64 a0_0,.int .i64 a0_1,.int .i64 a0_2]) (t:=38) ?hr ?_;(case hd => rfl);(case hg => rfl);(case hr => exact Q16);intro gb105 hg w12 hbox hb;have n0_:=aM (below_step Q3 hb);have n1_:=aM (hbox);have n2_:=aM ((Q37 : w.heap.size ≤ gb105));have n3_:=aM ((Q37 : w.heap.size ≤ gb105));clear HB;have HB:=n0_;have BK105:=n1_;have GW105:=n2_;have GE105:=n3_;clear n0_ n1_ n2_ n3_;clear hb hbox hg;have hcz13_0 : w12.cell? ⟨gb105,0,none⟩ = some (.int .i64 a0_0):=(blk_cell BK105.out 0).trans rfl;have hcz13_1 : w12.cell? ⟨gb105,1,none⟩ = some (.int .i64 a0_1):=(blk_cell BK105.out 1).trans rfl;have hcz13_2 : w12.cell? ⟨gb105,2,none⟩ = some (.int .i64 a0_2):=(blk_cell BK105.out 2).trans rfl;have hfz13_0:=blk_frozen BK105.out 0;have hfz13_1:=blk_frozen BK105.out 1;have hfz13_2:=blk_frozen BK105.out 2)|((with_reducible refine gate_callee (f:=28) rfl ?_);refine goesL_ (some 5) rfl rfl Try.func28 Q14 rfl #[.int .i64 a0_0,.int .i64 1,.int .i64 3] rfl Q1 ?_;(with_reducible refine (spec_l6In.calls a0_0 1 3 true _ A2.out).mono ?_);rintro e w' ⟨rfl,⟨nd,rfl⟩⟩;refine ⟨_,rfl,?_⟩)|(go_at_call 28;(with_reducible refine (spec_l6In.calls a0_1 1 3 false _ A4.out).mono ?_);rintro e w' ⟨rfl,⟨nd,rfl⟩⟩))
   go_ret
   exact ⟨Q6,Q80⟩
 ·replace c3:=Bool.eq_false_iff.mpr c3
  subst c3
  have H1 : (some false) = some r:=by rw [if_neg (show ¬ (false = true) by decide)] at H;exact H
  clear H
  have H:=H1
  clear H1
  obtain rfl:=Option.some.inj H
  go_enter Try.func29,Try.ntmps29
  go_wp2_with (first|((with_reducible refine gate_dst (N:=1) rfl ?_);refine box_event ?hg (N:=1) ?hd (cs:=#[.int .i64 a0_0,.int .i64 a0_1,.int .i64 a0_2]) (t:=38) ?hr ?_;(case hd => rfl);(case hg => rfl);(case hr => exact Q16);intro gb105 hg w14 hbox hb;have n0_:=aM (below_step Q3 hb);have n1_:=aM (hbox);have n2_:=aM ((Q37 : w.heap.size ≤ gb105));have n3_:=aM ((Q37 : w.heap.size ≤ gb105));clear HB;have HB:=n0_;have BK105:=n1_;have GW105:=n2_;have GE105:=n3_;clear n0_ n1_ n2_ n3_;clear hb hbox hg;have hcz15_0 : w14.cell? ⟨gb105,0,none⟩ = some (.int .i64 a0_0):=(blk_cell BK105.out 0).trans rfl;have hcz15_1 : w14.cell? ⟨gb105,1,none⟩ = some (.int .i64 a0_1):=(blk_cell BK105.out 1).trans rfl;have hcz15_2 : w14.cell? ⟨gb105,2,none⟩ = some (.int .i64 a0_2):=(blk_cell BK105.out 2).trans rfl;have hfz15_0:=blk_frozen BK105.out 0;have hfz15_1:=blk_frozen BK105.out 1;have hfz15_2:=blk_frozen BK105.out 2)|((with_reducible refine gate_callee (f:=28) rfl ?_);refine goesL_ (some 5) rfl rfl Try.func28 Q14 rfl #[.int .i64 a0_0,.int .i64 1,.int .i64 3] rfl Q1 ?_;(with_reducible refine (spec_l6In.calls a0_0 1 3 false _ A2.out).mono ?_);rintro e w' ⟨rfl,⟨nd,rfl⟩⟩;refine ⟨_,rfl,?_⟩))
  go_ret
  exact ⟨Q6,Q80⟩

end Go.Proofs.Ytlcfalecbpnhbaa.P
