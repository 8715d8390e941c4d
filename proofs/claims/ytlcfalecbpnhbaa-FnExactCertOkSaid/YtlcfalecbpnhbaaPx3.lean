/- The printed functions: what each Go function computes, as a Lean function, and that the Go code comes to just that. Conditions: none beyond each contract's own. -/
import Derived.Test.YtlcfalecbpnhbaaPx0
import Derived.Test.YtlcfalecbpnhbaaPx1
import Derived.Test.YtlcfalecbpnhbaaPx2
namespace Go.Proofs.Ytlcfalecbpnhbaa.P
open Go.RowKit Go.Proofs.YtlcfalecbpnhbaaW.PrintWords Go.Proofs.YtlcfalecbpnhbaaW.PrintLast Go.Proofs.YtlcfalecbpnhbaaW.PrintMore
attribute [local go_sem] max2_int min2_int max_two min_two max_three min_three max_four min_four   -- for this text's walks alone
set_option linter.unusedVariables false
set_option linter.unusedSimpArgs false

/-! ### spec_l13By: function 15 -/
def spec_l13By.l0 : Nat → List Int → Int → Option (Bool)
 | 0,_,_ => none
 | k + 1,x0,x3 => if x3 < (x0.length : Int) then (if 0 ≤ x3 then ((spec_l6In.f (rd x0 x3) 1 4).bind fun t121 => (if t121 = true then (if x3 > 0 then (if 0 ≤ (wrap64 (x3 - 1)) then (if (wrap64 (x3 - 1)) < (x0.length : Int) then (if (rd x0 (wrap64 (x3 - 1))) ≥ (rd x0 x3) then (some false) else (spec_l13By.l0 k x0 (wrap64 (x3 + 1)))) else (none)) else (none)) else (spec_l13By.l0 k x0 (wrap64 (x3 + 1)))) else (some false))) else (none)) else (some (decide ((x0.length : Int) ≥ 3)))
def spec_l13By.f (k : Nat) (l0 : List Int) : Option (Bool):=spec_l13By.l0 k l0 0
theorem spec_l13By.mono_l : ∀ k,(∀ y0 y1,LeO (spec_l13By.l0 k y0 y1) (spec_l13By.l0 (k + 1) y0 y1))
 | 0 => fun _ _ r h => by simp [spec_l13By.l0] at h
 | k + 1 => by
  have ih0:=spec_l13By.mono_l k
  ·intro y0 y1
   unfold spec_l13By.l0
   repeat' first
   | exact LeO.refl _
   | exact ih0 _ _
   | exact LeO.none _
   | refine LeO.ite ?_ ?_
   | refine LeO.bind ?_ (fun _ => ?_)
theorem spec_l13By.mono : ∀ a0 k,LeO (spec_l13By.f k a0) (spec_l13By.f (k + 1) a0):=by
 intro a0 k
 have ih0:=spec_l13By.mono_l k
 unfold spec_l13By.f
 repeat' first
   | exact LeO.refl _
   | exact ih0 _ _
   | exact LeO.none _
   | refine LeO.ite ?_ ?_
   | refine LeO.bind ?_ (fun _ => ?_)
set_option maxHeartbeats 8000000 in
set_option maxRecDepth 100000 in
theorem spec_l13By.calls (k : Nat) (A0 : Option Addr) (c0 : Nat) (l0 : List Int) (r : Bool) (w : World) (hr0 : Kd.C (Kd.int .i64) w A0 l0.length l0) (hc0 : l0.length ≤ c0) (h : spec_l13By.f k l0 = some r) :
  Calls Try.prog 15 #[.slice A0 l0.length c0] w fun e w' => e = .returned (.bool r) ∧ Drawn0 w w':=by
 have HR0:=aM hr0
 have HC0:=aM hc0
 clear hr0 hc0
 have H : (spec_l13By.l0 k l0 0) = some r:=h
 clear h
 have H':=aM H
 clear H
 go_enter Try.func15,Try.ntmps15
 go_wp2
 repeat (go_quiet (fail);try go_wp2)
 go_loopg [3] k (fun kq v3 w' => ∃ (x3_1 : Int),v3 = .int .i64 x3_1 ∧ Aside0 (spec_l13By.l0 kq l0 x3_1 = some r) ∧ Aside0 (kq ≤ k) ∧ Drawn0 w w')
 case atStart => exact ⟨(0),(by first|rfl|(simp;done)|(simp [*];done)),H',⟨Nat.le_refl _⟩,by repeat (first|exact Drawn0.refl _|apply Drawn0.step)⟩
 case round =>
  clear H'
  try clear c1
  obtain ⟨x3_1,rfl,HA,HK1,⟨m1,rfl⟩⟩:=hrel
  cases gk with
  | zero => exact absurd HA.out (by simp [spec_l13By.l0])
  | succ k1 =>
   have H:=HA.out
   clear HA
   simp only [spec_l13By.l0] at H
   by_cases c2 : x3_1 < (l0.length : Int)
   ·rw [if_pos c2] at H
    have c2b0 : decide (x3_1 < (l0.length : Int)) = true:=decide_eq_true c2
    clear c2
    by_cases c3 : 0 ≤ x3_1
    case neg => rw [if_neg c3] at H;exact absurd H (by simp)
    rw [if_pos c3] at H
    have c3b0 : decide (0 ≤ x3_1) = true:=decide_eq_true c3
    clear c3
    replace H:=Option.bind_eq_some_iff.mp H
    obtain ⟨t121,A40,H⟩:=H
    replace H : (if t121 = true then (if x3_1 > 0 then (if 0 ≤ (wrap64 (x3_1 - 1)) then (if (wrap64 (x3_1 - 1)) < (l0.length : Int) then (if (rd l0 (wrap64 (x3_1 - 1))) ≥ (rd l0 x3_1) then (some false) else (spec_l13By.l0 k1 l0 (wrap64 (x3_1 + 1)))) else (none)) else (none)) else (spec_l13By.l0 k1 l0 (wrap64 (x3_1 + 1)))) else (some false)) = some r:=H
    have A4:=aM A40
    clear A40
    by_cases c5 : t121 = true
    ·subst c5
     have H1 : (if x3_1 > 0 then (if 0 ≤ (wrap64 (x3_1 - 1)) then (if (wrap64 (x3_1 - 1)) < (l0.length : Int) then (if (rd l0 (wrap64 (x3_1 - 1))) ≥ (rd l0 x3_1) then (some false) else (spec_l13By.l0 k1 l0 (wrap64 (x3_1 + 1)))) else (none)) else (none)) else (spec_l13By.l0 k1 l0 (wrap64 (x3_1 + 1)))) = some r:=by rw [if_pos rfl] at H;exact H
     clear H
     have H:=H1
     clear H1
     by_cases c6 : x3_1 > 0
     ·rw [if_pos c6] at H
      have c6b0 : decide (0 < x3_1) = true:=decide_eq_true c6
      clear c6
      obtain ⟨ji7,hji7⟩ : ∃ j_ : Int,(wrap64 (x3_1 - 1)) = j_:=⟨_,rfl⟩
      replace H : (if 0 ≤ (ji7) then (if (ji7) < (l0.length : Int) then (if (rd l0 (ji7)) ≥ (rd l0 x3_1) then (some false) else (spec_l13By.l0 k1 l0 (wrap64 (x3_1 + 1)))) else (none)) else (none)) = some r:=by first|(rw [hji7] at H;exact H)|(simp only [hji7] at H ⊢;exact H)
      (try rw [hji7] at A4)
      have hji7w : (IntKind.i64.wrap (x3_1 - 1)) = ji7:=(i64_w _).trans hji7
      by_cases c8 : 0 ≤ (ji7)
      case neg => rw [if_neg c8] at H;exact absurd H (by simp)
      rw [if_pos c8] at H
      have c8b0 : decide (0 ≤ (ji7)) = true:=decide_eq_true c8
      clear c8
      by_cases c9 : (ji7) < (l0.length : Int)
      case neg => rw [if_neg c9] at H;exact absurd H (by simp)
      rw [if_pos c9] at H
      have c9b0 : decide ((ji7) < (l0.length : Int)) = true:=decide_eq_true c9
      clear c9
      by_cases c10 : (rd l0 (ji7)) ≥ (rd l0 x3_1)
      ·rw [if_pos c10] at H
       have c10b0 : decide ((rd l0 x3_1) ≤ (rd l0 (ji7))) = true:=decide_eq_true c10
       clear c10
       obtain rfl:=Option.some.inj H
       have p120 : 0 ≤ (x3_1 : Int):=of_decide_eq_true (by first|(with_reducible assumption)|assumption)
       have q120 : x3_1 < (l0.length : Int):=of_decide_eq_true (by first|(with_reducible assumption)|assumption)
       obtain ⟨ad120,e120,hx120_0⟩:=Kd.at_int HR0.out x3_1 p120 q120
       cases e120
       replace p120:=eq_true p120
       replace q120:=eq_true q120
       go_wp2_with (first|(go_at_call 28;(with_reducible refine (spec_l6In.calls (rd l0 x3_1) 1 4 true _ A4.out).mono ?_);rintro e w' ⟨rfl,⟨nd,rfl⟩⟩;(try first|exact ⟨rfl,_,World.drewN_drewN _ _ _⟩|exact ⟨rfl,_,Eq.trans (World.drewN_drewN _ _ _) (congrArg (World.drewN _) (Nat.add_assoc _ _ _))⟩);have p122 : 0 ≤ ((ji7) : Int):=of_decide_eq_true (by first|(with_reducible assumption)|assumption);have q122 : (ji7) < (l0.length : Int):=of_decide_eq_true (by first|(with_reducible assumption)|assumption);obtain ⟨ad122,e122,hx122_0⟩:=Kd.at_int HR0.out (ji7) p122 q122;obtain rfl : ad120 = ad122:=(by injection e122);replace p122:=eq_true p122;replace q122:=eq_true q122;have p123 : 0 ≤ (x3_1 : Int):=of_decide_eq_true (by first|(with_reducible assumption)|assumption);have q123 : x3_1 < (l0.length : Int):=of_decide_eq_true (by first|(with_reducible assumption)|assumption);obtain ⟨ad123,e123,hx123_0⟩:=Kd.at_int HR0.out x3_1 p123 q123;obtain rfl : ad120 = ad123:=(by injection e123);replace p123:=eq_true p123;replace q123:=eq_true q123))
       repeat (go_quiet (first|(go_at_call 28;(with_reducible refine (spec_l6In.calls (rd l0 x3_1) 1 4 true _ A4.out).mono ?_);rintro e w' ⟨rfl,⟨nd,rfl⟩⟩;(try first|exact ⟨rfl,_,World.drewN_drewN _ _ _⟩|exact ⟨rfl,_,Eq.trans (World.drewN_drewN _ _ _) (congrArg (World.drewN _) (Nat.add_assoc _ _ _))⟩);have p122 : 0 ≤ ((ji7) : Int):=of_decide_eq_true (by first|(with_reducible assumption)|assumption);have q122 : (ji7) < (l0.length : Int):=of_decide_eq_true (by first|(with_reducible assumption)|assumption);obtain ⟨ad122,e122,hx122_0⟩:=Kd.at_int HR0.out (ji7) p122 q122;obtain rfl : ad120 = ad122:=(by injection e122);replace p122:=eq_true p122;replace q122:=eq_true q122;have p123 : 0 ≤ (x3_1 : Int):=of_decide_eq_true (by first|(with_reducible assumption)|assumption);have q123 : x3_1 < (l0.length : Int):=of_decide_eq_true (by first|(with_reducible assumption)|assumption);obtain ⟨ad123,e123,hx123_0⟩:=Kd.at_int HR0.out x3_1 p123 q123;obtain rfl : ad120 = ad123:=(by injection e123);replace p123:=eq_true p123;replace q123:=eq_true q123));try go_wp2_with (first|(go_at_call 28;(with_reducible refine (spec_l6In.calls (rd l0 x3_1) 1 4 true _ A4.out).mono ?_);rintro e w' ⟨rfl,⟨nd,rfl⟩⟩;(try first|exact ⟨rfl,_,World.drewN_drewN _ _ _⟩|exact ⟨rfl,_,Eq.trans (World.drewN_drewN _ _ _) (congrArg (World.drewN _) (Nat.add_assoc _ _ _))⟩);have p122 : 0 ≤ ((ji7) : Int):=of_decide_eq_true (by first|(with_reducible assumption)|assumption);have q122 : (ji7) < (l0.length : Int):=of_decide_eq_true (by first|(with_reducible assumption)|assumption);obtain ⟨ad122,e122,hx122_0⟩:=Kd.at_int HR0.out (ji7) p122 q122;obtain rfl : ad120 = ad122:=(by injection e122);replace p122:=eq_true p122;replace q122:=eq_true q122;have p123 : 0 ≤ (x3_1 : Int):=of_decide_eq_true (by first|(with_reducible assumption)|assumption);have q123 : x3_1 < (l0.length : Int):=of_decide_eq_true (by first|(with_reducible assumption)|assumption);obtain ⟨ad123,e123,hx123_0⟩:=Kd.at_int HR0.out x3_1 p123 q123;obtain rfl : ad120 = ad123:=(by injection e123);replace p123:=eq_true p123;replace q123:=eq_true q123)))
       go_ret
       exact ⟨by first|rfl|(simp;done)|(simp only [← hji7] <;> (first|rfl|simp))|(simp [*];done),by repeat (first|exact Drawn0.refl _|apply Drawn0.step)⟩
      ·rw [if_neg c10] at H
       have c10b0 : decide ((rd l0 x3_1) ≤ (rd l0 (ji7))) = false:=decide_eq_false c10
       clear c10
       have H':=aM H
       clear H
       have p120 : 0 ≤ (x3_1 : Int):=of_decide_eq_true (by first|(with_reducible assumption)|assumption)
       have q120 : x3_1 < (l0.length : Int):=of_decide_eq_true (by first|(with_reducible assumption)|assumption)
       obtain ⟨ad120,e120,hx120_0⟩:=Kd.at_int HR0.out x3_1 p120 q120
       cases e120
       replace p120:=eq_true p120
       replace q120:=eq_true q120
       go_wp2_with (first|(go_at_call 28;(with_reducible refine (spec_l6In.calls (rd l0 x3_1) 1 4 true _ A4.out).mono ?_);rintro e w' ⟨rfl,⟨nd,rfl⟩⟩;(try first|exact ⟨rfl,_,World.drewN_drewN _ _ _⟩|exact ⟨rfl,_,Eq.trans (World.drewN_drewN _ _ _) (congrArg (World.drewN _) (Nat.add_assoc _ _ _))⟩);have p122 : 0 ≤ ((ji7) : Int):=of_decide_eq_true (by first|(with_reducible assumption)|assumption);have q122 : (ji7) < (l0.length : Int):=of_decide_eq_true (by first|(with_reducible assumption)|assumption);obtain ⟨ad122,e122,hx122_0⟩:=Kd.at_int HR0.out (ji7) p122 q122;obtain rfl : ad120 = ad122:=(by injection e122);replace p122:=eq_true p122;replace q122:=eq_true q122;have p123 : 0 ≤ (x3_1 : Int):=of_decide_eq_true (by first|(with_reducible assumption)|assumption);have q123 : x3_1 < (l0.length : Int):=of_decide_eq_true (by first|(with_reducible assumption)|assumption);obtain ⟨ad123,e123,hx123_0⟩:=Kd.at_int HR0.out x3_1 p123 q123;obtain rfl : ad120 = ad123:=(by injection e123);replace p123:=eq_true p123;replace q123:=eq_true q123))
       repeat (go_quiet (first|(go_at_call 28;(with_reducible refine (spec_l6In.calls (rd l0 x3_1) 1 4 true _ A4.out).mono ?_);rintro e w' ⟨rfl,⟨nd,rfl⟩⟩;(try first|exact ⟨rfl,_,World.drewN_drewN _ _ _⟩|exact ⟨rfl,_,Eq.trans (World.drewN_drewN _ _ _) (congrArg (World.drewN _) (Nat.add_assoc _ _ _))⟩);have p122 : 0 ≤ ((ji7) : Int):=of_decide_eq_true (by first|(with_reducible assumption)|assumption);have q122 : (ji7) < (l0.length : Int):=of_decide_eq_true (by first|(with_reducible assumption)|assumption);obtain ⟨ad122,e122,hx122_0⟩:=Kd.at_int HR0.out (ji7) p122 q122;obtain rfl : ad120 = ad122:=(by injection e122);replace p122:=eq_true p122;replace q122:=eq_true q122;have p123 : 0 ≤ (x3_1 : Int):=of_decide_eq_true (by first|(with_reducible assumption)|assumption);have q123 : x3_1 < (l0.length : Int):=of_decide_eq_true (by first|(with_reducible assumption)|assumption);obtain ⟨ad123,e123,hx123_0⟩:=Kd.at_int HR0.out x3_1 p123 q123;obtain rfl : ad120 = ad123:=(by injection e123);replace p123:=eq_true p123;replace q123:=eq_true q123));try go_wp2_with (first|(go_at_call 28;(with_reducible refine (spec_l6In.calls (rd l0 x3_1) 1 4 true _ A4.out).mono ?_);rintro e w' ⟨rfl,⟨nd,rfl⟩⟩;(try first|exact ⟨rfl,_,World.drewN_drewN _ _ _⟩|exact ⟨rfl,_,Eq.trans (World.drewN_drewN _ _ _) (congrArg (World.drewN _) (Nat.add_assoc _ _ _))⟩);have p122 : 0 ≤ ((ji7) : Int):=of_decide_eq_true (by first|(with_reducible assumption)|assumption);have q122 : (ji7) < (l0.length : Int):=of_decide_eq_true (by first|(with_reducible assumption)|assumption);obtain ⟨ad122,e122,hx122_0⟩:=Kd.at_int HR0.out (ji7) p122 q122;obtain rfl : ad120 = ad122:=(by injection e122);replace p122:=eq_true p122;replace q122:=eq_true q122;have p123 : 0 ≤ (x3_1 : Int):=of_decide_eq_true (by first|(with_reducible assumption)|assumption);have q123 : x3_1 < (l0.length : Int):=of_decide_eq_true (by first|(with_reducible assumption)|assumption);obtain ⟨ad123,e123,hx123_0⟩:=Kd.at_int HR0.out x3_1 p123 q123;obtain rfl : ad120 = ad123:=(by injection e123);replace p123:=eq_true p123;replace q123:=eq_true q123)))
       go_roundg k1
       case measure => have:=HK1.out;omega
       case rel => exact ⟨(wrap64 (x3_1 + 1)),(by first|rfl|(simp;done)|(simp [*];done)),H',⟨by have:=HK1.out;omega⟩,by repeat (first|exact Drawn0.refl _|apply Drawn0.step)⟩
     ·rw [if_neg c6] at H
      have c6b0 : decide (0 < x3_1) = false:=decide_eq_false c6
      clear c6
      have H':=aM H
      clear H
      have p120 : 0 ≤ (x3_1 : Int):=of_decide_eq_true (by first|(with_reducible assumption)|assumption)
      have q120 : x3_1 < (l0.length : Int):=of_decide_eq_true (by first|(with_reducible assumption)|assumption)
      obtain ⟨ad120,e120,hx120_0⟩:=Kd.at_int HR0.out x3_1 p120 q120
      cases e120
      replace p120:=eq_true p120
      replace q120:=eq_true q120
      go_wp2_with (first|(go_at_call 28;(with_reducible refine (spec_l6In.calls (rd l0 x3_1) 1 4 true _ A4.out).mono ?_);rintro e w' ⟨rfl,⟨nd,rfl⟩⟩;(try first|exact ⟨rfl,_,World.drewN_drewN _ _ _⟩|exact ⟨rfl,_,Eq.trans (World.drewN_drewN _ _ _) (congrArg (World.drewN _) (Nat.add_assoc _ _ _))⟩)))
      repeat (go_quiet (first|(go_at_call 28;(with_reducible refine (spec_l6In.calls (rd l0 x3_1) 1 4 true _ A4.out).mono ?_);rintro e w' ⟨rfl,⟨nd,rfl⟩⟩;(try first|exact ⟨rfl,_,World.drewN_drewN _ _ _⟩|exact ⟨rfl,_,Eq.trans (World.drewN_drewN _ _ _) (congrArg (World.drewN _) (Nat.add_assoc _ _ _))⟩)));try go_wp2_with (first|(go_at_call 28;(with_reducible refine (spec_l6In.calls (rd l0 x3_1) 1 4 true _ A4.out).mono ?_);rintro e w' ⟨rfl,⟨nd,rfl⟩⟩;(try first|exact ⟨rfl,_,World.drewN_drewN _ _ _⟩|exact ⟨rfl,_,Eq.trans (World.drewN_drewN _ _ _) (congrArg (World.drewN _) (Nat.add_assoc _ _ _))⟩))))
      go_roundg k1
      case measure => have:=HK1.out;omega
      case rel => exact ⟨(wrap64 (x3_1 + 1)),(by first|rfl|(simp;done)|(simp [*];done)),H',⟨by have:=HK1.out;omega⟩,by repeat (first|exact Drawn0.refl _|apply Drawn0.step)⟩
    ·replace c5:=Bool.eq_false_iff.mpr c5
     subst c5
     have H1 : (some false) = some r:=by rw [if_neg (show ¬ (false = true) by decide)] at H;exact H
     clear H
     have H:=H1
     clear H1
     obtain rfl:=Option.some.inj H
     have p120 : 0 ≤ (x3_1 : Int):=of_decide_eq_true (by first|(with_reducible assumption)|assumption)
     have q120 : x3_1 < (l0.length : Int):=of_decide_eq_true (by first|(with_reducible assumption)|assumption)
     obtain ⟨ad120,e120,hx120_0⟩:=Kd.at_int HR0.out x3_1 p120 q120
     cases e120
     replace p120:=eq_true p120
     replace q120:=eq_true q120
     go_wp2_with (first|(go_at_call 28;(with_reducible refine (spec_l6In.calls (rd l0 x3_1) 1 4 false _ A4.out).mono ?_);rintro e w' ⟨rfl,⟨nd,rfl⟩⟩;(try first|exact ⟨rfl,_,World.drewN_drewN _ _ _⟩|exact ⟨rfl,_,Eq.trans (World.drewN_drewN _ _ _) (congrArg (World.drewN _) (Nat.add_assoc _ _ _))⟩)))
     repeat (go_quiet (first|(go_at_call 28;(with_reducible refine (spec_l6In.calls (rd l0 x3_1) 1 4 false _ A4.out).mono ?_);rintro e w' ⟨rfl,⟨nd,rfl⟩⟩;(try first|exact ⟨rfl,_,World.drewN_drewN _ _ _⟩|exact ⟨rfl,_,Eq.trans (World.drewN_drewN _ _ _) (congrArg (World.drewN _) (Nat.add_assoc _ _ _))⟩)));try go_wp2_with (first|(go_at_call 28;(with_reducible refine (spec_l6In.calls (rd l0 x3_1) 1 4 false _ A4.out).mono ?_);rintro e w' ⟨rfl,⟨nd,rfl⟩⟩;(try first|exact ⟨rfl,_,World.drewN_drewN _ _ _⟩|exact ⟨rfl,_,Eq.trans (World.drewN_drewN _ _ _) (congrArg (World.drewN _) (Nat.add_assoc _ _ _))⟩))))
     go_ret
     exact ⟨by first|rfl|(simp;done)|(simp [*];done),by repeat (first|exact Drawn0.refl _|apply Drawn0.step)⟩
   ·rw [if_neg c2] at H
    have c2b0 : decide (x3_1 < (l0.length : Int)) = false:=decide_eq_false c2
    clear c2
    obtain rfl:=Option.some.inj H
    go_wp2
    repeat (go_quiet (fail);try go_wp2)
    go_ret
    exact ⟨by first|rfl|(simp;done)|(simp [*];done),by repeat (first|exact Drawn0.refl _|apply Drawn0.step)⟩

/-! ### spec_CertOk: function 7 -/
mutual
def spec_CertOk.j0 : Nat → Int → Bool → List (S40) → List (List Int) → Option (Bool)
 | 0,_,_,_,_ => none
 | k + 1,x3,x21,x125000,x125001 => if x21 = true then (some false) else (spec_CertOk.l0 k x3 0 x125000 x125001)
def spec_CertOk.l0 : Nat → Int → Int → List (S40) → List (List Int) → Option (Bool)
 | 0,_,_,_,_ => none
 | k + 1,x3,x4,x125000,x125001 => if x4 < 3 then (if 0 ≤ x4 then (if x4 < (x125001.length : Int) then ((spec_l13By.f k (rd_L3 x125001 x4)).bind fun t127 => (if t127 = true then (spec_CertOk.l0 k x3 (wrap64 (x4 + 1)) x125000 x125001) else (some false))) else (none)) else (none)) else (if 0 ≤ (wrap64 (x3 - 3)) then (if (wrap64 (x3 - 3)) < (x125000.length : Int) then (if 0 ≤ (wrap64 (x3 - 2)) then (if (wrap64 (x3 - 2)) < (x125000.length : Int) then (if (wrap64 (((rd_T40 x125000 (wrap64 (x3 - 3))).f0) + 1)) = ((rd_T40 x125000 (wrap64 (x3 - 2))).f0) then (if 0 ≤ (wrap64 (x3 - 1)) then (if (wrap64 (x3 - 1)) < (x125000.length : Int) then (some ((wrap64 (((rd_T40 x125000 (wrap64 (x3 - 2))).f0) + 1)) == ((rd_T40 x125000 (wrap64 (x3 - 1))).f0))) else (none)) else (none)) else (some false)) else (none)) else (none)) else (none)) else (none))
end
def spec_CertOk.f (k : Nat) (l0_0 : List (S40)) (l0_1 : List (List Int)) : Option (Bool):=(spec_ChainOk.f k l0_0).bind fun t125 => (if t125 = true then (if (l0_0.length : Int) < 3 then (spec_CertOk.j0 k (l0_0.length : Int) true l0_0 l0_1) else (spec_CertOk.j0 k (l0_0.length : Int) ((l0_1.length : Int) != 3) l0_0 l0_1)) else (spec_CertOk.j0 k (l0_0.length : Int) true l0_0 l0_1))
theorem spec_CertOk.mono_l : ∀ k,(∀ y0 y1 y2 y3,LeO (spec_CertOk.j0 k y0 y1 y2 y3) (spec_CertOk.j0 (k + 1) y0 y1 y2 y3)) ∧ (∀ y0 y1 y2 y3,LeO (spec_CertOk.l0 k y0 y1 y2 y3) (spec_CertOk.l0 (k + 1) y0 y1 y2 y3))
 | 0 => ⟨fun _ _ _ _ r h => by simp [spec_CertOk.j0] at h,fun _ _ _ _ r h => by simp [spec_CertOk.l0] at h⟩
 | k + 1 => by
  obtain ⟨ih0,ih1⟩:=spec_CertOk.mono_l k
  refine ⟨?_,?_⟩
  ·intro y0 y1 y2 y3
   unfold spec_CertOk.j0
   repeat' first
   | exact LeO.refl _
   | exact ih0 _ _ _ _
   | exact ih1 _ _ _ _
   | exact spec_ChainOk.mono _ _
   | exact spec_l13By.mono _ _
   | exact LeO.none _
   | refine LeO.ite ?_ ?_
   | refine LeO.bind ?_ (fun _ => ?_)
  ·intro y0 y1 y2 y3
   unfold spec_CertOk.l0
   repeat' first
   | exact LeO.refl _
   | exact ih0 _ _ _ _
   | exact ih1 _ _ _ _
   | exact spec_ChainOk.mono _ _
   | exact spec_l13By.mono _ _
   | exact LeO.none _
   | refine LeO.ite ?_ ?_
   | refine LeO.bind ?_ (fun _ => ?_)
theorem spec_CertOk.mono : ∀ a0 a1 k,LeO (spec_CertOk.f k a0 a1) (spec_CertOk.f (k + 1) a0 a1):=by
 intro a0 a1 k
 obtain ⟨ih0,ih1⟩:=spec_CertOk.mono_l k
 unfold spec_CertOk.f
 repeat' first
   | exact LeO.refl _
   | exact ih0 _ _ _ _
   | exact ih1 _ _ _ _
   | exact spec_ChainOk.mono _ _
   | exact spec_l13By.mono _ _
   | exact LeO.none _
   | refine LeO.ite ?_ ?_
   | refine LeO.bind ?_ (fun _ => ?_)
set_option maxHeartbeats 8000000 in
set_option maxRecDepth 100000 in
theorem spec_CertOk.calls (k : Nat) (A0_0 : Option Addr) (c0_0 : Nat) (l0_0 : List (S40)) (A0_1 : Option Addr) (c0_1 : Nat) (l0_1 : List (List Int)) (r : Bool) (w : World) (hr0_0 : Kd.C k40 w A0_0 l0_0.length l0_0) (hc0_0 : l0_0.length ≤ c0_0) (hr0_1 : Kd.C (Kd.slice 3 (Kd.int .i64)) w A0_1 l0_1.length l0_1) (hc0_1 : l0_1.length ≤ c0_1) (h : spec_CertOk.f k l0_0 l0_1 = some r) :
  Calls Try.prog 7 #[.agg #[.slice A0_0 l0_0.length c0_0,.slice A0_1 l0_1.length c0_1]] w fun e w' => e = .returned (.bool r) ∧ Below w.heap.size w w':=by
 have hu30:=Try.underlying30
 have HR0_0:=aM hr0_0
 have HC0_0:=aM hc0_0
 clear hr0_0 hc0_0
 have HR0_1:=aM hr0_1
 have HC0_1:=aM hc0_1
 clear hr0_1 hc0_1
 have HB:=aM (Below.refl w.heap.size w)
 have H : ((spec_ChainOk.f k l0_0).bind fun t125 => (if t125 = true then (if (l0_0.length : Int) < 3 then (spec_CertOk.j0 k (l0_0.length : Int) true l0_0 l0_1) else (spec_CertOk.j0 k (l0_0.length : Int) ((l0_1.length : Int) != 3) l0_0 l0_1)) else (spec_CertOk.j0 k (l0_0.length : Int) true l0_0 l0_1))) = some r:=h
 clear h
 have HC2:=aM H
 clear H
 go_enter Try.func7,Try.ntmps7
 go_upto_region 2 with (first|((with_reducible refine gate_dst (N:=1) rfl ?_);(try (refine gate_guard (by rfl) ?_;dsimp only));refine box_event ?hg (N:=1) ?hd (cs:=#[.slice A0_0 l0_0.length c0_0,.slice A0_1 l0_1.length c0_1]) (t:=30) ?hr ?_;(case hd => rfl);(case hg => rfl);(case hr => first|(go_simp;done)|(go_simp;rfl));intro gb124 hg w3 hbox hb;have n0_:=aM (below_step (by repeat (first|(with_reducible first|exact HB.out|apply bA|apply bN|apply bD)|exact HB.out)) hb);have n1_:=aM (hbox);have n2_:=aM ((by rw [hg];exact (below_size (by repeat (first|(with_reducible first|exact HB.out|apply bA|apply bN|apply bD)|exact HB.out))) : w.heap.size ≤ gb124));have n3_:=aM ((by rw [hg];exact (below_size (by repeat (first|(with_reducible first|exact HB.out|apply bA|apply bN|apply bD)|exact HB.out))) : w.heap.size ≤ gb124));clear HB;have HB:=n0_;have BK124:=n1_;have GW124:=n2_;have GE124:=n3_;clear n0_ n1_ n2_ n3_;clear hb hbox hg;have hcz4_0 : w3.cell? ⟨gb124,0,none⟩ = some (.slice A0_0 l0_0.length c0_0):=(blk_cell BK124.out 0).trans rfl;have hcz4_1 : w3.cell? ⟨gb124,1,none⟩ = some (.slice A0_1 l0_1.length c0_1):=(blk_cell BK124.out 1).trans rfl;have hfz4_0:=blk_frozen BK124.out 0;have hfz4_1:=blk_frozen BK124.out 1))
 repeat (go_quiet (first|((with_reducible refine gate_dst (N:=1) rfl ?_);(try (refine gate_guard (by rfl) ?_;dsimp only));refine box_event ?hg (N:=1) ?hd (cs:=#[.slice A0_0 l0_0.length c0_0,.slice A0_1 l0_1.length c0_1]) (t:=30) ?hr ?_;(case hd => rfl);(case hg => rfl);(case hr => first|(go_simp;done)|(go_simp;rfl));intro gb124 hg w3 hbox hb;have n0_:=aM (below_step (by repeat (first|(with_reducible first|exact HB.out|apply bA|apply bN|apply bD)|exact HB.out)) hb);have n1_:=aM (hbox);have n2_:=aM ((by rw [hg];exact (below_size (by repeat (first|(with_reducible first|exact HB.out|apply bA|apply bN|apply bD)|exact HB.out))) : w.heap.size ≤ gb124));have n3_:=aM ((by rw [hg];exact (below_size (by repeat (first|(with_reducible first|exact HB.out|apply bA|apply bN|apply bD)|exact HB.out))) : w.heap.size ≤ gb124));clear HB;have HB:=n0_;have BK124:=n1_;have GW124:=n2_;have GE124:=n3_;clear n0_ n1_ n2_ n3_;clear hb hbox hg;have hcz4_0 : w3.cell? ⟨gb124,0,none⟩ = some (.slice A0_0 l0_0.length c0_0):=(blk_cell BK124.out 0).trans rfl;have hcz4_1 : w3.cell? ⟨gb124,1,none⟩ = some (.slice A0_1 l0_1.length c0_1):=(blk_cell BK124.out 1).trans rfl;have hfz4_0:=blk_frozen BK124.out 0;have hfz4_1:=blk_frozen BK124.out 1));go_upto_region 2 with (first|((with_reducible refine gate_dst (N:=1) rfl ?_);(try (refine gate_guard (by rfl) ?_;dsimp only));refine box_event ?hg (N:=1) ?hd (cs:=#[.slice A0_0 l0_0.length c0_0,.slice A0_1 l0_1.length c0_1]) (t:=30) ?hr ?_;(case hd => rfl);(case hg => rfl);(case hr => first|(go_simp;done)|(go_simp;rfl));intro gb124 hg w3 hbox hb;have n0_:=aM (below_step (by repeat (first|(with_reducible first|exact HB.out|apply bA|apply bN|apply bD)|exact HB.out)) hb);have n1_:=aM (hbox);have n2_:=aM ((by rw [hg];exact (below_size (by repeat (first|(with_reducible first|exact HB.out|apply bA|apply bN|apply bD)|exact HB.out))) : w.heap.size ≤ gb124));have n3_:=aM ((by rw [hg];exact (below_size (by repeat (first|(with_reducible first|exact HB.out|apply bA|apply bN|apply bD)|exact HB.out))) : w.heap.size ≤ gb124));clear HB;have HB:=n0_;have BK124:=n1_;have GW124:=n2_;have GE124:=n3_;clear n0_ n1_ n2_ n3_;clear hb hbox hg;have hcz4_0 : w3.cell? ⟨gb124,0,none⟩ = some (.slice A0_0 l0_0.length c0_0):=(blk_cell BK124.out 0).trans rfl;have hcz4_1 : w3.cell? ⟨gb124,1,none⟩ = some (.slice A0_1 l0_1.length c0_1):=(blk_cell BK124.out 1).trans rfl;have hfz4_0:=blk_frozen BK124.out 0;have hfz4_1:=blk_frozen BK124.out 1)))
 (try simp only [Act.put,sI,sZ,sS])
 go_cut [21] (fun v21 wc => ∃ (kq : Nat) (x21_1 : Bool),v21 = .bool x21_1 ∧ Aside0 (spec_CertOk.j0 kq (l0_0.length : Int) x21_1 l0_0 l0_1 = some r) ∧ Aside0 (kq ≤ k) ∧ Aside0 (wc.heap[gb124]? = some (.cells #[(.slice A0_0 l0_0.length c0_0),(.slice A0_1 l0_1.length c0_1)] 30 (0,0))) ∧ Aside0 (Below w.heap.size w wc))
 case first =>
  have H:=HC2.out
  clear HC2
  replace H:=Option.bind_eq_some_iff.mp H
  obtain ⟨t125,A50,H⟩:=H
  replace H : (if t125 = true then (if (l0_0.length : Int) < 3 then (spec_CertOk.j0 k (l0_0.length : Int) true l0_0 l0_1) else (spec_CertOk.j0 k (l0_0.length : Int) ((l0_1.length : Int) != 3) l0_0 l0_1)) else (spec_CertOk.j0 k (l0_0.length : Int) true l0_0 l0_1)) = some r:=H
  have A5:=aM A50
  clear A50
  by_cases c6 : t125 = true
  ·subst c6
   have H1 : (if (l0_0.length : Int) < 3 then (spec_CertOk.j0 k (l0_0.length : Int) true l0_0 l0_1) else (spec_CertOk.j0 k (l0_0.length : Int) ((l0_1.length : Int) != 3) l0_0 l0_1)) = some r:=by rw [if_pos rfl] at H;exact H
   clear H
   have H:=H1
   clear H1
   by_cases c7 : (l0_0.length : Int) < 3
   ·rw [if_pos c7] at H
    have c7b0 : decide ((l0_0.length : Int) < 3) = true:=decide_eq_true c7
    have c7b1 : decide (l0_0.length < 3) = true:=decide_eq_true (by omega)
    clear c7
    (first|rw [c7b0]|rw [c7b1]|(simp only [i64_w,i32_w];rw [c7b0])|skip)
    have H':=aM H
    clear H
    have hcz8_0 : w3.cell? ⟨gb124,0,none⟩ = some (.slice A0_0 l0_0.length c0_0):=(blk_cell BK124.out 0).trans rfl
    have hcz8_1 : w3.cell? ⟨gb124,1,none⟩ = some (.slice A0_1 l0_1.length c0_1):=(blk_cell BK124.out 1).trans rfl
    have hfz8_0:=blk_frozen BK124.out 0
    have hfz8_1:=blk_frozen BK124.out 1
    go_wp2_with (first|(go_at_call 14;(with_reducible refine (spec_ChainOk.calls k _ _ l0_0 true _ ?side1 ?side2 A5.out).mono ?_);(case side1 => repeat (first|exact (Kd.C_below HR0_0.out HB.out)|(with_reducible refine Kd.C_alloc ?_ _)|(with_reducible refine Kd.C_drewN ?_ _)|(with_reducible refine Kd.C_drew ?_)));(case side2 => exact HC0_0.out);rintro e w9 ⟨rfl,hb⟩;have n0_:=aM (blk_below (g:=gb124) (o:=.cells #[.slice A0_0 l0_0.length c0_0,.slice A0_1 l0_1.length c0_1] 30 (0,0)) (by (with_reducible repeat (first|refine blk_drewN ?_ _|refine blk_drew ?_|refine blk_alloc ?_ _));exact BK124.out) hb);have n1_:=aM (below_step (by repeat (first|(with_reducible first|exact HB.out|apply bA|apply bN|apply bD|refine below_set ?_ GE124.out)|exact HB.out)) hb);clear BK124;clear HB;have BK124:=n0_;have HB:=n1_;clear n0_ n1_;(try clear hb);(try clear hb2);(try clear hk);(try clear hi)))
    repeat (go_quiet (first|(go_at_call 14;(with_reducible refine (spec_ChainOk.calls k _ _ l0_0 true _ ?side1 ?side2 A5.out).mono ?_);(case side1 => repeat (first|exact (Kd.C_below HR0_0.out HB.out)|(with_reducible refine Kd.C_alloc ?_ _)|(with_reducible refine Kd.C_drewN ?_ _)|(with_reducible refine Kd.C_drew ?_)));(case side2 => exact HC0_0.out);rintro e w9 ⟨rfl,hb⟩;have n0_:=aM (blk_below (g:=gb124) (o:=.cells #[.slice A0_0 l0_0.length c0_0,.slice A0_1 l0_1.length c0_1] 30 (0,0)) (by (with_reducible repeat (first|refine blk_drewN ?_ _|refine blk_drew ?_|refine blk_alloc ?_ _));exact BK124.out) hb);have n1_:=aM (below_step (by repeat (first|(with_reducible first|exact HB.out|apply bA|apply bN|apply bD|refine below_set ?_ GE124.out)|exact HB.out)) hb);clear BK124;clear HB;have BK124:=n0_;have HB:=n1_;clear n0_ n1_;(try clear hb);(try clear hb2);(try clear hk);(try clear hi)));try go_wp2_with (first|(go_at_call 14;(with_reducible refine (spec_ChainOk.calls k _ _ l0_0 true _ ?side1 ?side2 A5.out).mono ?_);(case side1 => repeat (first|exact (Kd.C_below HR0_0.out HB.out)|(with_reducible refine Kd.C_alloc ?_ _)|(with_reducible refine Kd.C_drewN ?_ _)|(with_reducible refine Kd.C_drew ?_)));(case side2 => exact HC0_0.out);rintro e w9 ⟨rfl,hb⟩;have n0_:=aM (blk_below (g:=gb124) (o:=.cells #[.slice A0_0 l0_0.length c0_0,.slice A0_1 l0_1.length c0_1] 30 (0,0)) (by (with_reducible repeat (first|refine blk_drewN ?_ _|refine blk_drew ?_|refine blk_alloc ?_ _));exact BK124.out) hb);have n1_:=aM (below_step (by repeat (first|(with_reducible first|exact HB.out|apply bA|apply bN|apply bD|refine below_set ?_ GE124.out)|exact HB.out)) hb);clear BK124;clear HB;have BK124:=n0_;have HB:=n1_;clear n0_ n1_;(try clear hb);(try clear hb2);(try clear hk);(try clear hi))))
    go_meet
    case rel => exact ⟨_,(true),(by first|rfl|(simp;done)|(simp [*];done)),H',⟨by first|omega|exact Nat.le_refl _⟩,⟨by (with_reducible repeat (first|refine blk_drewN ?_ _|refine blk_drew ?_|refine blk_alloc ?_ _));exact BK124.out⟩,⟨by repeat (first|(with_reducible first|exact HB.out|apply bA|apply bN|apply bD|refine below_set ?_ GE124.out)|exact HB.out)⟩⟩
   ·rw [if_neg c7] at H
    have c7b0 : decide ((l0_0.length : Int) < 3) = false:=decide_eq_false c7
    have c7b1 : decide (l0_0.length < 3) = false:=decide_eq_false (by omega)
    clear c7
    (first|rw [c7b0]|rw [c7b1]|(simp only [i64_w,i32_w];rw [c7b0])|skip)
    have H':=aM H
    clear H
    have hcz10_0 : w3.cell? ⟨gb124,0,none⟩ = some (.slice A0_0 l0_0.length c0_0):=(blk_cell BK124.out 0).trans rfl
    have hcz10_1 : w3.cell? ⟨gb124,1,none⟩ = some (.slice A0_1 l0_1.length c0_1):=(blk_cell BK124.out 1).trans rfl
    have hfz10_0:=blk_frozen BK124.out 0
    have hfz10_1:=blk_frozen BK124.out 1
    go_wp2_with (first|(go_at_call 14;(with_reducible refine (spec_ChainOk.calls k _ _ l0_0 true _ ?side1 ?side2 A5.out).mono ?_);(case side1 => repeat (first|exact (Kd.C_below HR0_0.out HB.out)|(with_reducible refine Kd.C_alloc ?_ _)|(with_reducible refine Kd.C_drewN ?_ _)|(with_reducible refine Kd.C_drew ?_)));(case side2 => exact HC0_0.out);rintro e w11 ⟨rfl,hb⟩;have n0_:=aM (blk_below (g:=gb124) (o:=.cells #[.slice A0_0 l0_0.length c0_0,.slice A0_1 l0_1.length c0_1] 30 (0,0)) (by (with_reducible repeat (first|refine blk_drewN ?_ _|refine blk_drew ?_|refine blk_alloc ?_ _));exact BK124.out) hb);have n1_:=aM (below_step (by repeat (first|(with_reducible first|exact HB.out|apply bA|apply bN|apply bD|refine below_set ?_ GE124.out)|exact HB.out)) hb);clear BK124;clear HB;have BK124:=n0_;have HB:=n1_;clear n0_ n1_;(try clear hb);(try clear hb2);(try clear hk);(try clear hi);have hcz12_0 : w11.cell? ⟨gb124,0,none⟩ = some (.slice A0_0 l0_0.length c0_0):=(blk_cell BK124.out 0).trans rfl;have hcz12_1 : w11.cell? ⟨gb124,1,none⟩ = some (.slice A0_1 l0_1.length c0_1):=(blk_cell BK124.out 1).trans rfl;have hfz12_0:=blk_frozen BK124.out 0;have hfz12_1:=blk_frozen BK124.out 1))
    repeat (go_quiet (first|(go_at_call 14;(with_reducible refine (spec_ChainOk.calls k _ _ l0_0 true _ ?side1 ?side2 A5.out).mono ?_);(case side1 => repeat (first|exact (Kd.C_below HR0_0.out HB.out)|(with_reducible refine Kd.C_alloc ?_ _)|(with_reducible refine Kd.C_drewN ?_ _)|(with_reducible refine Kd.C_drew ?_)));(case side2 => exact HC0_0.out);rintro e w11 ⟨rfl,hb⟩;have n0_:=aM (blk_below (g:=gb124) (o:=.cells #[.slice A0_0 l0_0.length c0_0,.slice A0_1 l0_1.length c0_1] 30 (0,0)) (by (with_reducible repeat (first|refine blk_drewN ?_ _|refine blk_drew ?_|refine blk_alloc ?_ _));exact BK124.out) hb);have n1_:=aM (below_step (by repeat (first|(with_reducible first|exact HB.out|apply bA|apply bN|apply bD|refine below_set ?_ GE124.out)|exact HB.out)) hb);clear BK124;clear HB;have BK124:=n0_;have HB:=n1_;clear n0_ n1_;(try clear hb);(try clear hb2);(try clear hk);(try clear hi);have hcz12_0 : w11.cell? ⟨gb124,0,none⟩ = some (.slice A0_0 l0_0.length c0_0):=(blk_cell BK124.out 0).trans rfl;have hcz12_1 : w11.cell? ⟨gb124,1,none⟩ = some (.slice A0_1 l0_1.length c0_1):=(blk_cell BK124.out 1).trans rfl;have hfz12_0:=blk_frozen BK124.out 0;have hfz12_1:=blk_frozen BK124.out 1));try go_wp2_with (first|(go_at_call 14;(with_reducible refine (spec_ChainOk.calls k _ _ l0_0 true _ ?side1 ?side2 A5.out).mono ?_);(case side1 => repeat (first|exact (Kd.C_below HR0_0.out HB.out)|(with_reducible refine Kd.C_alloc ?_ _)|(with_reducible refine Kd.C_drewN ?_ _)|(with_reducible refine Kd.C_drew ?_)));(case side2 => exact HC0_0.out);rintro e w11 ⟨rfl,hb⟩;have n0_:=aM (blk_below (g:=gb124) (o:=.cells #[.slice A0_0 l0_0.length c0_0,.slice A0_1 l0_1.length c0_1] 30 (0,0)) (by (with_reducible repeat (first|refine blk_drewN ?_ _|refine blk_drew ?_|refine blk_alloc ?_ _));exact BK124.out) hb);have n1_:=aM (below_step (by repeat (first|(with_reducible first|exact HB.out|apply bA|apply bN|apply bD|refine below_set ?_ GE124.out)|exact HB.out)) hb);clear BK124;clear HB;have BK124:=n0_;have HB:=n1_;clear n0_ n1_;(try clear hb);(try clear hb2);(try clear hk);(try clear hi);have hcz12_0 : w11.cell? ⟨gb124,0,none⟩ = some (.slice A0_0 l0_0.length c0_0):=(blk_cell BK124.out 0).trans rfl;have hcz12_1 : w11.cell? ⟨gb124,1,none⟩ = some (.slice A0_1 l0_1.length c0_1):=(blk_cell BK124.out 1).trans rfl;have hfz12_0:=blk_frozen BK124.out 0;have hfz12_1:=blk_frozen BK124.out 1)))
    go_meet
    case rel => exact ⟨_,(((l0_1.length : Int) != 3)),(by first|rfl|(simp;done)|(simp [*];done)),H',⟨by first|omega|exact Nat.le_refl _⟩,⟨by (with_reducible repeat (first|refine blk_drewN ?_ _|refine blk_drew ?_|refine blk_alloc ?_ _));exact BK124.out⟩,⟨by repeat (first|(with_reducible first|exact HB.out|apply bA|apply bN|apply bD|refine below_set ?_ GE124.out)|exact HB.out)⟩⟩
  ·replace c6:=Bool.eq_false_iff.mpr c6
   subst c6
   have H1 : (spec_CertOk.j0 k (l0_0.length : Int) true l0_0 l0_1) = some r:=by rw [if_neg (show ¬ (false = true) by decide)] at H;exact H
   clear H
   have H:=H1
   clear H1
   have H':=aM H
   clear H
   have hcz13_0 : w3.cell? ⟨gb124,0,none⟩ = some (.slice A0_0 l0_0.length c0_0):=(blk_cell BK124.out 0).trans rfl
   have hcz13_1 : w3.cell? ⟨gb124,1,none⟩ = some (.slice A0_1 l0_1.length c0_1):=(blk_cell BK124.out 1).trans rfl
   have hfz13_0:=blk_frozen BK124.out 0
   have hfz13_1:=blk_frozen BK124.out 1
   go_wp2_with (first|(go_at_call 14;(with_reducible refine (spec_ChainOk.calls k _ _ l0_0 false _ ?side1 ?side2 A5.out).mono ?_);(case side1 => repeat (first|exact (Kd.C_below HR0_0.out HB.out)|(with_reducible refine Kd.C_alloc ?_ _)|(with_reducible refine Kd.C_drewN ?_ _)|(with_reducible refine Kd.C_drew ?_)));(case side2 => exact HC0_0.out);rintro e w14 ⟨rfl,hb⟩;have n0_:=aM (blk_below (g:=gb124) (o:=.cells #[.slice A0_0 l0_0.length c0_0,.slice A0_1 l0_1.length c0_1] 30 (0,0)) (by (with_reducible repeat (first|refine blk_drewN ?_ _|refine blk_drew ?_|refine blk_alloc ?_ _));exact BK124.out) hb);have n1_:=aM (below_step (by repeat (first|(with_reducible first|exact HB.out|apply bA|apply bN|apply bD|refine below_set ?_ GE124.out)|exact HB.out)) hb);clear BK124;clear HB;have BK124:=n0_;have HB:=n1_;clear n0_ n1_;(try clear hb);(try clear hb2);(try clear hk);(try clear hi)))
   repeat (go_quiet (first|(go_at_call 14;(with_reducible refine (spec_ChainOk.calls k _ _ l0_0 false _ ?side1 ?side2 A5.out).mono ?_);(case side1 => repeat (first|exact (Kd.C_below HR0_0.out HB.out)|(with_reducible refine Kd.C_alloc ?_ _)|(with_reducible refine Kd.C_drewN ?_ _)|(with_reducible refine Kd.C_drew ?_)));(case side2 => exact HC0_0.out);rintro e w14 ⟨rfl,hb⟩;have n0_:=aM (blk_below (g:=gb124) (o:=.cells #[.slice A0_0 l0_0.length c0_0,.slice A0_1 l0_1.length c0_1] 30 (0,0)) (by (with_reducible repeat (first|refine blk_drewN ?_ _|refine blk_drew ?_|refine blk_alloc ?_ _));exact BK124.out) hb);have n1_:=aM (below_step (by repeat (first|(with_reducible first|exact HB.out|apply bA|apply bN|apply bD|refine below_set ?_ GE124.out)|exact HB.out)) hb);clear BK124;clear HB;have BK124:=n0_;have HB:=n1_;clear n0_ n1_;(try clear hb);(try clear hb2);(try clear hk);(try clear hi)));try go_wp2_with (first|(go_at_call 14;(with_reducible refine (spec_ChainOk.calls k _ _ l0_0 false _ ?side1 ?side2 A5.out).mono ?_);(case side1 => repeat (first|exact (Kd.C_below HR0_0.out HB.out)|(with_reducible refine Kd.C_alloc ?_ _)|(with_reducible refine Kd.C_drewN ?_ _)|(with_reducible refine Kd.C_drew ?_)));(case side2 => exact HC0_0.out);rintro e w14 ⟨rfl,hb⟩;have n0_:=aM (blk_below (g:=gb124) (o:=.cells #[.slice A0_0 l0_0.length c0_0,.slice A0_1 l0_1.length c0_1] 30 (0,0)) (by (with_reducible repeat (first|refine blk_drewN ?_ _|refine blk_drew ?_|refine blk_alloc ?_ _));exact BK124.out) hb);have n1_:=aM (below_step (by repeat (first|(with_reducible first|exact HB.out|apply bA|apply bN|apply bD|refine below_set ?_ GE124.out)|exact HB.out)) hb);clear BK124;clear HB;have BK124:=n0_;have HB:=n1_;clear n0_ n1_;(try clear hb);(try clear hb2);(try clear hk);(try clear hi))))
   go_meet
   case rel => exact ⟨_,(true),(by first|rfl|(simp;done)|(simp [*];done)),H',⟨by first|omega|exact Nat.le_refl _⟩,⟨by (with_reducible repeat (first|refine blk_drewN ?_ _|refine blk_drew ?_|refine blk_alloc ?_ _));exact BK124.out⟩,⟨by repeat (first|(with_reducible first|exact HB.out|apply bA|apply bN|apply bD|refine below_set ?_ GE124.out)|exact HB.out)⟩⟩
 case rest =>
  clear HC2
  try clear p2
  try clear c6
  try clear c7
  try clear c7b0
  try clear c7b1
  try clear hcz10_0
  try clear hcz10_1
  try clear hcz12_0
  try clear hcz12_1
  try clear hcz13_0
  try clear hcz13_1
  try clear hcz4_0
  try clear hcz4_1
  try clear hcz8_0
  try clear hcz8_1
  try clear hfz10_0
  try clear hfz10_1
  try clear hfz12_0
  try clear hfz12_1
  try clear hfz13_0
  try clear hfz13_1
  try clear hfz4_0
  try clear hfz4_1
  try clear hfz8_0
  try clear hfz8_1
  obtain ⟨kq,x21_1,rfl,HA,HJ1,BK124,HB⟩:=hcut
  cases kq with
  | zero => exact absurd HA.out (by simp [spec_CertOk.j0])
  | succ kj1 =>
   have H:=HA.out
   clear HA
   simp only [spec_CertOk.j0] at H
   by_cases c15 : x21_1 = true
   ·subst c15
    have H1 : (some false) = some r:=by rw [if_pos rfl] at H;exact H
    clear H
    have H:=H1
    clear H1
    obtain rfl:=Option.some.inj H
    go_wp2
    repeat (go_quiet (fail);try go_wp2)
    go_ret
    exact ⟨by first|rfl|(simp only [i64_w,i32_w];done)|(simp only [i64_w,i32_w];rfl)|(simp [errW_none,errW_some] <;> rfl)|(simp [*,errW_none,errW_some] <;> rfl),by repeat (first|(with_reducible first|exact HB.out|apply bA|apply bN|apply bD|refine below_set ?_ GE124.out)|exact HB.out)⟩
   ·replace c15:=Bool.eq_false_iff.mpr c15
    subst c15
    have H1 : (spec_CertOk.l0 kj1 (l0_0.length : Int) 0 l0_0 l0_1) = some r:=by rw [if_neg (show ¬ (false = true) by decide)] at H;exact H
    clear H
    have H:=H1
    clear H1
    have H':=aM H
    clear H
    go_wp2
    repeat (go_quiet (fail);try go_wp2)
    go_loopg [4] kj1 (fun kq v4 w' => ∃ (x4_2 : Int),v4 = .int .i64 x4_2 ∧ Aside0 (spec_CertOk.l0 kq (l0_0.length : Int) x4_2 l0_0 l0_1 = some r) ∧ Aside0 (kq ≤ kj1) ∧ Aside0 (w'.heap[gb124]? = some (.cells #[(.slice A0_0 l0_0.length c0_0),(.slice A0_1 l0_1.length c0_1)] 30 (0,0))) ∧ Aside0 (Below w.heap.size w w'))
    case atStart => exact ⟨(0),(by first|rfl|(simp;done)|(simp [*];done)),H',⟨Nat.le_refl _⟩,⟨by (with_reducible repeat (first|refine blk_drewN ?_ _|refine blk_drew ?_|refine blk_alloc ?_ _));exact BK124.out⟩,⟨by repeat (first|(with_reducible first|exact HB.out|apply bA|apply bN|apply bD|refine below_set ?_ GE124.out)|exact HB.out)⟩⟩
    case round =>
     clear H'
     try clear c1
     try clear p2
     try clear c6
     try clear c7
     try clear c7b0
     try clear c7b1
     try clear c15
     try clear hcz10_0
     try clear hcz10_1
     try clear hcz12_0
     try clear hcz12_1
     try clear hcz13_0
     try clear hcz13_1
     try clear hcz4_0
     try clear hcz4_1
     try clear hcz8_0
     try clear hcz8_1
     try clear hfz10_0
     try clear hfz10_1
     try clear hfz12_0
     try clear hfz12_1
     try clear hfz13_0
     try clear hfz13_1
     try clear hfz4_0
     try clear hfz4_1
     try clear hfz8_0
     try clear hfz8_1
     try clear p2
     obtain ⟨x4_2,rfl,HA,HK2,BK124,HB⟩:=hrel
     cases gk with
     | zero => exact absurd HA.out (by simp [spec_CertOk.l0])
     | succ k2 =>
      have H:=HA.out
      clear HA
      simp only [spec_CertOk.l0] at H
      by_cases c16 : x4_2 < 3
      ·rw [if_pos c16] at H
       have c16b0 : decide (x4_2 < 3) = true:=decide_eq_true c16
       clear c16
       by_cases c17 : 0 ≤ x4_2
       case neg => rw [if_neg c17] at H;exact absurd H (by simp)
       rw [if_pos c17] at H
       have c17b0 : decide (0 ≤ x4_2) = true:=decide_eq_true c17
       clear c17
       by_cases c18 : x4_2 < (l0_1.length : Int)
       case neg => rw [if_neg c18] at H;exact absurd H (by simp)
       rw [if_pos c18] at H
       have c18b0 : decide (x4_2 < (l0_1.length : Int)) = true:=decide_eq_true c18
       clear c18
       replace H:=Option.bind_eq_some_iff.mp H
       obtain ⟨t127,A190,H⟩:=H
       replace H : (if t127 = true then (spec_CertOk.l0 k2 (l0_0.length : Int) (wrap64 (x4_2 + 1)) l0_0 l0_1) else (some false)) = some r:=H
       have A19:=aM A190
       clear A190
       by_cases c20 : t127 = true
       ·subst c20
        have H1 : (spec_CertOk.l0 k2 (l0_0.length : Int) (wrap64 (x4_2 + 1)) l0_0 l0_1) = some r:=by rw [if_pos rfl] at H;exact H
        clear H
        have H:=H1
        clear H1
        have H':=aM H
        clear H
        have hcz21_0 : wr.cell? ⟨gb124,0,none⟩ = some (.slice A0_0 l0_0.length c0_0):=(blk_cell BK124.out 0).trans rfl
        have hcz21_1 : wr.cell? ⟨gb124,1,none⟩ = some (.slice A0_1 l0_1.length c0_1):=(blk_cell BK124.out 1).trans rfl
        have hfz21_0:=blk_frozen BK124.out 0
        have hfz21_1:=blk_frozen BK124.out 1
        have p126 : 0 ≤ (x4_2 : Int):=of_decide_eq_true (by first|(with_reducible assumption)|assumption)
        have q126 : x4_2 < (l0_1.length : Int):=of_decide_eq_true (by first|(with_reducible assumption)|assumption)
        obtain ⟨ad126,A126_0,c126_0,e126,hx126_0,hl126_0,hi126_0⟩:=at_L3 HR0_1.out x4_2 p126 q126
        cases e126
        replace hx126_0:=(HB.out.cell (bL w hx126_0)).trans hx126_0
        have HR126_0:=aM hi126_0
        have HC126_0:=aM hl126_0
        clear hi126_0 hl126_0
        replace p126:=eq_true p126
        replace q126:=eq_true q126
        go_wp2_with (first|(go_at_call 15;(with_reducible refine (spec_l13By.calls k2 _ _ (rd_L3 l0_1 x4_2) true _ ?side1 ?side2 A19.out).mono ?_);(case side1 => repeat (first|exact (Kd.C_below HR126_0.out HB.out)|(with_reducible refine Kd.C_alloc ?_ _)|(with_reducible refine Kd.C_drewN ?_ _)|(with_reducible refine Kd.C_drew ?_)));(case side2 => exact HC126_0.out);rintro e w' ⟨rfl,⟨nd,rfl⟩⟩;(try first|exact ⟨rfl,_,World.drewN_drewN _ _ _⟩|exact ⟨rfl,_,Eq.trans (World.drewN_drewN _ _ _) (congrArg (World.drewN _) (Nat.add_assoc _ _ _))⟩)))
        repeat (go_quiet (first|(go_at_call 15;(with_reducible refine (spec_l13By.calls k2 _ _ (rd_L3 l0_1 x4_2) true _ ?side1 ?side2 A19.out).mono ?_);(case side1 => repeat (first|exact (Kd.C_below HR126_0.out HB.out)|(with_reducible refine Kd.C_alloc ?_ _)|(with_reducible refine Kd.C_drewN ?_ _)|(with_reducible refine Kd.C_drew ?_)));(case side2 => exact HC126_0.out);rintro e w' ⟨rfl,⟨nd,rfl⟩⟩;(try first|exact ⟨rfl,_,World.drewN_drewN _ _ _⟩|exact ⟨rfl,_,Eq.trans (World.drewN_drewN _ _ _) (congrArg (World.drewN _) (Nat.add_assoc _ _ _))⟩)));try go_wp2_with (first|(go_at_call 15;(with_reducible refine (spec_l13By.calls k2 _ _ (rd_L3 l0_1 x4_2) true _ ?side1 ?side2 A19.out).mono ?_);(case side1 => repeat (first|exact (Kd.C_below HR126_0.out HB.out)|(with_reducible refine Kd.C_alloc ?_ _)|(with_reducible refine Kd.C_drewN ?_ _)|(with_reducible refine Kd.C_drew ?_)));(case side2 => exact HC126_0.out);rintro e w' ⟨rfl,⟨nd,rfl⟩⟩;(try first|exact ⟨rfl,_,World.drewN_drewN _ _ _⟩|exact ⟨rfl,_,Eq.trans (World.drewN_drewN _ _ _) (congrArg (World.drewN _) (Nat.add_assoc _ _ _))⟩))))
        go_roundg k2
        case measure => have:=HJ1.out;have:=HK2.out;omega
        case rel => exact ⟨(wrap64 (x4_2 + 1)),(by first|rfl|(simp;done)|(simp [*];done)),H',⟨by have:=HJ1.out;have:=HK2.out;omega⟩,⟨by (with_reducible repeat (first|refine blk_drewN ?_ _|refine blk_drew ?_|refine blk_alloc ?_ _));exact BK124.out⟩,⟨by repeat (first|(with_reducible first|exact HB.out|apply bA|apply bN|apply bD|refine below_set ?_ GE124.out)|exact HB.out)⟩⟩
       ·replace c20:=Bool.eq_false_iff.mpr c20
        subst c20
        have H1 : (some false) = some r:=by rw [if_neg (show ¬ (false = true) by decide)] at H;exact H
        clear H
        have H:=H1
        clear H1
        obtain rfl:=Option.some.inj H
        have hcz22_0 : wr.cell? ⟨gb124,0,none⟩ = some (.slice A0_0 l0_0.length c0_0):=(blk_cell BK124.out 0).trans rfl
        have hcz22_1 : wr.cell? ⟨gb124,1,none⟩ = some (.slice A0_1 l0_1.length c0_1):=(blk_cell BK124.out 1).trans rfl
        have hfz22_0:=blk_frozen BK124.out 0
        have hfz22_1:=blk_frozen BK124.out 1
        have p126 : 0 ≤ (x4_2 : Int):=of_decide_eq_true (by first|(with_reducible assumption)|assumption)
        have q126 : x4_2 < (l0_1.length : Int):=of_decide_eq_true (by first|(with_reducible assumption)|assumption)
        obtain ⟨ad126,A126_0,c126_0,e126,hx126_0,hl126_0,hi126_0⟩:=at_L3 HR0_1.out x4_2 p126 q126
        cases e126
        replace hx126_0:=(HB.out.cell (bL w hx126_0)).trans hx126_0
        have HR126_0:=aM hi126_0
        have HC126_0:=aM hl126_0
        clear hi126_0 hl126_0
        replace p126:=eq_true p126
        replace q126:=eq_true q126
        go_wp2_with (first|(go_at_call 15;(with_reducible refine (spec_l13By.calls k2 _ _ (rd_L3 l0_1 x4_2) false _ ?side1 ?side2 A19.out).mono ?_);(case side1 => repeat (first|exact (Kd.C_below HR126_0.out HB.out)|(with_reducible refine Kd.C_alloc ?_ _)|(with_reducible refine Kd.C_drewN ?_ _)|(with_reducible refine Kd.C_drew ?_)));(case side2 => exact HC126_0.out);rintro e w' ⟨rfl,⟨nd,rfl⟩⟩;(try first|exact ⟨rfl,_,World.drewN_drewN _ _ _⟩|exact ⟨rfl,_,Eq.trans (World.drewN_drewN _ _ _) (congrArg (World.drewN _) (Nat.add_assoc _ _ _))⟩)))
        repeat (go_quiet (first|(go_at_call 15;(with_reducible refine (spec_l13By.calls k2 _ _ (rd_L3 l0_1 x4_2) false _ ?side1 ?side2 A19.out).mono ?_);(case side1 => repeat (first|exact (Kd.C_below HR126_0.out HB.out)|(with_reducible refine Kd.C_alloc ?_ _)|(with_reducible refine Kd.C_drewN ?_ _)|(with_reducible refine Kd.C_drew ?_)));(case side2 => exact HC126_0.out);rintro e w' ⟨rfl,⟨nd,rfl⟩⟩;(try first|exact ⟨rfl,_,World.drewN_drewN _ _ _⟩|exact ⟨rfl,_,Eq.trans (World.drewN_drewN _ _ _) (congrArg (World.drewN _) (Nat.add_assoc _ _ _))⟩)));try go_wp2_with (first|(go_at_call 15;(with_reducible refine (spec_l13By.calls k2 _ _ (rd_L3 l0_1 x4_2) false _ ?side1 ?side2 A19.out).mono ?_);(case side1 => repeat (first|exact (Kd.C_below HR126_0.out HB.out)|(with_reducible refine Kd.C_alloc ?_ _)|(with_reducible refine Kd.C_drewN ?_ _)|(with_reducible refine Kd.C_drew ?_)));(case side2 => exact HC126_0.out);rintro e w' ⟨rfl,⟨nd,rfl⟩⟩;(try first|exact ⟨rfl,_,World.drewN_drewN _ _ _⟩|exact ⟨rfl,_,Eq.trans (World.drewN_drewN _ _ _) (congrArg (World.drewN _) (Nat.add_assoc _ _ _))⟩))))
        go_ret
        exact ⟨by first|rfl|(simp only [i64_w,i32_w];done)|(simp only [i64_w,i32_w];rfl)|(simp [errW_none,errW_some] <;> rfl)|(simp [*,errW_none,errW_some] <;> rfl),by repeat (first|(with_reducible first|exact HB.out|apply bA|apply bN|apply bD|refine below_set ?_ GE124.out)|exact HB.out)⟩
      ·rw [if_neg c16] at H
       have c16b0 : decide (x4_2 < 3) = false:=decide_eq_false c16
       clear c16
       obtain ⟨ji23,hji23⟩ : ∃ j_ : Int,(wrap64 ((l0_0.length : Int) - 3)) = j_:=⟨_,rfl⟩
       replace H : (if 0 ≤ (ji23) then (if (ji23) < (l0_0.length : Int) then (if 0 ≤ (wrap64 ((l0_0.length : Int) - 2)) then (if (wrap64 ((l0_0.length : Int) - 2)) < (l0_0.length : Int) then (if (wrap64 (((rd_T40 l0_0 (ji23)).f0) + 1)) = ((rd_T40 l0_0 (wrap64 ((l0_0.length : Int) - 2))).f0) then (if 0 ≤ (wrap64 ((l0_0.length : Int) - 1)) then (if (wrap64 ((l0_0.length : Int) - 1)) < (l0_0.length : Int) then (some ((wrap64 (((rd_T40 l0_0 (wrap64 ((l0_0.length : Int) - 2))).f0) + 1)) == ((rd_T40 l0_0 (wrap64 ((l0_0.length : Int) - 1))).f0))) else (none)) else (none)) else (some false)) else (none)) else (none)) else (none)) else (none)) = some r:=by first|(rw [hji23] at H;exact H)|(simp only [hji23] at H ⊢;exact H)
       have hji23w : (IntKind.i64.wrap ((l0_0.length : Int) - 3)) = ji23:=(i64_w _).trans hji23
       by_cases c24 : 0 ≤ (ji23)
       case neg => rw [if_neg c24] at H;exact absurd H (by simp)
       rw [if_pos c24] at H
       have c24b0 : decide (0 ≤ (ji23)) = true:=decide_eq_true c24
       clear c24
       by_cases c25 : (ji23) < (l0_0.length : Int)
       case neg => rw [if_neg c25] at H;exact absurd H (by simp)
       rw [if_pos c25] at H
       have c25b0 : decide ((ji23) < (l0_0.length : Int)) = true:=decide_eq_true c25
       clear c25
       obtain ⟨ji26,hji26⟩ : ∃ j_ : Int,(wrap64 ((l0_0.length : Int) - 2)) = j_:=⟨_,rfl⟩
       replace H : (if 0 ≤ (ji26) then (if (ji26) < (l0_0.length : Int) then (if (wrap64 (((rd_T40 l0_0 (ji23)).f0) + 1)) = ((rd_T40 l0_0 (ji26)).f0) then (if 0 ≤ (wrap64 ((l0_0.length : Int) - 1)) then (if (wrap64 ((l0_0.length : Int) - 1)) < (l0_0.length : Int) then (some ((wrap64 (((rd_T40 l0_0 (ji26)).f0) + 1)) == ((rd_T40 l0_0 (wrap64 ((l0_0.length : Int) - 1))).f0))) else (none)) else (none)) else (some false)) else (none)) else (none)) = some r:=by first|(rw [hji26] at H;exact H)|(simp only [hji26] at H ⊢;exact H)
       have hji26w : (IntKind.i64.wrap ((l0_0.length : Int) - 2)) = ji26:=(i64_w _).trans hji26
       by_cases c27 : 0 ≤ (ji26)
       case neg => rw [if_neg c27] at H;exact absurd H (by simp)
       rw [if_pos c27] at H
       have c27b0 : decide (0 ≤ (ji26)) = true:=decide_eq_true c27
       clear c27
       by_cases c28 : (ji26) < (l0_0.length : Int)
       case neg => rw [if_neg c28] at H;exact absurd H (by simp)
       rw [if_pos c28] at H
       have c28b0 : decide ((ji26) < (l0_0.length : Int)) = true:=decide_eq_true c28
       clear c28
       by_cases c29 : (wrap64 (((rd_T40 l0_0 (ji23)).f0) + 1)) = ((rd_T40 l0_0 (ji26)).f0)
       ·rw [if_pos c29] at H
        have c29b0 : ((wrap64 (((rd_T40 l0_0 (ji23)).f0) + 1)) == ((rd_T40 l0_0 (ji26)).f0)) = true:=beq_iff_eq.mpr c29
        have c29b1 : ((wrap64 (((rd_T40 l0_0 (ji23)).f0) + 1)) != ((rd_T40 l0_0 (ji26)).f0)) = false:=bne_eq_false_iff_eq.mpr c29
        clear c29
        obtain ⟨ji30,hji30⟩ : ∃ j_ : Int,(wrap64 ((l0_0.length : Int) - 1)) = j_:=⟨_,rfl⟩
        replace H : (if 0 ≤ (ji30) then (if (ji30) < (l0_0.length : Int) then (some ((wrap64 (((rd_T40 l0_0 (ji26)).f0) + 1)) == ((rd_T40 l0_0 (ji30)).f0))) else (none)) else (none)) = some r:=by first|(rw [hji30] at H;exact H)|(simp only [hji30] at H ⊢;exact H)
        have hji30w : (IntKind.i64.wrap ((l0_0.length : Int) - 1)) = ji30:=(i64_w _).trans hji30
        by_cases c31 : 0 ≤ (ji30)
        case neg => rw [if_neg c31] at H;exact absurd H (by simp)
        rw [if_pos c31] at H
        have c31b0 : decide (0 ≤ (ji30)) = true:=decide_eq_true c31
        clear c31
        by_cases c32 : (ji30) < (l0_0.length : Int)
        case neg => rw [if_neg c32] at H;exact absurd H (by simp)
        rw [if_pos c32] at H
        have c32b0 : decide ((ji30) < (l0_0.length : Int)) = true:=decide_eq_true c32
        clear c32
        obtain rfl:=Option.some.inj H
        have hcz33_0 : wr.cell? ⟨gb124,0,none⟩ = some (.slice A0_0 l0_0.length c0_0):=(blk_cell BK124.out 0).trans rfl
        have hcz33_1 : wr.cell? ⟨gb124,1,none⟩ = some (.slice A0_1 l0_1.length c0_1):=(blk_cell BK124.out 1).trans rfl
        have hfz33_0:=blk_frozen BK124.out 0
        have hfz33_1:=blk_frozen BK124.out 1
        have p128 : 0 ≤ ((ji23) : Int):=of_decide_eq_true (by first|(with_reducible assumption)|assumption)
        have q128 : (ji23) < (l0_0.length : Int):=of_decide_eq_true (by first|(with_reducible assumption)|assumption)
        obtain ⟨ad128,e128,hx128_0,hx128_1,hx128_2,hx128_3⟩:=at_T40 HR0_0.out (ji23) p128 q128
        cases e128
        replace hx128_0:=(HB.out.cell (bL w hx128_0)).trans hx128_0
        replace hx128_1:=(HB.out.cell (bL w hx128_1)).trans hx128_1
        replace hx128_2:=(HB.out.cell (bL w hx128_2)).trans hx128_2
        replace hx128_3:=(HB.out.cell (bL w hx128_3)).trans hx128_3
        replace p128:=eq_true p128
        replace q128:=eq_true q128
        have p129 : 0 ≤ ((ji26) : Int):=of_decide_eq_true (by first|(with_reducible assumption)|assumption)
        have q129 : (ji26) < (l0_0.length : Int):=of_decide_eq_true (by first|(with_reducible assumption)|assumption)
        obtain ⟨ad129,e129,hx129_0,hx129_1,hx129_2,hx129_3⟩:=at_T40 HR0_0.out (ji26) p129 q129
        obtain rfl : ad128 = ad129:=(by injection e129)
        replace hx129_0:=(HB.out.cell (bL w hx129_0)).trans hx129_0
        replace hx129_1:=(HB.out.cell (bL w hx129_1)).trans hx129_1
        replace hx129_2:=(HB.out.cell (bL w hx129_2)).trans hx129_2
        replace hx129_3:=(HB.out.cell (bL w hx129_3)).trans hx129_3
        replace p129:=eq_true p129
        replace q129:=eq_true q129
        have p130 : 0 ≤ ((ji26) : Int):=of_decide_eq_true (by first|(with_reducible assumption)|assumption)
        have q130 : (ji26) < (l0_0.length : Int):=of_decide_eq_true (by first|(with_reducible assumption)|assumption)
        obtain ⟨ad130,e130,hx130_0,hx130_1,hx130_2,hx130_3⟩:=at_T40 HR0_0.out (ji26) p130 q130
        obtain rfl : ad128 = ad130:=(by injection e130)
        replace hx130_0:=(HB.out.cell (bL w hx130_0)).trans hx130_0
        replace hx130_1:=(HB.out.cell (bL w hx130_1)).trans hx130_1
        replace hx130_2:=(HB.out.cell (bL w hx130_2)).trans hx130_2
        replace hx130_3:=(HB.out.cell (bL w hx130_3)).trans hx130_3
        replace p130:=eq_true p130
        replace q130:=eq_true q130
        have p131 : 0 ≤ ((ji30) : Int):=of_decide_eq_true (by first|(with_reducible assumption)|assumption)
        have q131 : (ji30) < (l0_0.length : Int):=of_decide_eq_true (by first|(with_reducible assumption)|assumption)
        obtain ⟨ad131,e131,hx131_0,hx131_1,hx131_2,hx131_3⟩:=at_T40 HR0_0.out (ji30) p131 q131
        obtain rfl : ad128 = ad131:=(by injection e131)
        replace hx131_0:=(HB.out.cell (bL w hx131_0)).trans hx131_0
        replace hx131_1:=(HB.out.cell (bL w hx131_1)).trans hx131_1
        replace hx131_2:=(HB.out.cell (bL w hx131_2)).trans hx131_2
        replace hx131_3:=(HB.out.cell (bL w hx131_3)).trans hx131_3
        replace p131:=eq_true p131
        replace q131:=eq_true q131
        go_wp2
        repeat (go_quiet (fail);try go_wp2)
        go_ret
        exact ⟨by first|rfl|(simp only [i64_w,i32_w];done)|(simp only [i64_w,i32_w];rfl)|(simp [errW_none,errW_some] <;> rfl)|(simp only [← hji23,← hji26,← hji30];first|rfl|(simp [errW_none,errW_some] <;> rfl))|(simp [*,errW_none,errW_some] <;> rfl),by repeat (first|(with_reducible first|exact HB.out|apply bA|apply bN|apply bD|refine below_set ?_ GE124.out)|exact HB.out)⟩
       ·rw [if_neg c29] at H
        have c29b0 : ((wrap64 (((rd_T40 l0_0 (ji23)).f0) + 1)) == ((rd_T40 l0_0 (ji26)).f0)) = false:=beq_eq_false_iff_ne.mpr c29
        have c29b1 : ((wrap64 (((rd_T40 l0_0 (ji23)).f0) + 1)) != ((rd_T40 l0_0 (ji26)).f0)) = true:=bne_iff_ne.mpr c29
        obtain rfl:=Option.some.inj H
        have hcz34_0 : wr.cell? ⟨gb124,0,none⟩ = some (.slice A0_0 l0_0.length c0_0):=(blk_cell BK124.out 0).trans rfl
        have hcz34_1 : wr.cell? ⟨gb124,1,none⟩ = some (.slice A0_1 l0_1.length c0_1):=(blk_cell BK124.out 1).trans rfl
        have hfz34_0:=blk_frozen BK124.out 0
        have hfz34_1:=blk_frozen BK124.out 1
        have p128 : 0 ≤ ((ji23) : Int):=of_decide_eq_true (by first|(with_reducible assumption)|assumption)
        have q128 : (ji23) < (l0_0.length : Int):=of_decide_eq_true (by first|(with_reducible assumption)|assumption)
        obtain ⟨ad128,e128,hx128_0,hx128_1,hx128_2,hx128_3⟩:=at_T40 HR0_0.out (ji23) p128 q128
        cases e128
        replace hx128_0:=(HB.out.cell (bL w hx128_0)).trans hx128_0
        replace hx128_1:=(HB.out.cell (bL w hx128_1)).trans hx128_1
        replace hx128_2:=(HB.out.cell (bL w hx128_2)).trans hx128_2
        replace hx128_3:=(HB.out.cell (bL w hx128_3)).trans hx128_3
        replace p128:=eq_true p128
        replace q128:=eq_true q128
        have p129 : 0 ≤ ((ji26) : Int):=of_decide_eq_true (by first|(with_reducible assumption)|assumption)
        have q129 : (ji26) < (l0_0.length : Int):=of_decide_eq_true (by first|(with_reducible assumption)|assumption)
        obtain ⟨ad129,e129,hx129_0,hx129_1,hx129_2,hx129_3⟩:=at_T40 HR0_0.out (ji26) p129 q129
        obtain rfl : ad128 = ad129:=(by injection e129)
        replace hx129_0:=(HB.out.cell (bL w hx129_0)).trans hx129_0
        replace hx129_1:=(HB.out.cell (bL w hx129_1)).trans hx129_1
        replace hx129_2:=(HB.out.cell (bL w hx129_2)).trans hx129_2
        replace hx129_3:=(HB.out.cell (bL w hx129_3)).trans hx129_3
        replace p129:=eq_true p129
        replace q129:=eq_true q129
        go_wp2
        repeat (go_quiet (fail);try go_wp2)
        go_ret
        exact ⟨by first|rfl|(simp only [i64_w,i32_w];done)|(simp only [i64_w,i32_w];rfl)|(simp [errW_none,errW_some] <;> rfl)|(simp only [← hji23,← hji26];first|rfl|(simp [errW_none,errW_some] <;> rfl))|(simp [*,errW_none,errW_some] <;> rfl),by repeat (first|(with_reducible first|exact HB.out|apply bA|apply bN|apply bD|refine below_set ?_ GE124.out)|exact HB.out)⟩

/-! ### laws_toPay: function 42 -/
def laws_toPay.f (a0_0 : Int) (a0_1 : Int) (a0_2 : Int) : Option (Int × Int × Int):=some (a0_0,a0_1,a0_2)
set_option maxHeartbeats 8000000 in
set_option maxRecDepth 100000 in
theorem laws_toPay.calls (a0_0 : Int) (a0_1 : Int) (a0_2 : Int) (r1 : Int) (r2 : Int) (r3 : Int) (w : World) (h : laws_toPay.f a0_0 a0_1 a0_2 = some (r1,r2,r3)) :
  Calls Try.prog 42 #[.agg #[.int .i64 a0_0,.int .i64 a0_1,.int .i64 a0_2]] w fun e w' => e = .returned (.agg #[.int .i64 r1,.int .i64 r2,.int .i64 r3]) ∧ Below w.heap.size w w':=by
 have hu62:=Try.underlying62
 have hu38:=Try.underlying38
 have HB:=aM (Below.refl w.heap.size w)
 have H : (some (a0_0,a0_1,a0_2)) = some (r1,r2,r3):=h
 clear h
 simp only [Option.some.injEq,Prod.mk.injEq] at H
 obtain ⟨rfl,rfl,rfl⟩:=H
 go_enter Try.func42,Try.ntmps42
 go_wp2_with (first|((with_reducible refine gate_dst (N:=1) rfl ?_);refine box_event ?hg (N:=1) ?hd (cs:=#[.int .i64 a0_0,.int .i64 a0_1,.int .i64 a0_2]) (t:=62) ?hr ?_;(case hd => rfl);(case hg => rfl);(case hr => first|(go_simp;done)|(go_simp;rfl));intro gb132 hg w2 hbox hb;have n0_:=aM (below_step (by repeat (first|(with_reducible first|exact HB.out|apply bA|apply bN|apply bD)|exact HB.out)) hb);have n1_:=aM (hbox);have n2_:=aM ((by rw [hg];exact (below_size (by repeat (first|(with_reducible first|exact HB.out|apply bA|apply bN|apply bD)|exact HB.out))) : w.heap.size ≤ gb132));have n3_:=aM ((by rw [hg];exact (below_size (by repeat (first|(with_reducible first|exact HB.out|apply bA|apply bN|apply bD)|exact HB.out))) : w.heap.size ≤ gb132));clear HB;have HB:=n0_;have BK132:=n1_;have GW132:=n2_;have GE132:=n3_;clear n0_ n1_ n2_ n3_;clear hb hbox hg)|((with_reducible refine gate_dst (N:=2) rfl ?_);refine box_event ?hg (N:=2) ?hd (cs:=#[.int .i64 0,.int .i64 0,.int .i64 0]) (t:=38) ?hr ?_;(case hd => rfl);(case hg => rfl);(case hr => first|(go_simp;done)|(go_simp;rfl));intro gb133 hg w3 hbox hb;have n0_:=aM (blk_below (g:=gb132) (o:=.cells #[.int .i64 a0_0,.int .i64 a0_1,.int .i64 a0_2] 62 (0,0)) (by (with_reducible repeat (first|refine blk_drewN ?_ _|refine blk_drew ?_|refine blk_alloc ?_ _));exact BK132.out) hb);have n1_:=aM (below_step (by repeat (first|(with_reducible first|exact HB.out|apply bA|apply bN|apply bD|refine below_set ?_ GE132.out)|exact HB.out)) hb);have n2_:=aM (hbox);have n3_:=aM ((by rw [hg];exact (below_size (by repeat (first|(with_reducible first|exact HB.out|apply bA|apply bN|apply bD|refine below_set ?_ GE132.out)|exact HB.out))) : w.heap.size ≤ gb133));have n4_:=aM ((by rw [hg];exact (below_size (by repeat (first|(with_reducible first|exact HB.out|apply bA|apply bN|apply bD|refine below_set ?_ GE132.out)|exact HB.out))) : w.heap.size ≤ gb133));have n5_:=aM ((by rw [hg];exact Nat.ne_of_lt (blk_lt (g:=gb132) (o:=.cells #[.int .i64 a0_0,.int .i64 a0_1,.int .i64 a0_2] 62 (0,0)) (by (with_reducible repeat (first|refine blk_drewN ?_ _|refine blk_drew ?_|refine blk_alloc ?_ _));exact BK132.out)) : gb132 ≠ gb133));have n6_:=aM ((by rw [hg];exact Nat.ne_of_gt (blk_lt (g:=gb132) (o:=.cells #[.int .i64 a0_0,.int .i64 a0_1,.int .i64 a0_2] 62 (0,0)) (by (with_reducible repeat (first|refine blk_drewN ?_ _|refine blk_drew ?_|refine blk_alloc ?_ _));exact BK132.out)) : gb133 ≠ gb132));clear BK132;clear HB;have BK132:=n0_;have HB:=n1_;have BK133:=n2_;have GW133:=n3_;have GE133:=n4_;have NB132_133:=n5_;have NB133_132:=n6_;clear n0_ n1_ n2_ n3_ n4_ n5_ n6_;clear hb hbox hg)|((with_reducible refine gate_dst (N:=3) rfl ?_);refine box_event ?hg (N:=3) ?hd (cs:=#[.int .i64 0,.int .i64 0,.int .i64 0]) (t:=38) ?hr ?_;(case hd => rfl);(case hg => rfl);(case hr => first|(go_simp;done)|(go_simp;rfl));intro gb134 hg w4 hbox hb;have n0_:=aM (blk_below (g:=gb132) (o:=.cells #[.int .i64 a0_0,.int .i64 a0_1,.int .i64 a0_2] 62 (0,0)) (by (with_reducible repeat (first|refine blk_drewN ?_ _|refine blk_drew ?_|refine blk_alloc ?_ _));exact BK132.out) hb);have n1_:=aM (blk_below (g:=gb133) (o:=.cells #[.int .i64 0,.int .i64 0,.int .i64 0] 38 (0,0)) (by (with_reducible repeat (first|refine blk_drewN ?_ _|refine blk_drew ?_|refine blk_alloc ?_ _));exact BK133.out) hb);have n2_:=aM (below_step (by repeat (first|(with_reducible first|exact HB.out|apply bA|apply bN|apply bD|refine below_set ?_ GE132.out|refine below_set ?_ GE133.out)|exact HB.out)) hb);have n3_:=aM (hbox);have n4_:=aM ((by rw [hg];exact (below_size (by repeat (first|(with_reducible first|exact HB.out|apply bA|apply bN|apply bD|refine below_set ?_ GE132.out|refine below_set ?_ GE133.out)|exact HB.out))) : w.heap.size ≤ gb134));have n5_:=aM ((by rw [hg];exact (below_size (by repeat (first|(with_reducible first|exact HB.out|apply bA|apply bN|apply bD|refine below_set ?_ GE132.out|refine below_set ?_ GE133.out)|exact HB.out))) : w.heap.size ≤ gb134));have n6_:=aM ((by rw [hg];exact Nat.ne_of_lt (blk_lt (g:=gb132) (o:=.cells #[.int .i64 a0_0,.int .i64 a0_1,.int .i64 a0_2] 62 (0,0)) (by (with_reducible repeat (first|refine blk_drewN ?_ _|refine blk_drew ?_|refine blk_alloc ?_ _));exact BK132.out)) : gb132 ≠ gb134));have n7_:=aM ((by rw [hg];exact Nat.ne_of_gt (blk_lt (g:=gb132) (o:=.cells #[.int .i64 a0_0,.int .i64 a0_1,.int .i64 a0_2] 62 (0,0)) (by (with_reducible repeat (first|refine blk_drewN ?_ _|refine blk_drew ?_|refine blk_alloc ?_ _));exact BK132.out)) : gb134 ≠ gb132));have n8_:=aM ((by rw [hg];exact Nat.ne_of_lt (blk_lt (g:=gb133) (o:=.cells #[.int .i64 0,.int .i64 0,.int .i64 0] 38 (0,0)) (by (with_reducible repeat (first|refine blk_drewN ?_ _|refine blk_drew ?_|refine blk_alloc ?_ _));exact BK133.out)) : gb133 ≠ gb134));have n9_:=aM ((by rw [hg];exact Nat.ne_of_gt (blk_lt (g:=gb133) (o:=.cells #[.int .i64 0,.int .i64 0,.int .i64 0] 38 (0,0)) (by (with_reducible repeat (first|refine blk_drewN ?_ _|refine blk_drew ?_|refine blk_alloc ?_ _));exact BK133.out)) : gb134 ≠ gb133));clear BK132;clear BK133;clear HB;have BK132:=n0_;have BK133:=n1_;have HB:=n2_;have BK134:=n3_;have GW134:=n4_;have GE134:=n5_;have NB132_134:=n6_;have NB134_132:=n7_;have NB133_134:=n8_;have NB134_133:=n9_;clear n0_ n1_ n2_ n3_ n4_ n5_ n6_ n7_ n8_ n9_;clear hb hbox hg;have hnb5:=NB132_133.out;have hnc5:=NB133_132.out;have hnb6:=NB132_134.out;have hnc6:=NB134_132.out;have hcz7_0 : w4.cell? ⟨gb132,0,none⟩ = some (.int .i64 a0_0):=(blk_cell BK132.out 0).trans rfl;have hcz7_1 : w4.cell? ⟨gb132,1,none⟩ = some (.int .i64 a0_1):=(blk_cell BK132.out 1).trans rfl;have hcz7_2 : w4.cell? ⟨gb132,2,none⟩ = some (.int .i64 a0_2):=(blk_cell BK132.out 2).trans rfl;have hfz7_0:=blk_frozen BK132.out 0;have hfz7_1:=blk_frozen BK132.out 1;have hfz7_2:=blk_frozen BK132.out 2;have hnb8:=NB134_133.out;have hnc8:=NB133_134.out;have hcz9_0 : w4.cell? ⟨gb134,0,none⟩ = some (.int .i64 0):=(blk_cell BK134.out 0).trans rfl;have hcz9_1 : w4.cell? ⟨gb134,1,none⟩ = some (.int .i64 0):=(blk_cell BK134.out 1).trans rfl;have hcz9_2 : w4.cell? ⟨gb134,2,none⟩ = some (.int .i64 0):=(blk_cell BK134.out 2).trans rfl;have hfz9_0:=blk_frozen BK134.out 0;have hfz9_1:=blk_frozen BK134.out 1;have hfz9_2:=blk_frozen BK134.out 2;have hcz10_0 : w4.cell? ⟨gb133,0,none⟩ = some (.int .i64 0):=(blk_cell BK133.out 0).trans rfl;have hcz10_1 : w4.cell? ⟨gb133,1,none⟩ = some (.int .i64 0):=(blk_cell BK133.out 1).trans rfl;have hcz10_2 : w4.cell? ⟨gb133,2,none⟩ = some (.int .i64 0):=(blk_cell BK133.out 2).trans rfl;have hfz10_0:=blk_frozen BK133.out 0;have hfz10_1:=blk_frozen BK133.out 1;have hfz10_2:=blk_frozen BK133.out 2))
 refine bodyPost_ret (results_cell_row rfl _ _ gb133 38 #[.int .i64 a0_0,.int .i64 a0_1,.int .i64 a0_2] (0,0) _ rfl (by (with_reducible repeat (first|refine blk_drewN ?_ _|refine blk_drew ?_|refine blk_alloc ?_ _));refine blk_put (cs:=#[.int .i64 a0_0,.int .i64 a0_1,.int .i64 0]) ?_ 2 _ rfl;(with_reducible repeat (first|refine blk_drewN ?_ _|refine blk_drew ?_|refine blk_alloc ?_ _));refine blk_put (cs:=#[.int .i64 a0_0,.int .i64 0,.int .i64 0]) ?_ 1 _ rfl;(with_reducible repeat (first|refine blk_drewN ?_ _|refine blk_drew ?_|refine blk_alloc ?_ _));refine blk_put (cs:=#[.int .i64 0,.int .i64 0,.int .i64 0]) ?_ 0 _ rfl;(with_reducible repeat (first|refine blk_drewN ?_ _|refine blk_drew ?_|refine blk_alloc ?_ _));refine blk_far ?_ NB133_134.out _;(with_reducible repeat (first|refine blk_drewN ?_ _|refine blk_drew ?_|refine blk_alloc ?_ _));refine blk_far ?_ NB133_134.out _;(with_reducible repeat (first|refine blk_drewN ?_ _|refine blk_drew ?_|refine blk_alloc ?_ _));refine blk_far ?_ NB133_134.out _;(with_reducible repeat (first|refine blk_drewN ?_ _|refine blk_drew ?_|refine blk_alloc ?_ _));exact BK133.out) Try.underlying38 rfl (by kernel_rfl)) rfl ?_
 exact ⟨by first|rfl|(simp only [i64_w,i32_w];done)|(simp only [i64_w,i32_w];rfl)|(simp [errW_none,errW_some] <;> rfl)|(simp [*,errW_none,errW_some] <;> rfl),by repeat (first|(with_reducible first|exact HB.out|apply bA|apply bN|apply bD|refine below_set ?_ GE132.out|refine below_set ?_ GE133.out|refine below_set ?_ GE134.out)|exact HB.out)⟩

/-! ### laws_toItem: function 30 -/
def laws_toItem.f (a0_0 : Int) (a0_1 : Int) (a0_2 : Int) (a0_3 : Int) : Option (Int × Int × Int × Int):=(laws_toPay.f a0_1 a0_2 a0_3).bind fun bt138 => (some (a0_0,bt138.1,bt138.2.1,bt138.2.2))
set_option maxHeartbeats 8000000 in
set_option maxRecDepth 100000 in
theorem laws_toItem.calls (a0_0 : Int) (a0_1 : Int) (a0_2 : Int) (a0_3 : Int) (r1 : Int) (r2 : Int) (r3 : Int) (r4 : Int) (w : World) (h : laws_toItem.f a0_0 a0_1 a0_2 a0_3 = some (r1,r2,r3,r4)) :
  Calls Try.prog 30 #[.agg #[.int .i64 a0_0,.int .i64 a0_1,.int .i64 a0_2,.int .i64 a0_3]] w fun e w' => e = .returned (.agg #[.int .i64 r1,.int .i64 r2,.int .i64 r3,.int .i64 r4]) ∧ Below w.heap.size w w':=by
 have hu64:=Try.underlying64
 have hu40:=Try.underlying40
 have hu62:=Try.underlying62
 have hu38:=Try.underlying38
 have HB:=aM (Below.refl w.heap.size w)
 have H : ((laws_toPay.f a0_1 a0_2 a0_3).bind fun bt138 => (some (a0_0,bt138.1,bt138.2.1,bt138.2.2))) = some (r1,r2,r3,r4):=h
 clear h
 replace H:=Option.bind_eq_some_iff.mp H
 obtain ⟨⟨t138,t139,t140⟩,A20,H⟩:=H
 replace H : (some (a0_0,t138,t139,t140)) = some (r1,r2,r3,r4):=H
 have A2:=aM A20
 clear A20
 simp only [Option.some.injEq,Prod.mk.injEq] at H
 obtain ⟨rfl,rfl,rfl,rfl⟩:=H
 go_enter Try.func30,Try.ntmps30
 go_wp2_with (first|((with_reducible refine gate_dst (N:=1) rfl ?_);refine box_event ?hg (N:=1) ?hd (cs:=#[.int .i64 a0_0,.int .i64 a0_1,.int .i64 a0_2,.int .i64 a0_3]) (t:=64) ?hr ?_;(case hd => rfl);(case hg => rfl);(case hr => first|(go_simp;done)|(go_simp;rfl));intro gb135 hg w3 hbox hb;have n0_:=aM (below_step (by repeat (first|(with_reducible first|exact HB.out|apply bA|apply bN|apply bD)|exact HB.out)) hb);have n1_:=aM (hbox);have n2_:=aM ((by rw [hg];exact (below_size (by repeat (first|(with_reducible first|exact HB.out|apply bA|apply bN|apply bD)|exact HB.out))) : w.heap.size ≤ gb135));have n3_:=aM ((by rw [hg];exact (below_size (by repeat (first|(with_reducible first|exact HB.out|apply bA|apply bN|apply bD)|exact HB.out))) : w.heap.size ≤ gb135));clear HB;have HB:=n0_;have BK135:=n1_;have GW135:=n2_;have GE135:=n3_;clear n0_ n1_ n2_ n3_;clear hb hbox hg)|((with_reducible refine gate_dst (N:=2) rfl ?_);refine box_event ?hg (N:=2) ?hd (cs:=#[.int .i64 0,.int .i64 0,.int .i64 0,.int .i64 0]) (t:=40) ?hr ?_;(case hd => rfl);(case hg => rfl);(case hr => first|(go_simp;done)|(go_simp;rfl));intro gb136 hg w4 hbox hb;have n0_:=aM (blk_below (g:=gb135) (o:=.cells #[.int .i64 a0_0,.int .i64 a0_1,.int .i64 a0_2,.int .i64 a0_3] 64 (0,0)) (by (with_reducible repeat (first|refine blk_drewN ?_ _|refine blk_drew ?_|refine blk_alloc ?_ _));exact BK135.out) hb);have n1_:=aM (below_step (by repeat (first|(with_reducible first|exact HB.out|apply bA|apply bN|apply bD|refine below_set ?_ GE135.out)|exact HB.out)) hb);have n2_:=aM (hbox);have n3_:=aM ((by rw [hg];exact (below_size (by repeat (first|(with_reducible first|exact HB.out|apply bA|apply bN|apply bD|refine below_set ?_ GE135.out)|exact HB.out))) : w.heap.size ≤ gb136));have n4_:=aM ((by rw [hg];exact (below_size (by repeat (first|(with_reducible first|exact HB.out|apply bA|apply bN|apply bD|refine below_set ?_ GE135.out)|exact HB.out))) : w.heap.size ≤ gb136));have n5_:=aM ((by rw [hg];exact Nat.ne_of_lt (blk_lt (g:=gb135) (o:=.cells #[.int .i64 a0_0,.int .i64 a0_1,.int .i64 a0_2,.int .i64 a0_3] 64 (0,0)) (by (with_reducible repeat (first|refine blk_drewN ?_ _|refine blk_drew ?_|refine blk_alloc ?_ _));exact BK135.out)) : gb135 ≠ gb136));have n6_:=aM ((by rw [hg];exact Nat.ne_of_gt (blk_lt (g:=gb135) (o:=.cells #[.int .i64 a0_0,.int .i64 a0_1,.int .i64 a0_2,.int .i64 a0_3] 64 (0,0)) (by (with_reducible repeat (first|refine blk_drewN ?_ _|refine blk_drew ?_|refine blk_alloc ?_ _));exact BK135.out)) : gb136 ≠ gb135));clear BK135;clear HB;have BK135:=n0_;have HB:=n1_;have BK136:=n2_;have GW136:=n3_;have GE136:=n4_;have NB135_136:=n5_;have NB136_135:=n6_;clear n0_ n1_ n2_ n3_ n4_ n5_ n6_;clear hb hbox hg)|((with_reducible refine gate_dst (N:=3) rfl ?_);refine box_event ?hg (N:=3) ?hd (cs:=#[.int .i64 0,.int .i64 0,.int .i64 0,.int .i64 0]) (t:=40) ?hr ?_;(case hd => rfl);(case hg => rfl);(case hr => first|(go_simp;done)|(go_simp;rfl));intro gb137 hg w5 hbox hb;have n0_:=aM (blk_below (g:=gb135) (o:=.cells #[.int .i64 a0_0,.int .i64 a0_1,.int .i64 a0_2,.int .i64 a0_3] 64 (0,0)) (by (with_reducible repeat (first|refine blk_drewN ?_ _|refine blk_drew ?_|refine blk_alloc ?_ _));exact BK135.out) hb);have n1_:=aM (blk_below (g:=gb136) (o:=.cells #[.int .i64 0,.int .i64 0,.int .i64 0,.int .i64 0] 40 (0,0)) (by (with_reducible repeat (first|refine blk_drewN ?_ _|refine blk_drew ?_|refine blk_alloc ?_ _));exact BK136.out) hb);have n2_:=aM (below_step (by repeat (first|(with_reducible first|exact HB.out|apply bA|apply bN|apply bD|refine below_set ?_ GE135.out|refine below_set ?_ GE136.out)|exact HB.out)) hb);have n3_:=aM (hbox);have n4_:=aM ((by rw [hg];exact (below_size (by repeat (first|(with_reducible first|exact HB.out|apply bA|apply bN|apply bD|refine below_set ?_ GE135.out|refine below_set ?_ GE136.out)|exact HB.out))) : w.heap.size ≤ gb137));have n5_:=aM ((by rw [hg];exact (below_size (by repeat (first|(with_reducible first|exact HB.out|apply bA|apply bN|apply bD|refine below_set ?_ GE135.out|refine below_set ?_ GE136.out)|exact HB.out))) : w.heap.size ≤ gb137));have n6_:=aM ((by rw [hg];exact Nat.ne_of_lt (blk_lt (g:=gb135) (o:=.cells #[.int .i64 a0_0,.int .i64 a0_1,.int .i64 a0_2,.int .i64 a0_3] 64 (0,0)) (by (with_reducible repeat (first|refine blk_drewN ?_ _|refine blk_drew ?_|refine blk_alloc ?_ _));exact BK135.out)) : gb135 ≠ gb137));have n7_:=aM ((by rw [hg];exact Nat.ne_of_gt (blk_lt (g:=gb135) (o:=.cells #[.int .i64 a0_0,.int .i64 a0_1,.int .i64 a0_2,.int .i64 a0_3] 64 (0,0)) (by (with_reducible repeat (first|refine blk_drewN ?_ _|refine blk_drew ?_|refine blk_alloc ?_ _));exact BK135.out)) : gb137 ≠ gb135));have n8_:=aM ((by rw [hg];exact Nat.ne_of_lt (blk_lt (g:=gb136) (o:=.cells #[.int .i64 0,.int .i64 0,.int .i64 0,.int .i64 0] 40 (0,0)) (by (with_reducible repeat (first|refine blk_drewN ?_ _|refine blk_drew ?_|refine blk_alloc ?_ _));exact BK136.out)) : gb136 ≠ gb137));have n9_:=aM ((by rw [hg];exact Nat.ne_of_gt (blk_lt (g:=gb136) (o:=.cells #[.int .i64 0,.int .i64 0,.int .i64 0,.int .i64 0] 40 (0,0)) (by (with_reducible repeat (first|refine blk_drewN ?_ _|refine blk_drew ?_|refine blk_alloc ?_ _));exact BK136.out)) : gb137 ≠ gb136));clear BK135;clear BK136;clear HB;have BK135:=n0_;have BK136:=n1_;have HB:=n2_;have BK137:=n3_;have GW137:=n4_;have GE137:=n5_;have NB135_137:=n6_;have NB137_135:=n7_;have NB136_137:=n8_;have NB137_136:=n9_;clear n0_ n1_ n2_ n3_ n4_ n5_ n6_ n7_ n8_ n9_;clear hb hbox hg;have hnb6:=NB135_136.out;have hnc6:=NB136_135.out;have hnb7:=NB135_137.out;have hnc7:=NB137_135.out;have hcz8_0 : w5.cell? ⟨gb135,0,none⟩ = some (.int .i64 a0_0):=(blk_cell BK135.out 0).trans rfl;have hcz8_1 : w5.cell? ⟨gb135,1,none⟩ = some (.int .i64 a0_1):=(blk_cell BK135.out 1).trans rfl;have hcz8_2 : w5.cell? ⟨gb135,2,none⟩ = some (.int .i64 a0_2):=(blk_cell BK135.out 2).trans rfl;have hcz8_3 : w5.cell? ⟨gb135,3,none⟩ = some (.int .i64 a0_3):=(blk_cell BK135.out 3).trans rfl;have hfz8_0:=blk_frozen BK135.out 0;have hfz8_1:=blk_frozen BK135.out 1;have hfz8_2:=blk_frozen BK135.out 2;have hfz8_3:=blk_frozen BK135.out 3;have hnb9:=NB137_136.out;have hnc9:=NB136_137.out;have hcz10_0 : w5.cell? ⟨gb137,0,none⟩ = some (.int .i64 0):=(blk_cell BK137.out 0).trans rfl;have hcz10_1 : w5.cell? ⟨gb137,1,none⟩ = some (.int .i64 0):=(blk_cell BK137.out 1).trans rfl;have hcz10_2 : w5.cell? ⟨gb137,2,none⟩ = some (.int .i64 0):=(blk_cell BK137.out 2).trans rfl;have hcz10_3 : w5.cell? ⟨gb137,3,none⟩ = some (.int .i64 0):=(blk_cell BK137.out 3).trans rfl;have hfz10_0:=blk_frozen BK137.out 0;have hfz10_1:=blk_frozen BK137.out 1;have hfz10_2:=blk_frozen BK137.out 2;have hfz10_3:=blk_frozen BK137.out 3)|((with_reducible refine gate_callee (f:=42) rfl ?_);refine goesL_ (some 9) rfl rfl Try.func42 (by kernel_rfl) rfl #[.agg #[.int .i64 a0_1,.int .i64 a0_2,.int .i64 a0_3]] rfl (by (try simp only [List.map_toArray,List.map_cons,List.map_nil]);first|done|rfl|(simp only [List.length_drop,List.length_take];rfl)) ?_;(with_reducible refine (laws_toPay.calls a0_1 a0_2 a0_3 t138 t139 t140 _ A2.out).mono ?_);rintro e w11 ⟨rfl,hb⟩;refine ⟨_,rfl,?_⟩;have n0_:=aM (blk_below (g:=gb135) (o:=.cells #[.int .i64 a0_0,.int .i64 a0_1,.int .i64 a0_2,.int .i64 a0_3] 64 (0,0)) (by (with_reducible repeat (first|refine blk_drewN ?_ _|refine blk_drew ?_|refine blk_alloc ?_ _));refine blk_far ?_ NB135_137.out _;(with_reducible repeat (first|refine blk_drewN ?_ _|refine blk_drew ?_|refine blk_alloc ?_ _));exact BK135.out) hb);have n1_:=aM (blk_below (g:=gb136) (o:=.cells #[.int .i64 0,.int .i64 0,.int .i64 0,.int .i64 0] 40 (0,0)) (by (with_reducible repeat (first|refine blk_drewN ?_ _|refine blk_drew ?_|refine blk_alloc ?_ _));refine blk_far ?_ NB136_137.out _;(with_reducible repeat (first|refine blk_drewN ?_ _|refine blk_drew ?_|refine blk_alloc ?_ _));exact BK136.out) hb);have n2_:=aM (blk_below (g:=gb137) (o:=.cells #[.int .i64 a0_0,.int .i64 0,.int .i64 0,.int .i64 0] 40 (0,0)) (by (with_reducible repeat (first|refine blk_drewN ?_ _|refine blk_drew ?_|refine blk_alloc ?_ _));refine blk_put (cs:=#[.int .i64 0,.int .i64 0,.int .i64 0,.int .i64 0]) ?_ 0 _ rfl;(with_reducible repeat (first|refine blk_drewN ?_ _|refine blk_drew ?_|refine blk_alloc ?_ _));exact BK137.out) hb);have n3_:=aM (below_step (by repeat (first|(with_reducible first|exact HB.out|apply bA|apply bN|apply bD|refine below_set ?_ GE135.out|refine below_set ?_ GE136.out|refine below_set ?_ GE137.out)|exact HB.out)) hb);clear BK135;clear BK136;clear BK137;clear HB;have BK135:=n0_;have BK136:=n1_;have BK137:=n2_;have HB:=n3_;clear n0_ n1_ n2_ n3_;(try clear hb);(try clear hb2);(try clear hk);(try clear hi);have hcz12_0 : w11.cell? ⟨gb137,0,none⟩ = some (.int .i64 a0_0):=(blk_cell BK137.out 0).trans rfl;have hcz12_1 : w11.cell? ⟨gb137,1,none⟩ = some (.int .i64 0):=(blk_cell BK137.out 1).trans rfl;have hcz12_2 : w11.cell? ⟨gb137,2,none⟩ = some (.int .i64 0):=(blk_cell BK137.out 2).trans rfl;have hcz12_3 : w11.cell? ⟨gb137,3,none⟩ = some (.int .i64 0):=(blk_cell BK137.out 3).trans rfl;have hfz12_0:=blk_frozen BK137.out 0;have hfz12_1:=blk_frozen BK137.out 1;have hfz12_2:=blk_frozen BK137.out 2;have hfz12_3:=blk_frozen BK137.out 3;have hcz13_0 : w11.cell? ⟨gb136,0,none⟩ = some (.int .i64 0):=(blk_cell BK136.out 0).trans rfl;have hcz13_1 : w11.cell? ⟨gb136,1,none⟩ = some (.int .i64 0):=(blk_cell BK136.out 1).trans rfl;have hcz13_2 : w11.cell? ⟨gb136,2,none⟩ = some (.int .i64 0):=(blk_cell BK136.out 2).trans rfl;have hcz13_3 : w11.cell? ⟨gb136,3,none⟩ = some (.int .i64 0):=(blk_cell BK136.out 3).trans rfl;have hfz13_0:=blk_frozen BK136.out 0;have hfz13_1:=blk_frozen BK136.out 1;have hfz13_2:=blk_frozen BK136.out 2;have hfz13_3:=blk_frozen BK136.out 3))
 refine bodyPost_ret (results_cell_row rfl _ _ gb136 40 #[.int .i64 a0_0,.int .i64 t138,.int .i64 t139,.int .i64 t140] (0,0) _ rfl (by (with_reducible repeat (first|refine blk_drewN ?_ _|refine blk_drew ?_|refine blk_alloc ?_ _));refine blk_put (cs:=#[.int .i64 a0_0,.int .i64 t138,.int .i64 t139,.int .i64 0]) ?_ 3 _ rfl;(with_reducible repeat (first|refine blk_drewN ?_ _|refine blk_drew ?_|refine blk_alloc ?_ _));refine blk_put (cs:=#[.int .i64 a0_0,.int .i64 t138,.int .i64 0,.int .i64 0]) ?_ 2 _ rfl;(with_reducible repeat (first|refine blk_drewN ?_ _|refine blk_drew ?_|refine blk_alloc ?_ _));refine blk_put (cs:=#[.int .i64 a0_0,.int .i64 0,.int .i64 0,.int .i64 0]) ?_ 1 _ rfl;(with_reducible repeat (first|refine blk_drewN ?_ _|refine blk_drew ?_|refine blk_alloc ?_ _));refine blk_put (cs:=#[.int .i64 0,.int .i64 0,.int .i64 0,.int .i64 0]) ?_ 0 _ rfl;(with_reducible repeat (first|refine blk_drewN ?_ _|refine blk_drew ?_|refine blk_alloc ?_ _));refine blk_far ?_ NB136_137.out _;(with_reducible repeat (first|refine blk_drewN ?_ _|refine blk_drew ?_|refine blk_alloc ?_ _));refine blk_far ?_ NB136_137.out _;(with_reducible repeat (first|refine blk_drewN ?_ _|refine blk_drew ?_|refine blk_alloc ?_ _));refine blk_far ?_ NB136_137.out _;(with_reducible repeat (first|refine blk_drewN ?_ _|refine blk_drew ?_|refine blk_alloc ?_ _));exact BK136.out) Try.underlying40 rfl (by kernel_rfl)) rfl ?_
 exact ⟨by first|rfl|(simp only [i64_w,i32_w];done)|(simp only [i64_w,i32_w];rfl)|(simp [errW_none,errW_some] <;> rfl)|(simp [*,errW_none,errW_some] <;> rfl),by repeat (first|(with_reducible first|exact HB.out|apply bA|apply bN|apply bD|refine below_set ?_ GE135.out|refine below_set ?_ GE136.out|refine below_set ?_ GE137.out)|exact HB.out)⟩

/-! ### laws_toItemS: function 16 -/
def laws_toItemS.l0 : Nat → List (S64) → List (S40) → Int → Option ((List (S40)))
 | 0,_,_,_ => none
 | k + 1,x0,x3,x4 => if x4 < (x0.length : Int) then (if 0 ≤ x4 then ((laws_toItem.f ((rd_T64 x0 x4).f0) ((rd_T64 x0 x4).f1.f0) ((rd_T64 x0 x4).f1.f1) ((rd_T64 x0 x4).f1.f2)).bind fun bt145 => (if x4 < (x3.length : Int) then (laws_toItemS.l0 k x0 (x3.set (x4 : Int).toNat (⟨bt145.1,(⟨bt145.2.1,bt145.2.2.1,bt145.2.2.2⟩ : S38)⟩ : S40)) (wrap64 (x4 + 1))) else (none))) else (none)) else (some x3)
def laws_toItemS.f (k : Nat) (l0 : List (S64)) : Option ((List (S40))):=if 0 ≤ (l0.length : Int) then (if ((l0.length : Int) : Int).toNat ≤ 8796093022208 then (laws_toItemS.l0 k l0 (List.replicate ((l0.length : Int) : Int).toNat z40) 0) else (none)) else (none)
theorem laws_toItemS.mono_l : ∀ k,(∀ y0 y1 y2,LeO (laws_toItemS.l0 k y0 y1 y2) (laws_toItemS.l0 (k + 1) y0 y1 y2))
 | 0 => fun _ _ _ r h => by simp [laws_toItemS.l0] at h
 | k + 1 => by
  have ih0:=laws_toItemS.mono_l k
  ·intro y0 y1 y2
   unfold laws_toItemS.l0
   repeat' first
   | exact LeO.refl _
   | exact ih0 _ _ _
   | exact LeO.none _
   | refine LeO.ite ?_ ?_
   | refine LeO.bind ?_ (fun _ => ?_)
theorem laws_toItemS.mono : ∀ a0 k,LeO (laws_toItemS.f k a0) (laws_toItemS.f (k + 1) a0):=by
 intro a0 k
 have ih0:=laws_toItemS.mono_l k
 unfold laws_toItemS.f
 repeat' first
   | exact LeO.refl _
   | exact ih0 _ _ _
   | exact LeO.none _
   | refine LeO.ite ?_ ?_
   | refine LeO.bind ?_ (fun _ => ?_)
set_option maxHeartbeats 8000000 in
set_option maxRecDepth 100000 in
theorem laws_toItemS.calls (k : Nat) (A0 : Option Addr) (c0 : Nat) (l0 : List (S64)) (r : List (S40)) (w : World) (hr0 : Kd.C k64 w A0 l0.length l0) (hc0 : l0.length ≤ c0) (h : laws_toItemS.f k l0 = some r) :
  Calls Try.prog 16 #[.slice A0 l0.length c0] w fun e w' => ∃ v0_ : Value,e = .returned (v0_) ∧ Kd.R k40 40 w' w.heap.size (fun _ => True) v0_ r ∧ Below w.heap.size w w':=by
 have hu64:=Try.underlying64
 have hu40:=Try.underlying40
 have HR0:=aM hr0
 have HC0:=aM hc0
 clear hr0 hc0
 have HB:=aM (Below.refl w.heap.size w)
 have H : (if 0 ≤ (l0.length : Int) then (if ((l0.length : Int) : Int).toNat ≤ 8796093022208 then (laws_toItemS.l0 k l0 (List.replicate ((l0.length : Int) : Int).toNat z40) 0) else (none)) else (none)) = some r:=h
 clear h
 by_cases c2 : 0 ≤ (l0.length : Int)
 case neg => rw [if_neg c2] at H;exact absurd H (by simp)
 rw [if_pos c2] at H
 have c2b0:=eq_true c2
 have c2b1 : decide (0 ≤ (l0.length : Int)) = true:=decide_eq_true c2
 clear c2
 by_cases c3 : ((l0.length : Int) : Int).toNat ≤ 8796093022208
 case neg => rw [if_neg c3] at H;exact absurd H (by simp)
 rw [if_pos c3] at H
 have c3b0:=eq_true c3
 have c3b1 : decide (((l0.length : Int) : Int).toNat ≤ 8796093022208) = true:=decide_eq_true c3
 clear c3
 obtain ⟨y141,hy141⟩ : ∃ y_ : List (S40),y_ = (List.replicate ((l0.length : Int) : Int).toNat z40):=⟨_,rfl⟩
 replace H : (laws_toItemS.l0 k l0 y141 0) = some r:=by first|(rw [hy141];with_reducible exact H)|(have H2_:=(Option.bind_some _ _).symm.trans H;rw [hy141];with_reducible exact H2_)|(have H2_:=(Option.bind_some _ _).symm.trans H;with_reducible exact H2_)|with_reducible exact H|(rw [hy141];exact H)|exact H
 have Ny141:=aM hy141
 clear hy141
 have H':=aM H
 clear H
 go_enter Try.func16,Try.ntmps16
 go_wp2_with (first|((with_reducible refine gate_dst (N:=7) rfl ?_);refine Kd.R_make k40 _ 40 rfl (N:=7) rfl 28 _ _ rfl (l0.length : Int) rfl rfl Try.underlying28 (.agg #[(.int .i64 0),(.int .i64 0),(.int .i64 0),(.int .i64 0)]) 32 info40 rfl (by decide) (by omega) z40 (ok:=fun _ => True) (okp:=fun _ => True) (k40_mkM _ _ _ z40 ) (fun _ hk => hk) trivial (of_decide_eq_true (by first|(with_reducible assumption)|assumption)) (Nat.le_trans (Nat.mul_le_mul_right _ (of_decide_eq_true (by first|(with_reducible assumption)|assumption) : (l0.length : Int).toNat ≤ 8796093022208)) (by omega)) (Below.refl _ _) (Nat.le_refl _) ?_;intro v142 w4 ho5 hb hg_ hnew_;clear hg_ hnew_;(first|rw [← Ny141.out] at ho5|(simp only [Int.reduceToNat] at ho5;rw [← Ny141.out] at ho5));have n0_:=aM (Kd.R_lower ho5 (below_size (by repeat (first|(with_reducible first|exact HB.out|apply bA|apply bN|apply bD)|exact HB.out))));have n1_:=aM (below_step (by repeat (first|(with_reducible first|exact HB.out|apply bA|apply bN|apply bD)|exact HB.out)) hb);clear HB;have HO143:=n0_;have HB:=n1_;clear n0_ n1_;clear hb ho5))
 go_loopg [4] k (fun kq v4 w' => ∃ (x3_1 : List (S40)) (x4_1 : Int),v4 = .int .i64 x4_1 ∧ Aside0 (laws_toItemS.l0 kq l0 x3_1 x4_1 = some r) ∧ Aside0 (kq ≤ k) ∧ Aside0 (Kd.R k40 40 w' w.heap.size (fun _ => True) v142 x3_1) ∧ Aside0 (Below w.heap.size w w'))
 case atStart => exact ⟨(y141),(0),(by first|rfl|(simp;done)|(simp [*];done)),H',⟨Nat.le_refl _⟩,⟨by (with_reducible repeat (first|apply Kd.R_alloc|apply Kd.R_drewN|apply Kd.R_drew));exact HO143.out⟩,⟨by repeat (first|(with_reducible first|exact HB.out|apply bA|apply bN|apply bD)|exact HB.out)⟩⟩
 case round =>
  clear H'
  try clear c1
  try clear c2
  try clear c2b0
  try clear c2b1
  try clear p2
  try clear c3
  try clear c3b0
  try clear c3b1
  obtain ⟨x3_1,x4_1,rfl,HA,HK1,HO_3,HB⟩:=hrel
  cases gk with
  | zero => exact absurd HA.out (by simp [laws_toItemS.l0])
  | succ k1 =>
   have H:=HA.out
   clear HA
   simp only [laws_toItemS.l0] at H
   by_cases c6 : x4_1 < (l0.length : Int)
   ·rw [if_pos c6] at H
    have c6b0 : decide (x4_1 < (l0.length : Int)) = true:=decide_eq_true c6
    clear c6
    by_cases c7 : 0 ≤ x4_1
    case neg => rw [if_neg c7] at H;exact absurd H (by simp)
    rw [if_pos c7] at H
    have c7b0 : decide (0 ≤ x4_1) = true:=decide_eq_true c7
    clear c7
    replace H:=Option.bind_eq_some_iff.mp H
    obtain ⟨⟨t145,t146,t147,t148⟩,A80,H⟩:=H
    replace H : (if x4_1 < (x3_1.length : Int) then (laws_toItemS.l0 k1 l0 (x3_1.set (x4_1 : Int).toNat (⟨t145,(⟨t146,t147,t148⟩ : S38)⟩ : S40)) (wrap64 (x4_1 + 1))) else (none)) = some r:=H
    have A8:=aM A80
    clear A80
    by_cases c9 : x4_1 < (x3_1.length : Int)
    case neg => rw [if_neg c9] at H;exact absurd H (by simp)
    rw [if_pos c9] at H
    have c9b0 : decide (x4_1 < (x3_1.length : Int)) = true:=decide_eq_true c9
    clear c9
    obtain ⟨y149,hy149⟩ : ∃ y_ : List (S40),y_ = (x3_1.set (x4_1 : Int).toNat (⟨t145,(⟨t146,t147,t148⟩ : S38)⟩ : S40)):=⟨_,rfl⟩
    replace H : (laws_toItemS.l0 k1 l0 y149 (wrap64 (x4_1 + 1))) = some r:=by first|(rw [hy149];with_reducible exact H)|(have H2_:=(Option.bind_some _ _).symm.trans H;rw [hy149];with_reducible exact H2_)|(have H2_:=(Option.bind_some _ _).symm.trans H;with_reducible exact H2_)|with_reducible exact H|(rw [hy149];exact H)|exact H
    have Ny149:=aM hy149
    clear hy149
    have H':=aM H
    clear H
    have p144 : 0 ≤ (x4_1 : Int):=of_decide_eq_true (by first|(with_reducible assumption)|assumption)
    have q144 : x4_1 < (l0.length : Int):=of_decide_eq_true (by first|(with_reducible assumption)|assumption)
    obtain ⟨ad144,e144,hx144_0,hx144_1,hx144_2,hx144_3⟩:=at_T64 HR0.out x4_1 p144 q144
    cases e144
    replace hx144_0:=(HB.out.cell (bL w hx144_0)).trans hx144_0
    replace hx144_1:=(HB.out.cell (bL w hx144_1)).trans hx144_1
    replace hx144_2:=(HB.out.cell (bL w hx144_2)).trans hx144_2
    replace hx144_3:=(HB.out.cell (bL w hx144_3)).trans hx144_3
    replace p144:=eq_true p144
    replace q144:=eq_true q144
    go_wp2_with (first|((with_reducible refine gate_callee (f:=30) rfl ?_);refine goesL_ (some 20) rfl rfl Try.func30 (by kernel_rfl) rfl #[.agg #[.int .i64 ((rd_T64 l0 x4_1).f0),.int .i64 ((rd_T64 l0 x4_1).f1.f0),.int .i64 ((rd_T64 l0 x4_1).f1.f1),.int .i64 ((rd_T64 l0 x4_1).f1.f2)]] rfl (by (try simp only [List.map_toArray,List.map_cons,List.map_nil]);first|done|rfl|(simp only [List.length_drop,List.length_take];rfl)) ?_;(with_reducible refine (laws_toItem.calls ((rd_T64 l0 x4_1).f0) ((rd_T64 l0 x4_1).f1.f0) ((rd_T64 l0 x4_1).f1.f1) ((rd_T64 l0 x4_1).f1.f2) t145 t146 t147 t148 _ A8.out).mono ?_);rintro e w11 ⟨rfl,hb⟩;refine ⟨_,rfl,?_⟩;have n0_:=aM (Kd.R_below (by (with_reducible repeat (first|apply Kd.R_alloc|apply Kd.R_drewN|apply Kd.R_drew));exact HO_3.out) hb);have n1_:=aM (below_step (by repeat (first|(with_reducible first|exact HB.out|apply bA|apply bN|apply bD)|exact HB.out)) hb);clear HO_3;clear HB;have HO_3:=n0_;have HB:=n1_;clear n0_ n1_;(try clear hb);(try clear hb2);(try clear hk);(try clear hi);have p10 : 0 ≤ (x4_1 : Int):=of_decide_eq_true (by first|(with_reducible assumption)|assumption);have q10 : (x4_1 : Int) < ((x3_1.length : Int) : Int):=of_decide_eq_true (by first|(with_reducible assumption)|assumption);obtain ⟨go10,co10,eo10,gb10,gl10,cl10,HG10⟩:=Kd.R_form HO_3.out (by omega);(first|cases eo10|(injection eo10 with ea_ en_ ec_;(first|subst ea_|(injection ea_ with ea_;subst ea_));subst ec_;clear en_));have GB10:=aM gb10;have GG10:=aM HG10;clear gb10 gl10 HG10;obtain ⟨ce10,hcl10,hM10,hcc10,hfr10⟩:=Kd.R_elem HO_3.out z40 (x4_1 : Int) p10 q10;obtain rfl:=k40_openM hM10;have hx10_0 : w11.cell? ⟨go10,(x4_1 : Int).toNat * 4,none⟩ = some (.int .i64 ((rd_T40 x3_1 x4_1).f0)):=hcc10 0 _ rfl;have hx10_1 : w11.cell? ⟨go10,(x4_1 : Int).toNat * 4 + 1,none⟩ = some (.int .i64 ((rd_T40 x3_1 x4_1).f1.f0)):=hcc10 1 _ rfl;have hx10_2 : w11.cell? ⟨go10,(x4_1 : Int).toNat * 4 + 2,none⟩ = some (.int .i64 ((rd_T40 x3_1 x4_1).f1.f1)):=hcc10 2 _ rfl;have hx10_3 : w11.cell? ⟨go10,(x4_1 : Int).toNat * 4 + 3,none⟩ = some (.int .i64 ((rd_T40 x3_1 x4_1).f1.f2)):=hcc10 3 _ rfl;have hf10_0 : w11.frozen? ⟨go10,(x4_1 : Int).toNat * 4,none⟩ = false:=hfr10 0;have hf10_1 : w11.frozen? ⟨go10,(x4_1 : Int).toNat * 4 + 1,none⟩ = false:=hfr10 1;have hf10_2 : w11.frozen? ⟨go10,(x4_1 : Int).toNat * 4 + 2,none⟩ = false:=hfr10 2;have hf10_3 : w11.frozen? ⟨go10,(x4_1 : Int).toNat * 4 + 3,none⟩ = false:=hfr10 3;clear hcl10 hcc10 hfr10 hM10;replace p10:=eq_true p10;replace q10:=eq_true q10;have HX12:=aM (show Kd.R k40 40 w11 w.heap.size (fun _ => True) (.slice (some ⟨go10,0,none⟩) x3_1.length co10) x3_1 from (by (with_reducible repeat (first|apply Kd.R_alloc|apply Kd.R_drewN|apply Kd.R_drew));exact HO_3.out));obtain ⟨ce12,hcl12,hM12,hcc12,hfr12⟩:=Kd.R_elem HX12.out z40 (x4_1 : Int) (of_decide_eq_true (by first|(with_reducible assumption)|assumption)) (by have h_ : (x4_1 : Int) < ((x3_1.length : Int) : Int):=of_decide_eq_true (by first|(with_reducible assumption)|assumption);first|exact h_|(have e_:=(Kd.R_reads' HO_3.out).1;omega)|simpa using h_);obtain rfl:=k40_openM hM12;have HP12:=Kd.R_seg HX12.out (x4_1 : Int) (of_decide_eq_true (by first|(with_reducible assumption)|assumption)) (by have h_ : (x4_1 : Int) < ((x3_1.length : Int) : Int):=of_decide_eq_true (by first|(with_reducible assumption)|assumption);first|exact h_|(have e_:=(Kd.R_reads' HO_3.out).1;omega)|simpa using h_) (seg:=[.int .i64 t145,.int .i64 t146,.int .i64 t147,.int .i64 t148]) (j:=0) hcl12 hcc12 (show 4 ≤ 4 from by decide) (x':=(⟨t145,(⟨t146,t147,t148⟩ : S38)⟩ : S40)) (k40_mkM _ _ _ (⟨t145,(⟨t146,t147,t148⟩ : S38)⟩ : S40) ) (fun _ hk => hk);have hx12_0:=hcc12 0 _ rfl;(try simp only [show (k40).sz = 4 from rfl,Nat.mul_one,Nat.add_zero] at hx12_0);have hf12_0:=hfr12 0;(try simp only [show (k40).sz = 4 from rfl,Nat.mul_one,Nat.add_zero] at hf12_0);have hx12_1:=hcc12 1 _ rfl;(try simp only [show (k40).sz = 4 from rfl,Nat.mul_one,Nat.add_zero] at hx12_1);have hf12_1:=hfr12 1;(try simp only [show (k40).sz = 4 from rfl,Nat.mul_one,Nat.add_zero] at hf12_1);have hx12_2:=hcc12 2 _ rfl;(try simp only [show (k40).sz = 4 from rfl,Nat.mul_one,Nat.add_zero] at hx12_2);have hf12_2:=hfr12 2;(try simp only [show (k40).sz = 4 from rfl,Nat.mul_one,Nat.add_zero] at hf12_2);have hx12_3:=hcc12 3 _ rfl;(try simp only [show (k40).sz = 4 from rfl,Nat.mul_one,Nat.add_zero] at hx12_3);have hf12_3:=hfr12 3;(try simp only [show (k40).sz = 4 from rfl,Nat.mul_one,Nat.add_zero] at hf12_3);clear hcl12 hcc12 hfr12 hM12)|((with_reducible refine gate_store (t:=40) (p:=21) rfl ?_);refine store_event (t:=40) (p:=21) (v:=?vo_w13) (w1:=((((w11.setCell ⟨go10,(x4_1 : Int).toNat * 4,none⟩ (.int .i64 t145)).setCell ⟨go10,(x4_1 : Int).toNat * 4 + 1,none⟩ (.int .i64 t146)).setCell ⟨go10,(x4_1 : Int).toNat * 4 + 2,none⟩ (.int .i64 t147)).setCell ⟨go10,(x4_1 : Int).toNat * 4 + 3,none⟩ (.int .i64 t148))) ?hg ?ho ?hn ?hr ?_;(case ho => rfl);(case hg => rfl);(case hn => rfl);(case hr => first|(go_simp;done)|(go_simp;rfl));intro w13 hw;have hg : w11.grownBy w13 (some go10):=(by rw [hw];exact HP12.2);have hp_ : Kd.R k40 40 w13 w.heap.size (fun _ => True) (.slice (some ⟨go10,0,none⟩) x3_1.length co10) y149:=(by rw [hw,Ny149.out];exact HP12.1);clear HP12;have n0_:=aM (hp_);have n1_:=aM ((by rw [hw];exact below_set (below_set (below_set (below_set (HB.out) GB10.out) GB10.out) GB10.out) GB10.out : Below w.heap.size w w13));clear HO_3;clear HB;have HO_3:=n0_;have HB:=n1_;clear n0_ n1_;clear hg hw hp_))
    go_roundg k1
    case measure => have:=HK1.out;omega
    case rel => exact ⟨(y149),(wrap64 (x4_1 + 1)),(by first|rfl|(simp;done)|(simp [*];done)),H',⟨by have:=HK1.out;omega⟩,⟨by (with_reducible repeat (first|apply Kd.R_alloc|apply Kd.R_drewN|apply Kd.R_drew));exact HO_3.out⟩,⟨by repeat (first|(with_reducible first|exact HB.out|apply bA|apply bN|apply bD)|exact HB.out)⟩⟩
   ·rw [if_neg c6] at H
    have c6b0 : decide (x4_1 < (l0.length : Int)) = false:=decide_eq_false c6
    clear c6
    obtain rfl:=Option.some.inj H
    go_wp2
    go_ret
    exact ⟨_,by first|rfl|(simp only [i64_w,i32_w];done)|(simp only [i64_w,i32_w];rfl)|(simp [errW_none,errW_some] <;> rfl)|(simp [*,errW_none,errW_some] <;> rfl),by (with_reducible repeat (first|apply Kd.R_alloc|apply Kd.R_drewN|apply Kd.R_drew));exact HO_3.out,by repeat (first|(with_reducible first|exact HB.out|apply bA|apply bN|apply bD)|exact HB.out)⟩

end Go.Proofs.Ytlcfalecbpnhbaa.P
