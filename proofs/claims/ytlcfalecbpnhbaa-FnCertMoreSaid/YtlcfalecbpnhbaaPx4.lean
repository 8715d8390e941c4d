/- The printed functions: what each Go function computes, as a Lean function, and that the Go code comes to just that. Conditions: none beyond each contract's own. -/
import Derived.Test.YtlcfalecbpnhbaaPx0
import Derived.Test.YtlcfalecbpnhbaaPx2
import Derived.Test.YtlcfalecbpnhbaaPx3
namespace Go.Proofs.Ytlcfalecbpnhbaa.P
open Go.RowKit Go.Proofs.YtlcfalecbpnhbaaW.PrintWords Go.Proofs.YtlcfalecbpnhbaaW.PrintLast Go.Proofs.YtlcfalecbpnhbaaW.PrintMore
attribute [local go_sem] max2_int min2_int max_two min_two max_three min_three max_four min_four   -- for this text's walks alone
set_option linter.unusedVariables false
set_option linter.unusedSimpArgs false

/-! ### spec_l13By: function 15 -/
def spec_l13By.l0 : Nat → List Int → Int → Option (Bool)
 | 0,_,_ => none
 | k + 1,x0,x3 => if x3 < (x0.length : Int) then (if 0 ≤ x3 then ((spec_l6In.f (rd x0 x3) 1 4).bind fun t116 => (if t116 = true then (if x3 > 0 then (if 0 ≤ (wrap64 (x3 - 1)) then (if (wrap64 (x3 - 1)) < (x0.length : Int) then (if (rd x0 (wrap64 (x3 - 1))) ≥ (rd x0 x3) then (some false) else (spec_l13By.l0 k x0 (wrap64 (x3 + 1)))) else (none)) else (none)) else (spec_l13By.l0 k x0 (wrap64 (x3 + 1)))) else (some false))) else (none)) else (some (decide ((x0.length : Int) ≥ 3)))
def spec_l13By.f (k : Nat) (l0 : List Int) : Option (Bool):=spec_l13By.l0 k l0 0
theorem spec_l13By.mono_l : ∀ k,(∀ y0 y1,LeO (spec_l13By.l0 k y0 y1) (spec_l13By.l0 (k + 1) y0 y1))
 | 0 => fun _ _ r h => by simp [spec_l13By.l0] at h
 | k + 1 => by
  have ih0:=spec_l13By.mono_l k
  ·intro y0 y1
   unfold spec_l13By.l0
   repeat' first
   | exact LeO.refl _
   | exact ih0 _ _
   | exact LeO.none _
   | refine LeO.ite ?_ ?_
   | refine LeO.bind ?_ (fun _ => ?_)
theorem spec_l13By.mono : ∀ a0 k,LeO (spec_l13By.f k a0) (spec_l13By.f (k + 1) a0):=by
 intro a0 k
 have ih0:=spec_l13By.mono_l k
 unfold spec_l13By.f
 repeat' first
   | exact LeO.refl _
   | exact ih0 _ _
   | exact LeO.none _
   | refine LeO.ite ?_ ?_
   | refine LeO.bind ?_ (fun _ => ?_)
set_option maxHeartbeats 8000000 in
set_option maxRecDepth 100000 in
theorem spec_l13By.calls (k : Nat) (A0 : Option Addr) (c0 : Nat) (l0 : List Int) (r : Bool) (w : World) (hr0 : Kd.C (Kd.int .i64) w A0 l0.length l0) (hc0 : l0.length ≤ c0) (h : spec_l13By.f k l0 = some r) :
  Calls Try.prog 15 #[.slice A0 l0.length c0] w fun e w' => e = .returned (.bool r) ∧ Drawn0 w w':=by
 have HR0:=aM hr0
 have HC0:=aM hc0
 clear hr0 hc0
 have H : (spec_l13By.l0 k l0 0) = some r:=h
 clear h
 have H':=aM H
 clear H
 go_enter Try.func15,Try.ntmps15
 go_wp2
 repeat (go_quiet (fail);try go_wp2)
 go_loopg [3] k (fun kq v3 w' => ∃ (x3_1 : Int),v3 = .int .i64 x3_1 ∧ Aside0 (spec_l13By.l0 kq l0 x3_1 = some r) ∧ Aside0 (kq ≤ k) ∧ Drawn0 w w')
 case atStart => exact ⟨(0),Q11,H',⟨Nat.le_refl _⟩,Q27⟩
 case round =>
  clear H'
  try clear c1
  obtain ⟨x3_1,rfl,HA,HK1,⟨m1,rfl⟩⟩:=hrel
  cases gk with
  | zero => exact absurd HA.out (by simp [spec_l13By.l0])
  | succ k1 =>
   have H:=HA.out
   clear HA
   simp only [spec_l13By.l0] at H
   by_cases c2 : x3_1 < (l0.length : Int)
   ·rw [if_pos c2] at H
    have c2b0 : decide (x3_1 < (l0.length : Int)) = true:=decide_eq_true c2
    clear c2
    by_cases c3 : 0 ≤ x3_1
    case neg => rw [if_neg c3] at H;exact absurd H Q51
    rw [if_pos c3] at H
    have c3b0 : decide (0 ≤ x3_1) = true:=decide_eq_true c3
    clear c3
    replace H:=Option.bind_eq_some_iff.mp H
    obtain ⟨t116,A40,H⟩:=H
    replace H : (if t116 = true then (if x3_1 > 0 then (if 0 ≤ (wrap64 (x3_1 - 1)) then (if (wrap64 (x3_1 - 1)) < (l0.length : Int) then (if (rd l0 (wrap64 (x3_1 - 1))) ≥ (rd l0 x3_1) then (some false) else (spec_l13By.l0 k1 l0 (wrap64 (x3_1 + 1)))) else (none)) else (none)) else (spec_l13By.l0 k1 l0 (wrap64 (x3_1 + 1)))) else (some false)) = some r:=H
    have A4:=aM A40
    clear A40
    by_cases c5 : t116 = true
    ·subst c5
     have H1 : (if x3_1 > 0 then (if 0 ≤ (wrap64 (x3_1 - 1)) then (if (wrap64 (x3_1 - 1)) < (l0.length : Int) then (if (rd l0 (wrap64 (x3_1 - 1))) ≥ (rd l0 x3_1) then (some false) else (spec_l13By.l0 k1 l0 (wrap64 (x3_1 + 1)))) else (none)) else (none)) else (spec_l13By.l0 k1 l0 (wrap64 (x3_1 + 1)))) = some r:=by rw [if_pos rfl] at H;exact H
     clear H
     have H:=H1
     clear H1
     by_cases c6 : x3_1 > 0
     ·rw [if_pos c6] at H
      have c6b0 : decide (0 < x3_1) = true:=decide_eq_true c6
      clear c6
      obtain ⟨ji7,hji7⟩ : ∃ j_ : Int,(wrap64 (x3_1 - 1)) = j_:=⟨_,rfl⟩
      replace H : (if 0 ≤ (ji7) then (if (ji7) < (l0.length : Int) then (if (rd l0 (ji7)) ≥ (rd l0 x3_1) then (some false) else (spec_l13By.l0 k1 l0 (wrap64 (x3_1 + 1)))) else (none)) else (none)) = some r:=by first|(rw [hji7] at H;exact H)|(simp only [hji7] at H ⊢;exact H)
      (try rw [hji7] at A4)
      have hji7w : (IntKind.i64.wrap (x3_1 - 1)) = ji7:=(i64_w _).trans hji7
      by_cases c8 : 0 ≤ (ji7)
      case neg => rw [if_neg c8] at H;exact absurd H Q51
      rw [if_pos c8] at H
      have c8b0 : decide (0 ≤ (ji7)) = true:=decide_eq_true c8
      clear c8
      by_cases c9 : (ji7) < (l0.length : Int)
      case neg => rw [if_neg c9] at H;exact absurd H Q51
      rw [if_pos c9] at H
      have c9b0 : decide ((ji7) < (l0.length : Int)) = true:=decide_eq_true c9
      clear c9
      by_cases c10 : (rd l0 (ji7)) ≥ (rd l0 x3_1)
      ·rw [if_pos c10] at H
       have c10b0 : decide ((rd l0 x3_1) ≤ (rd l0 (ji7))) = true:=decide_eq_true c10
       clear c10
       obtain rfl:=Option.some.inj H
       have p115 : 0 ≤ (x3_1 : Int):=of_decide_eq_true Q5
       have q115 : x3_1 < (l0.length : Int):=of_decide_eq_true Q5
       obtain ⟨ad115,e115,hx115_0⟩:=Kd.at_int HR0.out x3_1 p115 q115
       cases e115
       replace p115:=eq_true p115
       replace q115:=eq_true q115
       go_wp2_with (first|(go_at_call 28;(with_reducible refine (spec_l6In.calls (rd l0 x3_1) 1 4 true _ A4.out).mono ?_);rintro e w' ⟨rfl,⟨nd,rfl⟩⟩;(try first|exact ⟨rfl,_,World.drewN_drewN _ _ _⟩|exact ⟨rfl,_,Eq.trans (World.drewN_drewN _ _ _) (congrArg (World.drewN _) (Nat.add_assoc _ _ _))⟩);have p117 : 0 ≤ ((ji7) : Int):=of_decide_eq_true Q5;have q117 : (ji7) < (l0.length : Int):=of_decide_eq_true Q5;obtain ⟨ad117,e117,hx117_0⟩:=Kd.at_int HR0.out (ji7) p117 q117;obtain rfl : ad115 = ad117:=(by injection e117);replace p117:=eq_true p117;replace q117:=eq_true q117;have p118 : 0 ≤ (x3_1 : Int):=of_decide_eq_true Q5;have q118 : x3_1 < (l0.length : Int):=of_decide_eq_true Q5;obtain ⟨ad118,e118,hx118_0⟩:=Kd.at_int HR0.out x3_1 p118 q118;obtain rfl : ad115 = ad118:=(by injection e118);replace p118:=eq_true p118;replace q118:=eq_true q118))
       repeat (go_quiet (first|(go_at_call 28;(with_reducible refine (spec_l6In.calls (rd l0 x3_1) 1 4 true _ A4.out).mono ?_);rintro e w' ⟨rfl,⟨nd,rfl⟩⟩;(try first|exact ⟨rfl,_,World.drewN_drewN _ _ _⟩|exact ⟨rfl,_,Eq.trans (World.drewN_drewN _ _ _) (congrArg (World.drewN _) (Nat.add_assoc _ _ _))⟩);have p117 : 0 ≤ ((ji7) : Int):=of_decide_eq_true Q5;have q117 : (ji7) < (l0.length : Int):=of_decide_eq_true Q5;obtain ⟨ad117,e117,hx117_0⟩:=Kd.at_int HR0.out (ji7) p117 q117;obtain rfl : ad115 = ad117:=(by injection e117);replace p117:=eq_true p117;replace q117:=eq_true q117;have p118 : 0 ≤ (x3_1 : Int):=of_decide_eq_true Q5;have q118 : x3_1 < (l0.length : Int):=of_decide_eq_true Q5;obtain ⟨ad118,e118,hx118_0⟩:=Kd.at_int HR0.out x3_1 p118 q118;obtain rfl : ad115 = ad118:=(by injection e118);replace p118:=eq_true p118;replace q118:=eq_true q118));try go_wp2_with (first|(go_at_call 28;(with_reducible refine (spec_l6In.calls (rd l0 x3_1) 1 4 true _ A4.out).mono ?_);rintro e w' ⟨rfl,⟨nd,rfl⟩⟩;(try first|exact ⟨rfl,_,World.drewN_drewN _ _ _⟩|exact ⟨rfl,_,Eq.trans (World.drewN_drewN _ _ _) (congrArg (World.drewN _) (Nat.add_assoc _ _ _))⟩);have p117 : 0 ≤ ((ji7) : Int):=of_decide_eq_true Q5;have q117 : (ji7) < (l0.length : Int):=of_decide_eq_true Q5;obtain ⟨ad117,e117,hx117_0⟩:=Kd.at_int HR0.out (ji7) p117 q117;obtain rfl : ad115 = ad117:=(by injection e117);replace p117:=eq_true p117;replace q117:=eq_true q117;have p118 : 0 ≤ (x3_1 : Int):=of_decide_eq_true Q5;have q118 : x3_1 < (l0.length : Int):=of_decide_eq_true Q5;obtain ⟨ad118,e118,hx118_0⟩:=Kd.at_int HR0.out x3_1 p118 q118;obtain rfl : ad115 = ad118:=(by injection e118);replace p118:=eq_true p118;replace q118:=eq_true q118)))
       go_ret
       exact ⟨by first|rfl|(simp;done)|(simp only [← hji7] <;> (first|rfl|simp))|(simp [*];done),Q27⟩
      ·rw [if_neg c10] at H
       have c10b0 : decide ((rd l0 x3_1) ≤ (rd l0 (ji7))) = false:=decide_eq_false c10
       clear c10
       have H':=aM H
       clear H
       have p115 : 0 ≤ (x3_1 : Int):=of_decide_eq_true Q5
       have q115 : x3_1 < (l0.length : Int):=of_decide_eq_true Q5
       obtain ⟨ad115,e115,hx115_0⟩:=Kd.at_int HR0.out x3_1 p115 q115
       cases e115
       replace p115:=eq_true p115
       replace q115:=eq_true q115
       go_wp2_with (first|(go_at_call 28;(with_reducible refine (spec_l6In.calls (rd l0 x3_1) 1 4 true _ A4.out).mono ?_);rintro e w' ⟨rfl,⟨nd,rfl⟩⟩;(try first|exact ⟨rfl,_,World.drewN_drewN _ _ _⟩|exact ⟨rfl,_,Eq.trans (World.drewN_drewN _ _ _) (congrArg (World.drewN _) (Nat.add_assoc _ _ _))⟩);have p117 : 0 ≤ ((ji7) : Int):=of_decide_eq_true Q5;have q117 : (ji7) < (l0.length : Int):=of_decide_eq_true Q5;obtain ⟨ad117,e117,hx117_0⟩:=Kd.at_int HR0.out (ji7) p117 q117;obtain rfl : ad115 = ad117:=(by injection e117);replace p117:=eq_true p117;replace q117:=eq_true q117;have p118 : 0 ≤ (x3_1 : Int):=of_decide_eq_true Q5;have q118 : x3_1 < (l0.length : Int):=of_decide_eq_true Q5;obtain ⟨ad118,e118,hx118_0⟩:=Kd.at_int HR0.out x3_1 p118 q118;obtain rfl : ad115 = ad118:=(by injection e118);replace p118:=eq_true p118;replace q118:=eq_true q118))
       repeat (go_quiet (first|(go_at_call 28;(with_reducible refine (spec_l6In.calls (rd l0 x3_1) 1 4 true _ A4.out).mono ?_);rintro e w' ⟨rfl,⟨nd,rfl⟩⟩;(try first|exact ⟨rfl,_,World.drewN_drewN _ _ _⟩|exact ⟨rfl,_,Eq.trans (World.drewN_drewN _ _ _) (congrArg (World.drewN _) (Nat.add_assoc _ _ _))⟩);have p117 : 0 ≤ ((ji7) : Int):=of_decide_eq_true Q5;have q117 : (ji7) < (l0.length : Int):=of_decide_eq_true Q5;obtain ⟨ad117,e117,hx117_0⟩:=Kd.at_int HR0.out (ji7) p117 q117;obtain rfl : ad115 = ad117:=(by injection e117);replace p117:=eq_true p117;replace q117:=eq_true q117;have p118 : 0 ≤ (x3_1 : Int):=of_decide_eq_true Q5;have q118 : x3_1 < (l0.length : Int):=of_decide_eq_true Q5;obtain ⟨ad118,e118,hx118_0⟩:=Kd.at_int HR0.out x3_1 p118 q118;obtain rfl : ad115 = ad118:=(by injection e118);replace p118:=eq_true p118;replace q118:=eq_true q118));try go_wp2_with (first|(go_at_call 28;(with_reducible refine (spec_l6In.calls (rd l0 x3_1) 1 4 true _ A4.out).mono ?_);rintro e w' ⟨rfl,⟨nd,rfl⟩⟩;(try first|exact ⟨rfl,_,World.drewN_drewN _ _ _⟩|exact ⟨rfl,_,Eq.trans (World.drewN_drewN _ _ _) (congrArg (World.drewN _) (Nat.add_assoc _ _ _))⟩);have p117 : 0 ≤ ((ji7) : Int):=of_decide_eq_true Q5;have q117 : (ji7) < (l0.length : Int):=of_decide_eq_true Q5;obtain ⟨ad117,e117,hx117_0⟩:=Kd.at_int HR0.out (ji7) p117 q117;obtain rfl : ad115 = ad117:=(by injection e117);replace p117:=eq_true p117;replace q117:=eq_true q117;have p118 : 0 ≤ (x3_1 : Int):=of_decide_eq_true Q5;have q118 : x3_1 < (l0.length : Int):=of_decide_eq_true Q5;obtain ⟨ad118,e118,hx118_0⟩:=Kd.at_int HR0.out x3_1 p118 q118;obtain rfl : ad115 = ad118:=(by injection e118);replace p118:=eq_true p118;replace q118:=eq_true q118)))
       go_roundg k1
       case measure => have:=HK1.out;omega
       case rel => exact ⟨(wrap64 (x3_1 + 1)),Q11,H',⟨Q60⟩,Q27⟩
     ·rw [if_neg c6] at H
      have c6b0 : decide (0 < x3_1) = false:=decide_eq_false c6
      clear c6
      have H':=aM H
      clear H
      have p115 : 0 ≤ (x3_1 : Int):=of_decide_eq_true Q5
      have q115 : x3_1 < (l0.length : Int):=of_decide_eq_true Q5
      obtain ⟨ad115,e115,hx115_0⟩:=Kd.at_int HR0.out x3_1 p115 q115
      cases e115
      replace p115:=eq_true p115
      replace q115:=eq_true q115
      go_wp2_with (first|(go_at_call 28;(with_reducible refine (spec_l6In.calls (rd l0 x3_1) 1 4 true _ A4.out).mono ?_);rintro e w' ⟨rfl,⟨nd,rfl⟩⟩;(try first|exact ⟨rfl,_,World.drewN_drewN _ _ _⟩|exact ⟨rfl,_,Eq.trans (World.drewN_drewN _ _ _) (congrArg (World.drewN _) (Nat.add_assoc _ _ _))⟩)))
      repeat (go_quiet (first|(go_at_call 28;(with_reducible refine (spec_l6In.calls (rd l0 x3_1) 1 4 true _ A4.out).mono ?_);rintro e w' ⟨rfl,⟨nd,rfl⟩⟩;(try first|exact ⟨rfl,_,World.drewN_drewN _ _ _⟩|exact ⟨rfl,_,Eq.trans (World.drewN_drewN _ _ _) (congrArg (World.drewN _) (Nat.add_assoc _ _ _))⟩)));try go_wp2_with (first|(go_at_call 28;(with_reducible refine (spec_l6In.calls (rd l0 x3_1) 1 4 true _ A4.out).mono ?_);rintro e w' ⟨rfl,⟨nd,rfl⟩⟩;(try first|exact ⟨rfl,_,World.drewN_drewN _ _ _⟩|exact ⟨rfl,_,Eq.trans (World.drewN_drewN _ _ _) (congrArg (World.drewN _) (Nat.add_assoc _ _ _))⟩))))
      go_roundg k1
      case measure => have:=HK1.out;omega
      case rel => exact ⟨(wrap64 (x3_1 + 1)),Q11,H',⟨Q60⟩,Q27⟩
    ·replace c5:=Bool.eq_false_iff.mpr c5
     subst c5
     have H1 : (some false) = some r:=by rw [if_neg (show ¬ (false = true) by decide)] at H;exact H
     clear H
     have H:=H1
     clear H1
     obtain rfl:=Option.some.inj H
     have p115 : 0 ≤ (x3_1 : Int):=of_decide_eq_true Q5
     have q115 : x3_1 < (l0.length : Int):=of_decide_eq_true Q5
     obtain ⟨ad115,e115,hx115_0⟩:=Kd.at_int HR0.out x3_1 p115 q115
     cases e115
     replace p115:=eq_true p115
     replace q115:=eq_true q115
     go_wp2_with (first|(go_at_call 28;(with_reducible refine (spec_l6In.calls (rd l0 x3_1) 1 4 false _ A4.out).mono ?_);rintro e w' ⟨rfl,⟨nd,rfl⟩⟩;(try first|exact ⟨rfl,_,World.drewN_drewN _ _ _⟩|exact ⟨rfl,_,Eq.trans (World.drewN_drewN _ _ _) (congrArg (World.drewN _) (Nat.add_assoc _ _ _))⟩)))
     repeat (go_quiet (first|(go_at_call 28;(with_reducible refine (spec_l6In.calls (rd l0 x3_1) 1 4 false _ A4.out).mono ?_);rintro e w' ⟨rfl,⟨nd,rfl⟩⟩;(try first|exact ⟨rfl,_,World.drewN_drewN _ _ _⟩|exact ⟨rfl,_,Eq.trans (World.drewN_drewN _ _ _) (congrArg (World.drewN _) (Nat.add_assoc _ _ _))⟩)));try go_wp2_with (first|(go_at_call 28;(with_reducible refine (spec_l6In.calls (rd l0 x3_1) 1 4 false _ A4.out).mono ?_);rintro e w' ⟨rfl,⟨nd,rfl⟩⟩;(try first|exact ⟨rfl,_,World.drewN_drewN _ _ _⟩|exact ⟨rfl,_,Eq.trans (World.drewN_drewN _ _ _) (congrArg (World.drewN _) (Nat.add_assoc _ _ _))⟩))))
     go_ret
     exact ⟨Q11,Q27⟩
   ·rw [if_neg c2] at H
    have c2b0 : decide (x3_1 < (l0.length : Int)) = false:=decide_eq_false c2
    clear c2
    obtain rfl:=Option.some.inj H
    go_wp2
    repeat (go_quiet (fail);try go_wp2)
    go_ret
    exact ⟨Q11,Q27⟩

/-! ### spec_CertOk: function 7 -/
mutual
def spec_CertOk.j0 : Nat → Int → Bool → List (S40) → List (List Int) → Option (Bool)
 | 0,_,_,_,_ => none
 | k + 1,x3,x21,x120000,x120001 => if x21 = true then (some false) else (spec_CertOk.l0 k x3 0 x120000 x120001)
def spec_CertOk.l0 : Nat → Int → Int → List (S40) → List (List Int) → Option (Bool)
 | 0,_,_,_,_ => none
 | k + 1,x3,x4,x120000,x120001 => if x4 < 3 then (if 0 ≤ x4 then (if x4 < (x120001.length : Int) then ((spec_l13By.f k (rd_L3 x120001 x4)).bind fun t122 => (if t122 = true then (spec_CertOk.l0 k x3 (wrap64 (x4 + 1)) x120000 x120001) else (some false))) else (none)) else (none)) else (if 0 ≤ (wrap64 (x3 - 3)) then (if (wrap64 (x3 - 3)) < (x120000.length : Int) then (if 0 ≤ (wrap64 (x3 - 2)) then (if (wrap64 (x3 - 2)) < (x120000.length : Int) then (if (wrap64 (((rd_T40 x120000 (wrap64 (x3 - 3))).f0) + 1)) = ((rd_T40 x120000 (wrap64 (x3 - 2))).f0) then (if 0 ≤ (wrap64 (x3 - 1)) then (if (wrap64 (x3 - 1)) < (x120000.length : Int) then (some ((wrap64 (((rd_T40 x120000 (wrap64 (x3 - 2))).f0) + 1)) == ((rd_T40 x120000 (wrap64 (x3 - 1))).f0))) else (none)) else (none)) else (some false)) else (none)) else (none)) else (none)) else (none))
end
def spec_CertOk.f (k : Nat) (l0_0 : List (S40)) (l0_1 : List (List Int)) : Option (Bool):=(spec_ChainOk.f k l0_0).bind fun t120 => (if t120 = true then (if (l0_0.length : Int) < 3 then (spec_CertOk.j0 k (l0_0.length : Int) true l0_0 l0_1) else (spec_CertOk.j0 k (l0_0.length : Int) ((l0_1.length : Int) != 3) l0_0 l0_1)) else (spec_CertOk.j0 k (l0_0.length : Int) true l0_0 l0_1))
theorem spec_CertOk.mono_l : ∀ k,(∀ y0 y1 y2 y3,LeO (spec_CertOk.j0 k y0 y1 y2 y3) (spec_CertOk.j0 (k + 1) y0 y1 y2 y3)) ∧ (∀ y0 y1 y2 y3,LeO (spec_CertOk.l0 k y0 y1 y2 y3) (spec_CertOk.l0 (k + 1) y0 y1 y2 y3))
 | 0 => ⟨fun _ _ _ _ r h => by simp [spec_CertOk.j0] at h,fun _ _ _ _ r h => by simp [spec_CertOk.l0] at h⟩
 | k + 1 => by
  obtain ⟨ih0,ih1⟩:=spec_CertOk.mono_l k
  refine ⟨?_,?_⟩
  ·intro y0 y1 y2 y3
   unfold spec_CertOk.j0
   repeat' first
   | exact LeO.refl _
   | exact ih0 _ _ _ _
   | exact ih1 _ _ _ _
   | exact spec_ChainOk.mono _ _
   | exact spec_l13By.mono _ _
   | exact LeO.none _
   | refine LeO.ite ?_ ?_
   | refine LeO.bind ?_ (fun _ => ?_)
  ·intro y0 y1 y2 y3
   unfold spec_CertOk.l0
   repeat' first
   | exact LeO.refl _
   | exact ih0 _ _ _ _
   | exact ih1 _ _ _ _
   | exact spec_ChainOk.mono _ _
   | exact spec_l13By.mono _ _
   | exact LeO.none _
   | refine LeO.ite ?_ ?_
   | refine LeO.bind ?_ (fun _ => ?_)
theorem spec_CertOk.mono : ∀ a0 a1 k,LeO (spec_CertOk.f k a0 a1) (spec_CertOk.f (k + 1) a0 a1):=by
 intro a0 a1 k
 obtain ⟨ih0,ih1⟩:=spec_CertOk.mono_l k
 unfold spec_CertOk.f
 repeat' first
   | exact LeO.refl _
   | exact ih0 _ _ _ _
   | exact ih1 _ _ _ _
   | exact spec_ChainOk.mono _ _
   | exact spec_l13By.mono _ _
   | exact LeO.none _
   | refine LeO.ite ?_ ?_
   | refine LeO.bind ?_ (fun _ => ?_)
set_option maxHeartbeats 8000000 in
set_option maxRecDepth 100000 in
theorem spec_CertOk.calls (k : Nat) (A0_0 : Option Addr) (c0_0 : Nat) (l0_0 : List (S40)) (A0_1 : Option Addr) (c0_1 : Nat) (l0_1 : List (List Int)) (r : Bool) (w : World) (hr0_0 : Kd.C k40 w A0_0 l0_0.length l0_0) (hc0_0 : l0_0.length ≤ c0_0) (hr0_1 : Kd.C (Kd.slice 3 (Kd.int .i64)) w A0_1 l0_1.length l0_1) (hc0_1 : l0_1.length ≤ c0_1) (h : spec_CertOk.f k l0_0 l0_1 = some r) :
  Calls Try.prog 7 #[.agg #[.slice A0_0 l0_0.length c0_0,.slice A0_1 l0_1.length c0_1]] w fun e w' => e = .returned (.bool r) ∧ Below w.heap.size w w':=by
 have hu30:=Try.underlying30
 have HR0_0:=aM hr0_0
 have HC0_0:=aM hc0_0
 clear hr0_0 hc0_0
 have HR0_1:=aM hr0_1
 have HC0_1:=aM hc0_1
 clear hr0_1 hc0_1
 have HB:=aM (Below.refl w.heap.size w)
 have H : ((spec_ChainOk.f k l0_0).bind fun t120 => (if t120 = true then (if (l0_0.length : Int) < 3 then (spec_CertOk.j0 k (l0_0.length : Int) true l0_0 l0_1) else (spec_CertOk.j0 k (l0_0.length : Int) ((l0_1.length : Int) != 3) l0_0 l0_1)) else (spec_CertOk.j0 k (l0_0.length : Int) true l0_0 l0_1))) = some r:=h
 clear h
 have HC2:=aM H
 clear H
 go_enter Try.func7,Try.ntmps7
 go_upto_region 2 with (first|((with_reducible refine gate_dst (N:=1) rfl ?_);(try (refine gate_guard Q70 ?_;dsimp only));refine box_event ?hg (N:=1) ?hd (cs:=#[.slice A0_0 l0_0.length c0_0,.slice A0_1 l0_1.length c0_1]) (t:=30) ?hr ?_;(case hd => rfl);(case hg => rfl);(case hr => exact Q16);intro gb119 hg w3 hbox hb;have n0_:=aM (below_step Q3 hb);have n1_:=aM (hbox);have n2_:=aM ((Q37 : w.heap.size ≤ gb119));have n3_:=aM ((Q37 : w.heap.size ≤ gb119));clear HB;have HB:=n0_;have BK119:=n1_;have GW119:=n2_;have GE119:=n3_;clear n0_ n1_ n2_ n3_;clear hb hbox hg;have hcz4_0 : w3.cell? ⟨gb119,0,none⟩ = some (.slice A0_0 l0_0.length c0_0):=(blk_cell BK119.out 0).trans rfl;have hcz4_1 : w3.cell? ⟨gb119,1,none⟩ = some (.slice A0_1 l0_1.length c0_1):=(blk_cell BK119.out 1).trans rfl;have hfz4_0:=blk_frozen BK119.out 0;have hfz4_1:=blk_frozen BK119.out 1))
 repeat (go_quiet (first|((with_reducible refine gate_dst (N:=1) rfl ?_);(try (refine gate_guard Q70 ?_;dsimp only));refine box_event ?hg (N:=1) ?hd (cs:=#[.slice A0_0 l0_0.length c0_0,.slice A0_1 l0_1.length c0_1]) (t:=30) ?hr ?_;(case hd => rfl);(case hg => rfl);(case hr => exact Q16);intro gb119 hg w3 hbox hb;have n0_:=aM (below_step Q3 hb);have n1_:=aM (hbox);have n2_:=aM ((Q37 : w.heap.size ≤ gb119));have n3_:=aM ((Q37 : w.heap.size ≤ gb119));clear HB;have HB:=n0_;have BK119:=n1_;have GW119:=n2_;have GE119:=n3_;clear n0_ n1_ n2_ n3_;clear hb hbox hg;have hcz4_0 : w3.cell? ⟨gb119,0,none⟩ = some (.slice A0_0 l0_0.length c0_0):=(blk_cell BK119.out 0).trans rfl;have hcz4_1 : w3.cell? ⟨gb119,1,none⟩ = some (.slice A0_1 l0_1.length c0_1):=(blk_cell BK119.out 1).trans rfl;have hfz4_0:=blk_frozen BK119.out 0;have hfz4_1:=blk_frozen BK119.out 1));go_upto_region 2 with (first|((with_reducible refine gate_dst (N:=1) rfl ?_);(try (refine gate_guard Q70 ?_;dsimp only));refine box_event ?hg (N:=1) ?hd (cs:=#[.slice A0_0 l0_0.length c0_0,.slice A0_1 l0_1.length c0_1]) (t:=30) ?hr ?_;(case hd => rfl);(case hg => rfl);(case hr => exact Q16);intro gb119 hg w3 hbox hb;have n0_:=aM (below_step Q3 hb);have n1_:=aM (hbox);have n2_:=aM ((Q37 : w.heap.size ≤ gb119));have n3_:=aM ((Q37 : w.heap.size ≤ gb119));clear HB;have HB:=n0_;have BK119:=n1_;have GW119:=n2_;have GE119:=n3_;clear n0_ n1_ n2_ n3_;clear hb hbox hg;have hcz4_0 : w3.cell? ⟨gb119,0,none⟩ = some (.slice A0_0 l0_0.length c0_0):=(blk_cell BK119.out 0).trans rfl;have hcz4_1 : w3.cell? ⟨gb119,1,none⟩ = some (.slice A0_1 l0_1.length c0_1):=(blk_cell BK119.out 1).trans rfl;have hfz4_0:=blk_frozen BK119.out 0;have hfz4_1:=blk_frozen BK119.out 1)))
 (try simp only [Act.put,sI,sZ,sS])
 go_cut [21] (fun v21 wc => ∃ (kq : Nat) (x21_1 : Bool),v21 = .bool x21_1 ∧ Aside0 (spec_CertOk.j0 kq (l0_0.length : Int) x21_1 l0_0 l0_1 = some r) ∧ Aside0 (kq ≤ k) ∧ Aside0 (wc.heap[gb119]? = some (.cells #[(.slice A0_0 l0_0.length c0_0),(.slice A0_1 l0_1.length c0_1)] 30 (0,0))) ∧ Aside0 (Below w.heap.size w wc))
 case first =>
  have H:=HC2.out
  clear HC2
  replace H:=Option.bind_eq_some_iff.mp H
  obtain ⟨t120,A50,H⟩:=H
  replace H : (if t120 = true then (if (l0_0.length : Int) < 3 then (spec_CertOk.j0 k (l0_0.length : Int) true l0_0 l0_1) else (spec_CertOk.j0 k (l0_0.length : Int) ((l0_1.length : Int) != 3) l0_0 l0_1)) else (spec_CertOk.j0 k (l0_0.length : Int) true l0_0 l0_1)) = some r:=H
  have A5:=aM A50
  clear A50
  by_cases c6 : t120 = true
  ·subst c6
   have H1 : (if (l0_0.length : Int) < 3 then (spec_CertOk.j0 k (l0_0.length : Int) true l0_0 l0_1) else (spec_CertOk.j0 k (l0_0.length : Int) ((l0_1.length : Int) != 3) l0_0 l0_1)) = some r:=by rw [if_pos rfl] at H;exact H
   clear H
   have H:=H1
   clear H1
   by_cases c7 : (l0_0.length : Int) < 3
   ·rw [if_pos c7] at H
    have c7b0 : decide ((l0_0.length : Int) < 3) = true:=decide_eq_true c7
    have c7b1 : decide (l0_0.length < 3) = true:=decide_eq_true Q17
    clear c7
    (first|rw [c7b0]|rw [c7b1]|(simp only [i64_w,i32_w];rw [c7b0])|skip)
    have H':=aM H
    clear H
    have hcz8_0 : w3.cell? ⟨gb119,0,none⟩ = some (.slice A0_0 l0_0.length c0_0):=(blk_cell BK119.out 0).trans rfl
    have hcz8_1 : w3.cell? ⟨gb119,1,none⟩ = some (.slice A0_1 l0_1.length c0_1):=(blk_cell BK119.out 1).trans rfl
    have hfz8_0:=blk_frozen BK119.out 0
    have hfz8_1:=blk_frozen BK119.out 1
    go_wp2_with (first|(go_at_call 14;(with_reducible refine (spec_ChainOk.calls k _ _ l0_0 true _ ?side1 ?side2 A5.out).mono ?_);(case side1 => exact Q20);(case side2 => exact HC0_0.out);rintro e w9 ⟨rfl,hb⟩;have n0_:=aM (blk_below (g:=gb119) (o:=.cells #[.slice A0_0 l0_0.length c0_0,.slice A0_1 l0_1.length c0_1] 30 (0,0)) (qk BK119) hb);have n1_:=aM (below_step Q29 hb);clear BK119;clear HB;have BK119:=n0_;have HB:=n1_;clear n0_ n1_;(try clear hb);(try clear hb2);(try clear hk);(try clear hi)))
    repeat (go_quiet (first|(go_at_call 14;(with_reducible refine (spec_ChainOk.calls k _ _ l0_0 true _ ?side1 ?side2 A5.out).mono ?_);(case side1 => exact Q20);(case side2 => exact HC0_0.out);rintro e w9 ⟨rfl,hb⟩;have n0_:=aM (blk_below (g:=gb119) (o:=.cells #[.slice A0_0 l0_0.length c0_0,.slice A0_1 l0_1.length c0_1] 30 (0,0)) (qk BK119) hb);have n1_:=aM (below_step Q29 hb);clear BK119;clear HB;have BK119:=n0_;have HB:=n1_;clear n0_ n1_;(try clear hb);(try clear hb2);(try clear hk);(try clear hi)));try go_wp2_with (first|(go_at_call 14;(with_reducible refine (spec_ChainOk.calls k _ _ l0_0 true _ ?side1 ?side2 A5.out).mono ?_);(case side1 => exact Q20);(case side2 => exact HC0_0.out);rintro e w9 ⟨rfl,hb⟩;have n0_:=aM (blk_below (g:=gb119) (o:=.cells #[.slice A0_0 l0_0.length c0_0,.slice A0_1 l0_1.length c0_1] 30 (0,0)) (qk BK119) hb);have n1_:=aM (below_step Q29 hb);clear BK119;clear HB;have BK119:=n0_;have HB:=n1_;clear n0_ n1_;(try clear hb);(try clear hb2);(try clear hk);(try clear hi))))
    go_meet
    case rel => exact ⟨_,(true),Q11,H',⟨Q115⟩,⟨qk BK119⟩,⟨Q29⟩⟩
   ·rw [if_neg c7] at H
    have c7b0 : decide ((l0_0.length : Int) < 3) = false:=decide_eq_false c7
    have c7b1 : decide (l0_0.length < 3) = false:=decide_eq_false Q17
    clear c7
    (first|rw [c7b0]|rw [c7b1]|(simp only [i64_w,i32_w];rw [c7b0])|skip)
    have H':=aM H
    clear H
    have hcz10_0 : w3.cell? ⟨gb119,0,none⟩ = some (.slice A0_0 l0_0.length c0_0):=(blk_cell BK119.out 0).trans rfl
    have hcz10_1 : w3.cell? ⟨gb119,1,none⟩ = some (.slice A0_1 l0_1.length c0_1):=(blk_cell BK119.out 1).trans rfl
    have hfz10_0:=blk_frozen BK119.out 0
    have hfz10_1:=blk_frozen BK119.out 1
    go_wp2_with (first|(go_at_call 14;(with_reducible refine (spec_ChainOk.calls k _ _ l0_0 true _ ?side1 ?side2 A5.out).mono ?_);(case side1 => exact Q20);(case side2 => exact HC0_0.out);rintro e w11 ⟨rfl,hb⟩;have n0_:=aM (blk_below (g:=gb119) (o:=.cells #[.slice A0_0 l0_0.length c0_0,.slice A0_1 l0_1.length c0_1] 30 (0,0)) (qk BK119) hb);have n1_:=aM (below_step Q29 hb);clear BK119;clear HB;have BK119:=n0_;have HB:=n1_;clear n0_ n1_;(try clear hb);(try clear hb2);(try clear hk);(try clear hi);have hcz12_0 : w11.cell? ⟨gb119,0,none⟩ = some (.slice A0_0 l0_0.length c0_0):=(blk_cell BK119.out 0).trans rfl;have hcz12_1 : w11.cell? ⟨gb119,1,none⟩ = some (.slice A0_1 l0_1.length c0_1):=(blk_cell BK119.out 1).trans rfl;have hfz12_0:=blk_frozen BK119.out 0;have hfz12_1:=blk_frozen BK119.out 1))
    repeat (go_quiet (first|(go_at_call 14;(with_reducible refine (spec_ChainOk.calls k _ _ l0_0 true _ ?side1 ?side2 A5.out).mono ?_);(case side1 => exact Q20);(case side2 => exact HC0_0.out);rintro e w11 ⟨rfl,hb⟩;have n0_:=aM (blk_below (g:=gb119) (o:=.cells #[.slice A0_0 l0_0.length c0_0,.slice A0_1 l0_1.length c0_1] 30 (0,0)) (qk BK119) hb);have n1_:=aM (below_step Q29 hb);clear BK119;clear HB;have BK119:=n0_;have HB:=n1_;clear n0_ n1_;(try clear hb);(try clear hb2);(try clear hk);(try clear hi);have hcz12_0 : w11.cell? ⟨gb119,0,none⟩ = some (.slice A0_0 l0_0.length c0_0):=(blk_cell BK119.out 0).trans rfl;have hcz12_1 : w11.cell? ⟨gb119,1,none⟩ = some (.slice A0_1 l0_1.length c0_1):=(blk_cell BK119.out 1).trans rfl;have hfz12_0:=blk_frozen BK119.out 0;have hfz12_1:=blk_frozen BK119.out 1));try go_wp2_with (first|(go_at_call 14;(with_reducible refine (spec_ChainOk.calls k _ _ l0_0 true _ ?side1 ?side2 A5.out).mono ?_);(case side1 => exact Q20);(case side2 => exact HC0_0.out);rintro e w11 ⟨rfl,hb⟩;have n0_:=aM (blk_below (g:=gb119) (o:=.cells #[.slice A0_0 l0_0.length c0_0,.slice A0_1 l0_1.length c0_1] 30 (0,0)) (qk BK119) hb);have n1_:=aM (below_step Q29 hb);clear BK119;clear HB;have BK119:=n0_;have HB:=n1_;clear n0_ n1_;(try clear hb);(try clear hb2);(try clear hk);(try clear hi);have hcz12_0 : w11.cell? ⟨gb119,0,none⟩ = some (.slice A0_0 l0_0.length c0_0):=(blk_cell BK119.out 0).trans rfl;have hcz12_1 : w11.cell? ⟨gb119,1,none⟩ = some (.slice A0_1 l0_1.length c0_1):=(blk_cell BK119.out 1).trans rfl;have hfz12_0:=blk_frozen BK119.out 0;have hfz12_1:=blk_frozen BK119.out 1)))
    go_meet
    case rel => exact ⟨_,(((l0_1.length : Int) != 3)),Q11,H',⟨Q115⟩,⟨qk BK119⟩,⟨Q29⟩⟩
  ·replace c6:=Bool.eq_false_iff.mpr c6
   subst c6
   have H1 : (spec_CertOk.j0 k (l0_0.length : Int) true l0_0 l0_1) = some r:=by rw [if_neg (show ¬ (false = true) by decide)] at H;exact H
   clear H
   have H:=H1
   clear H1
   have H':=aM H
   clear H
   have hcz13_0 : w3.cell? ⟨gb119,0,none⟩ = some (.slice A0_0 l0_0.length c0_0):=(blk_cell BK119.out 0).trans rfl
   have hcz13_1 : w3.cell? ⟨gb119,1,none⟩ = some (.slice A0_1 l0_1.length c0_1):=(blk_cell BK119.out 1).trans rfl
   have hfz13_0:=blk_frozen BK119.out 0
   have hfz13_1:=blk_frozen BK119.out 1
   go_wp2_with (first|(go_at_call 14;(with_reducible refine (spec_ChainOk.calls k _ _ l0_0 false _ ?side1 ?side2 A5.out).mono ?_);(case side1 => exact Q20);(case side2 => exact HC0_0.out);rintro e w14 ⟨rfl,hb⟩;have n0_:=aM (blk_below (g:=gb119) (o:=.cells #[.slice A0_0 l0_0.length c0_0,.slice A0_1 l0_1.length c0_1] 30 (0,0)) (qk BK119) hb);have n1_:=aM (below_step Q29 hb);clear BK119;clear HB;have BK119:=n0_;have HB:=n1_;clear n0_ n1_;(try clear hb);(try clear hb2);(try clear hk);(try clear hi)))
   repeat (go_quiet (first|(go_at_call 14;(with_reducible refine (spec_ChainOk.calls k _ _ l0_0 false _ ?side1 ?side2 A5.out).mono ?_);(case side1 => exact Q20);(case side2 => exact HC0_0.out);rintro e w14 ⟨rfl,hb⟩;have n0_:=aM (blk_below (g:=gb119) (o:=.cells #[.slice A0_0 l0_0.length c0_0,.slice A0_1 l0_1.length c0_1] 30 (0,0)) (qk BK119) hb);have n1_:=aM (below_step Q29 hb);clear BK119;clear HB;have BK119:=n0_;have HB:=n1_;clear n0_ n1_;(try clear hb);(try clear hb2);(try clear hk);(try clear hi)));try go_wp2_with (first|(go_at_call 14;(with_reducible refine (spec_ChainOk.calls k _ _ l0_0 false _ ?side1 ?side2 A5.out).mono ?_);(case side1 => exact Q20);(case side2 => exact HC0_0.out);rintro e w14 ⟨rfl,hb⟩;have n0_:=aM (blk_below (g:=gb119) (o:=.cells #[.slice A0_0 l0_0.length c0_0,.slice A0_1 l0_1.length c0_1] 30 (0,0)) (qk BK119) hb);have n1_:=aM (below_step Q29 hb);clear BK119;clear HB;have BK119:=n0_;have HB:=n1_;clear n0_ n1_;(try clear hb);(try clear hb2);(try clear hk);(try clear hi))))
   go_meet
   case rel => exact ⟨_,(true),Q11,H',⟨Q115⟩,⟨qk BK119⟩,⟨Q29⟩⟩
 case rest =>
  clear HC2
  try clear p2
  try clear c6
  try clear c7
  try clear c7b0
  try clear c7b1
  try clear hcz10_0
  try clear hcz10_1
  try clear hcz12_0
  try clear hcz12_1
  try clear hcz13_0
  try clear hcz13_1
  try clear hcz4_0
  try clear hcz4_1
  try clear hcz8_0
  try clear hcz8_1
  try clear hfz10_0
  try clear hfz10_1
  try clear hfz12_0
  try clear hfz12_1
  try clear hfz13_0
  try clear hfz13_1
  try clear hfz4_0
  try clear hfz4_1
  try clear hfz8_0
  try clear hfz8_1
  obtain ⟨kq,x21_1,rfl,HA,HJ1,BK119,HB⟩:=hcut
  cases kq with
  | zero => exact absurd HA.out (by simp [spec_CertOk.j0])
  | succ kj1 =>
   have H:=HA.out
   clear HA
   simp only [spec_CertOk.j0] at H
   by_cases c15 : x21_1 = true
   ·subst c15
    have H1 : (some false) = some r:=by rw [if_pos rfl] at H;exact H
    clear H
    have H:=H1
    clear H1
    obtain rfl:=Option.some.inj H
    go_wp2
    repeat (go_quiet (fail);try go_wp2)
    go_ret
    exact ⟨Q6,Q29⟩
   ·replace c15:=Bool.eq_false_iff.mpr c15
    subst c15
    have H1 : (spec_CertOk.l0 kj1 (l0_0.length : Int) 0 l0_0 l0_1) = some r:=by rw [if_neg (show ¬ (false = true) by decide)] at H;exact H
    clear H
    have H:=H1
    clear H1
    have H':=aM H
    clear H
    go_wp2
    repeat (go_quiet (fail);try go_wp2)
    go_loopg [4] kj1 (fun kq v4 w' => ∃ (x4_2 : Int),v4 = .int .i64 x4_2 ∧ Aside0 (spec_CertOk.l0 kq (l0_0.length : Int) x4_2 l0_0 l0_1 = some r) ∧ Aside0 (kq ≤ kj1) ∧ Aside0 (w'.heap[gb119]? = some (.cells #[(.slice A0_0 l0_0.length c0_0),(.slice A0_1 l0_1.length c0_1)] 30 (0,0))) ∧ Aside0 (Below w.heap.size w w'))
    case atStart => exact ⟨(0),Q11,H',⟨Nat.le_refl _⟩,⟨qk BK119⟩,⟨Q29⟩⟩
    case round =>
     clear H'
     try clear c1
     try clear p2
     try clear c6
     try clear c7
     try clear c7b0
     try clear c7b1
     try clear c15
     try clear hcz10_0
     try clear hcz10_1
     try clear hcz12_0
     try clear hcz12_1
     try clear hcz13_0
     try clear hcz13_1
     try clear hcz4_0
     try clear hcz4_1
     try clear hcz8_0
     try clear hcz8_1
     try clear hfz10_0
     try clear hfz10_1
     try clear hfz12_0
     try clear hfz12_1
     try clear hfz13_0
     try clear hfz13_1
     try clear hfz4_0
     try clear hfz4_1
     try clear hfz8_0
     try clear hfz8_1
     try clear p2
     obtain ⟨x4_2,rfl,HA,HK2,BK119,HB⟩:=hrel
     cases gk with
     | zero => exact absurd HA.out (by simp [spec_CertOk.l0])
     | succ k2 =>
      have H:=HA.out
      clear HA
      simp only [spec_CertOk.l0] at H
      by_cases c16 : x4_2 < 3
      ·rw [if_pos c16] at H
       have c16b0 : decide (x4_2 < 3) = true:=decide_eq_true c16
       clear c16
       by_cases c17 : 0 ≤ x4_2
       case neg => rw [if_neg c17] at H;exact absurd H Q51
       rw [if_pos c17] at H
       have c17b0 : decide (0 ≤ x4_2) = true:=decide_eq_true c17
       clear c17
       by_cases c18 : x4_2 < (l0_1.length : Int)
       case neg => rw [if_neg c18] at H;exact absurd H Q51
       rw [if_pos c18] at H
       have c18b0 : decide (x4_2 < (l0_1.length : Int)) = true:=decide_eq_true c18
       clear c18
       replace H:=Option.bind_eq_some_iff.mp H
       obtain ⟨t122,A190,H⟩:=H
       replace H : (if t122 = true then (spec_CertOk.l0 k2 (l0_0.length : Int) (wrap64 (x4_2 + 1)) l0_0 l0_1) else (some false)) = some r:=H
       have A19:=aM A190
       clear A190
       by_cases c20 : t122 = true
       ·subst c20
        have H1 : (spec_CertOk.l0 k2 (l0_0.length : Int) (wrap64 (x4_2 + 1)) l0_0 l0_1) = some r:=by rw [if_pos rfl] at H;exact H
        clear H
        have H:=H1
        clear H1
        have H':=aM H
        clear H
        have hcz21_0 : wr.cell? ⟨gb119,0,none⟩ = some (.slice A0_0 l0_0.length c0_0):=(blk_cell BK119.out 0).trans rfl
        have hcz21_1 : wr.cell? ⟨gb119,1,none⟩ = some (.slice A0_1 l0_1.length c0_1):=(blk_cell BK119.out 1).trans rfl
        have hfz21_0:=blk_frozen BK119.out 0
        have hfz21_1:=blk_frozen BK119.out 1
        have p121 : 0 ≤ (x4_2 : Int):=of_decide_eq_true Q5
        have q121 : x4_2 < (l0_1.length : Int):=of_decide_eq_true Q5
        obtain ⟨ad121,A121_0,c121_0,e121,hx121_0,hl121_0,hi121_0⟩:=at_L3 HR0_1.out x4_2 p121 q121
        cases e121
        replace hx121_0:=(HB.out.cell (bL w hx121_0)).trans hx121_0
        have HR121_0:=aM hi121_0
        have HC121_0:=aM hl121_0
        clear hi121_0 hl121_0
        replace p121:=eq_true p121
        replace q121:=eq_true q121
        go_wp2_with (first|(go_at_call 15;(with_reducible refine (spec_l13By.calls k2 _ _ (rd_L3 l0_1 x4_2) true _ ?side1 ?side2 A19.out).mono ?_);(case side1 => exact Q45);(case side2 => exact HC121_0.out);rintro e w' ⟨rfl,⟨nd,rfl⟩⟩;(try first|exact ⟨rfl,_,World.drewN_drewN _ _ _⟩|exact ⟨rfl,_,Eq.trans (World.drewN_drewN _ _ _) (congrArg (World.drewN _) (Nat.add_assoc _ _ _))⟩)))
        repeat (go_quiet (first|(go_at_call 15;(with_reducible refine (spec_l13By.calls k2 _ _ (rd_L3 l0_1 x4_2) true _ ?side1 ?side2 A19.out).mono ?_);(case side1 => exact Q45);(case side2 => exact HC121_0.out);rintro e w' ⟨rfl,⟨nd,rfl⟩⟩;(try first|exact ⟨rfl,_,World.drewN_drewN _ _ _⟩|exact ⟨rfl,_,Eq.trans (World.drewN_drewN _ _ _) (congrArg (World.drewN _) (Nat.add_assoc _ _ _))⟩)));try go_wp2_with (first|(go_at_call 15;(with_reducible refine (spec_l13By.calls k2 _ _ (rd_L3 l0_1 x4_2) true _ ?side1 ?side2 A19.out).mono ?_);(case side1 => exact Q45);(case side2 => exact HC121_0.out);rintro e w' ⟨rfl,⟨nd,rfl⟩⟩;(try first|exact ⟨rfl,_,World.drewN_drewN _ _ _⟩|exact ⟨rfl,_,Eq.trans (World.drewN_drewN _ _ _) (congrArg (World.drewN _) (Nat.add_assoc _ _ _))⟩))))
        go_roundg k2
        case measure => have:=HJ1.out;have:=HK2.out;omega
        case rel => exact ⟨(wrap64 (x4_2 + 1)),Q11,H',⟨by have:=HJ1.out;have:=HK2.out;omega⟩,⟨qk BK119⟩,⟨Q29⟩⟩
       ·replace c20:=Bool.eq_false_iff.mpr c20
        subst c20
        have H1 : (some false) = some r:=by rw [if_neg (show ¬ (false = true) by decide)] at H;exact H
        clear H
        have H:=H1
        clear H1
        obtain rfl:=Option.some.inj H
        have hcz22_0 : wr.cell? ⟨gb119,0,none⟩ = some (.slice A0_0 l0_0.length c0_0):=(blk_cell BK119.out 0).trans rfl
        have hcz22_1 : wr.cell? ⟨gb119,1,none⟩ = some (.slice A0_1 l0_1.length c0_1):=(blk_cell BK119.out 1).trans rfl
        have hfz22_0:=blk_frozen BK119.out 0
        have hfz22_1:=blk_frozen BK119.out 1
        have p121 : 0 ≤ (x4_2 : Int):=of_decide_eq_true Q5
        have q121 : x4_2 < (l0_1.length : Int):=of_decide_eq_true Q5
        obtain ⟨ad121,A121_0,c121_0,e121,hx121_0,hl121_0,hi121_0⟩:=at_L3 HR0_1.out x4_2 p121 q121
        cases e121
        replace hx121_0:=(HB.out.cell (bL w hx121_0)).trans hx121_0
        have HR121_0:=aM hi121_0
        have HC121_0:=aM hl121_0
        clear hi121_0 hl121_0
        replace p121:=eq_true p121
        replace q121:=eq_true q121
        go_wp2_with (first|(go_at_call 15;(with_reducible refine (spec_l13By.calls k2 _ _ (rd_L3 l0_1 x4_2) false _ ?side1 ?side2 A19.out).mono ?_);(case side1 => exact Q45);(case side2 => exact HC121_0.out);rintro e w' ⟨rfl,⟨nd,rfl⟩⟩;(try first|exact ⟨rfl,_,World.drewN_drewN _ _ _⟩|exact ⟨rfl,_,Eq.trans (World.drewN_drewN _ _ _) (congrArg (World.drewN _) (Nat.add_assoc _ _ _))⟩)))
        repeat (go_quiet (first|(go_at_call 15;(with_reducible refine (spec_l13By.calls k2 _ _ (rd_L3 l0_1 x4_2) false _ ?side1 ?side2 A19.out).mono ?_);(case side1 => exact Q45);(case side2 => exact HC121_0.out);rintro e w' ⟨rfl,⟨nd,rfl⟩⟩;(try first|exact ⟨rfl,_,World.drewN_drewN _ _ _⟩|exact ⟨rfl,_,Eq.trans (World.drewN_drewN _ _ _) (congrArg (World.drewN _) (Nat.add_assoc _ _ _))⟩)));try go_wp2_with (first|(go_at_call 15;(with_reducible refine (spec_l13By.calls k2 _ _ (rd_L3 l0_1 x4_2) false _ ?side1 ?side2 A19.out).mono ?_);(case side1 => exact Q45);(case side2 => exact HC121_0.out);rintro e w' ⟨rfl,⟨nd,rfl⟩⟩;(try first|exact ⟨rfl,_,World.drewN_drewN _ _ _⟩|exact ⟨rfl,_,Eq.trans (World.drewN_drewN _ _ _) (congrArg (World.drewN _) (Nat.add_assoc _ _ _))⟩))))
        go_ret
        exact ⟨Q6,Q29⟩
      ·rw [if_neg c16] at H
       have c16b0 : decide (x4_2 < 3) = false:=decide_eq_false c16
       clear c16
       obtain ⟨ji23,hji23⟩ : ∃ j_ : Int,(wrap64 ((l0_0.length : Int) - 3)) = j_:=⟨_,rfl⟩
       replace H : (if 0 ≤ (ji23) then (if (ji23) < (l0_0.length : Int) then (if 0 ≤ (wrap64 ((l0_0.length : Int) - 2)) then (if (wrap64 ((l0_0.length : Int) - 2)) < (l0_0.length : Int) then (if (wrap64 (((rd_T40 l0_0 (ji23)).f0) + 1)) = ((rd_T40 l0_0 (wrap64 ((l0_0.length : Int) - 2))).f0) then (if 0 ≤ (wrap64 ((l0_0.length : Int) - 1)) then (if (wrap64 ((l0_0.length : Int) - 1)) < (l0_0.length : Int) then (some ((wrap64 (((rd_T40 l0_0 (wrap64 ((l0_0.length : Int) - 2))).f0) + 1)) == ((rd_T40 l0_0 (wrap64 ((l0_0.length : Int) - 1))).f0))) else (none)) else (none)) else (some false)) else (none)) else (none)) else (none)) else (none)) = some r:=by first|(rw [hji23] at H;exact H)|(simp only [hji23] at H ⊢;exact H)
       have hji23w : (IntKind.i64.wrap ((l0_0.length : Int) - 3)) = ji23:=(i64_w _).trans hji23
       by_cases c24 : 0 ≤ (ji23)
       case neg => rw [if_neg c24] at H;exact absurd H Q51
       rw [if_pos c24] at H
       have c24b0 : decide (0 ≤ (ji23)) = true:=decide_eq_true c24
       clear c24
       by_cases c25 : (ji23) < (l0_0.length : Int)
       case neg => rw [if_neg c25] at H;exact absurd H Q51
       rw [if_pos c25] at H
       have c25b0 : decide ((ji23) < (l0_0.length : Int)) = true:=decide_eq_true c25
       clear c25
       obtain ⟨ji26,hji26⟩ : ∃ j_ : Int,(wrap64 ((l0_0.length : Int) - 2)) = j_:=⟨_,rfl⟩
       replace H : (if 0 ≤ (ji26) then (if (ji26) < (l0_0.length : Int) then (if (wrap64 (((rd_T40 l0_0 (ji23)).f0) + 1)) = ((rd_T40 l0_0 (ji26)).f0) then (if 0 ≤ (wrap64 ((l0_0.length : Int) - 1)) then (if (wrap64 ((l0_0.length : Int) - 1)) < (l0_0.length : Int) then (some ((wrap64 (((rd_T40 l0_0 (ji26)).f0) + 1)) == ((rd_T40 l0_0 (wrap64 ((l0_0.length : Int) - 1))).f0))) else (none)) else (none)) else (some false)) else (none)) else (none)) = some r:=by first|(rw [hji26] at H;exact H)|(simp only [hji26] at H ⊢;exact H)
       have hji26w : (IntKind.i64.wrap ((l0_0.length : Int) - 2)) = ji26:=(i64_w _).trans hji26
       by_cases c27 : 0 ≤ (ji26)
       case neg => rw [if_neg c27] at H;exact absurd H Q51
       rw [if_pos c27] at H
       have c27b0 : decide (0 ≤ (ji26)) = true:=decide_eq_true c27
       clear c27
       by_cases c28 : (ji26) < (l0_0.length : Int)
       case neg => rw [if_neg c28] at H;exact absurd H Q51
       rw [if_pos c28] at H
       have c28b0 : decide ((ji26) < (l0_0.length : Int)) = true:=decide_eq_true c28
       clear c28
       by_cases c29 : (wrap64 (((rd_T40 l0_0 (ji23)).f0) + 1)) = ((rd_T40 l0_0 (ji26)).f0)
       ·rw [if_pos c29] at H
        have c29b0 : ((wrap64 (((rd_T40 l0_0 (ji23)).f0) + 1)) == ((rd_T40 l0_0 (ji26)).f0)) = true:=beq_iff_eq.mpr c29
        have c29b1 : ((wrap64 (((rd_T40 l0_0 (ji23)).f0) + 1)) != ((rd_T40 l0_0 (ji26)).f0)) = false:=bne_eq_false_iff_eq.mpr c29
        clear c29
        obtain ⟨ji30,hji30⟩ : ∃ j_ : Int,(wrap64 ((l0_0.length : Int) - 1)) = j_:=⟨_,rfl⟩
        replace H : (if 0 ≤ (ji30) then (if (ji30) < (l0_0.length : Int) then (some ((wrap64 (((rd_T40 l0_0 (ji26)).f0) + 1)) == ((rd_T40 l0_0 (ji30)).f0))) else (none)) else (none)) = some r:=by first|(rw [hji30] at H;exact H)|(simp only [hji30] at H ⊢;exact H)
        have hji30w : (IntKind.i64.wrap ((l0_0.length : Int) - 1)) = ji30:=(i64_w _).trans hji30
        by_cases c31 : 0 ≤ (ji30)
        case neg => rw [if_neg c31] at H;exact absurd H Q51
        rw [if_pos c31] at H
        have c31b0 : decide (0 ≤ (ji30)) = true:=decide_eq_true c31
        clear c31
        by_cases c32 : (ji30) < (l0_0.length : Int)
        case neg => rw [if_neg c32] at H;exact absurd H Q51
        rw [if_pos c32] at H
        have c32b0 : decide ((ji30) < (l0_0.length : Int)) = true:=decide_eq_true c32
        clear c32
        obtain rfl:=Option.some.inj H
        have hcz33_0 : wr.cell? ⟨gb119,0,none⟩ = some (.slice A0_0 l0_0.length c0_0):=(blk_cell BK119.out 0).trans rfl
        have hcz33_1 : wr.cell? ⟨gb119,1,none⟩ = some (.slice A0_1 l0_1.length c0_1):=(blk_cell BK119.out 1).trans rfl
        have hfz33_0:=blk_frozen BK119.out 0
        have hfz33_1:=blk_frozen BK119.out 1
        have p123 : 0 ≤ ((ji23) : Int):=of_decide_eq_true Q5
        have q123 : (ji23) < (l0_0.length : Int):=of_decide_eq_true Q5
        obtain ⟨ad123,e123,hx123_0,hx123_1,hx123_2,hx123_3⟩:=at_T40 HR0_0.out (ji23) p123 q123
        cases e123
        replace hx123_0:=(HB.out.cell (bL w hx123_0)).trans hx123_0
        replace hx123_1:=(HB.out.cell (bL w hx123_1)).trans hx123_1
        replace hx123_2:=(HB.out.cell (bL w hx123_2)).trans hx123_2
        replace hx123_3:=(HB.out.cell (bL w hx123_3)).trans hx123_3
        replace p123:=eq_true p123
        replace q123:=eq_true q123
        have p124 : 0 ≤ ((ji26) : Int):=of_decide_eq_true Q5
        have q124 : (ji26) < (l0_0.length : Int):=of_decide_eq_true Q5
        obtain ⟨ad124,e124,hx124_0,hx124_1,hx124_2,hx124_3⟩:=at_T40 HR0_0.out (ji26) p124 q124
        obtain rfl : ad123 = ad124:=(by injection e124)
        replace hx124_0:=(HB.out.cell (bL w hx124_0)).trans hx124_0
        replace hx124_1:=(HB.out.cell (bL w hx124_1)).trans hx124_1
        replace hx124_2:=(HB.out.cell (bL w hx124_2)).trans hx124_2
        replace hx124_3:=(HB.out.cell (bL w hx124_3)).trans hx124_3
        replace p124:=eq_true p124
        replace q124:=eq_true q124
        have p125 : 0 ≤ ((ji26) : Int):=of_decide_eq_true Q5
        have q125 : (ji26) < (l0_0.length : Int):=of_decide_eq_true Q5
        obtain ⟨ad125,e125,hx125_0,hx125_1,hx125_2,hx125_3⟩:=at_T40 HR0_0.out (ji26) p125 q125
        obtain rfl : ad123 = ad125:=(by injection e125)
        replace hx125_0:=(HB.out.cell (bL w hx125_0)).trans hx125_0
        replace hx125_1:=(HB.out.cell (bL w hx125_1)).trans hx125_1
        replace hx125_2:=(HB.out.cell (bL w hx125_2)).trans hx125_2
        replace hx125_3:=(HB.out.cell (bL w hx125_3)).trans hx125_3
        replace p125:=eq_true p125
        replace q125:=eq_true q125
        have p126 : 0 ≤ ((ji30) : Int):=of_decide_eq_true Q5
        have q126 : (ji30) < (l0_0.length : Int):=of_decide_eq_true Q5
        obtain ⟨ad126,e126,hx126_0,hx126_1,hx126_2,hx126_3⟩:=at_T40 HR0_0.out (ji30) p126 q126
        obtain rfl : ad123 = ad126:=(by injection e126)
        replace hx126_0:=(HB.out.cell (bL w hx126_0)).trans hx126_0
        replace hx126_1:=(HB.out.cell (bL w hx126_1)).trans hx126_1
        replace hx126_2:=(HB.out.cell (bL w hx126_2)).trans hx126_2
        replace hx126_3:=(HB.out.cell (bL w hx126_3)).trans hx126_3
        replace p126:=eq_true p126
        replace q126:=eq_true q126
        go_wp2
        repeat (go_quiet (fail);try go_wp2)
        go_ret
        exact ⟨by first|rfl|(simp only [i64_w,i32_w];done)|(simp only [i64_w,i32_w];rfl)|(simp [errW_none,errW_some] <;> rfl)|(simp only [← hji23,← hji26,← hji30];first|rfl|(simp [errW_none,errW_some] <;> rfl))|(simp [*,errW_none,errW_some] <;> rfl),Q29⟩
       ·rw [if_neg c29] at H
        have c29b0 : ((wrap64 (((rd_T40 l0_0 (ji23)).f0) + 1)) == ((rd_T40 l0_0 (ji26)).f0)) = false:=beq_eq_false_iff_ne.mpr c29
        have c29b1 : ((wrap64 (((rd_T40 l0_0 (ji23)).f0) + 1)) != ((rd_T40 l0_0 (ji26)).f0)) = true:=bne_iff_ne.mpr c29
        obtain rfl:=Option.some.inj H
        have hcz34_0 : wr.cell? ⟨gb119,0,none⟩ = some (.slice A0_0 l0_0.length c0_0):=(blk_cell BK119.out 0).trans rfl
        have hcz34_1 : wr.cell? ⟨gb119,1,none⟩ = some (.slice A0_1 l0_1.length c0_1):=(blk_cell BK119.out 1).trans rfl
        have hfz34_0:=blk_frozen BK119.out 0
        have hfz34_1:=blk_frozen BK119.out 1
        have p123 : 0 ≤ ((ji23) : Int):=of_decide_eq_true Q5
        have q123 : (ji23) < (l0_0.length : Int):=of_decide_eq_true Q5
        obtain ⟨ad123,e123,hx123_0,hx123_1,hx123_2,hx123_3⟩:=at_T40 HR0_0.out (ji23) p123 q123
        cases e123
        replace hx123_0:=(HB.out.cell (bL w hx123_0)).trans hx123_0
        replace hx123_1:=(HB.out.cell (bL w hx123_1)).trans hx123_1
        replace hx123_2:=(HB.out.cell (bL w hx123_2)).trans hx123_2
        replace hx123_3:=(HB.out.cell (bL w hx123_3)).trans hx123_3
        replace p123:=eq_true p123
        replace q123:=eq_true q123
        have p124 : 0 ≤ ((ji26) : Int):=of_decide_eq_true Q5
        have q124 : (ji26) < (l0_0.length : Int):=of_decide_eq_true Q5
        obtain ⟨ad124,e124,hx124_0,hx124_1,hx124_2,hx124_3⟩:=at_T40 HR0_0.out (ji26) p124 q124
        obtain rfl : ad123 = ad124:=(by injection e124)
        replace hx124_0:=(HB.out.cell (bL w hx124_0)).trans hx124_0
        replace hx124_1:=(HB.out.cell (bL w hx124_1)).trans hx124_1
        replace hx124_2:=(HB.out.cell (bL w hx124_2)).trans hx124_2
        replace hx124_3:=(HB.out.cell (bL w hx124_3)).trans hx124_3
        replace p124:=eq_true p124
        replace q124:=eq_true q124
        go_wp2
        repeat (go_quiet (fail);try go_wp2)
        go_ret
        exact ⟨by first|rfl|(simp only [i64_w,i32_w];done)|(simp only [i64_w,i32_w];rfl)|(simp [errW_none,errW_some] <;> rfl)|(simp only [← hji23,← hji26];first|rfl|(simp [errW_none,errW_some] <;> rfl))|(simp [*,errW_none,errW_some] <;> rfl),Q29⟩

/-! ### impl_epochOk: function 32 -/
def impl_epochOk.f (a0 : Int) : Option (Bool):=(impl_within.f a0 1 30).bind fun t127 => (some t127)
set_option maxHeartbeats 8000000 in
set_option maxRecDepth 100000 in
theorem impl_epochOk.calls (a0 : Int) (r : Bool) (w : World) (h : impl_epochOk.f a0 = some r) :
  Calls Try.prog 32 #[.int .i64 a0] w fun e w' => e = .returned (.bool r) ∧ Drawn0 w w':=by
 have H : ((impl_within.f a0 1 30).bind fun t127 => (some t127)) = some r:=h
 clear h
 replace H:=Option.bind_eq_some_iff.mp H
 obtain ⟨t127,A20,H⟩:=H
 replace H : (some t127) = some r:=H
 have A2:=aM A20
 clear A20
 obtain rfl:=Option.some.inj H
 go_enter Try.func32,Try.ntmps32
 go_wp2_with (first|((with_reducible refine gate_callee (f:=43) rfl ?_);refine goesL_ (some 4) rfl rfl Try.func43 Q14 rfl #[.int .i64 a0,.int .i64 1,.int .i64 30] rfl Q1 ?_;(with_reducible refine (impl_within.calls a0 1 30 t127 _ A2.out).mono ?_);rintro e w' ⟨rfl,⟨nd,rfl⟩⟩;refine ⟨_,rfl,?_⟩))
 go_ret
 exact ⟨Q11,Q27⟩

/-! ### impl_PayOk: function 33 -/
def impl_PayOk.f (a0_0 : Int) (a0_1 : Int) (a0_2 : Int) : Option (Bool):=(impl_within.f a0_0 1 3).bind fun t129 => (if t129 = true then ((impl_within.f a0_1 1 3).bind fun t130 => (if t130 = true then (if a0_0 = a0_1 then (some false) else ((impl_within.f a0_2 1 9).bind fun t131 => (some t131))) else (some false))) else (some false))
set_option maxHeartbeats 8000000 in
set_option maxRecDepth 100000 in
theorem impl_PayOk.calls (a0_0 : Int) (a0_1 : Int) (a0_2 : Int) (r : Bool) (w : World) (h : impl_PayOk.f a0_0 a0_1 a0_2 = some r) :
  Calls Try.prog 33 #[.agg #[.int .i64 a0_0,.int .i64 a0_1,.int .i64 a0_2]] w fun e w' => e = .returned (.bool r) ∧ Below w.heap.size w w':=by
 have hu38:=Try.underlying38
 have HB:=aM (Below.refl w.heap.size w)
 have H : ((impl_within.f a0_0 1 3).bind fun t129 => (if t129 = true then ((impl_within.f a0_1 1 3).bind fun t130 => (if t130 = true then (if a0_0 = a0_1 then (some false) else ((impl_within.f a0_2 1 9).bind fun t131 => (some t131))) else (some false))) else (some false))) = some r:=h
 clear h
 replace H:=Option.bind_eq_some_iff.mp H
 obtain ⟨t129,A20,H⟩:=H
 replace H : (if t129 = true then ((impl_within.f a0_1 1 3).bind fun t130 => (if t130 = true then (if a0_0 = a0_1 then (some false) else ((impl_within.f a0_2 1 9).bind fun t131 => (some t131))) else (some false))) else (some false)) = some r:=H
 have A2:=aM A20
 clear A20
 by_cases c3 : t129 = true
 ·subst c3
  have H1 : ((impl_within.f a0_1 1 3).bind fun t130 => (if t130 = true then (if a0_0 = a0_1 then (some false) else ((impl_within.f a0_2 1 9).bind fun t131 => (some t131))) else (some false))) = some r:=by rw [if_pos rfl] at H;exact H
  clear H
  have H:=H1
  clear H1
  replace H:=Option.bind_eq_some_iff.mp H
  obtain ⟨t130,A40,H⟩:=H
  replace H : (if t130 = true then (if a0_0 = a0_1 then (some false) else ((impl_within.f a0_2 1 9).bind fun t131 => (some t131))) else (some false)) = some r:=H
  have A4:=aM A40
  clear A40
  by_cases c5 : t130 = true
  ·subst c5
   have H1 : (if a0_0 = a0_1 then (some false) else ((impl_within.f a0_2 1 9).bind fun t131 => (some t131))) = some r:=by rw [if_pos rfl] at H;exact H
   clear H
   have H:=H1
   clear H1
   by_cases c6 : a0_0 = a0_1
   ·rw [if_pos c6] at H
    have c6b0 : (a0_0 == a0_1) = true:=beq_iff_eq.mpr c6
    have c6b1 : (a0_0 != a0_1) = false:=bne_eq_false_iff_eq.mpr c6
    clear c6
    obtain rfl:=Option.some.inj H
    go_enter Try.func33,Try.ntmps33
    go_wp2_with (first|((with_reducible refine gate_dst (N:=1) rfl ?_);refine box_event ?hg (N:=1) ?hd (cs:=#[.int .i64 a0_0,.int .i64 a0_1,.int .i64 a0_2]) (t:=38) ?hr ?_;(case hd => rfl);(case hg => rfl);(case hr => exact Q16);intro gb128 hg w7 hbox hb;have n0_:=aM (below_step Q3 hb);have n1_:=aM (hbox);have n2_:=aM ((Q37 : w.heap.size ≤ gb128));have n3_:=aM ((Q37 : w.heap.size ≤ gb128));clear HB;have HB:=n0_;have BK128:=n1_;have GW128:=n2_;have GE128:=n3_;clear n0_ n1_ n2_ n3_;clear hb hbox hg;have hcz8_0 : w7.cell? ⟨gb128,0,none⟩ = some (.int .i64 a0_0):=(blk_cell BK128.out 0).trans rfl;have hcz8_1 : w7.cell? ⟨gb128,1,none⟩ = some (.int .i64 a0_1):=(blk_cell BK128.out 1).trans rfl;have hcz8_2 : w7.cell? ⟨gb128,2,none⟩ = some (.int .i64 a0_2):=(blk_cell BK128.out 2).trans rfl;have hfz8_0:=blk_frozen BK128.out 0;have hfz8_1:=blk_frozen BK128.out 1;have hfz8_2:=blk_frozen BK128.out 2)|((with_reducible refine gate_callee (f:=43) rfl ?_);refine goesL_ (some 5) rfl rfl Try.func43 Q14 rfl #[.int .i64 a0_0,.int .i64 1,.int .i64 3] rfl Q1 ?_;(with_reducible refine (impl_within.calls a0_0 1 3 true _ A2.out).mono ?_);rintro e w' ⟨rfl,⟨nd,rfl⟩⟩;refine ⟨_,rfl,?_⟩)|(go_at_call 43;(with_reducible refine (impl_within.calls a0_1 1 3 true _ A4.out).mono ?_);rintro e w' ⟨rfl,⟨nd,rfl⟩⟩))
    go_ret
    exact ⟨Q6,Q79⟩
   ·rw [if_neg c6] at H
    have c6b0 : (a0_0 == a0_1) = false:=beq_eq_false_iff_ne.mpr c6
    have c6b1 : (a0_0 != a0_1) = true:=bne_iff_ne.mpr c6
    replace H:=Option.bind_eq_some_iff.mp H
    obtain ⟨t131,A90,H⟩:=H
    replace H : (some t131) = some r:=H
    have A9:=aM A90
    clear A90
    obtain rfl:=Option.some.inj H
    go_enter Try.func33,Try.ntmps33
    go_wp2_with (first|((with_reducible refine gate_dst (N:=1) rfl ?_);refine box_event ?hg (N:=1) ?hd (cs:=#[.int .i64 a0_0,.int .i64 a0_1,.int .i64 a0_2]) (t:=38) ?hr ?_;(case hd => rfl);(case hg => rfl);(case hr => exact Q16);intro gb128 hg w10 hbox hb;have n0_:=aM (below_step Q3 hb);have n1_:=aM (hbox);have n2_:=aM ((Q37 : w.heap.size ≤ gb128));have n3_:=aM ((Q37 : w.heap.size ≤ gb128));clear HB;have HB:=n0_;have BK128:=n1_;have GW128:=n2_;have GE128:=n3_;clear n0_ n1_ n2_ n3_;clear hb hbox hg;have hcz11_0 : w10.cell? ⟨gb128,0,none⟩ = some (.int .i64 a0_0):=(blk_cell BK128.out 0).trans rfl;have hcz11_1 : w10.cell? ⟨gb128,1,none⟩ = some (.int .i64 a0_1):=(blk_cell BK128.out 1).trans rfl;have hcz11_2 : w10.cell? ⟨gb128,2,none⟩ = some (.int .i64 a0_2):=(blk_cell BK128.out 2).trans rfl;have hfz11_0:=blk_frozen BK128.out 0;have hfz11_1:=blk_frozen BK128.out 1;have hfz11_2:=blk_frozen BK128.out 2)|((with_reducible refine gate_callee (f:=43) rfl ?_);refine goesL_ (some 5) rfl rfl Try.func43 Q14 rfl #[.int .i64 a0_0,.int .i64 1,.int .i64 3] rfl Q1 ?_;(with_reducible refine (impl_within.calls a0_0 1 3 true _ A2.out).mono ?_);rintro e w' ⟨rfl,⟨nd,rfl⟩⟩;refine ⟨_,rfl,?_⟩)|(go_at_call 43;(with_reducible refine (impl_within.calls a0_1 1 3 true _ A4.out).mono ?_);rintro e w' ⟨rfl,⟨nd,rfl⟩⟩)|(go_at_call 43;(with_reducible refine (impl_within.calls a0_2 1 9 t131 _ A9.out).mono ?_);rintro e w' ⟨rfl,⟨nd,rfl⟩⟩))
    go_ret
    exact ⟨Q6,Q79⟩
  ·replace c5:=Bool.eq_false_iff.mpr c5
   subst c5
   have H1 : (some false) = some r:=by rw [if_neg (show ¬ (false = true) by decide)] at H;exact H
   clear H
   have H:=H1
   clear H1
   obtain rfl:=Option.some.inj H
   go_enter Try.func33,Try.ntmps33
   go_wp2_with (first|((with_reducible refine gate_dst (N:=1) rfl ?_);refine box_event ?hg (N:=1) ?hd (cs:=#[.int .i64 a0_0,.int .i64 a0_1,.int .i64 a0_2]) (t:=38) ?hr ?_;(case hd => rfl);(case hg => rfl);(case hr => exact Q16);intro gb128 hg w12 hbox hb;have n0_:=aM (below_step Q3 hb);have n1_:=aM (hbox);have n2_:=aM ((Q37 : w.heap.size ≤ gb128));have n3_:=aM ((Q37 : w.heap.size ≤ gb128));clear HB;have HB:=n0_;have BK128:=n1_;have GW128:=n2_;have GE128:=n3_;clear n0_ n1_ n2_ n3_;clear hb hbox hg;have hcz13_0 : w12.cell? ⟨gb128,0,none⟩ = some (.int .i64 a0_0):=(blk_cell BK128.out 0).trans rfl;have hcz13_1 : w12.cell? ⟨gb128,1,none⟩ = some (.int .i64 a0_1):=(blk_cell BK128.out 1).trans rfl;have hcz13_2 : w12.cell? ⟨gb128,2,none⟩ = some (.int .i64 a0_2):=(blk_cell BK128.out 2).trans rfl;have hfz13_0:=blk_frozen BK128.out 0;have hfz13_1:=blk_frozen BK128.out 1;have hfz13_2:=blk_frozen BK128.out 2)|((with_reducible refine gate_callee (f:=43) rfl ?_);refine goesL_ (some 5) rfl rfl Try.func43 Q14 rfl #[.int .i64 a0_0,.int .i64 1,.int .i64 3] rfl Q1 ?_;(with_reducible refine (impl_within.calls a0_0 1 3 true _ A2.out).mono ?_);rintro e w' ⟨rfl,⟨nd,rfl⟩⟩;refine ⟨_,rfl,?_⟩)|(go_at_call 43;(with_reducible refine (impl_within.calls a0_1 1 3 false _ A4.out).mono ?_);rintro e w' ⟨rfl,⟨nd,rfl⟩⟩))
   go_ret
   exact ⟨Q6,Q79⟩
 ·replace c3:=Bool.eq_false_iff.mpr c3
  subst c3
  have H1 : (some false) = some r:=by rw [if_neg (show ¬ (false = true) by decide)] at H;exact H
  clear H
  have H:=H1
  clear H1
  obtain rfl:=Option.some.inj H
  go_enter Try.func33,Try.ntmps33
  go_wp2_with (first|((with_reducible refine gate_dst (N:=1) rfl ?_);refine box_event ?hg (N:=1) ?hd (cs:=#[.int .i64 a0_0,.int .i64 a0_1,.int .i64 a0_2]) (t:=38) ?hr ?_;(case hd => rfl);(case hg => rfl);(case hr => exact Q16);intro gb128 hg w14 hbox hb;have n0_:=aM (below_step Q3 hb);have n1_:=aM (hbox);have n2_:=aM ((Q37 : w.heap.size ≤ gb128));have n3_:=aM ((Q37 : w.heap.size ≤ gb128));clear HB;have HB:=n0_;have BK128:=n1_;have GW128:=n2_;have GE128:=n3_;clear n0_ n1_ n2_ n3_;clear hb hbox hg;have hcz15_0 : w14.cell? ⟨gb128,0,none⟩ = some (.int .i64 a0_0):=(blk_cell BK128.out 0).trans rfl;have hcz15_1 : w14.cell? ⟨gb128,1,none⟩ = some (.int .i64 a0_1):=(blk_cell BK128.out 1).trans rfl;have hcz15_2 : w14.cell? ⟨gb128,2,none⟩ = some (.int .i64 a0_2):=(blk_cell BK128.out 2).trans rfl;have hfz15_0:=blk_frozen BK128.out 0;have hfz15_1:=blk_frozen BK128.out 1;have hfz15_2:=blk_frozen BK128.out 2)|((with_reducible refine gate_callee (f:=43) rfl ?_);refine goesL_ (some 5) rfl rfl Try.func43 Q14 rfl #[.int .i64 a0_0,.int .i64 1,.int .i64 3] rfl Q1 ?_;(with_reducible refine (impl_within.calls a0_0 1 3 false _ A2.out).mono ?_);rintro e w' ⟨rfl,⟨nd,rfl⟩⟩;refine ⟨_,rfl,?_⟩))
  go_ret
  exact ⟨Q6,Q79⟩

end Go.Proofs.Ytlcfalecbpnhbaa.P
