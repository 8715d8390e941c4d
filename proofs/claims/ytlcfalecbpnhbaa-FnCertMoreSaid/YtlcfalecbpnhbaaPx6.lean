/- The printed functions: what each Go function computes, as a Lean function, and that the Go code comes to just that. Conditions: none beyond each contract's own. -/
import Derived.Test.YtlcfalecbpnhbaaPx0
import Derived.Test.YtlcfalecbpnhbaaPx2
namespace Go.Proofs.Ytlcfalecbpnhbaa.P
open Go.RowKit Go.Proofs.YtlcfalecbpnhbaaW.PrintWords Go.Proofs.YtlcfalecbpnhbaaW.PrintLast Go.Proofs.YtlcfalecbpnhbaaW.PrintMore
attribute [local go_sem] max2_int min2_int max_two min_two max_three min_three max_four min_four   -- for this text's walks alone
set_option linter.unusedVariables false
set_option linter.unusedSimpArgs false

/-! ### impl_final: function 19 -/
def impl_final.l0 : Nat → List (S40) → Int → Option (Int)
 | 0,_,_ => none
 | k + 1,x0,x3 => if x3 > 2 then (if 0 ≤ (wrap64 (x3 - 3)) then (if (wrap64 (x3 - 3)) < (x0.length : Int) then (if 0 ≤ (wrap64 (x3 - 2)) then (if (wrap64 (x3 - 2)) < (x0.length : Int) then (if (wrap64 (((rd_T40 x0 (wrap64 (x3 - 3))).f0) + 1)) = ((rd_T40 x0 (wrap64 (x3 - 2))).f0) then (if 0 ≤ (wrap64 (x3 - 1)) then (if (wrap64 (x3 - 1)) < (x0.length : Int) then (if (wrap64 (((rd_T40 x0 (wrap64 (x3 - 2))).f0) + 1)) = ((rd_T40 x0 (wrap64 (x3 - 1))).f0) then (some (wrap64 (x3 - 1))) else (impl_final.l0 k x0 (wrap64 (x3 - 1)))) else (none)) else (none)) else (impl_final.l0 k x0 (wrap64 (x3 - 1)))) else (none)) else (none)) else (none)) else (none)) else (some 0)
def impl_final.f (k : Nat) (l0 : List (S40)) : Option (Int):=impl_final.l0 k l0 (l0.length : Int)
theorem impl_final.mono_l : ∀ k,(∀ y0 y1,LeO (impl_final.l0 k y0 y1) (impl_final.l0 (k + 1) y0 y1))
 | 0 => fun _ _ r h => by simp [impl_final.l0] at h
 | k + 1 => by
  have ih0:=impl_final.mono_l k
  ·intro y0 y1
   unfold impl_final.l0
   repeat' first
   | exact LeO.refl _
   | exact ih0 _ _
   | exact LeO.none _
   | refine LeO.ite ?_ ?_
   | refine LeO.bind ?_ (fun _ => ?_)
theorem impl_final.mono : ∀ a0 k,LeO (impl_final.f k a0) (impl_final.f (k + 1) a0):=by
 intro a0 k
 have ih0:=impl_final.mono_l k
 unfold impl_final.f
 repeat' first
   | exact LeO.refl _
   | exact ih0 _ _
   | exact LeO.none _
   | refine LeO.ite ?_ ?_
   | refine LeO.bind ?_ (fun _ => ?_)
set_option maxHeartbeats 8000000 in
set_option maxRecDepth 100000 in
theorem impl_final.calls (k : Nat) (A0 : Option Addr) (c0 : Nat) (l0 : List (S40)) (r : Int) (w : World) (hr0 : Kd.C k40 w A0 l0.length l0) (hc0 : l0.length ≤ c0) (h : impl_final.f k l0 = some r) :
  Calls Try.prog 19 #[.slice A0 l0.length c0] w fun e w' => e = .returned (.int .i64 r) ∧ Drawn0 w w':=by
 have HR0:=aM hr0
 have HC0:=aM hc0
 clear hr0 hc0
 have H : (impl_final.l0 k l0 (l0.length : Int)) = some r:=h
 clear h
 have H':=aM H
 clear H
 go_enter Try.func19,Try.ntmps19
 go_wp2
 repeat (go_quiet (fail);try go_wp2)
 go_loopg [3] k (fun kq v3 w' => ∃ (x3_1 : Int),v3 = .int .i64 x3_1 ∧ Aside0 (impl_final.l0 kq l0 x3_1 = some r) ∧ Aside0 (kq ≤ k) ∧ Drawn0 w w')
 case atStart => exact ⟨((l0.length : Int)),Q11,H',⟨Nat.le_refl _⟩,Q27⟩
 case round =>
  clear H'
  try clear c1
  obtain ⟨x3_1,rfl,HA,HK1,⟨m1,rfl⟩⟩:=hrel
  cases gk with
  | zero => exact absurd HA.out (by simp [impl_final.l0])
  | succ k1 =>
   have H:=HA.out
   clear HA
   simp only [impl_final.l0] at H
   by_cases c2 : x3_1 > 2
   ·rw [if_pos c2] at H
    have c2b0 : decide (2 < x3_1) = true:=decide_eq_true c2
    clear c2
    obtain ⟨ji3,hji3⟩ : ∃ j_ : Int,(wrap64 (x3_1 - 3)) = j_:=⟨_,rfl⟩
    replace H : (if 0 ≤ (ji3) then (if (ji3) < (l0.length : Int) then (if 0 ≤ (wrap64 (x3_1 - 2)) then (if (wrap64 (x3_1 - 2)) < (l0.length : Int) then (if (wrap64 (((rd_T40 l0 (ji3)).f0) + 1)) = ((rd_T40 l0 (wrap64 (x3_1 - 2))).f0) then (if 0 ≤ (wrap64 (x3_1 - 1)) then (if (wrap64 (x3_1 - 1)) < (l0.length : Int) then (if (wrap64 (((rd_T40 l0 (wrap64 (x3_1 - 2))).f0) + 1)) = ((rd_T40 l0 (wrap64 (x3_1 - 1))).f0) then (some (wrap64 (x3_1 - 1))) else (impl_final.l0 k1 l0 (wrap64 (x3_1 - 1)))) else (none)) else (none)) else (impl_final.l0 k1 l0 (wrap64 (x3_1 - 1)))) else (none)) else (none)) else (none)) else (none)) = some r:=by first|(rw [hji3] at H;exact H)|(simp only [hji3] at H ⊢;exact H)
    have hji3w : (IntKind.i64.wrap (x3_1 - 3)) = ji3:=(i64_w _).trans hji3
    by_cases c4 : 0 ≤ (ji3)
    case neg => rw [if_neg c4] at H;exact absurd H Q51
    rw [if_pos c4] at H
    have c4b0 : decide (0 ≤ (ji3)) = true:=decide_eq_true c4
    clear c4
    by_cases c5 : (ji3) < (l0.length : Int)
    case neg => rw [if_neg c5] at H;exact absurd H Q51
    rw [if_pos c5] at H
    have c5b0 : decide ((ji3) < (l0.length : Int)) = true:=decide_eq_true c5
    clear c5
    obtain ⟨ji6,hji6⟩ : ∃ j_ : Int,(wrap64 (x3_1 - 2)) = j_:=⟨_,rfl⟩
    replace H : (if 0 ≤ (ji6) then (if (ji6) < (l0.length : Int) then (if (wrap64 (((rd_T40 l0 (ji3)).f0) + 1)) = ((rd_T40 l0 (ji6)).f0) then (if 0 ≤ (wrap64 (x3_1 - 1)) then (if (wrap64 (x3_1 - 1)) < (l0.length : Int) then (if (wrap64 (((rd_T40 l0 (ji6)).f0) + 1)) = ((rd_T40 l0 (wrap64 (x3_1 - 1))).f0) then (some (wrap64 (x3_1 - 1))) else (impl_final.l0 k1 l0 (wrap64 (x3_1 - 1)))) else (none)) else (none)) else (impl_final.l0 k1 l0 (wrap64 (x3_1 - 1)))) else (none)) else (none)) = some r:=by first|(rw [hji6] at H;exact H)|(simp only [hji6] at H ⊢;exact H)
    have hji6w : (IntKind.i64.wrap (x3_1 - 2)) = ji6:=(i64_w _).trans hji6
    by_cases c7 : 0 ≤ (ji6)
    case neg => rw [if_neg c7] at H;exact absurd H Q51
    rw [if_pos c7] at H
    have c7b0 : decide (0 ≤ (ji6)) = true:=decide_eq_true c7
    clear c7
    by_cases c8 : (ji6) < (l0.length : Int)
    case neg => rw [if_neg c8] at H;exact absurd H Q51
    rw [if_pos c8] at H
    have c8b0 : decide ((ji6) < (l0.length : Int)) = true:=decide_eq_true c8
    clear c8
    by_cases c9 : (wrap64 (((rd_T40 l0 (ji3)).f0) + 1)) = ((rd_T40 l0 (ji6)).f0)
    ·rw [if_pos c9] at H
     have c9b0 : ((wrap64 (((rd_T40 l0 (ji3)).f0) + 1)) == ((rd_T40 l0 (ji6)).f0)) = true:=beq_iff_eq.mpr c9
     have c9b1 : ((wrap64 (((rd_T40 l0 (ji3)).f0) + 1)) != ((rd_T40 l0 (ji6)).f0)) = false:=bne_eq_false_iff_eq.mpr c9
     clear c9
     obtain ⟨ji10,hji10⟩ : ∃ j_ : Int,(wrap64 (x3_1 - 1)) = j_:=⟨_,rfl⟩
     replace H : (if 0 ≤ (ji10) then (if (ji10) < (l0.length : Int) then (if (wrap64 (((rd_T40 l0 (ji6)).f0) + 1)) = ((rd_T40 l0 (ji10)).f0) then (some ji10) else (impl_final.l0 k1 l0 ji10)) else (none)) else (none)) = some r:=by first|(rw [hji10] at H;exact H)|(simp only [hji10] at H ⊢;exact H)
     have hji10w : (IntKind.i64.wrap (x3_1 - 1)) = ji10:=(i64_w _).trans hji10
     by_cases c11 : 0 ≤ (ji10)
     case neg => rw [if_neg c11] at H;exact absurd H Q51
     rw [if_pos c11] at H
     have c11b0 : decide (0 ≤ (ji10)) = true:=decide_eq_true c11
     clear c11
     by_cases c12 : (ji10) < (l0.length : Int)
     case neg => rw [if_neg c12] at H;exact absurd H Q51
     rw [if_pos c12] at H
     have c12b0 : decide ((ji10) < (l0.length : Int)) = true:=decide_eq_true c12
     clear c12
     by_cases c13 : (wrap64 (((rd_T40 l0 (ji6)).f0) + 1)) = ((rd_T40 l0 (ji10)).f0)
     ·rw [if_pos c13] at H
      have c13b0 : ((wrap64 (((rd_T40 l0 (ji6)).f0) + 1)) == ((rd_T40 l0 (ji10)).f0)) = true:=beq_iff_eq.mpr c13
      have c13b1 : ((wrap64 (((rd_T40 l0 (ji6)).f0) + 1)) != ((rd_T40 l0 (ji10)).f0)) = false:=bne_eq_false_iff_eq.mpr c13
      clear c13
      obtain rfl:=Option.some.inj H
      have p137 : 0 ≤ ((ji3) : Int):=of_decide_eq_true Q5
      have q137 : (ji3) < (l0.length : Int):=of_decide_eq_true Q5
      obtain ⟨ad137,e137,hx137_0,hx137_1,hx137_2,hx137_3⟩:=at_T40 HR0.out (ji3) p137 q137
      cases e137
      replace p137:=eq_true p137
      replace q137:=eq_true q137
      have p138 : 0 ≤ ((ji6) : Int):=of_decide_eq_true Q5
      have q138 : (ji6) < (l0.length : Int):=of_decide_eq_true Q5
      obtain ⟨ad138,e138,hx138_0,hx138_1,hx138_2,hx138_3⟩:=at_T40 HR0.out (ji6) p138 q138
      obtain rfl : ad137 = ad138:=(by injection e138)
      replace p138:=eq_true p138
      replace q138:=eq_true q138
      have p139 : 0 ≤ ((ji6) : Int):=of_decide_eq_true Q5
      have q139 : (ji6) < (l0.length : Int):=of_decide_eq_true Q5
      obtain ⟨ad139,e139,hx139_0,hx139_1,hx139_2,hx139_3⟩:=at_T40 HR0.out (ji6) p139 q139
      obtain rfl : ad137 = ad139:=(by injection e139)
      replace p139:=eq_true p139
      replace q139:=eq_true q139
      have p140 : 0 ≤ ((ji10) : Int):=of_decide_eq_true Q5
      have q140 : (ji10) < (l0.length : Int):=of_decide_eq_true Q5
      obtain ⟨ad140,e140,hx140_0,hx140_1,hx140_2,hx140_3⟩:=at_T40 HR0.out (ji10) p140 q140
      obtain rfl : ad137 = ad140:=(by injection e140)
      replace p140:=eq_true p140
      replace q140:=eq_true q140
      go_wp2
      repeat (go_quiet (fail);try go_wp2)
      go_ret
      exact ⟨by first|rfl|(simp;done)|(simp only [← hji3,← hji6,← hji10] <;> (first|rfl|simp))|(simp [*];done),Q27⟩
     ·rw [if_neg c13] at H
      have c13b0 : ((wrap64 (((rd_T40 l0 (ji6)).f0) + 1)) == ((rd_T40 l0 (ji10)).f0)) = false:=beq_eq_false_iff_ne.mpr c13
      have c13b1 : ((wrap64 (((rd_T40 l0 (ji6)).f0) + 1)) != ((rd_T40 l0 (ji10)).f0)) = true:=bne_iff_ne.mpr c13
      have H':=aM H
      clear H
      have p137 : 0 ≤ ((ji3) : Int):=of_decide_eq_true Q5
      have q137 : (ji3) < (l0.length : Int):=of_decide_eq_true Q5
      obtain ⟨ad137,e137,hx137_0,hx137_1,hx137_2,hx137_3⟩:=at_T40 HR0.out (ji3) p137 q137
      cases e137
      replace p137:=eq_true p137
      replace q137:=eq_true q137
      have p138 : 0 ≤ ((ji6) : Int):=of_decide_eq_true Q5
      have q138 : (ji6) < (l0.length : Int):=of_decide_eq_true Q5
      obtain ⟨ad138,e138,hx138_0,hx138_1,hx138_2,hx138_3⟩:=at_T40 HR0.out (ji6) p138 q138
      obtain rfl : ad137 = ad138:=(by injection e138)
      replace p138:=eq_true p138
      replace q138:=eq_true q138
      have p139 : 0 ≤ ((ji6) : Int):=of_decide_eq_true Q5
      have q139 : (ji6) < (l0.length : Int):=of_decide_eq_true Q5
      obtain ⟨ad139,e139,hx139_0,hx139_1,hx139_2,hx139_3⟩:=at_T40 HR0.out (ji6) p139 q139
      obtain rfl : ad137 = ad139:=(by injection e139)
      replace p139:=eq_true p139
      replace q139:=eq_true q139
      have p140 : 0 ≤ ((ji10) : Int):=of_decide_eq_true Q5
      have q140 : (ji10) < (l0.length : Int):=of_decide_eq_true Q5
      obtain ⟨ad140,e140,hx140_0,hx140_1,hx140_2,hx140_3⟩:=at_T40 HR0.out (ji10) p140 q140
      obtain rfl : ad137 = ad140:=(by injection e140)
      replace p140:=eq_true p140
      replace q140:=eq_true q140
      go_wp2
      repeat (go_quiet (fail);try go_wp2)
      go_roundg k1
      case measure => have:=HK1.out;omega
      case rel => exact ⟨(ji10),(by first|rfl|(simp;done)|(simp only [← hji10] <;> (first|rfl|simp))|(simp [*];done)),H',⟨Q60⟩,Q27⟩
    ·rw [if_neg c9] at H
     have c9b0 : ((wrap64 (((rd_T40 l0 (ji3)).f0) + 1)) == ((rd_T40 l0 (ji6)).f0)) = false:=beq_eq_false_iff_ne.mpr c9
     have c9b1 : ((wrap64 (((rd_T40 l0 (ji3)).f0) + 1)) != ((rd_T40 l0 (ji6)).f0)) = true:=bne_iff_ne.mpr c9
     have H':=aM H
     clear H
     have p137 : 0 ≤ ((ji3) : Int):=of_decide_eq_true Q5
     have q137 : (ji3) < (l0.length : Int):=of_decide_eq_true Q5
     obtain ⟨ad137,e137,hx137_0,hx137_1,hx137_2,hx137_3⟩:=at_T40 HR0.out (ji3) p137 q137
     cases e137
     replace p137:=eq_true p137
     replace q137:=eq_true q137
     have p138 : 0 ≤ ((ji6) : Int):=of_decide_eq_true Q5
     have q138 : (ji6) < (l0.length : Int):=of_decide_eq_true Q5
     obtain ⟨ad138,e138,hx138_0,hx138_1,hx138_2,hx138_3⟩:=at_T40 HR0.out (ji6) p138 q138
     obtain rfl : ad137 = ad138:=(by injection e138)
     replace p138:=eq_true p138
     replace q138:=eq_true q138
     go_wp2
     repeat (go_quiet (fail);try go_wp2)
     go_roundg k1
     case measure => have:=HK1.out;omega
     case rel => exact ⟨(wrap64 (x3_1 - 1)),Q11,H',⟨Q60⟩,Q27⟩
   ·rw [if_neg c2] at H
    have c2b0 : decide (2 < x3_1) = false:=decide_eq_false c2
    clear c2
    obtain rfl:=Option.some.inj H
    go_wp2
    repeat (go_quiet (fail);try go_wp2)
    go_ret
    exact ⟨Q11,Q27⟩

-- NOT PRINTED: function 34 (slices_IndexFunc_int_int)

/-! ### slices_ContainsFunc_int_int: function 20 -/
def slices_ContainsFunc_int_int.rdL (xs : List (List Int)) (i : Int) : List Int:=xs.getD i.toNat ([] : List Int)
theorem slices_ContainsFunc_int_int.atL {w : World} {A : Option Addr} {n : Nat} {xs : List (List Int)} (h : Kd.C (Kd.slice 3 (Kd.int .i64)) w A n xs) (i : Int) (h0 : 0 ≤ i) (h1 : i < n) : ∃ ad A0 c0,A = some ad ∧ w.cell? (ad.add i.toNat) = some (.slice A0 (slices_ContainsFunc_int_int.rdL xs i).length c0) ∧ (slices_ContainsFunc_int_int.rdL xs i).length ≤ c0 ∧ (Kd.int .i64).C w A0 (slices_ContainsFunc_int_int.rdL xs i).length (slices_ContainsFunc_int_int.rdL xs i):=by
 obtain ⟨ad,c,e,_,hK,hc0⟩:=Kd.C_get h ([] : List Int) i h0 h1
 have hc : ∀ j u,c[j]? = some u → w.cell? (ad.add (i.toNat * 1 + j)) = some u:=hc0
 obtain ⟨A0,c0,rfl,l0,g0⟩:=hK
 exact ⟨ad,A0,c0,e,Q108,l0,g0⟩
def slices_ContainsFunc_int_int.l0 : Nat → List (List Int) → Int → Option (Bool)
 | 0,_,_ => none
 | k + 1,l,x => if x < (l.length : Int) then (if 0 ≤ x then ((impl_votersOk.f k (slices_ContainsFunc_int_int.rdL l x)).bind fun t => (if t = true then (slices_ContainsFunc_int_int.l0 k l (wrap64 (x + 1))) else (some true))) else (none)) else (some false)
def slices_ContainsFunc_int_int.f (k : Nat) (l0 : List (List Int)) : Option (Bool):=slices_ContainsFunc_int_int.l0 k l0 0
theorem slices_ContainsFunc_int_int.mono_l : ∀ k,∀ y0 y1,LeO (slices_ContainsFunc_int_int.l0 k y0 y1) (slices_ContainsFunc_int_int.l0 (k + 1) y0 y1)
 | 0 => fun _ _ r h => by simp [slices_ContainsFunc_int_int.l0] at h
 | k + 1 => by
  have ih0:=slices_ContainsFunc_int_int.mono_l k
  intro y0 y1
  unfold slices_ContainsFunc_int_int.l0
  repeat' first
    | exact ih0 _ _
    | exact impl_votersOk.mono _ _
    | exact LeO.refl _
    | exact LeO.none _
    | refine LeO.ite ?_ ?_
    | refine LeO.bind ?_ (fun _ => ?_)
theorem slices_ContainsFunc_int_int.mono : ∀ a0 k,LeO (slices_ContainsFunc_int_int.f k a0) (slices_ContainsFunc_int_int.f (k + 1) a0):=fun a0 k => slices_ContainsFunc_int_int.mono_l k a0 0
set_option maxHeartbeats 8000000 in
set_option maxRecDepth 100000 in
theorem slices_ContainsFunc_int_int.lit (k : Nat) (A0 : Option Addr) (c0 : Nat) (l0 : List Int) (r : Bool) (w : World) (hr0 : Kd.C (Kd.int .i64) w A0 l0.length l0) (hc0 : l0.length ≤ c0) (h : impl_votersOk.f k l0 = some r) :
  Calls Try.prog 21 #[.slice A0 l0.length c0] w fun e w' => e = .returned (.bool (!r)) ∧ Below w.heap.size w w':=by
 have HR0:=aM hr0
 have HC0:=aM hc0
 have HV:=aM h
 have HB:=aM (Below.refl w.heap.size w)
 clear hr0 hc0 h
 go_enter Try.func21,Try.ntmps21
 go_wp2_with (go_at_call 22;refine (impl_votersOk.calls k A0 c0 l0 r _ (Kd.C_below HR0.out Q3) HC0.out HV.out).mono ?_;rintro e w' ⟨rfl,hb0⟩;have hb:=hb0.below;have n0_:=aM (below_step Q3 hb);clear HB hb hb0;have HB:=n0_;clear n0_)
 go_ret
 exact ⟨rfl,HB.out⟩
set_option maxHeartbeats 8000000 in
set_option maxRecDepth 100000 in
theorem slices_ContainsFunc_int_int.idx (k : Nat) (A0 : Option Addr) (c0 : Nat) (l0 : List (List Int)) (r : Bool) (w : World) (hr0 : Kd.C (Kd.slice 3 (Kd.int .i64)) w A0 l0.length l0) (hc0 : l0.length ≤ c0) (h : slices_ContainsFunc_int_int.l0 k l0 0 = some r) :
  Calls Try.prog 34 #[.slice A0 l0.length c0,.func (.func 21) #[] #[]] w fun e w' => ∃ n : Int,e = .returned (.int .i64 n) ∧ decide (0 ≤ n) = r ∧ Below w.heap.size w w':=by
 have HR0:=aM hr0
 have HL0:=aM h
 have HB:=aM (Below.refl w.heap.size w)
 clear hr0 hc0 h
 go_enter Try.func34,Try.ntmps34
 go_wp2
 go_loopg [5,8] k (fun kq _ v8 w' => ∃ x : Int,v8 = .int .i64 x ∧ Aside0 (slices_ContainsFunc_int_int.l0 kq l0 x = some r) ∧ Aside0 (kq ≤ k) ∧ Aside0 (Below w.heap.size w w'))
 case atStart => exact ⟨0,rfl,HL0,⟨Nat.le_refl _⟩,HB⟩
 case round =>
  clear HL0
  obtain ⟨x,rfl,HA,HK,HB⟩:=hrel
  cases gk with
  | zero => exact absurd HA.out (by simp [slices_ContainsFunc_int_int.l0])
  | succ k1 =>
   have H:=HA.out
   clear HA
   simp only [slices_ContainsFunc_int_int.l0] at H
   by_cases c4 : x < (l0.length : Int)
   ·rw [if_pos c4] at H
    have c4b0 : decide (x < (l0.length : Int)) = true:=decide_eq_true c4
    by_cases p1 : 0 ≤ x
    case neg => exact absurd H (by rw [if_neg p1];simp)
    rw [if_pos p1] at H
    replace H:=Option.bind_eq_some_iff.mp H
    obtain ⟨t,A70,H⟩:=H
    have A7:=aM A70
    obtain ⟨ad,Ax,cx,ex,hx0,hlx,hix⟩:=slices_ContainsFunc_int_int.atL HR0.out x p1 c4
    cases ex
    replace hx0:=(HB.out.cell (bL w hx0)).trans hx0
    have HRx:=aM hix
    have HCx:=aM hlx
    clear hix hlx A70
    have p1t:=eq_true p1
    have c4t:=eq_true c4
    clear c4
    by_cases c8 : t = true
    ·subst c8
     have H1:=(if_pos (α:=Option Bool) rfl).symm.trans H
     have H':=aM H1
     clear H H1
     go_wp2_with (go_at_call 21;refine (slices_ContainsFunc_int_int.lit k1 _ _ (slices_ContainsFunc_int_int.rdL l0 x) true _ (Kd.C_below HRx.out HB.out) HCx.out A7.out).mono ?_;rintro e w' ⟨rfl,hb'⟩;have n0_:=aM (below_step HB.out hb');clear HB hb';have HB:=n0_;clear n0_)
     go_roundg k1
     case measure => have:=HK.out;omega
     case rel => exact ⟨wrap64 (x + 1),by first|rfl|(simp;done),H',⟨by have:=HK.out;omega⟩,HB⟩
    ·replace c8:=Bool.eq_false_iff.mpr c8
     subst c8
     obtain rfl:=Option.some.inj ((if_neg (α:=Option Bool) (show ¬ (false = true) by decide)).symm.trans H)
     clear H
     go_wp2_with (go_at_call 21;refine (slices_ContainsFunc_int_int.lit k1 _ _ (slices_ContainsFunc_int_int.rdL l0 x) false _ (Kd.C_below HRx.out HB.out) HCx.out A7.out).mono ?_;rintro e w' ⟨rfl,hb'⟩;have n0_:=aM (below_step HB.out hb');clear HB hb';have HB:=n0_;clear n0_)
     go_ret
     exact ⟨_,rfl,decide_eq_true p1,HB.out⟩
   ·rw [if_neg c4] at H
    have c4b0 : decide (x < (l0.length : Int)) = false:=decide_eq_false c4
    clear c4
    obtain rfl:=Option.some.inj H
    clear H
    go_wp2
    go_ret
    exact ⟨_,rfl,rfl,HB.out⟩
set_option maxHeartbeats 8000000 in
set_option maxRecDepth 100000 in
theorem slices_ContainsFunc_int_int.calls (k : Nat) (A0 : Option Addr) (c0 : Nat) (l0 : List (List Int)) (r : Bool) (w : World) (hr0 : Kd.C (Kd.slice 3 (Kd.int .i64)) w A0 l0.length l0) (hc0 : l0.length ≤ c0) (h : slices_ContainsFunc_int_int.f k l0 = some r) :
  Calls Try.prog 20 #[.slice A0 l0.length c0,.func (.func 21) #[] #[]] w fun e w' => e = .returned (.bool r) ∧ Below w.heap.size w w':=by
 have HI:=aM (slices_ContainsFunc_int_int.idx k A0 c0 l0 r w hr0 hc0 h)
 clear hr0 hc0 h
 go_enter Try.func20,Try.ntmps20
 go_wp2_with (go_at_call 34;refine HI.out.mono ?_;rintro e w' ⟨n,rfl,hn,hb⟩;have HN:=aM hn;have HB:=aM hb;clear hn hb)
 go_ret
 exact ⟨by rw [← HN.out];rfl,HB.out⟩

end Go.Proofs.Ytlcfalecbpnhbaa.P
