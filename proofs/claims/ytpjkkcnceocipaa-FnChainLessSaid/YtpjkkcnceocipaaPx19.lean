/- The printed functions: what each Go function computes, as a Lean function, and that the Go code comes to just that. Conditions: none beyond each contract's own. -/
import Derived.Test.YtpjkkcnceocipaaPx0
import Derived.Test.YtpjkkcnceocipaaPx3
import Derived.Test.YtpjkkcnceocipaaPx6
import Derived.Test.YtpjkkcnceocipaaPx15
import Derived.Test.YtpjkkcnceocipaaPx17
namespace Go.Proofs.Ytpjkkcnceocipaa.P
open Go.RowKit Go.Proofs.YtpjkkcnceocipaaW.PrintWords Go.Proofs.YtpjkkcnceocipaaW.PrintLast Go.Proofs.YtpjkkcnceocipaaW.PrintMore
attribute [local go_sem] max2_int min2_int max_two min_two max_three min_three max_four min_four   -- for this text's walks alone
set_option linter.unusedVariables false
set_option linter.unusedSimpArgs false

/-! ### laws_FnChainLess: function 5 -/
mutual
def laws_FnChainLess.j0 : Nat → List Int → List Int → Bool → Option (Bool)
 | 0, _, _, _ => none
 | k + 1, x0, x1, x16 => if x16 = true then (some true) else ((spec_DrawChainOk.f k x0).bind fun t305 => ((impl_ChainOk.f k t305).bind fun t308 => ((spec_ChainOk.f k t305).bind fun t309 => (if (t308 != t309) = true then (laws_FnChainLess.j1 k x1 t305 t308 true) else (if t308 = true then (laws_FnChainLess.j1 k x1 t305 t308 ((t305.length : Int) == 0)) else (laws_FnChainLess.j1 k x1 t305 t308 true))))))
def laws_FnChainLess.j1 : Nat → List Int → List (S34) → Bool → Bool → Option (Bool)
 | 0, _, _, _, _ => none
 | k + 1, x1, x5, x6, x33 => if x33 = true then ((spec_ChainOk.f k x5).bind fun t310 => (some (x6 == t310))) else (if (x5.length : Int) = 0 then (none) else ((some (([] : List (S34)) : List (S34))).bind fun y311 => (if y311.length + x5.length < 4398046511104 then ((some (y311 ++ x5 : List (S34))).bind fun y314 => (if 0 ≤ ((x1.length : Int) % (x5.length : Int)) then (if ((x1.length : Int) % (x5.length : Int)) < (x5.length : Int) then ((some (([(⟨(rd_T34 x5 ((x1.length : Int) % (x5.length : Int))).f0, (⟨(rd_T34 x5 ((x1.length : Int) % (x5.length : Int))).f1.f0, (rd_T34 x5 ((x1.length : Int) % (x5.length : Int))).f1.f1, (rd_T34 x5 ((x1.length : Int) % (x5.length : Int))).f1.f2⟩ : S32)⟩ : S34)] : List (S34)) : List (S34))).bind fun y319 => (if y314.length + y319.length < 4398046511104 then (if ((x1.length : Int) % (x5.length : Int)) ≤ (x5.length : Int) then ((impl_ChainOk.f k (x5.take (((x1.length : Int) % (x5.length : Int)) : Int).toNat)).bind fun t329 => (if t329 = true then ((impl_ChainIn.f k (x5.take (((x1.length : Int) % (x5.length : Int)) : Int).toNat) x5).bind fun t334 => (if t334 = true then ((impl_ChainOk.f k (y314 ++ y319)).bind fun t335 => (if t335 = true then (some false) else ((impl_ChainIn.f k x5 (x5.take (((x1.length : Int) % (x5.length : Int)) : Int).toNat)).bind fun t340 => (some (!t340))))) else (some false))) else (some false))) else (none)) else (none))) else (none)) else (none))) else (none))))
end
def laws_FnChainLess.f (k : Nat) (l0 : List Int) (l1 : List Int) : Option (Bool) := if (l0.length : Int) > 1048576 then (laws_FnChainLess.j0 k l0 l1 true) else (laws_FnChainLess.j0 k l0 l1 (decide ((l1.length : Int) > 1048576)))
theorem laws_FnChainLess.mono_l : ∀ k, (∀ y0 y1 y2, LeO (laws_FnChainLess.j0 k y0 y1 y2) (laws_FnChainLess.j0 (k + 1) y0 y1 y2)) ∧ (∀ y0 y1 y2 y3, LeO (laws_FnChainLess.j1 k y0 y1 y2 y3) (laws_FnChainLess.j1 (k + 1) y0 y1 y2 y3))
 | 0 => ⟨fun _ _ _ r h => by simp [laws_FnChainLess.j0] at h, fun _ _ _ _ r h => by simp [laws_FnChainLess.j1] at h⟩
 | k + 1 => by
  obtain ⟨ih0, ih1⟩ := laws_FnChainLess.mono_l k
  refine ⟨?_, ?_⟩
  ·intro y0 y1 y2
   unfold laws_FnChainLess.j0
   repeat' first
   | (with_reducible exact ih0 _ _ _)
   | (with_reducible exact ih1 _ _ _ _)
   | (with_reducible exact impl_ChainIn.mono _ _ _)
   | (with_reducible exact impl_ChainOk.mono _ _)
   | (with_reducible exact spec_ChainOk.mono _ _)
   | (with_reducible exact spec_DrawChainOk.mono _ _)
   | (with_reducible exact LeO.refl _)
   | (with_reducible exact LeO.none _)
   | (with_reducible refine LeO.ite ?_ ?_)
   | (with_reducible refine LeO.bind ?_ (fun _ => ?_))
   | exact ih0 _ _ _
   | exact ih1 _ _ _ _
   | exact impl_ChainIn.mono _ _ _
   | exact impl_ChainOk.mono _ _
   | exact spec_ChainOk.mono _ _
   | exact spec_DrawChainOk.mono _ _
   | exact LeO.none _
   | refine LeO.ite ?_ ?_
   | refine LeO.bind ?_ (fun _ => ?_)
  ·intro y0 y1 y2 y3
   unfold laws_FnChainLess.j1
   repeat' first
   | (with_reducible exact ih0 _ _ _)
   | (with_reducible exact ih1 _ _ _ _)
   | (with_reducible exact impl_ChainIn.mono _ _ _)
   | (with_reducible exact impl_ChainOk.mono _ _)
   | (with_reducible exact spec_ChainOk.mono _ _)
   | (with_reducible exact spec_DrawChainOk.mono _ _)
   | (with_reducible exact LeO.refl _)
   | (with_reducible exact LeO.none _)
   | (with_reducible refine LeO.ite ?_ ?_)
   | (with_reducible refine LeO.bind ?_ (fun _ => ?_))
   | exact ih0 _ _ _
   | exact ih1 _ _ _ _
   | exact impl_ChainIn.mono _ _ _
   | exact impl_ChainOk.mono _ _
   | exact spec_ChainOk.mono _ _
   | exact spec_DrawChainOk.mono _ _
   | exact LeO.none _
   | refine LeO.ite ?_ ?_
   | refine LeO.bind ?_ (fun _ => ?_)
theorem laws_FnChainLess.mono : ∀ a0 a1 k, LeO (laws_FnChainLess.f k a0 a1) (laws_FnChainLess.f (k + 1) a0 a1) := by
 intro a0 a1 k
 obtain ⟨ih0, ih1⟩ := laws_FnChainLess.mono_l k
 unfold laws_FnChainLess.f
 repeat' first
   | (with_reducible exact ih0 _ _ _)
   | (with_reducible exact ih1 _ _ _ _)
   | (with_reducible exact impl_ChainIn.mono _ _ _)
   | (with_reducible exact impl_ChainOk.mono _ _)
   | (with_reducible exact spec_ChainOk.mono _ _)
   | (with_reducible exact spec_DrawChainOk.mono _ _)
   | (with_reducible exact LeO.refl _)
   | (with_reducible exact LeO.none _)
   | (with_reducible refine LeO.ite ?_ ?_)
   | (with_reducible refine LeO.bind ?_ (fun _ => ?_))
   | exact ih0 _ _ _
   | exact ih1 _ _ _ _
   | exact impl_ChainIn.mono _ _ _
   | exact impl_ChainOk.mono _ _
   | exact spec_ChainOk.mono _ _
   | exact spec_DrawChainOk.mono _ _
   | exact LeO.none _
   | refine LeO.ite ?_ ?_
   | refine LeO.bind ?_ (fun _ => ?_)
def laws_FnChainLess.T8 : Bool × List (List Nat × List Nat) := (true, [([], []), ([], []), ([0, 1], [0, 1]), ([], []), ([], []), ([3, 4], [3, 4]), ([5], [5]), ([6], [6]), ([], []), ([], []), ([8, 9], [8, 9]), ([10], [10]), ([11], [11]), ([7, 12], [7, 12]), ([13], [13]), ([2, 14, 2], [2, 14]), ([15, 15, 0, 1, 2, 3, 4, 5, 6, 7, 8, 9, 10, 11, 12, 13, 14, 15], [15])])
def laws_FnChainLess.B8 : List Nat := [0, 0, 3, 0, 0, 24, 56, 120, 0, 0, 768, 1792, 3840, 8184, 16376, 32767, 65535]
theorem laws_FnChainLess.tab8 : rtab .any (opsOf Try.f5 8) = laws_FnChainLess.T8 := by kernel_rfl
theorem laws_FnChainLess.bits8 : waitsOk laws_FnChainLess.T8.2 laws_FnChainLess.B8 = true := by kernel_rfl
set_option maxHeartbeats 8000000 in
set_option maxRecDepth 100000 in
theorem laws_FnChainLess.calls (k : Nat) (A0 : Option Addr) (c0 : Nat) (l0 : List Int) (A1 : Option Addr) (c1 : Nat) (l1 : List Int) (r : Bool) (w : World) (hr0 : Kd.C (Kd.int .u8) w A0 l0.length l0) (hc0 : l0.length ≤ c0) (hr1 : Kd.C (Kd.int .u8) w A1 l1.length l1) (hc1 : l1.length ≤ c1) (h : laws_FnChainLess.f k l0 l1 = some r) :
  Calls Try.prog 5 #[.slice A0 l0.length c0, .slice A1 l1.length c1] w fun e w' => e = .returned (.bool r) ∧ Below w.heap.size w w' := by
 have hu32 := Try.underlying32
 have hu34 := Try.underlying34
 have HR0 := Aside0.mk hr0
 have HC0 := Aside0.mk hc0
 clear hr0 hc0
 have HR1 := Aside0.mk hr1
 have HC1 := Aside0.mk hc1
 clear hr1 hc1
 have HB := Aside0.mk (Below.refl w.heap.size w)
 have H : (if (l0.length : Int) > 1048576 then (laws_FnChainLess.j0 k l0 l1 true) else (laws_FnChainLess.j0 k l0 l1 (decide ((l1.length : Int) > 1048576)))) = some r := h
 clear h
 have HC3 := Aside0.mk H
 clear H
 go_enter Try.func5, Try.ntmps5
 go_upto_region 1 with (fail)
 go_cut [16] (fun v16 wc => ∃ (kq : Nat) (x16_2 : Bool), v16 = .bool x16_2 ∧ Aside0 (laws_FnChainLess.j0 kq l0 l1 x16_2 = some r) ∧ Aside0 (kq ≤ k) ∧ Aside0 (Below w.heap.size w wc))
 case first =>
  have H := HC3.out
  clear HC3
  by_cases c4 : (l0.length : Int) > 1048576
  ·rw [if_pos c4] at H
   have c4b0 : decide (1048576 < (l0.length : Int)) = true := decide_eq_true c4
   have c4b1 : decide (1048576 < l0.length) = true := decide_eq_true (by omega)
   clear c4
   (first | rw [c4b0] | rw [c4b1] | (simp only [i64_w, i32_w]; rw [c4b0]) | skip)
   have H' := Aside0.mk H
   clear H
   go_wp2
   go_meet
   case rel => exact ⟨_, (true), (by first | rfl | (simp; done) | (simp [*]; done)), H', ⟨by first | omega | exact Nat.le_refl _⟩, ⟨by repeat (first | (with_reducible first | exact HB.out | apply below_alloc | apply pw_below_drewN | apply below_drew1) | exact HB.out)⟩⟩
  ·rw [if_neg c4] at H
   have c4b0 : decide (1048576 < (l0.length : Int)) = false := decide_eq_false c4
   have c4b1 : decide (1048576 < l0.length) = false := decide_eq_false (by omega)
   clear c4
   (first | rw [c4b0] | rw [c4b1] | (simp only [i64_w, i32_w]; rw [c4b0]) | skip)
   have H' := Aside0.mk H
   clear H
   go_wp2
   go_meet
   case rel => exact ⟨_, (decide ((l1.length : Int) > 1048576)), (by first | rfl | (simp; done) | (simp [*]; done)), H', ⟨by first | omega | exact Nat.le_refl _⟩, ⟨by repeat (first | (with_reducible first | exact HB.out | apply below_alloc | apply pw_below_drewN | apply below_drew1) | exact HB.out)⟩⟩
 case rest =>
  clear HC3
  try clear c1
  try clear p2
  try clear c4
  try clear c4b0
  try clear c4b1
  obtain ⟨kq, x16_2, rfl, HA, HJ2, HB⟩ := hcut
  cases kq with
  | zero => exact absurd HA.out (by simp [laws_FnChainLess.j0])
  | succ kj2 =>
   have H := HA.out
   clear HA
   simp only [laws_FnChainLess.j0] at H
   by_cases c5 : x16_2 = true
   ·subst c5
    have H1 : (some true) = some r := by rw [if_pos rfl] at H; exact H
    clear H
    have H := H1
    clear H1
    obtain rfl := Option.some.inj H
    go_wp2
    go_ret
    exact ⟨by first | rfl | (simp only [i64_w, i32_w]; done) | (simp only [i64_w, i32_w]; rfl) | (simp [errW_none, errW_some] <;> rfl) | (simp [*, errW_none, errW_some] <;> rfl), by repeat (first | (with_reducible first | exact HB.out | apply below_alloc | apply pw_below_drewN | apply below_drew1) | exact HB.out)⟩
   ·replace c5 := Bool.eq_false_iff.mpr c5
    subst c5
    have H1 : ((spec_DrawChainOk.f kj2 l0).bind fun t305 => ((impl_ChainOk.f kj2 t305).bind fun t308 => ((spec_ChainOk.f kj2 t305).bind fun t309 => (if (t308 != t309) = true then (laws_FnChainLess.j1 kj2 l1 t305 t308 true) else (if t308 = true then (laws_FnChainLess.j1 kj2 l1 t305 t308 ((t305.length : Int) == 0)) else (laws_FnChainLess.j1 kj2 l1 t305 t308 true)))))) = some r := by rw [if_neg (show ¬ (false = true) by decide)] at H; exact H
    clear H
    have H := H1
    clear H1
    replace H := Option.bind_eq_some_iff.mp H
    obtain ⟨t305, A60, H⟩ := H
    replace H : ((impl_ChainOk.f kj2 t305).bind fun t308 => ((spec_ChainOk.f kj2 t305).bind fun t309 => (if (t308 != t309) = true then (laws_FnChainLess.j1 kj2 l1 t305 t308 true) else (if t308 = true then (laws_FnChainLess.j1 kj2 l1 t305 t308 ((t305.length : Int) == 0)) else (laws_FnChainLess.j1 kj2 l1 t305 t308 true))))) = some r := H
    have A6 := Aside0.mk A60
    clear A60
    replace H := Option.bind_eq_some_iff.mp H
    obtain ⟨t308, A70, H⟩ := H
    replace H : ((spec_ChainOk.f kj2 t305).bind fun t309 => (if (t308 != t309) = true then (laws_FnChainLess.j1 kj2 l1 t305 t308 true) else (if t308 = true then (laws_FnChainLess.j1 kj2 l1 t305 t308 ((t305.length : Int) == 0)) else (laws_FnChainLess.j1 kj2 l1 t305 t308 true)))) = some r := H
    have A7 := Aside0.mk A70
    clear A70
    have HC8 := Aside0.mk H
    clear H
    go_upto_region 5 with (first | ((with_reducible refine gate_callee (f := 16) rfl ?_); refine goesL_ (some 18) rfl rfl Try.func16 (by kernel_rfl) rfl #[.slice A0 l0.length c0] rfl (by (try simp only [List.map_toArray, List.map_cons, List.map_nil]); first | done | rfl | (simp only [List.length_drop, List.length_take]; rfl)) ?_; (with_reducible refine (spec_DrawChainOk.calls kj2 _ _ l0 t305 _ ?side1 ?side2 A6.out).mono ?_); (case side1 => repeat (first | exact (Kd.C_below HR0.out HB.out) | (with_reducible refine Kd.C_alloc ?_ _) | (with_reducible refine Kd.C_drewN ?_ _) | (with_reducible refine Kd.C_drew ?_))); (case side2 => exact HC0.out); rintro e w9 ⟨v306, rfl, ho0, hb⟩; refine ⟨_, rfl, ?_⟩; have n0_ := Aside0.mk (Kd.R_lower ho0 (below_size (by repeat (first | (with_reducible first | exact HB.out | apply below_alloc | apply pw_below_drewN | apply below_drew1) | exact HB.out)))); have n1_ := Aside0.mk (below_step (by repeat (first | (with_reducible first | exact HB.out | apply below_alloc | apply pw_below_drewN | apply below_drew1) | exact HB.out)) hb); clear HB; have HO307 := n0_; have HB := n1_; clear n0_ n1_; (try clear hb); (try clear hb2); (try clear hk); (try clear hi); (try clear ho0); obtain ⟨Ao10, co10, eo10⟩ := Kd.R_slice HO307.out; subst eo10) | ((with_reducible refine gate_callee (f := 14) rfl ?_); refine goesL_ (some 20) rfl rfl Try.func14 (by kernel_rfl) rfl #[.slice Ao10 t305.length co10] rfl (by (try simp only [List.map_toArray, List.map_cons, List.map_nil]); first | done | rfl | (simp only [List.length_drop, List.length_take]; rfl)) ?_; (with_reducible refine (impl_ChainOk.calls kj2 _ _ t305 t308 _ ?side1 ?side2 A7.out).mono ?_); (case side1 => repeat (first | exact (Kd.R_reads' HO307.out).2.2 | (with_reducible refine Kd.C_alloc ?_ _) | (with_reducible refine Kd.C_drewN ?_ _) | (with_reducible refine Kd.C_drew ?_))); (case side2 => exact (Kd.R_reads' HO307.out).2.1); rintro e w11 ⟨rfl, hb⟩; refine ⟨_, rfl, ?_⟩; have n0_ := Aside0.mk (Kd.R_below (by (with_reducible repeat (first | apply Kd.R_alloc | apply Kd.R_drewN | apply Kd.R_drew)); exact HO307.out) hb); have n1_ := Aside0.mk (below_step (by repeat (first | (with_reducible first | exact HB.out | apply below_alloc | apply pw_below_drewN | apply below_drew1) | exact HB.out)) hb); clear HO307; clear HB; have HO307 := n0_; have HB := n1_; clear n0_ n1_; (try clear hb); (try clear hb2); (try clear hk); (try clear hi)))
    (try simp only [Act.put, List.setIfInBounds_toArray, List.set_cons_zero, List.set_cons_succ])
    go_cut [33] (fun v33 wc => ∃ (kq : Nat) (x33_7 : Bool), v33 = .bool x33_7 ∧ Aside0 (laws_FnChainLess.j1 kq l1 t305 t308 x33_7 = some r) ∧ Aside0 (kq ≤ kj2) ∧ Aside0 (Kd.R k34 34 wc w.heap.size (fun _ => True) (.slice Ao10 t305.length co10) t305) ∧ Aside0 (Below w.heap.size w wc))
    case first =>
     have H := HC8.out
     clear HC8
     replace H := Option.bind_eq_some_iff.mp H
     obtain ⟨t309, A120, H⟩ := H
     replace H : (if (t308 != t309) = true then (laws_FnChainLess.j1 kj2 l1 t305 t308 true) else (if t308 = true then (laws_FnChainLess.j1 kj2 l1 t305 t308 ((t305.length : Int) == 0)) else (laws_FnChainLess.j1 kj2 l1 t305 t308 true))) = some r := H
     have A12 := Aside0.mk A120
     clear A120
     by_cases c13 : (t308 != t309) = true
     ·rw [if_pos c13] at H
      have c13b0 : (t308 != t309) = true := c13
      (try (have c13b1 : decide (t308 = t309) = false := by simpa using c13))
      (try (have c13b2 : (t308 == t309) = false := by simpa using c13))
      (try (have c13b3 : ¬ (t308 = t309) := by simpa using c13))
      clear c13
      (first | rw [c13b0] | rw [c13b1] | (simp only [i64_w, i32_w]; rw [c13b0]) | skip)
      have H' := Aside0.mk H
      clear H
      go_wp2_with (first | ((with_reducible refine gate_callee (f := 12) rfl ?_); refine goesL_ (some 23) rfl rfl Try.func12 (by kernel_rfl) rfl #[.slice Ao10 t305.length co10] rfl (by (try simp only [List.map_toArray, List.map_cons, List.map_nil]); first | done | rfl | (simp only [List.length_drop, List.length_take]; rfl)) ?_; (with_reducible refine (spec_ChainOk.calls kj2 _ _ t305 t309 _ ?side1 ?side2 A12.out).mono ?_); (case side1 => repeat (first | exact (Kd.R_reads' HO307.out).2.2 | (with_reducible refine Kd.C_alloc ?_ _) | (with_reducible refine Kd.C_drewN ?_ _) | (with_reducible refine Kd.C_drew ?_))); (case side2 => exact (Kd.R_reads' HO307.out).2.1); rintro e w14 ⟨rfl, hb⟩; refine ⟨_, rfl, ?_⟩; have n0_ := Aside0.mk (Kd.R_below (by (with_reducible repeat (first | apply Kd.R_alloc | apply Kd.R_drewN | apply Kd.R_drew)); exact HO307.out) hb); have n1_ := Aside0.mk (below_step (by repeat (first | (with_reducible first | exact HB.out | apply below_alloc | apply pw_below_drewN | apply below_drew1) | exact HB.out)) hb); clear HO307; clear HB; have HO307 := n0_; have HB := n1_; clear n0_ n1_; (try clear hb); (try clear hb2); (try clear hk); (try clear hi)))
      go_meet
      case rel => exact ⟨_, (true), (by first | rfl | (simp; done) | (simp [*]; done)), H', ⟨by have := HJ2.out; first | omega | exact Nat.le_refl _⟩, ⟨by (with_reducible repeat (first | apply Kd.R_alloc | apply Kd.R_drewN | apply Kd.R_drew)); exact HO307.out⟩, ⟨by repeat (first | (with_reducible first | exact HB.out | apply below_alloc | apply pw_below_drewN | apply below_drew1) | exact HB.out)⟩⟩
     ·rw [if_neg c13] at H
      have c13b0 : (t308 != t309) = false := by simpa using c13
      (try (have c13b1 : decide (t308 = t309) = true := by simpa using c13))
      (try (have c13b2 : (t308 == t309) = true := by simpa using c13))
      clear c13
      (first | rw [c13b0] | rw [c13b1] | (simp only [i64_w, i32_w]; rw [c13b0]) | skip)
      by_cases c15 : t308 = true
      ·subst c15
       have H1 : (laws_FnChainLess.j1 kj2 l1 t305 true ((t305.length : Int) == 0)) = some r := by rw [if_pos rfl] at H; exact H
       clear H
       have H := H1
       clear H1
       have H' := Aside0.mk H
       clear H
       go_wp2_with (first | ((with_reducible refine gate_callee (f := 12) rfl ?_); refine goesL_ (some 23) rfl rfl Try.func12 (by kernel_rfl) rfl #[.slice Ao10 t305.length co10] rfl (by (try simp only [List.map_toArray, List.map_cons, List.map_nil]); first | done | rfl | (simp only [List.length_drop, List.length_take]; rfl)) ?_; (with_reducible refine (spec_ChainOk.calls kj2 _ _ t305 t309 _ ?side1 ?side2 A12.out).mono ?_); (case side1 => repeat (first | exact (Kd.R_reads' HO307.out).2.2 | (with_reducible refine Kd.C_alloc ?_ _) | (with_reducible refine Kd.C_drewN ?_ _) | (with_reducible refine Kd.C_drew ?_))); (case side2 => exact (Kd.R_reads' HO307.out).2.1); rintro e w16 ⟨rfl, hb⟩; refine ⟨_, rfl, ?_⟩; have n0_ := Aside0.mk (Kd.R_below (by (with_reducible repeat (first | apply Kd.R_alloc | apply Kd.R_drewN | apply Kd.R_drew)); exact HO307.out) hb); have n1_ := Aside0.mk (below_step (by repeat (first | (with_reducible first | exact HB.out | apply below_alloc | apply pw_below_drewN | apply below_drew1) | exact HB.out)) hb); clear HO307; clear HB; have HO307 := n0_; have HB := n1_; clear n0_ n1_; (try clear hb); (try clear hb2); (try clear hk); (try clear hi)))
       go_meet
       case rel => exact ⟨_, (((t305.length : Int) == 0)), (by first | rfl | (simp; done) | (simp [*]; done)), H', ⟨by have := HJ2.out; first | omega | exact Nat.le_refl _⟩, ⟨by (with_reducible repeat (first | apply Kd.R_alloc | apply Kd.R_drewN | apply Kd.R_drew)); exact HO307.out⟩, ⟨by repeat (first | (with_reducible first | exact HB.out | apply below_alloc | apply pw_below_drewN | apply below_drew1) | exact HB.out)⟩⟩
      ·replace c15 := Bool.eq_false_iff.mpr c15
       subst c15
       have H1 : (laws_FnChainLess.j1 kj2 l1 t305 false true) = some r := by rw [if_neg (show ¬ (false = true) by decide)] at H; exact H
       clear H
       have H := H1
       clear H1
       have H' := Aside0.mk H
       clear H
       go_wp2_with (first | ((with_reducible refine gate_callee (f := 12) rfl ?_); refine goesL_ (some 23) rfl rfl Try.func12 (by kernel_rfl) rfl #[.slice Ao10 t305.length co10] rfl (by (try simp only [List.map_toArray, List.map_cons, List.map_nil]); first | done | rfl | (simp only [List.length_drop, List.length_take]; rfl)) ?_; (with_reducible refine (spec_ChainOk.calls kj2 _ _ t305 t309 _ ?side1 ?side2 A12.out).mono ?_); (case side1 => repeat (first | exact (Kd.R_reads' HO307.out).2.2 | (with_reducible refine Kd.C_alloc ?_ _) | (with_reducible refine Kd.C_drewN ?_ _) | (with_reducible refine Kd.C_drew ?_))); (case side2 => exact (Kd.R_reads' HO307.out).2.1); rintro e w17 ⟨rfl, hb⟩; refine ⟨_, rfl, ?_⟩; have n0_ := Aside0.mk (Kd.R_below (by (with_reducible repeat (first | apply Kd.R_alloc | apply Kd.R_drewN | apply Kd.R_drew)); exact HO307.out) hb); have n1_ := Aside0.mk (below_step (by repeat (first | (with_reducible first | exact HB.out | apply below_alloc | apply pw_below_drewN | apply below_drew1) | exact HB.out)) hb); clear HO307; clear HB; have HO307 := n0_; have HB := n1_; clear n0_ n1_; (try clear hb); (try clear hb2); (try clear hk); (try clear hi)))
       go_meet
       case rel => exact ⟨_, (true), (by first | rfl | (simp; done) | (simp [*]; done)), H', ⟨by have := HJ2.out; first | omega | exact Nat.le_refl _⟩, ⟨by (with_reducible repeat (first | apply Kd.R_alloc | apply Kd.R_drewN | apply Kd.R_drew)); exact HO307.out⟩, ⟨by repeat (first | (with_reducible first | exact HB.out | apply below_alloc | apply pw_below_drewN | apply below_drew1) | exact HB.out)⟩⟩
    case rest =>
     clear HC8
     try clear c1
     try clear p2
     try clear c4
     try clear c4b0
     try clear c4b1
     try clear c5
     try clear c12
     try clear c13
     try clear c13b0
     try clear c13b1
     try clear c13b2
     try clear c14
     try clear c15
     try clear c16
     try clear p2
     obtain ⟨kq, x33_7, rfl, HA, HJ7, HO_5, HB⟩ := hcut
     cases kq with
     | zero => exact absurd HA.out (by simp [laws_FnChainLess.j1])
     | succ kj7 =>
      have H := HA.out
      clear HA
      simp only [laws_FnChainLess.j1] at H
      by_cases c18 : x33_7 = true
      ·subst c18
       have H1 : ((spec_ChainOk.f kj7 t305).bind fun t310 => (some (t308 == t310))) = some r := by rw [if_pos rfl] at H; exact H
       clear H
       have H := H1
       clear H1
       replace H := Option.bind_eq_some_iff.mp H
       obtain ⟨t310, A190, H⟩ := H
       replace H : (some (t308 == t310)) = some r := H
       have A19 := Aside0.mk A190
       clear A190
       obtain rfl := Option.some.inj H
       go_wp2_with (first | ((with_reducible refine gate_callee (f := 12) rfl ?_); refine goesL_ (some 36) rfl rfl Try.func12 (by kernel_rfl) rfl #[.slice Ao10 t305.length co10] rfl (by (try simp only [List.map_toArray, List.map_cons, List.map_nil]); first | done | rfl | (simp only [List.length_drop, List.length_take]; rfl)) ?_; (with_reducible refine (spec_ChainOk.calls kj7 _ _ t305 t310 _ ?side1 ?side2 A19.out).mono ?_); (case side1 => repeat (first | exact (Kd.R_reads' HO_5.out).2.2 | (with_reducible refine Kd.C_alloc ?_ _) | (with_reducible refine Kd.C_drewN ?_ _) | (with_reducible refine Kd.C_drew ?_))); (case side2 => exact (Kd.R_reads' HO_5.out).2.1); rintro e w20 ⟨rfl, hb⟩; refine ⟨_, rfl, ?_⟩; have n0_ := Aside0.mk (Kd.R_below (by (with_reducible repeat (first | apply Kd.R_alloc | apply Kd.R_drewN | apply Kd.R_drew)); exact HO_5.out) hb); have n1_ := Aside0.mk (below_step (by repeat (first | (with_reducible first | exact HB.out | apply below_alloc | apply pw_below_drewN | apply below_drew1) | exact HB.out)) hb); clear HO_5; clear HB; have HO_5 := n0_; have HB := n1_; clear n0_ n1_; (try clear hb); (try clear hb2); (try clear hk); (try clear hi)))
       go_ret
       exact ⟨by first | rfl | (simp only [i64_w, i32_w]; done) | (simp only [i64_w, i32_w]; rfl) | (simp [errW_none, errW_some] <;> rfl) | (simp [*, errW_none, errW_some] <;> rfl), by repeat (first | (with_reducible first | exact HB.out | apply below_alloc | apply pw_below_drewN | apply below_drew1) | exact HB.out)⟩
      ·replace c18 := Bool.eq_false_iff.mpr c18
       subst c18
       have H1 : (if (t305.length : Int) = 0 then (none) else ((some (([] : List (S34)) : List (S34))).bind fun y311 => (if y311.length + t305.length < 4398046511104 then ((some (y311 ++ t305 : List (S34))).bind fun y314 => (if 0 ≤ ((l1.length : Int) % (t305.length : Int)) then (if ((l1.length : Int) % (t305.length : Int)) < (t305.length : Int) then ((some (([(⟨(rd_T34 t305 ((l1.length : Int) % (t305.length : Int))).f0, (⟨(rd_T34 t305 ((l1.length : Int) % (t305.length : Int))).f1.f0, (rd_T34 t305 ((l1.length : Int) % (t305.length : Int))).f1.f1, (rd_T34 t305 ((l1.length : Int) % (t305.length : Int))).f1.f2⟩ : S32)⟩ : S34)] : List (S34)) : List (S34))).bind fun y319 => (if y314.length + y319.length < 4398046511104 then (if ((l1.length : Int) % (t305.length : Int)) ≤ (t305.length : Int) then ((impl_ChainOk.f kj7 (t305.take (((l1.length : Int) % (t305.length : Int)) : Int).toNat)).bind fun t329 => (if t329 = true then ((impl_ChainIn.f kj7 (t305.take (((l1.length : Int) % (t305.length : Int)) : Int).toNat) t305).bind fun t334 => (if t334 = true then ((impl_ChainOk.f kj7 (y314 ++ y319)).bind fun t335 => (if t335 = true then (some false) else ((impl_ChainIn.f kj7 t305 (t305.take (((l1.length : Int) % (t305.length : Int)) : Int).toNat)).bind fun t340 => (some (!t340))))) else (some false))) else (some false))) else (none)) else (none))) else (none)) else (none))) else (none)))) = some r := by rw [if_neg (show ¬ (false = true) by decide)] at H; exact H
       clear H
       have H := H1
       clear H1
       by_cases c21 : (t305.length : Int) = 0
       ·rw [if_pos c21] at H
        exact absurd H (by simp)
       ·rw [if_neg c21] at H
        have c21b0 : ((t305.length : Int) == 0) = false := beq_eq_false_iff_ne.mpr c21
        have c21b1 : ((t305.length : Int) != 0) = true := bne_iff_ne.mpr c21
        have c21b2 : ¬ (t305 = []) := fun h_ => c21 (by rw [h_]; rfl)
        obtain ⟨y311, hy311⟩ : ∃ y_ : List (S34), y_ = (([] : List (S34))) := ⟨_, rfl⟩
        replace H : (if y311.length + t305.length < 4398046511104 then ((some (y311 ++ t305 : List (S34))).bind fun y314 => (if 0 ≤ ((l1.length : Int) % (t305.length : Int)) then (if ((l1.length : Int) % (t305.length : Int)) < (t305.length : Int) then ((some (([(⟨(rd_T34 t305 ((l1.length : Int) % (t305.length : Int))).f0, (⟨(rd_T34 t305 ((l1.length : Int) % (t305.length : Int))).f1.f0, (rd_T34 t305 ((l1.length : Int) % (t305.length : Int))).f1.f1, (rd_T34 t305 ((l1.length : Int) % (t305.length : Int))).f1.f2⟩ : S32)⟩ : S34)] : List (S34)) : List (S34))).bind fun y319 => (if y314.length + y319.length < 4398046511104 then (if ((l1.length : Int) % (t305.length : Int)) ≤ (t305.length : Int) then ((impl_ChainOk.f kj7 (t305.take (((l1.length : Int) % (t305.length : Int)) : Int).toNat)).bind fun t329 => (if t329 = true then ((impl_ChainIn.f kj7 (t305.take (((l1.length : Int) % (t305.length : Int)) : Int).toNat) t305).bind fun t334 => (if t334 = true then ((impl_ChainOk.f kj7 (y314 ++ y319)).bind fun t335 => (if t335 = true then (some false) else ((impl_ChainIn.f kj7 t305 (t305.take (((l1.length : Int) % (t305.length : Int)) : Int).toNat)).bind fun t340 => (some (!t340))))) else (some false))) else (some false))) else (none)) else (none))) else (none)) else (none))) else (none)) = some r := by first | (rw [hy311]; with_reducible exact H) | (have H2_ := (Option.bind_some _ _).symm.trans H; rw [hy311]; with_reducible exact H2_) | (have H2_ := (Option.bind_some _ _).symm.trans H; with_reducible exact H2_) | with_reducible exact H | (rw [hy311]; exact H) | exact H
        have Ny311 := Aside0.mk hy311
        clear hy311
        by_cases c22 : y311.length + t305.length < 4398046511104
        ·rw [if_pos c22] at H
         have LMc22 := Aside0.mk c22
         clear c22
         obtain ⟨y314, hy314⟩ : ∃ y_ : List (S34), y_ = (y311 ++ t305) := ⟨_, rfl⟩
         replace H : (if 0 ≤ ((l1.length : Int) % (t305.length : Int)) then (if ((l1.length : Int) % (t305.length : Int)) < (t305.length : Int) then ((some (([(⟨(rd_T34 t305 ((l1.length : Int) % (t305.length : Int))).f0, (⟨(rd_T34 t305 ((l1.length : Int) % (t305.length : Int))).f1.f0, (rd_T34 t305 ((l1.length : Int) % (t305.length : Int))).f1.f1, (rd_T34 t305 ((l1.length : Int) % (t305.length : Int))).f1.f2⟩ : S32)⟩ : S34)] : List (S34)) : List (S34))).bind fun y319 => (if y314.length + y319.length < 4398046511104 then (if ((l1.length : Int) % (t305.length : Int)) ≤ (t305.length : Int) then ((impl_ChainOk.f kj7 (t305.take (((l1.length : Int) % (t305.length : Int)) : Int).toNat)).bind fun t329 => (if t329 = true then ((impl_ChainIn.f kj7 (t305.take (((l1.length : Int) % (t305.length : Int)) : Int).toNat) t305).bind fun t334 => (if t334 = true then ((impl_ChainOk.f kj7 (y314 ++ y319)).bind fun t335 => (if t335 = true then (some false) else ((impl_ChainIn.f kj7 t305 (t305.take (((l1.length : Int) % (t305.length : Int)) : Int).toNat)).bind fun t340 => (some (!t340))))) else (some false))) else (some false))) else (none)) else (none))) else (none)) else (none)) = some r := by first | (rw [hy314]; with_reducible exact H) | (have H2_ := (Option.bind_some _ _).symm.trans H; rw [hy314]; with_reducible exact H2_) | (have H2_ := (Option.bind_some _ _).symm.trans H; with_reducible exact H2_) | with_reducible exact H | (rw [hy314]; exact H) | exact H
         have Ny314 := Aside0.mk hy314
         clear hy314
         obtain ⟨ji23, hji23⟩ : ∃ j_ : Int, ((l1.length : Int) % (t305.length : Int)) = j_ := ⟨_, rfl⟩
         replace H : (if 0 ≤ (ji23) then (if (ji23) < (t305.length : Int) then ((some (([(⟨(rd_T34 t305 (ji23)).f0, (⟨(rd_T34 t305 (ji23)).f1.f0, (rd_T34 t305 (ji23)).f1.f1, (rd_T34 t305 (ji23)).f1.f2⟩ : S32)⟩ : S34)] : List (S34)) : List (S34))).bind fun y319 => (if y314.length + y319.length < 4398046511104 then (if (ji23) ≤ (t305.length : Int) then ((impl_ChainOk.f kj7 (t305.take ((ji23) : Int).toNat)).bind fun t329 => (if t329 = true then ((impl_ChainIn.f kj7 (t305.take ((ji23) : Int).toNat) t305).bind fun t334 => (if t334 = true then ((impl_ChainOk.f kj7 (y314 ++ y319)).bind fun t335 => (if t335 = true then (some false) else ((impl_ChainIn.f kj7 t305 (t305.take ((ji23) : Int).toNat)).bind fun t340 => (some (!t340))))) else (some false))) else (some false))) else (none)) else (none))) else (none)) else (none)) = some r := by first | (rw [hji23] at H; exact H) | (simp only [hji23] at H ⊢; exact H)
         by_cases c24 : 0 ≤ (ji23)
         ·rw [if_pos c24] at H
          have c24b0 : decide (0 ≤ (ji23)) = true := decide_eq_true c24
          clear c24
          by_cases c25 : (ji23) < (t305.length : Int)
          ·rw [if_pos c25] at H
           have c25b0 : decide ((ji23) < (t305.length : Int)) = true := decide_eq_true c25
           clear c25
           obtain ⟨y319, hy319⟩ : ∃ y_ : List (S34), y_ = (([(⟨(rd_T34 t305 (ji23)).f0, (⟨(rd_T34 t305 (ji23)).f1.f0, (rd_T34 t305 (ji23)).f1.f1, (rd_T34 t305 (ji23)).f1.f2⟩ : S32)⟩ : S34)] : List (S34))) := ⟨_, rfl⟩
           replace H : (if y314.length + y319.length < 4398046511104 then (if (ji23) ≤ (t305.length : Int) then ((impl_ChainOk.f kj7 (t305.take ((ji23) : Int).toNat)).bind fun t329 => (if t329 = true then ((impl_ChainIn.f kj7 (t305.take ((ji23) : Int).toNat) t305).bind fun t334 => (if t334 = true then ((impl_ChainOk.f kj7 (y314 ++ y319)).bind fun t335 => (if t335 = true then (some false) else ((impl_ChainIn.f kj7 t305 (t305.take ((ji23) : Int).toNat)).bind fun t340 => (some (!t340))))) else (some false))) else (some false))) else (none)) else (none)) = some r := by first | (rw [hy319]; with_reducible exact H) | (have H2_ := (Option.bind_some _ _).symm.trans H; rw [hy319]; with_reducible exact H2_) | (have H2_ := (Option.bind_some _ _).symm.trans H; with_reducible exact H2_) | with_reducible exact H | (rw [hy319]; exact H) | exact H
           have Ny319 := Aside0.mk hy319
           clear hy319
           by_cases c26 : y314.length + y319.length < 4398046511104
           ·rw [if_pos c26] at H
            have LMc26 := Aside0.mk c26
            clear c26
            obtain ⟨y322, hy322⟩ : ∃ y_ : List (S34), y_ = (y314 ++ y319) := ⟨_, rfl⟩
            replace H : (if (ji23) ≤ (t305.length : Int) then ((impl_ChainOk.f kj7 (t305.take ((ji23) : Int).toNat)).bind fun t329 => (if t329 = true then ((impl_ChainIn.f kj7 (t305.take ((ji23) : Int).toNat) t305).bind fun t334 => (if t334 = true then ((impl_ChainOk.f kj7 y322).bind fun t335 => (if t335 = true then (some false) else ((impl_ChainIn.f kj7 t305 (t305.take ((ji23) : Int).toNat)).bind fun t340 => (some (!t340))))) else (some false))) else (some false))) else (none)) = some r := by first | (rw [hy322]; with_reducible exact H) | (have H2_ := (Option.bind_some _ _).symm.trans H; rw [hy322]; with_reducible exact H2_) | (have H2_ := (Option.bind_some _ _).symm.trans H; with_reducible exact H2_) | with_reducible exact H | (rw [hy322]; exact H) | exact H
            have Ny322 := Aside0.mk hy322
            clear hy322
            have c27b0 := eq_true (of_decide_eq_true (by first | (with_reducible assumption) | assumption) : 0 ≤ (ji23))
            by_cases c28 : (ji23) ≤ (t305.length : Int)
            ·rw [if_pos c28] at H
             have c28b0 := eq_true c28
             have c28b1 : decide ((ji23) ≤ (t305.length : Int)) = true := decide_eq_true c28
             clear c28
             obtain ⟨y325, hy325⟩ : ∃ y_ : List (S34), y_ = (t305.take ((ji23) : Int).toNat) := ⟨_, rfl⟩
             replace H : ((impl_ChainOk.f kj7 y325).bind fun t329 => (if t329 = true then ((impl_ChainIn.f kj7 (t305.take ((ji23) : Int).toNat) t305).bind fun t334 => (if t334 = true then ((impl_ChainOk.f kj7 y322).bind fun t335 => (if t335 = true then (some false) else ((impl_ChainIn.f kj7 t305 (t305.take ((ji23) : Int).toNat)).bind fun t340 => (some (!t340))))) else (some false))) else (some false))) = some r := by first | (rw [hy325]; with_reducible exact H) | (have H2_ := (Option.bind_some _ _).symm.trans H; rw [hy325]; with_reducible exact H2_) | (have H2_ := (Option.bind_some _ _).symm.trans H; with_reducible exact H2_) | with_reducible exact H | (rw [hy325]; exact H) | exact H
             have Ny325 := Aside0.mk hy325
             clear hy325
             replace H := Option.bind_eq_some_iff.mp H
             obtain ⟨t329, A290, H⟩ := H
             replace H : (if t329 = true then ((impl_ChainIn.f kj7 (t305.take ((ji23) : Int).toNat) t305).bind fun t334 => (if t334 = true then ((impl_ChainOk.f kj7 y322).bind fun t335 => (if t335 = true then (some false) else ((impl_ChainIn.f kj7 t305 (t305.take ((ji23) : Int).toNat)).bind fun t340 => (some (!t340))))) else (some false))) else (some false)) = some r := H
             have A29 := Aside0.mk A290
             clear A290
             by_cases c30 : t329 = true
             ·subst c30
              have H1 : ((impl_ChainIn.f kj7 (t305.take ((ji23) : Int).toNat) t305).bind fun t334 => (if t334 = true then ((impl_ChainOk.f kj7 y322).bind fun t335 => (if t335 = true then (some false) else ((impl_ChainIn.f kj7 t305 (t305.take ((ji23) : Int).toNat)).bind fun t340 => (some (!t340))))) else (some false))) = some r := by rw [if_pos rfl] at H; exact H
              clear H
              have H := H1
              clear H1
              have c31b0 := eq_true (of_decide_eq_true (by first | (with_reducible assumption) | assumption) : 0 ≤ (ji23))
              have c32b0 := eq_true (of_decide_eq_true (by first | (with_reducible assumption) | assumption) : (ji23) ≤ (t305.length : Int))
              obtain ⟨y330, hy330⟩ : ∃ y_ : List (S34), y_ = (t305.take ((ji23) : Int).toNat) := ⟨_, rfl⟩
              replace H : ((impl_ChainIn.f kj7 y330 t305).bind fun t334 => (if t334 = true then ((impl_ChainOk.f kj7 y322).bind fun t335 => (if t335 = true then (some false) else ((impl_ChainIn.f kj7 t305 (t305.take ((ji23) : Int).toNat)).bind fun t340 => (some (!t340))))) else (some false))) = some r := by first | (rw [hy330]; with_reducible exact H) | (have H2_ := (Option.bind_some _ _).symm.trans H; rw [hy330]; with_reducible exact H2_) | (have H2_ := (Option.bind_some _ _).symm.trans H; with_reducible exact H2_) | with_reducible exact H | (rw [hy330]; exact H) | exact H
              have Ny330 := Aside0.mk hy330
              have EY330 := Aside0.mk (show y325.length = y330.length from congrArg List.length (Ny325.out.trans Ny330.out.symm))
              clear hy330
              replace H := Option.bind_eq_some_iff.mp H
              obtain ⟨t334, A330, H⟩ := H
              replace H : (if t334 = true then ((impl_ChainOk.f kj7 y322).bind fun t335 => (if t335 = true then (some false) else ((impl_ChainIn.f kj7 t305 (t305.take ((ji23) : Int).toNat)).bind fun t340 => (some (!t340))))) else (some false)) = some r := H
              have A33 := Aside0.mk A330
              clear A330
              by_cases c34 : t334 = true
              ·subst c34
               have H1 : ((impl_ChainOk.f kj7 y322).bind fun t335 => (if t335 = true then (some false) else ((impl_ChainIn.f kj7 t305 (t305.take ((ji23) : Int).toNat)).bind fun t340 => (some (!t340))))) = some r := by rw [if_pos rfl] at H; exact H
               clear H
               have H := H1
               clear H1
               replace H := Option.bind_eq_some_iff.mp H
               obtain ⟨t335, A350, H⟩ := H
               replace H : (if t335 = true then (some false) else ((impl_ChainIn.f kj7 t305 (t305.take ((ji23) : Int).toNat)).bind fun t340 => (some (!t340)))) = some r := H
               have A35 := Aside0.mk A350
               clear A350
               by_cases c36 : t335 = true
               ·subst c36
                have H1 : (some false) = some r := by rw [if_pos rfl] at H; exact H
                clear H
                have H := H1
                clear H1
                obtain rfl := Option.some.inj H
                try go_wp2
                have n0_ := Aside0.mk (Kd.R_drew HO_5.out)
                have n1_ := Aside0.mk (below_drew1 HB.out)
                clear HO_5
                clear HB
                have HO_5 := n0_
                have HB := n1_
                clear n0_ n1_
                have p317 : 0 ≤ ((ji23) : Int) := of_decide_eq_true (by first | (with_reducible assumption) | assumption)
                have q317 : (ji23) < (t305.length : Int) := of_decide_eq_true (by first | (with_reducible assumption) | assumption)
                obtain ⟨ad317, e317, hx317_0, hx317_1, hx317_2, hx317_3⟩ := at_T34 (Kd.R_reads' HO_5.out).2.2 (ji23) p317 q317
                cases e317
                replace p317 := eq_true p317
                replace q317 := eq_true q317
                have p318 : 0 ≤ ((ji23) : Int) := of_decide_eq_true (by first | (with_reducible assumption) | assumption)
                have q318 : (ji23) < (t305.length : Int) := of_decide_eq_true (by first | (with_reducible assumption) | assumption)
                obtain ⟨ad318, e318, hx318_0, hx318_1, hx318_2, hx318_3⟩ := at_T34 (Kd.R_reads' HO_5.out).2.2 (ji23) p318 q318
                obtain rfl : ad317 = ad318 := (by injection e318)
                replace p318 := eq_true p318
                replace q318 := eq_true q318
                refine start_ (n := 17) (S := fun w' => w'.cell? (ad317.add (((ji23)).toNat * 4)) = some (.int .i64 ((rd_T34 t305 (ji23)).f0)) ∧ w'.cell? ⟨(ad317.add (((ji23)).toNat * 4)).block, (ad317.add (((ji23)).toNat * 4)).off + 1, none⟩ = some (.int .i64 ((rd_T34 t305 (ji23)).f1.f0)) ∧ w'.cell? ⟨(ad317.add (((ji23)).toNat * 4)).block, (ad317.add (((ji23)).toNat * 4)).off + 2, none⟩ = some (.int .i64 ((rd_T34 t305 (ji23)).f1.f1)) ∧ w'.cell? ⟨(ad317.add (((ji23)).toNat * 4)).block, (ad317.add (((ji23)).toNat * 4)).off + 3, none⟩ = some (.int .i64 ((rd_T34 t305 (ji23)).f1.f2)) ∧ w'.cell? (ad317.add (((ji23)).toNat * 4)) = some (.int .i64 ((rd_T34 t305 (ji23)).f0)) ∧ w'.cell? ⟨(ad317.add (((ji23)).toNat * 4)).block, (ad317.add (((ji23)).toNat * 4)).off + 1, none⟩ = some (.int .i64 ((rd_T34 t305 (ji23)).f1.f0)) ∧ w'.cell? ⟨(ad317.add (((ji23)).toNat * 4)).block, (ad317.add (((ji23)).toNat * 4)).off + 2, none⟩ = some (.int .i64 ((rd_T34 t305 (ji23)).f1.f1)) ∧ w'.cell? ⟨(ad317.add (((ji23)).toNat * 4)).block, (ad317.add (((ji23)).toNat * 4)).off + 3, none⟩ = some (.int .i64 ((rd_T34 t305 (ji23)).f1.f2))) (ds := []) #[false, false, false, false, false, false, false, false, false, false, false, false, false, false, false, false, false] (by kernel_rfl) rfl rfl ⟨hx317_0, hx317_1, hx317_2, hx317_3, hx318_0, hx318_1, hx318_2, hx318_3⟩ (fun hHeld => ?_); refine with_tabW laws_FnChainLess.tab8 laws_FnChainLess.bits8 (fun HT_ HW_ => ?_)
                generalize wc.drew = w37 at HO_5 HB hx317_0 hx317_1 hx317_2 hx317_3 hx318_0 hx318_1 hx318_2 hx318_3 hHeld ⊢
                refine pure_ (i := 1) (N := some 44) (v := ?_) (a' := ?_) #[false, true, false, false, false, false, false, false, false, false, false, false, false, false, false, false, false] rfl rfl (any_of HT_.out (by kernel_rfl)) (fun _ _ _ h => h) (Or.inl ⟨by rfl, ?_⟩) ?_ ?_
                rotate_left
                ·intro w'
                 go_simp
                 with_reducible rfl
                rotate_left
                ·simp only [Act.put, List.setIfInBounds_toArray, List.set_cons_zero, List.set_cons_succ, i64_w, i32_w]
                 rfl
                refine pure_ (i := 3) (N := some 46) (v := ?_) (a' := ?_) #[false, true, false, true, false, false, false, false, false, false, false, false, false, false, false, false, false] rfl rfl (any_of HT_.out (by kernel_rfl)) (fun _ _ _ h => h) (Or.inl ⟨by rfl, ?_⟩) ?_ ?_
                rotate_left
                ·intro w'
                 go_simp
                 with_reducible rfl
                rotate_left
                ·simp only [Act.put, List.setIfInBounds_toArray, List.set_cons_zero, List.set_cons_succ, i64_w, i32_w]
                 rfl
                refine pure_ (i := 4) (N := some 47) (v := ?_) (a' := ?_) #[false, true, false, true, true, false, false, false, false, false, false, false, false, false, false, false, false] rfl rfl (any_of HT_.out (by kernel_rfl)) (fun _ _ _ h => h) (Or.inl ⟨by rfl, ?_⟩) ?_ ?_
                rotate_left
                ·intro w'
                 go_simp
                 with_reducible rfl
                rotate_left
                ·simp only [Act.put, List.setIfInBounds_toArray, List.set_cons_zero, List.set_cons_succ, i64_w, i32_w]
                 rfl
                refine pure_ (i := 5) (N := some 48) (v := ?_) (a' := ?_) #[false, true, false, true, true, true, false, false, false, false, false, false, false, false, false, false, false] rfl rfl (any_of HT_.out (by kernel_rfl)) (fun _ _ _ h => h) (Or.inl ⟨by rfl, ?_⟩) ?_ ?_
                rotate_left
                ·intro w'
                 go_simp
                 with_reducible rfl
                rotate_left
                ·simp only [Act.put, List.setIfInBounds_toArray, List.set_cons_zero, List.set_cons_succ, i64_w, i32_w]
                 rfl
                refine pure_ (i := 6) (N := some 49) (v := ?_) (a' := ?_) #[false, true, false, true, true, true, true, false, false, false, false, false, false, false, false, false, false] rfl rfl (any_of HT_.out (by kernel_rfl)) (fun _ _ _ h => h) (Or.inl ⟨by rfl, ?_⟩) ?_ ?_
                rotate_left
                ·intro w'
                 go_simp
                 with_reducible rfl
                rotate_left
                ·simp only [Act.put, List.setIfInBounds_toArray, List.set_cons_zero, List.set_cons_succ, i64_w, i32_w]
                 rfl
                refine pure_ (i := 8) (N := some 51) (v := ?_) (a' := ?_) #[false, true, false, true, true, true, true, false, true, false, false, false, false, false, false, false, false] rfl rfl (any_of HT_.out (by kernel_rfl)) (fun _ _ _ h => h) (Or.inl ⟨by rfl, ?_⟩) ?_ ?_
                rotate_left
                ·intro w'
                 go_simp
                 with_reducible rfl
                rotate_left
                ·simp only [Act.put, List.setIfInBounds_toArray, List.set_cons_zero, List.set_cons_succ, i64_w, i32_w]
                 rfl
                refine pure_ (i := 9) (N := some 52) (v := ?_) (a' := ?_) #[false, true, false, true, true, true, true, false, true, true, false, false, false, false, false, false, false] rfl rfl (any_of HT_.out (by kernel_rfl)) (fun _ _ _ h => h) (Or.inl ⟨by rfl, ?_⟩) ?_ ?_
                rotate_left
                ·intro w'
                 go_simp
                 with_reducible rfl
                rotate_left
                ·simp only [Act.put, List.setIfInBounds_toArray, List.set_cons_zero, List.set_cons_succ, i64_w, i32_w]
                 rfl
                refine pure_ (i := 10) (N := some 53) (v := ?_) (a' := ?_) #[false, true, false, true, true, true, true, false, true, true, true, false, false, false, false, false, false] rfl rfl (any_of HT_.out (by kernel_rfl)) (fun _ _ _ h => h) (Or.inl ⟨by rfl, ?_⟩) ?_ ?_
                rotate_left
                ·intro w'
                 go_simp
                 with_reducible rfl
                rotate_left
                ·simp only [Act.put, List.setIfInBounds_toArray, List.set_cons_zero, List.set_cons_succ, i64_w, i32_w]
                 rfl
                refine pure_ (i := 11) (N := some 54) (v := ?_) (a' := ?_) #[false, true, false, true, true, true, true, false, true, true, true, true, false, false, false, false, false] rfl rfl (any_of HT_.out (by kernel_rfl)) (fun _ _ _ h => h) (Or.inl ⟨by rfl, ?_⟩) ?_ ?_
                rotate_left
                ·intro w'
                 go_simp
                 with_reducible rfl
                rotate_left
                ·simp only [Act.put, List.setIfInBounds_toArray, List.set_cons_zero, List.set_cons_succ, i64_w, i32_w]
                 rfl
                refine take_ (i := 7) (N := some 50) (v := ?_) (a' := ?_) #[false, true, false, true, true, true, true, true, true, true, true, true, false, false, false, false, false] rfl rfl (take_ofW HT_.out HW_.out (by kernel_rfl)) (fun _ _ _ h => h) (Or.inl ⟨by rfl, ?_⟩) hHeld ?_ ?_
                rotate_left
                ·rintro w' ⟨s0, s1, s2, s3, s4, s5, s6, s7⟩
                 (try simp only [Int.toNat_natCast] at s0 s1 s2 s3 s4 s5 s6 s7)
                 go_simp
                 with_reducible rfl
                rotate_left
                ·simp only [Act.put, List.setIfInBounds_toArray, List.set_cons_zero, List.set_cons_succ, i64_w, i32_w]
                 rfl
                refine take_ (i := 12) (N := some 55) (v := ?_) (a' := ?_) #[false, true, false, true, true, true, true, true, true, true, true, true, true, false, false, false, false] rfl rfl (take_ofW HT_.out HW_.out (by kernel_rfl)) (fun _ _ _ h => h) (Or.inl ⟨by rfl, ?_⟩) hHeld ?_ ?_
                rotate_left
                ·rintro w' ⟨s0, s1, s2, s3, s4, s5, s6, s7⟩
                 (try simp only [Int.toNat_natCast] at s0 s1 s2 s3 s4 s5 s6 s7)
                 go_simp
                 with_reducible rfl
                rotate_left
                ·simp only [Act.put, List.setIfInBounds_toArray, List.set_cons_zero, List.set_cons_succ, i64_w, i32_w]
                 rfl
                refine pure_ (i := 13) (N := some 56) (v := ?_) (a' := ?_) #[false, true, false, true, true, true, true, true, true, true, true, true, true, true, false, false, false] rfl rfl (any_of HT_.out (by kernel_rfl)) (fun _ _ _ h => h) (Or.inl ⟨by rfl, ?_⟩) ?_ ?_
                rotate_left
                ·intro w'
                 go_simp
                 with_reducible rfl
                rotate_left
                ·simp only [Act.put, List.setIfInBounds_toArray, List.set_cons_zero, List.set_cons_succ, i64_w, i32_w]
                 rfl
                refine join_ (σ := Value × Value × Value) 2 #[true, true, true, true, true, true, true, true, true, true, true, true, true, true, true, false, false] (fun s_ => [(43, s_.1), (45, s_.2.1), (57, s_.2.2)]) (fun s_ w' => (w'.cell? (ad317.add (((ji23)).toNat * 4)) = some (.int .i64 ((rd_T34 t305 (ji23)).f0)) ∧ w'.cell? ⟨(ad317.add (((ji23)).toNat * 4)).block, (ad317.add (((ji23)).toNat * 4)).off + 1, none⟩ = some (.int .i64 ((rd_T34 t305 (ji23)).f1.f0)) ∧ w'.cell? ⟨(ad317.add (((ji23)).toNat * 4)).block, (ad317.add (((ji23)).toNat * 4)).off + 2, none⟩ = some (.int .i64 ((rd_T34 t305 (ji23)).f1.f1)) ∧ w'.cell? ⟨(ad317.add (((ji23)).toNat * 4)).block, (ad317.add (((ji23)).toNat * 4)).off + 3, none⟩ = some (.int .i64 ((rd_T34 t305 (ji23)).f1.f2)) ∧ w'.cell? (ad317.add (((ji23)).toNat * 4)) = some (.int .i64 ((rd_T34 t305 (ji23)).f0)) ∧ w'.cell? ⟨(ad317.add (((ji23)).toNat * 4)).block, (ad317.add (((ji23)).toNat * 4)).off + 1, none⟩ = some (.int .i64 ((rd_T34 t305 (ji23)).f1.f0)) ∧ w'.cell? ⟨(ad317.add (((ji23)).toNat * 4)).block, (ad317.add (((ji23)).toNat * 4)).off + 2, none⟩ = some (.int .i64 ((rd_T34 t305 (ji23)).f1.f1)) ∧ w'.cell? ⟨(ad317.add (((ji23)).toNat * 4)).block, (ad317.add (((ji23)).toNat * 4)).off + 3, none⟩ = some (.int .i64 ((rd_T34 t305 (ji23)).f1.f2))) ∧ (Kd.R k34 34 w' w.heap.size (fun k_ => some k_ ≠ (s_.2.2 : Value).ownBlock ∧ some k_ ≠ (.slice (some ad317) t305.length co10 : Value).ownBlock) s_.2.1 y314) ∧ (Kd.R k34 34 w' w.heap.size (fun k_ => some k_ ≠ (s_.2.1 : Value).ownBlock ∧ some k_ ≠ (.slice (some ad317) t305.length co10 : Value).ownBlock) s_.2.2 y319) ∧ (Kd.R k34 34 w' w.heap.size (fun k_ => some k_ ≠ (s_.2.1 : Value).ownBlock ∧ some k_ ≠ (s_.2.2 : Value).ownBlock) (.slice (some ad317) t305.length co10) t305) ∧ (Below w.heap.size w w')) ?_ ?_
                rotate_left
                ·intro hCont
                 refine two_ (i := 0) (j := 14) (Ni := some 43) (Nj := some 57) #[true, true, false, true, true, true, true, true, true, true, true, true, true, true, false, false, false] #[false, true, false, true, true, true, true, true, true, true, true, true, true, true, true, false, false] rfl rfl rfl rfl (two_of HT_.out (by kernel_rfl)) (by decide) (by decide) (fun K hK => ?_) (fun K hK => ?_)
                 ·skip
                  refine Kd.R_lit_step k34 _ 34 ?hg (N := 43) ?hd (xs := ([] : List (S34))) (inner := []) (ok := fun _ => True) (okp := fun _ => True) ?hr ?hp (fun _ hk => hk) trivial (Below.refl _ _) (Nat.le_refl _) (by simp) ?_; (case hd => rfl); (case hg => rfl); (case hr => first | (go_simp; done) | (go_simp; rfl)); (case hp => exact (Reps.none _ _))
                  intro v312 w38 ho39 hb hg_ hnew_
                  have HS0_ := (hb.cell (World.block_lt_of_cell? _ _ (hHeld.1))).trans (hHeld.1)
                  have HS1_ := (hb.cell (World.block_lt_of_cell? _ _ (hHeld.2.1))).trans (hHeld.2.1)
                  have HS2_ := (hb.cell (World.block_lt_of_cell? _ _ (hHeld.2.2.1))).trans (hHeld.2.2.1)
                  have HS3_ := (hb.cell (World.block_lt_of_cell? _ _ (hHeld.2.2.2.1))).trans (hHeld.2.2.2.1)
                  have HS4_ := (hb.cell (World.block_lt_of_cell? _ _ (hHeld.2.2.2.2.1))).trans (hHeld.2.2.2.2.1)
                  have HS5_ := (hb.cell (World.block_lt_of_cell? _ _ (hHeld.2.2.2.2.2.1))).trans (hHeld.2.2.2.2.2.1)
                  have HS6_ := (hb.cell (World.block_lt_of_cell? _ _ (hHeld.2.2.2.2.2.2.1))).trans (hHeld.2.2.2.2.2.2.1)
                  have HS7_ := (hb.cell (World.block_lt_of_cell? _ _ (hHeld.2.2.2.2.2.2.2))).trans (hHeld.2.2.2.2.2.2.2)
                  clear hg_ hnew_
                  (first | rw [← Ny311.out] at ho39 | (simp only [Int.reduceToNat] at ho39; rw [← Ny311.out] at ho39))
                  have n0_ := Aside0.mk (Kd.R_elder' (by (with_reducible repeat (first | apply Kd.R_alloc | apply Kd.R_drewN | apply Kd.R_drew)); exact HO_5.out) (Kd.R_base ho39) hb)
                  have n1_ := Aside0.mk (Kd.R_lower (Kd.R_new' ho39 (Kd.R_lt (by (with_reducible repeat (first | apply Kd.R_alloc | apply Kd.R_drewN | apply Kd.R_drew)); exact HO_5.out))) (below_size (by repeat (first | (with_reducible first | exact HB.out | apply below_alloc | apply pw_below_drewN | apply below_drew1) | exact HB.out))))
                  have n2_ := Aside0.mk (below_step (by repeat (first | (with_reducible first | exact HB.out | apply below_alloc | apply pw_below_drewN | apply below_drew1) | exact HB.out)) hb)
                  clear HO_5
                  clear HB
                  have HO_5 := n0_
                  have HO313 := n1_
                  have HB := n2_
                  clear n0_ n1_ n2_
                  clear hb ho39
                  refine hK.out _ _ ⟨HS0_, HS1_, HS2_, HS3_, HS4_, HS5_, HS6_, HS7_⟩ (fun hHeld => ?_)
                  clear hK K
                  refine norm_ (a' := ?_) ?_ ?_
                  rotate_left
                  ·show Act.put _ (some 43) _ = _
                   simp only [Act.put, List.setIfInBounds_toArray, List.set_cons_zero, List.set_cons_succ, i64_w, i32_w]
                   rfl
                  refine two_ (i := 2) (j := 14) (Ni := some 45) (Nj := some 57) #[true, true, true, true, true, true, true, true, true, true, true, true, true, true, false, false, false] #[true, true, false, true, true, true, true, true, true, true, true, true, true, true, true, false, false] rfl rfl rfl rfl (two_of HT_.out (by kernel_rfl)) (by decide) (by decide) (fun K hK => ?_) (fun K hK => ?_)
                  ·skip
                   refine Kd.R_append_rows_step k34 (w0 := w) w.heap.size (by rfl) (.tmp 43) (.tmp 44) 25 34 (.agg #[(.int .i64 0), (.int .i64 0), (.int .i64 0), (.int .i64 0)]) 32 rfl Try.underlying25 info34 rfl (by decide) (by omega) v312 y311 t305 _ _ _ (fun k_ => some k_ ≠ (.slice (some ad317) t305.length co10 : Value).ownBlock) (fun _ => False) rfl rfl ?aO ?aR (fun _ _ h => h) (fun _ h => h.elim) ?aF ?aB ?aS ?aL ?_
                   (case aR => repeat (first | exact (Kd.R_reads' HO_5.out).2.2 | (with_reducible refine Kd.C_alloc ?_ _) | (with_reducible refine Kd.C_drewN ?_ _) | (with_reducible refine Kd.C_drew ?_)))
                   (case aB => exact (by repeat (first | (with_reducible first | exact HB.out | apply below_alloc | apply pw_below_drewN | apply below_drew1) | exact HB.out)))
                   (case aF => exact (fun k_ hk => Kd.fresh' (Kd.R_lt (by (with_reducible repeat (first | apply Kd.R_alloc | apply Kd.R_drewN | apply Kd.R_drew)); exact HO_5.out)) k_ hk))
                   (case aO => exact (by (with_reducible repeat (first | apply Kd.R_alloc | apply Kd.R_drewN | apply Kd.R_drew)); exact Kd.R_mono HO313.out (fun _ hk => hk.2)))
                   (case aS => exact (below_size (by repeat (first | (with_reducible first | exact HB.out | apply below_alloc | apply pw_below_drewN | apply below_drew1) | exact HB.out))))
                   (case aL => have := LMc22.out; omega)
                   intro v315 w40 ho hb hg hat
                   have HS0_ := cell_grown hg (hHeld.1) (cell_ne_row (fun e_ => ((HO313.out.1 _ e_.symm).2) rfl))
                   have HS1_ := cell_grown hg (hHeld.2.1) (cell_ne_row (fun e_ => ((HO313.out.1 _ e_.symm).2) rfl))
                   have HS2_ := cell_grown hg (hHeld.2.2.1) (cell_ne_row (fun e_ => ((HO313.out.1 _ e_.symm).2) rfl))
                   have HS3_ := cell_grown hg (hHeld.2.2.2.1) (cell_ne_row (fun e_ => ((HO313.out.1 _ e_.symm).2) rfl))
                   have HS4_ := cell_grown hg (hHeld.2.2.2.2.1) (cell_ne_row (fun e_ => ((HO313.out.1 _ e_.symm).2) rfl))
                   have HS5_ := cell_grown hg (hHeld.2.2.2.2.2.1) (cell_ne_row (fun e_ => ((HO313.out.1 _ e_.symm).2) rfl))
                   have HS6_ := cell_grown hg (hHeld.2.2.2.2.2.2.1) (cell_ne_row (fun e_ => ((HO313.out.1 _ e_.symm).2) rfl))
                   have HS7_ := cell_grown hg (hHeld.2.2.2.2.2.2.2) (cell_ne_row (fun e_ => ((HO313.out.1 _ e_.symm).2) rfl))
                   have hHN0_ := True.intro
                   rw [← Ny314.out] at ho
                   have n0_ := Aside0.mk (Kd.R_after (ok := (fun _ => True)) (by (with_reducible repeat (first | apply Kd.R_alloc | apply Kd.R_drewN | apply Kd.R_drew)); exact HO_5.out) hg hat)
                   have n1_ := Aside0.mk (hb)
                   have n2_ := Aside0.mk (ho)
                   clear HO_5
                   clear HB
                   clear HO313
                   have HO_5 := n0_
                   have HB := n1_
                   have HO316 := n2_
                   clear n0_ n1_ n2_
                   clear ho hb hg hat
                   refine hK.out _ _ ⟨HS0_, HS1_, HS2_, HS3_, HS4_, HS5_, HS6_, HS7_⟩ (fun hHeld => ?_)
                   clear hK K
                   refine norm_ (a' := ?_) ?_ ?_
                   rotate_left
                   ·show Act.put _ (some 45) _ = _
                    simp only [Act.put, List.setIfInBounds_toArray, List.set_cons_zero, List.set_cons_succ, i64_w, i32_w]
                    rfl
                   refine one_ (i := 14) (N := some 57) #[true, true, true, true, true, true, true, true, true, true, true, true, true, true, true, false, false] rfl rfl (one_of HT_.out (by kernel_rfl)) (by decide) (fun K hK => ?_)
                   refine Kd.R_lit_step k34 _ 34 ?hg (N := 57) ?hd (xs := ([(⟨(rd_T34 t305 (ji23)).f0, (⟨(rd_T34 t305 (ji23)).f1.f0, (rd_T34 t305 (ji23)).f1.f1, (rd_T34 t305 (ji23)).f1.f2⟩ : S32)⟩ : S34)] : List (S34))) (inner := [.int .i64 ((rd_T34 t305 (ji23)).f0), .int .i64 ((rd_T34 t305 (ji23)).f1.f0), .int .i64 ((rd_T34 t305 (ji23)).f1.f1), .int .i64 ((rd_T34 t305 (ji23)).f1.f2)]) (ok := fun _ => True) (okp := fun _ => True) ?hr ?hp (fun _ hk => hk) trivial (Below.refl _ _) (Nat.le_refl _) (by simp) ?_; (case hd => rfl); (case hg => rfl); (case hr => first | (go_simp; done) | (go_simp; rfl)); (case hp => exact (Reps.c4 (show Kd.M k34 _ _ _ (⟨(rd_T34 t305 (ji23)).f0, (⟨(rd_T34 t305 (ji23)).f1.f0, (rd_T34 t305 (ji23)).f1.f1, (rd_T34 t305 (ji23)).f1.f2⟩ : S32)⟩ : S34) [.int .i64 ((rd_T34 t305 (ji23)).f0), .int .i64 ((rd_T34 t305 (ji23)).f1.f0), .int .i64 ((rd_T34 t305 (ji23)).f1.f1), .int .i64 ((rd_T34 t305 (ji23)).f1.f2)] from (k34_mkM _ _ _ (⟨(rd_T34 t305 (ji23)).f0, (⟨(rd_T34 t305 (ji23)).f1.f0, (rd_T34 t305 (ji23)).f1.f1, (rd_T34 t305 (ji23)).f1.f2⟩ : S32)⟩ : S34) )) (Reps.none _ _)))
                   intro v320 w41 ho42 hb hg_ hnew_
                   have HS0_ := (hb.cell (World.block_lt_of_cell? _ _ (hHeld.1))).trans (hHeld.1)
                   have HS1_ := (hb.cell (World.block_lt_of_cell? _ _ (hHeld.2.1))).trans (hHeld.2.1)
                   have HS2_ := (hb.cell (World.block_lt_of_cell? _ _ (hHeld.2.2.1))).trans (hHeld.2.2.1)
                   have HS3_ := (hb.cell (World.block_lt_of_cell? _ _ (hHeld.2.2.2.1))).trans (hHeld.2.2.2.1)
                   have HS4_ := (hb.cell (World.block_lt_of_cell? _ _ (hHeld.2.2.2.2.1))).trans (hHeld.2.2.2.2.1)
                   have HS5_ := (hb.cell (World.block_lt_of_cell? _ _ (hHeld.2.2.2.2.2.1))).trans (hHeld.2.2.2.2.2.1)
                   have HS6_ := (hb.cell (World.block_lt_of_cell? _ _ (hHeld.2.2.2.2.2.2.1))).trans (hHeld.2.2.2.2.2.2.1)
                   have HS7_ := (hb.cell (World.block_lt_of_cell? _ _ (hHeld.2.2.2.2.2.2.2))).trans (hHeld.2.2.2.2.2.2.2)
                   clear hg_ hnew_
                   (first | rw [← Ny319.out] at ho42 | (simp only [Int.reduceToNat] at ho42; rw [← Ny319.out] at ho42))
                   have n0_ := Aside0.mk (Kd.R_elder' (by (with_reducible repeat (first | apply Kd.R_alloc | apply Kd.R_drewN | apply Kd.R_drew)); exact HO_5.out) (Kd.R_base ho42) hb)
                   have n1_ := Aside0.mk (Kd.R_elder' (by (with_reducible repeat (first | apply Kd.R_alloc | apply Kd.R_drewN | apply Kd.R_drew)); exact HO316.out) (Kd.R_base ho42) hb)
                   have n2_ := Aside0.mk (Kd.R_lower (Kd.R_new' (Kd.R_new' ho42 (Kd.R_lt (by (with_reducible repeat (first | apply Kd.R_alloc | apply Kd.R_drewN | apply Kd.R_drew)); exact HO_5.out))) (Kd.R_lt (by (with_reducible repeat (first | apply Kd.R_alloc | apply Kd.R_drewN | apply Kd.R_drew)); exact HO316.out))) (below_size (by repeat (first | (with_reducible first | exact HB.out | apply below_alloc | apply pw_below_drewN | apply below_drew1) | exact HB.out))))
                   have n3_ := Aside0.mk (below_step (by repeat (first | (with_reducible first | exact HB.out | apply below_alloc | apply pw_below_drewN | apply below_drew1) | exact HB.out)) hb)
                   clear HO_5
                   clear HO316
                   clear HB
                   have HO_5 := n0_
                   have HO316 := n1_
                   have HO321 := n2_
                   have HB := n3_
                   clear n0_ n1_ n2_ n3_
                   clear hb ho42
                   refine hK.out _ _ ⟨HS0_, HS1_, HS2_, HS3_, HS4_, HS5_, HS6_, HS7_⟩ (fun hHeld => ?_)
                   clear hK K
                   refine norm_ (a' := ?_) ?_ ?_
                   rotate_left
                   ·show Act.put _ (some 57) _ = _
                    simp only [Act.put, List.setIfInBounds_toArray, List.set_cons_zero, List.set_cons_succ, i64_w, i32_w]
                    rfl
                   exact norm_ (by simp only [putAll, Act.put, List.setIfInBounds_toArray, List.set_cons_zero, List.set_cons_succ]) (hCont (v312, v315, v320) _ ⟨hHeld, (by (with_reducible repeat (first | apply Kd.R_alloc | apply Kd.R_drewN | apply Kd.R_drew)); exact Kd.R_mono HO316.out (fun _ hk => ⟨hk.2, hk.1⟩)), (by (with_reducible repeat (first | apply Kd.R_alloc | apply Kd.R_drewN | apply Kd.R_drew)); exact Kd.R_mono HO321.out (fun _ hk => ⟨hk.2, hk.1.2⟩)), (by (with_reducible repeat (first | apply Kd.R_alloc | apply Kd.R_drewN | apply Kd.R_drew)); exact Kd.R_mono HO_5.out (fun _ hk => ⟨hk.1.2, hk.2⟩)), (by repeat (first | (with_reducible first | exact HB.out | apply below_alloc | apply pw_below_drewN | apply below_drew1) | exact HB.out))⟩)
                  ·skip
                   refine Kd.R_lit_step k34 _ 34 ?hg (N := 57) ?hd (xs := ([(⟨(rd_T34 t305 (ji23)).f0, (⟨(rd_T34 t305 (ji23)).f1.f0, (rd_T34 t305 (ji23)).f1.f1, (rd_T34 t305 (ji23)).f1.f2⟩ : S32)⟩ : S34)] : List (S34))) (inner := [.int .i64 ((rd_T34 t305 (ji23)).f0), .int .i64 ((rd_T34 t305 (ji23)).f1.f0), .int .i64 ((rd_T34 t305 (ji23)).f1.f1), .int .i64 ((rd_T34 t305 (ji23)).f1.f2)]) (ok := fun _ => True) (okp := fun _ => True) ?hr ?hp (fun _ hk => hk) trivial (Below.refl _ _) (Nat.le_refl _) (by simp) ?_; (case hd => rfl); (case hg => rfl); (case hr => first | (go_simp; done) | (go_simp; rfl)); (case hp => exact (Reps.c4 (show Kd.M k34 _ _ _ (⟨(rd_T34 t305 (ji23)).f0, (⟨(rd_T34 t305 (ji23)).f1.f0, (rd_T34 t305 (ji23)).f1.f1, (rd_T34 t305 (ji23)).f1.f2⟩ : S32)⟩ : S34) [.int .i64 ((rd_T34 t305 (ji23)).f0), .int .i64 ((rd_T34 t305 (ji23)).f1.f0), .int .i64 ((rd_T34 t305 (ji23)).f1.f1), .int .i64 ((rd_T34 t305 (ji23)).f1.f2)] from (k34_mkM _ _ _ (⟨(rd_T34 t305 (ji23)).f0, (⟨(rd_T34 t305 (ji23)).f1.f0, (rd_T34 t305 (ji23)).f1.f1, (rd_T34 t305 (ji23)).f1.f2⟩ : S32)⟩ : S34) )) (Reps.none _ _)))
                   intro v320 w40 ho41 hb hg_ hnew_
                   have HS0_ := (hb.cell (World.block_lt_of_cell? _ _ (hHeld.1))).trans (hHeld.1)
                   have HS1_ := (hb.cell (World.block_lt_of_cell? _ _ (hHeld.2.1))).trans (hHeld.2.1)
                   have HS2_ := (hb.cell (World.block_lt_of_cell? _ _ (hHeld.2.2.1))).trans (hHeld.2.2.1)
                   have HS3_ := (hb.cell (World.block_lt_of_cell? _ _ (hHeld.2.2.2.1))).trans (hHeld.2.2.2.1)
                   have HS4_ := (hb.cell (World.block_lt_of_cell? _ _ (hHeld.2.2.2.2.1))).trans (hHeld.2.2.2.2.1)
                   have HS5_ := (hb.cell (World.block_lt_of_cell? _ _ (hHeld.2.2.2.2.2.1))).trans (hHeld.2.2.2.2.2.1)
                   have HS6_ := (hb.cell (World.block_lt_of_cell? _ _ (hHeld.2.2.2.2.2.2.1))).trans (hHeld.2.2.2.2.2.2.1)
                   have HS7_ := (hb.cell (World.block_lt_of_cell? _ _ (hHeld.2.2.2.2.2.2.2))).trans (hHeld.2.2.2.2.2.2.2)
                   clear hg_ hnew_
                   (first | rw [← Ny319.out] at ho41 | (simp only [Int.reduceToNat] at ho41; rw [← Ny319.out] at ho41))
                   have n0_ := Aside0.mk (Kd.R_elder' (by (with_reducible repeat (first | apply Kd.R_alloc | apply Kd.R_drewN | apply Kd.R_drew)); exact HO_5.out) (Kd.R_base ho41) hb)
                   have n1_ := Aside0.mk (Kd.R_elder' (by (with_reducible repeat (first | apply Kd.R_alloc | apply Kd.R_drewN | apply Kd.R_drew)); exact HO313.out) (Kd.R_base ho41) hb)
                   have n2_ := Aside0.mk (Kd.R_lower (Kd.R_new' (Kd.R_new' ho41 (Kd.R_lt (by (with_reducible repeat (first | apply Kd.R_alloc | apply Kd.R_drewN | apply Kd.R_drew)); exact HO_5.out))) (Kd.R_lt (by (with_reducible repeat (first | apply Kd.R_alloc | apply Kd.R_drewN | apply Kd.R_drew)); exact HO313.out))) (below_size (by repeat (first | (with_reducible first | exact HB.out | apply below_alloc | apply pw_below_drewN | apply below_drew1) | exact HB.out))))
                   have n3_ := Aside0.mk (below_step (by repeat (first | (with_reducible first | exact HB.out | apply below_alloc | apply pw_below_drewN | apply below_drew1) | exact HB.out)) hb)
                   clear HO_5
                   clear HO313
                   clear HB
                   have HO_5 := n0_
                   have HO313 := n1_
                   have HO321 := n2_
                   have HB := n3_
                   clear n0_ n1_ n2_ n3_
                   clear hb ho41
                   refine hK.out _ _ ⟨HS0_, HS1_, HS2_, HS3_, HS4_, HS5_, HS6_, HS7_⟩ (fun hHeld => ?_)
                   clear hK K
                   refine norm_ (a' := ?_) ?_ ?_
                   rotate_left
                   ·show Act.put _ (some 57) _ = _
                    simp only [Act.put, List.setIfInBounds_toArray, List.set_cons_zero, List.set_cons_succ, i64_w, i32_w]
                    rfl
                   refine one_ (i := 2) (N := some 45) #[true, true, true, true, true, true, true, true, true, true, true, true, true, true, true, false, false] rfl rfl (one_of HT_.out (by kernel_rfl)) (by decide) (fun K hK => ?_)
                   refine Kd.R_append_rows_step k34 (w0 := w) w.heap.size (by rfl) (.tmp 43) (.tmp 44) 25 34 (.agg #[(.int .i64 0), (.int .i64 0), (.int .i64 0), (.int .i64 0)]) 32 rfl Try.underlying25 info34 rfl (by decide) (by omega) v312 y311 t305 _ _ _ (fun k_ => some k_ ≠ (.slice (some ad317) t305.length co10 : Value).ownBlock ∧ some k_ ≠ (v320 : Value).ownBlock) (fun _ => False) rfl rfl ?aO ?aR (fun _ _ h => h) (fun _ h => h.elim) ?aF ?aB ?aS ?aL ?_
                   (case aR => repeat (first | exact (Kd.R_reads' HO_5.out).2.2 | (with_reducible refine Kd.C_alloc ?_ _) | (with_reducible refine Kd.C_drewN ?_ _) | (with_reducible refine Kd.C_drew ?_)))
                   (case aB => exact (by repeat (first | (with_reducible first | exact HB.out | apply below_alloc | apply pw_below_drewN | apply below_drew1) | exact HB.out)))
                   (case aF => exact (fun k_ hk => ⟨Kd.fresh' (Kd.R_lt (by (with_reducible repeat (first | apply Kd.R_alloc | apply Kd.R_drewN | apply Kd.R_drew)); exact HO_5.out)) k_ hk, Kd.fresh' (Kd.R_lt (by (with_reducible repeat (first | apply Kd.R_alloc | apply Kd.R_drewN | apply Kd.R_drew)); exact HO321.out)) k_ hk⟩))
                   (case aO => exact (by (with_reducible repeat (first | apply Kd.R_alloc | apply Kd.R_drewN | apply Kd.R_drew)); exact Kd.R_mono HO313.out (fun _ hk => ⟨hk.1.2, hk.2⟩)))
                   (case aS => exact (below_size (by repeat (first | (with_reducible first | exact HB.out | apply below_alloc | apply pw_below_drewN | apply below_drew1) | exact HB.out))))
                   (case aL => have := LMc22.out; omega)
                   intro v315 w42 ho hb hg hat
                   have HS0_ := cell_grown hg (hHeld.1) (cell_ne_row (fun e_ => ((HO313.out.1 _ e_.symm).1.2) rfl))
                   have HS1_ := cell_grown hg (hHeld.2.1) (cell_ne_row (fun e_ => ((HO313.out.1 _ e_.symm).1.2) rfl))
                   have HS2_ := cell_grown hg (hHeld.2.2.1) (cell_ne_row (fun e_ => ((HO313.out.1 _ e_.symm).1.2) rfl))
                   have HS3_ := cell_grown hg (hHeld.2.2.2.1) (cell_ne_row (fun e_ => ((HO313.out.1 _ e_.symm).1.2) rfl))
                   have HS4_ := cell_grown hg (hHeld.2.2.2.2.1) (cell_ne_row (fun e_ => ((HO313.out.1 _ e_.symm).1.2) rfl))
                   have HS5_ := cell_grown hg (hHeld.2.2.2.2.2.1) (cell_ne_row (fun e_ => ((HO313.out.1 _ e_.symm).1.2) rfl))
                   have HS6_ := cell_grown hg (hHeld.2.2.2.2.2.2.1) (cell_ne_row (fun e_ => ((HO313.out.1 _ e_.symm).1.2) rfl))
                   have HS7_ := cell_grown hg (hHeld.2.2.2.2.2.2.2) (cell_ne_row (fun e_ => ((HO313.out.1 _ e_.symm).1.2) rfl))
                   have hHN1_ := True.intro
                   rw [← Ny314.out] at ho
                   have n0_ := Aside0.mk (Kd.R_after (ok := (fun k_ => some k_ ≠ (v320 : Value).ownBlock)) (by (with_reducible repeat (first | apply Kd.R_alloc | apply Kd.R_drewN | apply Kd.R_drew)); exact Kd.R_mono HO_5.out (fun _ hk => ⟨hk.2, hk.1.2⟩)) hg hat)
                   have n1_ := Aside0.mk (Kd.R_after (ok := (fun k_ => some k_ ≠ (.slice (some ad317) t305.length co10 : Value).ownBlock)) (by (with_reducible repeat (first | apply Kd.R_alloc | apply Kd.R_drewN | apply Kd.R_drew)); exact Kd.R_mono HO321.out (fun _ hk => ⟨hk.1.2, hk.2⟩)) hg hat)
                   have n2_ := Aside0.mk (hb)
                   have n3_ := Aside0.mk (ho)
                   clear HO_5
                   clear HO321
                   clear HB
                   clear HO313
                   have HO_5 := n0_
                   have HO321 := n1_
                   have HB := n2_
                   have HO316 := n3_
                   clear n0_ n1_ n2_ n3_
                   clear ho hb hg hat
                   refine hK.out _ _ ⟨HS0_, HS1_, HS2_, HS3_, HS4_, HS5_, HS6_, HS7_⟩ (fun hHeld => ?_)
                   clear hK K
                   refine norm_ (a' := ?_) ?_ ?_
                   rotate_left
                   ·show Act.put _ (some 45) _ = _
                    simp only [Act.put, List.setIfInBounds_toArray, List.set_cons_zero, List.set_cons_succ, i64_w, i32_w]
                    rfl
                   exact norm_ (by simp only [putAll, Act.put, List.setIfInBounds_toArray, List.set_cons_zero, List.set_cons_succ]) (hCont (v312, v315, v320) _ ⟨hHeld, (by (with_reducible repeat (first | apply Kd.R_alloc | apply Kd.R_drewN | apply Kd.R_drew)); exact Kd.R_mono HO316.out (fun _ hk => ⟨hk.2, hk.1⟩)), (by (with_reducible repeat (first | apply Kd.R_alloc | apply Kd.R_drewN | apply Kd.R_drew)); exact Kd.R_mono HO321.out (fun _ hk => ⟨hk.2, hk.1⟩)), (by (with_reducible repeat (first | apply Kd.R_alloc | apply Kd.R_drewN | apply Kd.R_drew)); exact Kd.R_mono HO_5.out (fun _ hk => ⟨hk.2, hk.1⟩)), (by repeat (first | (with_reducible first | exact HB.out | apply below_alloc | apply pw_below_drewN | apply below_drew1) | exact HB.out))⟩)
                 ·skip
                  refine Kd.R_lit_step k34 _ 34 ?hg (N := 57) ?hd (xs := ([(⟨(rd_T34 t305 (ji23)).f0, (⟨(rd_T34 t305 (ji23)).f1.f0, (rd_T34 t305 (ji23)).f1.f1, (rd_T34 t305 (ji23)).f1.f2⟩ : S32)⟩ : S34)] : List (S34))) (inner := [.int .i64 ((rd_T34 t305 (ji23)).f0), .int .i64 ((rd_T34 t305 (ji23)).f1.f0), .int .i64 ((rd_T34 t305 (ji23)).f1.f1), .int .i64 ((rd_T34 t305 (ji23)).f1.f2)]) (ok := fun _ => True) (okp := fun _ => True) ?hr ?hp (fun _ hk => hk) trivial (Below.refl _ _) (Nat.le_refl _) (by simp) ?_; (case hd => rfl); (case hg => rfl); (case hr => first | (go_simp; done) | (go_simp; rfl)); (case hp => exact (Reps.c4 (show Kd.M k34 _ _ _ (⟨(rd_T34 t305 (ji23)).f0, (⟨(rd_T34 t305 (ji23)).f1.f0, (rd_T34 t305 (ji23)).f1.f1, (rd_T34 t305 (ji23)).f1.f2⟩ : S32)⟩ : S34) [.int .i64 ((rd_T34 t305 (ji23)).f0), .int .i64 ((rd_T34 t305 (ji23)).f1.f0), .int .i64 ((rd_T34 t305 (ji23)).f1.f1), .int .i64 ((rd_T34 t305 (ji23)).f1.f2)] from (k34_mkM _ _ _ (⟨(rd_T34 t305 (ji23)).f0, (⟨(rd_T34 t305 (ji23)).f1.f0, (rd_T34 t305 (ji23)).f1.f1, (rd_T34 t305 (ji23)).f1.f2⟩ : S32)⟩ : S34) )) (Reps.none _ _)))
                  intro v320 w38 ho39 hb hg_ hnew_
                  have HS0_ := (hb.cell (World.block_lt_of_cell? _ _ (hHeld.1))).trans (hHeld.1)
                  have HS1_ := (hb.cell (World.block_lt_of_cell? _ _ (hHeld.2.1))).trans (hHeld.2.1)
                  have HS2_ := (hb.cell (World.block_lt_of_cell? _ _ (hHeld.2.2.1))).trans (hHeld.2.2.1)
                  have HS3_ := (hb.cell (World.block_lt_of_cell? _ _ (hHeld.2.2.2.1))).trans (hHeld.2.2.2.1)
                  have HS4_ := (hb.cell (World.block_lt_of_cell? _ _ (hHeld.2.2.2.2.1))).trans (hHeld.2.2.2.2.1)
                  have HS5_ := (hb.cell (World.block_lt_of_cell? _ _ (hHeld.2.2.2.2.2.1))).trans (hHeld.2.2.2.2.2.1)
                  have HS6_ := (hb.cell (World.block_lt_of_cell? _ _ (hHeld.2.2.2.2.2.2.1))).trans (hHeld.2.2.2.2.2.2.1)
                  have HS7_ := (hb.cell (World.block_lt_of_cell? _ _ (hHeld.2.2.2.2.2.2.2))).trans (hHeld.2.2.2.2.2.2.2)
                  clear hg_ hnew_
                  (first | rw [← Ny319.out] at ho39 | (simp only [Int.reduceToNat] at ho39; rw [← Ny319.out] at ho39))
                  have n0_ := Aside0.mk (Kd.R_elder' (by (with_reducible repeat (first | apply Kd.R_alloc | apply Kd.R_drewN | apply Kd.R_drew)); exact HO_5.out) (Kd.R_base ho39) hb)
                  have n1_ := Aside0.mk (Kd.R_lower (Kd.R_new' ho39 (Kd.R_lt (by (with_reducible repeat (first | apply Kd.R_alloc | apply Kd.R_drewN | apply Kd.R_drew)); exact HO_5.out))) (below_size (by repeat (first | (with_reducible first | exact HB.out | apply below_alloc | apply pw_below_drewN | apply below_drew1) | exact HB.out))))
                  have n2_ := Aside0.mk (below_step (by repeat (first | (with_reducible first | exact HB.out | apply below_alloc | apply pw_below_drewN | apply below_drew1) | exact HB.out)) hb)
                  clear HO_5
                  clear HB
                  have HO_5 := n0_
                  have HO321 := n1_
                  have HB := n2_
                  clear n0_ n1_ n2_
                  clear hb ho39
                  refine hK.out _ _ ⟨HS0_, HS1_, HS2_, HS3_, HS4_, HS5_, HS6_, HS7_⟩ (fun hHeld => ?_)
                  clear hK K
                  refine norm_ (a' := ?_) ?_ ?_
                  rotate_left
                  ·show Act.put _ (some 57) _ = _
                   simp only [Act.put, List.setIfInBounds_toArray, List.set_cons_zero, List.set_cons_succ, i64_w, i32_w]
                   rfl
                  refine one_ (i := 0) (N := some 43) #[true, true, false, true, true, true, true, true, true, true, true, true, true, true, true, false, false] rfl rfl (one_of HT_.out (by kernel_rfl)) (by decide) (fun K hK => ?_)
                  refine Kd.R_lit_step k34 _ 34 ?hg (N := 43) ?hd (xs := ([] : List (S34))) (inner := []) (ok := fun _ => True) (okp := fun _ => True) ?hr ?hp (fun _ hk => hk) trivial (Below.refl _ _) (Nat.le_refl _) (by simp) ?_; (case hd => rfl); (case hg => rfl); (case hr => first | (go_simp; done) | (go_simp; rfl)); (case hp => exact (Reps.none _ _))
                  intro v312 w40 ho41 hb hg_ hnew_
                  have HS0_ := (hb.cell (World.block_lt_of_cell? _ _ (hHeld.1))).trans (hHeld.1)
                  have HS1_ := (hb.cell (World.block_lt_of_cell? _ _ (hHeld.2.1))).trans (hHeld.2.1)
                  have HS2_ := (hb.cell (World.block_lt_of_cell? _ _ (hHeld.2.2.1))).trans (hHeld.2.2.1)
                  have HS3_ := (hb.cell (World.block_lt_of_cell? _ _ (hHeld.2.2.2.1))).trans (hHeld.2.2.2.1)
                  have HS4_ := (hb.cell (World.block_lt_of_cell? _ _ (hHeld.2.2.2.2.1))).trans (hHeld.2.2.2.2.1)
                  have HS5_ := (hb.cell (World.block_lt_of_cell? _ _ (hHeld.2.2.2.2.2.1))).trans (hHeld.2.2.2.2.2.1)
                  have HS6_ := (hb.cell (World.block_lt_of_cell? _ _ (hHeld.2.2.2.2.2.2.1))).trans (hHeld.2.2.2.2.2.2.1)
                  have HS7_ := (hb.cell (World.block_lt_of_cell? _ _ (hHeld.2.2.2.2.2.2.2))).trans (hHeld.2.2.2.2.2.2.2)
                  clear hg_ hnew_
                  (first | rw [← Ny311.out] at ho41 | (simp only [Int.reduceToNat] at ho41; rw [← Ny311.out] at ho41))
                  have n0_ := Aside0.mk (Kd.R_elder' (by (with_reducible repeat (first | apply Kd.R_alloc | apply Kd.R_drewN | apply Kd.R_drew)); exact HO_5.out) (Kd.R_base ho41) hb)
                  have n1_ := Aside0.mk (Kd.R_elder' (by (with_reducible repeat (first | apply Kd.R_alloc | apply Kd.R_drewN | apply Kd.R_drew)); exact HO321.out) (Kd.R_base ho41) hb)
                  have n2_ := Aside0.mk (Kd.R_lower (Kd.R_new' (Kd.R_new' ho41 (Kd.R_lt (by (with_reducible repeat (first | apply Kd.R_alloc | apply Kd.R_drewN | apply Kd.R_drew)); exact HO_5.out))) (Kd.R_lt (by (with_reducible repeat (first | apply Kd.R_alloc | apply Kd.R_drewN | apply Kd.R_drew)); exact HO321.out))) (below_size (by repeat (first | (with_reducible first | exact HB.out | apply below_alloc | apply pw_below_drewN | apply below_drew1) | exact HB.out))))
                  have n3_ := Aside0.mk (below_step (by repeat (first | (with_reducible first | exact HB.out | apply below_alloc | apply pw_below_drewN | apply below_drew1) | exact HB.out)) hb)
                  clear HO_5
                  clear HO321
                  clear HB
                  have HO_5 := n0_
                  have HO321 := n1_
                  have HO313 := n2_
                  have HB := n3_
                  clear n0_ n1_ n2_ n3_
                  clear hb ho41
                  refine hK.out _ _ ⟨HS0_, HS1_, HS2_, HS3_, HS4_, HS5_, HS6_, HS7_⟩ (fun hHeld => ?_)
                  clear hK K
                  refine norm_ (a' := ?_) ?_ ?_
                  rotate_left
                  ·show Act.put _ (some 43) _ = _
                   simp only [Act.put, List.setIfInBounds_toArray, List.set_cons_zero, List.set_cons_succ, i64_w, i32_w]
                   rfl
                  refine one_ (i := 2) (N := some 45) #[true, true, true, true, true, true, true, true, true, true, true, true, true, true, true, false, false] rfl rfl (one_of HT_.out (by kernel_rfl)) (by decide) (fun K hK => ?_)
                  refine Kd.R_append_rows_step k34 (w0 := w) w.heap.size (by rfl) (.tmp 43) (.tmp 44) 25 34 (.agg #[(.int .i64 0), (.int .i64 0), (.int .i64 0), (.int .i64 0)]) 32 rfl Try.underlying25 info34 rfl (by decide) (by omega) v312 y311 t305 _ _ _ (fun k_ => some k_ ≠ (.slice (some ad317) t305.length co10 : Value).ownBlock ∧ some k_ ≠ (v320 : Value).ownBlock) (fun _ => False) rfl rfl ?aO ?aR (fun _ _ h => h) (fun _ h => h.elim) ?aF ?aB ?aS ?aL ?_
                  (case aR => repeat (first | exact (Kd.R_reads' HO_5.out).2.2 | (with_reducible refine Kd.C_alloc ?_ _) | (with_reducible refine Kd.C_drewN ?_ _) | (with_reducible refine Kd.C_drew ?_)))
                  (case aB => exact (by repeat (first | (with_reducible first | exact HB.out | apply below_alloc | apply pw_below_drewN | apply below_drew1) | exact HB.out)))
                  (case aF => exact (fun k_ hk => ⟨Kd.fresh' (Kd.R_lt (by (with_reducible repeat (first | apply Kd.R_alloc | apply Kd.R_drewN | apply Kd.R_drew)); exact HO_5.out)) k_ hk, Kd.fresh' (Kd.R_lt (by (with_reducible repeat (first | apply Kd.R_alloc | apply Kd.R_drewN | apply Kd.R_drew)); exact HO321.out)) k_ hk⟩))
                  (case aO => exact (by (with_reducible repeat (first | apply Kd.R_alloc | apply Kd.R_drewN | apply Kd.R_drew)); exact Kd.R_mono HO313.out (fun _ hk => ⟨hk.1.2, hk.2⟩)))
                  (case aS => exact (below_size (by repeat (first | (with_reducible first | exact HB.out | apply below_alloc | apply pw_below_drewN | apply below_drew1) | exact HB.out))))
                  (case aL => have := LMc22.out; omega)
                  intro v315 w42 ho hb hg hat
                  have HS0_ := cell_grown hg (hHeld.1) (cell_ne_row (fun e_ => ((HO313.out.1 _ e_.symm).1.2) rfl))
                  have HS1_ := cell_grown hg (hHeld.2.1) (cell_ne_row (fun e_ => ((HO313.out.1 _ e_.symm).1.2) rfl))
                  have HS2_ := cell_grown hg (hHeld.2.2.1) (cell_ne_row (fun e_ => ((HO313.out.1 _ e_.symm).1.2) rfl))
                  have HS3_ := cell_grown hg (hHeld.2.2.2.1) (cell_ne_row (fun e_ => ((HO313.out.1 _ e_.symm).1.2) rfl))
                  have HS4_ := cell_grown hg (hHeld.2.2.2.2.1) (cell_ne_row (fun e_ => ((HO313.out.1 _ e_.symm).1.2) rfl))
                  have HS5_ := cell_grown hg (hHeld.2.2.2.2.2.1) (cell_ne_row (fun e_ => ((HO313.out.1 _ e_.symm).1.2) rfl))
                  have HS6_ := cell_grown hg (hHeld.2.2.2.2.2.2.1) (cell_ne_row (fun e_ => ((HO313.out.1 _ e_.symm).1.2) rfl))
                  have HS7_ := cell_grown hg (hHeld.2.2.2.2.2.2.2) (cell_ne_row (fun e_ => ((HO313.out.1 _ e_.symm).1.2) rfl))
                  have hHN2_ := True.intro
                  rw [← Ny314.out] at ho
                  have n0_ := Aside0.mk (Kd.R_after (ok := (fun k_ => some k_ ≠ (v320 : Value).ownBlock)) (by (with_reducible repeat (first | apply Kd.R_alloc | apply Kd.R_drewN | apply Kd.R_drew)); exact Kd.R_mono HO_5.out (fun _ hk => ⟨hk.1.2, hk.2⟩)) hg hat)
                  have n1_ := Aside0.mk (Kd.R_after (ok := (fun k_ => some k_ ≠ (.slice (some ad317) t305.length co10 : Value).ownBlock)) (by (with_reducible repeat (first | apply Kd.R_alloc | apply Kd.R_drewN | apply Kd.R_drew)); exact Kd.R_mono HO321.out (fun _ hk => ⟨hk.1.2, hk.2⟩)) hg hat)
                  have n2_ := Aside0.mk (hb)
                  have n3_ := Aside0.mk (ho)
                  clear HO_5
                  clear HO321
                  clear HB
                  clear HO313
                  have HO_5 := n0_
                  have HO321 := n1_
                  have HB := n2_
                  have HO316 := n3_
                  clear n0_ n1_ n2_ n3_
                  clear ho hb hg hat
                  refine hK.out _ _ ⟨HS0_, HS1_, HS2_, HS3_, HS4_, HS5_, HS6_, HS7_⟩ (fun hHeld => ?_)
                  clear hK K
                  refine norm_ (a' := ?_) ?_ ?_
                  rotate_left
                  ·show Act.put _ (some 45) _ = _
                   simp only [Act.put, List.setIfInBounds_toArray, List.set_cons_zero, List.set_cons_succ, i64_w, i32_w]
                   rfl
                  exact norm_ (by simp only [putAll, Act.put, List.setIfInBounds_toArray, List.set_cons_zero, List.set_cons_succ]) (hCont (v312, v315, v320) _ ⟨hHeld, (by (with_reducible repeat (first | apply Kd.R_alloc | apply Kd.R_drewN | apply Kd.R_drew)); exact Kd.R_mono HO316.out (fun _ hk => ⟨hk.2, hk.1⟩)), (by (with_reducible repeat (first | apply Kd.R_alloc | apply Kd.R_drewN | apply Kd.R_drew)); exact Kd.R_mono HO321.out (fun _ hk => ⟨hk.2, hk.1⟩)), (by (with_reducible repeat (first | apply Kd.R_alloc | apply Kd.R_drewN | apply Kd.R_drew)); exact Kd.R_mono HO_5.out (fun _ hk => ⟨hk.2, hk.1⟩)), (by repeat (first | (with_reducible first | exact HB.out | apply below_alloc | apply pw_below_drewN | apply below_drew1) | exact HB.out))⟩)
                rintro ⟨v312, v315, v320⟩ w43 ⟨hS_, h0_, h1_, h2_, h3_⟩
                have n0_ : Aside0 (Kd.R k34 34 w43 w.heap.size (fun k_ => some k_ ≠ (v320 : Value).ownBlock ∧ some k_ ≠ (.slice (some ad317) t305.length co10 : Value).ownBlock) v315 y314) := ⟨h0_⟩
                have n1_ : Aside0 (Kd.R k34 34 w43 w.heap.size (fun k_ => some k_ ≠ (v315 : Value).ownBlock ∧ some k_ ≠ (.slice (some ad317) t305.length co10 : Value).ownBlock) v320 y319) := ⟨h1_⟩
                have n2_ : Aside0 (Kd.R k34 34 w43 w.heap.size (fun k_ => some k_ ≠ (v315 : Value).ownBlock ∧ some k_ ≠ (v320 : Value).ownBlock) (.slice (some ad317) t305.length co10) t305) := ⟨h2_⟩
                have n3_ : Aside0 (Below w.heap.size w w43) := ⟨h3_⟩
                clear HO_5
                clear HB
                clear h0_ h1_ h2_ h3_
                have HO316 := n0_
                have HO321 := n1_
                have HO_5 := n2_
                have HB := n3_
                clear n0_ n1_ n2_ n3_
                have hHeld : w43.cell? (ad317.add (((ji23)).toNat * 4)) = some (.int .i64 ((rd_T34 t305 (ji23)).f0)) ∧ w43.cell? ⟨(ad317.add (((ji23)).toNat * 4)).block, (ad317.add (((ji23)).toNat * 4)).off + 1, none⟩ = some (.int .i64 ((rd_T34 t305 (ji23)).f1.f0)) ∧ w43.cell? ⟨(ad317.add (((ji23)).toNat * 4)).block, (ad317.add (((ji23)).toNat * 4)).off + 2, none⟩ = some (.int .i64 ((rd_T34 t305 (ji23)).f1.f1)) ∧ w43.cell? ⟨(ad317.add (((ji23)).toNat * 4)).block, (ad317.add (((ji23)).toNat * 4)).off + 3, none⟩ = some (.int .i64 ((rd_T34 t305 (ji23)).f1.f2)) ∧ w43.cell? (ad317.add (((ji23)).toNat * 4)) = some (.int .i64 ((rd_T34 t305 (ji23)).f0)) ∧ w43.cell? ⟨(ad317.add (((ji23)).toNat * 4)).block, (ad317.add (((ji23)).toNat * 4)).off + 1, none⟩ = some (.int .i64 ((rd_T34 t305 (ji23)).f1.f0)) ∧ w43.cell? ⟨(ad317.add (((ji23)).toNat * 4)).block, (ad317.add (((ji23)).toNat * 4)).off + 2, none⟩ = some (.int .i64 ((rd_T34 t305 (ji23)).f1.f1)) ∧ w43.cell? ⟨(ad317.add (((ji23)).toNat * 4)).block, (ad317.add (((ji23)).toNat * 4)).off + 3, none⟩ = some (.int .i64 ((rd_T34 t305 (ji23)).f1.f2)) := hS_
                obtain ⟨Ao45, co45, eo45⟩ := Kd.R_slice HO321.out
                (first | subst eo45 | (injection eo45 with f1_ f2_ f3_; have f4_ := f1_.symm; have f5_ := f3_.symm; clear f1_ f2_ f3_; subst f4_; subst f5_))
                refine norm_ (a' := ?_) ?_ ?_
                rotate_left
                ·simp only [putAll, Act.put, List.setIfInBounds_toArray, List.set_cons_zero, List.set_cons_succ]
                 rfl
                refine one_ (i := 15) (N := some 58) #[true, true, true, true, true, true, true, true, true, true, true, true, true, true, true, true, false] rfl rfl (one_of HT_.out (by kernel_rfl)) (by decide) (fun K hK => ?_)
                refine Kd.R_append_rows_step k34 (w0 := w) w.heap.size (by rfl) (.tmp 45) (.tmp 57) 25 34 (.agg #[(.int .i64 0), (.int .i64 0), (.int .i64 0), (.int .i64 0)]) 32 rfl Try.underlying25 info34 rfl (by decide) (by omega) v315 y314 y319 _ _ _ (fun k_ => some k_ ≠ (.slice (some ad317) t305.length co10 : Value).ownBlock ∧ some k_ ≠ (.slice Ao45 y319.length co45 : Value).ownBlock) (fun _ => False) rfl rfl ?aO ?aR (fun _ _ h => h) (fun _ h => h.elim) ?aF ?aB ?aS ?aL ?_
                (case aR => repeat (first | exact (Kd.R_reads' HO321.out).2.2 | (with_reducible refine Kd.C_alloc ?_ _) | (with_reducible refine Kd.C_drewN ?_ _) | (with_reducible refine Kd.C_drew ?_)))
                (case aB => exact (by repeat (first | (with_reducible first | exact HB.out | apply below_alloc | apply pw_below_drewN | apply below_drew1) | exact HB.out)))
                (case aF => exact (fun k_ hk => ⟨Kd.fresh' (Kd.R_lt (by (with_reducible repeat (first | apply Kd.R_alloc | apply Kd.R_drewN | apply Kd.R_drew)); exact HO_5.out)) k_ hk, Kd.fresh' (Kd.R_lt (by (with_reducible repeat (first | apply Kd.R_alloc | apply Kd.R_drewN | apply Kd.R_drew)); exact HO321.out)) k_ hk⟩))
                (case aO => exact (by (with_reducible repeat (first | apply Kd.R_alloc | apply Kd.R_drewN | apply Kd.R_drew)); exact Kd.R_mono HO316.out (fun _ hk => ⟨hk.2, hk.1⟩)))
                (case aS => exact (below_size (by repeat (first | (with_reducible first | exact HB.out | apply below_alloc | apply pw_below_drewN | apply below_drew1) | exact HB.out))))
                (case aL => have := LMc26.out; omega)
                intro v323 w44 ho hb hg hat
                have HS0_ := cell_grown hg (hHeld.1) (cell_ne_row (fun e_ => ((HO316.out.1 _ e_.symm).2) rfl))
                have HS1_ := cell_grown hg (hHeld.2.1) (cell_ne_row (fun e_ => ((HO316.out.1 _ e_.symm).2) rfl))
                have HS2_ := cell_grown hg (hHeld.2.2.1) (cell_ne_row (fun e_ => ((HO316.out.1 _ e_.symm).2) rfl))
                have HS3_ := cell_grown hg (hHeld.2.2.2.1) (cell_ne_row (fun e_ => ((HO316.out.1 _ e_.symm).2) rfl))
                have HS4_ := cell_grown hg (hHeld.2.2.2.2.1) (cell_ne_row (fun e_ => ((HO316.out.1 _ e_.symm).2) rfl))
                have HS5_ := cell_grown hg (hHeld.2.2.2.2.2.1) (cell_ne_row (fun e_ => ((HO316.out.1 _ e_.symm).2) rfl))
                have HS6_ := cell_grown hg (hHeld.2.2.2.2.2.2.1) (cell_ne_row (fun e_ => ((HO316.out.1 _ e_.symm).2) rfl))
                have HS7_ := cell_grown hg (hHeld.2.2.2.2.2.2.2) (cell_ne_row (fun e_ => ((HO316.out.1 _ e_.symm).2) rfl))
                have hHN4_ := True.intro
                rw [← Ny322.out] at ho
                have n0_ := Aside0.mk (Kd.R_after (ok := (fun k_ => some k_ ≠ (.slice Ao45 y319.length co45 : Value).ownBlock)) (by (with_reducible repeat (first | apply Kd.R_alloc | apply Kd.R_drewN | apply Kd.R_drew)); exact Kd.R_mono HO_5.out (fun _ hk => ⟨hk.2, hk.1⟩)) hg hat)
                have n1_ := Aside0.mk (Kd.R_after (ok := (fun k_ => some k_ ≠ (.slice (some ad317) t305.length co10 : Value).ownBlock)) (by (with_reducible repeat (first | apply Kd.R_alloc | apply Kd.R_drewN | apply Kd.R_drew)); exact Kd.R_mono HO321.out (fun _ hk => ⟨hk.2, hk.1⟩)) hg hat)
                have n2_ := Aside0.mk (hb)
                have n3_ := Aside0.mk (ho)
                clear HO_5
                clear HO321
                clear HB
                clear HO316
                have HO_5 := n0_
                have HO321 := n1_
                have HB := n2_
                have HO324 := n3_
                clear n0_ n1_ n2_ n3_
                clear ho hb hg hat
                refine hK.out _ _ ⟨HS0_, HS1_, HS2_, HS3_, HS4_, HS5_, HS6_, HS7_⟩ (fun hHeld => ?_)
                clear hK K
                refine norm_ (a' := ?_) ?_ ?_
                rotate_left
                ·show Act.put _ (some 58) _ = _
                 simp only [Act.put, List.setIfInBounds_toArray, List.set_cons_zero, List.set_cons_succ, i64_w, i32_w]
                 rfl
                refine pure_ (i := 16) (N := some 8) (v := ?_) (a' := ?_) #[true, true, true, true, true, true, true, true, true, true, true, true, true, true, true, true, true] rfl rfl (any_of HT_.out (by kernel_rfl)) (fun _ _ _ h => h) (Or.inl ⟨by rfl, ?_⟩) ?_ ?_
                rotate_left
                ·intro w'
                 go_simp
                 with_reducible rfl
                rotate_left
                ·simp only [Act.put, List.setIfInBounds_toArray, List.set_cons_zero, List.set_cons_succ, i64_w, i32_w]
                 rfl
                refine done_ (done_of HT_.out (by kernel_rfl)) ?_
                have q46 : ((ji23) : Int) ≤ ((t305.length : Int) : Int) := of_decide_eq_true (by first | (with_reducible assumption) | assumption)
                obtain ⟨i046, hi046, _, hsz46, _⟩ := info_parts info34
                have hroom46 : t305.length ≤ co10 := (Kd.R_reads' HO_5.out).2.1
                have hC46 : Kd.C k34 _ (some ad317) t305.length t305 := (Kd.R_reads' HO_5.out).2.2
                have hcut46 := cut_to (P := Try.prog) 25 34 .i64 Try.underlying25 hi046 (some ad317) t305.length co10 (ji23) (of_decide_eq_true (by first | (with_reducible assumption) | assumption)) q46 hroom46
                have hr46 := Kd.C_take (m := ((ji23) : Int).toNat) hC46 (by omega)
                have hy46 : y325.length = ((ji23) : Int).toNat := (by rw [Ny325.out, List.length_take]; omega)
                rw [← Ny325.out] at hr46
                rw [← hy46] at hcut46
                have HR328 := Aside0.mk hr46
                have HC328 := Aside0.mk (show y325.length ≤ co10 from by omega)
                clear hr46 hC46 hroom46 hi046 hsz46
                have KY46 := Aside0.mk hy46
                clear hy46
                have KL46 := Aside0.mk (show ((ji23) : Int).toNat ≤ t305.length from by omega)
                replace q46 := eq_true q46
                try go_wp2_with (first | ((with_reducible refine gate_callee (f := 14) rfl ?_); refine goesL_ (some 62) rfl rfl Try.func14 (by kernel_rfl) rfl #[.slice (some ad317) y325.length co10] rfl (by (try simp only [List.map_toArray, List.map_cons, List.map_nil]); first | done | rfl | (simp only [List.length_drop, List.length_take]; rfl)) ?_; (with_reducible refine (impl_ChainOk.calls kj7 _ _ y325 true _ ?side1 ?side2 A29.out).mono ?_); (case side1 => repeat (first | exact (by repeat (first | (with_reducible exact HR328.out) | (with_reducible refine Kd.C_alloc ?_ _) | (with_reducible refine Kd.C_drewN ?_ _) | (with_reducible refine Kd.C_drew ?_) | exact HR328.out)) | (with_reducible refine Kd.C_alloc ?_ _) | (with_reducible refine Kd.C_drewN ?_ _) | (with_reducible refine Kd.C_drew ?_))); (case side2 => exact HC328.out); rintro e w47 ⟨rfl, hb⟩; refine ⟨_, rfl, ?_⟩; have n0_ := Aside0.mk (Kd.R_below (by (with_reducible repeat (first | apply Kd.R_alloc | apply Kd.R_drewN | apply Kd.R_drew)); exact HO_5.out) hb); have n1_ := Aside0.mk (Kd.R_below (by (with_reducible repeat (first | apply Kd.R_alloc | apply Kd.R_drewN | apply Kd.R_drew)); exact HO321.out) hb); have n2_ := Aside0.mk (Kd.R_below (by (with_reducible repeat (first | apply Kd.R_alloc | apply Kd.R_drewN | apply Kd.R_drew)); exact HO324.out) hb); have n3_ := Aside0.mk (Kd.C_below (by repeat (first | (with_reducible exact HR328.out) | (with_reducible refine Kd.C_alloc ?_ _) | (with_reducible refine Kd.C_drewN ?_ _) | (with_reducible refine Kd.C_drew ?_) | exact HR328.out)) hb); have n4_ := Aside0.mk (below_step (by repeat (first | (with_reducible first | exact HB.out | apply below_alloc | apply pw_below_drewN | apply below_drew1) | exact HB.out)) hb); clear HO_5; clear HO321; clear HO324; clear HR328; clear HB; have HO_5 := n0_; have HO321 := n1_; have HO324 := n2_; have HR328 := n3_; have HB := n4_; clear n0_ n1_ n2_ n3_ n4_; (try clear hb); (try clear hb2); (try clear hk); (try clear hi); have q48 : ((ji23) : Int) ≤ ((t305.length : Int) : Int) := of_decide_eq_true (by first | (with_reducible assumption) | assumption); obtain ⟨i048, hi048, _, hsz48, _⟩ := info_parts info34; have hroom48 : t305.length ≤ co10 := (Kd.R_reads' HO_5.out).2.1; have hC48 : Kd.C k34 _ (some ad317) t305.length t305 := (Kd.R_reads' HO_5.out).2.2; have hcut48 := cut_to (P := Try.prog) 25 34 .i64 Try.underlying25 hi048 (some ad317) t305.length co10 (ji23) (of_decide_eq_true (by first | (with_reducible assumption) | assumption)) q48 hroom48; have hr48 := Kd.C_take (m := ((ji23) : Int).toNat) hC48 (by omega); have hy48 : y330.length = ((ji23) : Int).toNat := (by rw [Ny330.out, List.length_take]; omega); rw [← Ny330.out] at hr48; rw [← hy48] at hcut48; have HR333 := Aside0.mk hr48; have HC333 := Aside0.mk (show y330.length ≤ co10 from by omega); clear hr48 hC48 hroom48 hi048 hsz48; have KY48 := Aside0.mk hy48; clear hy48; have KL48 := Aside0.mk (show ((ji23) : Int).toNat ≤ t305.length from by omega); replace q48 := eq_true q48) | (go_at_call 17; (try rw [EY330.out]); (with_reducible refine (impl_ChainIn.calls kj7 _ _ y330 _ _ t305 true _ ?side1 ?side2 ?side3 ?side4 A33.out).mono ?_); (case side1 => repeat (first | exact (by repeat (first | (with_reducible exact HR333.out) | (with_reducible refine Kd.C_alloc ?_ _) | (with_reducible refine Kd.C_drewN ?_ _) | (with_reducible refine Kd.C_drew ?_) | exact HR333.out)) | (with_reducible refine Kd.C_alloc ?_ _) | (with_reducible refine Kd.C_drewN ?_ _) | (with_reducible refine Kd.C_drew ?_))); (case side2 => exact HC333.out); (case side3 => repeat (first | exact (Kd.R_reads' HO_5.out).2.2 | (with_reducible refine Kd.C_alloc ?_ _) | (with_reducible refine Kd.C_drewN ?_ _) | (with_reducible refine Kd.C_drew ?_))); (case side4 => exact (Kd.R_reads' HO_5.out).2.1); rintro e w49 ⟨rfl, hb⟩; have n0_ := Aside0.mk (Kd.R_below (by (with_reducible repeat (first | apply Kd.R_alloc | apply Kd.R_drewN | apply Kd.R_drew)); exact HO_5.out) hb); have n1_ := Aside0.mk (Kd.R_below (by (with_reducible repeat (first | apply Kd.R_alloc | apply Kd.R_drewN | apply Kd.R_drew)); exact HO321.out) hb); have n2_ := Aside0.mk (Kd.R_below (by (with_reducible repeat (first | apply Kd.R_alloc | apply Kd.R_drewN | apply Kd.R_drew)); exact HO324.out) hb); have n3_ := Aside0.mk (Kd.C_below (by repeat (first | (with_reducible exact HR328.out) | (with_reducible refine Kd.C_alloc ?_ _) | (with_reducible refine Kd.C_drewN ?_ _) | (with_reducible refine Kd.C_drew ?_) | exact HR328.out)) hb); have n4_ := Aside0.mk (Kd.C_below (by repeat (first | (with_reducible exact HR333.out) | (with_reducible refine Kd.C_alloc ?_ _) | (with_reducible refine Kd.C_drewN ?_ _) | (with_reducible refine Kd.C_drew ?_) | exact HR333.out)) hb); have n5_ := Aside0.mk (below_step (by repeat (first | (with_reducible first | exact HB.out | apply below_alloc | apply pw_below_drewN | apply below_drew1) | exact HB.out)) hb); clear HO_5; clear HO321; clear HO324; clear HR328; clear HR333; clear HB; have HO_5 := n0_; have HO321 := n1_; have HO324 := n2_; have HR328 := n3_; have HR333 := n4_; have HB := n5_; clear n0_ n1_ n2_ n3_ n4_ n5_; (try clear hb); (try clear hb2); (try clear hk); (try clear hi); obtain ⟨Ao50, co50, eo50⟩ := Kd.R_slice HO324.out; subst eo50) | (go_at_call 14; (with_reducible refine (impl_ChainOk.calls kj7 _ _ y322 true _ ?side1 ?side2 A35.out).mono ?_); (case side1 => repeat (first | exact (Kd.R_reads' HO324.out).2.2 | (with_reducible refine Kd.C_alloc ?_ _) | (with_reducible refine Kd.C_drewN ?_ _) | (with_reducible refine Kd.C_drew ?_))); (case side2 => exact (Kd.R_reads' HO324.out).2.1); rintro e w51 ⟨rfl, hb⟩; have n0_ := Aside0.mk (Kd.R_below (by (with_reducible repeat (first | apply Kd.R_alloc | apply Kd.R_drewN | apply Kd.R_drew)); exact HO_5.out) hb); have n1_ := Aside0.mk (Kd.R_below (by (with_reducible repeat (first | apply Kd.R_alloc | apply Kd.R_drewN | apply Kd.R_drew)); exact HO321.out) hb); have n2_ := Aside0.mk (Kd.R_below (by (with_reducible repeat (first | apply Kd.R_alloc | apply Kd.R_drewN | apply Kd.R_drew)); exact HO324.out) hb); have n3_ := Aside0.mk (Kd.C_below (by repeat (first | (with_reducible exact HR328.out) | (with_reducible refine Kd.C_alloc ?_ _) | (with_reducible refine Kd.C_drewN ?_ _) | (with_reducible refine Kd.C_drew ?_) | exact HR328.out)) hb); have n4_ := Aside0.mk (Kd.C_below (by repeat (first | (with_reducible exact HR333.out) | (with_reducible refine Kd.C_alloc ?_ _) | (with_reducible refine Kd.C_drewN ?_ _) | (with_reducible refine Kd.C_drew ?_) | exact HR333.out)) hb); have n5_ := Aside0.mk (below_step (by repeat (first | (with_reducible first | exact HB.out | apply below_alloc | apply pw_below_drewN | apply below_drew1) | exact HB.out)) hb); clear HO_5; clear HO321; clear HO324; clear HR328; clear HR333; clear HB; have HO_5 := n0_; have HO321 := n1_; have HO324 := n2_; have HR328 := n3_; have HR333 := n4_; have HB := n5_; clear n0_ n1_ n2_ n3_ n4_ n5_; (try clear hb); (try clear hb2); (try clear hk); (try clear hi)))
                go_ret
                exact ⟨by first | rfl | (simp only [i64_w, i32_w]; done) | (simp only [i64_w, i32_w]; rfl) | (simp [errW_none, errW_some] <;> rfl) | (simp only [← hji23]; first | rfl | (simp [errW_none, errW_some] <;> rfl)) | (simp [*, errW_none, errW_some] <;> rfl), by repeat (first | (with_reducible first | exact HB.out | apply below_alloc | apply pw_below_drewN | apply below_drew1) | exact HB.out)⟩
               ·replace c36 := Bool.eq_false_iff.mpr c36
                subst c36
                have H1 : ((impl_ChainIn.f kj7 t305 (t305.take ((ji23) : Int).toNat)).bind fun t340 => (some (!t340))) = some r := by rw [if_neg (show ¬ (false = true) by decide)] at H; exact H
                clear H
                have H := H1
                clear H1
                have c52b0 := eq_true (of_decide_eq_true (by first | (with_reducible assumption) | assumption) : 0 ≤ (ji23))
                have c53b0 := eq_true (of_decide_eq_true (by first | (with_reducible assumption) | assumption) : (ji23) ≤ (t305.length : Int))
                obtain ⟨y336, hy336⟩ : ∃ y_ : List (S34), y_ = (t305.take ((ji23) : Int).toNat) := ⟨_, rfl⟩
                replace H : ((impl_ChainIn.f kj7 t305 y336).bind fun t340 => (some (!t340))) = some r := by first | (rw [hy336]; with_reducible exact H) | (have H2_ := (Option.bind_some _ _).symm.trans H; rw [hy336]; with_reducible exact H2_) | (have H2_ := (Option.bind_some _ _).symm.trans H; with_reducible exact H2_) | with_reducible exact H | (rw [hy336]; exact H) | exact H
                have Ny336 := Aside0.mk hy336
                have EY336 := Aside0.mk (show y325.length = y336.length from congrArg List.length (Ny325.out.trans Ny336.out.symm))
                clear hy336
                replace H := Option.bind_eq_some_iff.mp H
                obtain ⟨t340, A540, H⟩ := H
                replace H : (some (!t340)) = some r := H
                have A54 := Aside0.mk A540
                clear A540
                obtain rfl := Option.some.inj H
                try go_wp2
                have n0_ := Aside0.mk (Kd.R_drew HO_5.out)
                have n1_ := Aside0.mk (below_drew1 HB.out)
                clear HO_5
                clear HB
                have HO_5 := n0_
                have HB := n1_
                clear n0_ n1_
                have p317 : 0 ≤ ((ji23) : Int) := of_decide_eq_true (by first | (with_reducible assumption) | assumption)
                have q317 : (ji23) < (t305.length : Int) := of_decide_eq_true (by first | (with_reducible assumption) | assumption)
                obtain ⟨ad317, e317, hx317_0, hx317_1, hx317_2, hx317_3⟩ := at_T34 (Kd.R_reads' HO_5.out).2.2 (ji23) p317 q317
                cases e317
                replace p317 := eq_true p317
                replace q317 := eq_true q317
                have p318 : 0 ≤ ((ji23) : Int) := of_decide_eq_true (by first | (with_reducible assumption) | assumption)
                have q318 : (ji23) < (t305.length : Int) := of_decide_eq_true (by first | (with_reducible assumption) | assumption)
                obtain ⟨ad318, e318, hx318_0, hx318_1, hx318_2, hx318_3⟩ := at_T34 (Kd.R_reads' HO_5.out).2.2 (ji23) p318 q318
                obtain rfl : ad317 = ad318 := (by injection e318)
                replace p318 := eq_true p318
                replace q318 := eq_true q318
                refine start_ (n := 17) (S := fun w' => w'.cell? (ad317.add (((ji23)).toNat * 4)) = some (.int .i64 ((rd_T34 t305 (ji23)).f0)) ∧ w'.cell? ⟨(ad317.add (((ji23)).toNat * 4)).block, (ad317.add (((ji23)).toNat * 4)).off + 1, none⟩ = some (.int .i64 ((rd_T34 t305 (ji23)).f1.f0)) ∧ w'.cell? ⟨(ad317.add (((ji23)).toNat * 4)).block, (ad317.add (((ji23)).toNat * 4)).off + 2, none⟩ = some (.int .i64 ((rd_T34 t305 (ji23)).f1.f1)) ∧ w'.cell? ⟨(ad317.add (((ji23)).toNat * 4)).block, (ad317.add (((ji23)).toNat * 4)).off + 3, none⟩ = some (.int .i64 ((rd_T34 t305 (ji23)).f1.f2)) ∧ w'.cell? (ad317.add (((ji23)).toNat * 4)) = some (.int .i64 ((rd_T34 t305 (ji23)).f0)) ∧ w'.cell? ⟨(ad317.add (((ji23)).toNat * 4)).block, (ad317.add (((ji23)).toNat * 4)).off + 1, none⟩ = some (.int .i64 ((rd_T34 t305 (ji23)).f1.f0)) ∧ w'.cell? ⟨(ad317.add (((ji23)).toNat * 4)).block, (ad317.add (((ji23)).toNat * 4)).off + 2, none⟩ = some (.int .i64 ((rd_T34 t305 (ji23)).f1.f1)) ∧ w'.cell? ⟨(ad317.add (((ji23)).toNat * 4)).block, (ad317.add (((ji23)).toNat * 4)).off + 3, none⟩ = some (.int .i64 ((rd_T34 t305 (ji23)).f1.f2))) (ds := []) #[false, false, false, false, false, false, false, false, false, false, false, false, false, false, false, false, false] (by kernel_rfl) rfl rfl ⟨hx317_0, hx317_1, hx317_2, hx317_3, hx318_0, hx318_1, hx318_2, hx318_3⟩ (fun hHeld => ?_); refine with_tabW laws_FnChainLess.tab8 laws_FnChainLess.bits8 (fun HT_ HW_ => ?_)
                generalize wc.drew = w55 at HO_5 HB hx317_0 hx317_1 hx317_2 hx317_3 hx318_0 hx318_1 hx318_2 hx318_3 hHeld ⊢
                refine pure_ (i := 1) (N := some 44) (v := ?_) (a' := ?_) #[false, true, false, false, false, false, false, false, false, false, false, false, false, false, false, false, false] rfl rfl (any_of HT_.out (by kernel_rfl)) (fun _ _ _ h => h) (Or.inl ⟨by rfl, ?_⟩) ?_ ?_
                rotate_left
                ·intro w'
                 go_simp
                 with_reducible rfl
                rotate_left
                ·simp only [Act.put, List.setIfInBounds_toArray, List.set_cons_zero, List.set_cons_succ, i64_w, i32_w]
                 rfl
                refine pure_ (i := 3) (N := some 46) (v := ?_) (a' := ?_) #[false, true, false, true, false, false, false, false, false, false, false, false, false, false, false, false, false] rfl rfl (any_of HT_.out (by kernel_rfl)) (fun _ _ _ h => h) (Or.inl ⟨by rfl, ?_⟩) ?_ ?_
                rotate_left
                ·intro w'
                 go_simp
                 with_reducible rfl
                rotate_left
                ·simp only [Act.put, List.setIfInBounds_toArray, List.set_cons_zero, List.set_cons_succ, i64_w, i32_w]
                 rfl
                refine pure_ (i := 4) (N := some 47) (v := ?_) (a' := ?_) #[false, true, false, true, true, false, false, false, false, false, false, false, false, false, false, false, false] rfl rfl (any_of HT_.out (by kernel_rfl)) (fun _ _ _ h => h) (Or.inl ⟨by rfl, ?_⟩) ?_ ?_
                rotate_left
                ·intro w'
                 go_simp
                 with_reducible rfl
                rotate_left
                ·simp only [Act.put, List.setIfInBounds_toArray, List.set_cons_zero, List.set_cons_succ, i64_w, i32_w]
                 rfl
                refine pure_ (i := 5) (N := some 48) (v := ?_) (a' := ?_) #[false, true, false, true, true, true, false, false, false, false, false, false, false, false, false, false, false] rfl rfl (any_of HT_.out (by kernel_rfl)) (fun _ _ _ h => h) (Or.inl ⟨by rfl, ?_⟩) ?_ ?_
                rotate_left
                ·intro w'
                 go_simp
                 with_reducible rfl
                rotate_left
                ·simp only [Act.put, List.setIfInBounds_toArray, List.set_cons_zero, List.set_cons_succ, i64_w, i32_w]
                 rfl
                refine pure_ (i := 6) (N := some 49) (v := ?_) (a' := ?_) #[false, true, false, true, true, true, true, false, false, false, false, false, false, false, false, false, false] rfl rfl (any_of HT_.out (by kernel_rfl)) (fun _ _ _ h => h) (Or.inl ⟨by rfl, ?_⟩) ?_ ?_
                rotate_left
                ·intro w'
                 go_simp
                 with_reducible rfl
                rotate_left
                ·simp only [Act.put, List.setIfInBounds_toArray, List.set_cons_zero, List.set_cons_succ, i64_w, i32_w]
                 rfl
                refine pure_ (i := 8) (N := some 51) (v := ?_) (a' := ?_) #[false, true, false, true, true, true, true, false, true, false, false, false, false, false, false, false, false] rfl rfl (any_of HT_.out (by kernel_rfl)) (fun _ _ _ h => h) (Or.inl ⟨by rfl, ?_⟩) ?_ ?_
                rotate_left
                ·intro w'
                 go_simp
                 with_reducible rfl
                rotate_left
                ·simp only [Act.put, List.setIfInBounds_toArray, List.set_cons_zero, List.set_cons_succ, i64_w, i32_w]
                 rfl
                refine pure_ (i := 9) (N := some 52) (v := ?_) (a' := ?_) #[false, true, false, true, true, true, true, false, true, true, false, false, false, false, false, false, false] rfl rfl (any_of HT_.out (by kernel_rfl)) (fun _ _ _ h => h) (Or.inl ⟨by rfl, ?_⟩) ?_ ?_
                rotate_left
                ·intro w'
                 go_simp
                 with_reducible rfl
                rotate_left
                ·simp only [Act.put, List.setIfInBounds_toArray, List.set_cons_zero, List.set_cons_succ, i64_w, i32_w]
                 rfl
                refine pure_ (i := 10) (N := some 53) (v := ?_) (a' := ?_) #[false, true, false, true, true, true, true, false, true, true, true, false, false, false, false, false, false] rfl rfl (any_of HT_.out (by kernel_rfl)) (fun _ _ _ h => h) (Or.inl ⟨by rfl, ?_⟩) ?_ ?_
                rotate_left
                ·intro w'
                 go_simp
                 with_reducible rfl
                rotate_left
                ·simp only [Act.put, List.setIfInBounds_toArray, List.set_cons_zero, List.set_cons_succ, i64_w, i32_w]
                 rfl
                refine pure_ (i := 11) (N := some 54) (v := ?_) (a' := ?_) #[false, true, false, true, true, true, true, false, true, true, true, true, false, false, false, false, false] rfl rfl (any_of HT_.out (by kernel_rfl)) (fun _ _ _ h => h) (Or.inl ⟨by rfl, ?_⟩) ?_ ?_
                rotate_left
                ·intro w'
                 go_simp
                 with_reducible rfl
                rotate_left
                ·simp only [Act.put, List.setIfInBounds_toArray, List.set_cons_zero, List.set_cons_succ, i64_w, i32_w]
                 rfl
                refine take_ (i := 7) (N := some 50) (v := ?_) (a' := ?_) #[false, true, false, true, true, true, true, true, true, true, true, true, false, false, false, false, false] rfl rfl (take_ofW HT_.out HW_.out (by kernel_rfl)) (fun _ _ _ h => h) (Or.inl ⟨by rfl, ?_⟩) hHeld ?_ ?_
                rotate_left
                ·rintro w' ⟨s0, s1, s2, s3, s4, s5, s6, s7⟩
                 (try simp only [Int.toNat_natCast] at s0 s1 s2 s3 s4 s5 s6 s7)
                 go_simp
                 with_reducible rfl
                rotate_left
                ·simp only [Act.put, List.setIfInBounds_toArray, List.set_cons_zero, List.set_cons_succ, i64_w, i32_w]
                 rfl
                refine take_ (i := 12) (N := some 55) (v := ?_) (a' := ?_) #[false, true, false, true, true, true, true, true, true, true, true, true, true, false, false, false, false] rfl rfl (take_ofW HT_.out HW_.out (by kernel_rfl)) (fun _ _ _ h => h) (Or.inl ⟨by rfl, ?_⟩) hHeld ?_ ?_
                rotate_left
                ·rintro w' ⟨s0, s1, s2, s3, s4, s5, s6, s7⟩
                 (try simp only [Int.toNat_natCast] at s0 s1 s2 s3 s4 s5 s6 s7)
                 go_simp
                 with_reducible rfl
                rotate_left
                ·simp only [Act.put, List.setIfInBounds_toArray, List.set_cons_zero, List.set_cons_succ, i64_w, i32_w]
                 rfl
                refine pure_ (i := 13) (N := some 56) (v := ?_) (a' := ?_) #[false, true, false, true, true, true, true, true, true, true, true, true, true, true, false, false, false] rfl rfl (any_of HT_.out (by kernel_rfl)) (fun _ _ _ h => h) (Or.inl ⟨by rfl, ?_⟩) ?_ ?_
                rotate_left
                ·intro w'
                 go_simp
                 with_reducible rfl
                rotate_left
                ·simp only [Act.put, List.setIfInBounds_toArray, List.set_cons_zero, List.set_cons_succ, i64_w, i32_w]
                 rfl
                refine join_ (σ := Value × Value × Value) 2 #[true, true, true, true, true, true, true, true, true, true, true, true, true, true, true, false, false] (fun s_ => [(43, s_.1), (45, s_.2.1), (57, s_.2.2)]) (fun s_ w' => (w'.cell? (ad317.add (((ji23)).toNat * 4)) = some (.int .i64 ((rd_T34 t305 (ji23)).f0)) ∧ w'.cell? ⟨(ad317.add (((ji23)).toNat * 4)).block, (ad317.add (((ji23)).toNat * 4)).off + 1, none⟩ = some (.int .i64 ((rd_T34 t305 (ji23)).f1.f0)) ∧ w'.cell? ⟨(ad317.add (((ji23)).toNat * 4)).block, (ad317.add (((ji23)).toNat * 4)).off + 2, none⟩ = some (.int .i64 ((rd_T34 t305 (ji23)).f1.f1)) ∧ w'.cell? ⟨(ad317.add (((ji23)).toNat * 4)).block, (ad317.add (((ji23)).toNat * 4)).off + 3, none⟩ = some (.int .i64 ((rd_T34 t305 (ji23)).f1.f2)) ∧ w'.cell? (ad317.add (((ji23)).toNat * 4)) = some (.int .i64 ((rd_T34 t305 (ji23)).f0)) ∧ w'.cell? ⟨(ad317.add (((ji23)).toNat * 4)).block, (ad317.add (((ji23)).toNat * 4)).off + 1, none⟩ = some (.int .i64 ((rd_T34 t305 (ji23)).f1.f0)) ∧ w'.cell? ⟨(ad317.add (((ji23)).toNat * 4)).block, (ad317.add (((ji23)).toNat * 4)).off + 2, none⟩ = some (.int .i64 ((rd_T34 t305 (ji23)).f1.f1)) ∧ w'.cell? ⟨(ad317.add (((ji23)).toNat * 4)).block, (ad317.add (((ji23)).toNat * 4)).off + 3, none⟩ = some (.int .i64 ((rd_T34 t305 (ji23)).f1.f2))) ∧ (Kd.R k34 34 w' w.heap.size (fun k_ => some k_ ≠ (s_.2.2 : Value).ownBlock ∧ some k_ ≠ (.slice (some ad317) t305.length co10 : Value).ownBlock) s_.2.1 y314) ∧ (Kd.R k34 34 w' w.heap.size (fun k_ => some k_ ≠ (s_.2.1 : Value).ownBlock ∧ some k_ ≠ (.slice (some ad317) t305.length co10 : Value).ownBlock) s_.2.2 y319) ∧ (Kd.R k34 34 w' w.heap.size (fun k_ => some k_ ≠ (s_.2.1 : Value).ownBlock ∧ some k_ ≠ (s_.2.2 : Value).ownBlock) (.slice (some ad317) t305.length co10) t305) ∧ (Below w.heap.size w w')) ?_ ?_
                rotate_left
                ·intro hCont
                 refine two_ (i := 0) (j := 14) (Ni := some 43) (Nj := some 57) #[true, true, false, true, true, true, true, true, true, true, true, true, true, true, false, false, false] #[false, true, false, true, true, true, true, true, true, true, true, true, true, true, true, false, false] rfl rfl rfl rfl (two_of HT_.out (by kernel_rfl)) (by decide) (by decide) (fun K hK => ?_) (fun K hK => ?_)
                 ·skip
                  refine Kd.R_lit_step k34 _ 34 ?hg (N := 43) ?hd (xs := ([] : List (S34))) (inner := []) (ok := fun _ => True) (okp := fun _ => True) ?hr ?hp (fun _ hk => hk) trivial (Below.refl _ _) (Nat.le_refl _) (by simp) ?_; (case hd => rfl); (case hg => rfl); (case hr => first | (go_simp; done) | (go_simp; rfl)); (case hp => exact (Reps.none _ _))
                  intro v312 w56 ho57 hb hg_ hnew_
                  have HS0_ := (hb.cell (World.block_lt_of_cell? _ _ (hHeld.1))).trans (hHeld.1)
                  have HS1_ := (hb.cell (World.block_lt_of_cell? _ _ (hHeld.2.1))).trans (hHeld.2.1)
                  have HS2_ := (hb.cell (World.block_lt_of_cell? _ _ (hHeld.2.2.1))).trans (hHeld.2.2.1)
                  have HS3_ := (hb.cell (World.block_lt_of_cell? _ _ (hHeld.2.2.2.1))).trans (hHeld.2.2.2.1)
                  have HS4_ := (hb.cell (World.block_lt_of_cell? _ _ (hHeld.2.2.2.2.1))).trans (hHeld.2.2.2.2.1)
                  have HS5_ := (hb.cell (World.block_lt_of_cell? _ _ (hHeld.2.2.2.2.2.1))).trans (hHeld.2.2.2.2.2.1)
                  have HS6_ := (hb.cell (World.block_lt_of_cell? _ _ (hHeld.2.2.2.2.2.2.1))).trans (hHeld.2.2.2.2.2.2.1)
                  have HS7_ := (hb.cell (World.block_lt_of_cell? _ _ (hHeld.2.2.2.2.2.2.2))).trans (hHeld.2.2.2.2.2.2.2)
                  clear hg_ hnew_
                  (first | rw [← Ny311.out] at ho57 | (simp only [Int.reduceToNat] at ho57; rw [← Ny311.out] at ho57))
                  have n0_ := Aside0.mk (Kd.R_elder' (by (with_reducible repeat (first | apply Kd.R_alloc | apply Kd.R_drewN | apply Kd.R_drew)); exact HO_5.out) (Kd.R_base ho57) hb)
                  have n1_ := Aside0.mk (Kd.R_lower (Kd.R_new' ho57 (Kd.R_lt (by (with_reducible repeat (first | apply Kd.R_alloc | apply Kd.R_drewN | apply Kd.R_drew)); exact HO_5.out))) (below_size (by repeat (first | (with_reducible first | exact HB.out | apply below_alloc | apply pw_below_drewN | apply below_drew1) | exact HB.out))))
                  have n2_ := Aside0.mk (below_step (by repeat (first | (with_reducible first | exact HB.out | apply below_alloc | apply pw_below_drewN | apply below_drew1) | exact HB.out)) hb)
                  clear HO_5
                  clear HB
                  have HO_5 := n0_
                  have HO313 := n1_
                  have HB := n2_
                  clear n0_ n1_ n2_
                  clear hb ho57
                  refine hK.out _ _ ⟨HS0_, HS1_, HS2_, HS3_, HS4_, HS5_, HS6_, HS7_⟩ (fun hHeld => ?_)
                  clear hK K
                  refine norm_ (a' := ?_) ?_ ?_
                  rotate_left
                  ·show Act.put _ (some 43) _ = _
                   simp only [Act.put, List.setIfInBounds_toArray, List.set_cons_zero, List.set_cons_succ, i64_w, i32_w]
                   rfl
                  refine two_ (i := 2) (j := 14) (Ni := some 45) (Nj := some 57) #[true, true, true, true, true, true, true, true, true, true, true, true, true, true, false, false, false] #[true, true, false, true, true, true, true, true, true, true, true, true, true, true, true, false, false] rfl rfl rfl rfl (two_of HT_.out (by kernel_rfl)) (by decide) (by decide) (fun K hK => ?_) (fun K hK => ?_)
                  ·skip
                   refine Kd.R_append_rows_step k34 (w0 := w) w.heap.size (by rfl) (.tmp 43) (.tmp 44) 25 34 (.agg #[(.int .i64 0), (.int .i64 0), (.int .i64 0), (.int .i64 0)]) 32 rfl Try.underlying25 info34 rfl (by decide) (by omega) v312 y311 t305 _ _ _ (fun k_ => some k_ ≠ (.slice (some ad317) t305.length co10 : Value).ownBlock) (fun _ => False) rfl rfl ?aO ?aR (fun _ _ h => h) (fun _ h => h.elim) ?aF ?aB ?aS ?aL ?_
                   (case aR => repeat (first | exact (Kd.R_reads' HO_5.out).2.2 | (with_reducible refine Kd.C_alloc ?_ _) | (with_reducible refine Kd.C_drewN ?_ _) | (with_reducible refine Kd.C_drew ?_)))
                   (case aB => exact (by repeat (first | (with_reducible first | exact HB.out | apply below_alloc | apply pw_below_drewN | apply below_drew1) | exact HB.out)))
                   (case aF => exact (fun k_ hk => Kd.fresh' (Kd.R_lt (by (with_reducible repeat (first | apply Kd.R_alloc | apply Kd.R_drewN | apply Kd.R_drew)); exact HO_5.out)) k_ hk))
                   (case aO => exact (by (with_reducible repeat (first | apply Kd.R_alloc | apply Kd.R_drewN | apply Kd.R_drew)); exact Kd.R_mono HO313.out (fun _ hk => hk.2)))
                   (case aS => exact (below_size (by repeat (first | (with_reducible first | exact HB.out | apply below_alloc | apply pw_below_drewN | apply below_drew1) | exact HB.out))))
                   (case aL => have := LMc22.out; omega)
                   intro v315 w58 ho hb hg hat
                   have HS0_ := cell_grown hg (hHeld.1) (cell_ne_row (fun e_ => ((HO313.out.1 _ e_.symm).2) rfl))
                   have HS1_ := cell_grown hg (hHeld.2.1) (cell_ne_row (fun e_ => ((HO313.out.1 _ e_.symm).2) rfl))
                   have HS2_ := cell_grown hg (hHeld.2.2.1) (cell_ne_row (fun e_ => ((HO313.out.1 _ e_.symm).2) rfl))
                   have HS3_ := cell_grown hg (hHeld.2.2.2.1) (cell_ne_row (fun e_ => ((HO313.out.1 _ e_.symm).2) rfl))
                   have HS4_ := cell_grown hg (hHeld.2.2.2.2.1) (cell_ne_row (fun e_ => ((HO313.out.1 _ e_.symm).2) rfl))
                   have HS5_ := cell_grown hg (hHeld.2.2.2.2.2.1) (cell_ne_row (fun e_ => ((HO313.out.1 _ e_.symm).2) rfl))
                   have HS6_ := cell_grown hg (hHeld.2.2.2.2.2.2.1) (cell_ne_row (fun e_ => ((HO313.out.1 _ e_.symm).2) rfl))
                   have HS7_ := cell_grown hg (hHeld.2.2.2.2.2.2.2) (cell_ne_row (fun e_ => ((HO313.out.1 _ e_.symm).2) rfl))
                   have hHN5_ := True.intro
                   rw [← Ny314.out] at ho
                   have n0_ := Aside0.mk (Kd.R_after (ok := (fun _ => True)) (by (with_reducible repeat (first | apply Kd.R_alloc | apply Kd.R_drewN | apply Kd.R_drew)); exact HO_5.out) hg hat)
                   have n1_ := Aside0.mk (hb)
                   have n2_ := Aside0.mk (ho)
                   clear HO_5
                   clear HB
                   clear HO313
                   have HO_5 := n0_
                   have HB := n1_
                   have HO316 := n2_
                   clear n0_ n1_ n2_
                   clear ho hb hg hat
                   refine hK.out _ _ ⟨HS0_, HS1_, HS2_, HS3_, HS4_, HS5_, HS6_, HS7_⟩ (fun hHeld => ?_)
                   clear hK K
                   refine norm_ (a' := ?_) ?_ ?_
                   rotate_left
                   ·show Act.put _ (some 45) _ = _
                    simp only [Act.put, List.setIfInBounds_toArray, List.set_cons_zero, List.set_cons_succ, i64_w, i32_w]
                    rfl
                   refine one_ (i := 14) (N := some 57) #[true, true, true, true, true, true, true, true, true, true, true, true, true, true, true, false, false] rfl rfl (one_of HT_.out (by kernel_rfl)) (by decide) (fun K hK => ?_)
                   refine Kd.R_lit_step k34 _ 34 ?hg (N := 57) ?hd (xs := ([(⟨(rd_T34 t305 (ji23)).f0, (⟨(rd_T34 t305 (ji23)).f1.f0, (rd_T34 t305 (ji23)).f1.f1, (rd_T34 t305 (ji23)).f1.f2⟩ : S32)⟩ : S34)] : List (S34))) (inner := [.int .i64 ((rd_T34 t305 (ji23)).f0), .int .i64 ((rd_T34 t305 (ji23)).f1.f0), .int .i64 ((rd_T34 t305 (ji23)).f1.f1), .int .i64 ((rd_T34 t305 (ji23)).f1.f2)]) (ok := fun _ => True) (okp := fun _ => True) ?hr ?hp (fun _ hk => hk) trivial (Below.refl _ _) (Nat.le_refl _) (by simp) ?_; (case hd => rfl); (case hg => rfl); (case hr => first | (go_simp; done) | (go_simp; rfl)); (case hp => exact (Reps.c4 (show Kd.M k34 _ _ _ (⟨(rd_T34 t305 (ji23)).f0, (⟨(rd_T34 t305 (ji23)).f1.f0, (rd_T34 t305 (ji23)).f1.f1, (rd_T34 t305 (ji23)).f1.f2⟩ : S32)⟩ : S34) [.int .i64 ((rd_T34 t305 (ji23)).f0), .int .i64 ((rd_T34 t305 (ji23)).f1.f0), .int .i64 ((rd_T34 t305 (ji23)).f1.f1), .int .i64 ((rd_T34 t305 (ji23)).f1.f2)] from (k34_mkM _ _ _ (⟨(rd_T34 t305 (ji23)).f0, (⟨(rd_T34 t305 (ji23)).f1.f0, (rd_T34 t305 (ji23)).f1.f1, (rd_T34 t305 (ji23)).f1.f2⟩ : S32)⟩ : S34) )) (Reps.none _ _)))
                   intro v320 w59 ho60 hb hg_ hnew_
                   have HS0_ := (hb.cell (World.block_lt_of_cell? _ _ (hHeld.1))).trans (hHeld.1)
                   have HS1_ := (hb.cell (World.block_lt_of_cell? _ _ (hHeld.2.1))).trans (hHeld.2.1)
                   have HS2_ := (hb.cell (World.block_lt_of_cell? _ _ (hHeld.2.2.1))).trans (hHeld.2.2.1)
                   have HS3_ := (hb.cell (World.block_lt_of_cell? _ _ (hHeld.2.2.2.1))).trans (hHeld.2.2.2.1)
                   have HS4_ := (hb.cell (World.block_lt_of_cell? _ _ (hHeld.2.2.2.2.1))).trans (hHeld.2.2.2.2.1)
                   have HS5_ := (hb.cell (World.block_lt_of_cell? _ _ (hHeld.2.2.2.2.2.1))).trans (hHeld.2.2.2.2.2.1)
                   have HS6_ := (hb.cell (World.block_lt_of_cell? _ _ (hHeld.2.2.2.2.2.2.1))).trans (hHeld.2.2.2.2.2.2.1)
                   have HS7_ := (hb.cell (World.block_lt_of_cell? _ _ (hHeld.2.2.2.2.2.2.2))).trans (hHeld.2.2.2.2.2.2.2)
                   clear hg_ hnew_
                   (first | rw [← Ny319.out] at ho60 | (simp only [Int.reduceToNat] at ho60; rw [← Ny319.out] at ho60))
                   have n0_ := Aside0.mk (Kd.R_elder' (by (with_reducible repeat (first | apply Kd.R_alloc | apply Kd.R_drewN | apply Kd.R_drew)); exact HO_5.out) (Kd.R_base ho60) hb)
                   have n1_ := Aside0.mk (Kd.R_elder' (by (with_reducible repeat (first | apply Kd.R_alloc | apply Kd.R_drewN | apply Kd.R_drew)); exact HO316.out) (Kd.R_base ho60) hb)
                   have n2_ := Aside0.mk (Kd.R_lower (Kd.R_new' (Kd.R_new' ho60 (Kd.R_lt (by (with_reducible repeat (first | apply Kd.R_alloc | apply Kd.R_drewN | apply Kd.R_drew)); exact HO_5.out))) (Kd.R_lt (by (with_reducible repeat (first | apply Kd.R_alloc | apply Kd.R_drewN | apply Kd.R_drew)); exact HO316.out))) (below_size (by repeat (first | (with_reducible first | exact HB.out | apply below_alloc | apply pw_below_drewN | apply below_drew1) | exact HB.out))))
                   have n3_ := Aside0.mk (below_step (by repeat (first | (with_reducible first | exact HB.out | apply below_alloc | apply pw_below_drewN | apply below_drew1) | exact HB.out)) hb)
                   clear HO_5
                   clear HO316
                   clear HB
                   have HO_5 := n0_
                   have HO316 := n1_
                   have HO321 := n2_
                   have HB := n3_
                   clear n0_ n1_ n2_ n3_
                   clear hb ho60
                   refine hK.out _ _ ⟨HS0_, HS1_, HS2_, HS3_, HS4_, HS5_, HS6_, HS7_⟩ (fun hHeld => ?_)
                   clear hK K
                   refine norm_ (a' := ?_) ?_ ?_
                   rotate_left
                   ·show Act.put _ (some 57) _ = _
                    simp only [Act.put, List.setIfInBounds_toArray, List.set_cons_zero, List.set_cons_succ, i64_w, i32_w]
                    rfl
                   exact norm_ (by simp only [putAll, Act.put, List.setIfInBounds_toArray, List.set_cons_zero, List.set_cons_succ]) (hCont (v312, v315, v320) _ ⟨hHeld, (by (with_reducible repeat (first | apply Kd.R_alloc | apply Kd.R_drewN | apply Kd.R_drew)); exact Kd.R_mono HO316.out (fun _ hk => ⟨hk.2, hk.1⟩)), (by (with_reducible repeat (first | apply Kd.R_alloc | apply Kd.R_drewN | apply Kd.R_drew)); exact Kd.R_mono HO321.out (fun _ hk => ⟨hk.2, hk.1.2⟩)), (by (with_reducible repeat (first | apply Kd.R_alloc | apply Kd.R_drewN | apply Kd.R_drew)); exact Kd.R_mono HO_5.out (fun _ hk => ⟨hk.1.2, hk.2⟩)), (by repeat (first | (with_reducible first | exact HB.out | apply below_alloc | apply pw_below_drewN | apply below_drew1) | exact HB.out))⟩)
                  ·skip
                   refine Kd.R_lit_step k34 _ 34 ?hg (N := 57) ?hd (xs := ([(⟨(rd_T34 t305 (ji23)).f0, (⟨(rd_T34 t305 (ji23)).f1.f0, (rd_T34 t305 (ji23)).f1.f1, (rd_T34 t305 (ji23)).f1.f2⟩ : S32)⟩ : S34)] : List (S34))) (inner := [.int .i64 ((rd_T34 t305 (ji23)).f0), .int .i64 ((rd_T34 t305 (ji23)).f1.f0), .int .i64 ((rd_T34 t305 (ji23)).f1.f1), .int .i64 ((rd_T34 t305 (ji23)).f1.f2)]) (ok := fun _ => True) (okp := fun _ => True) ?hr ?hp (fun _ hk => hk) trivial (Below.refl _ _) (Nat.le_refl _) (by simp) ?_; (case hd => rfl); (case hg => rfl); (case hr => first | (go_simp; done) | (go_simp; rfl)); (case hp => exact (Reps.c4 (show Kd.M k34 _ _ _ (⟨(rd_T34 t305 (ji23)).f0, (⟨(rd_T34 t305 (ji23)).f1.f0, (rd_T34 t305 (ji23)).f1.f1, (rd_T34 t305 (ji23)).f1.f2⟩ : S32)⟩ : S34) [.int .i64 ((rd_T34 t305 (ji23)).f0), .int .i64 ((rd_T34 t305 (ji23)).f1.f0), .int .i64 ((rd_T34 t305 (ji23)).f1.f1), .int .i64 ((rd_T34 t305 (ji23)).f1.f2)] from (k34_mkM _ _ _ (⟨(rd_T34 t305 (ji23)).f0, (⟨(rd_T34 t305 (ji23)).f1.f0, (rd_T34 t305 (ji23)).f1.f1, (rd_T34 t305 (ji23)).f1.f2⟩ : S32)⟩ : S34) )) (Reps.none _ _)))
                   intro v320 w58 ho59 hb hg_ hnew_
                   have HS0_ := (hb.cell (World.block_lt_of_cell? _ _ (hHeld.1))).trans (hHeld.1)
                   have HS1_ := (hb.cell (World.block_lt_of_cell? _ _ (hHeld.2.1))).trans (hHeld.2.1)
                   have HS2_ := (hb.cell (World.block_lt_of_cell? _ _ (hHeld.2.2.1))).trans (hHeld.2.2.1)
                   have HS3_ := (hb.cell (World.block_lt_of_cell? _ _ (hHeld.2.2.2.1))).trans (hHeld.2.2.2.1)
                   have HS4_ := (hb.cell (World.block_lt_of_cell? _ _ (hHeld.2.2.2.2.1))).trans (hHeld.2.2.2.2.1)
                   have HS5_ := (hb.cell (World.block_lt_of_cell? _ _ (hHeld.2.2.2.2.2.1))).trans (hHeld.2.2.2.2.2.1)
                   have HS6_ := (hb.cell (World.block_lt_of_cell? _ _ (hHeld.2.2.2.2.2.2.1))).trans (hHeld.2.2.2.2.2.2.1)
                   have HS7_ := (hb.cell (World.block_lt_of_cell? _ _ (hHeld.2.2.2.2.2.2.2))).trans (hHeld.2.2.2.2.2.2.2)
                   clear hg_ hnew_
                   (first | rw [← Ny319.out] at ho59 | (simp only [Int.reduceToNat] at ho59; rw [← Ny319.out] at ho59))
                   have n0_ := Aside0.mk (Kd.R_elder' (by (with_reducible repeat (first | apply Kd.R_alloc | apply Kd.R_drewN | apply Kd.R_drew)); exact HO_5.out) (Kd.R_base ho59) hb)
                   have n1_ := Aside0.mk (Kd.R_elder' (by (with_reducible repeat (first | apply Kd.R_alloc | apply Kd.R_drewN | apply Kd.R_drew)); exact HO313.out) (Kd.R_base ho59) hb)
                   have n2_ := Aside0.mk (Kd.R_lower (Kd.R_new' (Kd.R_new' ho59 (Kd.R_lt (by (with_reducible repeat (first | apply Kd.R_alloc | apply Kd.R_drewN | apply Kd.R_drew)); exact HO_5.out))) (Kd.R_lt (by (with_reducible repeat (first | apply Kd.R_alloc | apply Kd.R_drewN | apply Kd.R_drew)); exact HO313.out))) (below_size (by repeat (first | (with_reducible first | exact HB.out | apply below_alloc | apply pw_below_drewN | apply below_drew1) | exact HB.out))))
                   have n3_ := Aside0.mk (below_step (by repeat (first | (with_reducible first | exact HB.out | apply below_alloc | apply pw_below_drewN | apply below_drew1) | exact HB.out)) hb)
                   clear HO_5
                   clear HO313
                   clear HB
                   have HO_5 := n0_
                   have HO313 := n1_
                   have HO321 := n2_
                   have HB := n3_
                   clear n0_ n1_ n2_ n3_
                   clear hb ho59
                   refine hK.out _ _ ⟨HS0_, HS1_, HS2_, HS3_, HS4_, HS5_, HS6_, HS7_⟩ (fun hHeld => ?_)
                   clear hK K
                   refine norm_ (a' := ?_) ?_ ?_
                   rotate_left
                   ·show Act.put _ (some 57) _ = _
                    simp only [Act.put, List.setIfInBounds_toArray, List.set_cons_zero, List.set_cons_succ, i64_w, i32_w]
                    rfl
                   refine one_ (i := 2) (N := some 45) #[true, true, true, true, true, true, true, true, true, true, true, true, true, true, true, false, false] rfl rfl (one_of HT_.out (by kernel_rfl)) (by decide) (fun K hK => ?_)
                   refine Kd.R_append_rows_step k34 (w0 := w) w.heap.size (by rfl) (.tmp 43) (.tmp 44) 25 34 (.agg #[(.int .i64 0), (.int .i64 0), (.int .i64 0), (.int .i64 0)]) 32 rfl Try.underlying25 info34 rfl (by decide) (by omega) v312 y311 t305 _ _ _ (fun k_ => some k_ ≠ (.slice (some ad317) t305.length co10 : Value).ownBlock ∧ some k_ ≠ (v320 : Value).ownBlock) (fun _ => False) rfl rfl ?aO ?aR (fun _ _ h => h) (fun _ h => h.elim) ?aF ?aB ?aS ?aL ?_
                   (case aR => repeat (first | exact (Kd.R_reads' HO_5.out).2.2 | (with_reducible refine Kd.C_alloc ?_ _) | (with_reducible refine Kd.C_drewN ?_ _) | (with_reducible refine Kd.C_drew ?_)))
                   (case aB => exact (by repeat (first | (with_reducible first | exact HB.out | apply below_alloc | apply pw_below_drewN | apply below_drew1) | exact HB.out)))
                   (case aF => exact (fun k_ hk => ⟨Kd.fresh' (Kd.R_lt (by (with_reducible repeat (first | apply Kd.R_alloc | apply Kd.R_drewN | apply Kd.R_drew)); exact HO_5.out)) k_ hk, Kd.fresh' (Kd.R_lt (by (with_reducible repeat (first | apply Kd.R_alloc | apply Kd.R_drewN | apply Kd.R_drew)); exact HO321.out)) k_ hk⟩))
                   (case aO => exact (by (with_reducible repeat (first | apply Kd.R_alloc | apply Kd.R_drewN | apply Kd.R_drew)); exact Kd.R_mono HO313.out (fun _ hk => ⟨hk.1.2, hk.2⟩)))
                   (case aS => exact (below_size (by repeat (first | (with_reducible first | exact HB.out | apply below_alloc | apply pw_below_drewN | apply below_drew1) | exact HB.out))))
                   (case aL => have := LMc22.out; omega)
                   intro v315 w60 ho hb hg hat
                   have HS0_ := cell_grown hg (hHeld.1) (cell_ne_row (fun e_ => ((HO313.out.1 _ e_.symm).1.2) rfl))
                   have HS1_ := cell_grown hg (hHeld.2.1) (cell_ne_row (fun e_ => ((HO313.out.1 _ e_.symm).1.2) rfl))
                   have HS2_ := cell_grown hg (hHeld.2.2.1) (cell_ne_row (fun e_ => ((HO313.out.1 _ e_.symm).1.2) rfl))
                   have HS3_ := cell_grown hg (hHeld.2.2.2.1) (cell_ne_row (fun e_ => ((HO313.out.1 _ e_.symm).1.2) rfl))
                   have HS4_ := cell_grown hg (hHeld.2.2.2.2.1) (cell_ne_row (fun e_ => ((HO313.out.1 _ e_.symm).1.2) rfl))
                   have HS5_ := cell_grown hg (hHeld.2.2.2.2.2.1) (cell_ne_row (fun e_ => ((HO313.out.1 _ e_.symm).1.2) rfl))
                   have HS6_ := cell_grown hg (hHeld.2.2.2.2.2.2.1) (cell_ne_row (fun e_ => ((HO313.out.1 _ e_.symm).1.2) rfl))
                   have HS7_ := cell_grown hg (hHeld.2.2.2.2.2.2.2) (cell_ne_row (fun e_ => ((HO313.out.1 _ e_.symm).1.2) rfl))
                   have hHN6_ := True.intro
                   rw [← Ny314.out] at ho
                   have n0_ := Aside0.mk (Kd.R_after (ok := (fun k_ => some k_ ≠ (v320 : Value).ownBlock)) (by (with_reducible repeat (first | apply Kd.R_alloc | apply Kd.R_drewN | apply Kd.R_drew)); exact Kd.R_mono HO_5.out (fun _ hk => ⟨hk.2, hk.1.2⟩)) hg hat)
                   have n1_ := Aside0.mk (Kd.R_after (ok := (fun k_ => some k_ ≠ (.slice (some ad317) t305.length co10 : Value).ownBlock)) (by (with_reducible repeat (first | apply Kd.R_alloc | apply Kd.R_drewN | apply Kd.R_drew)); exact Kd.R_mono HO321.out (fun _ hk => ⟨hk.1.2, hk.2⟩)) hg hat)
                   have n2_ := Aside0.mk (hb)
                   have n3_ := Aside0.mk (ho)
                   clear HO_5
                   clear HO321
                   clear HB
                   clear HO313
                   have HO_5 := n0_
                   have HO321 := n1_
                   have HB := n2_
                   have HO316 := n3_
                   clear n0_ n1_ n2_ n3_
                   clear ho hb hg hat
                   refine hK.out _ _ ⟨HS0_, HS1_, HS2_, HS3_, HS4_, HS5_, HS6_, HS7_⟩ (fun hHeld => ?_)
                   clear hK K
                   refine norm_ (a' := ?_) ?_ ?_
                   rotate_left
                   ·show Act.put _ (some 45) _ = _
                    simp only [Act.put, List.setIfInBounds_toArray, List.set_cons_zero, List.set_cons_succ, i64_w, i32_w]
                    rfl
                   exact norm_ (by simp only [putAll, Act.put, List.setIfInBounds_toArray, List.set_cons_zero, List.set_cons_succ]) (hCont (v312, v315, v320) _ ⟨hHeld, (by (with_reducible repeat (first | apply Kd.R_alloc | apply Kd.R_drewN | apply Kd.R_drew)); exact Kd.R_mono HO316.out (fun _ hk => ⟨hk.2, hk.1⟩)), (by (with_reducible repeat (first | apply Kd.R_alloc | apply Kd.R_drewN | apply Kd.R_drew)); exact Kd.R_mono HO321.out (fun _ hk => ⟨hk.2, hk.1⟩)), (by (with_reducible repeat (first | apply Kd.R_alloc | apply Kd.R_drewN | apply Kd.R_drew)); exact Kd.R_mono HO_5.out (fun _ hk => ⟨hk.2, hk.1⟩)), (by repeat (first | (with_reducible first | exact HB.out | apply below_alloc | apply pw_below_drewN | apply below_drew1) | exact HB.out))⟩)
                 ·skip
                  refine Kd.R_lit_step k34 _ 34 ?hg (N := 57) ?hd (xs := ([(⟨(rd_T34 t305 (ji23)).f0, (⟨(rd_T34 t305 (ji23)).f1.f0, (rd_T34 t305 (ji23)).f1.f1, (rd_T34 t305 (ji23)).f1.f2⟩ : S32)⟩ : S34)] : List (S34))) (inner := [.int .i64 ((rd_T34 t305 (ji23)).f0), .int .i64 ((rd_T34 t305 (ji23)).f1.f0), .int .i64 ((rd_T34 t305 (ji23)).f1.f1), .int .i64 ((rd_T34 t305 (ji23)).f1.f2)]) (ok := fun _ => True) (okp := fun _ => True) ?hr ?hp (fun _ hk => hk) trivial (Below.refl _ _) (Nat.le_refl _) (by simp) ?_; (case hd => rfl); (case hg => rfl); (case hr => first | (go_simp; done) | (go_simp; rfl)); (case hp => exact (Reps.c4 (show Kd.M k34 _ _ _ (⟨(rd_T34 t305 (ji23)).f0, (⟨(rd_T34 t305 (ji23)).f1.f0, (rd_T34 t305 (ji23)).f1.f1, (rd_T34 t305 (ji23)).f1.f2⟩ : S32)⟩ : S34) [.int .i64 ((rd_T34 t305 (ji23)).f0), .int .i64 ((rd_T34 t305 (ji23)).f1.f0), .int .i64 ((rd_T34 t305 (ji23)).f1.f1), .int .i64 ((rd_T34 t305 (ji23)).f1.f2)] from (k34_mkM _ _ _ (⟨(rd_T34 t305 (ji23)).f0, (⟨(rd_T34 t305 (ji23)).f1.f0, (rd_T34 t305 (ji23)).f1.f1, (rd_T34 t305 (ji23)).f1.f2⟩ : S32)⟩ : S34) )) (Reps.none _ _)))
                  intro v320 w56 ho57 hb hg_ hnew_
                  have HS0_ := (hb.cell (World.block_lt_of_cell? _ _ (hHeld.1))).trans (hHeld.1)
                  have HS1_ := (hb.cell (World.block_lt_of_cell? _ _ (hHeld.2.1))).trans (hHeld.2.1)
                  have HS2_ := (hb.cell (World.block_lt_of_cell? _ _ (hHeld.2.2.1))).trans (hHeld.2.2.1)
                  have HS3_ := (hb.cell (World.block_lt_of_cell? _ _ (hHeld.2.2.2.1))).trans (hHeld.2.2.2.1)
                  have HS4_ := (hb.cell (World.block_lt_of_cell? _ _ (hHeld.2.2.2.2.1))).trans (hHeld.2.2.2.2.1)
                  have HS5_ := (hb.cell (World.block_lt_of_cell? _ _ (hHeld.2.2.2.2.2.1))).trans (hHeld.2.2.2.2.2.1)
                  have HS6_ := (hb.cell (World.block_lt_of_cell? _ _ (hHeld.2.2.2.2.2.2.1))).trans (hHeld.2.2.2.2.2.2.1)
                  have HS7_ := (hb.cell (World.block_lt_of_cell? _ _ (hHeld.2.2.2.2.2.2.2))).trans (hHeld.2.2.2.2.2.2.2)
                  clear hg_ hnew_
                  (first | rw [← Ny319.out] at ho57 | (simp only [Int.reduceToNat] at ho57; rw [← Ny319.out] at ho57))
                  have n0_ := Aside0.mk (Kd.R_elder' (by (with_reducible repeat (first | apply Kd.R_alloc | apply Kd.R_drewN | apply Kd.R_drew)); exact HO_5.out) (Kd.R_base ho57) hb)
                  have n1_ := Aside0.mk (Kd.R_lower (Kd.R_new' ho57 (Kd.R_lt (by (with_reducible repeat (first | apply Kd.R_alloc | apply Kd.R_drewN | apply Kd.R_drew)); exact HO_5.out))) (below_size (by repeat (first | (with_reducible first | exact HB.out | apply below_alloc | apply pw_below_drewN | apply below_drew1) | exact HB.out))))
                  have n2_ := Aside0.mk (below_step (by repeat (first | (with_reducible first | exact HB.out | apply below_alloc | apply pw_below_drewN | apply below_drew1) | exact HB.out)) hb)
                  clear HO_5
                  clear HB
                  have HO_5 := n0_
                  have HO321 := n1_
                  have HB := n2_
                  clear n0_ n1_ n2_
                  clear hb ho57
                  refine hK.out _ _ ⟨HS0_, HS1_, HS2_, HS3_, HS4_, HS5_, HS6_, HS7_⟩ (fun hHeld => ?_)
                  clear hK K
                  refine norm_ (a' := ?_) ?_ ?_
                  rotate_left
                  ·show Act.put _ (some 57) _ = _
                   simp only [Act.put, List.setIfInBounds_toArray, List.set_cons_zero, List.set_cons_succ, i64_w, i32_w]
                   rfl
                  refine one_ (i := 0) (N := some 43) #[true, true, false, true, true, true, true, true, true, true, true, true, true, true, true, false, false] rfl rfl (one_of HT_.out (by kernel_rfl)) (by decide) (fun K hK => ?_)
                  refine Kd.R_lit_step k34 _ 34 ?hg (N := 43) ?hd (xs := ([] : List (S34))) (inner := []) (ok := fun _ => True) (okp := fun _ => True) ?hr ?hp (fun _ hk => hk) trivial (Below.refl _ _) (Nat.le_refl _) (by simp) ?_; (case hd => rfl); (case hg => rfl); (case hr => first | (go_simp; done) | (go_simp; rfl)); (case hp => exact (Reps.none _ _))
                  intro v312 w58 ho59 hb hg_ hnew_
                  have HS0_ := (hb.cell (World.block_lt_of_cell? _ _ (hHeld.1))).trans (hHeld.1)
                  have HS1_ := (hb.cell (World.block_lt_of_cell? _ _ (hHeld.2.1))).trans (hHeld.2.1)
                  have HS2_ := (hb.cell (World.block_lt_of_cell? _ _ (hHeld.2.2.1))).trans (hHeld.2.2.1)
                  have HS3_ := (hb.cell (World.block_lt_of_cell? _ _ (hHeld.2.2.2.1))).trans (hHeld.2.2.2.1)
                  have HS4_ := (hb.cell (World.block_lt_of_cell? _ _ (hHeld.2.2.2.2.1))).trans (hHeld.2.2.2.2.1)
                  have HS5_ := (hb.cell (World.block_lt_of_cell? _ _ (hHeld.2.2.2.2.2.1))).trans (hHeld.2.2.2.2.2.1)
                  have HS6_ := (hb.cell (World.block_lt_of_cell? _ _ (hHeld.2.2.2.2.2.2.1))).trans (hHeld.2.2.2.2.2.2.1)
                  have HS7_ := (hb.cell (World.block_lt_of_cell? _ _ (hHeld.2.2.2.2.2.2.2))).trans (hHeld.2.2.2.2.2.2.2)
                  clear hg_ hnew_
                  (first | rw [← Ny311.out] at ho59 | (simp only [Int.reduceToNat] at ho59; rw [← Ny311.out] at ho59))
                  have n0_ := Aside0.mk (Kd.R_elder' (by (with_reducible repeat (first | apply Kd.R_alloc | apply Kd.R_drewN | apply Kd.R_drew)); exact HO_5.out) (Kd.R_base ho59) hb)
                  have n1_ := Aside0.mk (Kd.R_elder' (by (with_reducible repeat (first | apply Kd.R_alloc | apply Kd.R_drewN | apply Kd.R_drew)); exact HO321.out) (Kd.R_base ho59) hb)
                  have n2_ := Aside0.mk (Kd.R_lower (Kd.R_new' (Kd.R_new' ho59 (Kd.R_lt (by (with_reducible repeat (first | apply Kd.R_alloc | apply Kd.R_drewN | apply Kd.R_drew)); exact HO_5.out))) (Kd.R_lt (by (with_reducible repeat (first | apply Kd.R_alloc | apply Kd.R_drewN | apply Kd.R_drew)); exact HO321.out))) (below_size (by repeat (first | (with_reducible first | exact HB.out | apply below_alloc | apply pw_below_drewN | apply below_drew1) | exact HB.out))))
                  have n3_ := Aside0.mk (below_step (by repeat (first | (with_reducible first | exact HB.out | apply below_alloc | apply pw_below_drewN | apply below_drew1) | exact HB.out)) hb)
                  clear HO_5
                  clear HO321
                  clear HB
                  have HO_5 := n0_
                  have HO321 := n1_
                  have HO313 := n2_
                  have HB := n3_
                  clear n0_ n1_ n2_ n3_
                  clear hb ho59
                  refine hK.out _ _ ⟨HS0_, HS1_, HS2_, HS3_, HS4_, HS5_, HS6_, HS7_⟩ (fun hHeld => ?_)
                  clear hK K
                  refine norm_ (a' := ?_) ?_ ?_
                  rotate_left
                  ·show Act.put _ (some 43) _ = _
                   simp only [Act.put, List.setIfInBounds_toArray, List.set_cons_zero, List.set_cons_succ, i64_w, i32_w]
                   rfl
                  refine one_ (i := 2) (N := some 45) #[true, true, true, true, true, true, true, true, true, true, true, true, true, true, true, false, false] rfl rfl (one_of HT_.out (by kernel_rfl)) (by decide) (fun K hK => ?_)
                  refine Kd.R_append_rows_step k34 (w0 := w) w.heap.size (by rfl) (.tmp 43) (.tmp 44) 25 34 (.agg #[(.int .i64 0), (.int .i64 0), (.int .i64 0), (.int .i64 0)]) 32 rfl Try.underlying25 info34 rfl (by decide) (by omega) v312 y311 t305 _ _ _ (fun k_ => some k_ ≠ (.slice (some ad317) t305.length co10 : Value).ownBlock ∧ some k_ ≠ (v320 : Value).ownBlock) (fun _ => False) rfl rfl ?aO ?aR (fun _ _ h => h) (fun _ h => h.elim) ?aF ?aB ?aS ?aL ?_
                  (case aR => repeat (first | exact (Kd.R_reads' HO_5.out).2.2 | (with_reducible refine Kd.C_alloc ?_ _) | (with_reducible refine Kd.C_drewN ?_ _) | (with_reducible refine Kd.C_drew ?_)))
                  (case aB => exact (by repeat (first | (with_reducible first | exact HB.out | apply below_alloc | apply pw_below_drewN | apply below_drew1) | exact HB.out)))
                  (case aF => exact (fun k_ hk => ⟨Kd.fresh' (Kd.R_lt (by (with_reducible repeat (first | apply Kd.R_alloc | apply Kd.R_drewN | apply Kd.R_drew)); exact HO_5.out)) k_ hk, Kd.fresh' (Kd.R_lt (by (with_reducible repeat (first | apply Kd.R_alloc | apply Kd.R_drewN | apply Kd.R_drew)); exact HO321.out)) k_ hk⟩))
                  (case aO => exact (by (with_reducible repeat (first | apply Kd.R_alloc | apply Kd.R_drewN | apply Kd.R_drew)); exact Kd.R_mono HO313.out (fun _ hk => ⟨hk.1.2, hk.2⟩)))
                  (case aS => exact (below_size (by repeat (first | (with_reducible first | exact HB.out | apply below_alloc | apply pw_below_drewN | apply below_drew1) | exact HB.out))))
                  (case aL => have := LMc22.out; omega)
                  intro v315 w60 ho hb hg hat
                  have HS0_ := cell_grown hg (hHeld.1) (cell_ne_row (fun e_ => ((HO313.out.1 _ e_.symm).1.2) rfl))
                  have HS1_ := cell_grown hg (hHeld.2.1) (cell_ne_row (fun e_ => ((HO313.out.1 _ e_.symm).1.2) rfl))
                  have HS2_ := cell_grown hg (hHeld.2.2.1) (cell_ne_row (fun e_ => ((HO313.out.1 _ e_.symm).1.2) rfl))
                  have HS3_ := cell_grown hg (hHeld.2.2.2.1) (cell_ne_row (fun e_ => ((HO313.out.1 _ e_.symm).1.2) rfl))
                  have HS4_ := cell_grown hg (hHeld.2.2.2.2.1) (cell_ne_row (fun e_ => ((HO313.out.1 _ e_.symm).1.2) rfl))
                  have HS5_ := cell_grown hg (hHeld.2.2.2.2.2.1) (cell_ne_row (fun e_ => ((HO313.out.1 _ e_.symm).1.2) rfl))
                  have HS6_ := cell_grown hg (hHeld.2.2.2.2.2.2.1) (cell_ne_row (fun e_ => ((HO313.out.1 _ e_.symm).1.2) rfl))
                  have HS7_ := cell_grown hg (hHeld.2.2.2.2.2.2.2) (cell_ne_row (fun e_ => ((HO313.out.1 _ e_.symm).1.2) rfl))
                  have hHN7_ := True.intro
                  rw [← Ny314.out] at ho
                  have n0_ := Aside0.mk (Kd.R_after (ok := (fun k_ => some k_ ≠ (v320 : Value).ownBlock)) (by (with_reducible repeat (first | apply Kd.R_alloc | apply Kd.R_drewN | apply Kd.R_drew)); exact Kd.R_mono HO_5.out (fun _ hk => ⟨hk.1.2, hk.2⟩)) hg hat)
                  have n1_ := Aside0.mk (Kd.R_after (ok := (fun k_ => some k_ ≠ (.slice (some ad317) t305.length co10 : Value).ownBlock)) (by (with_reducible repeat (first | apply Kd.R_alloc | apply Kd.R_drewN | apply Kd.R_drew)); exact Kd.R_mono HO321.out (fun _ hk => ⟨hk.1.2, hk.2⟩)) hg hat)
                  have n2_ := Aside0.mk (hb)
                  have n3_ := Aside0.mk (ho)
                  clear HO_5
                  clear HO321
                  clear HB
                  clear HO313
                  have HO_5 := n0_
                  have HO321 := n1_
                  have HB := n2_
                  have HO316 := n3_
                  clear n0_ n1_ n2_ n3_
                  clear ho hb hg hat
                  refine hK.out _ _ ⟨HS0_, HS1_, HS2_, HS3_, HS4_, HS5_, HS6_, HS7_⟩ (fun hHeld => ?_)
                  clear hK K
                  refine norm_ (a' := ?_) ?_ ?_
                  rotate_left
                  ·show Act.put _ (some 45) _ = _
                   simp only [Act.put, List.setIfInBounds_toArray, List.set_cons_zero, List.set_cons_succ, i64_w, i32_w]
                   rfl
                  exact norm_ (by simp only [putAll, Act.put, List.setIfInBounds_toArray, List.set_cons_zero, List.set_cons_succ]) (hCont (v312, v315, v320) _ ⟨hHeld, (by (with_reducible repeat (first | apply Kd.R_alloc | apply Kd.R_drewN | apply Kd.R_drew)); exact Kd.R_mono HO316.out (fun _ hk => ⟨hk.2, hk.1⟩)), (by (with_reducible repeat (first | apply Kd.R_alloc | apply Kd.R_drewN | apply Kd.R_drew)); exact Kd.R_mono HO321.out (fun _ hk => ⟨hk.2, hk.1⟩)), (by (with_reducible repeat (first | apply Kd.R_alloc | apply Kd.R_drewN | apply Kd.R_drew)); exact Kd.R_mono HO_5.out (fun _ hk => ⟨hk.2, hk.1⟩)), (by repeat (first | (with_reducible first | exact HB.out | apply below_alloc | apply pw_below_drewN | apply below_drew1) | exact HB.out))⟩)
                rintro ⟨v312, v315, v320⟩ w61 ⟨hS_, h0_, h1_, h2_, h3_⟩
                have n0_ : Aside0 (Kd.R k34 34 w61 w.heap.size (fun k_ => some k_ ≠ (v320 : Value).ownBlock ∧ some k_ ≠ (.slice (some ad317) t305.length co10 : Value).ownBlock) v315 y314) := ⟨h0_⟩
                have n1_ : Aside0 (Kd.R k34 34 w61 w.heap.size (fun k_ => some k_ ≠ (v315 : Value).ownBlock ∧ some k_ ≠ (.slice (some ad317) t305.length co10 : Value).ownBlock) v320 y319) := ⟨h1_⟩
                have n2_ : Aside0 (Kd.R k34 34 w61 w.heap.size (fun k_ => some k_ ≠ (v315 : Value).ownBlock ∧ some k_ ≠ (v320 : Value).ownBlock) (.slice (some ad317) t305.length co10) t305) := ⟨h2_⟩
                have n3_ : Aside0 (Below w.heap.size w w61) := ⟨h3_⟩
                clear HO_5
                clear HB
                clear h0_ h1_ h2_ h3_
                have HO316 := n0_
                have HO321 := n1_
                have HO_5 := n2_
                have HB := n3_
                clear n0_ n1_ n2_ n3_
                have hHeld : w61.cell? (ad317.add (((ji23)).toNat * 4)) = some (.int .i64 ((rd_T34 t305 (ji23)).f0)) ∧ w61.cell? ⟨(ad317.add (((ji23)).toNat * 4)).block, (ad317.add (((ji23)).toNat * 4)).off + 1, none⟩ = some (.int .i64 ((rd_T34 t305 (ji23)).f1.f0)) ∧ w61.cell? ⟨(ad317.add (((ji23)).toNat * 4)).block, (ad317.add (((ji23)).toNat * 4)).off + 2, none⟩ = some (.int .i64 ((rd_T34 t305 (ji23)).f1.f1)) ∧ w61.cell? ⟨(ad317.add (((ji23)).toNat * 4)).block, (ad317.add (((ji23)).toNat * 4)).off + 3, none⟩ = some (.int .i64 ((rd_T34 t305 (ji23)).f1.f2)) ∧ w61.cell? (ad317.add (((ji23)).toNat * 4)) = some (.int .i64 ((rd_T34 t305 (ji23)).f0)) ∧ w61.cell? ⟨(ad317.add (((ji23)).toNat * 4)).block, (ad317.add (((ji23)).toNat * 4)).off + 1, none⟩ = some (.int .i64 ((rd_T34 t305 (ji23)).f1.f0)) ∧ w61.cell? ⟨(ad317.add (((ji23)).toNat * 4)).block, (ad317.add (((ji23)).toNat * 4)).off + 2, none⟩ = some (.int .i64 ((rd_T34 t305 (ji23)).f1.f1)) ∧ w61.cell? ⟨(ad317.add (((ji23)).toNat * 4)).block, (ad317.add (((ji23)).toNat * 4)).off + 3, none⟩ = some (.int .i64 ((rd_T34 t305 (ji23)).f1.f2)) := hS_
                obtain ⟨Ao63, co63, eo63⟩ := Kd.R_slice HO321.out
                (first | subst eo63 | (injection eo63 with f1_ f2_ f3_; have f4_ := f1_.symm; have f5_ := f3_.symm; clear f1_ f2_ f3_; subst f4_; subst f5_))
                refine norm_ (a' := ?_) ?_ ?_
                rotate_left
                ·simp only [putAll, Act.put, List.setIfInBounds_toArray, List.set_cons_zero, List.set_cons_succ]
                 rfl
                refine one_ (i := 15) (N := some 58) #[true, true, true, true, true, true, true, true, true, true, true, true, true, true, true, true, false] rfl rfl (one_of HT_.out (by kernel_rfl)) (by decide) (fun K hK => ?_)
                refine Kd.R_append_rows_step k34 (w0 := w) w.heap.size (by rfl) (.tmp 45) (.tmp 57) 25 34 (.agg #[(.int .i64 0), (.int .i64 0), (.int .i64 0), (.int .i64 0)]) 32 rfl Try.underlying25 info34 rfl (by decide) (by omega) v315 y314 y319 _ _ _ (fun k_ => some k_ ≠ (.slice (some ad317) t305.length co10 : Value).ownBlock ∧ some k_ ≠ (.slice Ao63 y319.length co63 : Value).ownBlock) (fun _ => False) rfl rfl ?aO ?aR (fun _ _ h => h) (fun _ h => h.elim) ?aF ?aB ?aS ?aL ?_
                (case aR => repeat (first | exact (Kd.R_reads' HO321.out).2.2 | (with_reducible refine Kd.C_alloc ?_ _) | (with_reducible refine Kd.C_drewN ?_ _) | (with_reducible refine Kd.C_drew ?_)))
                (case aB => exact (by repeat (first | (with_reducible first | exact HB.out | apply below_alloc | apply pw_below_drewN | apply below_drew1) | exact HB.out)))
                (case aF => exact (fun k_ hk => ⟨Kd.fresh' (Kd.R_lt (by (with_reducible repeat (first | apply Kd.R_alloc | apply Kd.R_drewN | apply Kd.R_drew)); exact HO_5.out)) k_ hk, Kd.fresh' (Kd.R_lt (by (with_reducible repeat (first | apply Kd.R_alloc | apply Kd.R_drewN | apply Kd.R_drew)); exact HO321.out)) k_ hk⟩))
                (case aO => exact (by (with_reducible repeat (first | apply Kd.R_alloc | apply Kd.R_drewN | apply Kd.R_drew)); exact Kd.R_mono HO316.out (fun _ hk => ⟨hk.2, hk.1⟩)))
                (case aS => exact (below_size (by repeat (first | (with_reducible first | exact HB.out | apply below_alloc | apply pw_below_drewN | apply below_drew1) | exact HB.out))))
                (case aL => have := LMc26.out; omega)
                intro v323 w62 ho hb hg hat
                have HS0_ := cell_grown hg (hHeld.1) (cell_ne_row (fun e_ => ((HO316.out.1 _ e_.symm).2) rfl))
                have HS1_ := cell_grown hg (hHeld.2.1) (cell_ne_row (fun e_ => ((HO316.out.1 _ e_.symm).2) rfl))
                have HS2_ := cell_grown hg (hHeld.2.2.1) (cell_ne_row (fun e_ => ((HO316.out.1 _ e_.symm).2) rfl))
                have HS3_ := cell_grown hg (hHeld.2.2.2.1) (cell_ne_row (fun e_ => ((HO316.out.1 _ e_.symm).2) rfl))
                have HS4_ := cell_grown hg (hHeld.2.2.2.2.1) (cell_ne_row (fun e_ => ((HO316.out.1 _ e_.symm).2) rfl))
                have HS5_ := cell_grown hg (hHeld.2.2.2.2.2.1) (cell_ne_row (fun e_ => ((HO316.out.1 _ e_.symm).2) rfl))
                have HS6_ := cell_grown hg (hHeld.2.2.2.2.2.2.1) (cell_ne_row (fun e_ => ((HO316.out.1 _ e_.symm).2) rfl))
                have HS7_ := cell_grown hg (hHeld.2.2.2.2.2.2.2) (cell_ne_row (fun e_ => ((HO316.out.1 _ e_.symm).2) rfl))
                have hHN9_ := True.intro
                rw [← Ny322.out] at ho
                have n0_ := Aside0.mk (Kd.R_after (ok := (fun k_ => some k_ ≠ (.slice Ao63 y319.length co63 : Value).ownBlock)) (by (with_reducible repeat (first | apply Kd.R_alloc | apply Kd.R_drewN | apply Kd.R_drew)); exact Kd.R_mono HO_5.out (fun _ hk => ⟨hk.2, hk.1⟩)) hg hat)
                have n1_ := Aside0.mk (Kd.R_after (ok := (fun k_ => some k_ ≠ (.slice (some ad317) t305.length co10 : Value).ownBlock)) (by (with_reducible repeat (first | apply Kd.R_alloc | apply Kd.R_drewN | apply Kd.R_drew)); exact Kd.R_mono HO321.out (fun _ hk => ⟨hk.2, hk.1⟩)) hg hat)
                have n2_ := Aside0.mk (hb)
                have n3_ := Aside0.mk (ho)
                clear HO_5
                clear HO321
                clear HB
                clear HO316
                have HO_5 := n0_
                have HO321 := n1_
                have HB := n2_
                have HO324 := n3_
                clear n0_ n1_ n2_ n3_
                clear ho hb hg hat
                refine hK.out _ _ ⟨HS0_, HS1_, HS2_, HS3_, HS4_, HS5_, HS6_, HS7_⟩ (fun hHeld => ?_)
                clear hK K
                refine norm_ (a' := ?_) ?_ ?_
                rotate_left
                ·show Act.put _ (some 58) _ = _
                 simp only [Act.put, List.setIfInBounds_toArray, List.set_cons_zero, List.set_cons_succ, i64_w, i32_w]
                 rfl
                refine pure_ (i := 16) (N := some 8) (v := ?_) (a' := ?_) #[true, true, true, true, true, true, true, true, true, true, true, true, true, true, true, true, true] rfl rfl (any_of HT_.out (by kernel_rfl)) (fun _ _ _ h => h) (Or.inl ⟨by rfl, ?_⟩) ?_ ?_
                rotate_left
                ·intro w'
                 go_simp
                 with_reducible rfl
                rotate_left
                ·simp only [Act.put, List.setIfInBounds_toArray, List.set_cons_zero, List.set_cons_succ, i64_w, i32_w]
                 rfl
                refine done_ (done_of HT_.out (by kernel_rfl)) ?_
                have q64 : ((ji23) : Int) ≤ ((t305.length : Int) : Int) := of_decide_eq_true (by first | (with_reducible assumption) | assumption)
                obtain ⟨i064, hi064, _, hsz64, _⟩ := info_parts info34
                have hroom64 : t305.length ≤ co10 := (Kd.R_reads' HO_5.out).2.1
                have hC64 : Kd.C k34 _ (some ad317) t305.length t305 := (Kd.R_reads' HO_5.out).2.2
                have hcut64 := cut_to (P := Try.prog) 25 34 .i64 Try.underlying25 hi064 (some ad317) t305.length co10 (ji23) (of_decide_eq_true (by first | (with_reducible assumption) | assumption)) q64 hroom64
                have hr64 := Kd.C_take (m := ((ji23) : Int).toNat) hC64 (by omega)
                have hy64 : y325.length = ((ji23) : Int).toNat := (by rw [Ny325.out, List.length_take]; omega)
                rw [← Ny325.out] at hr64
                rw [← hy64] at hcut64
                have HR328 := Aside0.mk hr64
                have HC328 := Aside0.mk (show y325.length ≤ co10 from by omega)
                clear hr64 hC64 hroom64 hi064 hsz64
                have KY64 := Aside0.mk hy64
                clear hy64
                have KL64 := Aside0.mk (show ((ji23) : Int).toNat ≤ t305.length from by omega)
                replace q64 := eq_true q64
                try go_wp2_with (first | ((with_reducible refine gate_callee (f := 14) rfl ?_); refine goesL_ (some 62) rfl rfl Try.func14 (by kernel_rfl) rfl #[.slice (some ad317) y325.length co10] rfl (by (try simp only [List.map_toArray, List.map_cons, List.map_nil]); first | done | rfl | (simp only [List.length_drop, List.length_take]; rfl)) ?_; (with_reducible refine (impl_ChainOk.calls kj7 _ _ y325 true _ ?side1 ?side2 A29.out).mono ?_); (case side1 => repeat (first | exact (by repeat (first | (with_reducible exact HR328.out) | (with_reducible refine Kd.C_alloc ?_ _) | (with_reducible refine Kd.C_drewN ?_ _) | (with_reducible refine Kd.C_drew ?_) | exact HR328.out)) | (with_reducible refine Kd.C_alloc ?_ _) | (with_reducible refine Kd.C_drewN ?_ _) | (with_reducible refine Kd.C_drew ?_))); (case side2 => exact HC328.out); rintro e w65 ⟨rfl, hb⟩; refine ⟨_, rfl, ?_⟩; have n0_ := Aside0.mk (Kd.R_below (by (with_reducible repeat (first | apply Kd.R_alloc | apply Kd.R_drewN | apply Kd.R_drew)); exact HO_5.out) hb); have n1_ := Aside0.mk (Kd.R_below (by (with_reducible repeat (first | apply Kd.R_alloc | apply Kd.R_drewN | apply Kd.R_drew)); exact HO321.out) hb); have n2_ := Aside0.mk (Kd.R_below (by (with_reducible repeat (first | apply Kd.R_alloc | apply Kd.R_drewN | apply Kd.R_drew)); exact HO324.out) hb); have n3_ := Aside0.mk (Kd.C_below (by repeat (first | (with_reducible exact HR328.out) | (with_reducible refine Kd.C_alloc ?_ _) | (with_reducible refine Kd.C_drewN ?_ _) | (with_reducible refine Kd.C_drew ?_) | exact HR328.out)) hb); have n4_ := Aside0.mk (below_step (by repeat (first | (with_reducible first | exact HB.out | apply below_alloc | apply pw_below_drewN | apply below_drew1) | exact HB.out)) hb); clear HO_5; clear HO321; clear HO324; clear HR328; clear HB; have HO_5 := n0_; have HO321 := n1_; have HO324 := n2_; have HR328 := n3_; have HB := n4_; clear n0_ n1_ n2_ n3_ n4_; (try clear hb); (try clear hb2); (try clear hk); (try clear hi); have q66 : ((ji23) : Int) ≤ ((t305.length : Int) : Int) := of_decide_eq_true (by first | (with_reducible assumption) | assumption); obtain ⟨i066, hi066, _, hsz66, _⟩ := info_parts info34; have hroom66 : t305.length ≤ co10 := (Kd.R_reads' HO_5.out).2.1; have hC66 : Kd.C k34 _ (some ad317) t305.length t305 := (Kd.R_reads' HO_5.out).2.2; have hcut66 := cut_to (P := Try.prog) 25 34 .i64 Try.underlying25 hi066 (some ad317) t305.length co10 (ji23) (of_decide_eq_true (by first | (with_reducible assumption) | assumption)) q66 hroom66; have hr66 := Kd.C_take (m := ((ji23) : Int).toNat) hC66 (by omega); have hy66 : y330.length = ((ji23) : Int).toNat := (by rw [Ny330.out, List.length_take]; omega); rw [← Ny330.out] at hr66; rw [← hy66] at hcut66; have HR333 := Aside0.mk hr66; have HC333 := Aside0.mk (show y330.length ≤ co10 from by omega); clear hr66 hC66 hroom66 hi066 hsz66; have KY66 := Aside0.mk hy66; clear hy66; have KL66 := Aside0.mk (show ((ji23) : Int).toNat ≤ t305.length from by omega); replace q66 := eq_true q66) | (go_at_call 17; (try rw [EY330.out]); (with_reducible refine (impl_ChainIn.calls kj7 _ _ y330 _ _ t305 true _ ?side1 ?side2 ?side3 ?side4 A33.out).mono ?_); (case side1 => repeat (first | exact (by repeat (first | (with_reducible exact HR333.out) | (with_reducible refine Kd.C_alloc ?_ _) | (with_reducible refine Kd.C_drewN ?_ _) | (with_reducible refine Kd.C_drew ?_) | exact HR333.out)) | (with_reducible refine Kd.C_alloc ?_ _) | (with_reducible refine Kd.C_drewN ?_ _) | (with_reducible refine Kd.C_drew ?_))); (case side2 => exact HC333.out); (case side3 => repeat (first | exact (Kd.R_reads' HO_5.out).2.2 | (with_reducible refine Kd.C_alloc ?_ _) | (with_reducible refine Kd.C_drewN ?_ _) | (with_reducible refine Kd.C_drew ?_))); (case side4 => exact (Kd.R_reads' HO_5.out).2.1); rintro e w67 ⟨rfl, hb⟩; have n0_ := Aside0.mk (Kd.R_below (by (with_reducible repeat (first | apply Kd.R_alloc | apply Kd.R_drewN | apply Kd.R_drew)); exact HO_5.out) hb); have n1_ := Aside0.mk (Kd.R_below (by (with_reducible repeat (first | apply Kd.R_alloc | apply Kd.R_drewN | apply Kd.R_drew)); exact HO321.out) hb); have n2_ := Aside0.mk (Kd.R_below (by (with_reducible repeat (first | apply Kd.R_alloc | apply Kd.R_drewN | apply Kd.R_drew)); exact HO324.out) hb); have n3_ := Aside0.mk (Kd.C_below (by repeat (first | (with_reducible exact HR328.out) | (with_reducible refine Kd.C_alloc ?_ _) | (with_reducible refine Kd.C_drewN ?_ _) | (with_reducible refine Kd.C_drew ?_) | exact HR328.out)) hb); have n4_ := Aside0.mk (Kd.C_below (by repeat (first | (with_reducible exact HR333.out) | (with_reducible refine Kd.C_alloc ?_ _) | (with_reducible refine Kd.C_drewN ?_ _) | (with_reducible refine Kd.C_drew ?_) | exact HR333.out)) hb); have n5_ := Aside0.mk (below_step (by repeat (first | (with_reducible first | exact HB.out | apply below_alloc | apply pw_below_drewN | apply below_drew1) | exact HB.out)) hb); clear HO_5; clear HO321; clear HO324; clear HR328; clear HR333; clear HB; have HO_5 := n0_; have HO321 := n1_; have HO324 := n2_; have HR328 := n3_; have HR333 := n4_; have HB := n5_; clear n0_ n1_ n2_ n3_ n4_ n5_; (try clear hb); (try clear hb2); (try clear hk); (try clear hi); obtain ⟨Ao68, co68, eo68⟩ := Kd.R_slice HO324.out; subst eo68) | (go_at_call 14; (with_reducible refine (impl_ChainOk.calls kj7 _ _ y322 false _ ?side1 ?side2 A35.out).mono ?_); (case side1 => repeat (first | exact (Kd.R_reads' HO324.out).2.2 | (with_reducible refine Kd.C_alloc ?_ _) | (with_reducible refine Kd.C_drewN ?_ _) | (with_reducible refine Kd.C_drew ?_))); (case side2 => exact (Kd.R_reads' HO324.out).2.1); rintro e w69 ⟨rfl, hb⟩; have n0_ := Aside0.mk (Kd.R_below (by (with_reducible repeat (first | apply Kd.R_alloc | apply Kd.R_drewN | apply Kd.R_drew)); exact HO_5.out) hb); have n1_ := Aside0.mk (Kd.R_below (by (with_reducible repeat (first | apply Kd.R_alloc | apply Kd.R_drewN | apply Kd.R_drew)); exact HO321.out) hb); have n2_ := Aside0.mk (Kd.R_below (by (with_reducible repeat (first | apply Kd.R_alloc | apply Kd.R_drewN | apply Kd.R_drew)); exact HO324.out) hb); have n3_ := Aside0.mk (Kd.C_below (by repeat (first | (with_reducible exact HR328.out) | (with_reducible refine Kd.C_alloc ?_ _) | (with_reducible refine Kd.C_drewN ?_ _) | (with_reducible refine Kd.C_drew ?_) | exact HR328.out)) hb); have n4_ := Aside0.mk (Kd.C_below (by repeat (first | (with_reducible exact HR333.out) | (with_reducible refine Kd.C_alloc ?_ _) | (with_reducible refine Kd.C_drewN ?_ _) | (with_reducible refine Kd.C_drew ?_) | exact HR333.out)) hb); have n5_ := Aside0.mk (below_step (by repeat (first | (with_reducible first | exact HB.out | apply below_alloc | apply pw_below_drewN | apply below_drew1) | exact HB.out)) hb); clear HO_5; clear HO321; clear HO324; clear HR328; clear HR333; clear HB; have HO_5 := n0_; have HO321 := n1_; have HO324 := n2_; have HR328 := n3_; have HR333 := n4_; have HB := n5_; clear n0_ n1_ n2_ n3_ n4_ n5_; (try clear hb); (try clear hb2); (try clear hk); (try clear hi); have q70 : ((ji23) : Int) ≤ ((t305.length : Int) : Int) := of_decide_eq_true (by first | (with_reducible assumption) | assumption); obtain ⟨i070, hi070, _, hsz70, _⟩ := info_parts info34; have hroom70 : t305.length ≤ co10 := (Kd.R_reads' HO_5.out).2.1; have hC70 : Kd.C k34 _ (some ad317) t305.length t305 := (Kd.R_reads' HO_5.out).2.2; have hcut70 := cut_to (P := Try.prog) 25 34 .i64 Try.underlying25 hi070 (some ad317) t305.length co10 (ji23) (of_decide_eq_true (by first | (with_reducible assumption) | assumption)) q70 hroom70; have hr70 := Kd.C_take (m := ((ji23) : Int).toNat) hC70 (by omega); have hy70 : y336.length = ((ji23) : Int).toNat := (by rw [Ny336.out, List.length_take]; omega); rw [← Ny336.out] at hr70; rw [← hy70] at hcut70; have HR339 := Aside0.mk hr70; have HC339 := Aside0.mk (show y336.length ≤ co10 from by omega); clear hr70 hC70 hroom70 hi070 hsz70; have KY70 := Aside0.mk hy70; clear hy70; have KL70 := Aside0.mk (show ((ji23) : Int).toNat ≤ t305.length from by omega); replace q70 := eq_true q70) | (go_at_call 17; (try rw [EY336.out]); (with_reducible refine (impl_ChainIn.calls kj7 _ _ t305 _ _ y336 t340 _ ?side1 ?side2 ?side3 ?side4 A54.out).mono ?_); (case side1 => repeat (first | exact (Kd.R_reads' HO_5.out).2.2 | (with_reducible refine Kd.C_alloc ?_ _) | (with_reducible refine Kd.C_drewN ?_ _) | (with_reducible refine Kd.C_drew ?_))); (case side2 => exact (Kd.R_reads' HO_5.out).2.1); (case side3 => repeat (first | exact (by repeat (first | (with_reducible exact HR339.out) | (with_reducible refine Kd.C_alloc ?_ _) | (with_reducible refine Kd.C_drewN ?_ _) | (with_reducible refine Kd.C_drew ?_) | exact HR339.out)) | (with_reducible refine Kd.C_alloc ?_ _) | (with_reducible refine Kd.C_drewN ?_ _) | (with_reducible refine Kd.C_drew ?_))); (case side4 => exact HC339.out); rintro e w71 ⟨rfl, hb⟩; have n0_ := Aside0.mk (Kd.R_below (by (with_reducible repeat (first | apply Kd.R_alloc | apply Kd.R_drewN | apply Kd.R_drew)); exact HO_5.out) hb); have n1_ := Aside0.mk (Kd.R_below (by (with_reducible repeat (first | apply Kd.R_alloc | apply Kd.R_drewN | apply Kd.R_drew)); exact HO321.out) hb); have n2_ := Aside0.mk (Kd.R_below (by (with_reducible repeat (first | apply Kd.R_alloc | apply Kd.R_drewN | apply Kd.R_drew)); exact HO324.out) hb); have n3_ := Aside0.mk (Kd.C_below (by repeat (first | (with_reducible exact HR328.out) | (with_reducible refine Kd.C_alloc ?_ _) | (with_reducible refine Kd.C_drewN ?_ _) | (with_reducible refine Kd.C_drew ?_) | exact HR328.out)) hb); have n4_ := Aside0.mk (Kd.C_below (by repeat (first | (with_reducible exact HR333.out) | (with_reducible refine Kd.C_alloc ?_ _) | (with_reducible refine Kd.C_drewN ?_ _) | (with_reducible refine Kd.C_drew ?_) | exact HR333.out)) hb); have n5_ := Aside0.mk (Kd.C_below (by repeat (first | (with_reducible exact HR339.out) | (with_reducible refine Kd.C_alloc ?_ _) | (with_reducible refine Kd.C_drewN ?_ _) | (with_reducible refine Kd.C_drew ?_) | exact HR339.out)) hb); have n6_ := Aside0.mk (below_step (by repeat (first | (with_reducible first | exact HB.out | apply below_alloc | apply pw_below_drewN | apply below_drew1) | exact HB.out)) hb); clear HO_5; clear HO321; clear HO324; clear HR328; clear HR333; clear HR339; clear HB; have HO_5 := n0_; have HO321 := n1_; have HO324 := n2_; have HR328 := n3_; have HR333 := n4_; have HR339 := n5_; have HB := n6_; clear n0_ n1_ n2_ n3_ n4_ n5_ n6_; (try clear hb); (try clear hb2); (try clear hk); (try clear hi)))
                go_ret
                exact ⟨by first | rfl | (simp only [i64_w, i32_w]; done) | (simp only [i64_w, i32_w]; rfl) | (simp [errW_none, errW_some] <;> rfl) | (simp only [← hji23]; first | rfl | (simp [errW_none, errW_some] <;> rfl)) | (simp [*, errW_none, errW_some] <;> rfl), by repeat (first | (with_reducible first | exact HB.out | apply below_alloc | apply pw_below_drewN | apply below_drew1) | exact HB.out)⟩
              ·replace c34 := Bool.eq_false_iff.mpr c34
               subst c34
               have H1 : (some false) = some r := by rw [if_neg (show ¬ (false = true) by decide)] at H; exact H
               clear H
               have H := H1
               clear H1
               obtain rfl := Option.some.inj H
               try go_wp2
               have n0_ := Aside0.mk (Kd.R_drew HO_5.out)
               have n1_ := Aside0.mk (below_drew1 HB.out)
               clear HO_5
               clear HB
               have HO_5 := n0_
               have HB := n1_
               clear n0_ n1_
               have p317 : 0 ≤ ((ji23) : Int) := of_decide_eq_true (by first | (with_reducible assumption) | assumption)
               have q317 : (ji23) < (t305.length : Int) := of_decide_eq_true (by first | (with_reducible assumption) | assumption)
               obtain ⟨ad317, e317, hx317_0, hx317_1, hx317_2, hx317_3⟩ := at_T34 (Kd.R_reads' HO_5.out).2.2 (ji23) p317 q317
               cases e317
               replace p317 := eq_true p317
               replace q317 := eq_true q317
               have p318 : 0 ≤ ((ji23) : Int) := of_decide_eq_true (by first | (with_reducible assumption) | assumption)
               have q318 : (ji23) < (t305.length : Int) := of_decide_eq_true (by first | (with_reducible assumption) | assumption)
               obtain ⟨ad318, e318, hx318_0, hx318_1, hx318_2, hx318_3⟩ := at_T34 (Kd.R_reads' HO_5.out).2.2 (ji23) p318 q318
               obtain rfl : ad317 = ad318 := (by injection e318)
               replace p318 := eq_true p318
               replace q318 := eq_true q318
               refine start_ (n := 17) (S := fun w' => w'.cell? (ad317.add (((ji23)).toNat * 4)) = some (.int .i64 ((rd_T34 t305 (ji23)).f0)) ∧ w'.cell? ⟨(ad317.add (((ji23)).toNat * 4)).block, (ad317.add (((ji23)).toNat * 4)).off + 1, none⟩ = some (.int .i64 ((rd_T34 t305 (ji23)).f1.f0)) ∧ w'.cell? ⟨(ad317.add (((ji23)).toNat * 4)).block, (ad317.add (((ji23)).toNat * 4)).off + 2, none⟩ = some (.int .i64 ((rd_T34 t305 (ji23)).f1.f1)) ∧ w'.cell? ⟨(ad317.add (((ji23)).toNat * 4)).block, (ad317.add (((ji23)).toNat * 4)).off + 3, none⟩ = some (.int .i64 ((rd_T34 t305 (ji23)).f1.f2)) ∧ w'.cell? (ad317.add (((ji23)).toNat * 4)) = some (.int .i64 ((rd_T34 t305 (ji23)).f0)) ∧ w'.cell? ⟨(ad317.add (((ji23)).toNat * 4)).block, (ad317.add (((ji23)).toNat * 4)).off + 1, none⟩ = some (.int .i64 ((rd_T34 t305 (ji23)).f1.f0)) ∧ w'.cell? ⟨(ad317.add (((ji23)).toNat * 4)).block, (ad317.add (((ji23)).toNat * 4)).off + 2, none⟩ = some (.int .i64 ((rd_T34 t305 (ji23)).f1.f1)) ∧ w'.cell? ⟨(ad317.add (((ji23)).toNat * 4)).block, (ad317.add (((ji23)).toNat * 4)).off + 3, none⟩ = some (.int .i64 ((rd_T34 t305 (ji23)).f1.f2))) (ds := []) #[false, false, false, false, false, false, false, false, false, false, false, false, false, false, false, false, false] (by kernel_rfl) rfl rfl ⟨hx317_0, hx317_1, hx317_2, hx317_3, hx318_0, hx318_1, hx318_2, hx318_3⟩ (fun hHeld => ?_); refine with_tabW laws_FnChainLess.tab8 laws_FnChainLess.bits8 (fun HT_ HW_ => ?_)
               generalize wc.drew = w72 at HO_5 HB hx317_0 hx317_1 hx317_2 hx317_3 hx318_0 hx318_1 hx318_2 hx318_3 hHeld ⊢
               refine pure_ (i := 1) (N := some 44) (v := ?_) (a' := ?_) #[false, true, false, false, false, false, false, false, false, false, false, false, false, false, false, false, false] rfl rfl (any_of HT_.out (by kernel_rfl)) (fun _ _ _ h => h) (Or.inl ⟨by rfl, ?_⟩) ?_ ?_
               rotate_left
               ·intro w'
                go_simp
                with_reducible rfl
               rotate_left
               ·simp only [Act.put, List.setIfInBounds_toArray, List.set_cons_zero, List.set_cons_succ, i64_w, i32_w]
                rfl
               refine pure_ (i := 3) (N := some 46) (v := ?_) (a' := ?_) #[false, true, false, true, false, false, false, false, false, false, false, false, false, false, false, false, false] rfl rfl (any_of HT_.out (by kernel_rfl)) (fun _ _ _ h => h) (Or.inl ⟨by rfl, ?_⟩) ?_ ?_
               rotate_left
               ·intro w'
                go_simp
                with_reducible rfl
               rotate_left
               ·simp only [Act.put, List.setIfInBounds_toArray, List.set_cons_zero, List.set_cons_succ, i64_w, i32_w]
                rfl
               refine pure_ (i := 4) (N := some 47) (v := ?_) (a' := ?_) #[false, true, false, true, true, false, false, false, false, false, false, false, false, false, false, false, false] rfl rfl (any_of HT_.out (by kernel_rfl)) (fun _ _ _ h => h) (Or.inl ⟨by rfl, ?_⟩) ?_ ?_
               rotate_left
               ·intro w'
                go_simp
                with_reducible rfl
               rotate_left
               ·simp only [Act.put, List.setIfInBounds_toArray, List.set_cons_zero, List.set_cons_succ, i64_w, i32_w]
                rfl
               refine pure_ (i := 5) (N := some 48) (v := ?_) (a' := ?_) #[false, true, false, true, true, true, false, false, false, false, false, false, false, false, false, false, false] rfl rfl (any_of HT_.out (by kernel_rfl)) (fun _ _ _ h => h) (Or.inl ⟨by rfl, ?_⟩) ?_ ?_
               rotate_left
               ·intro w'
                go_simp
                with_reducible rfl
               rotate_left
               ·simp only [Act.put, List.setIfInBounds_toArray, List.set_cons_zero, List.set_cons_succ, i64_w, i32_w]
                rfl
               refine pure_ (i := 6) (N := some 49) (v := ?_) (a' := ?_) #[false, true, false, true, true, true, true, false, false, false, false, false, false, false, false, false, false] rfl rfl (any_of HT_.out (by kernel_rfl)) (fun _ _ _ h => h) (Or.inl ⟨by rfl, ?_⟩) ?_ ?_
               rotate_left
               ·intro w'
                go_simp
                with_reducible rfl
               rotate_left
               ·simp only [Act.put, List.setIfInBounds_toArray, List.set_cons_zero, List.set_cons_succ, i64_w, i32_w]
                rfl
               refine pure_ (i := 8) (N := some 51) (v := ?_) (a' := ?_) #[false, true, false, true, true, true, true, false, true, false, false, false, false, false, false, false, false] rfl rfl (any_of HT_.out (by kernel_rfl)) (fun _ _ _ h => h) (Or.inl ⟨by rfl, ?_⟩) ?_ ?_
               rotate_left
               ·intro w'
                go_simp
                with_reducible rfl
               rotate_left
               ·simp only [Act.put, List.setIfInBounds_toArray, List.set_cons_zero, List.set_cons_succ, i64_w, i32_w]
                rfl
               refine pure_ (i := 9) (N := some 52) (v := ?_) (a' := ?_) #[false, true, false, true, true, true, true, false, true, true, false, false, false, false, false, false, false] rfl rfl (any_of HT_.out (by kernel_rfl)) (fun _ _ _ h => h) (Or.inl ⟨by rfl, ?_⟩) ?_ ?_
               rotate_left
               ·intro w'
                go_simp
                with_reducible rfl
               rotate_left
               ·simp only [Act.put, List.setIfInBounds_toArray, List.set_cons_zero, List.set_cons_succ, i64_w, i32_w]
                rfl
               refine pure_ (i := 10) (N := some 53) (v := ?_) (a' := ?_) #[false, true, false, true, true, true, true, false, true, true, true, false, false, false, false, false, false] rfl rfl (any_of HT_.out (by kernel_rfl)) (fun _ _ _ h => h) (Or.inl ⟨by rfl, ?_⟩) ?_ ?_
               rotate_left
               ·intro w'
                go_simp
                with_reducible rfl
               rotate_left
               ·simp only [Act.put, List.setIfInBounds_toArray, List.set_cons_zero, List.set_cons_succ, i64_w, i32_w]
                rfl
               refine pure_ (i := 11) (N := some 54) (v := ?_) (a' := ?_) #[false, true, false, true, true, true, true, false, true, true, true, true, false, false, false, false, false] rfl rfl (any_of HT_.out (by kernel_rfl)) (fun _ _ _ h => h) (Or.inl ⟨by rfl, ?_⟩) ?_ ?_
               rotate_left
               ·intro w'
                go_simp
                with_reducible rfl
               rotate_left
               ·simp only [Act.put, List.setIfInBounds_toArray, List.set_cons_zero, List.set_cons_succ, i64_w, i32_w]
                rfl
               refine take_ (i := 7) (N := some 50) (v := ?_) (a' := ?_) #[false, true, false, true, true, true, true, true, true, true, true, true, false, false, false, false, false] rfl rfl (take_ofW HT_.out HW_.out (by kernel_rfl)) (fun _ _ _ h => h) (Or.inl ⟨by rfl, ?_⟩) hHeld ?_ ?_
               rotate_left
               ·rintro w' ⟨s0, s1, s2, s3, s4, s5, s6, s7⟩
                (try simp only [Int.toNat_natCast] at s0 s1 s2 s3 s4 s5 s6 s7)
                go_simp
                with_reducible rfl
               rotate_left
               ·simp only [Act.put, List.setIfInBounds_toArray, List.set_cons_zero, List.set_cons_succ, i64_w, i32_w]
                rfl
               refine take_ (i := 12) (N := some 55) (v := ?_) (a' := ?_) #[false, true, false, true, true, true, true, true, true, true, true, true, true, false, false, false, false] rfl rfl (take_ofW HT_.out HW_.out (by kernel_rfl)) (fun _ _ _ h => h) (Or.inl ⟨by rfl, ?_⟩) hHeld ?_ ?_
               rotate_left
               ·rintro w' ⟨s0, s1, s2, s3, s4, s5, s6, s7⟩
                (try simp only [Int.toNat_natCast] at s0 s1 s2 s3 s4 s5 s6 s7)
                go_simp
                with_reducible rfl
               rotate_left
               ·simp only [Act.put, List.setIfInBounds_toArray, List.set_cons_zero, List.set_cons_succ, i64_w, i32_w]
                rfl
               refine pure_ (i := 13) (N := some 56) (v := ?_) (a' := ?_) #[false, true, false, true, true, true, true, true, true, true, true, true, true, true, false, false, false] rfl rfl (any_of HT_.out (by kernel_rfl)) (fun _ _ _ h => h) (Or.inl ⟨by rfl, ?_⟩) ?_ ?_
               rotate_left
               ·intro w'
                go_simp
                with_reducible rfl
               rotate_left
               ·simp only [Act.put, List.setIfInBounds_toArray, List.set_cons_zero, List.set_cons_succ, i64_w, i32_w]
                rfl
               refine join_ (σ := Value × Value × Value) 2 #[true, true, true, true, true, true, true, true, true, true, true, true, true, true, true, false, false] (fun s_ => [(43, s_.1), (45, s_.2.1), (57, s_.2.2)]) (fun s_ w' => (w'.cell? (ad317.add (((ji23)).toNat * 4)) = some (.int .i64 ((rd_T34 t305 (ji23)).f0)) ∧ w'.cell? ⟨(ad317.add (((ji23)).toNat * 4)).block, (ad317.add (((ji23)).toNat * 4)).off + 1, none⟩ = some (.int .i64 ((rd_T34 t305 (ji23)).f1.f0)) ∧ w'.cell? ⟨(ad317.add (((ji23)).toNat * 4)).block, (ad317.add (((ji23)).toNat * 4)).off + 2, none⟩ = some (.int .i64 ((rd_T34 t305 (ji23)).f1.f1)) ∧ w'.cell? ⟨(ad317.add (((ji23)).toNat * 4)).block, (ad317.add (((ji23)).toNat * 4)).off + 3, none⟩ = some (.int .i64 ((rd_T34 t305 (ji23)).f1.f2)) ∧ w'.cell? (ad317.add (((ji23)).toNat * 4)) = some (.int .i64 ((rd_T34 t305 (ji23)).f0)) ∧ w'.cell? ⟨(ad317.add (((ji23)).toNat * 4)).block, (ad317.add (((ji23)).toNat * 4)).off + 1, none⟩ = some (.int .i64 ((rd_T34 t305 (ji23)).f1.f0)) ∧ w'.cell? ⟨(ad317.add (((ji23)).toNat * 4)).block, (ad317.add (((ji23)).toNat * 4)).off + 2, none⟩ = some (.int .i64 ((rd_T34 t305 (ji23)).f1.f1)) ∧ w'.cell? ⟨(ad317.add (((ji23)).toNat * 4)).block, (ad317.add (((ji23)).toNat * 4)).off + 3, none⟩ = some (.int .i64 ((rd_T34 t305 (ji23)).f1.f2))) ∧ (Kd.R k34 34 w' w.heap.size (fun k_ => some k_ ≠ (s_.2.2 : Value).ownBlock ∧ some k_ ≠ (.slice (some ad317) t305.length co10 : Value).ownBlock) s_.2.1 y314) ∧ (Kd.R k34 34 w' w.heap.size (fun k_ => some k_ ≠ (s_.2.1 : Value).ownBlock ∧ some k_ ≠ (.slice (some ad317) t305.length co10 : Value).ownBlock) s_.2.2 y319) ∧ (Kd.R k34 34 w' w.heap.size (fun k_ => some k_ ≠ (s_.2.1 : Value).ownBlock ∧ some k_ ≠ (s_.2.2 : Value).ownBlock) (.slice (some ad317) t305.length co10) t305) ∧ (Below w.heap.size w w')) ?_ ?_
               rotate_left
               ·intro hCont
                refine two_ (i := 0) (j := 14) (Ni := some 43) (Nj := some 57) #[true, true, false, true, true, true, true, true, true, true, true, true, true, true, false, false, false] #[false, true, false, true, true, true, true, true, true, true, true, true, true, true, true, false, false] rfl rfl rfl rfl (two_of HT_.out (by kernel_rfl)) (by decide) (by decide) (fun K hK => ?_) (fun K hK => ?_)
                ·skip
                 refine Kd.R_lit_step k34 _ 34 ?hg (N := 43) ?hd (xs := ([] : List (S34))) (inner := []) (ok := fun _ => True) (okp := fun _ => True) ?hr ?hp (fun _ hk => hk) trivial (Below.refl _ _) (Nat.le_refl _) (by simp) ?_; (case hd => rfl); (case hg => rfl); (case hr => first | (go_simp; done) | (go_simp; rfl)); (case hp => exact (Reps.none _ _))
                 intro v312 w73 ho74 hb hg_ hnew_
                 have HS0_ := (hb.cell (World.block_lt_of_cell? _ _ (hHeld.1))).trans (hHeld.1)
                 have HS1_ := (hb.cell (World.block_lt_of_cell? _ _ (hHeld.2.1))).trans (hHeld.2.1)
                 have HS2_ := (hb.cell (World.block_lt_of_cell? _ _ (hHeld.2.2.1))).trans (hHeld.2.2.1)
                 have HS3_ := (hb.cell (World.block_lt_of_cell? _ _ (hHeld.2.2.2.1))).trans (hHeld.2.2.2.1)
                 have HS4_ := (hb.cell (World.block_lt_of_cell? _ _ (hHeld.2.2.2.2.1))).trans (hHeld.2.2.2.2.1)
                 have HS5_ := (hb.cell (World.block_lt_of_cell? _ _ (hHeld.2.2.2.2.2.1))).trans (hHeld.2.2.2.2.2.1)
                 have HS6_ := (hb.cell (World.block_lt_of_cell? _ _ (hHeld.2.2.2.2.2.2.1))).trans (hHeld.2.2.2.2.2.2.1)
                 have HS7_ := (hb.cell (World.block_lt_of_cell? _ _ (hHeld.2.2.2.2.2.2.2))).trans (hHeld.2.2.2.2.2.2.2)
                 clear hg_ hnew_
                 (first | rw [← Ny311.out] at ho74 | (simp only [Int.reduceToNat] at ho74; rw [← Ny311.out] at ho74))
                 have n0_ := Aside0.mk (Kd.R_elder' (by (with_reducible repeat (first | apply Kd.R_alloc | apply Kd.R_drewN | apply Kd.R_drew)); exact HO_5.out) (Kd.R_base ho74) hb)
                 have n1_ := Aside0.mk (Kd.R_lower (Kd.R_new' ho74 (Kd.R_lt (by (with_reducible repeat (first | apply Kd.R_alloc | apply Kd.R_drewN | apply Kd.R_drew)); exact HO_5.out))) (below_size (by repeat (first | (with_reducible first | exact HB.out | apply below_alloc | apply pw_below_drewN | apply below_drew1) | exact HB.out))))
                 have n2_ := Aside0.mk (below_step (by repeat (first | (with_reducible first | exact HB.out | apply below_alloc | apply pw_below_drewN | apply below_drew1) | exact HB.out)) hb)
                 clear HO_5
                 clear HB
                 have HO_5 := n0_
                 have HO313 := n1_
                 have HB := n2_
                 clear n0_ n1_ n2_
                 clear hb ho74
                 refine hK.out _ _ ⟨HS0_, HS1_, HS2_, HS3_, HS4_, HS5_, HS6_, HS7_⟩ (fun hHeld => ?_)
                 clear hK K
                 refine norm_ (a' := ?_) ?_ ?_
                 rotate_left
                 ·show Act.put _ (some 43) _ = _
                  simp only [Act.put, List.setIfInBounds_toArray, List.set_cons_zero, List.set_cons_succ, i64_w, i32_w]
                  rfl
                 refine two_ (i := 2) (j := 14) (Ni := some 45) (Nj := some 57) #[true, true, true, true, true, true, true, true, true, true, true, true, true, true, false, false, false] #[true, true, false, true, true, true, true, true, true, true, true, true, true, true, true, false, false] rfl rfl rfl rfl (two_of HT_.out (by kernel_rfl)) (by decide) (by decide) (fun K hK => ?_) (fun K hK => ?_)
                 ·skip
                  refine Kd.R_append_rows_step k34 (w0 := w) w.heap.size (by rfl) (.tmp 43) (.tmp 44) 25 34 (.agg #[(.int .i64 0), (.int .i64 0), (.int .i64 0), (.int .i64 0)]) 32 rfl Try.underlying25 info34 rfl (by decide) (by omega) v312 y311 t305 _ _ _ (fun k_ => some k_ ≠ (.slice (some ad317) t305.length co10 : Value).ownBlock) (fun _ => False) rfl rfl ?aO ?aR (fun _ _ h => h) (fun _ h => h.elim) ?aF ?aB ?aS ?aL ?_
                  (case aR => repeat (first | exact (Kd.R_reads' HO_5.out).2.2 | (with_reducible refine Kd.C_alloc ?_ _) | (with_reducible refine Kd.C_drewN ?_ _) | (with_reducible refine Kd.C_drew ?_)))
                  (case aB => exact (by repeat (first | (with_reducible first | exact HB.out | apply below_alloc | apply pw_below_drewN | apply below_drew1) | exact HB.out)))
                  (case aF => exact (fun k_ hk => Kd.fresh' (Kd.R_lt (by (with_reducible repeat (first | apply Kd.R_alloc | apply Kd.R_drewN | apply Kd.R_drew)); exact HO_5.out)) k_ hk))
                  (case aO => exact (by (with_reducible repeat (first | apply Kd.R_alloc | apply Kd.R_drewN | apply Kd.R_drew)); exact Kd.R_mono HO313.out (fun _ hk => hk.2)))
                  (case aS => exact (below_size (by repeat (first | (with_reducible first | exact HB.out | apply below_alloc | apply pw_below_drewN | apply below_drew1) | exact HB.out))))
                  (case aL => have := LMc22.out; omega)
                  intro v315 w75 ho hb hg hat
                  have HS0_ := cell_grown hg (hHeld.1) (cell_ne_row (fun e_ => ((HO313.out.1 _ e_.symm).2) rfl))
                  have HS1_ := cell_grown hg (hHeld.2.1) (cell_ne_row (fun e_ => ((HO313.out.1 _ e_.symm).2) rfl))
                  have HS2_ := cell_grown hg (hHeld.2.2.1) (cell_ne_row (fun e_ => ((HO313.out.1 _ e_.symm).2) rfl))
                  have HS3_ := cell_grown hg (hHeld.2.2.2.1) (cell_ne_row (fun e_ => ((HO313.out.1 _ e_.symm).2) rfl))
                  have HS4_ := cell_grown hg (hHeld.2.2.2.2.1) (cell_ne_row (fun e_ => ((HO313.out.1 _ e_.symm).2) rfl))
                  have HS5_ := cell_grown hg (hHeld.2.2.2.2.2.1) (cell_ne_row (fun e_ => ((HO313.out.1 _ e_.symm).2) rfl))
                  have HS6_ := cell_grown hg (hHeld.2.2.2.2.2.2.1) (cell_ne_row (fun e_ => ((HO313.out.1 _ e_.symm).2) rfl))
                  have HS7_ := cell_grown hg (hHeld.2.2.2.2.2.2.2) (cell_ne_row (fun e_ => ((HO313.out.1 _ e_.symm).2) rfl))
                  have hHN10_ := True.intro
                  rw [← Ny314.out] at ho
                  have n0_ := Aside0.mk (Kd.R_after (ok := (fun _ => True)) (by (with_reducible repeat (first | apply Kd.R_alloc | apply Kd.R_drewN | apply Kd.R_drew)); exact HO_5.out) hg hat)
                  have n1_ := Aside0.mk (hb)
                  have n2_ := Aside0.mk (ho)
                  clear HO_5
                  clear HB
                  clear HO313
                  have HO_5 := n0_
                  have HB := n1_
                  have HO316 := n2_
                  clear n0_ n1_ n2_
                  clear ho hb hg hat
                  refine hK.out _ _ ⟨HS0_, HS1_, HS2_, HS3_, HS4_, HS5_, HS6_, HS7_⟩ (fun hHeld => ?_)
                  clear hK K
                  refine norm_ (a' := ?_) ?_ ?_
                  rotate_left
                  ·show Act.put _ (some 45) _ = _
                   simp only [Act.put, List.setIfInBounds_toArray, List.set_cons_zero, List.set_cons_succ, i64_w, i32_w]
                   rfl
                  refine one_ (i := 14) (N := some 57) #[true, true, true, true, true, true, true, true, true, true, true, true, true, true, true, false, false] rfl rfl (one_of HT_.out (by kernel_rfl)) (by decide) (fun K hK => ?_)
                  refine Kd.R_lit_step k34 _ 34 ?hg (N := 57) ?hd (xs := ([(⟨(rd_T34 t305 (ji23)).f0, (⟨(rd_T34 t305 (ji23)).f1.f0, (rd_T34 t305 (ji23)).f1.f1, (rd_T34 t305 (ji23)).f1.f2⟩ : S32)⟩ : S34)] : List (S34))) (inner := [.int .i64 ((rd_T34 t305 (ji23)).f0), .int .i64 ((rd_T34 t305 (ji23)).f1.f0), .int .i64 ((rd_T34 t305 (ji23)).f1.f1), .int .i64 ((rd_T34 t305 (ji23)).f1.f2)]) (ok := fun _ => True) (okp := fun _ => True) ?hr ?hp (fun _ hk => hk) trivial (Below.refl _ _) (Nat.le_refl _) (by simp) ?_; (case hd => rfl); (case hg => rfl); (case hr => first | (go_simp; done) | (go_simp; rfl)); (case hp => exact (Reps.c4 (show Kd.M k34 _ _ _ (⟨(rd_T34 t305 (ji23)).f0, (⟨(rd_T34 t305 (ji23)).f1.f0, (rd_T34 t305 (ji23)).f1.f1, (rd_T34 t305 (ji23)).f1.f2⟩ : S32)⟩ : S34) [.int .i64 ((rd_T34 t305 (ji23)).f0), .int .i64 ((rd_T34 t305 (ji23)).f1.f0), .int .i64 ((rd_T34 t305 (ji23)).f1.f1), .int .i64 ((rd_T34 t305 (ji23)).f1.f2)] from (k34_mkM _ _ _ (⟨(rd_T34 t305 (ji23)).f0, (⟨(rd_T34 t305 (ji23)).f1.f0, (rd_T34 t305 (ji23)).f1.f1, (rd_T34 t305 (ji23)).f1.f2⟩ : S32)⟩ : S34) )) (Reps.none _ _)))
                  intro v320 w76 ho77 hb hg_ hnew_
                  have HS0_ := (hb.cell (World.block_lt_of_cell? _ _ (hHeld.1))).trans (hHeld.1)
                  have HS1_ := (hb.cell (World.block_lt_of_cell? _ _ (hHeld.2.1))).trans (hHeld.2.1)
                  have HS2_ := (hb.cell (World.block_lt_of_cell? _ _ (hHeld.2.2.1))).trans (hHeld.2.2.1)
                  have HS3_ := (hb.cell (World.block_lt_of_cell? _ _ (hHeld.2.2.2.1))).trans (hHeld.2.2.2.1)
                  have HS4_ := (hb.cell (World.block_lt_of_cell? _ _ (hHeld.2.2.2.2.1))).trans (hHeld.2.2.2.2.1)
                  have HS5_ := (hb.cell (World.block_lt_of_cell? _ _ (hHeld.2.2.2.2.2.1))).trans (hHeld.2.2.2.2.2.1)
                  have HS6_ := (hb.cell (World.block_lt_of_cell? _ _ (hHeld.2.2.2.2.2.2.1))).trans (hHeld.2.2.2.2.2.2.1)
                  have HS7_ := (hb.cell (World.block_lt_of_cell? _ _ (hHeld.2.2.2.2.2.2.2))).trans (hHeld.2.2.2.2.2.2.2)
                  clear hg_ hnew_
                  (first | rw [← Ny319.out] at ho77 | (simp only [Int.reduceToNat] at ho77; rw [← Ny319.out] at ho77))
                  have n0_ := Aside0.mk (Kd.R_elder' (by (with_reducible repeat (first | apply Kd.R_alloc | apply Kd.R_drewN | apply Kd.R_drew)); exact HO_5.out) (Kd.R_base ho77) hb)
                  have n1_ := Aside0.mk (Kd.R_elder' (by (with_reducible repeat (first | apply Kd.R_alloc | apply Kd.R_drewN | apply Kd.R_drew)); exact HO316.out) (Kd.R_base ho77) hb)
                  have n2_ := Aside0.mk (Kd.R_lower (Kd.R_new' (Kd.R_new' ho77 (Kd.R_lt (by (with_reducible repeat (first | apply Kd.R_alloc | apply Kd.R_drewN | apply Kd.R_drew)); exact HO_5.out))) (Kd.R_lt (by (with_reducible repeat (first | apply Kd.R_alloc | apply Kd.R_drewN | apply Kd.R_drew)); exact HO316.out))) (below_size (by repeat (first | (with_reducible first | exact HB.out | apply below_alloc | apply pw_below_drewN | apply below_drew1) | exact HB.out))))
                  have n3_ := Aside0.mk (below_step (by repeat (first | (with_reducible first | exact HB.out | apply below_alloc | apply pw_below_drewN | apply below_drew1) | exact HB.out)) hb)
                  clear HO_5
                  clear HO316
                  clear HB
                  have HO_5 := n0_
                  have HO316 := n1_
                  have HO321 := n2_
                  have HB := n3_
                  clear n0_ n1_ n2_ n3_
                  clear hb ho77
                  refine hK.out _ _ ⟨HS0_, HS1_, HS2_, HS3_, HS4_, HS5_, HS6_, HS7_⟩ (fun hHeld => ?_)
                  clear hK K
                  refine norm_ (a' := ?_) ?_ ?_
                  rotate_left
                  ·show Act.put _ (some 57) _ = _
                   simp only [Act.put, List.setIfInBounds_toArray, List.set_cons_zero, List.set_cons_succ, i64_w, i32_w]
                   rfl
                  exact norm_ (by simp only [putAll, Act.put, List.setIfInBounds_toArray, List.set_cons_zero, List.set_cons_succ]) (hCont (v312, v315, v320) _ ⟨hHeld, (by (with_reducible repeat (first | apply Kd.R_alloc | apply Kd.R_drewN | apply Kd.R_drew)); exact Kd.R_mono HO316.out (fun _ hk => ⟨hk.2, hk.1⟩)), (by (with_reducible repeat (first | apply Kd.R_alloc | apply Kd.R_drewN | apply Kd.R_drew)); exact Kd.R_mono HO321.out (fun _ hk => ⟨hk.2, hk.1.2⟩)), (by (with_reducible repeat (first | apply Kd.R_alloc | apply Kd.R_drewN | apply Kd.R_drew)); exact Kd.R_mono HO_5.out (fun _ hk => ⟨hk.1.2, hk.2⟩)), (by repeat (first | (with_reducible first | exact HB.out | apply below_alloc | apply pw_below_drewN | apply below_drew1) | exact HB.out))⟩)
                 ·skip
                  refine Kd.R_lit_step k34 _ 34 ?hg (N := 57) ?hd (xs := ([(⟨(rd_T34 t305 (ji23)).f0, (⟨(rd_T34 t305 (ji23)).f1.f0, (rd_T34 t305 (ji23)).f1.f1, (rd_T34 t305 (ji23)).f1.f2⟩ : S32)⟩ : S34)] : List (S34))) (inner := [.int .i64 ((rd_T34 t305 (ji23)).f0), .int .i64 ((rd_T34 t305 (ji23)).f1.f0), .int .i64 ((rd_T34 t305 (ji23)).f1.f1), .int .i64 ((rd_T34 t305 (ji23)).f1.f2)]) (ok := fun _ => True) (okp := fun _ => True) ?hr ?hp (fun _ hk => hk) trivial (Below.refl _ _) (Nat.le_refl _) (by simp) ?_; (case hd => rfl); (case hg => rfl); (case hr => first | (go_simp; done) | (go_simp; rfl)); (case hp => exact (Reps.c4 (show Kd.M k34 _ _ _ (⟨(rd_T34 t305 (ji23)).f0, (⟨(rd_T34 t305 (ji23)).f1.f0, (rd_T34 t305 (ji23)).f1.f1, (rd_T34 t305 (ji23)).f1.f2⟩ : S32)⟩ : S34) [.int .i64 ((rd_T34 t305 (ji23)).f0), .int .i64 ((rd_T34 t305 (ji23)).f1.f0), .int .i64 ((rd_T34 t305 (ji23)).f1.f1), .int .i64 ((rd_T34 t305 (ji23)).f1.f2)] from (k34_mkM _ _ _ (⟨(rd_T34 t305 (ji23)).f0, (⟨(rd_T34 t305 (ji23)).f1.f0, (rd_T34 t305 (ji23)).f1.f1, (rd_T34 t305 (ji23)).f1.f2⟩ : S32)⟩ : S34) )) (Reps.none _ _)))
                  intro v320 w75 ho76 hb hg_ hnew_
                  have HS0_ := (hb.cell (World.block_lt_of_cell? _ _ (hHeld.1))).trans (hHeld.1)
                  have HS1_ := (hb.cell (World.block_lt_of_cell? _ _ (hHeld.2.1))).trans (hHeld.2.1)
                  have HS2_ := (hb.cell (World.block_lt_of_cell? _ _ (hHeld.2.2.1))).trans (hHeld.2.2.1)
                  have HS3_ := (hb.cell (World.block_lt_of_cell? _ _ (hHeld.2.2.2.1))).trans (hHeld.2.2.2.1)
                  have HS4_ := (hb.cell (World.block_lt_of_cell? _ _ (hHeld.2.2.2.2.1))).trans (hHeld.2.2.2.2.1)
                  have HS5_ := (hb.cell (World.block_lt_of_cell? _ _ (hHeld.2.2.2.2.2.1))).trans (hHeld.2.2.2.2.2.1)
                  have HS6_ := (hb.cell (World.block_lt_of_cell? _ _ (hHeld.2.2.2.2.2.2.1))).trans (hHeld.2.2.2.2.2.2.1)
                  have HS7_ := (hb.cell (World.block_lt_of_cell? _ _ (hHeld.2.2.2.2.2.2.2))).trans (hHeld.2.2.2.2.2.2.2)
                  clear hg_ hnew_
                  (first | rw [← Ny319.out] at ho76 | (simp only [Int.reduceToNat] at ho76; rw [← Ny319.out] at ho76))
                  have n0_ := Aside0.mk (Kd.R_elder' (by (with_reducible repeat (first | apply Kd.R_alloc | apply Kd.R_drewN | apply Kd.R_drew)); exact HO_5.out) (Kd.R_base ho76) hb)
                  have n1_ := Aside0.mk (Kd.R_elder' (by (with_reducible repeat (first | apply Kd.R_alloc | apply Kd.R_drewN | apply Kd.R_drew)); exact HO313.out) (Kd.R_base ho76) hb)
                  have n2_ := Aside0.mk (Kd.R_lower (Kd.R_new' (Kd.R_new' ho76 (Kd.R_lt (by (with_reducible repeat (first | apply Kd.R_alloc | apply Kd.R_drewN | apply Kd.R_drew)); exact HO_5.out))) (Kd.R_lt (by (with_reducible repeat (first | apply Kd.R_alloc | apply Kd.R_drewN | apply Kd.R_drew)); exact HO313.out))) (below_size (by repeat (first | (with_reducible first | exact HB.out | apply below_alloc | apply pw_below_drewN | apply below_drew1) | exact HB.out))))
                  have n3_ := Aside0.mk (below_step (by repeat (first | (with_reducible first | exact HB.out | apply below_alloc | apply pw_below_drewN | apply below_drew1) | exact HB.out)) hb)
                  clear HO_5
                  clear HO313
                  clear HB
                  have HO_5 := n0_
                  have HO313 := n1_
                  have HO321 := n2_
                  have HB := n3_
                  clear n0_ n1_ n2_ n3_
                  clear hb ho76
                  refine hK.out _ _ ⟨HS0_, HS1_, HS2_, HS3_, HS4_, HS5_, HS6_, HS7_⟩ (fun hHeld => ?_)
                  clear hK K
                  refine norm_ (a' := ?_) ?_ ?_
                  rotate_left
                  ·show Act.put _ (some 57) _ = _
                   simp only [Act.put, List.setIfInBounds_toArray, List.set_cons_zero, List.set_cons_succ, i64_w, i32_w]
                   rfl
                  refine one_ (i := 2) (N := some 45) #[true, true, true, true, true, true, true, true, true, true, true, true, true, true, true, false, false] rfl rfl (one_of HT_.out (by kernel_rfl)) (by decide) (fun K hK => ?_)
                  refine Kd.R_append_rows_step k34 (w0 := w) w.heap.size (by rfl) (.tmp 43) (.tmp 44) 25 34 (.agg #[(.int .i64 0), (.int .i64 0), (.int .i64 0), (.int .i64 0)]) 32 rfl Try.underlying25 info34 rfl (by decide) (by omega) v312 y311 t305 _ _ _ (fun k_ => some k_ ≠ (.slice (some ad317) t305.length co10 : Value).ownBlock ∧ some k_ ≠ (v320 : Value).ownBlock) (fun _ => False) rfl rfl ?aO ?aR (fun _ _ h => h) (fun _ h => h.elim) ?aF ?aB ?aS ?aL ?_
                  (case aR => repeat (first | exact (Kd.R_reads' HO_5.out).2.2 | (with_reducible refine Kd.C_alloc ?_ _) | (with_reducible refine Kd.C_drewN ?_ _) | (with_reducible refine Kd.C_drew ?_)))
                  (case aB => exact (by repeat (first | (with_reducible first | exact HB.out | apply below_alloc | apply pw_below_drewN | apply below_drew1) | exact HB.out)))
                  (case aF => exact (fun k_ hk => ⟨Kd.fresh' (Kd.R_lt (by (with_reducible repeat (first | apply Kd.R_alloc | apply Kd.R_drewN | apply Kd.R_drew)); exact HO_5.out)) k_ hk, Kd.fresh' (Kd.R_lt (by (with_reducible repeat (first | apply Kd.R_alloc | apply Kd.R_drewN | apply Kd.R_drew)); exact HO321.out)) k_ hk⟩))
                  (case aO => exact (by (with_reducible repeat (first | apply Kd.R_alloc | apply Kd.R_drewN | apply Kd.R_drew)); exact Kd.R_mono HO313.out (fun _ hk => ⟨hk.1.2, hk.2⟩)))
                  (case aS => exact (below_size (by repeat (first | (with_reducible first | exact HB.out | apply below_alloc | apply pw_below_drewN | apply below_drew1) | exact HB.out))))
                  (case aL => have := LMc22.out; omega)
                  intro v315 w77 ho hb hg hat
                  have HS0_ := cell_grown hg (hHeld.1) (cell_ne_row (fun e_ => ((HO313.out.1 _ e_.symm).1.2) rfl))
                  have HS1_ := cell_grown hg (hHeld.2.1) (cell_ne_row (fun e_ => ((HO313.out.1 _ e_.symm).1.2) rfl))
                  have HS2_ := cell_grown hg (hHeld.2.2.1) (cell_ne_row (fun e_ => ((HO313.out.1 _ e_.symm).1.2) rfl))
                  have HS3_ := cell_grown hg (hHeld.2.2.2.1) (cell_ne_row (fun e_ => ((HO313.out.1 _ e_.symm).1.2) rfl))
                  have HS4_ := cell_grown hg (hHeld.2.2.2.2.1) (cell_ne_row (fun e_ => ((HO313.out.1 _ e_.symm).1.2) rfl))
                  have HS5_ := cell_grown hg (hHeld.2.2.2.2.2.1) (cell_ne_row (fun e_ => ((HO313.out.1 _ e_.symm).1.2) rfl))
                  have HS6_ := cell_grown hg (hHeld.2.2.2.2.2.2.1) (cell_ne_row (fun e_ => ((HO313.out.1 _ e_.symm).1.2) rfl))
                  have HS7_ := cell_grown hg (hHeld.2.2.2.2.2.2.2) (cell_ne_row (fun e_ => ((HO313.out.1 _ e_.symm).1.2) rfl))
                  have hHN11_ := True.intro
                  rw [← Ny314.out] at ho
                  have n0_ := Aside0.mk (Kd.R_after (ok := (fun k_ => some k_ ≠ (v320 : Value).ownBlock)) (by (with_reducible repeat (first | apply Kd.R_alloc | apply Kd.R_drewN | apply Kd.R_drew)); exact Kd.R_mono HO_5.out (fun _ hk => ⟨hk.2, hk.1.2⟩)) hg hat)
                  have n1_ := Aside0.mk (Kd.R_after (ok := (fun k_ => some k_ ≠ (.slice (some ad317) t305.length co10 : Value).ownBlock)) (by (with_reducible repeat (first | apply Kd.R_alloc | apply Kd.R_drewN | apply Kd.R_drew)); exact Kd.R_mono HO321.out (fun _ hk => ⟨hk.1.2, hk.2⟩)) hg hat)
                  have n2_ := Aside0.mk (hb)
                  have n3_ := Aside0.mk (ho)
                  clear HO_5
                  clear HO321
                  clear HB
                  clear HO313
                  have HO_5 := n0_
                  have HO321 := n1_
                  have HB := n2_
                  have HO316 := n3_
                  clear n0_ n1_ n2_ n3_
                  clear ho hb hg hat
                  refine hK.out _ _ ⟨HS0_, HS1_, HS2_, HS3_, HS4_, HS5_, HS6_, HS7_⟩ (fun hHeld => ?_)
                  clear hK K
                  refine norm_ (a' := ?_) ?_ ?_
                  rotate_left
                  ·show Act.put _ (some 45) _ = _
                   simp only [Act.put, List.setIfInBounds_toArray, List.set_cons_zero, List.set_cons_succ, i64_w, i32_w]
                   rfl
                  exact norm_ (by simp only [putAll, Act.put, List.setIfInBounds_toArray, List.set_cons_zero, List.set_cons_succ]) (hCont (v312, v315, v320) _ ⟨hHeld, (by (with_reducible repeat (first | apply Kd.R_alloc | apply Kd.R_drewN | apply Kd.R_drew)); exact Kd.R_mono HO316.out (fun _ hk => ⟨hk.2, hk.1⟩)), (by (with_reducible repeat (first | apply Kd.R_alloc | apply Kd.R_drewN | apply Kd.R_drew)); exact Kd.R_mono HO321.out (fun _ hk => ⟨hk.2, hk.1⟩)), (by (with_reducible repeat (first | apply Kd.R_alloc | apply Kd.R_drewN | apply Kd.R_drew)); exact Kd.R_mono HO_5.out (fun _ hk => ⟨hk.2, hk.1⟩)), (by repeat (first | (with_reducible first | exact HB.out | apply below_alloc | apply pw_below_drewN | apply below_drew1) | exact HB.out))⟩)
                ·skip
                 refine Kd.R_lit_step k34 _ 34 ?hg (N := 57) ?hd (xs := ([(⟨(rd_T34 t305 (ji23)).f0, (⟨(rd_T34 t305 (ji23)).f1.f0, (rd_T34 t305 (ji23)).f1.f1, (rd_T34 t305 (ji23)).f1.f2⟩ : S32)⟩ : S34)] : List (S34))) (inner := [.int .i64 ((rd_T34 t305 (ji23)).f0), .int .i64 ((rd_T34 t305 (ji23)).f1.f0), .int .i64 ((rd_T34 t305 (ji23)).f1.f1), .int .i64 ((rd_T34 t305 (ji23)).f1.f2)]) (ok := fun _ => True) (okp := fun _ => True) ?hr ?hp (fun _ hk => hk) trivial (Below.refl _ _) (Nat.le_refl _) (by simp) ?_; (case hd => rfl); (case hg => rfl); (case hr => first | (go_simp; done) | (go_simp; rfl)); (case hp => exact (Reps.c4 (show Kd.M k34 _ _ _ (⟨(rd_T34 t305 (ji23)).f0, (⟨(rd_T34 t305 (ji23)).f1.f0, (rd_T34 t305 (ji23)).f1.f1, (rd_T34 t305 (ji23)).f1.f2⟩ : S32)⟩ : S34) [.int .i64 ((rd_T34 t305 (ji23)).f0), .int .i64 ((rd_T34 t305 (ji23)).f1.f0), .int .i64 ((rd_T34 t305 (ji23)).f1.f1), .int .i64 ((rd_T34 t305 (ji23)).f1.f2)] from (k34_mkM _ _ _ (⟨(rd_T34 t305 (ji23)).f0, (⟨(rd_T34 t305 (ji23)).f1.f0, (rd_T34 t305 (ji23)).f1.f1, (rd_T34 t305 (ji23)).f1.f2⟩ : S32)⟩ : S34) )) (Reps.none _ _)))
                 intro v320 w73 ho74 hb hg_ hnew_
                 have HS0_ := (hb.cell (World.block_lt_of_cell? _ _ (hHeld.1))).trans (hHeld.1)
                 have HS1_ := (hb.cell (World.block_lt_of_cell? _ _ (hHeld.2.1))).trans (hHeld.2.1)
                 have HS2_ := (hb.cell (World.block_lt_of_cell? _ _ (hHeld.2.2.1))).trans (hHeld.2.2.1)
                 have HS3_ := (hb.cell (World.block_lt_of_cell? _ _ (hHeld.2.2.2.1))).trans (hHeld.2.2.2.1)
                 have HS4_ := (hb.cell (World.block_lt_of_cell? _ _ (hHeld.2.2.2.2.1))).trans (hHeld.2.2.2.2.1)
                 have HS5_ := (hb.cell (World.block_lt_of_cell? _ _ (hHeld.2.2.2.2.2.1))).trans (hHeld.2.2.2.2.2.1)
                 have HS6_ := (hb.cell (World.block_lt_of_cell? _ _ (hHeld.2.2.2.2.2.2.1))).trans (hHeld.2.2.2.2.2.2.1)
                 have HS7_ := (hb.cell (World.block_lt_of_cell? _ _ (hHeld.2.2.2.2.2.2.2))).trans (hHeld.2.2.2.2.2.2.2)
                 clear hg_ hnew_
                 (first | rw [← Ny319.out] at ho74 | (simp only [Int.reduceToNat] at ho74; rw [← Ny319.out] at ho74))
                 have n0_ := Aside0.mk (Kd.R_elder' (by (with_reducible repeat (first | apply Kd.R_alloc | apply Kd.R_drewN | apply Kd.R_drew)); exact HO_5.out) (Kd.R_base ho74) hb)
                 have n1_ := Aside0.mk (Kd.R_lower (Kd.R_new' ho74 (Kd.R_lt (by (with_reducible repeat (first | apply Kd.R_alloc | apply Kd.R_drewN | apply Kd.R_drew)); exact HO_5.out))) (below_size (by repeat (first | (with_reducible first | exact HB.out | apply below_alloc | apply pw_below_drewN | apply below_drew1) | exact HB.out))))
                 have n2_ := Aside0.mk (below_step (by repeat (first | (with_reducible first | exact HB.out | apply below_alloc | apply pw_below_drewN | apply below_drew1) | exact HB.out)) hb)
                 clear HO_5
                 clear HB
                 have HO_5 := n0_
                 have HO321 := n1_
                 have HB := n2_
                 clear n0_ n1_ n2_
                 clear hb ho74
                 refine hK.out _ _ ⟨HS0_, HS1_, HS2_, HS3_, HS4_, HS5_, HS6_, HS7_⟩ (fun hHeld => ?_)
                 clear hK K
                 refine norm_ (a' := ?_) ?_ ?_
                 rotate_left
                 ·show Act.put _ (some 57) _ = _
                  simp only [Act.put, List.setIfInBounds_toArray, List.set_cons_zero, List.set_cons_succ, i64_w, i32_w]
                  rfl
                 refine one_ (i := 0) (N := some 43) #[true, true, false, true, true, true, true, true, true, true, true, true, true, true, true, false, false] rfl rfl (one_of HT_.out (by kernel_rfl)) (by decide) (fun K hK => ?_)
                 refine Kd.R_lit_step k34 _ 34 ?hg (N := 43) ?hd (xs := ([] : List (S34))) (inner := []) (ok := fun _ => True) (okp := fun _ => True) ?hr ?hp (fun _ hk => hk) trivial (Below.refl _ _) (Nat.le_refl _) (by simp) ?_; (case hd => rfl); (case hg => rfl); (case hr => first | (go_simp; done) | (go_simp; rfl)); (case hp => exact (Reps.none _ _))
                 intro v312 w75 ho76 hb hg_ hnew_
                 have HS0_ := (hb.cell (World.block_lt_of_cell? _ _ (hHeld.1))).trans (hHeld.1)
                 have HS1_ := (hb.cell (World.block_lt_of_cell? _ _ (hHeld.2.1))).trans (hHeld.2.1)
                 have HS2_ := (hb.cell (World.block_lt_of_cell? _ _ (hHeld.2.2.1))).trans (hHeld.2.2.1)
                 have HS3_ := (hb.cell (World.block_lt_of_cell? _ _ (hHeld.2.2.2.1))).trans (hHeld.2.2.2.1)
                 have HS4_ := (hb.cell (World.block_lt_of_cell? _ _ (hHeld.2.2.2.2.1))).trans (hHeld.2.2.2.2.1)
                 have HS5_ := (hb.cell (World.block_lt_of_cell? _ _ (hHeld.2.2.2.2.2.1))).trans (hHeld.2.2.2.2.2.1)
                 have HS6_ := (hb.cell (World.block_lt_of_cell? _ _ (hHeld.2.2.2.2.2.2.1))).trans (hHeld.2.2.2.2.2.2.1)
                 have HS7_ := (hb.cell (World.block_lt_of_cell? _ _ (hHeld.2.2.2.2.2.2.2))).trans (hHeld.2.2.2.2.2.2.2)
                 clear hg_ hnew_
                 (first | rw [← Ny311.out] at ho76 | (simp only [Int.reduceToNat] at ho76; rw [← Ny311.out] at ho76))
                 have n0_ := Aside0.mk (Kd.R_elder' (by (with_reducible repeat (first | apply Kd.R_alloc | apply Kd.R_drewN | apply Kd.R_drew)); exact HO_5.out) (Kd.R_base ho76) hb)
                 have n1_ := Aside0.mk (Kd.R_elder' (by (with_reducible repeat (first | apply Kd.R_alloc | apply Kd.R_drewN | apply Kd.R_drew)); exact HO321.out) (Kd.R_base ho76) hb)
                 have n2_ := Aside0.mk (Kd.R_lower (Kd.R_new' (Kd.R_new' ho76 (Kd.R_lt (by (with_reducible repeat (first | apply Kd.R_alloc | apply Kd.R_drewN | apply Kd.R_drew)); exact HO_5.out))) (Kd.R_lt (by (with_reducible repeat (first | apply Kd.R_alloc | apply Kd.R_drewN | apply Kd.R_drew)); exact HO321.out))) (below_size (by repeat (first | (with_reducible first | exact HB.out | apply below_alloc | apply pw_below_drewN | apply below_drew1) | exact HB.out))))
                 have n3_ := Aside0.mk (below_step (by repeat (first | (with_reducible first | exact HB.out | apply below_alloc | apply pw_below_drewN | apply below_drew1) | exact HB.out)) hb)
                 clear HO_5
                 clear HO321
                 clear HB
                 have HO_5 := n0_
                 have HO321 := n1_
                 have HO313 := n2_
                 have HB := n3_
                 clear n0_ n1_ n2_ n3_
                 clear hb ho76
                 refine hK.out _ _ ⟨HS0_, HS1_, HS2_, HS3_, HS4_, HS5_, HS6_, HS7_⟩ (fun hHeld => ?_)
                 clear hK K
                 refine norm_ (a' := ?_) ?_ ?_
                 rotate_left
                 ·show Act.put _ (some 43) _ = _
                  simp only [Act.put, List.setIfInBounds_toArray, List.set_cons_zero, List.set_cons_succ, i64_w, i32_w]
                  rfl
                 refine one_ (i := 2) (N := some 45) #[true, true, true, true, true, true, true, true, true, true, true, true, true, true, true, false, false] rfl rfl (one_of HT_.out (by kernel_rfl)) (by decide) (fun K hK => ?_)
                 refine Kd.R_append_rows_step k34 (w0 := w) w.heap.size (by rfl) (.tmp 43) (.tmp 44) 25 34 (.agg #[(.int .i64 0), (.int .i64 0), (.int .i64 0), (.int .i64 0)]) 32 rfl Try.underlying25 info34 rfl (by decide) (by omega) v312 y311 t305 _ _ _ (fun k_ => some k_ ≠ (.slice (some ad317) t305.length co10 : Value).ownBlock ∧ some k_ ≠ (v320 : Value).ownBlock) (fun _ => False) rfl rfl ?aO ?aR (fun _ _ h => h) (fun _ h => h.elim) ?aF ?aB ?aS ?aL ?_
                 (case aR => repeat (first | exact (Kd.R_reads' HO_5.out).2.2 | (with_reducible refine Kd.C_alloc ?_ _) | (with_reducible refine Kd.C_drewN ?_ _) | (with_reducible refine Kd.C_drew ?_)))
                 (case aB => exact (by repeat (first | (with_reducible first | exact HB.out | apply below_alloc | apply pw_below_drewN | apply below_drew1) | exact HB.out)))
                 (case aF => exact (fun k_ hk => ⟨Kd.fresh' (Kd.R_lt (by (with_reducible repeat (first | apply Kd.R_alloc | apply Kd.R_drewN | apply Kd.R_drew)); exact HO_5.out)) k_ hk, Kd.fresh' (Kd.R_lt (by (with_reducible repeat (first | apply Kd.R_alloc | apply Kd.R_drewN | apply Kd.R_drew)); exact HO321.out)) k_ hk⟩))
                 (case aO => exact (by (with_reducible repeat (first | apply Kd.R_alloc | apply Kd.R_drewN | apply Kd.R_drew)); exact Kd.R_mono HO313.out (fun _ hk => ⟨hk.1.2, hk.2⟩)))
                 (case aS => exact (below_size (by repeat (first | (with_reducible first | exact HB.out | apply below_alloc | apply pw_below_drewN | apply below_drew1) | exact HB.out))))
                 (case aL => have := LMc22.out; omega)
                 intro v315 w77 ho hb hg hat
                 have HS0_ := cell_grown hg (hHeld.1) (cell_ne_row (fun e_ => ((HO313.out.1 _ e_.symm).1.2) rfl))
                 have HS1_ := cell_grown hg (hHeld.2.1) (cell_ne_row (fun e_ => ((HO313.out.1 _ e_.symm).1.2) rfl))
                 have HS2_ := cell_grown hg (hHeld.2.2.1) (cell_ne_row (fun e_ => ((HO313.out.1 _ e_.symm).1.2) rfl))
                 have HS3_ := cell_grown hg (hHeld.2.2.2.1) (cell_ne_row (fun e_ => ((HO313.out.1 _ e_.symm).1.2) rfl))
                 have HS4_ := cell_grown hg (hHeld.2.2.2.2.1) (cell_ne_row (fun e_ => ((HO313.out.1 _ e_.symm).1.2) rfl))
                 have HS5_ := cell_grown hg (hHeld.2.2.2.2.2.1) (cell_ne_row (fun e_ => ((HO313.out.1 _ e_.symm).1.2) rfl))
                 have HS6_ := cell_grown hg (hHeld.2.2.2.2.2.2.1) (cell_ne_row (fun e_ => ((HO313.out.1 _ e_.symm).1.2) rfl))
                 have HS7_ := cell_grown hg (hHeld.2.2.2.2.2.2.2) (cell_ne_row (fun e_ => ((HO313.out.1 _ e_.symm).1.2) rfl))
                 have hHN12_ := True.intro
                 rw [← Ny314.out] at ho
                 have n0_ := Aside0.mk (Kd.R_after (ok := (fun k_ => some k_ ≠ (v320 : Value).ownBlock)) (by (with_reducible repeat (first | apply Kd.R_alloc | apply Kd.R_drewN | apply Kd.R_drew)); exact Kd.R_mono HO_5.out (fun _ hk => ⟨hk.1.2, hk.2⟩)) hg hat)
                 have n1_ := Aside0.mk (Kd.R_after (ok := (fun k_ => some k_ ≠ (.slice (some ad317) t305.length co10 : Value).ownBlock)) (by (with_reducible repeat (first | apply Kd.R_alloc | apply Kd.R_drewN | apply Kd.R_drew)); exact Kd.R_mono HO321.out (fun _ hk => ⟨hk.1.2, hk.2⟩)) hg hat)
                 have n2_ := Aside0.mk (hb)
                 have n3_ := Aside0.mk (ho)
                 clear HO_5
                 clear HO321
                 clear HB
                 clear HO313
                 have HO_5 := n0_
                 have HO321 := n1_
                 have HB := n2_
                 have HO316 := n3_
                 clear n0_ n1_ n2_ n3_
                 clear ho hb hg hat
                 refine hK.out _ _ ⟨HS0_, HS1_, HS2_, HS3_, HS4_, HS5_, HS6_, HS7_⟩ (fun hHeld => ?_)
                 clear hK K
                 refine norm_ (a' := ?_) ?_ ?_
                 rotate_left
                 ·show Act.put _ (some 45) _ = _
                  simp only [Act.put, List.setIfInBounds_toArray, List.set_cons_zero, List.set_cons_succ, i64_w, i32_w]
                  rfl
                 exact norm_ (by simp only [putAll, Act.put, List.setIfInBounds_toArray, List.set_cons_zero, List.set_cons_succ]) (hCont (v312, v315, v320) _ ⟨hHeld, (by (with_reducible repeat (first | apply Kd.R_alloc | apply Kd.R_drewN | apply Kd.R_drew)); exact Kd.R_mono HO316.out (fun _ hk => ⟨hk.2, hk.1⟩)), (by (with_reducible repeat (first | apply Kd.R_alloc | apply Kd.R_drewN | apply Kd.R_drew)); exact Kd.R_mono HO321.out (fun _ hk => ⟨hk.2, hk.1⟩)), (by (with_reducible repeat (first | apply Kd.R_alloc | apply Kd.R_drewN | apply Kd.R_drew)); exact Kd.R_mono HO_5.out (fun _ hk => ⟨hk.2, hk.1⟩)), (by repeat (first | (with_reducible first | exact HB.out | apply below_alloc | apply pw_below_drewN | apply below_drew1) | exact HB.out))⟩)
               rintro ⟨v312, v315, v320⟩ w78 ⟨hS_, h0_, h1_, h2_, h3_⟩
               have n0_ : Aside0 (Kd.R k34 34 w78 w.heap.size (fun k_ => some k_ ≠ (v320 : Value).ownBlock ∧ some k_ ≠ (.slice (some ad317) t305.length co10 : Value).ownBlock) v315 y314) := ⟨h0_⟩
               have n1_ : Aside0 (Kd.R k34 34 w78 w.heap.size (fun k_ => some k_ ≠ (v315 : Value).ownBlock ∧ some k_ ≠ (.slice (some ad317) t305.length co10 : Value).ownBlock) v320 y319) := ⟨h1_⟩
               have n2_ : Aside0 (Kd.R k34 34 w78 w.heap.size (fun k_ => some k_ ≠ (v315 : Value).ownBlock ∧ some k_ ≠ (v320 : Value).ownBlock) (.slice (some ad317) t305.length co10) t305) := ⟨h2_⟩
               have n3_ : Aside0 (Below w.heap.size w w78) := ⟨h3_⟩
               clear HO_5
               clear HB
               clear h0_ h1_ h2_ h3_
               have HO316 := n0_
               have HO321 := n1_
               have HO_5 := n2_
               have HB := n3_
               clear n0_ n1_ n2_ n3_
               have hHeld : w78.cell? (ad317.add (((ji23)).toNat * 4)) = some (.int .i64 ((rd_T34 t305 (ji23)).f0)) ∧ w78.cell? ⟨(ad317.add (((ji23)).toNat * 4)).block, (ad317.add (((ji23)).toNat * 4)).off + 1, none⟩ = some (.int .i64 ((rd_T34 t305 (ji23)).f1.f0)) ∧ w78.cell? ⟨(ad317.add (((ji23)).toNat * 4)).block, (ad317.add (((ji23)).toNat * 4)).off + 2, none⟩ = some (.int .i64 ((rd_T34 t305 (ji23)).f1.f1)) ∧ w78.cell? ⟨(ad317.add (((ji23)).toNat * 4)).block, (ad317.add (((ji23)).toNat * 4)).off + 3, none⟩ = some (.int .i64 ((rd_T34 t305 (ji23)).f1.f2)) ∧ w78.cell? (ad317.add (((ji23)).toNat * 4)) = some (.int .i64 ((rd_T34 t305 (ji23)).f0)) ∧ w78.cell? ⟨(ad317.add (((ji23)).toNat * 4)).block, (ad317.add (((ji23)).toNat * 4)).off + 1, none⟩ = some (.int .i64 ((rd_T34 t305 (ji23)).f1.f0)) ∧ w78.cell? ⟨(ad317.add (((ji23)).toNat * 4)).block, (ad317.add (((ji23)).toNat * 4)).off + 2, none⟩ = some (.int .i64 ((rd_T34 t305 (ji23)).f1.f1)) ∧ w78.cell? ⟨(ad317.add (((ji23)).toNat * 4)).block, (ad317.add (((ji23)).toNat * 4)).off + 3, none⟩ = some (.int .i64 ((rd_T34 t305 (ji23)).f1.f2)) := hS_
               obtain ⟨Ao80, co80, eo80⟩ := Kd.R_slice HO321.out
               (first | subst eo80 | (injection eo80 with f1_ f2_ f3_; have f4_ := f1_.symm; have f5_ := f3_.symm; clear f1_ f2_ f3_; subst f4_; subst f5_))
               refine norm_ (a' := ?_) ?_ ?_
               rotate_left
               ·simp only [putAll, Act.put, List.setIfInBounds_toArray, List.set_cons_zero, List.set_cons_succ]
                rfl
               refine one_ (i := 15) (N := some 58) #[true, true, true, true, true, true, true, true, true, true, true, true, true, true, true, true, false] rfl rfl (one_of HT_.out (by kernel_rfl)) (by decide) (fun K hK => ?_)
               refine Kd.R_append_rows_step k34 (w0 := w) w.heap.size (by rfl) (.tmp 45) (.tmp 57) 25 34 (.agg #[(.int .i64 0), (.int .i64 0), (.int .i64 0), (.int .i64 0)]) 32 rfl Try.underlying25 info34 rfl (by decide) (by omega) v315 y314 y319 _ _ _ (fun k_ => some k_ ≠ (.slice (some ad317) t305.length co10 : Value).ownBlock ∧ some k_ ≠ (.slice Ao80 y319.length co80 : Value).ownBlock) (fun _ => False) rfl rfl ?aO ?aR (fun _ _ h => h) (fun _ h => h.elim) ?aF ?aB ?aS ?aL ?_
               (case aR => repeat (first | exact (Kd.R_reads' HO321.out).2.2 | (with_reducible refine Kd.C_alloc ?_ _) | (with_reducible refine Kd.C_drewN ?_ _) | (with_reducible refine Kd.C_drew ?_)))
               (case aB => exact (by repeat (first | (with_reducible first | exact HB.out | apply below_alloc | apply pw_below_drewN | apply below_drew1) | exact HB.out)))
               (case aF => exact (fun k_ hk => ⟨Kd.fresh' (Kd.R_lt (by (with_reducible repeat (first | apply Kd.R_alloc | apply Kd.R_drewN | apply Kd.R_drew)); exact HO_5.out)) k_ hk, Kd.fresh' (Kd.R_lt (by (with_reducible repeat (first | apply Kd.R_alloc | apply Kd.R_drewN | apply Kd.R_drew)); exact HO321.out)) k_ hk⟩))
               (case aO => exact (by (with_reducible repeat (first | apply Kd.R_alloc | apply Kd.R_drewN | apply Kd.R_drew)); exact Kd.R_mono HO316.out (fun _ hk => ⟨hk.2, hk.1⟩)))
               (case aS => exact (below_size (by repeat (first | (with_reducible first | exact HB.out | apply below_alloc | apply pw_below_drewN | apply below_drew1) | exact HB.out))))
               (case aL => have := LMc26.out; omega)
               intro v323 w79 ho hb hg hat
               have HS0_ := cell_grown hg (hHeld.1) (cell_ne_row (fun e_ => ((HO316.out.1 _ e_.symm).2) rfl))
               have HS1_ := cell_grown hg (hHeld.2.1) (cell_ne_row (fun e_ => ((HO316.out.1 _ e_.symm).2) rfl))
               have HS2_ := cell_grown hg (hHeld.2.2.1) (cell_ne_row (fun e_ => ((HO316.out.1 _ e_.symm).2) rfl))
               have HS3_ := cell_grown hg (hHeld.2.2.2.1) (cell_ne_row (fun e_ => ((HO316.out.1 _ e_.symm).2) rfl))
               have HS4_ := cell_grown hg (hHeld.2.2.2.2.1) (cell_ne_row (fun e_ => ((HO316.out.1 _ e_.symm).2) rfl))
               have HS5_ := cell_grown hg (hHeld.2.2.2.2.2.1) (cell_ne_row (fun e_ => ((HO316.out.1 _ e_.symm).2) rfl))
               have HS6_ := cell_grown hg (hHeld.2.2.2.2.2.2.1) (cell_ne_row (fun e_ => ((HO316.out.1 _ e_.symm).2) rfl))
               have HS7_ := cell_grown hg (hHeld.2.2.2.2.2.2.2) (cell_ne_row (fun e_ => ((HO316.out.1 _ e_.symm).2) rfl))
               have hHN14_ := True.intro
               rw [← Ny322.out] at ho
               have n0_ := Aside0.mk (Kd.R_after (ok := (fun k_ => some k_ ≠ (.slice Ao80 y319.length co80 : Value).ownBlock)) (by (with_reducible repeat (first | apply Kd.R_alloc | apply Kd.R_drewN | apply Kd.R_drew)); exact Kd.R_mono HO_5.out (fun _ hk => ⟨hk.2, hk.1⟩)) hg hat)
               have n1_ := Aside0.mk (Kd.R_after (ok := (fun k_ => some k_ ≠ (.slice (some ad317) t305.length co10 : Value).ownBlock)) (by (with_reducible repeat (first | apply Kd.R_alloc | apply Kd.R_drewN | apply Kd.R_drew)); exact Kd.R_mono HO321.out (fun _ hk => ⟨hk.2, hk.1⟩)) hg hat)
               have n2_ := Aside0.mk (hb)
               have n3_ := Aside0.mk (ho)
               clear HO_5
               clear HO321
               clear HB
               clear HO316
               have HO_5 := n0_
               have HO321 := n1_
               have HB := n2_
               have HO324 := n3_
               clear n0_ n1_ n2_ n3_
               clear ho hb hg hat
               refine hK.out _ _ ⟨HS0_, HS1_, HS2_, HS3_, HS4_, HS5_, HS6_, HS7_⟩ (fun hHeld => ?_)
               clear hK K
               refine norm_ (a' := ?_) ?_ ?_
               rotate_left
               ·show Act.put _ (some 58) _ = _
                simp only [Act.put, List.setIfInBounds_toArray, List.set_cons_zero, List.set_cons_succ, i64_w, i32_w]
                rfl
               refine pure_ (i := 16) (N := some 8) (v := ?_) (a' := ?_) #[true, true, true, true, true, true, true, true, true, true, true, true, true, true, true, true, true] rfl rfl (any_of HT_.out (by kernel_rfl)) (fun _ _ _ h => h) (Or.inl ⟨by rfl, ?_⟩) ?_ ?_
               rotate_left
               ·intro w'
                go_simp
                with_reducible rfl
               rotate_left
               ·simp only [Act.put, List.setIfInBounds_toArray, List.set_cons_zero, List.set_cons_succ, i64_w, i32_w]
                rfl
               refine done_ (done_of HT_.out (by kernel_rfl)) ?_
               have q81 : ((ji23) : Int) ≤ ((t305.length : Int) : Int) := of_decide_eq_true (by first | (with_reducible assumption) | assumption)
               obtain ⟨i081, hi081, _, hsz81, _⟩ := info_parts info34
               have hroom81 : t305.length ≤ co10 := (Kd.R_reads' HO_5.out).2.1
               have hC81 : Kd.C k34 _ (some ad317) t305.length t305 := (Kd.R_reads' HO_5.out).2.2
               have hcut81 := cut_to (P := Try.prog) 25 34 .i64 Try.underlying25 hi081 (some ad317) t305.length co10 (ji23) (of_decide_eq_true (by first | (with_reducible assumption) | assumption)) q81 hroom81
               have hr81 := Kd.C_take (m := ((ji23) : Int).toNat) hC81 (by omega)
               have hy81 : y325.length = ((ji23) : Int).toNat := (by rw [Ny325.out, List.length_take]; omega)
               rw [← Ny325.out] at hr81
               rw [← hy81] at hcut81
               have HR328 := Aside0.mk hr81
               have HC328 := Aside0.mk (show y325.length ≤ co10 from by omega)
               clear hr81 hC81 hroom81 hi081 hsz81
               have KY81 := Aside0.mk hy81
               clear hy81
               have KL81 := Aside0.mk (show ((ji23) : Int).toNat ≤ t305.length from by omega)
               replace q81 := eq_true q81
               try go_wp2_with (first | ((with_reducible refine gate_callee (f := 14) rfl ?_); refine goesL_ (some 62) rfl rfl Try.func14 (by kernel_rfl) rfl #[.slice (some ad317) y325.length co10] rfl (by (try simp only [List.map_toArray, List.map_cons, List.map_nil]); first | done | rfl | (simp only [List.length_drop, List.length_take]; rfl)) ?_; (with_reducible refine (impl_ChainOk.calls kj7 _ _ y325 true _ ?side1 ?side2 A29.out).mono ?_); (case side1 => repeat (first | exact (by repeat (first | (with_reducible exact HR328.out) | (with_reducible refine Kd.C_alloc ?_ _) | (with_reducible refine Kd.C_drewN ?_ _) | (with_reducible refine Kd.C_drew ?_) | exact HR328.out)) | (with_reducible refine Kd.C_alloc ?_ _) | (with_reducible refine Kd.C_drewN ?_ _) | (with_reducible refine Kd.C_drew ?_))); (case side2 => exact HC328.out); rintro e w82 ⟨rfl, hb⟩; refine ⟨_, rfl, ?_⟩; have n0_ := Aside0.mk (Kd.R_below (by (with_reducible repeat (first | apply Kd.R_alloc | apply Kd.R_drewN | apply Kd.R_drew)); exact HO_5.out) hb); have n1_ := Aside0.mk (Kd.R_below (by (with_reducible repeat (first | apply Kd.R_alloc | apply Kd.R_drewN | apply Kd.R_drew)); exact HO321.out) hb); have n2_ := Aside0.mk (Kd.R_below (by (with_reducible repeat (first | apply Kd.R_alloc | apply Kd.R_drewN | apply Kd.R_drew)); exact HO324.out) hb); have n3_ := Aside0.mk (Kd.C_below (by repeat (first | (with_reducible exact HR328.out) | (with_reducible refine Kd.C_alloc ?_ _) | (with_reducible refine Kd.C_drewN ?_ _) | (with_reducible refine Kd.C_drew ?_) | exact HR328.out)) hb); have n4_ := Aside0.mk (below_step (by repeat (first | (with_reducible first | exact HB.out | apply below_alloc | apply pw_below_drewN | apply below_drew1) | exact HB.out)) hb); clear HO_5; clear HO321; clear HO324; clear HR328; clear HB; have HO_5 := n0_; have HO321 := n1_; have HO324 := n2_; have HR328 := n3_; have HB := n4_; clear n0_ n1_ n2_ n3_ n4_; (try clear hb); (try clear hb2); (try clear hk); (try clear hi); have q83 : ((ji23) : Int) ≤ ((t305.length : Int) : Int) := of_decide_eq_true (by first | (with_reducible assumption) | assumption); obtain ⟨i083, hi083, _, hsz83, _⟩ := info_parts info34; have hroom83 : t305.length ≤ co10 := (Kd.R_reads' HO_5.out).2.1; have hC83 : Kd.C k34 _ (some ad317) t305.length t305 := (Kd.R_reads' HO_5.out).2.2; have hcut83 := cut_to (P := Try.prog) 25 34 .i64 Try.underlying25 hi083 (some ad317) t305.length co10 (ji23) (of_decide_eq_true (by first | (with_reducible assumption) | assumption)) q83 hroom83; have hr83 := Kd.C_take (m := ((ji23) : Int).toNat) hC83 (by omega); have hy83 : y330.length = ((ji23) : Int).toNat := (by rw [Ny330.out, List.length_take]; omega); rw [← Ny330.out] at hr83; rw [← hy83] at hcut83; have HR333 := Aside0.mk hr83; have HC333 := Aside0.mk (show y330.length ≤ co10 from by omega); clear hr83 hC83 hroom83 hi083 hsz83; have KY83 := Aside0.mk hy83; clear hy83; have KL83 := Aside0.mk (show ((ji23) : Int).toNat ≤ t305.length from by omega); replace q83 := eq_true q83) | (go_at_call 17; (try rw [EY330.out]); (with_reducible refine (impl_ChainIn.calls kj7 _ _ y330 _ _ t305 false _ ?side1 ?side2 ?side3 ?side4 A33.out).mono ?_); (case side1 => repeat (first | exact (by repeat (first | (with_reducible exact HR333.out) | (with_reducible refine Kd.C_alloc ?_ _) | (with_reducible refine Kd.C_drewN ?_ _) | (with_reducible refine Kd.C_drew ?_) | exact HR333.out)) | (with_reducible refine Kd.C_alloc ?_ _) | (with_reducible refine Kd.C_drewN ?_ _) | (with_reducible refine Kd.C_drew ?_))); (case side2 => exact HC333.out); (case side3 => repeat (first | exact (Kd.R_reads' HO_5.out).2.2 | (with_reducible refine Kd.C_alloc ?_ _) | (with_reducible refine Kd.C_drewN ?_ _) | (with_reducible refine Kd.C_drew ?_))); (case side4 => exact (Kd.R_reads' HO_5.out).2.1); rintro e w84 ⟨rfl, hb⟩; have n0_ := Aside0.mk (Kd.R_below (by (with_reducible repeat (first | apply Kd.R_alloc | apply Kd.R_drewN | apply Kd.R_drew)); exact HO_5.out) hb); have n1_ := Aside0.mk (Kd.R_below (by (with_reducible repeat (first | apply Kd.R_alloc | apply Kd.R_drewN | apply Kd.R_drew)); exact HO321.out) hb); have n2_ := Aside0.mk (Kd.R_below (by (with_reducible repeat (first | apply Kd.R_alloc | apply Kd.R_drewN | apply Kd.R_drew)); exact HO324.out) hb); have n3_ := Aside0.mk (Kd.C_below (by repeat (first | (with_reducible exact HR328.out) | (with_reducible refine Kd.C_alloc ?_ _) | (with_reducible refine Kd.C_drewN ?_ _) | (with_reducible refine Kd.C_drew ?_) | exact HR328.out)) hb); have n4_ := Aside0.mk (Kd.C_below (by repeat (first | (with_reducible exact HR333.out) | (with_reducible refine Kd.C_alloc ?_ _) | (with_reducible refine Kd.C_drewN ?_ _) | (with_reducible refine Kd.C_drew ?_) | exact HR333.out)) hb); have n5_ := Aside0.mk (below_step (by repeat (first | (with_reducible first | exact HB.out | apply below_alloc | apply pw_below_drewN | apply below_drew1) | exact HB.out)) hb); clear HO_5; clear HO321; clear HO324; clear HR328; clear HR333; clear HB; have HO_5 := n0_; have HO321 := n1_; have HO324 := n2_; have HR328 := n3_; have HR333 := n4_; have HB := n5_; clear n0_ n1_ n2_ n3_ n4_ n5_; (try clear hb); (try clear hb2); (try clear hk); (try clear hi)))
               go_ret
               exact ⟨by first | rfl | (simp only [i64_w, i32_w]; done) | (simp only [i64_w, i32_w]; rfl) | (simp [errW_none, errW_some] <;> rfl) | (simp only [← hji23]; first | rfl | (simp [errW_none, errW_some] <;> rfl)) | (simp [*, errW_none, errW_some] <;> rfl), by repeat (first | (with_reducible first | exact HB.out | apply below_alloc | apply pw_below_drewN | apply below_drew1) | exact HB.out)⟩
             ·replace c30 := Bool.eq_false_iff.mpr c30
              subst c30
              have H1 : (some false) = some r := by rw [if_neg (show ¬ (false = true) by decide)] at H; exact H
              clear H
              have H := H1
              clear H1
              obtain rfl := Option.some.inj H
              try go_wp2
              have n0_ := Aside0.mk (Kd.R_drew HO_5.out)
              have n1_ := Aside0.mk (below_drew1 HB.out)
              clear HO_5
              clear HB
              have HO_5 := n0_
              have HB := n1_
              clear n0_ n1_
              have p317 : 0 ≤ ((ji23) : Int) := of_decide_eq_true (by first | (with_reducible assumption) | assumption)
              have q317 : (ji23) < (t305.length : Int) := of_decide_eq_true (by first | (with_reducible assumption) | assumption)
              obtain ⟨ad317, e317, hx317_0, hx317_1, hx317_2, hx317_3⟩ := at_T34 (Kd.R_reads' HO_5.out).2.2 (ji23) p317 q317
              cases e317
              replace p317 := eq_true p317
              replace q317 := eq_true q317
              have p318 : 0 ≤ ((ji23) : Int) := of_decide_eq_true (by first | (with_reducible assumption) | assumption)
              have q318 : (ji23) < (t305.length : Int) := of_decide_eq_true (by first | (with_reducible assumption) | assumption)
              obtain ⟨ad318, e318, hx318_0, hx318_1, hx318_2, hx318_3⟩ := at_T34 (Kd.R_reads' HO_5.out).2.2 (ji23) p318 q318
              obtain rfl : ad317 = ad318 := (by injection e318)
              replace p318 := eq_true p318
              replace q318 := eq_true q318
              refine start_ (n := 17) (S := fun w' => w'.cell? (ad317.add (((ji23)).toNat * 4)) = some (.int .i64 ((rd_T34 t305 (ji23)).f0)) ∧ w'.cell? ⟨(ad317.add (((ji23)).toNat * 4)).block, (ad317.add (((ji23)).toNat * 4)).off + 1, none⟩ = some (.int .i64 ((rd_T34 t305 (ji23)).f1.f0)) ∧ w'.cell? ⟨(ad317.add (((ji23)).toNat * 4)).block, (ad317.add (((ji23)).toNat * 4)).off + 2, none⟩ = some (.int .i64 ((rd_T34 t305 (ji23)).f1.f1)) ∧ w'.cell? ⟨(ad317.add (((ji23)).toNat * 4)).block, (ad317.add (((ji23)).toNat * 4)).off + 3, none⟩ = some (.int .i64 ((rd_T34 t305 (ji23)).f1.f2)) ∧ w'.cell? (ad317.add (((ji23)).toNat * 4)) = some (.int .i64 ((rd_T34 t305 (ji23)).f0)) ∧ w'.cell? ⟨(ad317.add (((ji23)).toNat * 4)).block, (ad317.add (((ji23)).toNat * 4)).off + 1, none⟩ = some (.int .i64 ((rd_T34 t305 (ji23)).f1.f0)) ∧ w'.cell? ⟨(ad317.add (((ji23)).toNat * 4)).block, (ad317.add (((ji23)).toNat * 4)).off + 2, none⟩ = some (.int .i64 ((rd_T34 t305 (ji23)).f1.f1)) ∧ w'.cell? ⟨(ad317.add (((ji23)).toNat * 4)).block, (ad317.add (((ji23)).toNat * 4)).off + 3, none⟩ = some (.int .i64 ((rd_T34 t305 (ji23)).f1.f2))) (ds := []) #[false, false, false, false, false, false, false, false, false, false, false, false, false, false, false, false, false] (by kernel_rfl) rfl rfl ⟨hx317_0, hx317_1, hx317_2, hx317_3, hx318_0, hx318_1, hx318_2, hx318_3⟩ (fun hHeld => ?_); refine with_tabW laws_FnChainLess.tab8 laws_FnChainLess.bits8 (fun HT_ HW_ => ?_)
              generalize wc.drew = w85 at HO_5 HB hx317_0 hx317_1 hx317_2 hx317_3 hx318_0 hx318_1 hx318_2 hx318_3 hHeld ⊢
              refine pure_ (i := 1) (N := some 44) (v := ?_) (a' := ?_) #[false, true, false, false, false, false, false, false, false, false, false, false, false, false, false, false, false] rfl rfl (any_of HT_.out (by kernel_rfl)) (fun _ _ _ h => h) (Or.inl ⟨by rfl, ?_⟩) ?_ ?_
              rotate_left
              ·intro w'
               go_simp
               with_reducible rfl
              rotate_left
              ·simp only [Act.put, List.setIfInBounds_toArray, List.set_cons_zero, List.set_cons_succ, i64_w, i32_w]
               rfl
              refine pure_ (i := 3) (N := some 46) (v := ?_) (a' := ?_) #[false, true, false, true, false, false, false, false, false, false, false, false, false, false, false, false, false] rfl rfl (any_of HT_.out (by kernel_rfl)) (fun _ _ _ h => h) (Or.inl ⟨by rfl, ?_⟩) ?_ ?_
              rotate_left
              ·intro w'
               go_simp
               with_reducible rfl
              rotate_left
              ·simp only [Act.put, List.setIfInBounds_toArray, List.set_cons_zero, List.set_cons_succ, i64_w, i32_w]
               rfl
              refine pure_ (i := 4) (N := some 47) (v := ?_) (a' := ?_) #[false, true, false, true, true, false, false, false, false, false, false, false, false, false, false, false, false] rfl rfl (any_of HT_.out (by kernel_rfl)) (fun _ _ _ h => h) (Or.inl ⟨by rfl, ?_⟩) ?_ ?_
              rotate_left
              ·intro w'
               go_simp
               with_reducible rfl
              rotate_left
              ·simp only [Act.put, List.setIfInBounds_toArray, List.set_cons_zero, List.set_cons_succ, i64_w, i32_w]
               rfl
              refine pure_ (i := 5) (N := some 48) (v := ?_) (a' := ?_) #[false, true, false, true, true, true, false, false, false, false, false, false, false, false, false, false, false] rfl rfl (any_of HT_.out (by kernel_rfl)) (fun _ _ _ h => h) (Or.inl ⟨by rfl, ?_⟩) ?_ ?_
              rotate_left
              ·intro w'
               go_simp
               with_reducible rfl
              rotate_left
              ·simp only [Act.put, List.setIfInBounds_toArray, List.set_cons_zero, List.set_cons_succ, i64_w, i32_w]
               rfl
              refine pure_ (i := 6) (N := some 49) (v := ?_) (a' := ?_) #[false, true, false, true, true, true, true, false, false, false, false, false, false, false, false, false, false] rfl rfl (any_of HT_.out (by kernel_rfl)) (fun _ _ _ h => h) (Or.inl ⟨by rfl, ?_⟩) ?_ ?_
              rotate_left
              ·intro w'
               go_simp
               with_reducible rfl
              rotate_left
              ·simp only [Act.put, List.setIfInBounds_toArray, List.set_cons_zero, List.set_cons_succ, i64_w, i32_w]
               rfl
              refine pure_ (i := 8) (N := some 51) (v := ?_) (a' := ?_) #[false, true, false, true, true, true, true, false, true, false, false, false, false, false, false, false, false] rfl rfl (any_of HT_.out (by kernel_rfl)) (fun _ _ _ h => h) (Or.inl ⟨by rfl, ?_⟩) ?_ ?_
              rotate_left
              ·intro w'
               go_simp
               with_reducible rfl
              rotate_left
              ·simp only [Act.put, List.setIfInBounds_toArray, List.set_cons_zero, List.set_cons_succ, i64_w, i32_w]
               rfl
              refine pure_ (i := 9) (N := some 52) (v := ?_) (a' := ?_) #[false, true, false, true, true, true, true, false, true, true, false, false, false, false, false, false, false] rfl rfl (any_of HT_.out (by kernel_rfl)) (fun _ _ _ h => h) (Or.inl ⟨by rfl, ?_⟩) ?_ ?_
              rotate_left
              ·intro w'
               go_simp
               with_reducible rfl
              rotate_left
              ·simp only [Act.put, List.setIfInBounds_toArray, List.set_cons_zero, List.set_cons_succ, i64_w, i32_w]
               rfl
              refine pure_ (i := 10) (N := some 53) (v := ?_) (a' := ?_) #[false, true, false, true, true, true, true, false, true, true, true, false, false, false, false, false, false] rfl rfl (any_of HT_.out (by kernel_rfl)) (fun _ _ _ h => h) (Or.inl ⟨by rfl, ?_⟩) ?_ ?_
              rotate_left
              ·intro w'
               go_simp
               with_reducible rfl
              rotate_left
              ·simp only [Act.put, List.setIfInBounds_toArray, List.set_cons_zero, List.set_cons_succ, i64_w, i32_w]
               rfl
              refine pure_ (i := 11) (N := some 54) (v := ?_) (a' := ?_) #[false, true, false, true, true, true, true, false, true, true, true, true, false, false, false, false, false] rfl rfl (any_of HT_.out (by kernel_rfl)) (fun _ _ _ h => h) (Or.inl ⟨by rfl, ?_⟩) ?_ ?_
              rotate_left
              ·intro w'
               go_simp
               with_reducible rfl
              rotate_left
              ·simp only [Act.put, List.setIfInBounds_toArray, List.set_cons_zero, List.set_cons_succ, i64_w, i32_w]
               rfl
              refine take_ (i := 7) (N := some 50) (v := ?_) (a' := ?_) #[false, true, false, true, true, true, true, true, true, true, true, true, false, false, false, false, false] rfl rfl (take_ofW HT_.out HW_.out (by kernel_rfl)) (fun _ _ _ h => h) (Or.inl ⟨by rfl, ?_⟩) hHeld ?_ ?_
              rotate_left
              ·rintro w' ⟨s0, s1, s2, s3, s4, s5, s6, s7⟩
               (try simp only [Int.toNat_natCast] at s0 s1 s2 s3 s4 s5 s6 s7)
               go_simp
               with_reducible rfl
              rotate_left
              ·simp only [Act.put, List.setIfInBounds_toArray, List.set_cons_zero, List.set_cons_succ, i64_w, i32_w]
               rfl
              refine take_ (i := 12) (N := some 55) (v := ?_) (a' := ?_) #[false, true, false, true, true, true, true, true, true, true, true, true, true, false, false, false, false] rfl rfl (take_ofW HT_.out HW_.out (by kernel_rfl)) (fun _ _ _ h => h) (Or.inl ⟨by rfl, ?_⟩) hHeld ?_ ?_
              rotate_left
              ·rintro w' ⟨s0, s1, s2, s3, s4, s5, s6, s7⟩
               (try simp only [Int.toNat_natCast] at s0 s1 s2 s3 s4 s5 s6 s7)
               go_simp
               with_reducible rfl
              rotate_left
              ·simp only [Act.put, List.setIfInBounds_toArray, List.set_cons_zero, List.set_cons_succ, i64_w, i32_w]
               rfl
              refine pure_ (i := 13) (N := some 56) (v := ?_) (a' := ?_) #[false, true, false, true, true, true, true, true, true, true, true, true, true, true, false, false, false] rfl rfl (any_of HT_.out (by kernel_rfl)) (fun _ _ _ h => h) (Or.inl ⟨by rfl, ?_⟩) ?_ ?_
              rotate_left
              ·intro w'
               go_simp
               with_reducible rfl
              rotate_left
              ·simp only [Act.put, List.setIfInBounds_toArray, List.set_cons_zero, List.set_cons_succ, i64_w, i32_w]
               rfl
              refine join_ (σ := Value × Value × Value) 2 #[true, true, true, true, true, true, true, true, true, true, true, true, true, true, true, false, false] (fun s_ => [(43, s_.1), (45, s_.2.1), (57, s_.2.2)]) (fun s_ w' => (w'.cell? (ad317.add (((ji23)).toNat * 4)) = some (.int .i64 ((rd_T34 t305 (ji23)).f0)) ∧ w'.cell? ⟨(ad317.add (((ji23)).toNat * 4)).block, (ad317.add (((ji23)).toNat * 4)).off + 1, none⟩ = some (.int .i64 ((rd_T34 t305 (ji23)).f1.f0)) ∧ w'.cell? ⟨(ad317.add (((ji23)).toNat * 4)).block, (ad317.add (((ji23)).toNat * 4)).off + 2, none⟩ = some (.int .i64 ((rd_T34 t305 (ji23)).f1.f1)) ∧ w'.cell? ⟨(ad317.add (((ji23)).toNat * 4)).block, (ad317.add (((ji23)).toNat * 4)).off + 3, none⟩ = some (.int .i64 ((rd_T34 t305 (ji23)).f1.f2)) ∧ w'.cell? (ad317.add (((ji23)).toNat * 4)) = some (.int .i64 ((rd_T34 t305 (ji23)).f0)) ∧ w'.cell? ⟨(ad317.add (((ji23)).toNat * 4)).block, (ad317.add (((ji23)).toNat * 4)).off + 1, none⟩ = some (.int .i64 ((rd_T34 t305 (ji23)).f1.f0)) ∧ w'.cell? ⟨(ad317.add (((ji23)).toNat * 4)).block, (ad317.add (((ji23)).toNat * 4)).off + 2, none⟩ = some (.int .i64 ((rd_T34 t305 (ji23)).f1.f1)) ∧ w'.cell? ⟨(ad317.add (((ji23)).toNat * 4)).block, (ad317.add (((ji23)).toNat * 4)).off + 3, none⟩ = some (.int .i64 ((rd_T34 t305 (ji23)).f1.f2))) ∧ (Kd.R k34 34 w' w.heap.size (fun k_ => some k_ ≠ (s_.2.2 : Value).ownBlock ∧ some k_ ≠ (.slice (some ad317) t305.length co10 : Value).ownBlock) s_.2.1 y314) ∧ (Kd.R k34 34 w' w.heap.size (fun k_ => some k_ ≠ (s_.2.1 : Value).ownBlock ∧ some k_ ≠ (.slice (some ad317) t305.length co10 : Value).ownBlock) s_.2.2 y319) ∧ (Kd.R k34 34 w' w.heap.size (fun k_ => some k_ ≠ (s_.2.1 : Value).ownBlock ∧ some k_ ≠ (s_.2.2 : Value).ownBlock) (.slice (some ad317) t305.length co10) t305) ∧ (Below w.heap.size w w')) ?_ ?_
              rotate_left
              ·intro hCont
               refine two_ (i := 0) (j := 14) (Ni := some 43) (Nj := some 57) #[true, true, false, true, true, true, true, true, true, true, true, true, true, true, false, false, false] #[false, true, false, true, true, true, true, true, true, true, true, true, true, true, true, false, false] rfl rfl rfl rfl (two_of HT_.out (by kernel_rfl)) (by decide) (by decide) (fun K hK => ?_) (fun K hK => ?_)
               ·skip
                refine Kd.R_lit_step k34 _ 34 ?hg (N := 43) ?hd (xs := ([] : List (S34))) (inner := []) (ok := fun _ => True) (okp := fun _ => True) ?hr ?hp (fun _ hk => hk) trivial (Below.refl _ _) (Nat.le_refl _) (by simp) ?_; (case hd => rfl); (case hg => rfl); (case hr => first | (go_simp; done) | (go_simp; rfl)); (case hp => exact (Reps.none _ _))
                intro v312 w86 ho87 hb hg_ hnew_
                have HS0_ := (hb.cell (World.block_lt_of_cell? _ _ (hHeld.1))).trans (hHeld.1)
                have HS1_ := (hb.cell (World.block_lt_of_cell? _ _ (hHeld.2.1))).trans (hHeld.2.1)
                have HS2_ := (hb.cell (World.block_lt_of_cell? _ _ (hHeld.2.2.1))).trans (hHeld.2.2.1)
                have HS3_ := (hb.cell (World.block_lt_of_cell? _ _ (hHeld.2.2.2.1))).trans (hHeld.2.2.2.1)
                have HS4_ := (hb.cell (World.block_lt_of_cell? _ _ (hHeld.2.2.2.2.1))).trans (hHeld.2.2.2.2.1)
                have HS5_ := (hb.cell (World.block_lt_of_cell? _ _ (hHeld.2.2.2.2.2.1))).trans (hHeld.2.2.2.2.2.1)
                have HS6_ := (hb.cell (World.block_lt_of_cell? _ _ (hHeld.2.2.2.2.2.2.1))).trans (hHeld.2.2.2.2.2.2.1)
                have HS7_ := (hb.cell (World.block_lt_of_cell? _ _ (hHeld.2.2.2.2.2.2.2))).trans (hHeld.2.2.2.2.2.2.2)
                clear hg_ hnew_
                (first | rw [← Ny311.out] at ho87 | (simp only [Int.reduceToNat] at ho87; rw [← Ny311.out] at ho87))
                have n0_ := Aside0.mk (Kd.R_elder' (by (with_reducible repeat (first | apply Kd.R_alloc | apply Kd.R_drewN | apply Kd.R_drew)); exact HO_5.out) (Kd.R_base ho87) hb)
                have n1_ := Aside0.mk (Kd.R_lower (Kd.R_new' ho87 (Kd.R_lt (by (with_reducible repeat (first | apply Kd.R_alloc | apply Kd.R_drewN | apply Kd.R_drew)); exact HO_5.out))) (below_size (by repeat (first | (with_reducible first | exact HB.out | apply below_alloc | apply pw_below_drewN | apply below_drew1) | exact HB.out))))
                have n2_ := Aside0.mk (below_step (by repeat (first | (with_reducible first | exact HB.out | apply below_alloc | apply pw_below_drewN | apply below_drew1) | exact HB.out)) hb)
                clear HO_5
                clear HB
                have HO_5 := n0_
                have HO313 := n1_
                have HB := n2_
                clear n0_ n1_ n2_
                clear hb ho87
                refine hK.out _ _ ⟨HS0_, HS1_, HS2_, HS3_, HS4_, HS5_, HS6_, HS7_⟩ (fun hHeld => ?_)
                clear hK K
                refine norm_ (a' := ?_) ?_ ?_
                rotate_left
                ·show Act.put _ (some 43) _ = _
                 simp only [Act.put, List.setIfInBounds_toArray, List.set_cons_zero, List.set_cons_succ, i64_w, i32_w]
                 rfl
                refine two_ (i := 2) (j := 14) (Ni := some 45) (Nj := some 57) #[true, true, true, true, true, true, true, true, true, true, true, true, true, true, false, false, false] #[true, true, false, true, true, true, true, true, true, true, true, true, true, true, true, false, false] rfl rfl rfl rfl (two_of HT_.out (by kernel_rfl)) (by decide) (by decide) (fun K hK => ?_) (fun K hK => ?_)
                ·skip
                 refine Kd.R_append_rows_step k34 (w0 := w) w.heap.size (by rfl) (.tmp 43) (.tmp 44) 25 34 (.agg #[(.int .i64 0), (.int .i64 0), (.int .i64 0), (.int .i64 0)]) 32 rfl Try.underlying25 info34 rfl (by decide) (by omega) v312 y311 t305 _ _ _ (fun k_ => some k_ ≠ (.slice (some ad317) t305.length co10 : Value).ownBlock) (fun _ => False) rfl rfl ?aO ?aR (fun _ _ h => h) (fun _ h => h.elim) ?aF ?aB ?aS ?aL ?_
                 (case aR => repeat (first | exact (Kd.R_reads' HO_5.out).2.2 | (with_reducible refine Kd.C_alloc ?_ _) | (with_reducible refine Kd.C_drewN ?_ _) | (with_reducible refine Kd.C_drew ?_)))
                 (case aB => exact (by repeat (first | (with_reducible first | exact HB.out | apply below_alloc | apply pw_below_drewN | apply below_drew1) | exact HB.out)))
                 (case aF => exact (fun k_ hk => Kd.fresh' (Kd.R_lt (by (with_reducible repeat (first | apply Kd.R_alloc | apply Kd.R_drewN | apply Kd.R_drew)); exact HO_5.out)) k_ hk))
                 (case aO => exact (by (with_reducible repeat (first | apply Kd.R_alloc | apply Kd.R_drewN | apply Kd.R_drew)); exact Kd.R_mono HO313.out (fun _ hk => hk.2)))
                 (case aS => exact (below_size (by repeat (first | (with_reducible first | exact HB.out | apply below_alloc | apply pw_below_drewN | apply below_drew1) | exact HB.out))))
                 (case aL => have := LMc22.out; omega)
                 intro v315 w88 ho hb hg hat
                 have HS0_ := cell_grown hg (hHeld.1) (cell_ne_row (fun e_ => ((HO313.out.1 _ e_.symm).2) rfl))
                 have HS1_ := cell_grown hg (hHeld.2.1) (cell_ne_row (fun e_ => ((HO313.out.1 _ e_.symm).2) rfl))
                 have HS2_ := cell_grown hg (hHeld.2.2.1) (cell_ne_row (fun e_ => ((HO313.out.1 _ e_.symm).2) rfl))
                 have HS3_ := cell_grown hg (hHeld.2.2.2.1) (cell_ne_row (fun e_ => ((HO313.out.1 _ e_.symm).2) rfl))
                 have HS4_ := cell_grown hg (hHeld.2.2.2.2.1) (cell_ne_row (fun e_ => ((HO313.out.1 _ e_.symm).2) rfl))
                 have HS5_ := cell_grown hg (hHeld.2.2.2.2.2.1) (cell_ne_row (fun e_ => ((HO313.out.1 _ e_.symm).2) rfl))
                 have HS6_ := cell_grown hg (hHeld.2.2.2.2.2.2.1) (cell_ne_row (fun e_ => ((HO313.out.1 _ e_.symm).2) rfl))
                 have HS7_ := cell_grown hg (hHeld.2.2.2.2.2.2.2) (cell_ne_row (fun e_ => ((HO313.out.1 _ e_.symm).2) rfl))
                 have hHN15_ := True.intro
                 rw [← Ny314.out] at ho
                 have n0_ := Aside0.mk (Kd.R_after (ok := (fun _ => True)) (by (with_reducible repeat (first | apply Kd.R_alloc | apply Kd.R_drewN | apply Kd.R_drew)); exact HO_5.out) hg hat)
                 have n1_ := Aside0.mk (hb)
                 have n2_ := Aside0.mk (ho)
                 clear HO_5
                 clear HB
                 clear HO313
                 have HO_5 := n0_
                 have HB := n1_
                 have HO316 := n2_
                 clear n0_ n1_ n2_
                 clear ho hb hg hat
                 refine hK.out _ _ ⟨HS0_, HS1_, HS2_, HS3_, HS4_, HS5_, HS6_, HS7_⟩ (fun hHeld => ?_)
                 clear hK K
                 refine norm_ (a' := ?_) ?_ ?_
                 rotate_left
                 ·show Act.put _ (some 45) _ = _
                  simp only [Act.put, List.setIfInBounds_toArray, List.set_cons_zero, List.set_cons_succ, i64_w, i32_w]
                  rfl
                 refine one_ (i := 14) (N := some 57) #[true, true, true, true, true, true, true, true, true, true, true, true, true, true, true, false, false] rfl rfl (one_of HT_.out (by kernel_rfl)) (by decide) (fun K hK => ?_)
                 refine Kd.R_lit_step k34 _ 34 ?hg (N := 57) ?hd (xs := ([(⟨(rd_T34 t305 (ji23)).f0, (⟨(rd_T34 t305 (ji23)).f1.f0, (rd_T34 t305 (ji23)).f1.f1, (rd_T34 t305 (ji23)).f1.f2⟩ : S32)⟩ : S34)] : List (S34))) (inner := [.int .i64 ((rd_T34 t305 (ji23)).f0), .int .i64 ((rd_T34 t305 (ji23)).f1.f0), .int .i64 ((rd_T34 t305 (ji23)).f1.f1), .int .i64 ((rd_T34 t305 (ji23)).f1.f2)]) (ok := fun _ => True) (okp := fun _ => True) ?hr ?hp (fun _ hk => hk) trivial (Below.refl _ _) (Nat.le_refl _) (by simp) ?_; (case hd => rfl); (case hg => rfl); (case hr => first | (go_simp; done) | (go_simp; rfl)); (case hp => exact (Reps.c4 (show Kd.M k34 _ _ _ (⟨(rd_T34 t305 (ji23)).f0, (⟨(rd_T34 t305 (ji23)).f1.f0, (rd_T34 t305 (ji23)).f1.f1, (rd_T34 t305 (ji23)).f1.f2⟩ : S32)⟩ : S34) [.int .i64 ((rd_T34 t305 (ji23)).f0), .int .i64 ((rd_T34 t305 (ji23)).f1.f0), .int .i64 ((rd_T34 t305 (ji23)).f1.f1), .int .i64 ((rd_T34 t305 (ji23)).f1.f2)] from (k34_mkM _ _ _ (⟨(rd_T34 t305 (ji23)).f0, (⟨(rd_T34 t305 (ji23)).f1.f0, (rd_T34 t305 (ji23)).f1.f1, (rd_T34 t305 (ji23)).f1.f2⟩ : S32)⟩ : S34) )) (Reps.none _ _)))
                 intro v320 w89 ho90 hb hg_ hnew_
                 have HS0_ := (hb.cell (World.block_lt_of_cell? _ _ (hHeld.1))).trans (hHeld.1)
                 have HS1_ := (hb.cell (World.block_lt_of_cell? _ _ (hHeld.2.1))).trans (hHeld.2.1)
                 have HS2_ := (hb.cell (World.block_lt_of_cell? _ _ (hHeld.2.2.1))).trans (hHeld.2.2.1)
                 have HS3_ := (hb.cell (World.block_lt_of_cell? _ _ (hHeld.2.2.2.1))).trans (hHeld.2.2.2.1)
                 have HS4_ := (hb.cell (World.block_lt_of_cell? _ _ (hHeld.2.2.2.2.1))).trans (hHeld.2.2.2.2.1)
                 have HS5_ := (hb.cell (World.block_lt_of_cell? _ _ (hHeld.2.2.2.2.2.1))).trans (hHeld.2.2.2.2.2.1)
                 have HS6_ := (hb.cell (World.block_lt_of_cell? _ _ (hHeld.2.2.2.2.2.2.1))).trans (hHeld.2.2.2.2.2.2.1)
                 have HS7_ := (hb.cell (World.block_lt_of_cell? _ _ (hHeld.2.2.2.2.2.2.2))).trans (hHeld.2.2.2.2.2.2.2)
                 clear hg_ hnew_
                 (first | rw [← Ny319.out] at ho90 | (simp only [Int.reduceToNat] at ho90; rw [← Ny319.out] at ho90))
                 have n0_ := Aside0.mk (Kd.R_elder' (by (with_reducible repeat (first | apply Kd.R_alloc | apply Kd.R_drewN | apply Kd.R_drew)); exact HO_5.out) (Kd.R_base ho90) hb)
                 have n1_ := Aside0.mk (Kd.R_elder' (by (with_reducible repeat (first | apply Kd.R_alloc | apply Kd.R_drewN | apply Kd.R_drew)); exact HO316.out) (Kd.R_base ho90) hb)
                 have n2_ := Aside0.mk (Kd.R_lower (Kd.R_new' (Kd.R_new' ho90 (Kd.R_lt (by (with_reducible repeat (first | apply Kd.R_alloc | apply Kd.R_drewN | apply Kd.R_drew)); exact HO_5.out))) (Kd.R_lt (by (with_reducible repeat (first | apply Kd.R_alloc | apply Kd.R_drewN | apply Kd.R_drew)); exact HO316.out))) (below_size (by repeat (first | (with_reducible first | exact HB.out | apply below_alloc | apply pw_below_drewN | apply below_drew1) | exact HB.out))))
                 have n3_ := Aside0.mk (below_step (by repeat (first | (with_reducible first | exact HB.out | apply below_alloc | apply pw_below_drewN | apply below_drew1) | exact HB.out)) hb)
                 clear HO_5
                 clear HO316
                 clear HB
                 have HO_5 := n0_
                 have HO316 := n1_
                 have HO321 := n2_
                 have HB := n3_
                 clear n0_ n1_ n2_ n3_
                 clear hb ho90
                 refine hK.out _ _ ⟨HS0_, HS1_, HS2_, HS3_, HS4_, HS5_, HS6_, HS7_⟩ (fun hHeld => ?_)
                 clear hK K
                 refine norm_ (a' := ?_) ?_ ?_
                 rotate_left
                 ·show Act.put _ (some 57) _ = _
                  simp only [Act.put, List.setIfInBounds_toArray, List.set_cons_zero, List.set_cons_succ, i64_w, i32_w]
                  rfl
                 exact norm_ (by simp only [putAll, Act.put, List.setIfInBounds_toArray, List.set_cons_zero, List.set_cons_succ]) (hCont (v312, v315, v320) _ ⟨hHeld, (by (with_reducible repeat (first | apply Kd.R_alloc | apply Kd.R_drewN | apply Kd.R_drew)); exact Kd.R_mono HO316.out (fun _ hk => ⟨hk.2, hk.1⟩)), (by (with_reducible repeat (first | apply Kd.R_alloc | apply Kd.R_drewN | apply Kd.R_drew)); exact Kd.R_mono HO321.out (fun _ hk => ⟨hk.2, hk.1.2⟩)), (by (with_reducible repeat (first | apply Kd.R_alloc | apply Kd.R_drewN | apply Kd.R_drew)); exact Kd.R_mono HO_5.out (fun _ hk => ⟨hk.1.2, hk.2⟩)), (by repeat (first | (with_reducible first | exact HB.out | apply below_alloc | apply pw_below_drewN | apply below_drew1) | exact HB.out))⟩)
                ·skip
                 refine Kd.R_lit_step k34 _ 34 ?hg (N := 57) ?hd (xs := ([(⟨(rd_T34 t305 (ji23)).f0, (⟨(rd_T34 t305 (ji23)).f1.f0, (rd_T34 t305 (ji23)).f1.f1, (rd_T34 t305 (ji23)).f1.f2⟩ : S32)⟩ : S34)] : List (S34))) (inner := [.int .i64 ((rd_T34 t305 (ji23)).f0), .int .i64 ((rd_T34 t305 (ji23)).f1.f0), .int .i64 ((rd_T34 t305 (ji23)).f1.f1), .int .i64 ((rd_T34 t305 (ji23)).f1.f2)]) (ok := fun _ => True) (okp := fun _ => True) ?hr ?hp (fun _ hk => hk) trivial (Below.refl _ _) (Nat.le_refl _) (by simp) ?_; (case hd => rfl); (case hg => rfl); (case hr => first | (go_simp; done) | (go_simp; rfl)); (case hp => exact (Reps.c4 (show Kd.M k34 _ _ _ (⟨(rd_T34 t305 (ji23)).f0, (⟨(rd_T34 t305 (ji23)).f1.f0, (rd_T34 t305 (ji23)).f1.f1, (rd_T34 t305 (ji23)).f1.f2⟩ : S32)⟩ : S34) [.int .i64 ((rd_T34 t305 (ji23)).f0), .int .i64 ((rd_T34 t305 (ji23)).f1.f0), .int .i64 ((rd_T34 t305 (ji23)).f1.f1), .int .i64 ((rd_T34 t305 (ji23)).f1.f2)] from (k34_mkM _ _ _ (⟨(rd_T34 t305 (ji23)).f0, (⟨(rd_T34 t305 (ji23)).f1.f0, (rd_T34 t305 (ji23)).f1.f1, (rd_T34 t305 (ji23)).f1.f2⟩ : S32)⟩ : S34) )) (Reps.none _ _)))
                 intro v320 w88 ho89 hb hg_ hnew_
                 have HS0_ := (hb.cell (World.block_lt_of_cell? _ _ (hHeld.1))).trans (hHeld.1)
                 have HS1_ := (hb.cell (World.block_lt_of_cell? _ _ (hHeld.2.1))).trans (hHeld.2.1)
                 have HS2_ := (hb.cell (World.block_lt_of_cell? _ _ (hHeld.2.2.1))).trans (hHeld.2.2.1)
                 have HS3_ := (hb.cell (World.block_lt_of_cell? _ _ (hHeld.2.2.2.1))).trans (hHeld.2.2.2.1)
                 have HS4_ := (hb.cell (World.block_lt_of_cell? _ _ (hHeld.2.2.2.2.1))).trans (hHeld.2.2.2.2.1)
                 have HS5_ := (hb.cell (World.block_lt_of_cell? _ _ (hHeld.2.2.2.2.2.1))).trans (hHeld.2.2.2.2.2.1)
                 have HS6_ := (hb.cell (World.block_lt_of_cell? _ _ (hHeld.2.2.2.2.2.2.1))).trans (hHeld.2.2.2.2.2.2.1)
                 have HS7_ := (hb.cell (World.block_lt_of_cell? _ _ (hHeld.2.2.2.2.2.2.2))).trans (hHeld.2.2.2.2.2.2.2)
                 clear hg_ hnew_
                 (first | rw [← Ny319.out] at ho89 | (simp only [Int.reduceToNat] at ho89; rw [← Ny319.out] at ho89))
                 have n0_ := Aside0.mk (Kd.R_elder' (by (with_reducible repeat (first | apply Kd.R_alloc | apply Kd.R_drewN | apply Kd.R_drew)); exact HO_5.out) (Kd.R_base ho89) hb)
                 have n1_ := Aside0.mk (Kd.R_elder' (by (with_reducible repeat (first | apply Kd.R_alloc | apply Kd.R_drewN | apply Kd.R_drew)); exact HO313.out) (Kd.R_base ho89) hb)
                 have n2_ := Aside0.mk (Kd.R_lower (Kd.R_new' (Kd.R_new' ho89 (Kd.R_lt (by (with_reducible repeat (first | apply Kd.R_alloc | apply Kd.R_drewN | apply Kd.R_drew)); exact HO_5.out))) (Kd.R_lt (by (with_reducible repeat (first | apply Kd.R_alloc | apply Kd.R_drewN | apply Kd.R_drew)); exact HO313.out))) (below_size (by repeat (first | (with_reducible first | exact HB.out | apply below_alloc | apply pw_below_drewN | apply below_drew1) | exact HB.out))))
                 have n3_ := Aside0.mk (below_step (by repeat (first | (with_reducible first | exact HB.out | apply below_alloc | apply pw_below_drewN | apply below_drew1) | exact HB.out)) hb)
                 clear HO_5
                 clear HO313
                 clear HB
                 have HO_5 := n0_
                 have HO313 := n1_
                 have HO321 := n2_
                 have HB := n3_
                 clear n0_ n1_ n2_ n3_
                 clear hb ho89
                 refine hK.out _ _ ⟨HS0_, HS1_, HS2_, HS3_, HS4_, HS5_, HS6_, HS7_⟩ (fun hHeld => ?_)
                 clear hK K
                 refine norm_ (a' := ?_) ?_ ?_
                 rotate_left
                 ·show Act.put _ (some 57) _ = _
                  simp only [Act.put, List.setIfInBounds_toArray, List.set_cons_zero, List.set_cons_succ, i64_w, i32_w]
                  rfl
                 refine one_ (i := 2) (N := some 45) #[true, true, true, true, true, true, true, true, true, true, true, true, true, true, true, false, false] rfl rfl (one_of HT_.out (by kernel_rfl)) (by decide) (fun K hK => ?_)
                 refine Kd.R_append_rows_step k34 (w0 := w) w.heap.size (by rfl) (.tmp 43) (.tmp 44) 25 34 (.agg #[(.int .i64 0), (.int .i64 0), (.int .i64 0), (.int .i64 0)]) 32 rfl Try.underlying25 info34 rfl (by decide) (by omega) v312 y311 t305 _ _ _ (fun k_ => some k_ ≠ (.slice (some ad317) t305.length co10 : Value).ownBlock ∧ some k_ ≠ (v320 : Value).ownBlock) (fun _ => False) rfl rfl ?aO ?aR (fun _ _ h => h) (fun _ h => h.elim) ?aF ?aB ?aS ?aL ?_
                 (case aR => repeat (first | exact (Kd.R_reads' HO_5.out).2.2 | (with_reducible refine Kd.C_alloc ?_ _) | (with_reducible refine Kd.C_drewN ?_ _) | (with_reducible refine Kd.C_drew ?_)))
                 (case aB => exact (by repeat (first | (with_reducible first | exact HB.out | apply below_alloc | apply pw_below_drewN | apply below_drew1) | exact HB.out)))
                 (case aF => exact (fun k_ hk => ⟨Kd.fresh' (Kd.R_lt (by (with_reducible repeat (first | apply Kd.R_alloc | apply Kd.R_drewN | apply Kd.R_drew)); exact HO_5.out)) k_ hk, Kd.fresh' (Kd.R_lt (by (with_reducible repeat (first | apply Kd.R_alloc | apply Kd.R_drewN | apply Kd.R_drew)); exact HO321.out)) k_ hk⟩))
                 (case aO => exact (by (with_reducible repeat (first | apply Kd.R_alloc | apply Kd.R_drewN | apply Kd.R_drew)); exact Kd.R_mono HO313.out (fun _ hk => ⟨hk.1.2, hk.2⟩)))
                 (case aS => exact (below_size (by repeat (first | (with_reducible first | exact HB.out | apply below_alloc | apply pw_below_drewN | apply below_drew1) | exact HB.out))))
                 (case aL => have := LMc22.out; omega)
                 intro v315 w90 ho hb hg hat
                 have HS0_ := cell_grown hg (hHeld.1) (cell_ne_row (fun e_ => ((HO313.out.1 _ e_.symm).1.2) rfl))
                 have HS1_ := cell_grown hg (hHeld.2.1) (cell_ne_row (fun e_ => ((HO313.out.1 _ e_.symm).1.2) rfl))
                 have HS2_ := cell_grown hg (hHeld.2.2.1) (cell_ne_row (fun e_ => ((HO313.out.1 _ e_.symm).1.2) rfl))
                 have HS3_ := cell_grown hg (hHeld.2.2.2.1) (cell_ne_row (fun e_ => ((HO313.out.1 _ e_.symm).1.2) rfl))
                 have HS4_ := cell_grown hg (hHeld.2.2.2.2.1) (cell_ne_row (fun e_ => ((HO313.out.1 _ e_.symm).1.2) rfl))
                 have HS5_ := cell_grown hg (hHeld.2.2.2.2.2.1) (cell_ne_row (fun e_ => ((HO313.out.1 _ e_.symm).1.2) rfl))
                 have HS6_ := cell_grown hg (hHeld.2.2.2.2.2.2.1) (cell_ne_row (fun e_ => ((HO313.out.1 _ e_.symm).1.2) rfl))
                 have HS7_ := cell_grown hg (hHeld.2.2.2.2.2.2.2) (cell_ne_row (fun e_ => ((HO313.out.1 _ e_.symm).1.2) rfl))
                 have hHN16_ := True.intro
                 rw [← Ny314.out] at ho
                 have n0_ := Aside0.mk (Kd.R_after (ok := (fun k_ => some k_ ≠ (v320 : Value).ownBlock)) (by (with_reducible repeat (first | apply Kd.R_alloc | apply Kd.R_drewN | apply Kd.R_drew)); exact Kd.R_mono HO_5.out (fun _ hk => ⟨hk.2, hk.1.2⟩)) hg hat)
                 have n1_ := Aside0.mk (Kd.R_after (ok := (fun k_ => some k_ ≠ (.slice (some ad317) t305.length co10 : Value).ownBlock)) (by (with_reducible repeat (first | apply Kd.R_alloc | apply Kd.R_drewN | apply Kd.R_drew)); exact Kd.R_mono HO321.out (fun _ hk => ⟨hk.1.2, hk.2⟩)) hg hat)
                 have n2_ := Aside0.mk (hb)
                 have n3_ := Aside0.mk (ho)
                 clear HO_5
                 clear HO321
                 clear HB
                 clear HO313
                 have HO_5 := n0_
                 have HO321 := n1_
                 have HB := n2_
                 have HO316 := n3_
                 clear n0_ n1_ n2_ n3_
                 clear ho hb hg hat
                 refine hK.out _ _ ⟨HS0_, HS1_, HS2_, HS3_, HS4_, HS5_, HS6_, HS7_⟩ (fun hHeld => ?_)
                 clear hK K
                 refine norm_ (a' := ?_) ?_ ?_
                 rotate_left
                 ·show Act.put _ (some 45) _ = _
                  simp only [Act.put, List.setIfInBounds_toArray, List.set_cons_zero, List.set_cons_succ, i64_w, i32_w]
                  rfl
                 exact norm_ (by simp only [putAll, Act.put, List.setIfInBounds_toArray, List.set_cons_zero, List.set_cons_succ]) (hCont (v312, v315, v320) _ ⟨hHeld, (by (with_reducible repeat (first | apply Kd.R_alloc | apply Kd.R_drewN | apply Kd.R_drew)); exact Kd.R_mono HO316.out (fun _ hk => ⟨hk.2, hk.1⟩)), (by (with_reducible repeat (first | apply Kd.R_alloc | apply Kd.R_drewN | apply Kd.R_drew)); exact Kd.R_mono HO321.out (fun _ hk => ⟨hk.2, hk.1⟩)), (by (with_reducible repeat (first | apply Kd.R_alloc | apply Kd.R_drewN | apply Kd.R_drew)); exact Kd.R_mono HO_5.out (fun _ hk => ⟨hk.2, hk.1⟩)), (by repeat (first | (with_reducible first | exact HB.out | apply below_alloc | apply pw_below_drewN | apply below_drew1) | exact HB.out))⟩)
               ·skip
                refine Kd.R_lit_step k34 _ 34 ?hg (N := 57) ?hd (xs := ([(⟨(rd_T34 t305 (ji23)).f0, (⟨(rd_T34 t305 (ji23)).f1.f0, (rd_T34 t305 (ji23)).f1.f1, (rd_T34 t305 (ji23)).f1.f2⟩ : S32)⟩ : S34)] : List (S34))) (inner := [.int .i64 ((rd_T34 t305 (ji23)).f0), .int .i64 ((rd_T34 t305 (ji23)).f1.f0), .int .i64 ((rd_T34 t305 (ji23)).f1.f1), .int .i64 ((rd_T34 t305 (ji23)).f1.f2)]) (ok := fun _ => True) (okp := fun _ => True) ?hr ?hp (fun _ hk => hk) trivial (Below.refl _ _) (Nat.le_refl _) (by simp) ?_; (case hd => rfl); (case hg => rfl); (case hr => first | (go_simp; done) | (go_simp; rfl)); (case hp => exact (Reps.c4 (show Kd.M k34 _ _ _ (⟨(rd_T34 t305 (ji23)).f0, (⟨(rd_T34 t305 (ji23)).f1.f0, (rd_T34 t305 (ji23)).f1.f1, (rd_T34 t305 (ji23)).f1.f2⟩ : S32)⟩ : S34) [.int .i64 ((rd_T34 t305 (ji23)).f0), .int .i64 ((rd_T34 t305 (ji23)).f1.f0), .int .i64 ((rd_T34 t305 (ji23)).f1.f1), .int .i64 ((rd_T34 t305 (ji23)).f1.f2)] from (k34_mkM _ _ _ (⟨(rd_T34 t305 (ji23)).f0, (⟨(rd_T34 t305 (ji23)).f1.f0, (rd_T34 t305 (ji23)).f1.f1, (rd_T34 t305 (ji23)).f1.f2⟩ : S32)⟩ : S34) )) (Reps.none _ _)))
                intro v320 w86 ho87 hb hg_ hnew_
                have HS0_ := (hb.cell (World.block_lt_of_cell? _ _ (hHeld.1))).trans (hHeld.1)
                have HS1_ := (hb.cell (World.block_lt_of_cell? _ _ (hHeld.2.1))).trans (hHeld.2.1)
                have HS2_ := (hb.cell (World.block_lt_of_cell? _ _ (hHeld.2.2.1))).trans (hHeld.2.2.1)
                have HS3_ := (hb.cell (World.block_lt_of_cell? _ _ (hHeld.2.2.2.1))).trans (hHeld.2.2.2.1)
                have HS4_ := (hb.cell (World.block_lt_of_cell? _ _ (hHeld.2.2.2.2.1))).trans (hHeld.2.2.2.2.1)
                have HS5_ := (hb.cell (World.block_lt_of_cell? _ _ (hHeld.2.2.2.2.2.1))).trans (hHeld.2.2.2.2.2.1)
                have HS6_ := (hb.cell (World.block_lt_of_cell? _ _ (hHeld.2.2.2.2.2.2.1))).trans (hHeld.2.2.2.2.2.2.1)
                have HS7_ := (hb.cell (World.block_lt_of_cell? _ _ (hHeld.2.2.2.2.2.2.2))).trans (hHeld.2.2.2.2.2.2.2)
                clear hg_ hnew_
                (first | rw [← Ny319.out] at ho87 | (simp only [Int.reduceToNat] at ho87; rw [← Ny319.out] at ho87))
                have n0_ := Aside0.mk (Kd.R_elder' (by (with_reducible repeat (first | apply Kd.R_alloc | apply Kd.R_drewN | apply Kd.R_drew)); exact HO_5.out) (Kd.R_base ho87) hb)
                have n1_ := Aside0.mk (Kd.R_lower (Kd.R_new' ho87 (Kd.R_lt (by (with_reducible repeat (first | apply Kd.R_alloc | apply Kd.R_drewN | apply Kd.R_drew)); exact HO_5.out))) (below_size (by repeat (first | (with_reducible first | exact HB.out | apply below_alloc | apply pw_below_drewN | apply below_drew1) | exact HB.out))))
                have n2_ := Aside0.mk (below_step (by repeat (first | (with_reducible first | exact HB.out | apply below_alloc | apply pw_below_drewN | apply below_drew1) | exact HB.out)) hb)
                clear HO_5
                clear HB
                have HO_5 := n0_
                have HO321 := n1_
                have HB := n2_
                clear n0_ n1_ n2_
                clear hb ho87
                refine hK.out _ _ ⟨HS0_, HS1_, HS2_, HS3_, HS4_, HS5_, HS6_, HS7_⟩ (fun hHeld => ?_)
                clear hK K
                refine norm_ (a' := ?_) ?_ ?_
                rotate_left
                ·show Act.put _ (some 57) _ = _
                 simp only [Act.put, List.setIfInBounds_toArray, List.set_cons_zero, List.set_cons_succ, i64_w, i32_w]
                 rfl
                refine one_ (i := 0) (N := some 43) #[true, true, false, true, true, true, true, true, true, true, true, true, true, true, true, false, false] rfl rfl (one_of HT_.out (by kernel_rfl)) (by decide) (fun K hK => ?_)
                refine Kd.R_lit_step k34 _ 34 ?hg (N := 43) ?hd (xs := ([] : List (S34))) (inner := []) (ok := fun _ => True) (okp := fun _ => True) ?hr ?hp (fun _ hk => hk) trivial (Below.refl _ _) (Nat.le_refl _) (by simp) ?_; (case hd => rfl); (case hg => rfl); (case hr => first | (go_simp; done) | (go_simp; rfl)); (case hp => exact (Reps.none _ _))
                intro v312 w88 ho89 hb hg_ hnew_
                have HS0_ := (hb.cell (World.block_lt_of_cell? _ _ (hHeld.1))).trans (hHeld.1)
                have HS1_ := (hb.cell (World.block_lt_of_cell? _ _ (hHeld.2.1))).trans (hHeld.2.1)
                have HS2_ := (hb.cell (World.block_lt_of_cell? _ _ (hHeld.2.2.1))).trans (hHeld.2.2.1)
                have HS3_ := (hb.cell (World.block_lt_of_cell? _ _ (hHeld.2.2.2.1))).trans (hHeld.2.2.2.1)
                have HS4_ := (hb.cell (World.block_lt_of_cell? _ _ (hHeld.2.2.2.2.1))).trans (hHeld.2.2.2.2.1)
                have HS5_ := (hb.cell (World.block_lt_of_cell? _ _ (hHeld.2.2.2.2.2.1))).trans (hHeld.2.2.2.2.2.1)
                have HS6_ := (hb.cell (World.block_lt_of_cell? _ _ (hHeld.2.2.2.2.2.2.1))).trans (hHeld.2.2.2.2.2.2.1)
                have HS7_ := (hb.cell (World.block_lt_of_cell? _ _ (hHeld.2.2.2.2.2.2.2))).trans (hHeld.2.2.2.2.2.2.2)
                clear hg_ hnew_
                (first | rw [← Ny311.out] at ho89 | (simp only [Int.reduceToNat] at ho89; rw [← Ny311.out] at ho89))
                have n0_ := Aside0.mk (Kd.R_elder' (by (with_reducible repeat (first | apply Kd.R_alloc | apply Kd.R_drewN | apply Kd.R_drew)); exact HO_5.out) (Kd.R_base ho89) hb)
                have n1_ := Aside0.mk (Kd.R_elder' (by (with_reducible repeat (first | apply Kd.R_alloc | apply Kd.R_drewN | apply Kd.R_drew)); exact HO321.out) (Kd.R_base ho89) hb)
                have n2_ := Aside0.mk (Kd.R_lower (Kd.R_new' (Kd.R_new' ho89 (Kd.R_lt (by (with_reducible repeat (first | apply Kd.R_alloc | apply Kd.R_drewN | apply Kd.R_drew)); exact HO_5.out))) (Kd.R_lt (by (with_reducible repeat (first | apply Kd.R_alloc | apply Kd.R_drewN | apply Kd.R_drew)); exact HO321.out))) (below_size (by repeat (first | (with_reducible first | exact HB.out | apply below_alloc | apply pw_below_drewN | apply below_drew1) | exact HB.out))))
                have n3_ := Aside0.mk (below_step (by repeat (first | (with_reducible first | exact HB.out | apply below_alloc | apply pw_below_drewN | apply below_drew1) | exact HB.out)) hb)
                clear HO_5
                clear HO321
                clear HB
                have HO_5 := n0_
                have HO321 := n1_
                have HO313 := n2_
                have HB := n3_
                clear n0_ n1_ n2_ n3_
                clear hb ho89
                refine hK.out _ _ ⟨HS0_, HS1_, HS2_, HS3_, HS4_, HS5_, HS6_, HS7_⟩ (fun hHeld => ?_)
                clear hK K
                refine norm_ (a' := ?_) ?_ ?_
                rotate_left
                ·show Act.put _ (some 43) _ = _
                 simp only [Act.put, List.setIfInBounds_toArray, List.set_cons_zero, List.set_cons_succ, i64_w, i32_w]
                 rfl
                refine one_ (i := 2) (N := some 45) #[true, true, true, true, true, true, true, true, true, true, true, true, true, true, true, false, false] rfl rfl (one_of HT_.out (by kernel_rfl)) (by decide) (fun K hK => ?_)
                refine Kd.R_append_rows_step k34 (w0 := w) w.heap.size (by rfl) (.tmp 43) (.tmp 44) 25 34 (.agg #[(.int .i64 0), (.int .i64 0), (.int .i64 0), (.int .i64 0)]) 32 rfl Try.underlying25 info34 rfl (by decide) (by omega) v312 y311 t305 _ _ _ (fun k_ => some k_ ≠ (.slice (some ad317) t305.length co10 : Value).ownBlock ∧ some k_ ≠ (v320 : Value).ownBlock) (fun _ => False) rfl rfl ?aO ?aR (fun _ _ h => h) (fun _ h => h.elim) ?aF ?aB ?aS ?aL ?_
                (case aR => repeat (first | exact (Kd.R_reads' HO_5.out).2.2 | (with_reducible refine Kd.C_alloc ?_ _) | (with_reducible refine Kd.C_drewN ?_ _) | (with_reducible refine Kd.C_drew ?_)))
                (case aB => exact (by repeat (first | (with_reducible first | exact HB.out | apply below_alloc | apply pw_below_drewN | apply below_drew1) | exact HB.out)))
                (case aF => exact (fun k_ hk => ⟨Kd.fresh' (Kd.R_lt (by (with_reducible repeat (first | apply Kd.R_alloc | apply Kd.R_drewN | apply Kd.R_drew)); exact HO_5.out)) k_ hk, Kd.fresh' (Kd.R_lt (by (with_reducible repeat (first | apply Kd.R_alloc | apply Kd.R_drewN | apply Kd.R_drew)); exact HO321.out)) k_ hk⟩))
                (case aO => exact (by (with_reducible repeat (first | apply Kd.R_alloc | apply Kd.R_drewN | apply Kd.R_drew)); exact Kd.R_mono HO313.out (fun _ hk => ⟨hk.1.2, hk.2⟩)))
                (case aS => exact (below_size (by repeat (first | (with_reducible first | exact HB.out | apply below_alloc | apply pw_below_drewN | apply below_drew1) | exact HB.out))))
                (case aL => have := LMc22.out; omega)
                intro v315 w90 ho hb hg hat
                have HS0_ := cell_grown hg (hHeld.1) (cell_ne_row (fun e_ => ((HO313.out.1 _ e_.symm).1.2) rfl))
                have HS1_ := cell_grown hg (hHeld.2.1) (cell_ne_row (fun e_ => ((HO313.out.1 _ e_.symm).1.2) rfl))
                have HS2_ := cell_grown hg (hHeld.2.2.1) (cell_ne_row (fun e_ => ((HO313.out.1 _ e_.symm).1.2) rfl))
                have HS3_ := cell_grown hg (hHeld.2.2.2.1) (cell_ne_row (fun e_ => ((HO313.out.1 _ e_.symm).1.2) rfl))
                have HS4_ := cell_grown hg (hHeld.2.2.2.2.1) (cell_ne_row (fun e_ => ((HO313.out.1 _ e_.symm).1.2) rfl))
                have HS5_ := cell_grown hg (hHeld.2.2.2.2.2.1) (cell_ne_row (fun e_ => ((HO313.out.1 _ e_.symm).1.2) rfl))
                have HS6_ := cell_grown hg (hHeld.2.2.2.2.2.2.1) (cell_ne_row (fun e_ => ((HO313.out.1 _ e_.symm).1.2) rfl))
                have HS7_ := cell_grown hg (hHeld.2.2.2.2.2.2.2) (cell_ne_row (fun e_ => ((HO313.out.1 _ e_.symm).1.2) rfl))
                have hHN17_ := True.intro
                rw [← Ny314.out] at ho
                have n0_ := Aside0.mk (Kd.R_after (ok := (fun k_ => some k_ ≠ (v320 : Value).ownBlock)) (by (with_reducible repeat (first | apply Kd.R_alloc | apply Kd.R_drewN | apply Kd.R_drew)); exact Kd.R_mono HO_5.out (fun _ hk => ⟨hk.1.2, hk.2⟩)) hg hat)
                have n1_ := Aside0.mk (Kd.R_after (ok := (fun k_ => some k_ ≠ (.slice (some ad317) t305.length co10 : Value).ownBlock)) (by (with_reducible repeat (first | apply Kd.R_alloc | apply Kd.R_drewN | apply Kd.R_drew)); exact Kd.R_mono HO321.out (fun _ hk => ⟨hk.1.2, hk.2⟩)) hg hat)
                have n2_ := Aside0.mk (hb)
                have n3_ := Aside0.mk (ho)
                clear HO_5
                clear HO321
                clear HB
                clear HO313
                have HO_5 := n0_
                have HO321 := n1_
                have HB := n2_
                have HO316 := n3_
                clear n0_ n1_ n2_ n3_
                clear ho hb hg hat
                refine hK.out _ _ ⟨HS0_, HS1_, HS2_, HS3_, HS4_, HS5_, HS6_, HS7_⟩ (fun hHeld => ?_)
                clear hK K
                refine norm_ (a' := ?_) ?_ ?_
                rotate_left
                ·show Act.put _ (some 45) _ = _
                 simp only [Act.put, List.setIfInBounds_toArray, List.set_cons_zero, List.set_cons_succ, i64_w, i32_w]
                 rfl
                exact norm_ (by simp only [putAll, Act.put, List.setIfInBounds_toArray, List.set_cons_zero, List.set_cons_succ]) (hCont (v312, v315, v320) _ ⟨hHeld, (by (with_reducible repeat (first | apply Kd.R_alloc | apply Kd.R_drewN | apply Kd.R_drew)); exact Kd.R_mono HO316.out (fun _ hk => ⟨hk.2, hk.1⟩)), (by (with_reducible repeat (first | apply Kd.R_alloc | apply Kd.R_drewN | apply Kd.R_drew)); exact Kd.R_mono HO321.out (fun _ hk => ⟨hk.2, hk.1⟩)), (by (with_reducible repeat (first | apply Kd.R_alloc | apply Kd.R_drewN | apply Kd.R_drew)); exact Kd.R_mono HO_5.out (fun _ hk => ⟨hk.2, hk.1⟩)), (by repeat (first | (with_reducible first | exact HB.out | apply below_alloc | apply pw_below_drewN | apply below_drew1) | exact HB.out))⟩)
              rintro ⟨v312, v315, v320⟩ w91 ⟨hS_, h0_, h1_, h2_, h3_⟩
              have n0_ : Aside0 (Kd.R k34 34 w91 w.heap.size (fun k_ => some k_ ≠ (v320 : Value).ownBlock ∧ some k_ ≠ (.slice (some ad317) t305.length co10 : Value).ownBlock) v315 y314) := ⟨h0_⟩
              have n1_ : Aside0 (Kd.R k34 34 w91 w.heap.size (fun k_ => some k_ ≠ (v315 : Value).ownBlock ∧ some k_ ≠ (.slice (some ad317) t305.length co10 : Value).ownBlock) v320 y319) := ⟨h1_⟩
              have n2_ : Aside0 (Kd.R k34 34 w91 w.heap.size (fun k_ => some k_ ≠ (v315 : Value).ownBlock ∧ some k_ ≠ (v320 : Value).ownBlock) (.slice (some ad317) t305.length co10) t305) := ⟨h2_⟩
              have n3_ : Aside0 (Below w.heap.size w w91) := ⟨h3_⟩
              clear HO_5
              clear HB
              clear h0_ h1_ h2_ h3_
              have HO316 := n0_
              have HO321 := n1_
              have HO_5 := n2_
              have HB := n3_
              clear n0_ n1_ n2_ n3_
              have hHeld : w91.cell? (ad317.add (((ji23)).toNat * 4)) = some (.int .i64 ((rd_T34 t305 (ji23)).f0)) ∧ w91.cell? ⟨(ad317.add (((ji23)).toNat * 4)).block, (ad317.add (((ji23)).toNat * 4)).off + 1, none⟩ = some (.int .i64 ((rd_T34 t305 (ji23)).f1.f0)) ∧ w91.cell? ⟨(ad317.add (((ji23)).toNat * 4)).block, (ad317.add (((ji23)).toNat * 4)).off + 2, none⟩ = some (.int .i64 ((rd_T34 t305 (ji23)).f1.f1)) ∧ w91.cell? ⟨(ad317.add (((ji23)).toNat * 4)).block, (ad317.add (((ji23)).toNat * 4)).off + 3, none⟩ = some (.int .i64 ((rd_T34 t305 (ji23)).f1.f2)) ∧ w91.cell? (ad317.add (((ji23)).toNat * 4)) = some (.int .i64 ((rd_T34 t305 (ji23)).f0)) ∧ w91.cell? ⟨(ad317.add (((ji23)).toNat * 4)).block, (ad317.add (((ji23)).toNat * 4)).off + 1, none⟩ = some (.int .i64 ((rd_T34 t305 (ji23)).f1.f0)) ∧ w91.cell? ⟨(ad317.add (((ji23)).toNat * 4)).block, (ad317.add (((ji23)).toNat * 4)).off + 2, none⟩ = some (.int .i64 ((rd_T34 t305 (ji23)).f1.f1)) ∧ w91.cell? ⟨(ad317.add (((ji23)).toNat * 4)).block, (ad317.add (((ji23)).toNat * 4)).off + 3, none⟩ = some (.int .i64 ((rd_T34 t305 (ji23)).f1.f2)) := hS_
              obtain ⟨Ao93, co93, eo93⟩ := Kd.R_slice HO321.out
              (first | subst eo93 | (injection eo93 with f1_ f2_ f3_; have f4_ := f1_.symm; have f5_ := f3_.symm; clear f1_ f2_ f3_; subst f4_; subst f5_))
              refine norm_ (a' := ?_) ?_ ?_
              rotate_left
              ·simp only [putAll, Act.put, List.setIfInBounds_toArray, List.set_cons_zero, List.set_cons_succ]
               rfl
              refine one_ (i := 15) (N := some 58) #[true, true, true, true, true, true, true, true, true, true, true, true, true, true, true, true, false] rfl rfl (one_of HT_.out (by kernel_rfl)) (by decide) (fun K hK => ?_)
              refine Kd.R_append_rows_step k34 (w0 := w) w.heap.size (by rfl) (.tmp 45) (.tmp 57) 25 34 (.agg #[(.int .i64 0), (.int .i64 0), (.int .i64 0), (.int .i64 0)]) 32 rfl Try.underlying25 info34 rfl (by decide) (by omega) v315 y314 y319 _ _ _ (fun k_ => some k_ ≠ (.slice (some ad317) t305.length co10 : Value).ownBlock ∧ some k_ ≠ (.slice Ao93 y319.length co93 : Value).ownBlock) (fun _ => False) rfl rfl ?aO ?aR (fun _ _ h => h) (fun _ h => h.elim) ?aF ?aB ?aS ?aL ?_
              (case aR => repeat (first | exact (Kd.R_reads' HO321.out).2.2 | (with_reducible refine Kd.C_alloc ?_ _) | (with_reducible refine Kd.C_drewN ?_ _) | (with_reducible refine Kd.C_drew ?_)))
              (case aB => exact (by repeat (first | (with_reducible first | exact HB.out | apply below_alloc | apply pw_below_drewN | apply below_drew1) | exact HB.out)))
              (case aF => exact (fun k_ hk => ⟨Kd.fresh' (Kd.R_lt (by (with_reducible repeat (first | apply Kd.R_alloc | apply Kd.R_drewN | apply Kd.R_drew)); exact HO_5.out)) k_ hk, Kd.fresh' (Kd.R_lt (by (with_reducible repeat (first | apply Kd.R_alloc | apply Kd.R_drewN | apply Kd.R_drew)); exact HO321.out)) k_ hk⟩))
              (case aO => exact (by (with_reducible repeat (first | apply Kd.R_alloc | apply Kd.R_drewN | apply Kd.R_drew)); exact Kd.R_mono HO316.out (fun _ hk => ⟨hk.2, hk.1⟩)))
              (case aS => exact (below_size (by repeat (first | (with_reducible first | exact HB.out | apply below_alloc | apply pw_below_drewN | apply below_drew1) | exact HB.out))))
              (case aL => have := LMc26.out; omega)
              intro v323 w92 ho hb hg hat
              have HS0_ := cell_grown hg (hHeld.1) (cell_ne_row (fun e_ => ((HO316.out.1 _ e_.symm).2) rfl))
              have HS1_ := cell_grown hg (hHeld.2.1) (cell_ne_row (fun e_ => ((HO316.out.1 _ e_.symm).2) rfl))
              have HS2_ := cell_grown hg (hHeld.2.2.1) (cell_ne_row (fun e_ => ((HO316.out.1 _ e_.symm).2) rfl))
              have HS3_ := cell_grown hg (hHeld.2.2.2.1) (cell_ne_row (fun e_ => ((HO316.out.1 _ e_.symm).2) rfl))
              have HS4_ := cell_grown hg (hHeld.2.2.2.2.1) (cell_ne_row (fun e_ => ((HO316.out.1 _ e_.symm).2) rfl))
              have HS5_ := cell_grown hg (hHeld.2.2.2.2.2.1) (cell_ne_row (fun e_ => ((HO316.out.1 _ e_.symm).2) rfl))
              have HS6_ := cell_grown hg (hHeld.2.2.2.2.2.2.1) (cell_ne_row (fun e_ => ((HO316.out.1 _ e_.symm).2) rfl))
              have HS7_ := cell_grown hg (hHeld.2.2.2.2.2.2.2) (cell_ne_row (fun e_ => ((HO316.out.1 _ e_.symm).2) rfl))
              have hHN19_ := True.intro
              rw [← Ny322.out] at ho
              have n0_ := Aside0.mk (Kd.R_after (ok := (fun k_ => some k_ ≠ (.slice Ao93 y319.length co93 : Value).ownBlock)) (by (with_reducible repeat (first | apply Kd.R_alloc | apply Kd.R_drewN | apply Kd.R_drew)); exact Kd.R_mono HO_5.out (fun _ hk => ⟨hk.2, hk.1⟩)) hg hat)
              have n1_ := Aside0.mk (Kd.R_after (ok := (fun k_ => some k_ ≠ (.slice (some ad317) t305.length co10 : Value).ownBlock)) (by (with_reducible repeat (first | apply Kd.R_alloc | apply Kd.R_drewN | apply Kd.R_drew)); exact Kd.R_mono HO321.out (fun _ hk => ⟨hk.2, hk.1⟩)) hg hat)
              have n2_ := Aside0.mk (hb)
              have n3_ := Aside0.mk (ho)
              clear HO_5
              clear HO321
              clear HB
              clear HO316
              have HO_5 := n0_
              have HO321 := n1_
              have HB := n2_
              have HO324 := n3_
              clear n0_ n1_ n2_ n3_
              clear ho hb hg hat
              refine hK.out _ _ ⟨HS0_, HS1_, HS2_, HS3_, HS4_, HS5_, HS6_, HS7_⟩ (fun hHeld => ?_)
              clear hK K
              refine norm_ (a' := ?_) ?_ ?_
              rotate_left
              ·show Act.put _ (some 58) _ = _
               simp only [Act.put, List.setIfInBounds_toArray, List.set_cons_zero, List.set_cons_succ, i64_w, i32_w]
               rfl
              refine pure_ (i := 16) (N := some 8) (v := ?_) (a' := ?_) #[true, true, true, true, true, true, true, true, true, true, true, true, true, true, true, true, true] rfl rfl (any_of HT_.out (by kernel_rfl)) (fun _ _ _ h => h) (Or.inl ⟨by rfl, ?_⟩) ?_ ?_
              rotate_left
              ·intro w'
               go_simp
               with_reducible rfl
              rotate_left
              ·simp only [Act.put, List.setIfInBounds_toArray, List.set_cons_zero, List.set_cons_succ, i64_w, i32_w]
               rfl
              refine done_ (done_of HT_.out (by kernel_rfl)) ?_
              have q94 : ((ji23) : Int) ≤ ((t305.length : Int) : Int) := of_decide_eq_true (by first | (with_reducible assumption) | assumption)
              obtain ⟨i094, hi094, _, hsz94, _⟩ := info_parts info34
              have hroom94 : t305.length ≤ co10 := (Kd.R_reads' HO_5.out).2.1
              have hC94 : Kd.C k34 _ (some ad317) t305.length t305 := (Kd.R_reads' HO_5.out).2.2
              have hcut94 := cut_to (P := Try.prog) 25 34 .i64 Try.underlying25 hi094 (some ad317) t305.length co10 (ji23) (of_decide_eq_true (by first | (with_reducible assumption) | assumption)) q94 hroom94
              have hr94 := Kd.C_take (m := ((ji23) : Int).toNat) hC94 (by omega)
              have hy94 : y325.length = ((ji23) : Int).toNat := (by rw [Ny325.out, List.length_take]; omega)
              rw [← Ny325.out] at hr94
              rw [← hy94] at hcut94
              have HR328 := Aside0.mk hr94
              have HC328 := Aside0.mk (show y325.length ≤ co10 from by omega)
              clear hr94 hC94 hroom94 hi094 hsz94
              have KY94 := Aside0.mk hy94
              clear hy94
              have KL94 := Aside0.mk (show ((ji23) : Int).toNat ≤ t305.length from by omega)
              replace q94 := eq_true q94
              try go_wp2_with (first | ((with_reducible refine gate_callee (f := 14) rfl ?_); refine goesL_ (some 62) rfl rfl Try.func14 (by kernel_rfl) rfl #[.slice (some ad317) y325.length co10] rfl (by (try simp only [List.map_toArray, List.map_cons, List.map_nil]); first | done | rfl | (simp only [List.length_drop, List.length_take]; rfl)) ?_; (with_reducible refine (impl_ChainOk.calls kj7 _ _ y325 false _ ?side1 ?side2 A29.out).mono ?_); (case side1 => repeat (first | exact (by repeat (first | (with_reducible exact HR328.out) | (with_reducible refine Kd.C_alloc ?_ _) | (with_reducible refine Kd.C_drewN ?_ _) | (with_reducible refine Kd.C_drew ?_) | exact HR328.out)) | (with_reducible refine Kd.C_alloc ?_ _) | (with_reducible refine Kd.C_drewN ?_ _) | (with_reducible refine Kd.C_drew ?_))); (case side2 => exact HC328.out); rintro e w95 ⟨rfl, hb⟩; refine ⟨_, rfl, ?_⟩; have n0_ := Aside0.mk (Kd.R_below (by (with_reducible repeat (first | apply Kd.R_alloc | apply Kd.R_drewN | apply Kd.R_drew)); exact HO_5.out) hb); have n1_ := Aside0.mk (Kd.R_below (by (with_reducible repeat (first | apply Kd.R_alloc | apply Kd.R_drewN | apply Kd.R_drew)); exact HO321.out) hb); have n2_ := Aside0.mk (Kd.R_below (by (with_reducible repeat (first | apply Kd.R_alloc | apply Kd.R_drewN | apply Kd.R_drew)); exact HO324.out) hb); have n3_ := Aside0.mk (Kd.C_below (by repeat (first | (with_reducible exact HR328.out) | (with_reducible refine Kd.C_alloc ?_ _) | (with_reducible refine Kd.C_drewN ?_ _) | (with_reducible refine Kd.C_drew ?_) | exact HR328.out)) hb); have n4_ := Aside0.mk (below_step (by repeat (first | (with_reducible first | exact HB.out | apply below_alloc | apply pw_below_drewN | apply below_drew1) | exact HB.out)) hb); clear HO_5; clear HO321; clear HO324; clear HR328; clear HB; have HO_5 := n0_; have HO321 := n1_; have HO324 := n2_; have HR328 := n3_; have HB := n4_; clear n0_ n1_ n2_ n3_ n4_; (try clear hb); (try clear hb2); (try clear hk); (try clear hi)))
              go_ret
              exact ⟨by first | rfl | (simp only [i64_w, i32_w]; done) | (simp only [i64_w, i32_w]; rfl) | (simp [errW_none, errW_some] <;> rfl) | (simp only [← hji23]; first | rfl | (simp [errW_none, errW_some] <;> rfl)) | (simp [*, errW_none, errW_some] <;> rfl), by repeat (first | (with_reducible first | exact HB.out | apply below_alloc | apply pw_below_drewN | apply below_drew1) | exact HB.out)⟩
            ·rw [if_neg c28] at H
             exact absurd H (by simp)
           ·rw [if_neg c26] at H
            exact absurd H (by simp)
          ·rw [if_neg c25] at H
           exact absurd H (by simp)
         ·rw [if_neg c24] at H
          exact absurd H (by simp)
        ·rw [if_neg c22] at H
         exact absurd H (by simp)

/-- What is left to prove of laws_FnChainLess. -/
def laws_FnChainLess.Pure : Prop := ∀ (l0 : List Int) (l1 : List Int), l0.length ≤ 9223372036854775807 → (∀ x, x ∈ l0 → (Lit.int .u8 x).wf = true) → l1.length ≤ 9223372036854775807 → (∀ x, x ∈ l1 → (Lit.int .u8 x).wf = true) → ∃ k, laws_FnChainLess.f k l0 l1 = some true

end Go.Proofs.Ytpjkkcnceocipaa.P
