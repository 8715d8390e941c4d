/- The printed functions: what each Go function computes, as a Lean function, and that the Go code comes to just that. Conditions: none beyond each contract's own. -/
import Derived.Test.YtaccamnoacdiiaaPx0
import Derived.Test.YtaccamnoacdiiaaPx3
namespace Go.Proofs.Ytaccamnoacdiiaa.P
open Go.RowKit Go.Proofs.YtaccamnoacdiiaaW.PrintWords Go.Proofs.YtaccamnoacdiiaaW.PrintLast Go.Proofs.YtaccamnoacdiiaaW.PrintMore
attribute [local go_sem] max2_int min2_int max_two min_two max_three min_three max_four min_four   -- for this text's walks alone
set_option linter.unusedVariables false
set_option linter.unusedSimpArgs false

/-! ### impl_votes_has: function 45 -/
def impl_votes_has.l0 : Nat → List (S25) → Int → List (S65) → Int → Option (Bool)
 | 0, _, _, _, _ => none
 | k + 1, l, a, c, x => if x < (l.length : Int) then (if 0 ≤ x then ((impl_Vote_same.f k a c ((rd_T25 l x).f0) ((rd_T25 l x).f1)).bind fun t => (if t = true then (some true) else (impl_votes_has.l0 k l a c (wrap64 (x + 1))))) else (none)) else (some false)
def impl_votes_has.f (k : Nat) (l0 : List (S25)) (a1_0 : Int) (l1_1 : List (S65)) : Option (Bool) := impl_votes_has.l0 k l0 a1_0 l1_1 0
theorem impl_votes_has.mono_l : ∀ k, ∀ y0 y1 y2 y3, LeO (impl_votes_has.l0 k y0 y1 y2 y3) (impl_votes_has.l0 (k + 1) y0 y1 y2 y3)
 | 0 => fun _ _ _ _ r h => by simp [impl_votes_has.l0] at h
 | k + 1 => by
  have ih0 := impl_votes_has.mono_l k
  intro y0 y1 y2 y3
  unfold impl_votes_has.l0
  repeat' first
    | exact ih0 _ _ _ _
    | exact impl_Vote_same.mono _ _ _ _ _
    | exact LeO.refl _
    | exact LeO.none _
    | refine LeO.ite ?_ ?_
    | refine LeO.bind ?_ (fun _ => ?_)
theorem impl_votes_has.mono : ∀ a0 a1 a2 k, LeO (impl_votes_has.f k a0 a1 a2) (impl_votes_has.f (k + 1) a0 a1 a2) := fun a0 a1 a2 k => impl_votes_has.mono_l k a0 a1 a2 0
set_option maxHeartbeats 8000000 in
set_option maxRecDepth 100000 in
theorem impl_votes_has.idx (k : Nat) (A0 : Option Addr) (c0 : Nat) (l0 : List (S25)) (a1_0 : Int) (A1_1 : Option Addr) (c1_1 : Nat) (l1_1 : List (S65)) (r : Bool) (w : World) (hr0 : Kd.C k25 w A0 l0.length l0) (hc0 : l0.length ≤ c0) (hr1_1 : Kd.C k65 w A1_1 l1_1.length l1_1) (hc1_1 : l1_1.length ≤ c1_1) (h : impl_votes_has.l0 k l0 a1_0 l1_1 0 = some r) :
  Calls Try.prog 70 #[.slice A0 l0.length c0, .func (.func 61) #[.agg #[.int .i64 a1_0, .slice A1_1 l1_1.length c1_1]] #[]] w fun e w' => ∃ n : Int, e = .returned (.int .i64 n) ∧ decide (0 ≤ n) = r ∧ Below w.heap.size w w' := by
 have HR0 := Aside0.mk hr0
 have HR1 := Aside0.mk hr1_1
 have HC1 := Aside0.mk hc1_1
 have HL0 := Aside0.mk h
 have HB := Aside0.mk (Below.refl w.heap.size w)
 clear hr0 hc0 hr1_1 hc1_1 h
 go_enter Try.func70, Try.ntmps70
 go_wp2
 go_loopg [5, 8] k (fun kq _ v8 w' => ∃ x : Int, v8 = .int .i64 x ∧ Aside0 (impl_votes_has.l0 kq l0 a1_0 l1_1 x = some r) ∧ Aside0 (kq ≤ k) ∧ Aside0 (Below w.heap.size w w'))
 case atStart => exact ⟨0, rfl, HL0, ⟨Nat.le_refl _⟩, HB⟩
 case round =>
  clear HL0
  obtain ⟨x, rfl, HA, HK, HB⟩ := hrel
  cases gk with
  | zero => exact absurd HA.out (by simp [impl_votes_has.l0])
  | succ k1 =>
   have H := HA.out
   clear HA
   simp only [impl_votes_has.l0] at H
   by_cases c4 : x < (l0.length : Int)
   ·rw [if_pos c4] at H
    have c4b0 : decide (x < (l0.length : Int)) = true := decide_eq_true c4
    by_cases p1 : 0 ≤ x
    case neg => exact absurd H (by rw [if_neg p1]; simp)
    rw [if_pos p1] at H
    replace H := Option.bind_eq_some_iff.mp H
    obtain ⟨t, A70, H⟩ := H
    have A7 := Aside0.mk A70
    obtain ⟨ad, Ax, cx, ex, hx0, hx1, hlx, hix⟩ := at_T25 HR0.out x p1 c4
    cases ex
    replace hx0 := (HB.out.cell (World.block_lt_of_cell? w _ hx0)).trans hx0
    replace hx1 := (HB.out.cell (World.block_lt_of_cell? w _ hx1)).trans hx1
    have HRx := Aside0.mk hix
    have HCx := Aside0.mk hlx
    clear hix hlx A70
    have p1t := eq_true p1
    have c4t := eq_true c4
    clear c4
    by_cases c8 : t = true
    ·subst c8
     obtain rfl := Option.some.inj ((if_pos (α := Option Bool) rfl).symm.trans H)
     clear H
     go_wp2_with (go_at_call 61; refine (impl_Vote_same.calls k1 a1_0 _ _ l1_1 ((rd_T25 l0 x).f0) _ _ ((rd_T25 l0 x).f1) true _ (Kd.C_below HR1.out HB.out) HC1.out (Kd.C_below HRx.out HB.out) HCx.out A7.out).mono ?_; rintro e w' ⟨rfl, hb'⟩; have n0_ := Aside0.mk (below_step HB.out hb'); clear HB hb'; have HB := n0_; clear n0_)
     go_ret
     exact ⟨_, rfl, decide_eq_true p1, HB.out⟩
    ·replace c8 := Bool.eq_false_iff.mpr c8
     subst c8
     have H1 := (if_neg (α := Option Bool) (show ¬ (false = true) by decide)).symm.trans H
     have H' := Aside0.mk H1
     clear H H1
     go_wp2_with (go_at_call 61; refine (impl_Vote_same.calls k1 a1_0 _ _ l1_1 ((rd_T25 l0 x).f0) _ _ ((rd_T25 l0 x).f1) false _ (Kd.C_below HR1.out HB.out) HC1.out (Kd.C_below HRx.out HB.out) HCx.out A7.out).mono ?_; rintro e w' ⟨rfl, hb'⟩; have n0_ := Aside0.mk (below_step HB.out hb'); clear HB hb'; have HB := n0_; clear n0_)
     go_roundg k1
     case measure => have := HK.out; omega
     case rel => exact ⟨wrap64 (x + 1), by first | rfl | (simp; done), H', ⟨by have := HK.out; omega⟩, HB⟩
   ·rw [if_neg c4] at H
    have c4b0 : decide (x < (l0.length : Int)) = false := decide_eq_false c4
    clear c4
    obtain rfl := Option.some.inj H
    clear H
    go_wp2
    go_ret
    exact ⟨_, rfl, rfl, HB.out⟩
set_option maxHeartbeats 8000000 in
set_option maxRecDepth 100000 in
theorem impl_votes_has.con (k : Nat) (A0 : Option Addr) (c0 : Nat) (l0 : List (S25)) (a1_0 : Int) (A1_1 : Option Addr) (c1_1 : Nat) (l1_1 : List (S65)) (r : Bool) (w : World) (hr0 : Kd.C k25 w A0 l0.length l0) (hc0 : l0.length ≤ c0) (hr1_1 : Kd.C k65 w A1_1 l1_1.length l1_1) (hc1_1 : l1_1.length ≤ c1_1) (h : impl_votes_has.l0 k l0 a1_0 l1_1 0 = some r) :
  Calls Try.prog 60 #[.slice A0 l0.length c0, .func (.func 61) #[.agg #[.int .i64 a1_0, .slice A1_1 l1_1.length c1_1]] #[]] w fun e w' => e = .returned (.bool r) ∧ Below w.heap.size w w' := by
 have HI := Aside0.mk (impl_votes_has.idx k A0 c0 l0 a1_0 A1_1 c1_1 l1_1 r w hr0 hc0 hr1_1 hc1_1 h)
 clear hr0 hc0 hr1_1 hc1_1 h
 go_enter Try.func60, Try.ntmps60
 go_wp2_with (go_at_call 70; refine HI.out.mono ?_; rintro e w' ⟨n, rfl, hn, hb⟩; have HN := Aside0.mk hn; have HB := Aside0.mk hb; clear hn hb)
 go_ret
 exact ⟨by rw [← HN.out]; rfl, HB.out⟩
set_option maxHeartbeats 8000000 in
set_option maxRecDepth 100000 in
theorem impl_votes_has.calls (k : Nat) (A0 : Option Addr) (c0 : Nat) (l0 : List (S25)) (a1_0 : Int) (A1_1 : Option Addr) (c1_1 : Nat) (l1_1 : List (S65)) (r : Bool) (w : World) (hr0 : Kd.C k25 w A0 l0.length l0) (hc0 : l0.length ≤ c0) (hr1_1 : Kd.C k65 w A1_1 l1_1.length l1_1) (hc1_1 : l1_1.length ≤ c1_1) (h : impl_votes_has.f k l0 a1_0 l1_1 = some r) :
  Calls Try.prog 45 #[.slice A0 l0.length c0, .agg #[.int .i64 a1_0, .slice A1_1 l1_1.length c1_1]] w fun e w' => e = .returned (.bool r) ∧ Below w.heap.size w w' := by
 have HR0 := Aside0.mk hr0
 have HC0 := Aside0.mk hc0
 have HR1 := Aside0.mk hr1_1
 have HC1 := Aside0.mk hc1_1
 have HL0 := Aside0.mk h
 have HB := Aside0.mk (Below.refl w.heap.size w)
 clear hr0 hc0 hr1_1 hc1_1 h
 go_enter Try.func45, Try.ntmps45
 go_wp2_with (first | (go_at_call 60; refine (impl_votes_has.con k A0 c0 l0 a1_0 A1_1 c1_1 l1_1 r _ (Kd.C_below HR0.out (by repeat (first | (with_reducible first | exact HB.out | apply below_alloc | apply pw_below_drewN | apply below_drew1) | exact HB.out))) HC0.out (Kd.C_below HR1.out (by repeat (first | (with_reducible first | exact HB.out | apply below_alloc | apply pw_below_drewN | apply below_drew1) | exact HB.out))) HC1.out HL0.out).mono ?_; rintro e w' ⟨rfl, hb⟩; have n0_ := Aside0.mk (below_step (by repeat (first | (with_reducible first | exact HB.out | apply below_alloc | apply pw_below_drewN | apply below_drew1) | exact HB.out)) hb); clear HB hb; have HB := n0_; clear n0_))
 go_ret
 exact ⟨rfl, HB.out⟩

end Go.Proofs.Ytaccamnoacdiiaa.P
