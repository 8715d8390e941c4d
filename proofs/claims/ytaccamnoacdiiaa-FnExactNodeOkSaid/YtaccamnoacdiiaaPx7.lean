/- The printed functions: what each Go function computes, as a Lean function, and that the Go code comes to just that. Conditions: none beyond each contract's own. -/
import Derived.Test.YtaccamnoacdiiaaPx0
import Derived.Test.YtaccamnoacdiiaaPx3
import Derived.Test.YtaccamnoacdiiaaPx6
namespace Go.Proofs.Ytaccamnoacdiiaa.P
open Go.RowKit Go.Proofs.YtaccamnoacdiiaaW.PrintWords Go.Proofs.YtaccamnoacdiiaaW.PrintLast Go.Proofs.YtaccamnoacdiiaaW.PrintMore
attribute [local go_sem] max2_int min2_int max_two min_two max_three min_three max_four min_four   -- for this text's walks alone
set_option linter.unusedVariables false
set_option linter.unusedSimpArgs false

/-! ### spec_NodeOk: function 29 -/
mutual
def spec_NodeOk.j0 : Nat → Bool → Int → Int → Int → List (S25) → Option (Bool)
 | 0,_,_,_,_,_ => none
 | k + 1,x34,x160000,x160001,x160002,x160003 => if x34 = true then (some false) else (spec_NodeOk.l0 k 0 x160000 x160001 x160002 x160003)
def spec_NodeOk.l0 : Nat → Int → Int → Int → Int → List (S25) → Option (Bool)
 | 0,_,_,_,_,_ => none
 | k + 1,x3,x160000,x160001,x160002,x160003 => if x3 < (x160003.length : Int) then (if 0 ≤ x3 then (if ((rd_T25 x160003 x3).f0) = x160000 then (if 0 ≤ (wrap64 ((((rd_T25 x160003 x3).f1).length : Int) - 1)) then (if (wrap64 ((((rd_T25 x160003 x3).f1).length : Int) - 1)) < (((rd_T25 x160003 x3).f1).length : Int) then (if ((rd_T65 ((rd_T25 x160003 x3).f1) (wrap64 ((((rd_T25 x160003 x3).f1).length : Int) - 1))).f0) > x160002 then (some false) else (spec_NodeOk.l0 k (wrap64 (x3 + 1)) x160000 x160001 x160002 x160003)) else (none)) else (none)) else (spec_NodeOk.l0 k (wrap64 (x3 + 1)) x160000 x160001 x160002 x160003)) else (none)) else (some true)
end
def spec_NodeOk.f (k : Nat) (a0_0 : Int) (a0_1 : Int) (a0_2 : Int) (l0_3 : List (S25)) : Option (Bool):=(spec_l6In.f a0_0 1 4).bind fun t160 => (if t160 = true then ((spec_l6In.f a0_1 0 30).bind fun t161 => (if t161 = true then ((spec_l6In.f a0_2 0 a0_1).bind fun t162 => (if t162 = true then (if (l0_3.length : Int) > 80 then (spec_NodeOk.j0 k true a0_0 a0_1 a0_2 l0_3) else ((spec_VotesOk.f k l0_3).bind fun t163 => (spec_NodeOk.j0 k (!t163) a0_0 a0_1 a0_2 l0_3))) else (spec_NodeOk.j0 k true a0_0 a0_1 a0_2 l0_3))) else (spec_NodeOk.j0 k true a0_0 a0_1 a0_2 l0_3))) else (spec_NodeOk.j0 k true a0_0 a0_1 a0_2 l0_3))
theorem spec_NodeOk.mono_l : ∀ k,(∀ y0 y1 y2 y3 y4,LeO (spec_NodeOk.j0 k y0 y1 y2 y3 y4) (spec_NodeOk.j0 (k + 1) y0 y1 y2 y3 y4)) ∧ (∀ y0 y1 y2 y3 y4,LeO (spec_NodeOk.l0 k y0 y1 y2 y3 y4) (spec_NodeOk.l0 (k + 1) y0 y1 y2 y3 y4))
 | 0 => ⟨fun _ _ _ _ _ r h => by simp [spec_NodeOk.j0] at h,fun _ _ _ _ _ r h => by simp [spec_NodeOk.l0] at h⟩
 | k + 1 => by
  obtain ⟨ih0,ih1⟩:=spec_NodeOk.mono_l k
  refine ⟨?_,?_⟩
  ·intro y0 y1 y2 y3 y4
   unfold spec_NodeOk.j0
   repeat' first
   | exact LeO.refl _
   | exact ih0 _ _ _ _ _
   | exact ih1 _ _ _ _ _
   | exact spec_VotesOk.mono _ _
   | exact LeO.none _
   | refine LeO.ite ?_ ?_
   | refine LeO.bind ?_ (fun _ => ?_)
  ·intro y0 y1 y2 y3 y4
   unfold spec_NodeOk.l0
   repeat' first
   | exact LeO.refl _
   | exact ih0 _ _ _ _ _
   | exact ih1 _ _ _ _ _
   | exact spec_VotesOk.mono _ _
   | exact LeO.none _
   | refine LeO.ite ?_ ?_
   | refine LeO.bind ?_ (fun _ => ?_)
theorem spec_NodeOk.mono : ∀ a0 a1 a2 a3 k,LeO (spec_NodeOk.f k a0 a1 a2 a3) (spec_NodeOk.f (k + 1) a0 a1 a2 a3):=by
 intro a0 a1 a2 a3 k
 obtain ⟨ih0,ih1⟩:=spec_NodeOk.mono_l k
 unfold spec_NodeOk.f
 repeat' first
   | exact LeO.refl _
   | exact ih0 _ _ _ _ _
   | exact ih1 _ _ _ _ _
   | exact spec_VotesOk.mono _ _
   | exact LeO.none _
   | refine LeO.ite ?_ ?_
   | refine LeO.bind ?_ (fun _ => ?_)
set_option maxHeartbeats 8000000 in
set_option maxRecDepth 100000 in
theorem spec_NodeOk.calls (k : Nat) (a0_0 : Int) (a0_1 : Int) (a0_2 : Int) (A0_3 : Option Addr) (c0_3 : Nat) (l0_3 : List (S25)) (r : Bool) (w : World) (hr0_3 : Kd.C k25 w A0_3 l0_3.length l0_3) (hc0_3 : l0_3.length ≤ c0_3) (h : spec_NodeOk.f k a0_0 a0_1 a0_2 l0_3 = some r) :
  Calls Try.prog 29 #[.agg #[.int .i64 a0_0,.int .i64 a0_1,.int .i64 a0_2,.slice A0_3 l0_3.length c0_3]] w fun e w' => e = .returned (.bool r) ∧ Below w.heap.size w w':=by
 have hu39:=Try.underlying39
 have hu25:=Try.underlying25
 have HR0_3:=aM hr0_3
 have HC0_3:=aM hc0_3
 clear hr0_3 hc0_3
 have HB:=aM (Below.refl w.heap.size w)
 have H : ((spec_l6In.f a0_0 1 4).bind fun t160 => (if t160 = true then ((spec_l6In.f a0_1 0 30).bind fun t161 => (if t161 = true then ((spec_l6In.f a0_2 0 a0_1).bind fun t162 => (if t162 = true then (if (l0_3.length : Int) > 80 then (spec_NodeOk.j0 k true a0_0 a0_1 a0_2 l0_3) else ((spec_VotesOk.f k l0_3).bind fun t163 => (spec_NodeOk.j0 k (!t163) a0_0 a0_1 a0_2 l0_3))) else (spec_NodeOk.j0 k true a0_0 a0_1 a0_2 l0_3))) else (spec_NodeOk.j0 k true a0_0 a0_1 a0_2 l0_3))) else (spec_NodeOk.j0 k true a0_0 a0_1 a0_2 l0_3))) = some r:=h
 clear h
 have HC2:=aM H
 clear H
 go_enter Try.func29,Try.ntmps29
 go_upto_region 1 with (first|((with_reducible refine gate_dst (N:=1) rfl ?_);(try (refine gate_guard (by rfl) ?_;dsimp only));refine box_event ?hg (N:=1) ?hd (cs:=#[.int .i64 a0_0,.int .i64 a0_1,.int .i64 a0_2,.slice A0_3 l0_3.length c0_3]) (t:=39) ?hr ?_;(case hd => rfl);(case hg => rfl);(case hr => first|(go_simp;done)|(go_simp;rfl));intro gb159 hg w3 hbox hb;have n0_:=aM (below_step (by repeat (first|(with_reducible first|exact HB.out|apply bA|apply bN|apply bD)|exact HB.out)) hb);have n1_:=aM (hbox);have n2_:=aM ((by rw [hg];exact (below_size (by repeat (first|(with_reducible first|exact HB.out|apply bA|apply bN|apply bD)|exact HB.out))) : w.heap.size ≤ gb159));have n3_:=aM ((by rw [hg];exact (below_size (by repeat (first|(with_reducible first|exact HB.out|apply bA|apply bN|apply bD)|exact HB.out))) : w.heap.size ≤ gb159));clear HB;have HB:=n0_;have BK159:=n1_;have GW159:=n2_;have GE159:=n3_;clear n0_ n1_ n2_ n3_;clear hb hbox hg))
 repeat (go_quiet (first|((with_reducible refine gate_dst (N:=1) rfl ?_);(try (refine gate_guard (by rfl) ?_;dsimp only));refine box_event ?hg (N:=1) ?hd (cs:=#[.int .i64 a0_0,.int .i64 a0_1,.int .i64 a0_2,.slice A0_3 l0_3.length c0_3]) (t:=39) ?hr ?_;(case hd => rfl);(case hg => rfl);(case hr => first|(go_simp;done)|(go_simp;rfl));intro gb159 hg w3 hbox hb;have n0_:=aM (below_step (by repeat (first|(with_reducible first|exact HB.out|apply bA|apply bN|apply bD)|exact HB.out)) hb);have n1_:=aM (hbox);have n2_:=aM ((by rw [hg];exact (below_size (by repeat (first|(with_reducible first|exact HB.out|apply bA|apply bN|apply bD)|exact HB.out))) : w.heap.size ≤ gb159));have n3_:=aM ((by rw [hg];exact (below_size (by repeat (first|(with_reducible first|exact HB.out|apply bA|apply bN|apply bD)|exact HB.out))) : w.heap.size ≤ gb159));clear HB;have HB:=n0_;have BK159:=n1_;have GW159:=n2_;have GE159:=n3_;clear n0_ n1_ n2_ n3_;clear hb hbox hg));go_upto_region 1 with (first|((with_reducible refine gate_dst (N:=1) rfl ?_);(try (refine gate_guard (by rfl) ?_;dsimp only));refine box_event ?hg (N:=1) ?hd (cs:=#[.int .i64 a0_0,.int .i64 a0_1,.int .i64 a0_2,.slice A0_3 l0_3.length c0_3]) (t:=39) ?hr ?_;(case hd => rfl);(case hg => rfl);(case hr => first|(go_simp;done)|(go_simp;rfl));intro gb159 hg w3 hbox hb;have n0_:=aM (below_step (by repeat (first|(with_reducible first|exact HB.out|apply bA|apply bN|apply bD)|exact HB.out)) hb);have n1_:=aM (hbox);have n2_:=aM ((by rw [hg];exact (below_size (by repeat (first|(with_reducible first|exact HB.out|apply bA|apply bN|apply bD)|exact HB.out))) : w.heap.size ≤ gb159));have n3_:=aM ((by rw [hg];exact (below_size (by repeat (first|(with_reducible first|exact HB.out|apply bA|apply bN|apply bD)|exact HB.out))) : w.heap.size ≤ gb159));clear HB;have HB:=n0_;have BK159:=n1_;have GW159:=n2_;have GE159:=n3_;clear n0_ n1_ n2_ n3_;clear hb hbox hg)))
 (try simp only [Act.put,sI,sZ,sS])
 go_cut [34] (fun v34 wc => ∃ (kq : Nat) (x34_1 : Bool),v34 = .bool x34_1 ∧ Aside0 (spec_NodeOk.j0 kq x34_1 a0_0 a0_1 a0_2 l0_3 = some r) ∧ Aside0 (kq ≤ k) ∧ Aside0 (wc.heap[gb159]? = some (.cells #[.int .i64 a0_0,.int .i64 a0_1,.int .i64 a0_2,(.slice A0_3 l0_3.length c0_3)] 39 (0,0))) ∧ Aside0 (Below w.heap.size w wc))
 case first =>
  have H:=HC2.out
  clear HC2
  replace H:=Option.bind_eq_some_iff.mp H
  obtain ⟨t160,A40,H⟩:=H
  replace H : (if t160 = true then ((spec_l6In.f a0_1 0 30).bind fun t161 => (if t161 = true then ((spec_l6In.f a0_2 0 a0_1).bind fun t162 => (if t162 = true then (if (l0_3.length : Int) > 80 then (spec_NodeOk.j0 k true a0_0 a0_1 a0_2 l0_3) else ((spec_VotesOk.f k l0_3).bind fun t163 => (spec_NodeOk.j0 k (!t163) a0_0 a0_1 a0_2 l0_3))) else (spec_NodeOk.j0 k true a0_0 a0_1 a0_2 l0_3))) else (spec_NodeOk.j0 k true a0_0 a0_1 a0_2 l0_3))) else (spec_NodeOk.j0 k true a0_0 a0_1 a0_2 l0_3)) = some r:=H
  have A4:=aM A40
  clear A40
  by_cases c5 : t160 = true
  ·subst c5
   have H1 : ((spec_l6In.f a0_1 0 30).bind fun t161 => (if t161 = true then ((spec_l6In.f a0_2 0 a0_1).bind fun t162 => (if t162 = true then (if (l0_3.length : Int) > 80 then (spec_NodeOk.j0 k true a0_0 a0_1 a0_2 l0_3) else ((spec_VotesOk.f k l0_3).bind fun t163 => (spec_NodeOk.j0 k (!t163) a0_0 a0_1 a0_2 l0_3))) else (spec_NodeOk.j0 k true a0_0 a0_1 a0_2 l0_3))) else (spec_NodeOk.j0 k true a0_0 a0_1 a0_2 l0_3))) = some r:=by rw [if_pos rfl] at H;exact H
   clear H
   have H:=H1
   clear H1
   replace H:=Option.bind_eq_some_iff.mp H
   obtain ⟨t161,A60,H⟩:=H
   replace H : (if t161 = true then ((spec_l6In.f a0_2 0 a0_1).bind fun t162 => (if t162 = true then (if (l0_3.length : Int) > 80 then (spec_NodeOk.j0 k true a0_0 a0_1 a0_2 l0_3) else ((spec_VotesOk.f k l0_3).bind fun t163 => (spec_NodeOk.j0 k (!t163) a0_0 a0_1 a0_2 l0_3))) else (spec_NodeOk.j0 k true a0_0 a0_1 a0_2 l0_3))) else (spec_NodeOk.j0 k true a0_0 a0_1 a0_2 l0_3)) = some r:=H
   have A6:=aM A60
   clear A60
   by_cases c7 : t161 = true
   ·subst c7
    have H1 : ((spec_l6In.f a0_2 0 a0_1).bind fun t162 => (if t162 = true then (if (l0_3.length : Int) > 80 then (spec_NodeOk.j0 k true a0_0 a0_1 a0_2 l0_3) else ((spec_VotesOk.f k l0_3).bind fun t163 => (spec_NodeOk.j0 k (!t163) a0_0 a0_1 a0_2 l0_3))) else (spec_NodeOk.j0 k true a0_0 a0_1 a0_2 l0_3))) = some r:=by rw [if_pos rfl] at H;exact H
    clear H
    have H:=H1
    clear H1
    replace H:=Option.bind_eq_some_iff.mp H
    obtain ⟨t162,A80,H⟩:=H
    replace H : (if t162 = true then (if (l0_3.length : Int) > 80 then (spec_NodeOk.j0 k true a0_0 a0_1 a0_2 l0_3) else ((spec_VotesOk.f k l0_3).bind fun t163 => (spec_NodeOk.j0 k (!t163) a0_0 a0_1 a0_2 l0_3))) else (spec_NodeOk.j0 k true a0_0 a0_1 a0_2 l0_3)) = some r:=H
    have A8:=aM A80
    clear A80
    by_cases c9 : t162 = true
    ·subst c9
     have H1 : (if (l0_3.length : Int) > 80 then (spec_NodeOk.j0 k true a0_0 a0_1 a0_2 l0_3) else ((spec_VotesOk.f k l0_3).bind fun t163 => (spec_NodeOk.j0 k (!t163) a0_0 a0_1 a0_2 l0_3))) = some r:=by rw [if_pos rfl] at H;exact H
     clear H
     have H:=H1
     clear H1
     by_cases c10 : (l0_3.length : Int) > 80
     ·rw [if_pos c10] at H
      have c10b0 : decide (80 < (l0_3.length : Int)) = true:=decide_eq_true c10
      have c10b1 : decide (80 < l0_3.length) = true:=decide_eq_true (by omega)
      clear c10
      (first|rw [c10b0]|rw [c10b1]|(simp only [i64_w,i32_w];rw [c10b0])|skip)
      have H':=aM H
      clear H
      have hcz11_0 : w3.cell? ⟨gb159,0,none⟩ = some (.int .i64 a0_0):=(blk_cell BK159.out 0).trans rfl
      have hcz11_1 : w3.cell? ⟨gb159,1,none⟩ = some (.int .i64 a0_1):=(blk_cell BK159.out 1).trans rfl
      have hcz11_2 : w3.cell? ⟨gb159,2,none⟩ = some (.int .i64 a0_2):=(blk_cell BK159.out 2).trans rfl
      have hcz11_3 : w3.cell? ⟨gb159,3,none⟩ = some (.slice A0_3 l0_3.length c0_3):=(blk_cell BK159.out 3).trans rfl
      have hfz11_0:=blk_frozen BK159.out 0
      have hfz11_1:=blk_frozen BK159.out 1
      have hfz11_2:=blk_frozen BK159.out 2
      have hfz11_3:=blk_frozen BK159.out 3
      go_wp2_with (first|(go_at_call 41;(with_reducible refine (spec_l6In.calls a0_0 1 4 true _ A4.out).mono ?_);rintro e w' ⟨rfl,⟨nd,rfl⟩⟩;(try first|exact ⟨rfl,_,World.drewN_drewN _ _ _⟩|exact ⟨rfl,_,Eq.trans (World.drewN_drewN _ _ _) (congrArg (World.drewN _) (Nat.add_assoc _ _ _))⟩))|(go_at_call 41;(with_reducible refine (spec_l6In.calls a0_1 0 30 true _ A6.out).mono ?_);rintro e w' ⟨rfl,⟨nd,rfl⟩⟩;(try first|exact ⟨rfl,_,World.drewN_drewN _ _ _⟩|exact ⟨rfl,_,Eq.trans (World.drewN_drewN _ _ _) (congrArg (World.drewN _) (Nat.add_assoc _ _ _))⟩))|(go_at_call 41;(with_reducible refine (spec_l6In.calls a0_2 0 a0_1 true _ A8.out).mono ?_);rintro e w' ⟨rfl,⟨nd,rfl⟩⟩;(try first|exact ⟨rfl,_,World.drewN_drewN _ _ _⟩|exact ⟨rfl,_,Eq.trans (World.drewN_drewN _ _ _) (congrArg (World.drewN _) (Nat.add_assoc _ _ _))⟩)))
      repeat (go_quiet (first|(go_at_call 41;(with_reducible refine (spec_l6In.calls a0_0 1 4 true _ A4.out).mono ?_);rintro e w' ⟨rfl,⟨nd,rfl⟩⟩;(try first|exact ⟨rfl,_,World.drewN_drewN _ _ _⟩|exact ⟨rfl,_,Eq.trans (World.drewN_drewN _ _ _) (congrArg (World.drewN _) (Nat.add_assoc _ _ _))⟩))|(go_at_call 41;(with_reducible refine (spec_l6In.calls a0_1 0 30 true _ A6.out).mono ?_);rintro e w' ⟨rfl,⟨nd,rfl⟩⟩;(try first|exact ⟨rfl,_,World.drewN_drewN _ _ _⟩|exact ⟨rfl,_,Eq.trans (World.drewN_drewN _ _ _) (congrArg (World.drewN _) (Nat.add_assoc _ _ _))⟩))|(go_at_call 41;(with_reducible refine (spec_l6In.calls a0_2 0 a0_1 true _ A8.out).mono ?_);rintro e w' ⟨rfl,⟨nd,rfl⟩⟩;(try first|exact ⟨rfl,_,World.drewN_drewN _ _ _⟩|exact ⟨rfl,_,Eq.trans (World.drewN_drewN _ _ _) (congrArg (World.drewN _) (Nat.add_assoc _ _ _))⟩)));try go_wp2_with (first|(go_at_call 41;(with_reducible refine (spec_l6In.calls a0_0 1 4 true _ A4.out).mono ?_);rintro e w' ⟨rfl,⟨nd,rfl⟩⟩;(try first|exact ⟨rfl,_,World.drewN_drewN _ _ _⟩|exact ⟨rfl,_,Eq.trans (World.drewN_drewN _ _ _) (congrArg (World.drewN _) (Nat.add_assoc _ _ _))⟩))|(go_at_call 41;(with_reducible refine (spec_l6In.calls a0_1 0 30 true _ A6.out).mono ?_);rintro e w' ⟨rfl,⟨nd,rfl⟩⟩;(try first|exact ⟨rfl,_,World.drewN_drewN _ _ _⟩|exact ⟨rfl,_,Eq.trans (World.drewN_drewN _ _ _) (congrArg (World.drewN _) (Nat.add_assoc _ _ _))⟩))|(go_at_call 41;(with_reducible refine (spec_l6In.calls a0_2 0 a0_1 true _ A8.out).mono ?_);rintro e w' ⟨rfl,⟨nd,rfl⟩⟩;(try first|exact ⟨rfl,_,World.drewN_drewN _ _ _⟩|exact ⟨rfl,_,Eq.trans (World.drewN_drewN _ _ _) (congrArg (World.drewN _) (Nat.add_assoc _ _ _))⟩))))
      go_meet
      case rel => exact ⟨_,(true),(by first|rfl|(simp;done)|(simp [*];done)),H',⟨by first|omega|exact Nat.le_refl _⟩,⟨by (with_reducible repeat (first|refine blk_drewN ?_ _|refine blk_drew ?_|refine blk_alloc ?_ _));exact BK159.out⟩,⟨by repeat (first|(with_reducible first|exact HB.out|apply bA|apply bN|apply bD|refine below_set ?_ GE159.out)|exact HB.out)⟩⟩
     ·rw [if_neg c10] at H
      have c10b0 : decide (80 < (l0_3.length : Int)) = false:=decide_eq_false c10
      have c10b1 : decide (80 < l0_3.length) = false:=decide_eq_false (by omega)
      clear c10
      (first|rw [c10b0]|rw [c10b1]|(simp only [i64_w,i32_w];rw [c10b0])|skip)
      replace H:=Option.bind_eq_some_iff.mp H
      obtain ⟨t163,A120,H⟩:=H
      replace H : (spec_NodeOk.j0 k (!t163) a0_0 a0_1 a0_2 l0_3) = some r:=H
      have A12:=aM A120
      clear A120
      have H':=aM H
      clear H
      have hcz13_0 : w3.cell? ⟨gb159,0,none⟩ = some (.int .i64 a0_0):=(blk_cell BK159.out 0).trans rfl
      have hcz13_1 : w3.cell? ⟨gb159,1,none⟩ = some (.int .i64 a0_1):=(blk_cell BK159.out 1).trans rfl
      have hcz13_2 : w3.cell? ⟨gb159,2,none⟩ = some (.int .i64 a0_2):=(blk_cell BK159.out 2).trans rfl
      have hcz13_3 : w3.cell? ⟨gb159,3,none⟩ = some (.slice A0_3 l0_3.length c0_3):=(blk_cell BK159.out 3).trans rfl
      have hfz13_0:=blk_frozen BK159.out 0
      have hfz13_1:=blk_frozen BK159.out 1
      have hfz13_2:=blk_frozen BK159.out 2
      have hfz13_3:=blk_frozen BK159.out 3
      go_wp2_with (first|(go_at_call 41;(with_reducible refine (spec_l6In.calls a0_0 1 4 true _ A4.out).mono ?_);rintro e w' ⟨rfl,⟨nd,rfl⟩⟩;(try first|exact ⟨rfl,_,World.drewN_drewN _ _ _⟩|exact ⟨rfl,_,Eq.trans (World.drewN_drewN _ _ _) (congrArg (World.drewN _) (Nat.add_assoc _ _ _))⟩))|(go_at_call 41;(with_reducible refine (spec_l6In.calls a0_1 0 30 true _ A6.out).mono ?_);rintro e w' ⟨rfl,⟨nd,rfl⟩⟩;(try first|exact ⟨rfl,_,World.drewN_drewN _ _ _⟩|exact ⟨rfl,_,Eq.trans (World.drewN_drewN _ _ _) (congrArg (World.drewN _) (Nat.add_assoc _ _ _))⟩))|(go_at_call 41;(with_reducible refine (spec_l6In.calls a0_2 0 a0_1 true _ A8.out).mono ?_);rintro e w' ⟨rfl,⟨nd,rfl⟩⟩;(try first|exact ⟨rfl,_,World.drewN_drewN _ _ _⟩|exact ⟨rfl,_,Eq.trans (World.drewN_drewN _ _ _) (congrArg (World.drewN _) (Nat.add_assoc _ _ _))⟩))|(go_at_call 22;(with_reducible refine (spec_VotesOk.calls k _ _ l0_3 t163 _ ?side1 ?side2 A12.out).mono ?_);(case side1 => repeat (first|exact (Kd.C_below HR0_3.out (by repeat (first|(with_reducible first|exact HB.out|apply bA|apply bN|apply bD|refine below_set ?_ GE159.out)|exact HB.out)))|(with_reducible refine Kd.C_alloc ?_ _)|(with_reducible refine Kd.C_drewN ?_ _)|(with_reducible refine Kd.C_drew ?_)));(case side2 => exact HC0_3.out);rintro e w14 ⟨rfl,hb⟩;have n0_:=aM (blk_below (g:=gb159) (o:=.cells #[.int .i64 a0_0,.int .i64 a0_1,.int .i64 a0_2,.slice A0_3 l0_3.length c0_3] 39 (0,0)) (by (with_reducible repeat (first|refine blk_drewN ?_ _|refine blk_drew ?_|refine blk_alloc ?_ _));exact BK159.out) hb);have n1_:=aM (below_step (by repeat (first|(with_reducible first|exact HB.out|apply bA|apply bN|apply bD|refine below_set ?_ GE159.out)|exact HB.out)) hb);clear BK159;clear HB;have BK159:=n0_;have HB:=n1_;clear n0_ n1_;(try clear hb);(try clear hb2);(try clear hk);(try clear hi)))
      repeat (go_quiet (first|(go_at_call 41;(with_reducible refine (spec_l6In.calls a0_0 1 4 true _ A4.out).mono ?_);rintro e w' ⟨rfl,⟨nd,rfl⟩⟩;(try first|exact ⟨rfl,_,World.drewN_drewN _ _ _⟩|exact ⟨rfl,_,Eq.trans (World.drewN_drewN _ _ _) (congrArg (World.drewN _) (Nat.add_assoc _ _ _))⟩))|(go_at_call 41;(with_reducible refine (spec_l6In.calls a0_1 0 30 true _ A6.out).mono ?_);rintro e w' ⟨rfl,⟨nd,rfl⟩⟩;(try first|exact ⟨rfl,_,World.drewN_drewN _ _ _⟩|exact ⟨rfl,_,Eq.trans (World.drewN_drewN _ _ _) (congrArg (World.drewN _) (Nat.add_assoc _ _ _))⟩))|(go_at_call 41;(with_reducible refine (spec_l6In.calls a0_2 0 a0_1 true _ A8.out).mono ?_);rintro e w' ⟨rfl,⟨nd,rfl⟩⟩;(try first|exact ⟨rfl,_,World.drewN_drewN _ _ _⟩|exact ⟨rfl,_,Eq.trans (World.drewN_drewN _ _ _) (congrArg (World.drewN _) (Nat.add_assoc _ _ _))⟩))|(go_at_call 22;(with_reducible refine (spec_VotesOk.calls k _ _ l0_3 t163 _ ?side1 ?side2 A12.out).mono ?_);(case side1 => repeat (first|exact (Kd.C_below HR0_3.out (by repeat (first|(with_reducible first|exact HB.out|apply bA|apply bN|apply bD|refine below_set ?_ GE159.out)|exact HB.out)))|(with_reducible refine Kd.C_alloc ?_ _)|(with_reducible refine Kd.C_drewN ?_ _)|(with_reducible refine Kd.C_drew ?_)));(case side2 => exact HC0_3.out);rintro e w14 ⟨rfl,hb⟩;have n0_:=aM (blk_below (g:=gb159) (o:=.cells #[.int .i64 a0_0,.int .i64 a0_1,.int .i64 a0_2,.slice A0_3 l0_3.length c0_3] 39 (0,0)) (by (with_reducible repeat (first|refine blk_drewN ?_ _|refine blk_drew ?_|refine blk_alloc ?_ _));exact BK159.out) hb);have n1_:=aM (below_step (by repeat (first|(with_reducible first|exact HB.out|apply bA|apply bN|apply bD|refine below_set ?_ GE159.out)|exact HB.out)) hb);clear BK159;clear HB;have BK159:=n0_;have HB:=n1_;clear n0_ n1_;(try clear hb);(try clear hb2);(try clear hk);(try clear hi)));try go_wp2_with (first|(go_at_call 41;(with_reducible refine (spec_l6In.calls a0_0 1 4 true _ A4.out).mono ?_);rintro e w' ⟨rfl,⟨nd,rfl⟩⟩;(try first|exact ⟨rfl,_,World.drewN_drewN _ _ _⟩|exact ⟨rfl,_,Eq.trans (World.drewN_drewN _ _ _) (congrArg (World.drewN _) (Nat.add_assoc _ _ _))⟩))|(go_at_call 41;(with_reducible refine (spec_l6In.calls a0_1 0 30 true _ A6.out).mono ?_);rintro e w' ⟨rfl,⟨nd,rfl⟩⟩;(try first|exact ⟨rfl,_,World.drewN_drewN _ _ _⟩|exact ⟨rfl,_,Eq.trans (World.drewN_drewN _ _ _) (congrArg (World.drewN _) (Nat.add_assoc _ _ _))⟩))|(go_at_call 41;(with_reducible refine (spec_l6In.calls a0_2 0 a0_1 true _ A8.out).mono ?_);rintro e w' ⟨rfl,⟨nd,rfl⟩⟩;(try first|exact ⟨rfl,_,World.drewN_drewN _ _ _⟩|exact ⟨rfl,_,Eq.trans (World.drewN_drewN _ _ _) (congrArg (World.drewN _) (Nat.add_assoc _ _ _))⟩))|(go_at_call 22;(with_reducible refine (spec_VotesOk.calls k _ _ l0_3 t163 _ ?side1 ?side2 A12.out).mono ?_);(case side1 => repeat (first|exact (Kd.C_below HR0_3.out (by repeat (first|(with_reducible first|exact HB.out|apply bA|apply bN|apply bD|refine below_set ?_ GE159.out)|exact HB.out)))|(with_reducible refine Kd.C_alloc ?_ _)|(with_reducible refine Kd.C_drewN ?_ _)|(with_reducible refine Kd.C_drew ?_)));(case side2 => exact HC0_3.out);rintro e w14 ⟨rfl,hb⟩;have n0_:=aM (blk_below (g:=gb159) (o:=.cells #[.int .i64 a0_0,.int .i64 a0_1,.int .i64 a0_2,.slice A0_3 l0_3.length c0_3] 39 (0,0)) (by (with_reducible repeat (first|refine blk_drewN ?_ _|refine blk_drew ?_|refine blk_alloc ?_ _));exact BK159.out) hb);have n1_:=aM (below_step (by repeat (first|(with_reducible first|exact HB.out|apply bA|apply bN|apply bD|refine below_set ?_ GE159.out)|exact HB.out)) hb);clear BK159;clear HB;have BK159:=n0_;have HB:=n1_;clear n0_ n1_;(try clear hb);(try clear hb2);(try clear hk);(try clear hi))))
      go_meet
      case rel => exact ⟨_,(!t163),(by first|rfl|(simp;done)|(simp [*];done)),H',⟨by first|omega|exact Nat.le_refl _⟩,⟨by (with_reducible repeat (first|refine blk_drewN ?_ _|refine blk_drew ?_|refine blk_alloc ?_ _));exact BK159.out⟩,⟨by repeat (first|(with_reducible first|exact HB.out|apply bA|apply bN|apply bD|refine below_set ?_ GE159.out)|exact HB.out)⟩⟩
    ·replace c9:=Bool.eq_false_iff.mpr c9
     subst c9
     have H1 : (spec_NodeOk.j0 k true a0_0 a0_1 a0_2 l0_3) = some r:=by rw [if_neg (show ¬ (false = true) by decide)] at H;exact H
     clear H
     have H:=H1
     clear H1
     have H':=aM H
     clear H
     have hcz15_0 : w3.cell? ⟨gb159,0,none⟩ = some (.int .i64 a0_0):=(blk_cell BK159.out 0).trans rfl
     have hcz15_1 : w3.cell? ⟨gb159,1,none⟩ = some (.int .i64 a0_1):=(blk_cell BK159.out 1).trans rfl
     have hcz15_2 : w3.cell? ⟨gb159,2,none⟩ = some (.int .i64 a0_2):=(blk_cell BK159.out 2).trans rfl
     have hcz15_3 : w3.cell? ⟨gb159,3,none⟩ = some (.slice A0_3 l0_3.length c0_3):=(blk_cell BK159.out 3).trans rfl
     have hfz15_0:=blk_frozen BK159.out 0
     have hfz15_1:=blk_frozen BK159.out 1
     have hfz15_2:=blk_frozen BK159.out 2
     have hfz15_3:=blk_frozen BK159.out 3
     go_wp2_with (first|(go_at_call 41;(with_reducible refine (spec_l6In.calls a0_0 1 4 true _ A4.out).mono ?_);rintro e w' ⟨rfl,⟨nd,rfl⟩⟩;(try first|exact ⟨rfl,_,World.drewN_drewN _ _ _⟩|exact ⟨rfl,_,Eq.trans (World.drewN_drewN _ _ _) (congrArg (World.drewN _) (Nat.add_assoc _ _ _))⟩))|(go_at_call 41;(with_reducible refine (spec_l6In.calls a0_1 0 30 true _ A6.out).mono ?_);rintro e w' ⟨rfl,⟨nd,rfl⟩⟩;(try first|exact ⟨rfl,_,World.drewN_drewN _ _ _⟩|exact ⟨rfl,_,Eq.trans (World.drewN_drewN _ _ _) (congrArg (World.drewN _) (Nat.add_assoc _ _ _))⟩))|(go_at_call 41;(with_reducible refine (spec_l6In.calls a0_2 0 a0_1 false _ A8.out).mono ?_);rintro e w' ⟨rfl,⟨nd,rfl⟩⟩;(try first|exact ⟨rfl,_,World.drewN_drewN _ _ _⟩|exact ⟨rfl,_,Eq.trans (World.drewN_drewN _ _ _) (congrArg (World.drewN _) (Nat.add_assoc _ _ _))⟩)))
     repeat (go_quiet (first|(go_at_call 41;(with_reducible refine (spec_l6In.calls a0_0 1 4 true _ A4.out).mono ?_);rintro e w' ⟨rfl,⟨nd,rfl⟩⟩;(try first|exact ⟨rfl,_,World.drewN_drewN _ _ _⟩|exact ⟨rfl,_,Eq.trans (World.drewN_drewN _ _ _) (congrArg (World.drewN _) (Nat.add_assoc _ _ _))⟩))|(go_at_call 41;(with_reducible refine (spec_l6In.calls a0_1 0 30 true _ A6.out).mono ?_);rintro e w' ⟨rfl,⟨nd,rfl⟩⟩;(try first|exact ⟨rfl,_,World.drewN_drewN _ _ _⟩|exact ⟨rfl,_,Eq.trans (World.drewN_drewN _ _ _) (congrArg (World.drewN _) (Nat.add_assoc _ _ _))⟩))|(go_at_call 41;(with_reducible refine (spec_l6In.calls a0_2 0 a0_1 false _ A8.out).mono ?_);rintro e w' ⟨rfl,⟨nd,rfl⟩⟩;(try first|exact ⟨rfl,_,World.drewN_drewN _ _ _⟩|exact ⟨rfl,_,Eq.trans (World.drewN_drewN _ _ _) (congrArg (World.drewN _) (Nat.add_assoc _ _ _))⟩)));try go_wp2_with (first|(go_at_call 41;(with_reducible refine (spec_l6In.calls a0_0 1 4 true _ A4.out).mono ?_);rintro e w' ⟨rfl,⟨nd,rfl⟩⟩;(try first|exact ⟨rfl,_,World.drewN_drewN _ _ _⟩|exact ⟨rfl,_,Eq.trans (World.drewN_drewN _ _ _) (congrArg (World.drewN _) (Nat.add_assoc _ _ _))⟩))|(go_at_call 41;(with_reducible refine (spec_l6In.calls a0_1 0 30 true _ A6.out).mono ?_);rintro e w' ⟨rfl,⟨nd,rfl⟩⟩;(try first|exact ⟨rfl,_,World.drewN_drewN _ _ _⟩|exact ⟨rfl,_,Eq.trans (World.drewN_drewN _ _ _) (congrArg (World.drewN _) (Nat.add_assoc _ _ _))⟩))|(go_at_call 41;(with_reducible refine (spec_l6In.calls a0_2 0 a0_1 false _ A8.out).mono ?_);rintro e w' ⟨rfl,⟨nd,rfl⟩⟩;(try first|exact ⟨rfl,_,World.drewN_drewN _ _ _⟩|exact ⟨rfl,_,Eq.trans (World.drewN_drewN _ _ _) (congrArg (World.drewN _) (Nat.add_assoc _ _ _))⟩))))
     go_meet
     case rel => exact ⟨_,(true),(by first|rfl|(simp;done)|(simp [*];done)),H',⟨by first|omega|exact Nat.le_refl _⟩,⟨by (with_reducible repeat (first|refine blk_drewN ?_ _|refine blk_drew ?_|refine blk_alloc ?_ _));exact BK159.out⟩,⟨by repeat (first|(with_reducible first|exact HB.out|apply bA|apply bN|apply bD|refine below_set ?_ GE159.out)|exact HB.out)⟩⟩
   ·replace c7:=Bool.eq_false_iff.mpr c7
    subst c7
    have H1 : (spec_NodeOk.j0 k true a0_0 a0_1 a0_2 l0_3) = some r:=by rw [if_neg (show ¬ (false = true) by decide)] at H;exact H
    clear H
    have H:=H1
    clear H1
    have H':=aM H
    clear H
    have hcz16_0 : w3.cell? ⟨gb159,0,none⟩ = some (.int .i64 a0_0):=(blk_cell BK159.out 0).trans rfl
    have hcz16_1 : w3.cell? ⟨gb159,1,none⟩ = some (.int .i64 a0_1):=(blk_cell BK159.out 1).trans rfl
    have hcz16_2 : w3.cell? ⟨gb159,2,none⟩ = some (.int .i64 a0_2):=(blk_cell BK159.out 2).trans rfl
    have hcz16_3 : w3.cell? ⟨gb159,3,none⟩ = some (.slice A0_3 l0_3.length c0_3):=(blk_cell BK159.out 3).trans rfl
    have hfz16_0:=blk_frozen BK159.out 0
    have hfz16_1:=blk_frozen BK159.out 1
    have hfz16_2:=blk_frozen BK159.out 2
    have hfz16_3:=blk_frozen BK159.out 3
    go_wp2_with (first|(go_at_call 41;(with_reducible refine (spec_l6In.calls a0_0 1 4 true _ A4.out).mono ?_);rintro e w' ⟨rfl,⟨nd,rfl⟩⟩;(try first|exact ⟨rfl,_,World.drewN_drewN _ _ _⟩|exact ⟨rfl,_,Eq.trans (World.drewN_drewN _ _ _) (congrArg (World.drewN _) (Nat.add_assoc _ _ _))⟩))|(go_at_call 41;(with_reducible refine (spec_l6In.calls a0_1 0 30 false _ A6.out).mono ?_);rintro e w' ⟨rfl,⟨nd,rfl⟩⟩;(try first|exact ⟨rfl,_,World.drewN_drewN _ _ _⟩|exact ⟨rfl,_,Eq.trans (World.drewN_drewN _ _ _) (congrArg (World.drewN _) (Nat.add_assoc _ _ _))⟩)))
    repeat (go_quiet (first|(go_at_call 41;(with_reducible refine (spec_l6In.calls a0_0 1 4 true _ A4.out).mono ?_);rintro e w' ⟨rfl,⟨nd,rfl⟩⟩;(try first|exact ⟨rfl,_,World.drewN_drewN _ _ _⟩|exact ⟨rfl,_,Eq.trans (World.drewN_drewN _ _ _) (congrArg (World.drewN _) (Nat.add_assoc _ _ _))⟩))|(go_at_call 41;(with_reducible refine (spec_l6In.calls a0_1 0 30 false _ A6.out).mono ?_);rintro e w' ⟨rfl,⟨nd,rfl⟩⟩;(try first|exact ⟨rfl,_,World.drewN_drewN _ _ _⟩|exact ⟨rfl,_,Eq.trans (World.drewN_drewN _ _ _) (congrArg (World.drewN _) (Nat.add_assoc _ _ _))⟩)));try go_wp2_with (first|(go_at_call 41;(with_reducible refine (spec_l6In.calls a0_0 1 4 true _ A4.out).mono ?_);rintro e w' ⟨rfl,⟨nd,rfl⟩⟩;(try first|exact ⟨rfl,_,World.drewN_drewN _ _ _⟩|exact ⟨rfl,_,Eq.trans (World.drewN_drewN _ _ _) (congrArg (World.drewN _) (Nat.add_assoc _ _ _))⟩))|(go_at_call 41;(with_reducible refine (spec_l6In.calls a0_1 0 30 false _ A6.out).mono ?_);rintro e w' ⟨rfl,⟨nd,rfl⟩⟩;(try first|exact ⟨rfl,_,World.drewN_drewN _ _ _⟩|exact ⟨rfl,_,Eq.trans (World.drewN_drewN _ _ _) (congrArg (World.drewN _) (Nat.add_assoc _ _ _))⟩))))
    go_meet
    case rel => exact ⟨_,(true),(by first|rfl|(simp;done)|(simp [*];done)),H',⟨by first|omega|exact Nat.le_refl _⟩,⟨by (with_reducible repeat (first|refine blk_drewN ?_ _|refine blk_drew ?_|refine blk_alloc ?_ _));exact BK159.out⟩,⟨by repeat (first|(with_reducible first|exact HB.out|apply bA|apply bN|apply bD|refine below_set ?_ GE159.out)|exact HB.out)⟩⟩
  ·replace c5:=Bool.eq_false_iff.mpr c5
   subst c5
   have H1 : (spec_NodeOk.j0 k true a0_0 a0_1 a0_2 l0_3) = some r:=by rw [if_neg (show ¬ (false = true) by decide)] at H;exact H
   clear H
   have H:=H1
   clear H1
   have H':=aM H
   clear H
   have hcz17_0 : w3.cell? ⟨gb159,0,none⟩ = some (.int .i64 a0_0):=(blk_cell BK159.out 0).trans rfl
   have hcz17_1 : w3.cell? ⟨gb159,1,none⟩ = some (.int .i64 a0_1):=(blk_cell BK159.out 1).trans rfl
   have hcz17_2 : w3.cell? ⟨gb159,2,none⟩ = some (.int .i64 a0_2):=(blk_cell BK159.out 2).trans rfl
   have hcz17_3 : w3.cell? ⟨gb159,3,none⟩ = some (.slice A0_3 l0_3.length c0_3):=(blk_cell BK159.out 3).trans rfl
   have hfz17_0:=blk_frozen BK159.out 0
   have hfz17_1:=blk_frozen BK159.out 1
   have hfz17_2:=blk_frozen BK159.out 2
   have hfz17_3:=blk_frozen BK159.out 3
   go_wp2_with (first|(go_at_call 41;(with_reducible refine (spec_l6In.calls a0_0 1 4 false _ A4.out).mono ?_);rintro e w' ⟨rfl,⟨nd,rfl⟩⟩;(try first|exact ⟨rfl,_,World.drewN_drewN _ _ _⟩|exact ⟨rfl,_,Eq.trans (World.drewN_drewN _ _ _) (congrArg (World.drewN _) (Nat.add_assoc _ _ _))⟩)))
   repeat (go_quiet (first|(go_at_call 41;(with_reducible refine (spec_l6In.calls a0_0 1 4 false _ A4.out).mono ?_);rintro e w' ⟨rfl,⟨nd,rfl⟩⟩;(try first|exact ⟨rfl,_,World.drewN_drewN _ _ _⟩|exact ⟨rfl,_,Eq.trans (World.drewN_drewN _ _ _) (congrArg (World.drewN _) (Nat.add_assoc _ _ _))⟩)));try go_wp2_with (first|(go_at_call 41;(with_reducible refine (spec_l6In.calls a0_0 1 4 false _ A4.out).mono ?_);rintro e w' ⟨rfl,⟨nd,rfl⟩⟩;(try first|exact ⟨rfl,_,World.drewN_drewN _ _ _⟩|exact ⟨rfl,_,Eq.trans (World.drewN_drewN _ _ _) (congrArg (World.drewN _) (Nat.add_assoc _ _ _))⟩))))
   go_meet
   case rel => exact ⟨_,(true),(by first|rfl|(simp;done)|(simp [*];done)),H',⟨by first|omega|exact Nat.le_refl _⟩,⟨by (with_reducible repeat (first|refine blk_drewN ?_ _|refine blk_drew ?_|refine blk_alloc ?_ _));exact BK159.out⟩,⟨by repeat (first|(with_reducible first|exact HB.out|apply bA|apply bN|apply bD|refine below_set ?_ GE159.out)|exact HB.out)⟩⟩
 case rest =>
  clear HC2
  try clear c1
  try clear c2
  try clear p2
  try clear c5
  try clear c7
  try clear c9
  try clear c10
  try clear c10b0
  try clear c10b1
  try clear hcz11_0
  try clear hcz11_1
  try clear hcz11_2
  try clear hcz11_3
  try clear hcz13_0
  try clear hcz13_1
  try clear hcz13_2
  try clear hcz13_3
  try clear hcz15_0
  try clear hcz15_1
  try clear hcz15_2
  try clear hcz15_3
  try clear hcz16_0
  try clear hcz16_1
  try clear hcz16_2
  try clear hcz16_3
  try clear hcz17_0
  try clear hcz17_1
  try clear hcz17_2
  try clear hcz17_3
  try clear hfz11_0
  try clear hfz11_1
  try clear hfz11_2
  try clear hfz11_3
  try clear hfz13_0
  try clear hfz13_1
  try clear hfz13_2
  try clear hfz13_3
  try clear hfz15_0
  try clear hfz15_1
  try clear hfz15_2
  try clear hfz15_3
  try clear hfz16_0
  try clear hfz16_1
  try clear hfz16_2
  try clear hfz16_3
  try clear hfz17_0
  try clear hfz17_1
  try clear hfz17_2
  try clear hfz17_3
  obtain ⟨kq,x34_1,rfl,HA,HJ1,BK159,HB⟩:=hcut
  cases kq with
  | zero => exact absurd HA.out (by simp [spec_NodeOk.j0])
  | succ kj1 =>
   have H:=HA.out
   clear HA
   simp only [spec_NodeOk.j0] at H
   by_cases c18 : x34_1 = true
   ·subst c18
    have H1 : (some false) = some r:=by rw [if_pos rfl] at H;exact H
    clear H
    have H:=H1
    clear H1
    obtain rfl:=Option.some.inj H
    go_wp2
    repeat (go_quiet (fail);try go_wp2)
    go_ret
    exact ⟨by first|rfl|(simp only [i64_w,i32_w];done)|(simp only [i64_w,i32_w];rfl)|(simp [errW_none,errW_some] <;> rfl)|(simp [*,errW_none,errW_some] <;> rfl),by repeat (first|(with_reducible first|exact HB.out|apply bA|apply bN|apply bD|refine below_set ?_ GE159.out)|exact HB.out)⟩
   ·replace c18:=Bool.eq_false_iff.mpr c18
    subst c18
    have H1 : (spec_NodeOk.l0 kj1 0 a0_0 a0_1 a0_2 l0_3) = some r:=by rw [if_neg (show ¬ (false = true) by decide)] at H;exact H
    clear H
    have H:=H1
    clear H1
    have H':=aM H
    clear H
    go_wp2
    repeat (go_quiet (fail);try go_wp2)
    go_loopg [3] kj1 (fun kq v3 w' => ∃ (x3_2 : Int),v3 = .int .i64 x3_2 ∧ Aside0 (spec_NodeOk.l0 kq x3_2 a0_0 a0_1 a0_2 l0_3 = some r) ∧ Aside0 (kq ≤ kj1) ∧ Aside0 (w'.heap[gb159]? = some (.cells #[.int .i64 a0_0,.int .i64 a0_1,.int .i64 a0_2,(.slice A0_3 l0_3.length c0_3)] 39 (0,0))) ∧ Aside0 (Below w.heap.size w w'))
    case atStart => exact ⟨(0),(by first|rfl|(simp;done)|(simp [*];done)),H',⟨Nat.le_refl _⟩,⟨by (with_reducible repeat (first|refine blk_drewN ?_ _|refine blk_drew ?_|refine blk_alloc ?_ _));exact BK159.out⟩,⟨by repeat (first|(with_reducible first|exact HB.out|apply bA|apply bN|apply bD|refine below_set ?_ GE159.out)|exact HB.out)⟩⟩
    case round =>
     clear H'
     try clear c1
     try clear c2
     try clear p2
     try clear c5
     try clear c7
     try clear c9
     try clear c10
     try clear c10b0
     try clear c10b1
     try clear c18
     try clear hcz11_0
     try clear hcz11_1
     try clear hcz11_2
     try clear hcz11_3
     try clear hcz13_0
     try clear hcz13_1
     try clear hcz13_2
     try clear hcz13_3
     try clear hcz15_0
     try clear hcz15_1
     try clear hcz15_2
     try clear hcz15_3
     try clear hcz16_0
     try clear hcz16_1
     try clear hcz16_2
     try clear hcz16_3
     try clear hcz17_0
     try clear hcz17_1
     try clear hcz17_2
     try clear hcz17_3
     try clear hfz11_0
     try clear hfz11_1
     try clear hfz11_2
     try clear hfz11_3
     try clear hfz13_0
     try clear hfz13_1
     try clear hfz13_2
     try clear hfz13_3
     try clear hfz15_0
     try clear hfz15_1
     try clear hfz15_2
     try clear hfz15_3
     try clear hfz16_0
     try clear hfz16_1
     try clear hfz16_2
     try clear hfz16_3
     try clear hfz17_0
     try clear hfz17_1
     try clear hfz17_2
     try clear hfz17_3
     try clear p2
     obtain ⟨x3_2,rfl,HA,HK2,BK159,HB⟩:=hrel
     cases gk with
     | zero => exact absurd HA.out (by simp [spec_NodeOk.l0])
     | succ k2 =>
      have H:=HA.out
      clear HA
      simp only [spec_NodeOk.l0] at H
      by_cases c19 : x3_2 < (l0_3.length : Int)
      ·rw [if_pos c19] at H
       have c19b0 : decide (x3_2 < (l0_3.length : Int)) = true:=decide_eq_true c19
       clear c19
       by_cases c20 : 0 ≤ x3_2
       case neg => rw [if_neg c20] at H;exact absurd H (by simp)
       rw [if_pos c20] at H
       have c20b0 : decide (0 ≤ x3_2) = true:=decide_eq_true c20
       clear c20
       by_cases c21 : ((rd_T25 l0_3 x3_2).f0) = a0_0
       ·rw [if_pos c21] at H
        have c21b0 : (((rd_T25 l0_3 x3_2).f0) == a0_0) = true:=beq_iff_eq.mpr c21
        have c21b1 : (((rd_T25 l0_3 x3_2).f0) != a0_0) = false:=bne_eq_false_iff_eq.mpr c21
        clear c21
        obtain ⟨ji22,hji22⟩ : ∃ j_ : Int,(wrap64 ((((rd_T25 l0_3 x3_2).f1).length : Int) - 1)) = j_:=⟨_,rfl⟩
        replace H : (if 0 ≤ (ji22) then (if (ji22) < (((rd_T25 l0_3 x3_2).f1).length : Int) then (if ((rd_T65 ((rd_T25 l0_3 x3_2).f1) (ji22)).f0) > a0_2 then (some false) else (spec_NodeOk.l0 k2 (wrap64 (x3_2 + 1)) a0_0 a0_1 a0_2 l0_3)) else (none)) else (none)) = some r:=by first|(rw [hji22] at H;exact H)|(simp only [hji22] at H ⊢;exact H)
        have hji22w : (IntKind.i64.wrap ((((rd_T25 l0_3 x3_2).f1).length : Int) - 1)) = ji22:=(i64_w _).trans hji22
        by_cases c23 : 0 ≤ (ji22)
        case neg => rw [if_neg c23] at H;exact absurd H (by simp)
        rw [if_pos c23] at H
        have c23b0 : decide (0 ≤ (ji22)) = true:=decide_eq_true c23
        clear c23
        by_cases c24 : (ji22) < (((rd_T25 l0_3 x3_2).f1).length : Int)
        case neg => rw [if_neg c24] at H;exact absurd H (by simp)
        rw [if_pos c24] at H
        have c24b0 : decide ((ji22) < (((rd_T25 l0_3 x3_2).f1).length : Int)) = true:=decide_eq_true c24
        clear c24
        by_cases c25 : ((rd_T65 ((rd_T25 l0_3 x3_2).f1) (ji22)).f0) > a0_2
        ·rw [if_pos c25] at H
         have c25b0 : decide (a0_2 < ((rd_T65 ((rd_T25 l0_3 x3_2).f1) (ji22)).f0)) = true:=decide_eq_true c25
         clear c25
         obtain rfl:=Option.some.inj H
         have hcz26_0 : wr.cell? ⟨gb159,0,none⟩ = some (.int .i64 a0_0):=(blk_cell BK159.out 0).trans rfl
         have hcz26_1 : wr.cell? ⟨gb159,1,none⟩ = some (.int .i64 a0_1):=(blk_cell BK159.out 1).trans rfl
         have hcz26_2 : wr.cell? ⟨gb159,2,none⟩ = some (.int .i64 a0_2):=(blk_cell BK159.out 2).trans rfl
         have hcz26_3 : wr.cell? ⟨gb159,3,none⟩ = some (.slice A0_3 l0_3.length c0_3):=(blk_cell BK159.out 3).trans rfl
         have hfz26_0:=blk_frozen BK159.out 0
         have hfz26_1:=blk_frozen BK159.out 1
         have hfz26_2:=blk_frozen BK159.out 2
         have hfz26_3:=blk_frozen BK159.out 3
         have p164 : 0 ≤ (x3_2 : Int):=of_decide_eq_true (by first|(with_reducible assumption)|assumption)
         have q164 : x3_2 < (l0_3.length : Int):=of_decide_eq_true (by first|(with_reducible assumption)|assumption)
         obtain ⟨ad164,A164_1,c164_1,e164,hx164_0,hx164_1,hl164_1,hi164_1⟩:=at_T25 HR0_3.out x3_2 p164 q164
         cases e164
         replace hx164_0:=(HB.out.cell (bL w hx164_0)).trans hx164_0
         replace hx164_1:=(HB.out.cell (bL w hx164_1)).trans hx164_1
         have HR164_1:=aM hi164_1
         have HC164_1:=aM hl164_1
         clear hi164_1 hl164_1
         replace p164:=eq_true p164
         replace q164:=eq_true q164
         go_wp2_with (first|((with_reducible refine gate_dst (N:=4) rfl ?_);(try (refine gate_guard (by rfl) ?_;dsimp only));refine box_event ?hg (N:=4) ?hd (cs:=#[.int .i64 0,.slice none 0 0]) (t:=25) ?hr ?_;(case hd => rfl);(case hg => rfl);(case hr => first|(go_simp;done)|(go_simp;rfl));intro gb165 hg w27 hbox hb;have n0_:=aM (blk_below (g:=gb159) (o:=.cells #[.int .i64 a0_0,.int .i64 a0_1,.int .i64 a0_2,.slice (some ad164) l0_3.length c0_3] 39 (0,0)) (by (with_reducible repeat (first|refine blk_drewN ?_ _|refine blk_drew ?_|refine blk_alloc ?_ _));exact BK159.out) hb);have n1_:=aM (below_step (by repeat (first|(with_reducible first|exact HB.out|apply bA|apply bN|apply bD|refine below_set ?_ GE159.out)|exact HB.out)) hb);have n2_:=aM (hbox);have n3_:=aM ((by rw [hg];exact (below_size (by repeat (first|(with_reducible first|exact HB.out|apply bA|apply bN|apply bD|refine below_set ?_ GE159.out)|exact HB.out))) : w.heap.size ≤ gb165));have n4_:=aM ((by rw [hg];exact (below_size (by repeat (first|(with_reducible first|exact HB.out|apply bA|apply bN|apply bD|refine below_set ?_ GE159.out)|exact HB.out))) : w.heap.size ≤ gb165));have n5_:=aM ((by rw [hg];exact Nat.ne_of_lt (blk_lt (g:=gb159) (o:=.cells #[.int .i64 a0_0,.int .i64 a0_1,.int .i64 a0_2,.slice (some ad164) l0_3.length c0_3] 39 (0,0)) (by (with_reducible repeat (first|refine blk_drewN ?_ _|refine blk_drew ?_|refine blk_alloc ?_ _));exact BK159.out)) : gb159 ≠ gb165));have n6_:=aM ((by rw [hg];exact Nat.ne_of_gt (blk_lt (g:=gb159) (o:=.cells #[.int .i64 a0_0,.int .i64 a0_1,.int .i64 a0_2,.slice (some ad164) l0_3.length c0_3] 39 (0,0)) (by (with_reducible repeat (first|refine blk_drewN ?_ _|refine blk_drew ?_|refine blk_alloc ?_ _));exact BK159.out)) : gb165 ≠ gb159));clear BK159;clear HB;have BK159:=n0_;have HB:=n1_;have BK165:=n2_;have GW165:=n3_;have GE165:=n4_;have NB159_165:=n5_;have NB165_159:=n6_;clear n0_ n1_ n2_ n3_ n4_ n5_ n6_;clear hb hbox hg;have hnb28:=NB165_159.out;have hnc28:=NB159_165.out;have hcz29_0 : w27.cell? ⟨gb165,0,none⟩ = some (.int .i64 0):=(blk_cell BK165.out 0).trans rfl;have hcz29_1 : w27.cell? ⟨gb165,1,none⟩ = some (.slice none 0 0):=(blk_cell BK165.out 1).trans rfl;have hfz29_0:=blk_frozen BK165.out 0;have hfz29_1:=blk_frozen BK165.out 1;have hcz30_0 : w27.cell? ⟨gb159,0,none⟩ = some (.int .i64 a0_0):=(blk_cell BK159.out 0).trans rfl;have hcz30_1 : w27.cell? ⟨gb159,1,none⟩ = some (.int .i64 a0_1):=(blk_cell BK159.out 1).trans rfl;have hcz30_2 : w27.cell? ⟨gb159,2,none⟩ = some (.int .i64 a0_2):=(blk_cell BK159.out 2).trans rfl;have hcz30_3 : w27.cell? ⟨gb159,3,none⟩ = some (.slice (some ad164) l0_3.length c0_3):=(blk_cell BK159.out 3).trans rfl;have hfz30_0:=blk_frozen BK159.out 0;have hfz30_1:=blk_frozen BK159.out 1;have hfz30_2:=blk_frozen BK159.out 2;have hfz30_3:=blk_frozen BK159.out 3;have p166 : 0 ≤ ((ji22) : Int):=of_decide_eq_true (by first|(with_reducible assumption)|assumption);have q166 : (ji22) < (((rd_T25 l0_3 x3_2).f1).length : Int):=of_decide_eq_true (by first|(with_reducible assumption)|assumption);obtain ⟨ad166,e166,hx166_0,hx166_1,hx166_2,hx166_3⟩:=at_T65 HR164_1.out (ji22) p166 q166;cases e166;have hn166_0 : ad166.block ≠ gb165:=Nat.ne_of_lt (Nat.lt_of_lt_of_le (by have:=World.block_lt_of_cell? _ _ hx166_0;first|rwa [add_block] at this|exact this) GW165.out);have hn166_1 : ad166.block ≠ gb165:=Nat.ne_of_lt (Nat.lt_of_lt_of_le (by have:=World.block_lt_of_cell? _ _ hx166_0;first|rwa [add_block] at this|exact this) GW165.out);replace hx166_0:=(HB.out.cell (bL w hx166_0)).trans hx166_0;replace hx166_1:=(HB.out.cell (bL w hx166_1)).trans hx166_1;replace hx166_2:=(HB.out.cell (bL w hx166_2)).trans hx166_2;replace hx166_3:=(HB.out.cell (bL w hx166_3)).trans hx166_3;replace hx166_0:=(cell_far (p:=⟨gb165,0,none⟩) (by first|(rw [add_block];exact hn166_0)|(show (Addr.add _ _).block ≠ _;rw [add_block];exact hn166_0)|exact hn166_0) (.int .i64 ((rd_T25 l0_3 x3_2).f0))).trans hx166_0;replace hx166_1:=(cell_far (p:=⟨gb165,0,none⟩) (by first|(rw [add_block];exact hn166_0)|(show (Addr.add _ _).block ≠ _;rw [add_block];exact hn166_0)|exact hn166_0) (.int .i64 ((rd_T25 l0_3 x3_2).f0))).trans hx166_1;replace hx166_2:=(cell_far (p:=⟨gb165,0,none⟩) (by first|(rw [add_block];exact hn166_0)|(show (Addr.add _ _).block ≠ _;rw [add_block];exact hn166_0)|exact hn166_0) (.int .i64 ((rd_T25 l0_3 x3_2).f0))).trans hx166_2;replace hx166_3:=(cell_far (p:=⟨gb165,0,none⟩) (by first|(rw [add_block];exact hn166_0)|(show (Addr.add _ _).block ≠ _;rw [add_block];exact hn166_0)|exact hn166_0) (.int .i64 ((rd_T25 l0_3 x3_2).f0))).trans hx166_3;replace hx166_0:=(cell_far (p:=⟨gb165,1,none⟩) (by first|(rw [add_block];exact hn166_1)|(show (Addr.add _ _).block ≠ _;rw [add_block];exact hn166_1)|exact hn166_1) (.slice (some ad166) ((rd_T25 l0_3 x3_2).f1).length c164_1)).trans hx166_0;replace hx166_1:=(cell_far (p:=⟨gb165,1,none⟩) (by first|(rw [add_block];exact hn166_1)|(show (Addr.add _ _).block ≠ _;rw [add_block];exact hn166_1)|exact hn166_1) (.slice (some ad166) ((rd_T25 l0_3 x3_2).f1).length c164_1)).trans hx166_1;replace hx166_2:=(cell_far (p:=⟨gb165,1,none⟩) (by first|(rw [add_block];exact hn166_1)|(show (Addr.add _ _).block ≠ _;rw [add_block];exact hn166_1)|exact hn166_1) (.slice (some ad166) ((rd_T25 l0_3 x3_2).f1).length c164_1)).trans hx166_2;replace hx166_3:=(cell_far (p:=⟨gb165,1,none⟩) (by first|(rw [add_block];exact hn166_1)|(show (Addr.add _ _).block ≠ _;rw [add_block];exact hn166_1)|exact hn166_1) (.slice (some ad166) ((rd_T25 l0_3 x3_2).f1).length c164_1)).trans hx166_3;(try have hy166_0:=fun (n_ : Nat) => (show ((((w27.drewN n_).setCell ⟨gb165,0,none⟩ (.int .i64 ((rd_T25 l0_3 x3_2).f0))).setCell ⟨gb165,1,none⟩ (.slice (some ad166) ((rd_T25 l0_3 x3_2).f1).length c164_1))).cell? _ = some _ from hx166_0));(try have hy166_1:=fun (n_ : Nat) => (show ((((w27.drewN n_).setCell ⟨gb165,0,none⟩ (.int .i64 ((rd_T25 l0_3 x3_2).f0))).setCell ⟨gb165,1,none⟩ (.slice (some ad166) ((rd_T25 l0_3 x3_2).f1).length c164_1))).cell? _ = some _ from hx166_1));(try have hy166_2:=fun (n_ : Nat) => (show ((((w27.drewN n_).setCell ⟨gb165,0,none⟩ (.int .i64 ((rd_T25 l0_3 x3_2).f0))).setCell ⟨gb165,1,none⟩ (.slice (some ad166) ((rd_T25 l0_3 x3_2).f1).length c164_1))).cell? _ = some _ from hx166_2));(try have hy166_3:=fun (n_ : Nat) => (show ((((w27.drewN n_).setCell ⟨gb165,0,none⟩ (.int .i64 ((rd_T25 l0_3 x3_2).f0))).setCell ⟨gb165,1,none⟩ (.slice (some ad166) ((rd_T25 l0_3 x3_2).f1).length c164_1))).cell? _ = some _ from hx166_3));clear hn166_0;clear hn166_1;replace p166:=eq_true p166;replace q166:=eq_true q166))
         repeat (go_quiet (first|((with_reducible refine gate_dst (N:=4) rfl ?_);(try (refine gate_guard (by rfl) ?_;dsimp only));refine box_event ?hg (N:=4) ?hd (cs:=#[.int .i64 0,.slice none 0 0]) (t:=25) ?hr ?_;(case hd => rfl);(case hg => rfl);(case hr => first|(go_simp;done)|(go_simp;rfl));intro gb165 hg w27 hbox hb;have n0_:=aM (blk_below (g:=gb159) (o:=.cells #[.int .i64 a0_0,.int .i64 a0_1,.int .i64 a0_2,.slice (some ad164) l0_3.length c0_3] 39 (0,0)) (by (with_reducible repeat (first|refine blk_drewN ?_ _|refine blk_drew ?_|refine blk_alloc ?_ _));exact BK159.out) hb);have n1_:=aM (below_step (by repeat (first|(with_reducible first|exact HB.out|apply bA|apply bN|apply bD|refine below_set ?_ GE159.out)|exact HB.out)) hb);have n2_:=aM (hbox);have n3_:=aM ((by rw [hg];exact (below_size (by repeat (first|(with_reducible first|exact HB.out|apply bA|apply bN|apply bD|refine below_set ?_ GE159.out)|exact HB.out))) : w.heap.size ≤ gb165));have n4_:=aM ((by rw [hg];exact (below_size (by repeat (first|(with_reducible first|exact HB.out|apply bA|apply bN|apply bD|refine below_set ?_ GE159.out)|exact HB.out))) : w.heap.size ≤ gb165));have n5_:=aM ((by rw [hg];exact Nat.ne_of_lt (blk_lt (g:=gb159) (o:=.cells #[.int .i64 a0_0,.int .i64 a0_1,.int .i64 a0_2,.slice (some ad164) l0_3.length c0_3] 39 (0,0)) (by (with_reducible repeat (first|refine blk_drewN ?_ _|refine blk_drew ?_|refine blk_alloc ?_ _));exact BK159.out)) : gb159 ≠ gb165));have n6_:=aM ((by rw [hg];exact Nat.ne_of_gt (blk_lt (g:=gb159) (o:=.cells #[.int .i64 a0_0,.int .i64 a0_1,.int .i64 a0_2,.slice (some ad164) l0_3.length c0_3] 39 (0,0)) (by (with_reducible repeat (first|refine blk_drewN ?_ _|refine blk_drew ?_|refine blk_alloc ?_ _));exact BK159.out)) : gb165 ≠ gb159));clear BK159;clear HB;have BK159:=n0_;have HB:=n1_;have BK165:=n2_;have GW165:=n3_;have GE165:=n4_;have NB159_165:=n5_;have NB165_159:=n6_;clear n0_ n1_ n2_ n3_ n4_ n5_ n6_;clear hb hbox hg;have hnb28:=NB165_159.out;have hnc28:=NB159_165.out;have hcz29_0 : w27.cell? ⟨gb165,0,none⟩ = some (.int .i64 0):=(blk_cell BK165.out 0).trans rfl;have hcz29_1 : w27.cell? ⟨gb165,1,none⟩ = some (.slice none 0 0):=(blk_cell BK165.out 1).trans rfl;have hfz29_0:=blk_frozen BK165.out 0;have hfz29_1:=blk_frozen BK165.out 1;have hcz30_0 : w27.cell? ⟨gb159,0,none⟩ = some (.int .i64 a0_0):=(blk_cell BK159.out 0).trans rfl;have hcz30_1 : w27.cell? ⟨gb159,1,none⟩ = some (.int .i64 a0_1):=(blk_cell BK159.out 1).trans rfl;have hcz30_2 : w27.cell? ⟨gb159,2,none⟩ = some (.int .i64 a0_2):=(blk_cell BK159.out 2).trans rfl;have hcz30_3 : w27.cell? ⟨gb159,3,none⟩ = some (.slice (some ad164) l0_3.length c0_3):=(blk_cell BK159.out 3).trans rfl;have hfz30_0:=blk_frozen BK159.out 0;have hfz30_1:=blk_frozen BK159.out 1;have hfz30_2:=blk_frozen BK159.out 2;have hfz30_3:=blk_frozen BK159.out 3;have p166 : 0 ≤ ((ji22) : Int):=of_decide_eq_true (by first|(with_reducible assumption)|assumption);have q166 : (ji22) < (((rd_T25 l0_3 x3_2).f1).length : Int):=of_decide_eq_true (by first|(with_reducible assumption)|assumption);obtain ⟨ad166,e166,hx166_0,hx166_1,hx166_2,hx166_3⟩:=at_T65 HR164_1.out (ji22) p166 q166;cases e166;have hn166_0 : ad166.block ≠ gb165:=Nat.ne_of_lt (Nat.lt_of_lt_of_le (by have:=World.block_lt_of_cell? _ _ hx166_0;first|rwa [add_block] at this|exact this) GW165.out);have hn166_1 : ad166.block ≠ gb165:=Nat.ne_of_lt (Nat.lt_of_lt_of_le (by have:=World.block_lt_of_cell? _ _ hx166_0;first|rwa [add_block] at this|exact this) GW165.out);replace hx166_0:=(HB.out.cell (bL w hx166_0)).trans hx166_0;replace hx166_1:=(HB.out.cell (bL w hx166_1)).trans hx166_1;replace hx166_2:=(HB.out.cell (bL w hx166_2)).trans hx166_2;replace hx166_3:=(HB.out.cell (bL w hx166_3)).trans hx166_3;replace hx166_0:=(cell_far (p:=⟨gb165,0,none⟩) (by first|(rw [add_block];exact hn166_0)|(show (Addr.add _ _).block ≠ _;rw [add_block];exact hn166_0)|exact hn166_0) (.int .i64 ((rd_T25 l0_3 x3_2).f0))).trans hx166_0;replace hx166_1:=(cell_far (p:=⟨gb165,0,none⟩) (by first|(rw [add_block];exact hn166_0)|(show (Addr.add _ _).block ≠ _;rw [add_block];exact hn166_0)|exact hn166_0) (.int .i64 ((rd_T25 l0_3 x3_2).f0))).trans hx166_1;replace hx166_2:=(cell_far (p:=⟨gb165,0,none⟩) (by first|(rw [add_block];exact hn166_0)|(show (Addr.add _ _).block ≠ _;rw [add_block];exact hn166_0)|exact hn166_0) (.int .i64 ((rd_T25 l0_3 x3_2).f0))).trans hx166_2;replace hx166_3:=(cell_far (p:=⟨gb165,0,none⟩) (by first|(rw [add_block];exact hn166_0)|(show (Addr.add _ _).block ≠ _;rw [add_block];exact hn166_0)|exact hn166_0) (.int .i64 ((rd_T25 l0_3 x3_2).f0))).trans hx166_3;replace hx166_0:=(cell_far (p:=⟨gb165,1,none⟩) (by first|(rw [add_block];exact hn166_1)|(show (Addr.add _ _).block ≠ _;rw [add_block];exact hn166_1)|exact hn166_1) (.slice (some ad166) ((rd_T25 l0_3 x3_2).f1).length c164_1)).trans hx166_0;replace hx166_1:=(cell_far (p:=⟨gb165,1,none⟩) (by first|(rw [add_block];exact hn166_1)|(show (Addr.add _ _).block ≠ _;rw [add_block];exact hn166_1)|exact hn166_1) (.slice (some ad166) ((rd_T25 l0_3 x3_2).f1).length c164_1)).trans hx166_1;replace hx166_2:=(cell_far (p:=⟨gb165,1,none⟩) (by first|(rw [add_block];exact hn166_1)|(show (Addr.add _ _).block ≠ _;rw [add_block];exact hn166_1)|exact hn166_1) (.slice (some ad166) ((rd_T25 l0_3 x3_2).f1).length c164_1)).trans hx166_2;replace hx166_3:=(cell_far (p:=⟨gb165,1,none⟩) (by first|(rw [add_block];exact hn166_1)|(show (Addr.add _ _).block ≠ _;rw [add_block];exact hn166_1)|exact hn166_1) (.slice (some ad166) ((rd_T25 l0_3 x3_2).f1).length c164_1)).trans hx166_3;(try have hy166_0:=fun (n_ : Nat) => (show ((((w27.drewN n_).setCell ⟨gb165,0,none⟩ (.int .i64 ((rd_T25 l0_3 x3_2).f0))).setCell ⟨gb165,1,none⟩ (.slice (some ad166) ((rd_T25 l0_3 x3_2).f1).length c164_1))).cell? _ = some _ from hx166_0));(try have hy166_1:=fun (n_ : Nat) => (show ((((w27.drewN n_).setCell ⟨gb165,0,none⟩ (.int .i64 ((rd_T25 l0_3 x3_2).f0))).setCell ⟨gb165,1,none⟩ (.slice (some ad166) ((rd_T25 l0_3 x3_2).f1).length c164_1))).cell? _ = some _ from hx166_1));(try have hy166_2:=fun (n_ : Nat) => (show ((((w27.drewN n_).setCell ⟨gb165,0,none⟩ (.int .i64 ((rd_T25 l0_3 x3_2).f0))).setCell ⟨gb165,1,none⟩ (.slice (some ad166) ((rd_T25 l0_3 x3_2).f1).length c164_1))).cell? _ = some _ from hx166_2));(try have hy166_3:=fun (n_ : Nat) => (show ((((w27.drewN n_).setCell ⟨gb165,0,none⟩ (.int .i64 ((rd_T25 l0_3 x3_2).f0))).setCell ⟨gb165,1,none⟩ (.slice (some ad166) ((rd_T25 l0_3 x3_2).f1).length c164_1))).cell? _ = some _ from hx166_3));clear hn166_0;clear hn166_1;replace p166:=eq_true p166;replace q166:=eq_true q166));try go_wp2_with (first|((with_reducible refine gate_dst (N:=4) rfl ?_);(try (refine gate_guard (by rfl) ?_;dsimp only));refine box_event ?hg (N:=4) ?hd (cs:=#[.int .i64 0,.slice none 0 0]) (t:=25) ?hr ?_;(case hd => rfl);(case hg => rfl);(case hr => first|(go_simp;done)|(go_simp;rfl));intro gb165 hg w27 hbox hb;have n0_:=aM (blk_below (g:=gb159) (o:=.cells #[.int .i64 a0_0,.int .i64 a0_1,.int .i64 a0_2,.slice (some ad164) l0_3.length c0_3] 39 (0,0)) (by (with_reducible repeat (first|refine blk_drewN ?_ _|refine blk_drew ?_|refine blk_alloc ?_ _));exact BK159.out) hb);have n1_:=aM (below_step (by repeat (first|(with_reducible first|exact HB.out|apply bA|apply bN|apply bD|refine below_set ?_ GE159.out)|exact HB.out)) hb);have n2_:=aM (hbox);have n3_:=aM ((by rw [hg];exact (below_size (by repeat (first|(with_reducible first|exact HB.out|apply bA|apply bN|apply bD|refine below_set ?_ GE159.out)|exact HB.out))) : w.heap.size ≤ gb165));have n4_:=aM ((by rw [hg];exact (below_size (by repeat (first|(with_reducible first|exact HB.out|apply bA|apply bN|apply bD|refine below_set ?_ GE159.out)|exact HB.out))) : w.heap.size ≤ gb165));have n5_:=aM ((by rw [hg];exact Nat.ne_of_lt (blk_lt (g:=gb159) (o:=.cells #[.int .i64 a0_0,.int .i64 a0_1,.int .i64 a0_2,.slice (some ad164) l0_3.length c0_3] 39 (0,0)) (by (with_reducible repeat (first|refine blk_drewN ?_ _|refine blk_drew ?_|refine blk_alloc ?_ _));exact BK159.out)) : gb159 ≠ gb165));have n6_:=aM ((by rw [hg];exact Nat.ne_of_gt (blk_lt (g:=gb159) (o:=.cells #[.int .i64 a0_0,.int .i64 a0_1,.int .i64 a0_2,.slice (some ad164) l0_3.length c0_3] 39 (0,0)) (by (with_reducible repeat (first|refine blk_drewN ?_ _|refine blk_drew ?_|refine blk_alloc ?_ _));exact BK159.out)) : gb165 ≠ gb159));clear BK159;clear HB;have BK159:=n0_;have HB:=n1_;have BK165:=n2_;have GW165:=n3_;have GE165:=n4_;have NB159_165:=n5_;have NB165_159:=n6_;clear n0_ n1_ n2_ n3_ n4_ n5_ n6_;clear hb hbox hg;have hnb28:=NB165_159.out;have hnc28:=NB159_165.out;have hcz29_0 : w27.cell? ⟨gb165,0,none⟩ = some (.int .i64 0):=(blk_cell BK165.out 0).trans rfl;have hcz29_1 : w27.cell? ⟨gb165,1,none⟩ = some (.slice none 0 0):=(blk_cell BK165.out 1).trans rfl;have hfz29_0:=blk_frozen BK165.out 0;have hfz29_1:=blk_frozen BK165.out 1;have hcz30_0 : w27.cell? ⟨gb159,0,none⟩ = some (.int .i64 a0_0):=(blk_cell BK159.out 0).trans rfl;have hcz30_1 : w27.cell? ⟨gb159,1,none⟩ = some (.int .i64 a0_1):=(blk_cell BK159.out 1).trans rfl;have hcz30_2 : w27.cell? ⟨gb159,2,none⟩ = some (.int .i64 a0_2):=(blk_cell BK159.out 2).trans rfl;have hcz30_3 : w27.cell? ⟨gb159,3,none⟩ = some (.slice (some ad164) l0_3.length c0_3):=(blk_cell BK159.out 3).trans rfl;have hfz30_0:=blk_frozen BK159.out 0;have hfz30_1:=blk_frozen BK159.out 1;have hfz30_2:=blk_frozen BK159.out 2;have hfz30_3:=blk_frozen BK159.out 3;have p166 : 0 ≤ ((ji22) : Int):=of_decide_eq_true (by first|(with_reducible assumption)|assumption);have q166 : (ji22) < (((rd_T25 l0_3 x3_2).f1).length : Int):=of_decide_eq_true (by first|(with_reducible assumption)|assumption);obtain ⟨ad166,e166,hx166_0,hx166_1,hx166_2,hx166_3⟩:=at_T65 HR164_1.out (ji22) p166 q166;cases e166;have hn166_0 : ad166.block ≠ gb165:=Nat.ne_of_lt (Nat.lt_of_lt_of_le (by have:=World.block_lt_of_cell? _ _ hx166_0;first|rwa [add_block] at this|exact this) GW165.out);have hn166_1 : ad166.block ≠ gb165:=Nat.ne_of_lt (Nat.lt_of_lt_of_le (by have:=World.block_lt_of_cell? _ _ hx166_0;first|rwa [add_block] at this|exact this) GW165.out);replace hx166_0:=(HB.out.cell (bL w hx166_0)).trans hx166_0;replace hx166_1:=(HB.out.cell (bL w hx166_1)).trans hx166_1;replace hx166_2:=(HB.out.cell (bL w hx166_2)).trans hx166_2;replace hx166_3:=(HB.out.cell (bL w hx166_3)).trans hx166_3;replace hx166_0:=(cell_far (p:=⟨gb165,0,none⟩) (by first|(rw [add_block];exact hn166_0)|(show (Addr.add _ _).block ≠ _;rw [add_block];exact hn166_0)|exact hn166_0) (.int .i64 ((rd_T25 l0_3 x3_2).f0))).trans hx166_0;replace hx166_1:=(cell_far (p:=⟨gb165,0,none⟩) (by first|(rw [add_block];exact hn166_0)|(show (Addr.add _ _).block ≠ _;rw [add_block];exact hn166_0)|exact hn166_0) (.int .i64 ((rd_T25 l0_3 x3_2).f0))).trans hx166_1;replace hx166_2:=(cell_far (p:=⟨gb165,0,none⟩) (by first|(rw [add_block];exact hn166_0)|(show (Addr.add _ _).block ≠ _;rw [add_block];exact hn166_0)|exact hn166_0) (.int .i64 ((rd_T25 l0_3 x3_2).f0))).trans hx166_2;replace hx166_3:=(cell_far (p:=⟨gb165,0,none⟩) (by first|(rw [add_block];exact hn166_0)|(show (Addr.add _ _).block ≠ _;rw [add_block];exact hn166_0)|exact hn166_0) (.int .i64 ((rd_T25 l0_3 x3_2).f0))).trans hx166_3;replace hx166_0:=(cell_far (p:=⟨gb165,1,none⟩) (by first|(rw [add_block];exact hn166_1)|(show (Addr.add _ _).block ≠ _;rw [add_block];exact hn166_1)|exact hn166_1) (.slice (some ad166) ((rd_T25 l0_3 x3_2).f1).length c164_1)).trans hx166_0;replace hx166_1:=(cell_far (p:=⟨gb165,1,none⟩) (by first|(rw [add_block];exact hn166_1)|(show (Addr.add _ _).block ≠ _;rw [add_block];exact hn166_1)|exact hn166_1) (.slice (some ad166) ((rd_T25 l0_3 x3_2).f1).length c164_1)).trans hx166_1;replace hx166_2:=(cell_far (p:=⟨gb165,1,none⟩) (by first|(rw [add_block];exact hn166_1)|(show (Addr.add _ _).block ≠ _;rw [add_block];exact hn166_1)|exact hn166_1) (.slice (some ad166) ((rd_T25 l0_3 x3_2).f1).length c164_1)).trans hx166_2;replace hx166_3:=(cell_far (p:=⟨gb165,1,none⟩) (by first|(rw [add_block];exact hn166_1)|(show (Addr.add _ _).block ≠ _;rw [add_block];exact hn166_1)|exact hn166_1) (.slice (some ad166) ((rd_T25 l0_3 x3_2).f1).length c164_1)).trans hx166_3;(try have hy166_0:=fun (n_ : Nat) => (show ((((w27.drewN n_).setCell ⟨gb165,0,none⟩ (.int .i64 ((rd_T25 l0_3 x3_2).f0))).setCell ⟨gb165,1,none⟩ (.slice (some ad166) ((rd_T25 l0_3 x3_2).f1).length c164_1))).cell? _ = some _ from hx166_0));(try have hy166_1:=fun (n_ : Nat) => (show ((((w27.drewN n_).setCell ⟨gb165,0,none⟩ (.int .i64 ((rd_T25 l0_3 x3_2).f0))).setCell ⟨gb165,1,none⟩ (.slice (some ad166) ((rd_T25 l0_3 x3_2).f1).length c164_1))).cell? _ = some _ from hx166_1));(try have hy166_2:=fun (n_ : Nat) => (show ((((w27.drewN n_).setCell ⟨gb165,0,none⟩ (.int .i64 ((rd_T25 l0_3 x3_2).f0))).setCell ⟨gb165,1,none⟩ (.slice (some ad166) ((rd_T25 l0_3 x3_2).f1).length c164_1))).cell? _ = some _ from hx166_2));(try have hy166_3:=fun (n_ : Nat) => (show ((((w27.drewN n_).setCell ⟨gb165,0,none⟩ (.int .i64 ((rd_T25 l0_3 x3_2).f0))).setCell ⟨gb165,1,none⟩ (.slice (some ad166) ((rd_T25 l0_3 x3_2).f1).length c164_1))).cell? _ = some _ from hx166_3));clear hn166_0;clear hn166_1;replace p166:=eq_true p166;replace q166:=eq_true q166)))
         go_ret
         exact ⟨by first|rfl|(simp only [i64_w,i32_w];done)|(simp only [i64_w,i32_w];rfl)|(simp [errW_none,errW_some] <;> rfl)|(simp only [← hji22];first|rfl|(simp [errW_none,errW_some] <;> rfl))|(simp [*,errW_none,errW_some] <;> rfl),by repeat (first|(with_reducible first|exact HB.out|apply bA|apply bN|apply bD|refine below_set ?_ GE159.out|refine below_set ?_ GE165.out)|exact HB.out)⟩
        ·rw [if_neg c25] at H
         have c25b0 : decide (a0_2 < ((rd_T65 ((rd_T25 l0_3 x3_2).f1) (ji22)).f0)) = false:=decide_eq_false c25
         clear c25
         have H':=aM H
         clear H
         have hcz31_0 : wr.cell? ⟨gb159,0,none⟩ = some (.int .i64 a0_0):=(blk_cell BK159.out 0).trans rfl
         have hcz31_1 : wr.cell? ⟨gb159,1,none⟩ = some (.int .i64 a0_1):=(blk_cell BK159.out 1).trans rfl
         have hcz31_2 : wr.cell? ⟨gb159,2,none⟩ = some (.int .i64 a0_2):=(blk_cell BK159.out 2).trans rfl
         have hcz31_3 : wr.cell? ⟨gb159,3,none⟩ = some (.slice A0_3 l0_3.length c0_3):=(blk_cell BK159.out 3).trans rfl
         have hfz31_0:=blk_frozen BK159.out 0
         have hfz31_1:=blk_frozen BK159.out 1
         have hfz31_2:=blk_frozen BK159.out 2
         have hfz31_3:=blk_frozen BK159.out 3
         have p164 : 0 ≤ (x3_2 : Int):=of_decide_eq_true (by first|(with_reducible assumption)|assumption)
         have q164 : x3_2 < (l0_3.length : Int):=of_decide_eq_true (by first|(with_reducible assumption)|assumption)
         obtain ⟨ad164,A164_1,c164_1,e164,hx164_0,hx164_1,hl164_1,hi164_1⟩:=at_T25 HR0_3.out x3_2 p164 q164
         cases e164
         replace hx164_0:=(HB.out.cell (bL w hx164_0)).trans hx164_0
         replace hx164_1:=(HB.out.cell (bL w hx164_1)).trans hx164_1
         have HR164_1:=aM hi164_1
         have HC164_1:=aM hl164_1
         clear hi164_1 hl164_1
         replace p164:=eq_true p164
         replace q164:=eq_true q164
         go_wp2_with (first|((with_reducible refine gate_dst (N:=4) rfl ?_);(try (refine gate_guard (by rfl) ?_;dsimp only));refine box_event ?hg (N:=4) ?hd (cs:=#[.int .i64 0,.slice none 0 0]) (t:=25) ?hr ?_;(case hd => rfl);(case hg => rfl);(case hr => first|(go_simp;done)|(go_simp;rfl));intro gb165 hg w32 hbox hb;have n0_:=aM (blk_below (g:=gb159) (o:=.cells #[.int .i64 a0_0,.int .i64 a0_1,.int .i64 a0_2,.slice (some ad164) l0_3.length c0_3] 39 (0,0)) (by (with_reducible repeat (first|refine blk_drewN ?_ _|refine blk_drew ?_|refine blk_alloc ?_ _));exact BK159.out) hb);have n1_:=aM (below_step (by repeat (first|(with_reducible first|exact HB.out|apply bA|apply bN|apply bD|refine below_set ?_ GE159.out)|exact HB.out)) hb);have n2_:=aM (hbox);have n3_:=aM ((by rw [hg];exact (below_size (by repeat (first|(with_reducible first|exact HB.out|apply bA|apply bN|apply bD|refine below_set ?_ GE159.out)|exact HB.out))) : w.heap.size ≤ gb165));have n4_:=aM ((by rw [hg];exact (below_size (by repeat (first|(with_reducible first|exact HB.out|apply bA|apply bN|apply bD|refine below_set ?_ GE159.out)|exact HB.out))) : w.heap.size ≤ gb165));have n5_:=aM ((by rw [hg];exact Nat.ne_of_lt (blk_lt (g:=gb159) (o:=.cells #[.int .i64 a0_0,.int .i64 a0_1,.int .i64 a0_2,.slice (some ad164) l0_3.length c0_3] 39 (0,0)) (by (with_reducible repeat (first|refine blk_drewN ?_ _|refine blk_drew ?_|refine blk_alloc ?_ _));exact BK159.out)) : gb159 ≠ gb165));have n6_:=aM ((by rw [hg];exact Nat.ne_of_gt (blk_lt (g:=gb159) (o:=.cells #[.int .i64 a0_0,.int .i64 a0_1,.int .i64 a0_2,.slice (some ad164) l0_3.length c0_3] 39 (0,0)) (by (with_reducible repeat (first|refine blk_drewN ?_ _|refine blk_drew ?_|refine blk_alloc ?_ _));exact BK159.out)) : gb165 ≠ gb159));clear BK159;clear HB;have BK159:=n0_;have HB:=n1_;have BK165:=n2_;have GW165:=n3_;have GE165:=n4_;have NB159_165:=n5_;have NB165_159:=n6_;clear n0_ n1_ n2_ n3_ n4_ n5_ n6_;clear hb hbox hg;have hnb33:=NB165_159.out;have hnc33:=NB159_165.out;have hcz34_0 : w32.cell? ⟨gb165,0,none⟩ = some (.int .i64 0):=(blk_cell BK165.out 0).trans rfl;have hcz34_1 : w32.cell? ⟨gb165,1,none⟩ = some (.slice none 0 0):=(blk_cell BK165.out 1).trans rfl;have hfz34_0:=blk_frozen BK165.out 0;have hfz34_1:=blk_frozen BK165.out 1;have hcz35_0 : w32.cell? ⟨gb159,0,none⟩ = some (.int .i64 a0_0):=(blk_cell BK159.out 0).trans rfl;have hcz35_1 : w32.cell? ⟨gb159,1,none⟩ = some (.int .i64 a0_1):=(blk_cell BK159.out 1).trans rfl;have hcz35_2 : w32.cell? ⟨gb159,2,none⟩ = some (.int .i64 a0_2):=(blk_cell BK159.out 2).trans rfl;have hcz35_3 : w32.cell? ⟨gb159,3,none⟩ = some (.slice (some ad164) l0_3.length c0_3):=(blk_cell BK159.out 3).trans rfl;have hfz35_0:=blk_frozen BK159.out 0;have hfz35_1:=blk_frozen BK159.out 1;have hfz35_2:=blk_frozen BK159.out 2;have hfz35_3:=blk_frozen BK159.out 3;have p166 : 0 ≤ ((ji22) : Int):=of_decide_eq_true (by first|(with_reducible assumption)|assumption);have q166 : (ji22) < (((rd_T25 l0_3 x3_2).f1).length : Int):=of_decide_eq_true (by first|(with_reducible assumption)|assumption);obtain ⟨ad166,e166,hx166_0,hx166_1,hx166_2,hx166_3⟩:=at_T65 HR164_1.out (ji22) p166 q166;cases e166;have hn166_0 : ad166.block ≠ gb165:=Nat.ne_of_lt (Nat.lt_of_lt_of_le (by have:=World.block_lt_of_cell? _ _ hx166_0;first|rwa [add_block] at this|exact this) GW165.out);have hn166_1 : ad166.block ≠ gb165:=Nat.ne_of_lt (Nat.lt_of_lt_of_le (by have:=World.block_lt_of_cell? _ _ hx166_0;first|rwa [add_block] at this|exact this) GW165.out);replace hx166_0:=(HB.out.cell (bL w hx166_0)).trans hx166_0;replace hx166_1:=(HB.out.cell (bL w hx166_1)).trans hx166_1;replace hx166_2:=(HB.out.cell (bL w hx166_2)).trans hx166_2;replace hx166_3:=(HB.out.cell (bL w hx166_3)).trans hx166_3;replace hx166_0:=(cell_far (p:=⟨gb165,0,none⟩) (by first|(rw [add_block];exact hn166_0)|(show (Addr.add _ _).block ≠ _;rw [add_block];exact hn166_0)|exact hn166_0) (.int .i64 ((rd_T25 l0_3 x3_2).f0))).trans hx166_0;replace hx166_1:=(cell_far (p:=⟨gb165,0,none⟩) (by first|(rw [add_block];exact hn166_0)|(show (Addr.add _ _).block ≠ _;rw [add_block];exact hn166_0)|exact hn166_0) (.int .i64 ((rd_T25 l0_3 x3_2).f0))).trans hx166_1;replace hx166_2:=(cell_far (p:=⟨gb165,0,none⟩) (by first|(rw [add_block];exact hn166_0)|(show (Addr.add _ _).block ≠ _;rw [add_block];exact hn166_0)|exact hn166_0) (.int .i64 ((rd_T25 l0_3 x3_2).f0))).trans hx166_2;replace hx166_3:=(cell_far (p:=⟨gb165,0,none⟩) (by first|(rw [add_block];exact hn166_0)|(show (Addr.add _ _).block ≠ _;rw [add_block];exact hn166_0)|exact hn166_0) (.int .i64 ((rd_T25 l0_3 x3_2).f0))).trans hx166_3;replace hx166_0:=(cell_far (p:=⟨gb165,1,none⟩) (by first|(rw [add_block];exact hn166_1)|(show (Addr.add _ _).block ≠ _;rw [add_block];exact hn166_1)|exact hn166_1) (.slice (some ad166) ((rd_T25 l0_3 x3_2).f1).length c164_1)).trans hx166_0;replace hx166_1:=(cell_far (p:=⟨gb165,1,none⟩) (by first|(rw [add_block];exact hn166_1)|(show (Addr.add _ _).block ≠ _;rw [add_block];exact hn166_1)|exact hn166_1) (.slice (some ad166) ((rd_T25 l0_3 x3_2).f1).length c164_1)).trans hx166_1;replace hx166_2:=(cell_far (p:=⟨gb165,1,none⟩) (by first|(rw [add_block];exact hn166_1)|(show (Addr.add _ _).block ≠ _;rw [add_block];exact hn166_1)|exact hn166_1) (.slice (some ad166) ((rd_T25 l0_3 x3_2).f1).length c164_1)).trans hx166_2;replace hx166_3:=(cell_far (p:=⟨gb165,1,none⟩) (by first|(rw [add_block];exact hn166_1)|(show (Addr.add _ _).block ≠ _;rw [add_block];exact hn166_1)|exact hn166_1) (.slice (some ad166) ((rd_T25 l0_3 x3_2).f1).length c164_1)).trans hx166_3;(try have hy166_0:=fun (n_ : Nat) => (show ((((w32.drewN n_).setCell ⟨gb165,0,none⟩ (.int .i64 ((rd_T25 l0_3 x3_2).f0))).setCell ⟨gb165,1,none⟩ (.slice (some ad166) ((rd_T25 l0_3 x3_2).f1).length c164_1))).cell? _ = some _ from hx166_0));(try have hy166_1:=fun (n_ : Nat) => (show ((((w32.drewN n_).setCell ⟨gb165,0,none⟩ (.int .i64 ((rd_T25 l0_3 x3_2).f0))).setCell ⟨gb165,1,none⟩ (.slice (some ad166) ((rd_T25 l0_3 x3_2).f1).length c164_1))).cell? _ = some _ from hx166_1));(try have hy166_2:=fun (n_ : Nat) => (show ((((w32.drewN n_).setCell ⟨gb165,0,none⟩ (.int .i64 ((rd_T25 l0_3 x3_2).f0))).setCell ⟨gb165,1,none⟩ (.slice (some ad166) ((rd_T25 l0_3 x3_2).f1).length c164_1))).cell? _ = some _ from hx166_2));(try have hy166_3:=fun (n_ : Nat) => (show ((((w32.drewN n_).setCell ⟨gb165,0,none⟩ (.int .i64 ((rd_T25 l0_3 x3_2).f0))).setCell ⟨gb165,1,none⟩ (.slice (some ad166) ((rd_T25 l0_3 x3_2).f1).length c164_1))).cell? _ = some _ from hx166_3));clear hn166_0;clear hn166_1;replace p166:=eq_true p166;replace q166:=eq_true q166))
         repeat (go_quiet (first|((with_reducible refine gate_dst (N:=4) rfl ?_);(try (refine gate_guard (by rfl) ?_;dsimp only));refine box_event ?hg (N:=4) ?hd (cs:=#[.int .i64 0,.slice none 0 0]) (t:=25) ?hr ?_;(case hd => rfl);(case hg => rfl);(case hr => first|(go_simp;done)|(go_simp;rfl));intro gb165 hg w32 hbox hb;have n0_:=aM (blk_below (g:=gb159) (o:=.cells #[.int .i64 a0_0,.int .i64 a0_1,.int .i64 a0_2,.slice (some ad164) l0_3.length c0_3] 39 (0,0)) (by (with_reducible repeat (first|refine blk_drewN ?_ _|refine blk_drew ?_|refine blk_alloc ?_ _));exact BK159.out) hb);have n1_:=aM (below_step (by repeat (first|(with_reducible first|exact HB.out|apply bA|apply bN|apply bD|refine below_set ?_ GE159.out)|exact HB.out)) hb);have n2_:=aM (hbox);have n3_:=aM ((by rw [hg];exact (below_size (by repeat (first|(with_reducible first|exact HB.out|apply bA|apply bN|apply bD|refine below_set ?_ GE159.out)|exact HB.out))) : w.heap.size ≤ gb165));have n4_:=aM ((by rw [hg];exact (below_size (by repeat (first|(with_reducible first|exact HB.out|apply bA|apply bN|apply bD|refine below_set ?_ GE159.out)|exact HB.out))) : w.heap.size ≤ gb165));have n5_:=aM ((by rw [hg];exact Nat.ne_of_lt (blk_lt (g:=gb159) (o:=.cells #[.int .i64 a0_0,.int .i64 a0_1,.int .i64 a0_2,.slice (some ad164) l0_3.length c0_3] 39 (0,0)) (by (with_reducible repeat (first|refine blk_drewN ?_ _|refine blk_drew ?_|refine blk_alloc ?_ _));exact BK159.out)) : gb159 ≠ gb165));have n6_:=aM ((by rw [hg];exact Nat.ne_of_gt (blk_lt (g:=gb159) (o:=.cells #[.int .i64 a0_0,.int .i64 a0_1,.int .i64 a0_2,.slice (some ad164) l0_3.length c0_3] 39 (0,0)) (by (with_reducible repeat (first|refine blk_drewN ?_ _|refine blk_drew ?_|refine blk_alloc ?_ _));exact BK159.out)) : gb165 ≠ gb159));clear BK159;clear HB;have BK159:=n0_;have HB:=n1_;have BK165:=n2_;have GW165:=n3_;have GE165:=n4_;have NB159_165:=n5_;have NB165_159:=n6_;clear n0_ n1_ n2_ n3_ n4_ n5_ n6_;clear hb hbox hg;have hnb33:=NB165_159.out;have hnc33:=NB159_165.out;have hcz34_0 : w32.cell? ⟨gb165,0,none⟩ = some (.int .i64 0):=(blk_cell BK165.out 0).trans rfl;have hcz34_1 : w32.cell? ⟨gb165,1,none⟩ = some (.slice none 0 0):=(blk_cell BK165.out 1).trans rfl;have hfz34_0:=blk_frozen BK165.out 0;have hfz34_1:=blk_frozen BK165.out 1;have hcz35_0 : w32.cell? ⟨gb159,0,none⟩ = some (.int .i64 a0_0):=(blk_cell BK159.out 0).trans rfl;have hcz35_1 : w32.cell? ⟨gb159,1,none⟩ = some (.int .i64 a0_1):=(blk_cell BK159.out 1).trans rfl;have hcz35_2 : w32.cell? ⟨gb159,2,none⟩ = some (.int .i64 a0_2):=(blk_cell BK159.out 2).trans rfl;have hcz35_3 : w32.cell? ⟨gb159,3,none⟩ = some (.slice (some ad164) l0_3.length c0_3):=(blk_cell BK159.out 3).trans rfl;have hfz35_0:=blk_frozen BK159.out 0;have hfz35_1:=blk_frozen BK159.out 1;have hfz35_2:=blk_frozen BK159.out 2;have hfz35_3:=blk_frozen BK159.out 3;have p166 : 0 ≤ ((ji22) : Int):=of_decide_eq_true (by first|(with_reducible assumption)|assumption);have q166 : (ji22) < (((rd_T25 l0_3 x3_2).f1).length : Int):=of_decide_eq_true (by first|(with_reducible assumption)|assumption);obtain ⟨ad166,e166,hx166_0,hx166_1,hx166_2,hx166_3⟩:=at_T65 HR164_1.out (ji22) p166 q166;cases e166;have hn166_0 : ad166.block ≠ gb165:=Nat.ne_of_lt (Nat.lt_of_lt_of_le (by have:=World.block_lt_of_cell? _ _ hx166_0;first|rwa [add_block] at this|exact this) GW165.out);have hn166_1 : ad166.block ≠ gb165:=Nat.ne_of_lt (Nat.lt_of_lt_of_le (by have:=World.block_lt_of_cell? _ _ hx166_0;first|rwa [add_block] at this|exact this) GW165.out);replace hx166_0:=(HB.out.cell (bL w hx166_0)).trans hx166_0;replace hx166_1:=(HB.out.cell (bL w hx166_1)).trans hx166_1;replace hx166_2:=(HB.out.cell (bL w hx166_2)).trans hx166_2;replace hx166_3:=(HB.out.cell (bL w hx166_3)).trans hx166_3;replace hx166_0:=(cell_far (p:=⟨gb165,0,none⟩) (by first|(rw [add_block];exact hn166_0)|(show (Addr.add _ _).block ≠ _;rw [add_block];exact hn166_0)|exact hn166_0) (.int .i64 ((rd_T25 l0_3 x3_2).f0))).trans hx166_0;replace hx166_1:=(cell_far (p:=⟨gb165,0,none⟩) (by first|(rw [add_block];exact hn166_0)|(show (Addr.add _ _).block ≠ _;rw [add_block];exact hn166_0)|exact hn166_0) (.int .i64 ((rd_T25 l0_3 x3_2).f0))).trans hx166_1;replace hx166_2:=(cell_far (p:=⟨gb165,0,none⟩) (by first|(rw [add_block];exact hn166_0)|(show (Addr.add _ _).block ≠ _;rw [add_block];exact hn166_0)|exact hn166_0) (.int .i64 ((rd_T25 l0_3 x3_2).f0))).trans hx166_2;replace hx166_3:=(cell_far (p:=⟨gb165,0,none⟩) (by first|(rw [add_block];exact hn166_0)|(show (Addr.add _ _).block ≠ _;rw [add_block];exact hn166_0)|exact hn166_0) (.int .i64 ((rd_T25 l0_3 x3_2).f0))).trans hx166_3;replace hx166_0:=(cell_far (p:=⟨gb165,1,none⟩) (by first|(rw [add_block];exact hn166_1)|(show (Addr.add _ _).block ≠ _;rw [add_block];exact hn166_1)|exact hn166_1) (.slice (some ad166) ((rd_T25 l0_3 x3_2).f1).length c164_1)).trans hx166_0;replace hx166_1:=(cell_far (p:=⟨gb165,1,none⟩) (by first|(rw [add_block];exact hn166_1)|(show (Addr.add _ _).block ≠ _;rw [add_block];exact hn166_1)|exact hn166_1) (.slice (some ad166) ((rd_T25 l0_3 x3_2).f1).length c164_1)).trans hx166_1;replace hx166_2:=(cell_far (p:=⟨gb165,1,none⟩) (by first|(rw [add_block];exact hn166_1)|(show (Addr.add _ _).block ≠ _;rw [add_block];exact hn166_1)|exact hn166_1) (.slice (some ad166) ((rd_T25 l0_3 x3_2).f1).length c164_1)).trans hx166_2;replace hx166_3:=(cell_far (p:=⟨gb165,1,none⟩) (by first|(rw [add_block];exact hn166_1)|(show (Addr.add _ _).block ≠ _;rw [add_block];exact hn166_1)|exact hn166_1) (.slice (some ad166) ((rd_T25 l0_3 x3_2).f1).length c164_1)).trans hx166_3;(try have hy166_0:=fun (n_ : Nat) => (show ((((w32.drewN n_).setCell ⟨gb165,0,none⟩ (.int .i64 ((rd_T25 l0_3 x3_2).f0))).setCell ⟨gb165,1,none⟩ (.slice (some ad166) ((rd_T25 l0_3 x3_2).f1).length c164_1))).cell? _ = some _ from hx166_0));(try have hy166_1:=fun (n_ : Nat) => (show ((((w32.drewN n_).setCell ⟨gb165,0,none⟩ (.int .i64 ((rd_T25 l0_3 x3_2).f0))).setCell ⟨gb165,1,none⟩ (.slice (some ad166) ((rd_T25 l0_3 x3_2).f1).length c164_1))).cell? _ = some _ from hx166_1));(try have hy166_2:=fun (n_ : Nat) => (show ((((w32.drewN n_).setCell ⟨gb165,0,none⟩ (.int .i64 ((rd_T25 l0_3 x3_2).f0))).setCell ⟨gb165,1,none⟩ (.slice (some ad166) ((rd_T25 l0_3 x3_2).f1).length c164_1))).cell? _ = some _ from hx166_2));(try have hy166_3:=fun (n_ : Nat) => (show ((((w32.drewN n_).setCell ⟨gb165,0,none⟩ (.int .i64 ((rd_T25 l0_3 x3_2).f0))).setCell ⟨gb165,1,none⟩ (.slice (some ad166) ((rd_T25 l0_3 x3_2).f1).length c164_1))).cell? _ = some _ from hx166_3));clear hn166_0;clear hn166_1;replace p166:=eq_true p166;replace q166:=eq_true q166));try go_wp2_with (first|((with_reducible refine gate_dst (N:=4) rfl ?_);(try (refine gate_guard (by rfl) ?_;dsimp only));refine box_event ?hg (N:=4) ?hd (cs:=#[.int .i64 0,.slice none 0 0]) (t:=25) ?hr ?_;(case hd => rfl);(case hg => rfl);(case hr => first|(go_simp;done)|(go_simp;rfl));intro gb165 hg w32 hbox hb;have n0_:=aM (blk_below (g:=gb159) (o:=.cells #[.int .i64 a0_0,.int .i64 a0_1,.int .i64 a0_2,.slice (some ad164) l0_3.length c0_3] 39 (0,0)) (by (with_reducible repeat (first|refine blk_drewN ?_ _|refine blk_drew ?_|refine blk_alloc ?_ _));exact BK159.out) hb);have n1_:=aM (below_step (by repeat (first|(with_reducible first|exact HB.out|apply bA|apply bN|apply bD|refine below_set ?_ GE159.out)|exact HB.out)) hb);have n2_:=aM (hbox);have n3_:=aM ((by rw [hg];exact (below_size (by repeat (first|(with_reducible first|exact HB.out|apply bA|apply bN|apply bD|refine below_set ?_ GE159.out)|exact HB.out))) : w.heap.size ≤ gb165));have n4_:=aM ((by rw [hg];exact (below_size (by repeat (first|(with_reducible first|exact HB.out|apply bA|apply bN|apply bD|refine below_set ?_ GE159.out)|exact HB.out))) : w.heap.size ≤ gb165));have n5_:=aM ((by rw [hg];exact Nat.ne_of_lt (blk_lt (g:=gb159) (o:=.cells #[.int .i64 a0_0,.int .i64 a0_1,.int .i64 a0_2,.slice (some ad164) l0_3.length c0_3] 39 (0,0)) (by (with_reducible repeat (first|refine blk_drewN ?_ _|refine blk_drew ?_|refine blk_alloc ?_ _));exact BK159.out)) : gb159 ≠ gb165));have n6_:=aM ((by rw [hg];exact Nat.ne_of_gt (blk_lt (g:=gb159) (o:=.cells #[.int .i64 a0_0,.int .i64 a0_1,.int .i64 a0_2,.slice (some ad164) l0_3.length c0_3] 39 (0,0)) (by (with_reducible repeat (first|refine blk_drewN ?_ _|refine blk_drew ?_|refine blk_alloc ?_ _));exact BK159.out)) : gb165 ≠ gb159));clear BK159;clear HB;have BK159:=n0_;have HB:=n1_;have BK165:=n2_;have GW165:=n3_;have GE165:=n4_;have NB159_165:=n5_;have NB165_159:=n6_;clear n0_ n1_ n2_ n3_ n4_ n5_ n6_;clear hb hbox hg;have hnb33:=NB165_159.out;have hnc33:=NB159_165.out;have hcz34_0 : w32.cell? ⟨gb165,0,none⟩ = some (.int .i64 0):=(blk_cell BK165.out 0).trans rfl;have hcz34_1 : w32.cell? ⟨gb165,1,none⟩ = some (.slice none 0 0):=(blk_cell BK165.out 1).trans rfl;have hfz34_0:=blk_frozen BK165.out 0;have hfz34_1:=blk_frozen BK165.out 1;have hcz35_0 : w32.cell? ⟨gb159,0,none⟩ = some (.int .i64 a0_0):=(blk_cell BK159.out 0).trans rfl;have hcz35_1 : w32.cell? ⟨gb159,1,none⟩ = some (.int .i64 a0_1):=(blk_cell BK159.out 1).trans rfl;have hcz35_2 : w32.cell? ⟨gb159,2,none⟩ = some (.int .i64 a0_2):=(blk_cell BK159.out 2).trans rfl;have hcz35_3 : w32.cell? ⟨gb159,3,none⟩ = some (.slice (some ad164) l0_3.length c0_3):=(blk_cell BK159.out 3).trans rfl;have hfz35_0:=blk_frozen BK159.out 0;have hfz35_1:=blk_frozen BK159.out 1;have hfz35_2:=blk_frozen BK159.out 2;have hfz35_3:=blk_frozen BK159.out 3;have p166 : 0 ≤ ((ji22) : Int):=of_decide_eq_true (by first|(with_reducible assumption)|assumption);have q166 : (ji22) < (((rd_T25 l0_3 x3_2).f1).length : Int):=of_decide_eq_true (by first|(with_reducible assumption)|assumption);obtain ⟨ad166,e166,hx166_0,hx166_1,hx166_2,hx166_3⟩:=at_T65 HR164_1.out (ji22) p166 q166;cases e166;have hn166_0 : ad166.block ≠ gb165:=Nat.ne_of_lt (Nat.lt_of_lt_of_le (by have:=World.block_lt_of_cell? _ _ hx166_0;first|rwa [add_block] at this|exact this) GW165.out);have hn166_1 : ad166.block ≠ gb165:=Nat.ne_of_lt (Nat.lt_of_lt_of_le (by have:=World.block_lt_of_cell? _ _ hx166_0;first|rwa [add_block] at this|exact this) GW165.out);replace hx166_0:=(HB.out.cell (bL w hx166_0)).trans hx166_0;replace hx166_1:=(HB.out.cell (bL w hx166_1)).trans hx166_1;replace hx166_2:=(HB.out.cell (bL w hx166_2)).trans hx166_2;replace hx166_3:=(HB.out.cell (bL w hx166_3)).trans hx166_3;replace hx166_0:=(cell_far (p:=⟨gb165,0,none⟩) (by first|(rw [add_block];exact hn166_0)|(show (Addr.add _ _).block ≠ _;rw [add_block];exact hn166_0)|exact hn166_0) (.int .i64 ((rd_T25 l0_3 x3_2).f0))).trans hx166_0;replace hx166_1:=(cell_far (p:=⟨gb165,0,none⟩) (by first|(rw [add_block];exact hn166_0)|(show (Addr.add _ _).block ≠ _;rw [add_block];exact hn166_0)|exact hn166_0) (.int .i64 ((rd_T25 l0_3 x3_2).f0))).trans hx166_1;replace hx166_2:=(cell_far (p:=⟨gb165,0,none⟩) (by first|(rw [add_block];exact hn166_0)|(show (Addr.add _ _).block ≠ _;rw [add_block];exact hn166_0)|exact hn166_0) (.int .i64 ((rd_T25 l0_3 x3_2).f0))).trans hx166_2;replace hx166_3:=(cell_far (p:=⟨gb165,0,none⟩) (by first|(rw [add_block];exact hn166_0)|(show (Addr.add _ _).block ≠ _;rw [add_block];exact hn166_0)|exact hn166_0) (.int .i64 ((rd_T25 l0_3 x3_2).f0))).trans hx166_3;replace hx166_0:=(cell_far (p:=⟨gb165,1,none⟩) (by first|(rw [add_block];exact hn166_1)|(show (Addr.add _ _).block ≠ _;rw [add_block];exact hn166_1)|exact hn166_1) (.slice (some ad166) ((rd_T25 l0_3 x3_2).f1).length c164_1)).trans hx166_0;replace hx166_1:=(cell_far (p:=⟨gb165,1,none⟩) (by first|(rw [add_block];exact hn166_1)|(show (Addr.add _ _).block ≠ _;rw [add_block];exact hn166_1)|exact hn166_1) (.slice (some ad166) ((rd_T25 l0_3 x3_2).f1).length c164_1)).trans hx166_1;replace hx166_2:=(cell_far (p:=⟨gb165,1,none⟩) (by first|(rw [add_block];exact hn166_1)|(show (Addr.add _ _).block ≠ _;rw [add_block];exact hn166_1)|exact hn166_1) (.slice (some ad166) ((rd_T25 l0_3 x3_2).f1).length c164_1)).trans hx166_2;replace hx166_3:=(cell_far (p:=⟨gb165,1,none⟩) (by first|(rw [add_block];exact hn166_1)|(show (Addr.add _ _).block ≠ _;rw [add_block];exact hn166_1)|exact hn166_1) (.slice (some ad166) ((rd_T25 l0_3 x3_2).f1).length c164_1)).trans hx166_3;(try have hy166_0:=fun (n_ : Nat) => (show ((((w32.drewN n_).setCell ⟨gb165,0,none⟩ (.int .i64 ((rd_T25 l0_3 x3_2).f0))).setCell ⟨gb165,1,none⟩ (.slice (some ad166) ((rd_T25 l0_3 x3_2).f1).length c164_1))).cell? _ = some _ from hx166_0));(try have hy166_1:=fun (n_ : Nat) => (show ((((w32.drewN n_).setCell ⟨gb165,0,none⟩ (.int .i64 ((rd_T25 l0_3 x3_2).f0))).setCell ⟨gb165,1,none⟩ (.slice (some ad166) ((rd_T25 l0_3 x3_2).f1).length c164_1))).cell? _ = some _ from hx166_1));(try have hy166_2:=fun (n_ : Nat) => (show ((((w32.drewN n_).setCell ⟨gb165,0,none⟩ (.int .i64 ((rd_T25 l0_3 x3_2).f0))).setCell ⟨gb165,1,none⟩ (.slice (some ad166) ((rd_T25 l0_3 x3_2).f1).length c164_1))).cell? _ = some _ from hx166_2));(try have hy166_3:=fun (n_ : Nat) => (show ((((w32.drewN n_).setCell ⟨gb165,0,none⟩ (.int .i64 ((rd_T25 l0_3 x3_2).f0))).setCell ⟨gb165,1,none⟩ (.slice (some ad166) ((rd_T25 l0_3 x3_2).f1).length c164_1))).cell? _ = some _ from hx166_3));clear hn166_0;clear hn166_1;replace p166:=eq_true p166;replace q166:=eq_true q166)))
         go_roundg k2
         case measure => have:=HJ1.out;have:=HK2.out;omega
         case rel => exact ⟨(wrap64 (x3_2 + 1)),(by first|rfl|(simp;done)|(simp [*];done)),H',⟨by have:=HJ1.out;have:=HK2.out;omega⟩,⟨by (with_reducible repeat (first|refine blk_drewN ?_ _|refine blk_drew ?_|refine blk_alloc ?_ _));refine blk_far ?_ NB159_165.out _;(with_reducible repeat (first|refine blk_drewN ?_ _|refine blk_drew ?_|refine blk_alloc ?_ _));refine blk_far ?_ NB159_165.out _;(with_reducible repeat (first|refine blk_drewN ?_ _|refine blk_drew ?_|refine blk_alloc ?_ _));exact BK159.out⟩,⟨by repeat (first|(with_reducible first|exact HB.out|apply bA|apply bN|apply bD|refine below_set ?_ GE159.out|refine below_set ?_ GE165.out)|exact HB.out)⟩⟩
       ·rw [if_neg c21] at H
        have c21b0 : (((rd_T25 l0_3 x3_2).f0) == a0_0) = false:=beq_eq_false_iff_ne.mpr c21
        have c21b1 : (((rd_T25 l0_3 x3_2).f0) != a0_0) = true:=bne_iff_ne.mpr c21
        have H':=aM H
        clear H
        have hcz36_0 : wr.cell? ⟨gb159,0,none⟩ = some (.int .i64 a0_0):=(blk_cell BK159.out 0).trans rfl
        have hcz36_1 : wr.cell? ⟨gb159,1,none⟩ = some (.int .i64 a0_1):=(blk_cell BK159.out 1).trans rfl
        have hcz36_2 : wr.cell? ⟨gb159,2,none⟩ = some (.int .i64 a0_2):=(blk_cell BK159.out 2).trans rfl
        have hcz36_3 : wr.cell? ⟨gb159,3,none⟩ = some (.slice A0_3 l0_3.length c0_3):=(blk_cell BK159.out 3).trans rfl
        have hfz36_0:=blk_frozen BK159.out 0
        have hfz36_1:=blk_frozen BK159.out 1
        have hfz36_2:=blk_frozen BK159.out 2
        have hfz36_3:=blk_frozen BK159.out 3
        have p164 : 0 ≤ (x3_2 : Int):=of_decide_eq_true (by first|(with_reducible assumption)|assumption)
        have q164 : x3_2 < (l0_3.length : Int):=of_decide_eq_true (by first|(with_reducible assumption)|assumption)
        obtain ⟨ad164,A164_1,c164_1,e164,hx164_0,hx164_1,hl164_1,hi164_1⟩:=at_T25 HR0_3.out x3_2 p164 q164
        cases e164
        replace hx164_0:=(HB.out.cell (bL w hx164_0)).trans hx164_0
        replace hx164_1:=(HB.out.cell (bL w hx164_1)).trans hx164_1
        have HR164_1:=aM hi164_1
        have HC164_1:=aM hl164_1
        clear hi164_1 hl164_1
        replace p164:=eq_true p164
        replace q164:=eq_true q164
        go_wp2_with (first|((with_reducible refine gate_dst (N:=4) rfl ?_);(try (refine gate_guard (by rfl) ?_;dsimp only));refine box_event ?hg (N:=4) ?hd (cs:=#[.int .i64 0,.slice none 0 0]) (t:=25) ?hr ?_;(case hd => rfl);(case hg => rfl);(case hr => first|(go_simp;done)|(go_simp;rfl));intro gb165 hg w37 hbox hb;have n0_:=aM (blk_below (g:=gb159) (o:=.cells #[.int .i64 a0_0,.int .i64 a0_1,.int .i64 a0_2,.slice (some ad164) l0_3.length c0_3] 39 (0,0)) (by (with_reducible repeat (first|refine blk_drewN ?_ _|refine blk_drew ?_|refine blk_alloc ?_ _));exact BK159.out) hb);have n1_:=aM (below_step (by repeat (first|(with_reducible first|exact HB.out|apply bA|apply bN|apply bD|refine below_set ?_ GE159.out)|exact HB.out)) hb);have n2_:=aM (hbox);have n3_:=aM ((by rw [hg];exact (below_size (by repeat (first|(with_reducible first|exact HB.out|apply bA|apply bN|apply bD|refine below_set ?_ GE159.out)|exact HB.out))) : w.heap.size ≤ gb165));have n4_:=aM ((by rw [hg];exact (below_size (by repeat (first|(with_reducible first|exact HB.out|apply bA|apply bN|apply bD|refine below_set ?_ GE159.out)|exact HB.out))) : w.heap.size ≤ gb165));have n5_:=aM ((by rw [hg];exact Nat.ne_of_lt (blk_lt (g:=gb159) (o:=.cells #[.int .i64 a0_0,.int .i64 a0_1,.int .i64 a0_2,.slice (some ad164) l0_3.length c0_3] 39 (0,0)) (by (with_reducible repeat (first|refine blk_drewN ?_ _|refine blk_drew ?_|refine blk_alloc ?_ _));exact BK159.out)) : gb159 ≠ gb165));have n6_:=aM ((by rw [hg];exact Nat.ne_of_gt (blk_lt (g:=gb159) (o:=.cells #[.int .i64 a0_0,.int .i64 a0_1,.int .i64 a0_2,.slice (some ad164) l0_3.length c0_3] 39 (0,0)) (by (with_reducible repeat (first|refine blk_drewN ?_ _|refine blk_drew ?_|refine blk_alloc ?_ _));exact BK159.out)) : gb165 ≠ gb159));clear BK159;clear HB;have BK159:=n0_;have HB:=n1_;have BK165:=n2_;have GW165:=n3_;have GE165:=n4_;have NB159_165:=n5_;have NB165_159:=n6_;clear n0_ n1_ n2_ n3_ n4_ n5_ n6_;clear hb hbox hg;have hnb38:=NB165_159.out;have hnc38:=NB159_165.out;have hcz39_0 : w37.cell? ⟨gb165,0,none⟩ = some (.int .i64 0):=(blk_cell BK165.out 0).trans rfl;have hcz39_1 : w37.cell? ⟨gb165,1,none⟩ = some (.slice none 0 0):=(blk_cell BK165.out 1).trans rfl;have hfz39_0:=blk_frozen BK165.out 0;have hfz39_1:=blk_frozen BK165.out 1;have hcz40_0 : w37.cell? ⟨gb159,0,none⟩ = some (.int .i64 a0_0):=(blk_cell BK159.out 0).trans rfl;have hcz40_1 : w37.cell? ⟨gb159,1,none⟩ = some (.int .i64 a0_1):=(blk_cell BK159.out 1).trans rfl;have hcz40_2 : w37.cell? ⟨gb159,2,none⟩ = some (.int .i64 a0_2):=(blk_cell BK159.out 2).trans rfl;have hcz40_3 : w37.cell? ⟨gb159,3,none⟩ = some (.slice (some ad164) l0_3.length c0_3):=(blk_cell BK159.out 3).trans rfl;have hfz40_0:=blk_frozen BK159.out 0;have hfz40_1:=blk_frozen BK159.out 1;have hfz40_2:=blk_frozen BK159.out 2;have hfz40_3:=blk_frozen BK159.out 3))
        repeat (go_quiet (first|((with_reducible refine gate_dst (N:=4) rfl ?_);(try (refine gate_guard (by rfl) ?_;dsimp only));refine box_event ?hg (N:=4) ?hd (cs:=#[.int .i64 0,.slice none 0 0]) (t:=25) ?hr ?_;(case hd => rfl);(case hg => rfl);(case hr => first|(go_simp;done)|(go_simp;rfl));intro gb165 hg w37 hbox hb;have n0_:=aM (blk_below (g:=gb159) (o:=.cells #[.int .i64 a0_0,.int .i64 a0_1,.int .i64 a0_2,.slice (some ad164) l0_3.length c0_3] 39 (0,0)) (by (with_reducible repeat (first|refine blk_drewN ?_ _|refine blk_drew ?_|refine blk_alloc ?_ _));exact BK159.out) hb);have n1_:=aM (below_step (by repeat (first|(with_reducible first|exact HB.out|apply bA|apply bN|apply bD|refine below_set ?_ GE159.out)|exact HB.out)) hb);have n2_:=aM (hbox);have n3_:=aM ((by rw [hg];exact (below_size (by repeat (first|(with_reducible first|exact HB.out|apply bA|apply bN|apply bD|refine below_set ?_ GE159.out)|exact HB.out))) : w.heap.size ≤ gb165));have n4_:=aM ((by rw [hg];exact (below_size (by repeat (first|(with_reducible first|exact HB.out|apply bA|apply bN|apply bD|refine below_set ?_ GE159.out)|exact HB.out))) : w.heap.size ≤ gb165));have n5_:=aM ((by rw [hg];exact Nat.ne_of_lt (blk_lt (g:=gb159) (o:=.cells #[.int .i64 a0_0,.int .i64 a0_1,.int .i64 a0_2,.slice (some ad164) l0_3.length c0_3] 39 (0,0)) (by (with_reducible repeat (first|refine blk_drewN ?_ _|refine blk_drew ?_|refine blk_alloc ?_ _));exact BK159.out)) : gb159 ≠ gb165));have n6_:=aM ((by rw [hg];exact Nat.ne_of_gt (blk_lt (g:=gb159) (o:=.cells #[.int .i64 a0_0,.int .i64 a0_1,.int .i64 a0_2,.slice (some ad164) l0_3.length c0_3] 39 (0,0)) (by (with_reducible repeat (first|refine blk_drewN ?_ _|refine blk_drew ?_|refine blk_alloc ?_ _));exact BK159.out)) : gb165 ≠ gb159));clear BK159;clear HB;have BK159:=n0_;have HB:=n1_;have BK165:=n2_;have GW165:=n3_;have GE165:=n4_;have NB159_165:=n5_;have NB165_159:=n6_;clear n0_ n1_ n2_ n3_ n4_ n5_ n6_;clear hb hbox hg;have hnb38:=NB165_159.out;have hnc38:=NB159_165.out;have hcz39_0 : w37.cell? ⟨gb165,0,none⟩ = some (.int .i64 0):=(blk_cell BK165.out 0).trans rfl;have hcz39_1 : w37.cell? ⟨gb165,1,none⟩ = some (.slice none 0 0):=(blk_cell BK165.out 1).trans rfl;have hfz39_0:=blk_frozen BK165.out 0;have hfz39_1:=blk_frozen BK165.out 1;have hcz40_0 : w37.cell? ⟨gb159,0,none⟩ = some (.int .i64 a0_0):=(blk_cell BK159.out 0).trans rfl;have hcz40_1 : w37.cell? ⟨gb159,1,none⟩ = some (.int .i64 a0_1):=(blk_cell BK159.out 1).trans rfl;have hcz40_2 : w37.cell? ⟨gb159,2,none⟩ = some (.int .i64 a0_2):=(blk_cell BK159.out 2).trans rfl;have hcz40_3 : w37.cell? ⟨gb159,3,none⟩ = some (.slice (some ad164) l0_3.length c0_3):=(blk_cell BK159.out 3).trans rfl;have hfz40_0:=blk_frozen BK159.out 0;have hfz40_1:=blk_frozen BK159.out 1;have hfz40_2:=blk_frozen BK159.out 2;have hfz40_3:=blk_frozen BK159.out 3));try go_wp2_with (first|((with_reducible refine gate_dst (N:=4) rfl ?_);(try (refine gate_guard (by rfl) ?_;dsimp only));refine box_event ?hg (N:=4) ?hd (cs:=#[.int .i64 0,.slice none 0 0]) (t:=25) ?hr ?_;(case hd => rfl);(case hg => rfl);(case hr => first|(go_simp;done)|(go_simp;rfl));intro gb165 hg w37 hbox hb;have n0_:=aM (blk_below (g:=gb159) (o:=.cells #[.int .i64 a0_0,.int .i64 a0_1,.int .i64 a0_2,.slice (some ad164) l0_3.length c0_3] 39 (0,0)) (by (with_reducible repeat (first|refine blk_drewN ?_ _|refine blk_drew ?_|refine blk_alloc ?_ _));exact BK159.out) hb);have n1_:=aM (below_step (by repeat (first|(with_reducible first|exact HB.out|apply bA|apply bN|apply bD|refine below_set ?_ GE159.out)|exact HB.out)) hb);have n2_:=aM (hbox);have n3_:=aM ((by rw [hg];exact (below_size (by repeat (first|(with_reducible first|exact HB.out|apply bA|apply bN|apply bD|refine below_set ?_ GE159.out)|exact HB.out))) : w.heap.size ≤ gb165));have n4_:=aM ((by rw [hg];exact (below_size (by repeat (first|(with_reducible first|exact HB.out|apply bA|apply bN|apply bD|refine below_set ?_ GE159.out)|exact HB.out))) : w.heap.size ≤ gb165));have n5_:=aM ((by rw [hg];exact Nat.ne_of_lt (blk_lt (g:=gb159) (o:=.cells #[.int .i64 a0_0,.int .i64 a0_1,.int .i64 a0_2,.slice (some ad164) l0_3.length c0_3] 39 (0,0)) (by (with_reducible repeat (first|refine blk_drewN ?_ _|refine blk_drew ?_|refine blk_alloc ?_ _));exact BK159.out)) : gb159 ≠ gb165));have n6_:=aM ((by rw [hg];exact Nat.ne_of_gt (blk_lt (g:=gb159) (o:=.cells #[.int .i64 a0_0,.int .i64 a0_1,.int .i64 a0_2,.slice (some ad164) l0_3.length c0_3] 39 (0,0)) (by (with_reducible repeat (first|refine blk_drewN ?_ _|refine blk_drew ?_|refine blk_alloc ?_ _));exact BK159.out)) : gb165 ≠ gb159));clear BK159;clear HB;have BK159:=n0_;have HB:=n1_;have BK165:=n2_;have GW165:=n3_;have GE165:=n4_;have NB159_165:=n5_;have NB165_159:=n6_;clear n0_ n1_ n2_ n3_ n4_ n5_ n6_;clear hb hbox hg;have hnb38:=NB165_159.out;have hnc38:=NB159_165.out;have hcz39_0 : w37.cell? ⟨gb165,0,none⟩ = some (.int .i64 0):=(blk_cell BK165.out 0).trans rfl;have hcz39_1 : w37.cell? ⟨gb165,1,none⟩ = some (.slice none 0 0):=(blk_cell BK165.out 1).trans rfl;have hfz39_0:=blk_frozen BK165.out 0;have hfz39_1:=blk_frozen BK165.out 1;have hcz40_0 : w37.cell? ⟨gb159,0,none⟩ = some (.int .i64 a0_0):=(blk_cell BK159.out 0).trans rfl;have hcz40_1 : w37.cell? ⟨gb159,1,none⟩ = some (.int .i64 a0_1):=(blk_cell BK159.out 1).trans rfl;have hcz40_2 : w37.cell? ⟨gb159,2,none⟩ = some (.int .i64 a0_2):=(blk_cell BK159.out 2).trans rfl;have hcz40_3 : w37.cell? ⟨gb159,3,none⟩ = some (.slice (some ad164) l0_3.length c0_3):=(blk_cell BK159.out 3).trans rfl;have hfz40_0:=blk_frozen BK159.out 0;have hfz40_1:=blk_frozen BK159.out 1;have hfz40_2:=blk_frozen BK159.out 2;have hfz40_3:=blk_frozen BK159.out 3)))
        go_roundg k2
        case measure => have:=HJ1.out;have:=HK2.out;omega
        case rel => exact ⟨(wrap64 (x3_2 + 1)),(by first|rfl|(simp;done)|(simp [*];done)),H',⟨by have:=HJ1.out;have:=HK2.out;omega⟩,⟨by (with_reducible repeat (first|refine blk_drewN ?_ _|refine blk_drew ?_|refine blk_alloc ?_ _));refine blk_far ?_ NB159_165.out _;(with_reducible repeat (first|refine blk_drewN ?_ _|refine blk_drew ?_|refine blk_alloc ?_ _));refine blk_far ?_ NB159_165.out _;(with_reducible repeat (first|refine blk_drewN ?_ _|refine blk_drew ?_|refine blk_alloc ?_ _));exact BK159.out⟩,⟨by repeat (first|(with_reducible first|exact HB.out|apply bA|apply bN|apply bD|refine below_set ?_ GE159.out|refine below_set ?_ GE165.out)|exact HB.out)⟩⟩
      ·rw [if_neg c19] at H
       have c19b0 : decide (x3_2 < (l0_3.length : Int)) = false:=decide_eq_false c19
       clear c19
       obtain rfl:=Option.some.inj H
       have hcz41_0 : wr.cell? ⟨gb159,0,none⟩ = some (.int .i64 a0_0):=(blk_cell BK159.out 0).trans rfl
       have hcz41_1 : wr.cell? ⟨gb159,1,none⟩ = some (.int .i64 a0_1):=(blk_cell BK159.out 1).trans rfl
       have hcz41_2 : wr.cell? ⟨gb159,2,none⟩ = some (.int .i64 a0_2):=(blk_cell BK159.out 2).trans rfl
       have hcz41_3 : wr.cell? ⟨gb159,3,none⟩ = some (.slice A0_3 l0_3.length c0_3):=(blk_cell BK159.out 3).trans rfl
       have hfz41_0:=blk_frozen BK159.out 0
       have hfz41_1:=blk_frozen BK159.out 1
       have hfz41_2:=blk_frozen BK159.out 2
       have hfz41_3:=blk_frozen BK159.out 3
       go_wp2
       repeat (go_quiet (fail);try go_wp2)
       go_ret
       exact ⟨by first|rfl|(simp only [i64_w,i32_w];done)|(simp only [i64_w,i32_w];rfl)|(simp [errW_none,errW_some] <;> rfl)|(simp [*,errW_none,errW_some] <;> rfl),by repeat (first|(with_reducible first|exact HB.out|apply bA|apply bN|apply bD|refine below_set ?_ GE159.out)|exact HB.out)⟩

/-! ### laws_toPay: function 67 -/
def laws_toPay.f (a0_0 : Int) (a0_1 : Int) (a0_2 : Int) : Option (Int × Int × Int):=some (a0_0,a0_1,a0_2)
set_option maxHeartbeats 8000000 in
set_option maxRecDepth 100000 in
theorem laws_toPay.calls (a0_0 : Int) (a0_1 : Int) (a0_2 : Int) (r1 : Int) (r2 : Int) (r3 : Int) (w : World) (h : laws_toPay.f a0_0 a0_1 a0_2 = some (r1,r2,r3)) :
  Calls Try.prog 67 #[.agg #[.int .i64 a0_0,.int .i64 a0_1,.int .i64 a0_2]] w fun e w' => e = .returned (.agg #[.int .i64 r1,.int .i64 r2,.int .i64 r3]) ∧ Below w.heap.size w w':=by
 have hu84:=Try.underlying84
 have hu63:=Try.underlying63
 have HB:=aM (Below.refl w.heap.size w)
 have H : (some (a0_0,a0_1,a0_2)) = some (r1,r2,r3):=h
 clear h
 simp only [Option.some.injEq,Prod.mk.injEq] at H
 obtain ⟨rfl,rfl,rfl⟩:=H
 go_enter Try.func67,Try.ntmps67
 go_wp2_with (first|((with_reducible refine gate_dst (N:=1) rfl ?_);refine box_event ?hg (N:=1) ?hd (cs:=#[.int .i64 a0_0,.int .i64 a0_1,.int .i64 a0_2]) (t:=84) ?hr ?_;(case hd => rfl);(case hg => rfl);(case hr => first|(go_simp;done)|(go_simp;rfl));intro gb167 hg w2 hbox hb;have n0_:=aM (below_step (by repeat (first|(with_reducible first|exact HB.out|apply bA|apply bN|apply bD)|exact HB.out)) hb);have n1_:=aM (hbox);have n2_:=aM ((by rw [hg];exact (below_size (by repeat (first|(with_reducible first|exact HB.out|apply bA|apply bN|apply bD)|exact HB.out))) : w.heap.size ≤ gb167));have n3_:=aM ((by rw [hg];exact (below_size (by repeat (first|(with_reducible first|exact HB.out|apply bA|apply bN|apply bD)|exact HB.out))) : w.heap.size ≤ gb167));clear HB;have HB:=n0_;have BK167:=n1_;have GW167:=n2_;have GE167:=n3_;clear n0_ n1_ n2_ n3_;clear hb hbox hg)|((with_reducible refine gate_dst (N:=2) rfl ?_);refine box_event ?hg (N:=2) ?hd (cs:=#[.int .i64 0,.int .i64 0,.int .i64 0]) (t:=63) ?hr ?_;(case hd => rfl);(case hg => rfl);(case hr => first|(go_simp;done)|(go_simp;rfl));intro gb168 hg w3 hbox hb;have n0_:=aM (blk_below (g:=gb167) (o:=.cells #[.int .i64 a0_0,.int .i64 a0_1,.int .i64 a0_2] 84 (0,0)) (by (with_reducible repeat (first|refine blk_drewN ?_ _|refine blk_drew ?_|refine blk_alloc ?_ _));exact BK167.out) hb);have n1_:=aM (below_step (by repeat (first|(with_reducible first|exact HB.out|apply bA|apply bN|apply bD|refine below_set ?_ GE167.out)|exact HB.out)) hb);have n2_:=aM (hbox);have n3_:=aM ((by rw [hg];exact (below_size (by repeat (first|(with_reducible first|exact HB.out|apply bA|apply bN|apply bD|refine below_set ?_ GE167.out)|exact HB.out))) : w.heap.size ≤ gb168));have n4_:=aM ((by rw [hg];exact (below_size (by repeat (first|(with_reducible first|exact HB.out|apply bA|apply bN|apply bD|refine below_set ?_ GE167.out)|exact HB.out))) : w.heap.size ≤ gb168));have n5_:=aM ((by rw [hg];exact Nat.ne_of_lt (blk_lt (g:=gb167) (o:=.cells #[.int .i64 a0_0,.int .i64 a0_1,.int .i64 a0_2] 84 (0,0)) (by (with_reducible repeat (first|refine blk_drewN ?_ _|refine blk_drew ?_|refine blk_alloc ?_ _));exact BK167.out)) : gb167 ≠ gb168));have n6_:=aM ((by rw [hg];exact Nat.ne_of_gt (blk_lt (g:=gb167) (o:=.cells #[.int .i64 a0_0,.int .i64 a0_1,.int .i64 a0_2] 84 (0,0)) (by (with_reducible repeat (first|refine blk_drewN ?_ _|refine blk_drew ?_|refine blk_alloc ?_ _));exact BK167.out)) : gb168 ≠ gb167));clear BK167;clear HB;have BK167:=n0_;have HB:=n1_;have BK168:=n2_;have GW168:=n3_;have GE168:=n4_;have NB167_168:=n5_;have NB168_167:=n6_;clear n0_ n1_ n2_ n3_ n4_ n5_ n6_;clear hb hbox hg)|((with_reducible refine gate_dst (N:=3) rfl ?_);refine box_event ?hg (N:=3) ?hd (cs:=#[.int .i64 0,.int .i64 0,.int .i64 0]) (t:=63) ?hr ?_;(case hd => rfl);(case hg => rfl);(case hr => first|(go_simp;done)|(go_simp;rfl));intro gb169 hg w4 hbox hb;have n0_:=aM (blk_below (g:=gb167) (o:=.cells #[.int .i64 a0_0,.int .i64 a0_1,.int .i64 a0_2] 84 (0,0)) (by (with_reducible repeat (first|refine blk_drewN ?_ _|refine blk_drew ?_|refine blk_alloc ?_ _));exact BK167.out) hb);have n1_:=aM (blk_below (g:=gb168) (o:=.cells #[.int .i64 0,.int .i64 0,.int .i64 0] 63 (0,0)) (by (with_reducible repeat (first|refine blk_drewN ?_ _|refine blk_drew ?_|refine blk_alloc ?_ _));exact BK168.out) hb);have n2_:=aM (below_step (by repeat (first|(with_reducible first|exact HB.out|apply bA|apply bN|apply bD|refine below_set ?_ GE167.out|refine below_set ?_ GE168.out)|exact HB.out)) hb);have n3_:=aM (hbox);have n4_:=aM ((by rw [hg];exact (below_size (by repeat (first|(with_reducible first|exact HB.out|apply bA|apply bN|apply bD|refine below_set ?_ GE167.out|refine below_set ?_ GE168.out)|exact HB.out))) : w.heap.size ≤ gb169));have n5_:=aM ((by rw [hg];exact (below_size (by repeat (first|(with_reducible first|exact HB.out|apply bA|apply bN|apply bD|refine below_set ?_ GE167.out|refine below_set ?_ GE168.out)|exact HB.out))) : w.heap.size ≤ gb169));have n6_:=aM ((by rw [hg];exact Nat.ne_of_lt (blk_lt (g:=gb167) (o:=.cells #[.int .i64 a0_0,.int .i64 a0_1,.int .i64 a0_2] 84 (0,0)) (by (with_reducible repeat (first|refine blk_drewN ?_ _|refine blk_drew ?_|refine blk_alloc ?_ _));exact BK167.out)) : gb167 ≠ gb169));have n7_:=aM ((by rw [hg];exact Nat.ne_of_gt (blk_lt (g:=gb167) (o:=.cells #[.int .i64 a0_0,.int .i64 a0_1,.int .i64 a0_2] 84 (0,0)) (by (with_reducible repeat (first|refine blk_drewN ?_ _|refine blk_drew ?_|refine blk_alloc ?_ _));exact BK167.out)) : gb169 ≠ gb167));have n8_:=aM ((by rw [hg];exact Nat.ne_of_lt (blk_lt (g:=gb168) (o:=.cells #[.int .i64 0,.int .i64 0,.int .i64 0] 63 (0,0)) (by (with_reducible repeat (first|refine blk_drewN ?_ _|refine blk_drew ?_|refine blk_alloc ?_ _));exact BK168.out)) : gb168 ≠ gb169));have n9_:=aM ((by rw [hg];exact Nat.ne_of_gt (blk_lt (g:=gb168) (o:=.cells #[.int .i64 0,.int .i64 0,.int .i64 0] 63 (0,0)) (by (with_reducible repeat (first|refine blk_drewN ?_ _|refine blk_drew ?_|refine blk_alloc ?_ _));exact BK168.out)) : gb169 ≠ gb168));clear BK167;clear BK168;clear HB;have BK167:=n0_;have BK168:=n1_;have HB:=n2_;have BK169:=n3_;have GW169:=n4_;have GE169:=n5_;have NB167_169:=n6_;have NB169_167:=n7_;have NB168_169:=n8_;have NB169_168:=n9_;clear n0_ n1_ n2_ n3_ n4_ n5_ n6_ n7_ n8_ n9_;clear hb hbox hg;have hnb5:=NB167_168.out;have hnc5:=NB168_167.out;have hnb6:=NB167_169.out;have hnc6:=NB169_167.out;have hcz7_0 : w4.cell? ⟨gb167,0,none⟩ = some (.int .i64 a0_0):=(blk_cell BK167.out 0).trans rfl;have hcz7_1 : w4.cell? ⟨gb167,1,none⟩ = some (.int .i64 a0_1):=(blk_cell BK167.out 1).trans rfl;have hcz7_2 : w4.cell? ⟨gb167,2,none⟩ = some (.int .i64 a0_2):=(blk_cell BK167.out 2).trans rfl;have hfz7_0:=blk_frozen BK167.out 0;have hfz7_1:=blk_frozen BK167.out 1;have hfz7_2:=blk_frozen BK167.out 2;have hnb8:=NB169_168.out;have hnc8:=NB168_169.out;have hcz9_0 : w4.cell? ⟨gb169,0,none⟩ = some (.int .i64 0):=(blk_cell BK169.out 0).trans rfl;have hcz9_1 : w4.cell? ⟨gb169,1,none⟩ = some (.int .i64 0):=(blk_cell BK169.out 1).trans rfl;have hcz9_2 : w4.cell? ⟨gb169,2,none⟩ = some (.int .i64 0):=(blk_cell BK169.out 2).trans rfl;have hfz9_0:=blk_frozen BK169.out 0;have hfz9_1:=blk_frozen BK169.out 1;have hfz9_2:=blk_frozen BK169.out 2;have hcz10_0 : w4.cell? ⟨gb168,0,none⟩ = some (.int .i64 0):=(blk_cell BK168.out 0).trans rfl;have hcz10_1 : w4.cell? ⟨gb168,1,none⟩ = some (.int .i64 0):=(blk_cell BK168.out 1).trans rfl;have hcz10_2 : w4.cell? ⟨gb168,2,none⟩ = some (.int .i64 0):=(blk_cell BK168.out 2).trans rfl;have hfz10_0:=blk_frozen BK168.out 0;have hfz10_1:=blk_frozen BK168.out 1;have hfz10_2:=blk_frozen BK168.out 2))
 refine bodyPost_ret (results_cell_row rfl _ _ gb168 63 #[.int .i64 a0_0,.int .i64 a0_1,.int .i64 a0_2] (0,0) _ rfl (by (with_reducible repeat (first|refine blk_drewN ?_ _|refine blk_drew ?_|refine blk_alloc ?_ _));refine blk_put (cs:=#[.int .i64 a0_0,.int .i64 a0_1,.int .i64 0]) ?_ 2 _ rfl;(with_reducible repeat (first|refine blk_drewN ?_ _|refine blk_drew ?_|refine blk_alloc ?_ _));refine blk_put (cs:=#[.int .i64 a0_0,.int .i64 0,.int .i64 0]) ?_ 1 _ rfl;(with_reducible repeat (first|refine blk_drewN ?_ _|refine blk_drew ?_|refine blk_alloc ?_ _));refine blk_put (cs:=#[.int .i64 0,.int .i64 0,.int .i64 0]) ?_ 0 _ rfl;(with_reducible repeat (first|refine blk_drewN ?_ _|refine blk_drew ?_|refine blk_alloc ?_ _));refine blk_far ?_ NB168_169.out _;(with_reducible repeat (first|refine blk_drewN ?_ _|refine blk_drew ?_|refine blk_alloc ?_ _));refine blk_far ?_ NB168_169.out _;(with_reducible repeat (first|refine blk_drewN ?_ _|refine blk_drew ?_|refine blk_alloc ?_ _));refine blk_far ?_ NB168_169.out _;(with_reducible repeat (first|refine blk_drewN ?_ _|refine blk_drew ?_|refine blk_alloc ?_ _));exact BK168.out) Try.underlying63 rfl (by kernel_rfl)) rfl ?_
 exact ⟨by first|rfl|(simp only [i64_w,i32_w];done)|(simp only [i64_w,i32_w];rfl)|(simp [errW_none,errW_some] <;> rfl)|(simp [*,errW_none,errW_some] <;> rfl),by repeat (first|(with_reducible first|exact HB.out|apply bA|apply bN|apply bD|refine below_set ?_ GE167.out|refine below_set ?_ GE168.out|refine below_set ?_ GE169.out)|exact HB.out)⟩

/-! ### laws_toItem: function 55 -/
def laws_toItem.f (a0_0 : Int) (a0_1 : Int) (a0_2 : Int) (a0_3 : Int) : Option (Int × Int × Int × Int):=(laws_toPay.f a0_1 a0_2 a0_3).bind fun bt173 => (some (a0_0,bt173.1,bt173.2.1,bt173.2.2))
set_option maxHeartbeats 8000000 in
set_option maxRecDepth 100000 in
theorem laws_toItem.calls (a0_0 : Int) (a0_1 : Int) (a0_2 : Int) (a0_3 : Int) (r1 : Int) (r2 : Int) (r3 : Int) (r4 : Int) (w : World) (h : laws_toItem.f a0_0 a0_1 a0_2 a0_3 = some (r1,r2,r3,r4)) :
  Calls Try.prog 55 #[.agg #[.int .i64 a0_0,.int .i64 a0_1,.int .i64 a0_2,.int .i64 a0_3]] w fun e w' => e = .returned (.agg #[.int .i64 r1,.int .i64 r2,.int .i64 r3,.int .i64 r4]) ∧ Below w.heap.size w w':=by
 have hu86:=Try.underlying86
 have hu65:=Try.underlying65
 have hu84:=Try.underlying84
 have hu63:=Try.underlying63
 have HB:=aM (Below.refl w.heap.size w)
 have H : ((laws_toPay.f a0_1 a0_2 a0_3).bind fun bt173 => (some (a0_0,bt173.1,bt173.2.1,bt173.2.2))) = some (r1,r2,r3,r4):=h
 clear h
 replace H:=Option.bind_eq_some_iff.mp H
 obtain ⟨⟨t173,t174,t175⟩,A20,H⟩:=H
 replace H : (some (a0_0,t173,t174,t175)) = some (r1,r2,r3,r4):=H
 have A2:=aM A20
 clear A20
 simp only [Option.some.injEq,Prod.mk.injEq] at H
 obtain ⟨rfl,rfl,rfl,rfl⟩:=H
 go_enter Try.func55,Try.ntmps55
 go_wp2_with (first|((with_reducible refine gate_dst (N:=1) rfl ?_);refine box_event ?hg (N:=1) ?hd (cs:=#[.int .i64 a0_0,.int .i64 a0_1,.int .i64 a0_2,.int .i64 a0_3]) (t:=86) ?hr ?_;(case hd => rfl);(case hg => rfl);(case hr => first|(go_simp;done)|(go_simp;rfl));intro gb170 hg w3 hbox hb;have n0_:=aM (below_step (by repeat (first|(with_reducible first|exact HB.out|apply bA|apply bN|apply bD)|exact HB.out)) hb);have n1_:=aM (hbox);have n2_:=aM ((by rw [hg];exact (below_size (by repeat (first|(with_reducible first|exact HB.out|apply bA|apply bN|apply bD)|exact HB.out))) : w.heap.size ≤ gb170));have n3_:=aM ((by rw [hg];exact (below_size (by repeat (first|(with_reducible first|exact HB.out|apply bA|apply bN|apply bD)|exact HB.out))) : w.heap.size ≤ gb170));clear HB;have HB:=n0_;have BK170:=n1_;have GW170:=n2_;have GE170:=n3_;clear n0_ n1_ n2_ n3_;clear hb hbox hg)|((with_reducible refine gate_dst (N:=2) rfl ?_);refine box_event ?hg (N:=2) ?hd (cs:=#[.int .i64 0,.int .i64 0,.int .i64 0,.int .i64 0]) (t:=65) ?hr ?_;(case hd => rfl);(case hg => rfl);(case hr => first|(go_simp;done)|(go_simp;rfl));intro gb171 hg w4 hbox hb;have n0_:=aM (blk_below (g:=gb170) (o:=.cells #[.int .i64 a0_0,.int .i64 a0_1,.int .i64 a0_2,.int .i64 a0_3] 86 (0,0)) (by (with_reducible repeat (first|refine blk_drewN ?_ _|refine blk_drew ?_|refine blk_alloc ?_ _));exact BK170.out) hb);have n1_:=aM (below_step (by repeat (first|(with_reducible first|exact HB.out|apply bA|apply bN|apply bD|refine below_set ?_ GE170.out)|exact HB.out)) hb);have n2_:=aM (hbox);have n3_:=aM ((by rw [hg];exact (below_size (by repeat (first|(with_reducible first|exact HB.out|apply bA|apply bN|apply bD|refine below_set ?_ GE170.out)|exact HB.out))) : w.heap.size ≤ gb171));have n4_:=aM ((by rw [hg];exact (below_size (by repeat (first|(with_reducible first|exact HB.out|apply bA|apply bN|apply bD|refine below_set ?_ GE170.out)|exact HB.out))) : w.heap.size ≤ gb171));have n5_:=aM ((by rw [hg];exact Nat.ne_of_lt (blk_lt (g:=gb170) (o:=.cells #[.int .i64 a0_0,.int .i64 a0_1,.int .i64 a0_2,.int .i64 a0_3] 86 (0,0)) (by (with_reducible repeat (first|refine blk_drewN ?_ _|refine blk_drew ?_|refine blk_alloc ?_ _));exact BK170.out)) : gb170 ≠ gb171));have n6_:=aM ((by rw [hg];exact Nat.ne_of_gt (blk_lt (g:=gb170) (o:=.cells #[.int .i64 a0_0,.int .i64 a0_1,.int .i64 a0_2,.int .i64 a0_3] 86 (0,0)) (by (with_reducible repeat (first|refine blk_drewN ?_ _|refine blk_drew ?_|refine blk_alloc ?_ _));exact BK170.out)) : gb171 ≠ gb170));clear BK170;clear HB;have BK170:=n0_;have HB:=n1_;have BK171:=n2_;have GW171:=n3_;have GE171:=n4_;have NB170_171:=n5_;have NB171_170:=n6_;clear n0_ n1_ n2_ n3_ n4_ n5_ n6_;clear hb hbox hg)|((with_reducible refine gate_dst (N:=3) rfl ?_);refine box_event ?hg (N:=3) ?hd (cs:=#[.int .i64 0,.int .i64 0,.int .i64 0,.int .i64 0]) (t:=65) ?hr ?_;(case hd => rfl);(case hg => rfl);(case hr => first|(go_simp;done)|(go_simp;rfl));intro gb172 hg w5 hbox hb;have n0_:=aM (blk_below (g:=gb170) (o:=.cells #[.int .i64 a0_0,.int .i64 a0_1,.int .i64 a0_2,.int .i64 a0_3] 86 (0,0)) (by (with_reducible repeat (first|refine blk_drewN ?_ _|refine blk_drew ?_|refine blk_alloc ?_ _));exact BK170.out) hb);have n1_:=aM (blk_below (g:=gb171) (o:=.cells #[.int .i64 0,.int .i64 0,.int .i64 0,.int .i64 0] 65 (0,0)) (by (with_reducible repeat (first|refine blk_drewN ?_ _|refine blk_drew ?_|refine blk_alloc ?_ _));exact BK171.out) hb);have n2_:=aM (below_step (by repeat (first|(with_reducible first|exact HB.out|apply bA|apply bN|apply bD|refine below_set ?_ GE170.out|refine below_set ?_ GE171.out)|exact HB.out)) hb);have n3_:=aM (hbox);have n4_:=aM ((by rw [hg];exact (below_size (by repeat (first|(with_reducible first|exact HB.out|apply bA|apply bN|apply bD|refine below_set ?_ GE170.out|refine below_set ?_ GE171.out)|exact HB.out))) : w.heap.size ≤ gb172));have n5_:=aM ((by rw [hg];exact (below_size (by repeat (first|(with_reducible first|exact HB.out|apply bA|apply bN|apply bD|refine below_set ?_ GE170.out|refine below_set ?_ GE171.out)|exact HB.out))) : w.heap.size ≤ gb172));have n6_:=aM ((by rw [hg];exact Nat.ne_of_lt (blk_lt (g:=gb170) (o:=.cells #[.int .i64 a0_0,.int .i64 a0_1,.int .i64 a0_2,.int .i64 a0_3] 86 (0,0)) (by (with_reducible repeat (first|refine blk_drewN ?_ _|refine blk_drew ?_|refine blk_alloc ?_ _));exact BK170.out)) : gb170 ≠ gb172));have n7_:=aM ((by rw [hg];exact Nat.ne_of_gt (blk_lt (g:=gb170) (o:=.cells #[.int .i64 a0_0,.int .i64 a0_1,.int .i64 a0_2,.int .i64 a0_3] 86 (0,0)) (by (with_reducible repeat (first|refine blk_drewN ?_ _|refine blk_drew ?_|refine blk_alloc ?_ _));exact BK170.out)) : gb172 ≠ gb170));have n8_:=aM ((by rw [hg];exact Nat.ne_of_lt (blk_lt (g:=gb171) (o:=.cells #[.int .i64 0,.int .i64 0,.int .i64 0,.int .i64 0] 65 (0,0)) (by (with_reducible repeat (first|refine blk_drewN ?_ _|refine blk_drew ?_|refine blk_alloc ?_ _));exact BK171.out)) : gb171 ≠ gb172));have n9_:=aM ((by rw [hg];exact Nat.ne_of_gt (blk_lt (g:=gb171) (o:=.cells #[.int .i64 0,.int .i64 0,.int .i64 0,.int .i64 0] 65 (0,0)) (by (with_reducible repeat (first|refine blk_drewN ?_ _|refine blk_drew ?_|refine blk_alloc ?_ _));exact BK171.out)) : gb172 ≠ gb171));clear BK170;clear BK171;clear HB;have BK170:=n0_;have BK171:=n1_;have HB:=n2_;have BK172:=n3_;have GW172:=n4_;have GE172:=n5_;have NB170_172:=n6_;have NB172_170:=n7_;have NB171_172:=n8_;have NB172_171:=n9_;clear n0_ n1_ n2_ n3_ n4_ n5_ n6_ n7_ n8_ n9_;clear hb hbox hg;have hnb6:=NB170_171.out;have hnc6:=NB171_170.out;have hnb7:=NB170_172.out;have hnc7:=NB172_170.out;have hcz8_0 : w5.cell? ⟨gb170,0,none⟩ = some (.int .i64 a0_0):=(blk_cell BK170.out 0).trans rfl;have hcz8_1 : w5.cell? ⟨gb170,1,none⟩ = some (.int .i64 a0_1):=(blk_cell BK170.out 1).trans rfl;have hcz8_2 : w5.cell? ⟨gb170,2,none⟩ = some (.int .i64 a0_2):=(blk_cell BK170.out 2).trans rfl;have hcz8_3 : w5.cell? ⟨gb170,3,none⟩ = some (.int .i64 a0_3):=(blk_cell BK170.out 3).trans rfl;have hfz8_0:=blk_frozen BK170.out 0;have hfz8_1:=blk_frozen BK170.out 1;have hfz8_2:=blk_frozen BK170.out 2;have hfz8_3:=blk_frozen BK170.out 3;have hnb9:=NB172_171.out;have hnc9:=NB171_172.out;have hcz10_0 : w5.cell? ⟨gb172,0,none⟩ = some (.int .i64 0):=(blk_cell BK172.out 0).trans rfl;have hcz10_1 : w5.cell? ⟨gb172,1,none⟩ = some (.int .i64 0):=(blk_cell BK172.out 1).trans rfl;have hcz10_2 : w5.cell? ⟨gb172,2,none⟩ = some (.int .i64 0):=(blk_cell BK172.out 2).trans rfl;have hcz10_3 : w5.cell? ⟨gb172,3,none⟩ = some (.int .i64 0):=(blk_cell BK172.out 3).trans rfl;have hfz10_0:=blk_frozen BK172.out 0;have hfz10_1:=blk_frozen BK172.out 1;have hfz10_2:=blk_frozen BK172.out 2;have hfz10_3:=blk_frozen BK172.out 3)|((with_reducible refine gate_callee (f:=67) rfl ?_);refine goesL_ (some 9) rfl rfl Try.func67 (by kernel_rfl) rfl #[.agg #[.int .i64 a0_1,.int .i64 a0_2,.int .i64 a0_3]] rfl (by (try simp only [List.map_toArray,List.map_cons,List.map_nil]);first|done|rfl|(simp only [List.length_drop,List.length_take];rfl)) ?_;(with_reducible refine (laws_toPay.calls a0_1 a0_2 a0_3 t173 t174 t175 _ A2.out).mono ?_);rintro e w11 ⟨rfl,hb⟩;refine ⟨_,rfl,?_⟩;have n0_:=aM (blk_below (g:=gb170) (o:=.cells #[.int .i64 a0_0,.int .i64 a0_1,.int .i64 a0_2,.int .i64 a0_3] 86 (0,0)) (by (with_reducible repeat (first|refine blk_drewN ?_ _|refine blk_drew ?_|refine blk_alloc ?_ _));refine blk_far ?_ NB170_172.out _;(with_reducible repeat (first|refine blk_drewN ?_ _|refine blk_drew ?_|refine blk_alloc ?_ _));exact BK170.out) hb);have n1_:=aM (blk_below (g:=gb171) (o:=.cells #[.int .i64 0,.int .i64 0,.int .i64 0,.int .i64 0] 65 (0,0)) (by (with_reducible repeat (first|refine blk_drewN ?_ _|refine blk_drew ?_|refine blk_alloc ?_ _));refine blk_far ?_ NB171_172.out _;(with_reducible repeat (first|refine blk_drewN ?_ _|refine blk_drew ?_|refine blk_alloc ?_ _));exact BK171.out) hb);have n2_:=aM (blk_below (g:=gb172) (o:=.cells #[.int .i64 a0_0,.int .i64 0,.int .i64 0,.int .i64 0] 65 (0,0)) (by (with_reducible repeat (first|refine blk_drewN ?_ _|refine blk_drew ?_|refine blk_alloc ?_ _));refine blk_put (cs:=#[.int .i64 0,.int .i64 0,.int .i64 0,.int .i64 0]) ?_ 0 _ rfl;(with_reducible repeat (first|refine blk_drewN ?_ _|refine blk_drew ?_|refine blk_alloc ?_ _));exact BK172.out) hb);have n3_:=aM (below_step (by repeat (first|(with_reducible first|exact HB.out|apply bA|apply bN|apply bD|refine below_set ?_ GE170.out|refine below_set ?_ GE171.out|refine below_set ?_ GE172.out)|exact HB.out)) hb);clear BK170;clear BK171;clear BK172;clear HB;have BK170:=n0_;have BK171:=n1_;have BK172:=n2_;have HB:=n3_;clear n0_ n1_ n2_ n3_;(try clear hb);(try clear hb2);(try clear hk);(try clear hi);have hcz12_0 : w11.cell? ⟨gb172,0,none⟩ = some (.int .i64 a0_0):=(blk_cell BK172.out 0).trans rfl;have hcz12_1 : w11.cell? ⟨gb172,1,none⟩ = some (.int .i64 0):=(blk_cell BK172.out 1).trans rfl;have hcz12_2 : w11.cell? ⟨gb172,2,none⟩ = some (.int .i64 0):=(blk_cell BK172.out 2).trans rfl;have hcz12_3 : w11.cell? ⟨gb172,3,none⟩ = some (.int .i64 0):=(blk_cell BK172.out 3).trans rfl;have hfz12_0:=blk_frozen BK172.out 0;have hfz12_1:=blk_frozen BK172.out 1;have hfz12_2:=blk_frozen BK172.out 2;have hfz12_3:=blk_frozen BK172.out 3;have hcz13_0 : w11.cell? ⟨gb171,0,none⟩ = some (.int .i64 0):=(blk_cell BK171.out 0).trans rfl;have hcz13_1 : w11.cell? ⟨gb171,1,none⟩ = some (.int .i64 0):=(blk_cell BK171.out 1).trans rfl;have hcz13_2 : w11.cell? ⟨gb171,2,none⟩ = some (.int .i64 0):=(blk_cell BK171.out 2).trans rfl;have hcz13_3 : w11.cell? ⟨gb171,3,none⟩ = some (.int .i64 0):=(blk_cell BK171.out 3).trans rfl;have hfz13_0:=blk_frozen BK171.out 0;have hfz13_1:=blk_frozen BK171.out 1;have hfz13_2:=blk_frozen BK171.out 2;have hfz13_3:=blk_frozen BK171.out 3))
 refine bodyPost_ret (results_cell_row rfl _ _ gb171 65 #[.int .i64 a0_0,.int .i64 t173,.int .i64 t174,.int .i64 t175] (0,0) _ rfl (by (with_reducible repeat (first|refine blk_drewN ?_ _|refine blk_drew ?_|refine blk_alloc ?_ _));refine blk_put (cs:=#[.int .i64 a0_0,.int .i64 t173,.int .i64 t174,.int .i64 0]) ?_ 3 _ rfl;(with_reducible repeat (first|refine blk_drewN ?_ _|refine blk_drew ?_|refine blk_alloc ?_ _));refine blk_put (cs:=#[.int .i64 a0_0,.int .i64 t173,.int .i64 0,.int .i64 0]) ?_ 2 _ rfl;(with_reducible repeat (first|refine blk_drewN ?_ _|refine blk_drew ?_|refine blk_alloc ?_ _));refine blk_put (cs:=#[.int .i64 a0_0,.int .i64 0,.int .i64 0,.int .i64 0]) ?_ 1 _ rfl;(with_reducible repeat (first|refine blk_drewN ?_ _|refine blk_drew ?_|refine blk_alloc ?_ _));refine blk_put (cs:=#[.int .i64 0,.int .i64 0,.int .i64 0,.int .i64 0]) ?_ 0 _ rfl;(with_reducible repeat (first|refine blk_drewN ?_ _|refine blk_drew ?_|refine blk_alloc ?_ _));refine blk_far ?_ NB171_172.out _;(with_reducible repeat (first|refine blk_drewN ?_ _|refine blk_drew ?_|refine blk_alloc ?_ _));refine blk_far ?_ NB171_172.out _;(with_reducible repeat (first|refine blk_drewN ?_ _|refine blk_drew ?_|refine blk_alloc ?_ _));refine blk_far ?_ NB171_172.out _;(with_reducible repeat (first|refine blk_drewN ?_ _|refine blk_drew ?_|refine blk_alloc ?_ _));exact BK171.out) Try.underlying65 rfl (by kernel_rfl)) rfl ?_
 exact ⟨by first|rfl|(simp only [i64_w,i32_w];done)|(simp only [i64_w,i32_w];rfl)|(simp [errW_none,errW_some] <;> rfl)|(simp [*,errW_none,errW_some] <;> rfl),by repeat (first|(with_reducible first|exact HB.out|apply bA|apply bN|apply bD|refine below_set ?_ GE170.out|refine below_set ?_ GE171.out|refine below_set ?_ GE172.out)|exact HB.out)⟩

/-! ### laws_toItemS: function 39 -/
def laws_toItemS.l0 : Nat → List (S86) → List (S65) → Int → Option ((List (S65)))
 | 0,_,_,_ => none
 | k + 1,x0,x3,x4 => if x4 < (x0.length : Int) then (if 0 ≤ x4 then ((laws_toItem.f ((rd_T86 x0 x4).f0) ((rd_T86 x0 x4).f1.f0) ((rd_T86 x0 x4).f1.f1) ((rd_T86 x0 x4).f1.f2)).bind fun bt180 => (if x4 < (x3.length : Int) then (laws_toItemS.l0 k x0 (x3.set (x4 : Int).toNat (⟨bt180.1,(⟨bt180.2.1,bt180.2.2.1,bt180.2.2.2⟩ : S63)⟩ : S65)) (wrap64 (x4 + 1))) else (none))) else (none)) else (some x3)
def laws_toItemS.f (k : Nat) (l0 : List (S86)) : Option ((List (S65))):=if 0 ≤ (l0.length : Int) then (if ((l0.length : Int) : Int).toNat ≤ 8796093022208 then (laws_toItemS.l0 k l0 (List.replicate ((l0.length : Int) : Int).toNat z65) 0) else (none)) else (none)
theorem laws_toItemS.mono_l : ∀ k,(∀ y0 y1 y2,LeO (laws_toItemS.l0 k y0 y1 y2) (laws_toItemS.l0 (k + 1) y0 y1 y2))
 | 0 => fun _ _ _ r h => by simp [laws_toItemS.l0] at h
 | k + 1 => by
  have ih0:=laws_toItemS.mono_l k
  ·intro y0 y1 y2
   unfold laws_toItemS.l0
   repeat' first
   | exact LeO.refl _
   | exact ih0 _ _ _
   | exact LeO.none _
   | refine LeO.ite ?_ ?_
   | refine LeO.bind ?_ (fun _ => ?_)
theorem laws_toItemS.mono : ∀ a0 k,LeO (laws_toItemS.f k a0) (laws_toItemS.f (k + 1) a0):=by
 intro a0 k
 have ih0:=laws_toItemS.mono_l k
 unfold laws_toItemS.f
 repeat' first
   | exact LeO.refl _
   | exact ih0 _ _ _
   | exact LeO.none _
   | refine LeO.ite ?_ ?_
   | refine LeO.bind ?_ (fun _ => ?_)
set_option maxHeartbeats 8000000 in
set_option maxRecDepth 100000 in
theorem laws_toItemS.calls (k : Nat) (A0 : Option Addr) (c0 : Nat) (l0 : List (S86)) (r : List (S65)) (w : World) (hr0 : Kd.C k86 w A0 l0.length l0) (hc0 : l0.length ≤ c0) (h : laws_toItemS.f k l0 = some r) :
  Calls Try.prog 39 #[.slice A0 l0.length c0] w fun e w' => ∃ v0_ : Value,e = .returned (v0_) ∧ Kd.R k65 65 w' w.heap.size (fun _ => True) v0_ r ∧ Below w.heap.size w w':=by
 have hu86:=Try.underlying86
 have hu65:=Try.underlying65
 have HR0:=aM hr0
 have HC0:=aM hc0
 clear hr0 hc0
 have HB:=aM (Below.refl w.heap.size w)
 have H : (if 0 ≤ (l0.length : Int) then (if ((l0.length : Int) : Int).toNat ≤ 8796093022208 then (laws_toItemS.l0 k l0 (List.replicate ((l0.length : Int) : Int).toNat z65) 0) else (none)) else (none)) = some r:=h
 clear h
 by_cases c2 : 0 ≤ (l0.length : Int)
 case neg => rw [if_neg c2] at H;exact absurd H (by simp)
 rw [if_pos c2] at H
 have c2b0:=eq_true c2
 have c2b1 : decide (0 ≤ (l0.length : Int)) = true:=decide_eq_true c2
 clear c2
 by_cases c3 : ((l0.length : Int) : Int).toNat ≤ 8796093022208
 case neg => rw [if_neg c3] at H;exact absurd H (by simp)
 rw [if_pos c3] at H
 have c3b0:=eq_true c3
 have c3b1 : decide (((l0.length : Int) : Int).toNat ≤ 8796093022208) = true:=decide_eq_true c3
 clear c3
 obtain ⟨y176,hy176⟩ : ∃ y_ : List (S65),y_ = (List.replicate ((l0.length : Int) : Int).toNat z65):=⟨_,rfl⟩
 replace H : (laws_toItemS.l0 k l0 y176 0) = some r:=by first|(rw [hy176];with_reducible exact H)|(have H2_:=(Option.bind_some _ _).symm.trans H;rw [hy176];with_reducible exact H2_)|(have H2_:=(Option.bind_some _ _).symm.trans H;with_reducible exact H2_)|with_reducible exact H|(rw [hy176];exact H)|exact H
 have Ny176:=aM hy176
 clear hy176
 have H':=aM H
 clear H
 go_enter Try.func39,Try.ntmps39
 go_wp2_with (first|((with_reducible refine gate_dst (N:=7) rfl ?_);refine Kd.R_make k65 _ 65 rfl (N:=7) rfl 23 _ _ rfl (l0.length : Int) rfl rfl Try.underlying23 (.agg #[(.int .i64 0),(.int .i64 0),(.int .i64 0),(.int .i64 0)]) 32 info65 rfl (by decide) (by omega) z65 (ok:=fun _ => True) (okp:=fun _ => True) (k65_mkM _ _ _ z65 ) (fun _ hk => hk) trivial (of_decide_eq_true (by first|(with_reducible assumption)|assumption)) (Nat.le_trans (Nat.mul_le_mul_right _ (of_decide_eq_true (by first|(with_reducible assumption)|assumption) : (l0.length : Int).toNat ≤ 8796093022208)) (by omega)) (Below.refl _ _) (Nat.le_refl _) ?_;intro v177 w4 ho5 hb hg_ hnew_;clear hg_ hnew_;(first|rw [← Ny176.out] at ho5|(simp only [Int.reduceToNat] at ho5;rw [← Ny176.out] at ho5));have n0_:=aM (Kd.R_lower ho5 (below_size (by repeat (first|(with_reducible first|exact HB.out|apply bA|apply bN|apply bD)|exact HB.out))));have n1_:=aM (below_step (by repeat (first|(with_reducible first|exact HB.out|apply bA|apply bN|apply bD)|exact HB.out)) hb);clear HB;have HO178:=n0_;have HB:=n1_;clear n0_ n1_;clear hb ho5))
 go_loopg [4] k (fun kq v4 w' => ∃ (x3_1 : List (S65)) (x4_1 : Int),v4 = .int .i64 x4_1 ∧ Aside0 (laws_toItemS.l0 kq l0 x3_1 x4_1 = some r) ∧ Aside0 (kq ≤ k) ∧ Aside0 (Kd.R k65 65 w' w.heap.size (fun _ => True) v177 x3_1) ∧ Aside0 (Below w.heap.size w w'))
 case atStart => exact ⟨(y176),(0),(by first|rfl|(simp;done)|(simp [*];done)),H',⟨Nat.le_refl _⟩,⟨by (with_reducible repeat (first|apply Kd.R_alloc|apply Kd.R_drewN|apply Kd.R_drew));exact HO178.out⟩,⟨by repeat (first|(with_reducible first|exact HB.out|apply bA|apply bN|apply bD)|exact HB.out)⟩⟩
 case round =>
  clear H'
  try clear c2
  try clear c2b0
  try clear c2b1
  try clear p2
  try clear c3
  try clear c3b0
  try clear c3b1
  obtain ⟨x3_1,x4_1,rfl,HA,HK1,HO_3,HB⟩:=hrel
  cases gk with
  | zero => exact absurd HA.out (by simp [laws_toItemS.l0])
  | succ k1 =>
   have H:=HA.out
   clear HA
   simp only [laws_toItemS.l0] at H
   by_cases c6 : x4_1 < (l0.length : Int)
   ·rw [if_pos c6] at H
    have c6b0 : decide (x4_1 < (l0.length : Int)) = true:=decide_eq_true c6
    clear c6
    by_cases c7 : 0 ≤ x4_1
    case neg => rw [if_neg c7] at H;exact absurd H (by simp)
    rw [if_pos c7] at H
    have c7b0 : decide (0 ≤ x4_1) = true:=decide_eq_true c7
    clear c7
    replace H:=Option.bind_eq_some_iff.mp H
    obtain ⟨⟨t180,t181,t182,t183⟩,A80,H⟩:=H
    replace H : (if x4_1 < (x3_1.length : Int) then (laws_toItemS.l0 k1 l0 (x3_1.set (x4_1 : Int).toNat (⟨t180,(⟨t181,t182,t183⟩ : S63)⟩ : S65)) (wrap64 (x4_1 + 1))) else (none)) = some r:=H
    have A8:=aM A80
    clear A80
    by_cases c9 : x4_1 < (x3_1.length : Int)
    case neg => rw [if_neg c9] at H;exact absurd H (by simp)
    rw [if_pos c9] at H
    have c9b0 : decide (x4_1 < (x3_1.length : Int)) = true:=decide_eq_true c9
    clear c9
    obtain ⟨y184,hy184⟩ : ∃ y_ : List (S65),y_ = (x3_1.set (x4_1 : Int).toNat (⟨t180,(⟨t181,t182,t183⟩ : S63)⟩ : S65)):=⟨_,rfl⟩
    replace H : (laws_toItemS.l0 k1 l0 y184 (wrap64 (x4_1 + 1))) = some r:=by first|(rw [hy184];with_reducible exact H)|(have H2_:=(Option.bind_some _ _).symm.trans H;rw [hy184];with_reducible exact H2_)|(have H2_:=(Option.bind_some _ _).symm.trans H;with_reducible exact H2_)|with_reducible exact H|(rw [hy184];exact H)|exact H
    have Ny184:=aM hy184
    clear hy184
    have H':=aM H
    clear H
    have p179 : 0 ≤ (x4_1 : Int):=of_decide_eq_true (by first|(with_reducible assumption)|assumption)
    have q179 : x4_1 < (l0.length : Int):=of_decide_eq_true (by first|(with_reducible assumption)|assumption)
    obtain ⟨ad179,e179,hx179_0,hx179_1,hx179_2,hx179_3⟩:=at_T86 HR0.out x4_1 p179 q179
    cases e179
    replace hx179_0:=(HB.out.cell (bL w hx179_0)).trans hx179_0
    replace hx179_1:=(HB.out.cell (bL w hx179_1)).trans hx179_1
    replace hx179_2:=(HB.out.cell (bL w hx179_2)).trans hx179_2
    replace hx179_3:=(HB.out.cell (bL w hx179_3)).trans hx179_3
    replace p179:=eq_true p179
    replace q179:=eq_true q179
    go_wp2_with (first|((with_reducible refine gate_callee (f:=55) rfl ?_);refine goesL_ (some 20) rfl rfl Try.func55 (by kernel_rfl) rfl #[.agg #[.int .i64 ((rd_T86 l0 x4_1).f0),.int .i64 ((rd_T86 l0 x4_1).f1.f0),.int .i64 ((rd_T86 l0 x4_1).f1.f1),.int .i64 ((rd_T86 l0 x4_1).f1.f2)]] rfl (by (try simp only [List.map_toArray,List.map_cons,List.map_nil]);first|done|rfl|(simp only [List.length_drop,List.length_take];rfl)) ?_;(with_reducible refine (laws_toItem.calls ((rd_T86 l0 x4_1).f0) ((rd_T86 l0 x4_1).f1.f0) ((rd_T86 l0 x4_1).f1.f1) ((rd_T86 l0 x4_1).f1.f2) t180 t181 t182 t183 _ A8.out).mono ?_);rintro e w11 ⟨rfl,hb⟩;refine ⟨_,rfl,?_⟩;have n0_:=aM (Kd.R_below (by (with_reducible repeat (first|apply Kd.R_alloc|apply Kd.R_drewN|apply Kd.R_drew));exact HO_3.out) hb);have n1_:=aM (below_step (by repeat (first|(with_reducible first|exact HB.out|apply bA|apply bN|apply bD)|exact HB.out)) hb);clear HO_3;clear HB;have HO_3:=n0_;have HB:=n1_;clear n0_ n1_;(try clear hb);(try clear hb2);(try clear hk);(try clear hi);have p10 : 0 ≤ (x4_1 : Int):=of_decide_eq_true (by first|(with_reducible assumption)|assumption);have q10 : (x4_1 : Int) < ((x3_1.length : Int) : Int):=of_decide_eq_true (by first|(with_reducible assumption)|assumption);obtain ⟨go10,co10,eo10,gb10,gl10,cl10,HG10⟩:=Kd.R_form HO_3.out (by omega);(first|cases eo10|(injection eo10 with ea_ en_ ec_;(first|subst ea_|(injection ea_ with ea_;subst ea_));subst ec_;clear en_));have GB10:=aM gb10;have GG10:=aM HG10;clear gb10 gl10 HG10;obtain ⟨ce10,hcl10,hM10,hcc10,hfr10⟩:=Kd.R_elem HO_3.out z65 (x4_1 : Int) p10 q10;obtain rfl:=k65_openM hM10;have hx10_0 : w11.cell? ⟨go10,(x4_1 : Int).toNat * 4,none⟩ = some (.int .i64 ((rd_T65 x3_1 x4_1).f0)):=hcc10 0 _ rfl;have hx10_1 : w11.cell? ⟨go10,(x4_1 : Int).toNat * 4 + 1,none⟩ = some (.int .i64 ((rd_T65 x3_1 x4_1).f1.f0)):=hcc10 1 _ rfl;have hx10_2 : w11.cell? ⟨go10,(x4_1 : Int).toNat * 4 + 2,none⟩ = some (.int .i64 ((rd_T65 x3_1 x4_1).f1.f1)):=hcc10 2 _ rfl;have hx10_3 : w11.cell? ⟨go10,(x4_1 : Int).toNat * 4 + 3,none⟩ = some (.int .i64 ((rd_T65 x3_1 x4_1).f1.f2)):=hcc10 3 _ rfl;have hf10_0 : w11.frozen? ⟨go10,(x4_1 : Int).toNat * 4,none⟩ = false:=hfr10 0;have hf10_1 : w11.frozen? ⟨go10,(x4_1 : Int).toNat * 4 + 1,none⟩ = false:=hfr10 1;have hf10_2 : w11.frozen? ⟨go10,(x4_1 : Int).toNat * 4 + 2,none⟩ = false:=hfr10 2;have hf10_3 : w11.frozen? ⟨go10,(x4_1 : Int).toNat * 4 + 3,none⟩ = false:=hfr10 3;clear hcl10 hcc10 hfr10 hM10;replace p10:=eq_true p10;replace q10:=eq_true q10;have HX12:=aM (show Kd.R k65 65 w11 w.heap.size (fun _ => True) (.slice (some ⟨go10,0,none⟩) x3_1.length co10) x3_1 from (by (with_reducible repeat (first|apply Kd.R_alloc|apply Kd.R_drewN|apply Kd.R_drew));exact HO_3.out));obtain ⟨ce12,hcl12,hM12,hcc12,hfr12⟩:=Kd.R_elem HX12.out z65 (x4_1 : Int) (of_decide_eq_true (by first|(with_reducible assumption)|assumption)) (by have h_ : (x4_1 : Int) < ((x3_1.length : Int) : Int):=of_decide_eq_true (by first|(with_reducible assumption)|assumption);first|exact h_|(have e_:=(Kd.R_reads' HO_3.out).1;omega)|simpa using h_);obtain rfl:=k65_openM hM12;have HP12:=Kd.R_seg HX12.out (x4_1 : Int) (of_decide_eq_true (by first|(with_reducible assumption)|assumption)) (by have h_ : (x4_1 : Int) < ((x3_1.length : Int) : Int):=of_decide_eq_true (by first|(with_reducible assumption)|assumption);first|exact h_|(have e_:=(Kd.R_reads' HO_3.out).1;omega)|simpa using h_) (seg:=[.int .i64 t180,.int .i64 t181,.int .i64 t182,.int .i64 t183]) (j:=0) hcl12 hcc12 (show 4 ≤ 4 from by decide) (x':=(⟨t180,(⟨t181,t182,t183⟩ : S63)⟩ : S65)) (k65_mkM _ _ _ (⟨t180,(⟨t181,t182,t183⟩ : S63)⟩ : S65) ) (fun _ hk => hk);have hx12_0:=hcc12 0 _ rfl;(try simp only [show (k65).sz = 4 from rfl,Nat.mul_one,Nat.add_zero] at hx12_0);have hf12_0:=hfr12 0;(try simp only [show (k65).sz = 4 from rfl,Nat.mul_one,Nat.add_zero] at hf12_0);have hx12_1:=hcc12 1 _ rfl;(try simp only [show (k65).sz = 4 from rfl,Nat.mul_one,Nat.add_zero] at hx12_1);have hf12_1:=hfr12 1;(try simp only [show (k65).sz = 4 from rfl,Nat.mul_one,Nat.add_zero] at hf12_1);have hx12_2:=hcc12 2 _ rfl;(try simp only [show (k65).sz = 4 from rfl,Nat.mul_one,Nat.add_zero] at hx12_2);have hf12_2:=hfr12 2;(try simp only [show (k65).sz = 4 from rfl,Nat.mul_one,Nat.add_zero] at hf12_2);have hx12_3:=hcc12 3 _ rfl;(try simp only [show (k65).sz = 4 from rfl,Nat.mul_one,Nat.add_zero] at hx12_3);have hf12_3:=hfr12 3;(try simp only [show (k65).sz = 4 from rfl,Nat.mul_one,Nat.add_zero] at hf12_3);clear hcl12 hcc12 hfr12 hM12)|((with_reducible refine gate_store (t:=65) (p:=21) rfl ?_);refine store_event (t:=65) (p:=21) (v:=?vo_w13) (w1:=((((w11.setCell ⟨go10,(x4_1 : Int).toNat * 4,none⟩ (.int .i64 t180)).setCell ⟨go10,(x4_1 : Int).toNat * 4 + 1,none⟩ (.int .i64 t181)).setCell ⟨go10,(x4_1 : Int).toNat * 4 + 2,none⟩ (.int .i64 t182)).setCell ⟨go10,(x4_1 : Int).toNat * 4 + 3,none⟩ (.int .i64 t183))) ?hg ?ho ?hn ?hr ?_;(case ho => rfl);(case hg => rfl);(case hn => rfl);(case hr => first|(go_simp;done)|(go_simp;rfl));intro w13 hw;have hg : w11.grownBy w13 (some go10):=(by rw [hw];exact HP12.2);have hp_ : Kd.R k65 65 w13 w.heap.size (fun _ => True) (.slice (some ⟨go10,0,none⟩) x3_1.length co10) y184:=(by rw [hw,Ny184.out];exact HP12.1);clear HP12;have n0_:=aM (hp_);have n1_:=aM ((by rw [hw];exact below_set (below_set (below_set (below_set (HB.out) GB10.out) GB10.out) GB10.out) GB10.out : Below w.heap.size w w13));clear HO_3;clear HB;have HO_3:=n0_;have HB:=n1_;clear n0_ n1_;clear hg hw hp_))
    go_roundg k1
    case measure => have:=HK1.out;omega
    case rel => exact ⟨(y184),(wrap64 (x4_1 + 1)),(by first|rfl|(simp;done)|(simp [*];done)),H',⟨by have:=HK1.out;omega⟩,⟨by (with_reducible repeat (first|apply Kd.R_alloc|apply Kd.R_drewN|apply Kd.R_drew));exact HO_3.out⟩,⟨by repeat (first|(with_reducible first|exact HB.out|apply bA|apply bN|apply bD)|exact HB.out)⟩⟩
   ·rw [if_neg c6] at H
    have c6b0 : decide (x4_1 < (l0.length : Int)) = false:=decide_eq_false c6
    clear c6
    obtain rfl:=Option.some.inj H
    go_wp2
    go_ret
    exact ⟨_,by first|rfl|(simp only [i64_w,i32_w];done)|(simp only [i64_w,i32_w];rfl)|(simp [errW_none,errW_some] <;> rfl)|(simp [*,errW_none,errW_some] <;> rfl),by (with_reducible repeat (first|apply Kd.R_alloc|apply Kd.R_drewN|apply Kd.R_drew));exact HO_3.out,by repeat (first|(with_reducible first|exact HB.out|apply bA|apply bN|apply bD)|exact HB.out)⟩

/-! ### laws_toVote: function 14 -/
def laws_toVote.f (k : Nat) (a0_0 : Int) (l0_1 : List (S86)) : Option (Int × (List (S65))):=(laws_toItemS.f k l0_1).bind fun t188 => (some (a0_0,t188))
theorem laws_toVote.mono : ∀ a0 a1 k,LeO (laws_toVote.f k a0 a1) (laws_toVote.f (k + 1) a0 a1):=by
 intro a0 a1 k
 unfold laws_toVote.f
 repeat' first
   | exact LeO.refl _
   | exact laws_toItemS.mono _ _
   | exact LeO.none _
   | refine LeO.ite ?_ ?_
   | refine LeO.bind ?_ (fun _ => ?_)
set_option maxHeartbeats 8000000 in
set_option maxRecDepth 100000 in
theorem laws_toVote.calls (k : Nat) (a0_0 : Int) (A0_1 : Option Addr) (c0_1 : Nat) (l0_1 : List (S86)) (r1 : Int) (r2 : List (S65)) (w : World) (hr0_1 : Kd.C k86 w A0_1 l0_1.length l0_1) (hc0_1 : l0_1.length ≤ c0_1) (h : laws_toVote.f k a0_0 l0_1 = some (r1,r2)) :
  Calls Try.prog 14 #[.agg #[.int .i64 a0_0,.slice A0_1 l0_1.length c0_1]] w fun e w' => ∃ v1_ : Value,e = .returned (.agg #[.int .i64 r1,v1_]) ∧ Kd.R k65 65 w' w.heap.size (fun _ => True) v1_ r2 ∧ Below w.heap.size w w':=by
 have hu32:=Try.underlying32
 have hu25:=Try.underlying25
 have HR0_1:=aM hr0_1
 have HC0_1:=aM hc0_1
 clear hr0_1 hc0_1
 have HB:=aM (Below.refl w.heap.size w)
 have H : ((laws_toItemS.f k l0_1).bind fun t188 => (some (a0_0,t188))) = some (r1,r2):=h
 clear h
 replace H:=Option.bind_eq_some_iff.mp H
 obtain ⟨t188,A20,H⟩:=H
 replace H : (some (a0_0,t188)) = some (r1,r2):=H
 have A2:=aM A20
 clear A20
 simp only [Option.some.injEq,Prod.mk.injEq] at H
 obtain ⟨rfl,rfl⟩:=H
 go_enter Try.func14,Try.ntmps14
 go_wp2_with (first|((with_reducible refine gate_dst (N:=1) rfl ?_);refine box_event ?hg (N:=1) ?hd (cs:=#[.int .i64 a0_0,.slice A0_1 l0_1.length c0_1]) (t:=32) ?hr ?_;(case hd => rfl);(case hg => rfl);(case hr => first|(go_simp;done)|(go_simp;rfl));intro gb185 hg w3 hbox hb;have n0_:=aM (below_step (by repeat (first|(with_reducible first|exact HB.out|apply bA|apply bN|apply bD)|exact HB.out)) hb);have n1_:=aM (hbox);have n2_:=aM ((by rw [hg];exact (below_size (by repeat (first|(with_reducible first|exact HB.out|apply bA|apply bN|apply bD)|exact HB.out))) : w.heap.size ≤ gb185));have n3_:=aM ((by rw [hg];exact (below_size (by repeat (first|(with_reducible first|exact HB.out|apply bA|apply bN|apply bD)|exact HB.out))) : w.heap.size ≤ gb185));clear HB;have HB:=n0_;have BK185:=n1_;have GW185:=n2_;have GE185:=n3_;clear n0_ n1_ n2_ n3_;clear hb hbox hg)|((with_reducible refine gate_dst (N:=2) rfl ?_);refine box_event ?hg (N:=2) ?hd (cs:=#[.int .i64 0,.slice none 0 0]) (t:=25) ?hr ?_;(case hd => rfl);(case hg => rfl);(case hr => first|(go_simp;done)|(go_simp;rfl));intro gb186 hg w4 hbox hb;have n0_:=aM (blk_below (g:=gb185) (o:=.cells #[.int .i64 a0_0,.slice A0_1 l0_1.length c0_1] 32 (0,0)) (by (with_reducible repeat (first|refine blk_drewN ?_ _|refine blk_drew ?_|refine blk_alloc ?_ _));exact BK185.out) hb);have n1_:=aM (below_step (by repeat (first|(with_reducible first|exact HB.out|apply bA|apply bN|apply bD|refine below_set ?_ GE185.out)|exact HB.out)) hb);have n2_:=aM (hbox);have n3_:=aM ((by rw [hg];exact (below_size (by repeat (first|(with_reducible first|exact HB.out|apply bA|apply bN|apply bD|refine below_set ?_ GE185.out)|exact HB.out))) : w.heap.size ≤ gb186));have n4_:=aM ((by rw [hg];exact (below_size (by repeat (first|(with_reducible first|exact HB.out|apply bA|apply bN|apply bD|refine below_set ?_ GE185.out)|exact HB.out))) : w.heap.size ≤ gb186));have n5_:=aM ((by rw [hg];exact Nat.ne_of_lt (blk_lt (g:=gb185) (o:=.cells #[.int .i64 a0_0,.slice A0_1 l0_1.length c0_1] 32 (0,0)) (by (with_reducible repeat (first|refine blk_drewN ?_ _|refine blk_drew ?_|refine blk_alloc ?_ _));exact BK185.out)) : gb185 ≠ gb186));have n6_:=aM ((by rw [hg];exact Nat.ne_of_gt (blk_lt (g:=gb185) (o:=.cells #[.int .i64 a0_0,.slice A0_1 l0_1.length c0_1] 32 (0,0)) (by (with_reducible repeat (first|refine blk_drewN ?_ _|refine blk_drew ?_|refine blk_alloc ?_ _));exact BK185.out)) : gb186 ≠ gb185));clear BK185;clear HB;have BK185:=n0_;have HB:=n1_;have BK186:=n2_;have GW186:=n3_;have GE186:=n4_;have NB185_186:=n5_;have NB186_185:=n6_;clear n0_ n1_ n2_ n3_ n4_ n5_ n6_;clear hb hbox hg)|((with_reducible refine gate_dst (N:=3) rfl ?_);refine box_event ?hg (N:=3) ?hd (cs:=#[.int .i64 0,.slice none 0 0]) (t:=25) ?hr ?_;(case hd => rfl);(case hg => rfl);(case hr => first|(go_simp;done)|(go_simp;rfl));intro gb187 hg w5 hbox hb;have n0_:=aM (blk_below (g:=gb185) (o:=.cells #[.int .i64 a0_0,.slice A0_1 l0_1.length c0_1] 32 (0,0)) (by (with_reducible repeat (first|refine blk_drewN ?_ _|refine blk_drew ?_|refine blk_alloc ?_ _));exact BK185.out) hb);have n1_:=aM (blk_below (g:=gb186) (o:=.cells #[.int .i64 0,.slice none 0 0] 25 (0,0)) (by (with_reducible repeat (first|refine blk_drewN ?_ _|refine blk_drew ?_|refine blk_alloc ?_ _));exact BK186.out) hb);have n2_:=aM (below_step (by repeat (first|(with_reducible first|exact HB.out|apply bA|apply bN|apply bD|refine below_set ?_ GE185.out|refine below_set ?_ GE186.out)|exact HB.out)) hb);have n3_:=aM (hbox);have n4_:=aM ((by rw [hg];exact (below_size (by repeat (first|(with_reducible first|exact HB.out|apply bA|apply bN|apply bD|refine below_set ?_ GE185.out|refine below_set ?_ GE186.out)|exact HB.out))) : w.heap.size ≤ gb187));have n5_:=aM ((by rw [hg];exact (below_size (by repeat (first|(with_reducible first|exact HB.out|apply bA|apply bN|apply bD|refine below_set ?_ GE185.out|refine below_set ?_ GE186.out)|exact HB.out))) : w.heap.size ≤ gb187));have n6_:=aM ((by rw [hg];exact Nat.ne_of_lt (blk_lt (g:=gb185) (o:=.cells #[.int .i64 a0_0,.slice A0_1 l0_1.length c0_1] 32 (0,0)) (by (with_reducible repeat (first|refine blk_drewN ?_ _|refine blk_drew ?_|refine blk_alloc ?_ _));exact BK185.out)) : gb185 ≠ gb187));have n7_:=aM ((by rw [hg];exact Nat.ne_of_gt (blk_lt (g:=gb185) (o:=.cells #[.int .i64 a0_0,.slice A0_1 l0_1.length c0_1] 32 (0,0)) (by (with_reducible repeat (first|refine blk_drewN ?_ _|refine blk_drew ?_|refine blk_alloc ?_ _));exact BK185.out)) : gb187 ≠ gb185));have n8_:=aM ((by rw [hg];exact Nat.ne_of_lt (blk_lt (g:=gb186) (o:=.cells #[.int .i64 0,.slice none 0 0] 25 (0,0)) (by (with_reducible repeat (first|refine blk_drewN ?_ _|refine blk_drew ?_|refine blk_alloc ?_ _));exact BK186.out)) : gb186 ≠ gb187));have n9_:=aM ((by rw [hg];exact Nat.ne_of_gt (blk_lt (g:=gb186) (o:=.cells #[.int .i64 0,.slice none 0 0] 25 (0,0)) (by (with_reducible repeat (first|refine blk_drewN ?_ _|refine blk_drew ?_|refine blk_alloc ?_ _));exact BK186.out)) : gb187 ≠ gb186));clear BK185;clear BK186;clear HB;have BK185:=n0_;have BK186:=n1_;have HB:=n2_;have BK187:=n3_;have GW187:=n4_;have GE187:=n5_;have NB185_187:=n6_;have NB187_185:=n7_;have NB186_187:=n8_;have NB187_186:=n9_;clear n0_ n1_ n2_ n3_ n4_ n5_ n6_ n7_ n8_ n9_;clear hb hbox hg;have hnb6:=NB185_186.out;have hnc6:=NB186_185.out;have hnb7:=NB185_187.out;have hnc7:=NB187_185.out;have hcz8_0 : w5.cell? ⟨gb185,0,none⟩ = some (.int .i64 a0_0):=(blk_cell BK185.out 0).trans rfl;have hcz8_1 : w5.cell? ⟨gb185,1,none⟩ = some (.slice A0_1 l0_1.length c0_1):=(blk_cell BK185.out 1).trans rfl;have hfz8_0:=blk_frozen BK185.out 0;have hfz8_1:=blk_frozen BK185.out 1;have hnb9:=NB187_186.out;have hnc9:=NB186_187.out;have hcz10_0 : w5.cell? ⟨gb187,0,none⟩ = some (.int .i64 0):=(blk_cell BK187.out 0).trans rfl;have hcz10_1 : w5.cell? ⟨gb187,1,none⟩ = some (.slice none 0 0):=(blk_cell BK187.out 1).trans rfl;have hfz10_0:=blk_frozen BK187.out 0;have hfz10_1:=blk_frozen BK187.out 1)|((with_reducible refine gate_callee (f:=39) rfl ?_);refine goesL_ (some 9) rfl rfl Try.func39 (by kernel_rfl) rfl #[.slice A0_1 l0_1.length c0_1] rfl (by (try simp only [List.map_toArray,List.map_cons,List.map_nil]);first|done|rfl|(simp only [List.length_drop,List.length_take];rfl)) ?_;(with_reducible refine (laws_toItemS.calls k _ _ l0_1 t188 _ ?side1 ?side2 A2.out).mono ?_);(case side1 => exact Kd.C_below HR0_1.out (by repeat (first|(with_reducible first|exact HB.out|apply bA|apply bN|apply bD|refine below_set ?_ GE185.out|refine below_set ?_ GE186.out|refine below_set ?_ GE187.out)|exact HB.out)));(case side2 => exact HC0_1.out);rintro e w11 ⟨v189,rfl,ho0,hb⟩;refine ⟨_,rfl,?_⟩;have n0_:=aM (Kd.R_lower ho0 (below_size (by repeat (first|(with_reducible first|exact HB.out|apply bA|apply bN|apply bD|refine below_set ?_ GE185.out|refine below_set ?_ GE186.out|refine below_set ?_ GE187.out)|exact HB.out))));have n1_:=aM (blk_below (g:=gb185) (o:=.cells #[.int .i64 a0_0,.slice A0_1 l0_1.length c0_1] 32 (0,0)) (by (with_reducible repeat (first|refine blk_drewN ?_ _|refine blk_drew ?_|refine blk_alloc ?_ _));refine blk_far ?_ NB185_187.out _;(with_reducible repeat (first|refine blk_drewN ?_ _|refine blk_drew ?_|refine blk_alloc ?_ _));exact BK185.out) hb);have n2_:=aM (blk_below (g:=gb186) (o:=.cells #[.int .i64 0,.slice none 0 0] 25 (0,0)) (by (with_reducible repeat (first|refine blk_drewN ?_ _|refine blk_drew ?_|refine blk_alloc ?_ _));refine blk_far ?_ NB186_187.out _;(with_reducible repeat (first|refine blk_drewN ?_ _|refine blk_drew ?_|refine blk_alloc ?_ _));exact BK186.out) hb);have n3_:=aM (blk_below (g:=gb187) (o:=.cells #[.int .i64 a0_0,.slice none 0 0] 25 (0,0)) (by (with_reducible repeat (first|refine blk_drewN ?_ _|refine blk_drew ?_|refine blk_alloc ?_ _));refine blk_put (cs:=#[.int .i64 0,.slice none 0 0]) ?_ 0 _ rfl;(with_reducible repeat (first|refine blk_drewN ?_ _|refine blk_drew ?_|refine blk_alloc ?_ _));exact BK187.out) hb);have n4_:=aM (below_step (by repeat (first|(with_reducible first|exact HB.out|apply bA|apply bN|apply bD|refine below_set ?_ GE185.out|refine below_set ?_ GE186.out|refine below_set ?_ GE187.out)|exact HB.out)) hb);clear BK185;clear BK186;clear BK187;clear HB;have HO190:=n0_;have BK185:=n1_;have BK186:=n2_;have BK187:=n3_;have HB:=n4_;clear n0_ n1_ n2_ n3_ n4_;(try clear hb);(try clear hb2);(try clear hk);(try clear hi);(try clear ho0);obtain ⟨Ao12,co12,eo12⟩:=Kd.R_slice HO190.out;subst eo12;have hcz13_0 : w11.cell? ⟨gb187,0,none⟩ = some (.int .i64 a0_0):=(blk_cell BK187.out 0).trans rfl;have hcz13_1 : w11.cell? ⟨gb187,1,none⟩ = some (.slice none 0 0):=(blk_cell BK187.out 1).trans rfl;have hfz13_0:=blk_frozen BK187.out 0;have hfz13_1:=blk_frozen BK187.out 1;have hcz14_0 : w11.cell? ⟨gb186,0,none⟩ = some (.int .i64 0):=(blk_cell BK186.out 0).trans rfl;have hcz14_1 : w11.cell? ⟨gb186,1,none⟩ = some (.slice none 0 0):=(blk_cell BK186.out 1).trans rfl;have hfz14_0:=blk_frozen BK186.out 0;have hfz14_1:=blk_frozen BK186.out 1))
 refine bodyPost_ret (results_cell_row rfl _ _ gb186 25 #[.int .i64 a0_0,.slice Ao12 t188.length co12] (0,0) _ rfl (by (with_reducible repeat (first|refine blk_drewN ?_ _|refine blk_drew ?_|refine blk_alloc ?_ _));refine blk_put (cs:=#[.int .i64 a0_0,.slice none 0 0]) ?_ 1 _ rfl;(with_reducible repeat (first|refine blk_drewN ?_ _|refine blk_drew ?_|refine blk_alloc ?_ _));refine blk_put (cs:=#[.int .i64 0,.slice none 0 0]) ?_ 0 _ rfl;(with_reducible repeat (first|refine blk_drewN ?_ _|refine blk_drew ?_|refine blk_alloc ?_ _));refine blk_far ?_ NB186_187.out _;(with_reducible repeat (first|refine blk_drewN ?_ _|refine blk_drew ?_|refine blk_alloc ?_ _));exact BK186.out) Try.underlying25 rfl (by kernel_rfl)) rfl ?_
 exact ⟨_,by first|rfl|(simp only [i64_w,i32_w];done)|(simp only [i64_w,i32_w];rfl)|(simp [errW_none,errW_some] <;> rfl)|(simp [*,errW_none,errW_some] <;> rfl),by (with_reducible repeat (first|apply Kd.R_alloc|apply Kd.R_drewN|apply Kd.R_drew));exact Kd.R_mono (Kd.R_far (p:=⟨gb186,1,none⟩) (Kd.R_far (p:=⟨gb186,0,none⟩) (Kd.R_far (p:=⟨gb187,1,none⟩) (Kd.R_types (Kd.R_types HO190.out BK187.out (by decide)) BK186.out (by decide)) (fun _ hk => hk.1.2) (.slice Ao12 t188.length co12)) (fun _ hk => hk.2) (.int .i64 a0_0)) (fun _ hk => hk.2) (.slice Ao12 t188.length co12)) (fun _ hk => trivial),by repeat (first|(with_reducible first|exact HB.out|apply bA|apply bN|apply bD|refine below_set ?_ GE185.out|refine below_set ?_ GE186.out|refine below_set ?_ GE187.out)|exact HB.out)⟩

/-! ### laws_toVoteS: function 23 -/
def laws_toVoteS.l0 : Nat → List (S32) → List (S25) → Int → Option ((List (S25)))
 | 0,_,_,_ => none
 | k + 1,x0,x3,x4 => if x4 < (x0.length : Int) then (if 0 ≤ x4 then ((laws_toVote.f k ((rd_T32 x0 x4).f0) ((rd_T32 x0 x4).f1)).bind fun bt195 => (if x4 < (x3.length : Int) then (laws_toVoteS.l0 k x0 (x3.set (x4 : Int).toNat (⟨bt195.1,bt195.2⟩ : S25)) (wrap64 (x4 + 1))) else (none))) else (none)) else (some x3)
def laws_toVoteS.f (k : Nat) (l0 : List (S32)) : Option ((List (S25))):=if 0 ≤ (l0.length : Int) then (if ((l0.length : Int) : Int).toNat ≤ 8796093022208 then (laws_toVoteS.l0 k l0 (List.replicate ((l0.length : Int) : Int).toNat z25) 0) else (none)) else (none)
theorem laws_toVoteS.mono_l : ∀ k,(∀ y0 y1 y2,LeO (laws_toVoteS.l0 k y0 y1 y2) (laws_toVoteS.l0 (k + 1) y0 y1 y2))
 | 0 => fun _ _ _ r h => by simp [laws_toVoteS.l0] at h
 | k + 1 => by
  have ih0:=laws_toVoteS.mono_l k
  ·intro y0 y1 y2
   unfold laws_toVoteS.l0
   repeat' first
   | exact LeO.refl _
   | exact ih0 _ _ _
   | exact laws_toVote.mono _ _ _
   | exact LeO.none _
   | refine LeO.ite ?_ ?_
   | refine LeO.bind ?_ (fun _ => ?_)
theorem laws_toVoteS.mono : ∀ a0 k,LeO (laws_toVoteS.f k a0) (laws_toVoteS.f (k + 1) a0):=by
 intro a0 k
 have ih0:=laws_toVoteS.mono_l k
 unfold laws_toVoteS.f
 repeat' first
   | exact LeO.refl _
   | exact ih0 _ _ _
   | exact laws_toVote.mono _ _ _
   | exact LeO.none _
   | refine LeO.ite ?_ ?_
   | refine LeO.bind ?_ (fun _ => ?_)
set_option maxHeartbeats 8000000 in
set_option maxRecDepth 100000 in
theorem laws_toVoteS.calls (k : Nat) (A0 : Option Addr) (c0 : Nat) (l0 : List (S32)) (r : List (S25)) (w : World) (hr0 : Kd.C k32 w A0 l0.length l0) (hc0 : l0.length ≤ c0) (h : laws_toVoteS.f k l0 = some r) :
  Calls Try.prog 23 #[.slice A0 l0.length c0] w fun e w' => ∃ v0_ : Value,e = .returned (v0_) ∧ Kd.R k25 25 w' w.heap.size (fun _ => True) v0_ r ∧ Below w.heap.size w w':=by
 have hu32:=Try.underlying32
 have hu25:=Try.underlying25
 have HR0:=aM hr0
 have HC0:=aM hc0
 clear hr0 hc0
 have HB:=aM (Below.refl w.heap.size w)
 have H : (if 0 ≤ (l0.length : Int) then (if ((l0.length : Int) : Int).toNat ≤ 8796093022208 then (laws_toVoteS.l0 k l0 (List.replicate ((l0.length : Int) : Int).toNat z25) 0) else (none)) else (none)) = some r:=h
 clear h
 by_cases c2 : 0 ≤ (l0.length : Int)
 case neg => rw [if_neg c2] at H;exact absurd H (by simp)
 rw [if_pos c2] at H
 have c2b0:=eq_true c2
 have c2b1 : decide (0 ≤ (l0.length : Int)) = true:=decide_eq_true c2
 clear c2
 by_cases c3 : ((l0.length : Int) : Int).toNat ≤ 8796093022208
 case neg => rw [if_neg c3] at H;exact absurd H (by simp)
 rw [if_pos c3] at H
 have c3b0:=eq_true c3
 have c3b1 : decide (((l0.length : Int) : Int).toNat ≤ 8796093022208) = true:=decide_eq_true c3
 clear c3
 obtain ⟨y191,hy191⟩ : ∃ y_ : List (S25),y_ = (List.replicate ((l0.length : Int) : Int).toNat z25):=⟨_,rfl⟩
 replace H : (laws_toVoteS.l0 k l0 y191 0) = some r:=by first|(rw [hy191];with_reducible exact H)|(have H2_:=(Option.bind_some _ _).symm.trans H;rw [hy191];with_reducible exact H2_)|(have H2_:=(Option.bind_some _ _).symm.trans H;with_reducible exact H2_)|with_reducible exact H|(rw [hy191];exact H)|exact H
 have Ny191:=aM hy191
 clear hy191
 have H':=aM H
 clear H
 go_enter Try.func23,Try.ntmps23
 go_wp2_with (first|((with_reducible refine gate_dst (N:=7) rfl ?_);refine Kd.R_make k25 _ 25 rfl (N:=7) rfl 37 _ _ rfl (l0.length : Int) rfl rfl Try.underlying37 (.agg #[(.int .i64 0),(.slice none 0 0)]) 32 info25 rfl (by decide) (by omega) z25 (ok:=fun _ => True) (okp:=fun _ => True) (k25_mkM _ _ _ z25 (Kd.R_nil _ _ _ _ _)) (fun _ hk => hk) trivial (of_decide_eq_true (by first|(with_reducible assumption)|assumption)) (Nat.le_trans (Nat.mul_le_mul_right _ (of_decide_eq_true (by first|(with_reducible assumption)|assumption) : (l0.length : Int).toNat ≤ 8796093022208)) (by omega)) (Below.refl _ _) (Nat.le_refl _) ?_;intro v192 w4 ho5 hb hg_ hnew_;clear hg_ hnew_;(first|rw [← Ny191.out] at ho5|(simp only [Int.reduceToNat] at ho5;rw [← Ny191.out] at ho5));have n0_:=aM (Kd.R_lower ho5 (below_size (by repeat (first|(with_reducible first|exact HB.out|apply bA|apply bN|apply bD)|exact HB.out))));have n1_:=aM (below_step (by repeat (first|(with_reducible first|exact HB.out|apply bA|apply bN|apply bD)|exact HB.out)) hb);clear HB;have HO193:=n0_;have HB:=n1_;clear n0_ n1_;clear hb ho5))
 go_loopg [4] k (fun kq v4 w' => ∃ (x3_1 : List (S25)) (x4_1 : Int),v4 = .int .i64 x4_1 ∧ Aside0 (laws_toVoteS.l0 kq l0 x3_1 x4_1 = some r) ∧ Aside0 (kq ≤ k) ∧ Aside0 (Kd.R k25 25 w' w.heap.size (fun _ => True) v192 x3_1) ∧ Aside0 (Below w.heap.size w w'))
 case atStart => exact ⟨(y191),(0),(by first|rfl|(simp;done)|(simp [*];done)),H',⟨Nat.le_refl _⟩,⟨by (with_reducible repeat (first|apply Kd.R_alloc|apply Kd.R_drewN|apply Kd.R_drew));exact HO193.out⟩,⟨by repeat (first|(with_reducible first|exact HB.out|apply bA|apply bN|apply bD)|exact HB.out)⟩⟩
 case round =>
  clear H'
  try clear c2
  try clear c2b0
  try clear c2b1
  try clear p2
  try clear c3
  try clear c3b0
  try clear c3b1
  obtain ⟨x3_1,x4_1,rfl,HA,HK1,HO_3,HB⟩:=hrel
  cases gk with
  | zero => exact absurd HA.out (by simp [laws_toVoteS.l0])
  | succ k1 =>
   have H:=HA.out
   clear HA
   simp only [laws_toVoteS.l0] at H
   by_cases c6 : x4_1 < (l0.length : Int)
   ·rw [if_pos c6] at H
    have c6b0 : decide (x4_1 < (l0.length : Int)) = true:=decide_eq_true c6
    clear c6
    by_cases c7 : 0 ≤ x4_1
    case neg => rw [if_neg c7] at H;exact absurd H (by simp)
    rw [if_pos c7] at H
    have c7b0 : decide (0 ≤ x4_1) = true:=decide_eq_true c7
    clear c7
    replace H:=Option.bind_eq_some_iff.mp H
    obtain ⟨⟨t195,t196⟩,A80,H⟩:=H
    replace H : (if x4_1 < (x3_1.length : Int) then (laws_toVoteS.l0 k1 l0 (x3_1.set (x4_1 : Int).toNat (⟨t195,t196⟩ : S25)) (wrap64 (x4_1 + 1))) else (none)) = some r:=H
    have A8:=aM A80
    clear A80
    by_cases c9 : x4_1 < (x3_1.length : Int)
    case neg => rw [if_neg c9] at H;exact absurd H (by simp)
    rw [if_pos c9] at H
    have c9b0 : decide (x4_1 < (x3_1.length : Int)) = true:=decide_eq_true c9
    clear c9
    obtain ⟨y199,hy199⟩ : ∃ y_ : List (S25),y_ = (x3_1.set (x4_1 : Int).toNat (⟨t195,t196⟩ : S25)):=⟨_,rfl⟩
    replace H : (laws_toVoteS.l0 k1 l0 y199 (wrap64 (x4_1 + 1))) = some r:=by first|(rw [hy199];with_reducible exact H)|(have H2_:=(Option.bind_some _ _).symm.trans H;rw [hy199];with_reducible exact H2_)|(have H2_:=(Option.bind_some _ _).symm.trans H;with_reducible exact H2_)|with_reducible exact H|(rw [hy199];exact H)|exact H
    have Ny199:=aM hy199
    clear hy199
    have H':=aM H
    clear H
    have p194 : 0 ≤ (x4_1 : Int):=of_decide_eq_true (by first|(with_reducible assumption)|assumption)
    have q194 : x4_1 < (l0.length : Int):=of_decide_eq_true (by first|(with_reducible assumption)|assumption)
    obtain ⟨ad194,A194_1,c194_1,e194,hx194_0,hx194_1,hl194_1,hi194_1⟩:=at_T32 HR0.out x4_1 p194 q194
    cases e194
    replace hx194_0:=(HB.out.cell (bL w hx194_0)).trans hx194_0
    replace hx194_1:=(HB.out.cell (bL w hx194_1)).trans hx194_1
    have HR194_1:=aM hi194_1
    have HC194_1:=aM hl194_1
    clear hi194_1 hl194_1
    replace p194:=eq_true p194
    replace q194:=eq_true q194
    go_wp2_with (first|((with_reducible refine gate_callee (f:=14) rfl ?_);refine goesL_ (some 20) rfl rfl Try.func14 (by kernel_rfl) rfl #[.agg #[.int .i64 ((rd_T32 l0 x4_1).f0),.slice A194_1 ((rd_T32 l0 x4_1).f1).length c194_1]] rfl (by (try simp only [List.map_toArray,List.map_cons,List.map_nil]);first|done|rfl|(simp only [List.length_drop,List.length_take];rfl)) ?_;(with_reducible refine (laws_toVote.calls k1 ((rd_T32 l0 x4_1).f0) _ _ ((rd_T32 l0 x4_1).f1) t195 t196 _ ?side1 ?side2 A8.out).mono ?_);(case side1 => repeat (first|exact (Kd.C_below HR194_1.out HB.out)|(with_reducible refine Kd.C_alloc ?_ _)|(with_reducible refine Kd.C_drewN ?_ _)|(with_reducible refine Kd.C_drew ?_)));(case side2 => exact HC194_1.out);rintro e w11 ⟨v197,rfl,ho0,hb⟩;refine ⟨_,rfl,?_⟩;have hs197_:=fun (a_ : Addr) (m_ : Mode) (W_ : World) => run_store Try.prog W_ a_ v197 m_ (by obtain ⟨A_,c_,e_⟩:=Kd.R_slice ho0;rw [e_];rfl);have n0_:=aM (Kd.R_elder' (by (with_reducible repeat (first|apply Kd.R_alloc|apply Kd.R_drewN|apply Kd.R_drew));exact HO_3.out) (Kd.R_base ho0) hb);have n1_:=aM (Kd.R_lower ho0 (below_size (by repeat (first|(with_reducible first|exact HB.out|apply bA|apply bN|apply bD)|exact HB.out))));have n2_:=aM (below_step (by repeat (first|(with_reducible first|exact HB.out|apply bA|apply bN|apply bD)|exact HB.out)) hb);clear HO_3;clear HB;have HO_3:=n0_;have HO198:=n1_;have HB:=n2_;clear n0_ n1_ n2_;(try clear hb);(try clear hb2);(try clear hk);(try clear hi);(try clear ho0);have p10 : 0 ≤ (x4_1 : Int):=of_decide_eq_true (by first|(with_reducible assumption)|assumption);have q10 : (x4_1 : Int) < ((x3_1.length : Int) : Int):=of_decide_eq_true (by first|(with_reducible assumption)|assumption);obtain ⟨go10,co10,eo10,gb10,gl10,cl10,HG10⟩:=Kd.R_form HO_3.out (by omega);(first|cases eo10|(injection eo10 with ea_ en_ ec_;(first|subst ea_|(injection ea_ with ea_;subst ea_));subst ec_;clear en_));have GB10:=aM gb10;have GG10:=aM HG10;clear gb10 gl10 HG10;obtain ⟨ce10,hcl10,hM10,hcc10,hfr10⟩:=Kd.R_elem HO_3.out z25 (x4_1 : Int) p10 q10;obtain ⟨ve10_1,rfl,ge10_1⟩:=k25_openM hM10;have hx10_0 : w11.cell? ⟨go10,(x4_1 : Int).toNat * 2,none⟩ = some (.int .i64 ((rd_T25 x3_1 x4_1).f0)):=hcc10 0 _ rfl;have hx10_1 : w11.cell? ⟨go10,(x4_1 : Int).toNat * 2 + 1,none⟩ = some (ve10_1):=hcc10 1 _ rfl;have hf10_0 : w11.frozen? ⟨go10,(x4_1 : Int).toNat * 2,none⟩ = false:=hfr10 0;have hf10_1 : w11.frozen? ⟨go10,(x4_1 : Int).toNat * 2 + 1,none⟩ = false:=hfr10 1;clear hcl10 hcc10 hfr10 hM10;replace p10:=eq_true p10;replace q10:=eq_true q10;have n_:=aM (Kd.R_mono (ok':=(fun k_ => some k_ ≠ (v197 : Value).ownBlock)) HO_3.out (fun k_ hk => hk.2));clear HO_3;have HO_3:=n_;clear n_;have HX12:=aM (show Kd.R k25 25 w11 w.heap.size (fun _ => True) (.slice (some ⟨go10,0,none⟩) x3_1.length co10) x3_1 from (by (with_reducible repeat (first|apply Kd.R_alloc|apply Kd.R_drewN|apply Kd.R_drew));exact Kd.R_mono HO_3.out (fun _ hk => trivial)));obtain ⟨ce12,hcl12,hM12,hcc12,hfr12⟩:=Kd.R_elem HX12.out z25 (x4_1 : Int) (of_decide_eq_true (by first|(with_reducible assumption)|assumption)) (by have h_ : (x4_1 : Int) < ((x3_1.length : Int) : Int):=of_decide_eq_true (by first|(with_reducible assumption)|assumption);first|exact h_|(have e_:=(Kd.R_reads' HO_3.out).1;omega)|simpa using h_);obtain ⟨ve12_1,rfl,ge12_1⟩:=k25_openM hM12;have HP12:=Kd.R_seg HX12.out (x4_1 : Int) (of_decide_eq_true (by first|(with_reducible assumption)|assumption)) (by have h_ : (x4_1 : Int) < ((x3_1.length : Int) : Int):=of_decide_eq_true (by first|(with_reducible assumption)|assumption);first|exact h_|(have e_:=(Kd.R_reads' HO_3.out).1;omega)|simpa using h_) (seg:=[.int .i64 t195,v197]) (j:=0) hcl12 hcc12 (show 2 ≤ 2 from by decide) (x':=(⟨t195,t196⟩ : S25)) (k25_mkM _ _ _ (⟨t195,t196⟩ : S25) (Kd.R_mono (Kd.R_apart' (HO198.out) (Kd.R_typed HO_3.out) (by decide)) (fun k_ hk => ⟨trivial,fun e_ => (hk.2) (by rw [e_];rfl)⟩))) (fun _ hk => hk);have hx12_0:=hcc12 0 _ rfl;(try simp only [show (k25).sz = 2 from rfl,Nat.mul_one,Nat.add_zero] at hx12_0);have hf12_0:=hfr12 0;(try simp only [show (k25).sz = 2 from rfl,Nat.mul_one,Nat.add_zero] at hf12_0);have hx12_1:=hcc12 1 _ rfl;(try simp only [show (k25).sz = 2 from rfl,Nat.mul_one,Nat.add_zero] at hx12_1);have hf12_1:=hfr12 1;(try simp only [show (k25).sz = 2 from rfl,Nat.mul_one,Nat.add_zero] at hf12_1);clear hcl12 hcc12 hfr12 hM12)|((with_reducible refine gate_store (t:=25) (p:=21) rfl ?_);refine store_event (t:=25) (p:=21) (v:=?vo_w13) (w1:=((w11.setCell ⟨go10,(x4_1 : Int).toNat * 2,none⟩ (.int .i64 t195)).setCell ⟨go10,(x4_1 : Int).toNat * 2 + 1,none⟩ (v197))) ?hg ?ho ?hn ?hr ?_;(case ho => rfl);(case hg => rfl);(case hn => rfl);(case hr => first|(go_simp;done)|(go_simp;rfl));intro w13 hw;have hg : w11.grownBy w13 (some go10):=(by rw [hw];exact HP12.2);have hp_ : Kd.R k25 25 w13 w.heap.size (fun _ => True) (.slice (some ⟨go10,0,none⟩) x3_1.length co10) y199:=(by rw [hw,Ny199.out];exact HP12.1);clear HP12;have n0_:=aM (hp_);have n1_:=aM ((by rw [hw];exact below_set (below_set (HB.out) GB10.out) GB10.out : Below w.heap.size w w13));clear HO_3;clear HB;clear HO198;have HO_3:=n0_;have HB:=n1_;clear n0_ n1_;clear hg hw hp_))
    go_roundg k1
    case measure => have:=HK1.out;omega
    case rel => exact ⟨(y199),(wrap64 (x4_1 + 1)),(by first|rfl|(simp;done)|(simp [*];done)),H',⟨by have:=HK1.out;omega⟩,⟨by (with_reducible repeat (first|apply Kd.R_alloc|apply Kd.R_drewN|apply Kd.R_drew));exact HO_3.out⟩,⟨by repeat (first|(with_reducible first|exact HB.out|apply bA|apply bN|apply bD)|exact HB.out)⟩⟩
   ·rw [if_neg c6] at H
    have c6b0 : decide (x4_1 < (l0.length : Int)) = false:=decide_eq_false c6
    clear c6
    obtain rfl:=Option.some.inj H
    go_wp2
    go_ret
    exact ⟨_,by first|rfl|(simp only [i64_w,i32_w];done)|(simp only [i64_w,i32_w];rfl)|(simp [errW_none,errW_some] <;> rfl)|(simp [*,errW_none,errW_some] <;> rfl),by (with_reducible repeat (first|apply Kd.R_alloc|apply Kd.R_drewN|apply Kd.R_drew));exact HO_3.out,by repeat (first|(with_reducible first|exact HB.out|apply bA|apply bN|apply bD)|exact HB.out)⟩

/-! ### laws_toNode: function 30 -/
def laws_toNode.f (k : Nat) (a0_0 : Int) (a0_1 : Int) (a0_2 : Int) (l0_3 : List (S32)) : Option (Int × Int × Int × (List (S25))):=(laws_toVoteS.f k l0_3).bind fun t203 => (some (a0_0,a0_1,a0_2,t203))
theorem laws_toNode.mono : ∀ a0 a1 a2 a3 k,LeO (laws_toNode.f k a0 a1 a2 a3) (laws_toNode.f (k + 1) a0 a1 a2 a3):=by
 intro a0 a1 a2 a3 k
 unfold laws_toNode.f
 repeat' first
   | exact LeO.refl _
   | exact laws_toVoteS.mono _ _
   | exact LeO.none _
   | refine LeO.ite ?_ ?_
   | refine LeO.bind ?_ (fun _ => ?_)
set_option maxHeartbeats 8000000 in
set_option maxRecDepth 100000 in
theorem laws_toNode.calls (k : Nat) (a0_0 : Int) (a0_1 : Int) (a0_2 : Int) (A0_3 : Option Addr) (c0_3 : Nat) (l0_3 : List (S32)) (r1 : Int) (r2 : Int) (r3 : Int) (r4 : List (S25)) (w : World) (hr0_3 : Kd.C k32 w A0_3 l0_3.length l0_3) (hc0_3 : l0_3.length ≤ c0_3) (h : laws_toNode.f k a0_0 a0_1 a0_2 l0_3 = some (r1,r2,r3,r4)) :
  Calls Try.prog 30 #[.agg #[.int .i64 a0_0,.int .i64 a0_1,.int .i64 a0_2,.slice A0_3 l0_3.length c0_3]] w fun e w' => ∃ v3_ : Value,e = .returned (.agg #[.int .i64 r1,.int .i64 r2,.int .i64 r3,v3_]) ∧ Kd.R k25 25 w' w.heap.size (fun _ => True) v3_ r4 ∧ Below w.heap.size w w':=by
 have hu54:=Try.underlying54
 have hu39:=Try.underlying39
 have HR0_3:=aM hr0_3
 have HC0_3:=aM hc0_3
 clear hr0_3 hc0_3
 have HB:=aM (Below.refl w.heap.size w)
 have H : ((laws_toVoteS.f k l0_3).bind fun t203 => (some (a0_0,a0_1,a0_2,t203))) = some (r1,r2,r3,r4):=h
 clear h
 replace H:=Option.bind_eq_some_iff.mp H
 obtain ⟨t203,A20,H⟩:=H
 replace H : (some (a0_0,a0_1,a0_2,t203)) = some (r1,r2,r3,r4):=H
 have A2:=aM A20
 clear A20
 simp only [Option.some.injEq,Prod.mk.injEq] at H
 obtain ⟨rfl,rfl,rfl,rfl⟩:=H
 go_enter Try.func30,Try.ntmps30
 go_wp2_with (first|((with_reducible refine gate_dst (N:=1) rfl ?_);refine box_event ?hg (N:=1) ?hd (cs:=#[.int .i64 a0_0,.int .i64 a0_1,.int .i64 a0_2,.slice A0_3 l0_3.length c0_3]) (t:=54) ?hr ?_;(case hd => rfl);(case hg => rfl);(case hr => first|(go_simp;done)|(go_simp;rfl));intro gb200 hg w3 hbox hb;have n0_:=aM (below_step (by repeat (first|(with_reducible first|exact HB.out|apply bA|apply bN|apply bD)|exact HB.out)) hb);have n1_:=aM (hbox);have n2_:=aM ((by rw [hg];exact (below_size (by repeat (first|(with_reducible first|exact HB.out|apply bA|apply bN|apply bD)|exact HB.out))) : w.heap.size ≤ gb200));have n3_:=aM ((by rw [hg];exact (below_size (by repeat (first|(with_reducible first|exact HB.out|apply bA|apply bN|apply bD)|exact HB.out))) : w.heap.size ≤ gb200));clear HB;have HB:=n0_;have BK200:=n1_;have GW200:=n2_;have GE200:=n3_;clear n0_ n1_ n2_ n3_;clear hb hbox hg)|((with_reducible refine gate_dst (N:=2) rfl ?_);refine box_event ?hg (N:=2) ?hd (cs:=#[.int .i64 0,.int .i64 0,.int .i64 0,.slice none 0 0]) (t:=39) ?hr ?_;(case hd => rfl);(case hg => rfl);(case hr => first|(go_simp;done)|(go_simp;rfl));intro gb201 hg w4 hbox hb;have n0_:=aM (blk_below (g:=gb200) (o:=.cells #[.int .i64 a0_0,.int .i64 a0_1,.int .i64 a0_2,.slice A0_3 l0_3.length c0_3] 54 (0,0)) (by (with_reducible repeat (first|refine blk_drewN ?_ _|refine blk_drew ?_|refine blk_alloc ?_ _));exact BK200.out) hb);have n1_:=aM (below_step (by repeat (first|(with_reducible first|exact HB.out|apply bA|apply bN|apply bD|refine below_set ?_ GE200.out)|exact HB.out)) hb);have n2_:=aM (hbox);have n3_:=aM ((by rw [hg];exact (below_size (by repeat (first|(with_reducible first|exact HB.out|apply bA|apply bN|apply bD|refine below_set ?_ GE200.out)|exact HB.out))) : w.heap.size ≤ gb201));have n4_:=aM ((by rw [hg];exact (below_size (by repeat (first|(with_reducible first|exact HB.out|apply bA|apply bN|apply bD|refine below_set ?_ GE200.out)|exact HB.out))) : w.heap.size ≤ gb201));have n5_:=aM ((by rw [hg];exact Nat.ne_of_lt (blk_lt (g:=gb200) (o:=.cells #[.int .i64 a0_0,.int .i64 a0_1,.int .i64 a0_2,.slice A0_3 l0_3.length c0_3] 54 (0,0)) (by (with_reducible repeat (first|refine blk_drewN ?_ _|refine blk_drew ?_|refine blk_alloc ?_ _));exact BK200.out)) : gb200 ≠ gb201));have n6_:=aM ((by rw [hg];exact Nat.ne_of_gt (blk_lt (g:=gb200) (o:=.cells #[.int .i64 a0_0,.int .i64 a0_1,.int .i64 a0_2,.slice A0_3 l0_3.length c0_3] 54 (0,0)) (by (with_reducible repeat (first|refine blk_drewN ?_ _|refine blk_drew ?_|refine blk_alloc ?_ _));exact BK200.out)) : gb201 ≠ gb200));clear BK200;clear HB;have BK200:=n0_;have HB:=n1_;have BK201:=n2_;have GW201:=n3_;have GE201:=n4_;have NB200_201:=n5_;have NB201_200:=n6_;clear n0_ n1_ n2_ n3_ n4_ n5_ n6_;clear hb hbox hg)|((with_reducible refine gate_dst (N:=3) rfl ?_);refine box_event ?hg (N:=3) ?hd (cs:=#[.int .i64 0,.int .i64 0,.int .i64 0,.slice none 0 0]) (t:=39) ?hr ?_;(case hd => rfl);(case hg => rfl);(case hr => first|(go_simp;done)|(go_simp;rfl));intro gb202 hg w5 hbox hb;have n0_:=aM (blk_below (g:=gb200) (o:=.cells #[.int .i64 a0_0,.int .i64 a0_1,.int .i64 a0_2,.slice A0_3 l0_3.length c0_3] 54 (0,0)) (by (with_reducible repeat (first|refine blk_drewN ?_ _|refine blk_drew ?_|refine blk_alloc ?_ _));exact BK200.out) hb);have n1_:=aM (blk_below (g:=gb201) (o:=.cells #[.int .i64 0,.int .i64 0,.int .i64 0,.slice none 0 0] 39 (0,0)) (by (with_reducible repeat (first|refine blk_drewN ?_ _|refine blk_drew ?_|refine blk_alloc ?_ _));exact BK201.out) hb);have n2_:=aM (below_step (by repeat (first|(with_reducible first|exact HB.out|apply bA|apply bN|apply bD|refine below_set ?_ GE200.out|refine below_set ?_ GE201.out)|exact HB.out)) hb);have n3_:=aM (hbox);have n4_:=aM ((by rw [hg];exact (below_size (by repeat (first|(with_reducible first|exact HB.out|apply bA|apply bN|apply bD|refine below_set ?_ GE200.out|refine below_set ?_ GE201.out)|exact HB.out))) : w.heap.size ≤ gb202));have n5_:=aM ((by rw [hg];exact (below_size (by repeat (first|(with_reducible first|exact HB.out|apply bA|apply bN|apply bD|refine below_set ?_ GE200.out|refine below_set ?_ GE201.out)|exact HB.out))) : w.heap.size ≤ gb202));have n6_:=aM ((by rw [hg];exact Nat.ne_of_lt (blk_lt (g:=gb200) (o:=.cells #[.int .i64 a0_0,.int .i64 a0_1,.int .i64 a0_2,.slice A0_3 l0_3.length c0_3] 54 (0,0)) (by (with_reducible repeat (first|refine blk_drewN ?_ _|refine blk_drew ?_|refine blk_alloc ?_ _));exact BK200.out)) : gb200 ≠ gb202));have n7_:=aM ((by rw [hg];exact Nat.ne_of_gt (blk_lt (g:=gb200) (o:=.cells #[.int .i64 a0_0,.int .i64 a0_1,.int .i64 a0_2,.slice A0_3 l0_3.length c0_3] 54 (0,0)) (by (with_reducible repeat (first|refine blk_drewN ?_ _|refine blk_drew ?_|refine blk_alloc ?_ _));exact BK200.out)) : gb202 ≠ gb200));have n8_:=aM ((by rw [hg];exact Nat.ne_of_lt (blk_lt (g:=gb201) (o:=.cells #[.int .i64 0,.int .i64 0,.int .i64 0,.slice none 0 0] 39 (0,0)) (by (with_reducible repeat (first|refine blk_drewN ?_ _|refine blk_drew ?_|refine blk_alloc ?_ _));exact BK201.out)) : gb201 ≠ gb202));have n9_:=aM ((by rw [hg];exact Nat.ne_of_gt (blk_lt (g:=gb201) (o:=.cells #[.int .i64 0,.int .i64 0,.int .i64 0,.slice none 0 0] 39 (0,0)) (by (with_reducible repeat (first|refine blk_drewN ?_ _|refine blk_drew ?_|refine blk_alloc ?_ _));exact BK201.out)) : gb202 ≠ gb201));clear BK200;clear BK201;clear HB;have BK200:=n0_;have BK201:=n1_;have HB:=n2_;have BK202:=n3_;have GW202:=n4_;have GE202:=n5_;have NB200_202:=n6_;have NB202_200:=n7_;have NB201_202:=n8_;have NB202_201:=n9_;clear n0_ n1_ n2_ n3_ n4_ n5_ n6_ n7_ n8_ n9_;clear hb hbox hg;have hnb6:=NB200_201.out;have hnc6:=NB201_200.out;have hnb7:=NB200_202.out;have hnc7:=NB202_200.out;have hcz8_0 : w5.cell? ⟨gb200,0,none⟩ = some (.int .i64 a0_0):=(blk_cell BK200.out 0).trans rfl;have hcz8_1 : w5.cell? ⟨gb200,1,none⟩ = some (.int .i64 a0_1):=(blk_cell BK200.out 1).trans rfl;have hcz8_2 : w5.cell? ⟨gb200,2,none⟩ = some (.int .i64 a0_2):=(blk_cell BK200.out 2).trans rfl;have hcz8_3 : w5.cell? ⟨gb200,3,none⟩ = some (.slice A0_3 l0_3.length c0_3):=(blk_cell BK200.out 3).trans rfl;have hfz8_0:=blk_frozen BK200.out 0;have hfz8_1:=blk_frozen BK200.out 1;have hfz8_2:=blk_frozen BK200.out 2;have hfz8_3:=blk_frozen BK200.out 3;have hnb9:=NB202_201.out;have hnc9:=NB201_202.out;have hcz10_0 : w5.cell? ⟨gb202,0,none⟩ = some (.int .i64 0):=(blk_cell BK202.out 0).trans rfl;have hcz10_1 : w5.cell? ⟨gb202,1,none⟩ = some (.int .i64 0):=(blk_cell BK202.out 1).trans rfl;have hcz10_2 : w5.cell? ⟨gb202,2,none⟩ = some (.int .i64 0):=(blk_cell BK202.out 2).trans rfl;have hcz10_3 : w5.cell? ⟨gb202,3,none⟩ = some (.slice none 0 0):=(blk_cell BK202.out 3).trans rfl;have hfz10_0:=blk_frozen BK202.out 0;have hfz10_1:=blk_frozen BK202.out 1;have hfz10_2:=blk_frozen BK202.out 2;have hfz10_3:=blk_frozen BK202.out 3)|((with_reducible refine gate_callee (f:=23) rfl ?_);refine goesL_ (some 15) rfl rfl Try.func23 (by kernel_rfl) rfl #[.slice A0_3 l0_3.length c0_3] rfl (by (try simp only [List.map_toArray,List.map_cons,List.map_nil]);first|done|rfl|(simp only [List.length_drop,List.length_take];rfl)) ?_;(with_reducible refine (laws_toVoteS.calls k _ _ l0_3 t203 _ ?side1 ?side2 A2.out).mono ?_);(case side1 => exact Kd.C_below HR0_3.out (by repeat (first|(with_reducible first|exact HB.out|apply bA|apply bN|apply bD|refine below_set ?_ GE200.out|refine below_set ?_ GE201.out|refine below_set ?_ GE202.out)|exact HB.out)));(case side2 => exact HC0_3.out);rintro e w11 ⟨v204,rfl,ho0,hb⟩;refine ⟨_,rfl,?_⟩;have n0_:=aM (Kd.R_lower ho0 (below_size (by repeat (first|(with_reducible first|exact HB.out|apply bA|apply bN|apply bD|refine below_set ?_ GE200.out|refine below_set ?_ GE201.out|refine below_set ?_ GE202.out)|exact HB.out))));have n1_:=aM (blk_below (g:=gb200) (o:=.cells #[.int .i64 a0_0,.int .i64 a0_1,.int .i64 a0_2,.slice A0_3 l0_3.length c0_3] 54 (0,0)) (by (with_reducible repeat (first|refine blk_drewN ?_ _|refine blk_drew ?_|refine blk_alloc ?_ _));refine blk_far ?_ NB200_202.out _;(with_reducible repeat (first|refine blk_drewN ?_ _|refine blk_drew ?_|refine blk_alloc ?_ _));refine blk_far ?_ NB200_202.out _;(with_reducible repeat (first|refine blk_drewN ?_ _|refine blk_drew ?_|refine blk_alloc ?_ _));refine blk_far ?_ NB200_202.out _;(with_reducible repeat (first|refine blk_drewN ?_ _|refine blk_drew ?_|refine blk_alloc ?_ _));exact BK200.out) hb);have n2_:=aM (blk_below (g:=gb201) (o:=.cells #[.int .i64 0,.int .i64 0,.int .i64 0,.slice none 0 0] 39 (0,0)) (by (with_reducible repeat (first|refine blk_drewN ?_ _|refine blk_drew ?_|refine blk_alloc ?_ _));refine blk_far ?_ NB201_202.out _;(with_reducible repeat (first|refine blk_drewN ?_ _|refine blk_drew ?_|refine blk_alloc ?_ _));refine blk_far ?_ NB201_202.out _;(with_reducible repeat (first|refine blk_drewN ?_ _|refine blk_drew ?_|refine blk_alloc ?_ _));refine blk_far ?_ NB201_202.out _;(with_reducible repeat (first|refine blk_drewN ?_ _|refine blk_drew ?_|refine blk_alloc ?_ _));exact BK201.out) hb);have n3_:=aM (blk_below (g:=gb202) (o:=.cells #[.int .i64 a0_0,.int .i64 a0_1,.int .i64 a0_2,.slice none 0 0] 39 (0,0)) (by (with_reducible repeat (first|refine blk_drewN ?_ _|refine blk_drew ?_|refine blk_alloc ?_ _));refine blk_put (cs:=#[.int .i64 a0_0,.int .i64 a0_1,.int .i64 0,.slice none 0 0]) ?_ 2 _ rfl;(with_reducible repeat (first|refine blk_drewN ?_ _|refine blk_drew ?_|refine blk_alloc ?_ _));refine blk_put (cs:=#[.int .i64 a0_0,.int .i64 0,.int .i64 0,.slice none 0 0]) ?_ 1 _ rfl;(with_reducible repeat (first|refine blk_drewN ?_ _|refine blk_drew ?_|refine blk_alloc ?_ _));refine blk_put (cs:=#[.int .i64 0,.int .i64 0,.int .i64 0,.slice none 0 0]) ?_ 0 _ rfl;(with_reducible repeat (first|refine blk_drewN ?_ _|refine blk_drew ?_|refine blk_alloc ?_ _));exact BK202.out) hb);have n4_:=aM (below_step (by repeat (first|(with_reducible first|exact HB.out|apply bA|apply bN|apply bD|refine below_set ?_ GE200.out|refine below_set ?_ GE201.out|refine below_set ?_ GE202.out)|exact HB.out)) hb);clear BK200;clear BK201;clear BK202;clear HB;have HO205:=n0_;have BK200:=n1_;have BK201:=n2_;have BK202:=n3_;have HB:=n4_;clear n0_ n1_ n2_ n3_ n4_;(try clear hb);(try clear hb2);(try clear hk);(try clear hi);(try clear ho0);obtain ⟨Ao12,co12,eo12⟩:=Kd.R_slice HO205.out;subst eo12;have hcz13_0 : w11.cell? ⟨gb202,0,none⟩ = some (.int .i64 a0_0):=(blk_cell BK202.out 0).trans rfl;have hcz13_1 : w11.cell? ⟨gb202,1,none⟩ = some (.int .i64 a0_1):=(blk_cell BK202.out 1).trans rfl;have hcz13_2 : w11.cell? ⟨gb202,2,none⟩ = some (.int .i64 a0_2):=(blk_cell BK202.out 2).trans rfl;have hcz13_3 : w11.cell? ⟨gb202,3,none⟩ = some (.slice none 0 0):=(blk_cell BK202.out 3).trans rfl;have hfz13_0:=blk_frozen BK202.out 0;have hfz13_1:=blk_frozen BK202.out 1;have hfz13_2:=blk_frozen BK202.out 2;have hfz13_3:=blk_frozen BK202.out 3;have hcz14_0 : w11.cell? ⟨gb201,0,none⟩ = some (.int .i64 0):=(blk_cell BK201.out 0).trans rfl;have hcz14_1 : w11.cell? ⟨gb201,1,none⟩ = some (.int .i64 0):=(blk_cell BK201.out 1).trans rfl;have hcz14_2 : w11.cell? ⟨gb201,2,none⟩ = some (.int .i64 0):=(blk_cell BK201.out 2).trans rfl;have hcz14_3 : w11.cell? ⟨gb201,3,none⟩ = some (.slice none 0 0):=(blk_cell BK201.out 3).trans rfl;have hfz14_0:=blk_frozen BK201.out 0;have hfz14_1:=blk_frozen BK201.out 1;have hfz14_2:=blk_frozen BK201.out 2;have hfz14_3:=blk_frozen BK201.out 3))
 refine bodyPost_ret (results_cell_row rfl _ _ gb201 39 #[.int .i64 a0_0,.int .i64 a0_1,.int .i64 a0_2,.slice Ao12 t203.length co12] (0,0) _ rfl (by (with_reducible repeat (first|refine blk_drewN ?_ _|refine blk_drew ?_|refine blk_alloc ?_ _));refine blk_put (cs:=#[.int .i64 a0_0,.int .i64 a0_1,.int .i64 a0_2,.slice none 0 0]) ?_ 3 _ rfl;(with_reducible repeat (first|refine blk_drewN ?_ _|refine blk_drew ?_|refine blk_alloc ?_ _));refine blk_put (cs:=#[.int .i64 a0_0,.int .i64 a0_1,.int .i64 0,.slice none 0 0]) ?_ 2 _ rfl;(with_reducible repeat (first|refine blk_drewN ?_ _|refine blk_drew ?_|refine blk_alloc ?_ _));refine blk_put (cs:=#[.int .i64 a0_0,.int .i64 0,.int .i64 0,.slice none 0 0]) ?_ 1 _ rfl;(with_reducible repeat (first|refine blk_drewN ?_ _|refine blk_drew ?_|refine blk_alloc ?_ _));refine blk_put (cs:=#[.int .i64 0,.int .i64 0,.int .i64 0,.slice none 0 0]) ?_ 0 _ rfl;(with_reducible repeat (first|refine blk_drewN ?_ _|refine blk_drew ?_|refine blk_alloc ?_ _));refine blk_far ?_ NB201_202.out _;(with_reducible repeat (first|refine blk_drewN ?_ _|refine blk_drew ?_|refine blk_alloc ?_ _));exact BK201.out) Try.underlying39 rfl (by kernel_rfl)) rfl ?_
 exact ⟨_,by first|rfl|(simp only [i64_w,i32_w];done)|(simp only [i64_w,i32_w];rfl)|(simp [errW_none,errW_some] <;> rfl)|(simp [*,errW_none,errW_some] <;> rfl),by (with_reducible repeat (first|apply Kd.R_alloc|apply Kd.R_drewN|apply Kd.R_drew));exact Kd.R_mono (Kd.R_far (p:=⟨gb201,3,none⟩) (Kd.R_far (p:=⟨gb201,2,none⟩) (Kd.R_far (p:=⟨gb201,1,none⟩) (Kd.R_far (p:=⟨gb201,0,none⟩) (Kd.R_far (p:=⟨gb202,3,none⟩) (Kd.R_types (Kd.R_types HO205.out BK202.out (by decide)) BK201.out (by decide)) (fun _ hk => hk.1.2) (.slice Ao12 t203.length co12)) (fun _ hk => hk.2) (.int .i64 a0_0)) (fun _ hk => hk.2) (.int .i64 a0_1)) (fun _ hk => hk.2) (.int .i64 a0_2)) (fun _ hk => hk.2) (.slice Ao12 t203.length co12)) (fun _ hk => trivial),by repeat (first|(with_reducible first|exact HB.out|apply bA|apply bN|apply bD|refine below_set ?_ GE200.out|refine below_set ?_ GE201.out|refine below_set ?_ GE202.out)|exact HB.out)⟩

end Go.Proofs.Ytaccamnoacdiiaa.P
