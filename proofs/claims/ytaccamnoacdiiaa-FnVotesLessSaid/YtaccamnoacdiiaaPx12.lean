/- The printed functions: what each Go function computes, as a Lean function, and that the Go code comes to just that. Conditions: none beyond each contract's own. -/
import Derived.Test.YtaccamnoacdiiaaPx0
import Derived.Test.YtaccamnoacdiiaaPx5
import Derived.Test.YtaccamnoacdiiaaPx7
import Derived.Test.YtaccamnoacdiiaaPx11
namespace Go.Proofs.Ytaccamnoacdiiaa.P
open Go.RowKit Go.Proofs.YtaccamnoacdiiaaW.PrintWords Go.Proofs.YtaccamnoacdiiaaW.PrintLast Go.Proofs.YtaccamnoacdiiaaW.PrintMore
attribute [local go_sem] max2_int min2_int max_two min_two max_three min_three max_four min_four   -- for this text's walks alone
set_option linter.unusedVariables false
set_option linter.unusedSimpArgs false

/-! ### laws_FnVotesLess: function 7 -/
mutual
def laws_FnVotesLess.j0 : Nat → List Int → List Int → Bool → Option (Bool)
 | 0,_,_,_ => none
 | k + 1,x0,x1,x17 => if x17 = true then (some true) else ((spec_DrawVotesOk.f k x0).bind fun t421 => ((impl_VotesOk.f k t421).bind fun t424 => ((spec_VotesOk.f k t421).bind fun t425 => (if (t424 != t425) = true then (laws_FnVotesLess.j1 k x1 t421 t424 true) else (if t424 = true then (laws_FnVotesLess.j1 k x1 t421 t424 ((t421.length : Int) == 0)) else (laws_FnVotesLess.j1 k x1 t421 t424 true))))))
def laws_FnVotesLess.j1 : Nat → List Int → List (S25) → Bool → Bool → Option (Bool)
 | 0,_,_,_,_ => none
 | k + 1,x1,x5,x6,x34 => if x34 = true then ((spec_VotesOk.f k x5).bind fun t426 => (some (x6 == t426))) else (if (x5.length : Int) = 0 then (none) else ((some (([] : List (S25)) : List (S25))).bind fun y427 => (if 0 ≤ ((x1.length : Int) % (x5.length : Int)) then (if ((x1.length : Int) % (x5.length : Int)) ≤ (x5.length : Int) then ((some (x5.take (((x1.length : Int) % (x5.length : Int)) : Int).toNat : List (S25))).bind fun y430 => (if y427.length + y430.length < 4398046511104 then ((some (y427 ++ y430 : List (S25))).bind fun y435 => (if 0 ≤ (wrap64 (((x1.length : Int) % (x5.length : Int)) + 1)) then (if (wrap64 (((x1.length : Int) % (x5.length : Int)) + 1)) ≤ (x5.length : Int) then ((some (x5.drop ((wrap64 (((x1.length : Int) % (x5.length : Int)) + 1)) : Int).toNat : List (S25))).bind fun y438 => (if y435.length + y438.length < 4398046511104 then ((some (([] : List (S25)) : List (S25))).bind fun y446 => (if y446.length + x5.length < 4398046511104 then ((some (y446 ++ x5 : List (S25))).bind fun y449 => (if ((x1.length : Int) % (x5.length : Int)) < (x5.length : Int) then ((some (([(⟨(rd_T25 x5 ((x1.length : Int) % (x5.length : Int))).f0,(rd_T25 x5 ((x1.length : Int) % (x5.length : Int))).f1⟩ : S25)] : List (S25)) : List (S25))).bind fun y453 => (if y449.length + y453.length < 4398046511104 then ((impl_VotesOk.f k (y435 ++ y438)).bind fun t459 => (if t459 = true then ((laws_lwBack.f k x5).bind fun t460 => ((impl_VotesOk.f k t460).bind fun t463 => (if t463 = true then ((impl_VotesOk.f k (y449 ++ y453)).bind fun t464 => (some (!t464))) else (some false)))) else (some false))) else (none))) else (none))) else (none))) else (none))) else (none)) else (none))) else (none))) else (none)) else (none))))
end
def laws_FnVotesLess.f (k : Nat) (l0 : List Int) (l1 : List Int) : Option (Bool):=if (l0.length : Int) > 1048576 then (laws_FnVotesLess.j0 k l0 l1 true) else (laws_FnVotesLess.j0 k l0 l1 (decide ((l1.length : Int) > 1048576)))
theorem laws_FnVotesLess.mono_l : ∀ k,(∀ y0 y1 y2,LeO (laws_FnVotesLess.j0 k y0 y1 y2) (laws_FnVotesLess.j0 (k + 1) y0 y1 y2)) ∧ (∀ y0 y1 y2 y3,LeO (laws_FnVotesLess.j1 k y0 y1 y2 y3) (laws_FnVotesLess.j1 (k + 1) y0 y1 y2 y3))
 | 0 => ⟨fun _ _ _ r h => by simp [laws_FnVotesLess.j0] at h,fun _ _ _ _ r h => by simp [laws_FnVotesLess.j1] at h⟩
 | k + 1 => by
  obtain ⟨ih0,ih1⟩:=laws_FnVotesLess.mono_l k
  refine ⟨?_,?_⟩
  ·intro y0 y1 y2
   unfold laws_FnVotesLess.j0
   repeat' first
   | (with_reducible exact ih0 _ _ _)
   | (with_reducible exact ih1 _ _ _ _)
   | (with_reducible exact impl_VotesOk.mono _ _)
   | (with_reducible exact laws_lwBack.mono _ _)
   | (with_reducible exact spec_DrawVotesOk.mono _ _)
   | (with_reducible exact spec_VotesOk.mono _ _)
   | (with_reducible exact LeO.refl _)
   | (with_reducible exact LeO.none _)
   | (with_reducible refine LeO.ite ?_ ?_)
   | (with_reducible refine LeO.bind ?_ (fun _ => ?_))
   | exact ih0 _ _ _
   | exact ih1 _ _ _ _
   | exact impl_VotesOk.mono _ _
   | exact laws_lwBack.mono _ _
   | exact spec_DrawVotesOk.mono _ _
   | exact spec_VotesOk.mono _ _
   | exact LeO.none _
   | refine LeO.ite ?_ ?_
   | refine LeO.bind ?_ (fun _ => ?_)
  ·intro y0 y1 y2 y3
   unfold laws_FnVotesLess.j1
   repeat' first
   | (with_reducible exact ih0 _ _ _)
   | (with_reducible exact ih1 _ _ _ _)
   | (with_reducible exact impl_VotesOk.mono _ _)
   | (with_reducible exact laws_lwBack.mono _ _)
   | (with_reducible exact spec_DrawVotesOk.mono _ _)
   | (with_reducible exact spec_VotesOk.mono _ _)
   | (with_reducible exact LeO.refl _)
   | (with_reducible exact LeO.none _)
   | (with_reducible refine LeO.ite ?_ ?_)
   | (with_reducible refine LeO.bind ?_ (fun _ => ?_))
   | exact ih0 _ _ _
   | exact ih1 _ _ _ _
   | exact impl_VotesOk.mono _ _
   | exact laws_lwBack.mono _ _
   | exact spec_DrawVotesOk.mono _ _
   | exact spec_VotesOk.mono _ _
   | exact LeO.none _
   | refine LeO.ite ?_ ?_
   | refine LeO.bind ?_ (fun _ => ?_)
theorem laws_FnVotesLess.mono : ∀ a0 a1 k,LeO (laws_FnVotesLess.f k a0 a1) (laws_FnVotesLess.f (k + 1) a0 a1):=by
 intro a0 a1 k
 obtain ⟨ih0,ih1⟩:=laws_FnVotesLess.mono_l k
 unfold laws_FnVotesLess.f
 repeat' first
   | (with_reducible exact ih0 _ _ _)
   | (with_reducible exact ih1 _ _ _ _)
   | (with_reducible exact impl_VotesOk.mono _ _)
   | (with_reducible exact laws_lwBack.mono _ _)
   | (with_reducible exact spec_DrawVotesOk.mono _ _)
   | (with_reducible exact spec_VotesOk.mono _ _)
   | (with_reducible exact LeO.refl _)
   | (with_reducible exact LeO.none _)
   | (with_reducible refine LeO.ite ?_ ?_)
   | (with_reducible refine LeO.bind ?_ (fun _ => ?_))
   | exact ih0 _ _ _
   | exact ih1 _ _ _ _
   | exact impl_VotesOk.mono _ _
   | exact laws_lwBack.mono _ _
   | exact spec_DrawVotesOk.mono _ _
   | exact spec_VotesOk.mono _ _
   | exact LeO.none _
   | refine LeO.ite ?_ ?_
   | refine LeO.bind ?_ (fun _ => ?_)
def laws_FnVotesLess.T8 : Bool × List (List Nat × List Nat):=(true,[([],[]),([],[]),([],[]),([1,2],[1,2]),([0,3],[0,3]),([],[]),([],[]),([6],[6]),([5,7],[5,7]),([4,8,4],[4,8]),([9,9,0,1,2,3,4,5,6,7,8,9],[9])])
def laws_FnVotesLess.B8 : List Nat:=[0,0,0,6,15,0,0,64,224,511,1023]
theorem laws_FnVotesLess.tab8 : rtab .any (opsOf Try.f7 8) = laws_FnVotesLess.T8:=by kernel_rfl
theorem laws_FnVotesLess.bits8 : waitsOk laws_FnVotesLess.T8.2 laws_FnVotesLess.B8 = true:=by kernel_rfl
def laws_FnVotesLess.T9 : Bool × List (List Nat × List Nat):=(true,[([],[]),([],[]),([0,1],[0,1]),([],[]),([],[]),([3,4],[3,4]),([5],[5]),([6],[6]),([2,7,2],[2,7]),([8,8,0,1,2,3,4,5,6,7,8],[8])])
def laws_FnVotesLess.B9 : List Nat:=[0,0,3,0,0,24,56,120,255,511]
theorem laws_FnVotesLess.tab9 : rtab .any (opsOf Try.f7 9) = laws_FnVotesLess.T9:=by kernel_rfl
theorem laws_FnVotesLess.bits9 : waitsOk laws_FnVotesLess.T9.2 laws_FnVotesLess.B9 = true:=by kernel_rfl
set_option maxHeartbeats 8000000 in
set_option maxRecDepth 100000 in
theorem laws_FnVotesLess.calls (k : Nat) (A0 : Option Addr) (c0 : Nat) (l0 : List Int) (A1 : Option Addr) (c1 : Nat) (l1 : List Int) (r : Bool) (w : World) (hr0 : Kd.C (Kd.int .u8) w A0 l0.length l0) (hc0 : l0.length ≤ c0) (hr1 : Kd.C (Kd.int .u8) w A1 l1.length l1) (hc1 : l1.length ≤ c1) (h : laws_FnVotesLess.f k l0 l1 = some r) :
  Calls Try.prog 7 #[.slice A0 l0.length c0,.slice A1 l1.length c1] w fun e w' => e = .returned (.bool r) ∧ Below w.heap.size w w':=by
 have hu25:=Try.underlying25
 have HR0:=aM hr0
 have HC0:=aM hc0
 clear hr0 hc0
 have HR1:=aM hr1
 have HC1:=aM hc1
 clear hr1 hc1
 have HB:=aM (Below.refl w.heap.size w)
 have H : (if (l0.length : Int) > 1048576 then (laws_FnVotesLess.j0 k l0 l1 true) else (laws_FnVotesLess.j0 k l0 l1 (decide ((l1.length : Int) > 1048576)))) = some r:=h
 clear h
 have HC3:=aM H
 clear H
 go_enter Try.func7,Try.ntmps7
 go_upto_region 1 with (fail)
 go_cut [17] (fun v17 wc => ∃ (kq : Nat) (x17_2 : Bool),v17 = .bool x17_2 ∧ Aside0 (laws_FnVotesLess.j0 kq l0 l1 x17_2 = some r) ∧ Aside0 (kq ≤ k) ∧ Aside0 (Below w.heap.size w wc))
 case first =>
  have H:=HC3.out
  clear HC3
  by_cases c4 : (l0.length : Int) > 1048576
  ·rw [if_pos c4] at H
   have c4b0 : decide (1048576 < (l0.length : Int)) = true:=decide_eq_true c4
   have c4b1 : decide (1048576 < l0.length) = true:=decide_eq_true (by omega)
   clear c4
   (first|rw [c4b0]|rw [c4b1]|(simp only [i64_w,i32_w];rw [c4b0])|skip)
   have H':=aM H
   clear H
   go_wp2
   go_meet
   case rel => exact ⟨_,(true),(by first|rfl|(simp;done)|(simp [*];done)),H',⟨by first|omega|exact Nat.le_refl _⟩,⟨by repeat (first|(with_reducible first|exact HB.out|apply bA|apply bN|apply bD)|exact HB.out)⟩⟩
  ·rw [if_neg c4] at H
   have c4b0 : decide (1048576 < (l0.length : Int)) = false:=decide_eq_false c4
   have c4b1 : decide (1048576 < l0.length) = false:=decide_eq_false (by omega)
   clear c4
   (first|rw [c4b0]|rw [c4b1]|(simp only [i64_w,i32_w];rw [c4b0])|skip)
   have H':=aM H
   clear H
   go_wp2
   go_meet
   case rel => exact ⟨_,(decide ((l1.length : Int) > 1048576)),(by first|rfl|(simp;done)|(simp [*];done)),H',⟨by first|omega|exact Nat.le_refl _⟩,⟨by repeat (first|(with_reducible first|exact HB.out|apply bA|apply bN|apply bD)|exact HB.out)⟩⟩
 case rest =>
  clear HC3
  try clear c1
  try clear p2
  try clear c4
  try clear c4b0
  try clear c4b1
  obtain ⟨kq,x17_2,rfl,HA,HJ2,HB⟩:=hcut
  cases kq with
  | zero => exact absurd HA.out (by simp [laws_FnVotesLess.j0])
  | succ kj2 =>
   have H:=HA.out
   clear HA
   simp only [laws_FnVotesLess.j0] at H
   by_cases c5 : x17_2 = true
   ·subst c5
    have H1 : (some true) = some r:=by rw [if_pos rfl] at H;exact H
    clear H
    have H:=H1
    clear H1
    obtain rfl:=Option.some.inj H
    go_wp2
    go_ret
    exact ⟨by first|rfl|(simp only [i64_w,i32_w];done)|(simp only [i64_w,i32_w];rfl)|(simp [errW_none,errW_some] <;> rfl)|(simp [*,errW_none,errW_some] <;> rfl),by repeat (first|(with_reducible first|exact HB.out|apply bA|apply bN|apply bD)|exact HB.out)⟩
   ·replace c5:=Bool.eq_false_iff.mpr c5
    subst c5
    have H1 : ((spec_DrawVotesOk.f kj2 l0).bind fun t421 => ((impl_VotesOk.f kj2 t421).bind fun t424 => ((spec_VotesOk.f kj2 t421).bind fun t425 => (if (t424 != t425) = true then (laws_FnVotesLess.j1 kj2 l1 t421 t424 true) else (if t424 = true then (laws_FnVotesLess.j1 kj2 l1 t421 t424 ((t421.length : Int) == 0)) else (laws_FnVotesLess.j1 kj2 l1 t421 t424 true)))))) = some r:=by rw [if_neg (show ¬ (false = true) by decide)] at H;exact H
    clear H
    have H:=H1
    clear H1
    replace H:=Option.bind_eq_some_iff.mp H
    obtain ⟨t421,A60,H⟩:=H
    replace H : ((impl_VotesOk.f kj2 t421).bind fun t424 => ((spec_VotesOk.f kj2 t421).bind fun t425 => (if (t424 != t425) = true then (laws_FnVotesLess.j1 kj2 l1 t421 t424 true) else (if t424 = true then (laws_FnVotesLess.j1 kj2 l1 t421 t424 ((t421.length : Int) == 0)) else (laws_FnVotesLess.j1 kj2 l1 t421 t424 true))))) = some r:=H
    have A6:=aM A60
    clear A60
    replace H:=Option.bind_eq_some_iff.mp H
    obtain ⟨t424,A70,H⟩:=H
    replace H : ((spec_VotesOk.f kj2 t421).bind fun t425 => (if (t424 != t425) = true then (laws_FnVotesLess.j1 kj2 l1 t421 t424 true) else (if t424 = true then (laws_FnVotesLess.j1 kj2 l1 t421 t424 ((t421.length : Int) == 0)) else (laws_FnVotesLess.j1 kj2 l1 t421 t424 true)))) = some r:=H
    have A7:=aM A70
    clear A70
    have HC8:=aM H
    clear H
    go_upto_region 5 with (first|((with_reducible refine gate_callee (f:=26) rfl ?_);refine goesL_ (some 19) rfl rfl Try.func26 (by kernel_rfl) rfl #[.slice A0 l0.length c0] rfl (by (try simp only [List.map_toArray,List.map_cons,List.map_nil]);first|done|rfl|(simp only [List.length_drop,List.length_take];rfl)) ?_;(with_reducible refine (spec_DrawVotesOk.calls kj2 _ _ l0 t421 _ ?side1 ?side2 A6.out).mono ?_);(case side1 => repeat (first|exact (Kd.C_below HR0.out HB.out)|(with_reducible refine Kd.C_alloc ?_ _)|(with_reducible refine Kd.C_drewN ?_ _)|(with_reducible refine Kd.C_drew ?_)));(case side2 => exact HC0.out);rintro e w9 ⟨v422,rfl,ho0,hb⟩;refine ⟨_,rfl,?_⟩;have n0_:=aM (Kd.N_lower (Kd.N_mono (ok':=fun k_ => True) ho0 (fun k_ hk_ => trivial)) (below_size (by repeat (first|(with_reducible first|exact HB.out|apply bA|apply bN|apply bD)|exact HB.out))));have n1_:=aM (below_step (by repeat (first|(with_reducible first|exact HB.out|apply bA|apply bN|apply bD)|exact HB.out)) hb);clear HB;have HO423:=n0_;have HB:=n1_;clear n0_ n1_;(try clear hb);(try clear hb2);(try clear hk);(try clear hi);(try clear ho0);obtain ⟨Ao10,co10,eo10⟩:=Kd.N_slice HO423.out;subst eo10)|((with_reducible refine gate_callee (f:=24) rfl ?_);refine goesL_ (some 21) rfl rfl Try.func24 (by kernel_rfl) rfl #[.slice Ao10 t421.length co10] rfl (by (try simp only [List.map_toArray,List.map_cons,List.map_nil]);first|done|rfl|(simp only [List.length_drop,List.length_take];rfl)) ?_;(with_reducible refine (impl_VotesOk.calls kj2 _ _ t421 t424 _ ?side1 ?side2 A7.out).mono ?_);(case side1 => repeat (first|exact (Kd.N_reads' HO423.out).2.2|(with_reducible refine Kd.C_alloc ?_ _)|(with_reducible refine Kd.C_drewN ?_ _)|(with_reducible refine Kd.C_drew ?_)));(case side2 => exact (Kd.N_reads' HO423.out).2.1);rintro e w11 ⟨rfl,hb⟩;refine ⟨_,rfl,?_⟩;have n0_:=aM (Kd.N_below (by (with_reducible repeat (first|apply Kd.N_alloc|apply Kd.N_drewN|apply Kd.N_drew));exact HO423.out) hb);have n1_:=aM (below_step (by repeat (first|(with_reducible first|exact HB.out|apply bA|apply bN|apply bD)|exact HB.out)) hb);clear HO423;clear HB;have HO423:=n0_;have HB:=n1_;clear n0_ n1_;(try clear hb);(try clear hb2);(try clear hk);(try clear hi)))
    (try simp only [Act.put,sI,sZ,sS])
    go_cut [34] (fun v34 wc => ∃ (kq : Nat) (x34_7 : Bool),v34 = .bool x34_7 ∧ Aside0 (laws_FnVotesLess.j1 kq l1 t421 t424 x34_7 = some r) ∧ Aside0 (kq ≤ kj2) ∧ Aside0 (Kd.N k25 25 wc w.heap.size (fun _ => True) (.slice Ao10 t421.length co10) t421) ∧ Aside0 (Below w.heap.size w wc))
    case first =>
     have H:=HC8.out
     clear HC8
     replace H:=Option.bind_eq_some_iff.mp H
     obtain ⟨t425,A120,H⟩:=H
     replace H : (if (t424 != t425) = true then (laws_FnVotesLess.j1 kj2 l1 t421 t424 true) else (if t424 = true then (laws_FnVotesLess.j1 kj2 l1 t421 t424 ((t421.length : Int) == 0)) else (laws_FnVotesLess.j1 kj2 l1 t421 t424 true))) = some r:=H
     have A12:=aM A120
     clear A120
     by_cases c13 : (t424 != t425) = true
     ·rw [if_pos c13] at H
      have c13b0 : (t424 != t425) = true:=c13
      (try (have c13b1 : decide (t424 = t425) = false:=by simpa using c13))
      (try (have c13b2 : (t424 == t425) = false:=by simpa using c13))
      (try (have c13b3 : ¬ (t424 = t425):=by simpa using c13))
      clear c13
      (first|rw [c13b0]|rw [c13b1]|(simp only [i64_w,i32_w];rw [c13b0])|skip)
      have H':=aM H
      clear H
      go_wp2_with (first|((with_reducible refine gate_callee (f:=22) rfl ?_);refine goesL_ (some 24) rfl rfl Try.func22 (by kernel_rfl) rfl #[.slice Ao10 t421.length co10] rfl (by (try simp only [List.map_toArray,List.map_cons,List.map_nil]);first|done|rfl|(simp only [List.length_drop,List.length_take];rfl)) ?_;(with_reducible refine (spec_VotesOk.calls kj2 _ _ t421 t425 _ ?side1 ?side2 A12.out).mono ?_);(case side1 => repeat (first|exact (Kd.N_reads' HO423.out).2.2|(with_reducible refine Kd.C_alloc ?_ _)|(with_reducible refine Kd.C_drewN ?_ _)|(with_reducible refine Kd.C_drew ?_)));(case side2 => exact (Kd.N_reads' HO423.out).2.1);rintro e w14 ⟨rfl,hb⟩;refine ⟨_,rfl,?_⟩;have n0_:=aM (Kd.N_below (by (with_reducible repeat (first|apply Kd.N_alloc|apply Kd.N_drewN|apply Kd.N_drew));exact HO423.out) hb);have n1_:=aM (below_step (by repeat (first|(with_reducible first|exact HB.out|apply bA|apply bN|apply bD)|exact HB.out)) hb);clear HO423;clear HB;have HO423:=n0_;have HB:=n1_;clear n0_ n1_;(try clear hb);(try clear hb2);(try clear hk);(try clear hi)))
      go_meet
      case rel => exact ⟨_,(true),(by first|rfl|(simp;done)|(simp [*];done)),H',⟨by have:=HJ2.out;first|omega|exact Nat.le_refl _⟩,⟨by (with_reducible repeat (first|apply Kd.N_alloc|apply Kd.N_drewN|apply Kd.N_drew));exact HO423.out⟩,⟨by repeat (first|(with_reducible first|exact HB.out|apply bA|apply bN|apply bD)|exact HB.out)⟩⟩
     ·rw [if_neg c13] at H
      have c13b0 : (t424 != t425) = false:=by simpa using c13
      (try (have c13b1 : decide (t424 = t425) = true:=by simpa using c13))
      (try (have c13b2 : (t424 == t425) = true:=by simpa using c13))
      clear c13
      (first|rw [c13b0]|rw [c13b1]|(simp only [i64_w,i32_w];rw [c13b0])|skip)
      by_cases c15 : t424 = true
      ·subst c15
       have H1 : (laws_FnVotesLess.j1 kj2 l1 t421 true ((t421.length : Int) == 0)) = some r:=by rw [if_pos rfl] at H;exact H
       clear H
       have H:=H1
       clear H1
       have H':=aM H
       clear H
       go_wp2_with (first|((with_reducible refine gate_callee (f:=22) rfl ?_);refine goesL_ (some 24) rfl rfl Try.func22 (by kernel_rfl) rfl #[.slice Ao10 t421.length co10] rfl (by (try simp only [List.map_toArray,List.map_cons,List.map_nil]);first|done|rfl|(simp only [List.length_drop,List.length_take];rfl)) ?_;(with_reducible refine (spec_VotesOk.calls kj2 _ _ t421 t425 _ ?side1 ?side2 A12.out).mono ?_);(case side1 => repeat (first|exact (Kd.N_reads' HO423.out).2.2|(with_reducible refine Kd.C_alloc ?_ _)|(with_reducible refine Kd.C_drewN ?_ _)|(with_reducible refine Kd.C_drew ?_)));(case side2 => exact (Kd.N_reads' HO423.out).2.1);rintro e w16 ⟨rfl,hb⟩;refine ⟨_,rfl,?_⟩;have n0_:=aM (Kd.N_below (by (with_reducible repeat (first|apply Kd.N_alloc|apply Kd.N_drewN|apply Kd.N_drew));exact HO423.out) hb);have n1_:=aM (below_step (by repeat (first|(with_reducible first|exact HB.out|apply bA|apply bN|apply bD)|exact HB.out)) hb);clear HO423;clear HB;have HO423:=n0_;have HB:=n1_;clear n0_ n1_;(try clear hb);(try clear hb2);(try clear hk);(try clear hi)))
       go_meet
       case rel => exact ⟨_,(((t421.length : Int) == 0)),(by first|rfl|(simp;done)|(simp [*];done)),H',⟨by have:=HJ2.out;first|omega|exact Nat.le_refl _⟩,⟨by (with_reducible repeat (first|apply Kd.N_alloc|apply Kd.N_drewN|apply Kd.N_drew));exact HO423.out⟩,⟨by repeat (first|(with_reducible first|exact HB.out|apply bA|apply bN|apply bD)|exact HB.out)⟩⟩
      ·replace c15:=Bool.eq_false_iff.mpr c15
       subst c15
       have H1 : (laws_FnVotesLess.j1 kj2 l1 t421 false true) = some r:=by rw [if_neg (show ¬ (false = true) by decide)] at H;exact H
       clear H
       have H:=H1
       clear H1
       have H':=aM H
       clear H
       go_wp2_with (first|((with_reducible refine gate_callee (f:=22) rfl ?_);refine goesL_ (some 24) rfl rfl Try.func22 (by kernel_rfl) rfl #[.slice Ao10 t421.length co10] rfl (by (try simp only [List.map_toArray,List.map_cons,List.map_nil]);first|done|rfl|(simp only [List.length_drop,List.length_take];rfl)) ?_;(with_reducible refine (spec_VotesOk.calls kj2 _ _ t421 t425 _ ?side1 ?side2 A12.out).mono ?_);(case side1 => repeat (first|exact (Kd.N_reads' HO423.out).2.2|(with_reducible refine Kd.C_alloc ?_ _)|(with_reducible refine Kd.C_drewN ?_ _)|(with_reducible refine Kd.C_drew ?_)));(case side2 => exact (Kd.N_reads' HO423.out).2.1);rintro e w17 ⟨rfl,hb⟩;refine ⟨_,rfl,?_⟩;have n0_:=aM (Kd.N_below (by (with_reducible repeat (first|apply Kd.N_alloc|apply Kd.N_drewN|apply Kd.N_drew));exact HO423.out) hb);have n1_:=aM (below_step (by repeat (first|(with_reducible first|exact HB.out|apply bA|apply bN|apply bD)|exact HB.out)) hb);clear HO423;clear HB;have HO423:=n0_;have HB:=n1_;clear n0_ n1_;(try clear hb);(try clear hb2);(try clear hk);(try clear hi)))
       go_meet
       case rel => exact ⟨_,(true),(by first|rfl|(simp;done)|(simp [*];done)),H',⟨by have:=HJ2.out;first|omega|exact Nat.le_refl _⟩,⟨by (with_reducible repeat (first|apply Kd.N_alloc|apply Kd.N_drewN|apply Kd.N_drew));exact HO423.out⟩,⟨by repeat (first|(with_reducible first|exact HB.out|apply bA|apply bN|apply bD)|exact HB.out)⟩⟩
    case rest =>
     clear HC8
     try clear c1
     try clear c2
     try clear p2
     try clear c4
     try clear c4b0
     try clear c4b1
     try clear c5
     try clear c7
     try clear c13
     try clear c13b0
     try clear c13b1
     try clear c13b2
     try clear c15
     try clear p2
     obtain ⟨kq,x34_7,rfl,HA,HJ7,HO_5,HB⟩:=hcut
     cases kq with
     | zero => exact absurd HA.out (by simp [laws_FnVotesLess.j1])
     | succ kj7 =>
      have H:=HA.out
      clear HA
      simp only [laws_FnVotesLess.j1] at H
      by_cases c18 : x34_7 = true
      ·subst c18
       have H1 : ((spec_VotesOk.f kj7 t421).bind fun t426 => (some (t424 == t426))) = some r:=by rw [if_pos rfl] at H;exact H
       clear H
       have H:=H1
       clear H1
       replace H:=Option.bind_eq_some_iff.mp H
       obtain ⟨t426,A190,H⟩:=H
       replace H : (some (t424 == t426)) = some r:=H
       have A19:=aM A190
       clear A190
       obtain rfl:=Option.some.inj H
       go_wp2_with (first|((with_reducible refine gate_callee (f:=22) rfl ?_);refine goesL_ (some 37) rfl rfl Try.func22 (by kernel_rfl) rfl #[.slice Ao10 t421.length co10] rfl (by (try simp only [List.map_toArray,List.map_cons,List.map_nil]);first|done|rfl|(simp only [List.length_drop,List.length_take];rfl)) ?_;(with_reducible refine (spec_VotesOk.calls kj7 _ _ t421 t426 _ ?side1 ?side2 A19.out).mono ?_);(case side1 => repeat (first|exact (Kd.N_reads' HO_5.out).2.2|(with_reducible refine Kd.C_alloc ?_ _)|(with_reducible refine Kd.C_drewN ?_ _)|(with_reducible refine Kd.C_drew ?_)));(case side2 => exact (Kd.N_reads' HO_5.out).2.1);rintro e w20 ⟨rfl,hb⟩;refine ⟨_,rfl,?_⟩;have n0_:=aM (Kd.N_below (by (with_reducible repeat (first|apply Kd.N_alloc|apply Kd.N_drewN|apply Kd.N_drew));exact HO_5.out) hb);have n1_:=aM (below_step (by repeat (first|(with_reducible first|exact HB.out|apply bA|apply bN|apply bD)|exact HB.out)) hb);clear HO_5;clear HB;have HO_5:=n0_;have HB:=n1_;clear n0_ n1_;(try clear hb);(try clear hb2);(try clear hk);(try clear hi)))
       go_ret
       exact ⟨by first|rfl|(simp only [i64_w,i32_w];done)|(simp only [i64_w,i32_w];rfl)|(simp [errW_none,errW_some] <;> rfl)|(simp [*,errW_none,errW_some] <;> rfl),by repeat (first|(with_reducible first|exact HB.out|apply bA|apply bN|apply bD)|exact HB.out)⟩
      ·replace c18:=Bool.eq_false_iff.mpr c18
       subst c18
       have H1 : (if (t421.length : Int) = 0 then (none) else ((some (([] : List (S25)) : List (S25))).bind fun y427 => (if 0 ≤ ((l1.length : Int) % (t421.length : Int)) then (if ((l1.length : Int) % (t421.length : Int)) ≤ (t421.length : Int) then ((some (t421.take (((l1.length : Int) % (t421.length : Int)) : Int).toNat : List (S25))).bind fun y430 => (if y427.length + y430.length < 4398046511104 then ((some (y427 ++ y430 : List (S25))).bind fun y435 => (if 0 ≤ (wrap64 (((l1.length : Int) % (t421.length : Int)) + 1)) then (if (wrap64 (((l1.length : Int) % (t421.length : Int)) + 1)) ≤ (t421.length : Int) then ((some (t421.drop ((wrap64 (((l1.length : Int) % (t421.length : Int)) + 1)) : Int).toNat : List (S25))).bind fun y438 => (if y435.length + y438.length < 4398046511104 then ((some (([] : List (S25)) : List (S25))).bind fun y446 => (if y446.length + t421.length < 4398046511104 then ((some (y446 ++ t421 : List (S25))).bind fun y449 => (if ((l1.length : Int) % (t421.length : Int)) < (t421.length : Int) then ((some (([(⟨(rd_T25 t421 ((l1.length : Int) % (t421.length : Int))).f0,(rd_T25 t421 ((l1.length : Int) % (t421.length : Int))).f1⟩ : S25)] : List (S25)) : List (S25))).bind fun y453 => (if y449.length + y453.length < 4398046511104 then ((impl_VotesOk.f kj7 (y435 ++ y438)).bind fun t459 => (if t459 = true then ((laws_lwBack.f kj7 t421).bind fun t460 => ((impl_VotesOk.f kj7 t460).bind fun t463 => (if t463 = true then ((impl_VotesOk.f kj7 (y449 ++ y453)).bind fun t464 => (some (!t464))) else (some false)))) else (some false))) else (none))) else (none))) else (none))) else (none))) else (none)) else (none))) else (none))) else (none)) else (none)))) = some r:=by rw [if_neg (show ¬ (false = true) by decide)] at H;exact H
       clear H
       have H:=H1
       clear H1
       by_cases c21 : (t421.length : Int) = 0
       ·rw [if_pos c21] at H
        exact absurd H (by simp)
       ·rw [if_neg c21] at H
        have c21b0 : ((t421.length : Int) == 0) = false:=beq_eq_false_iff_ne.mpr c21
        have c21b1 : ((t421.length : Int) != 0) = true:=bne_iff_ne.mpr c21
        have c21b2 : ¬ (t421 = []):=fun h_ => c21 (by rw [h_];rfl)
        obtain ⟨y427,hy427⟩ : ∃ y_ : List (S25),y_ = (([] : List (S25))):=⟨_,rfl⟩
        replace H : (if 0 ≤ ((l1.length : Int) % (t421.length : Int)) then (if ((l1.length : Int) % (t421.length : Int)) ≤ (t421.length : Int) then ((some (t421.take (((l1.length : Int) % (t421.length : Int)) : Int).toNat : List (S25))).bind fun y430 => (if y427.length + y430.length < 4398046511104 then ((some (y427 ++ y430 : List (S25))).bind fun y435 => (if 0 ≤ (wrap64 (((l1.length : Int) % (t421.length : Int)) + 1)) then (if (wrap64 (((l1.length : Int) % (t421.length : Int)) + 1)) ≤ (t421.length : Int) then ((some (t421.drop ((wrap64 (((l1.length : Int) % (t421.length : Int)) + 1)) : Int).toNat : List (S25))).bind fun y438 => (if y435.length + y438.length < 4398046511104 then ((some (([] : List (S25)) : List (S25))).bind fun y446 => (if y446.length + t421.length < 4398046511104 then ((some (y446 ++ t421 : List (S25))).bind fun y449 => (if ((l1.length : Int) % (t421.length : Int)) < (t421.length : Int) then ((some (([(⟨(rd_T25 t421 ((l1.length : Int) % (t421.length : Int))).f0,(rd_T25 t421 ((l1.length : Int) % (t421.length : Int))).f1⟩ : S25)] : List (S25)) : List (S25))).bind fun y453 => (if y449.length + y453.length < 4398046511104 then ((impl_VotesOk.f kj7 (y435 ++ y438)).bind fun t459 => (if t459 = true then ((laws_lwBack.f kj7 t421).bind fun t460 => ((impl_VotesOk.f kj7 t460).bind fun t463 => (if t463 = true then ((impl_VotesOk.f kj7 (y449 ++ y453)).bind fun t464 => (some (!t464))) else (some false)))) else (some false))) else (none))) else (none))) else (none))) else (none))) else (none)) else (none))) else (none))) else (none)) else (none)) = some r:=by first|(rw [hy427];with_reducible exact H)|(have H2_:=(Option.bind_some _ _).symm.trans H;rw [hy427];with_reducible exact H2_)|(have H2_:=(Option.bind_some _ _).symm.trans H;with_reducible exact H2_)|with_reducible exact H|(rw [hy427];exact H)|exact H
        have Ny427:=aM hy427
        clear hy427
        obtain ⟨ji22,hji22⟩ : ∃ j_ : Int,((l1.length : Int) % (t421.length : Int)) = j_:=⟨_,rfl⟩
        replace H : (if 0 ≤ (ji22) then (if (ji22) ≤ (t421.length : Int) then ((some (t421.take ((ji22) : Int).toNat : List (S25))).bind fun y430 => (if y427.length + y430.length < 4398046511104 then ((some (y427 ++ y430 : List (S25))).bind fun y435 => (if 0 ≤ (wrap64 ((ji22) + 1)) then (if (wrap64 ((ji22) + 1)) ≤ (t421.length : Int) then ((some (t421.drop ((wrap64 ((ji22) + 1)) : Int).toNat : List (S25))).bind fun y438 => (if y435.length + y438.length < 4398046511104 then ((some (([] : List (S25)) : List (S25))).bind fun y446 => (if y446.length + t421.length < 4398046511104 then ((some (y446 ++ t421 : List (S25))).bind fun y449 => (if (ji22) < (t421.length : Int) then ((some (([(⟨(rd_T25 t421 (ji22)).f0,(rd_T25 t421 (ji22)).f1⟩ : S25)] : List (S25)) : List (S25))).bind fun y453 => (if y449.length + y453.length < 4398046511104 then ((impl_VotesOk.f kj7 (y435 ++ y438)).bind fun t459 => (if t459 = true then ((laws_lwBack.f kj7 t421).bind fun t460 => ((impl_VotesOk.f kj7 t460).bind fun t463 => (if t463 = true then ((impl_VotesOk.f kj7 (y449 ++ y453)).bind fun t464 => (some (!t464))) else (some false)))) else (some false))) else (none))) else (none))) else (none))) else (none))) else (none)) else (none))) else (none))) else (none)) else (none)) = some r:=by first|(rw [hji22] at H;exact H)|(simp only [hji22] at H ⊢;exact H)
        by_cases c23 : 0 ≤ (ji22)
        case neg => rw [if_neg c23] at H;exact absurd H (by simp)
        rw [if_pos c23] at H
        have c23b0:=eq_true c23
        have c23b1 : decide (0 ≤ (ji22)) = true:=decide_eq_true c23
        clear c23
        by_cases c24 : (ji22) ≤ (t421.length : Int)
        case neg => rw [if_neg c24] at H;exact absurd H (by simp)
        rw [if_pos c24] at H
        have c24b0:=eq_true c24
        have c24b1 : decide ((ji22) ≤ (t421.length : Int)) = true:=decide_eq_true c24
        clear c24
        obtain ⟨y430,hy430⟩ : ∃ y_ : List (S25),y_ = (t421.take ((ji22) : Int).toNat):=⟨_,rfl⟩
        replace H : (if y427.length + y430.length < 4398046511104 then ((some (y427 ++ y430 : List (S25))).bind fun y435 => (if 0 ≤ (wrap64 ((ji22) + 1)) then (if (wrap64 ((ji22) + 1)) ≤ (t421.length : Int) then ((some (t421.drop ((wrap64 ((ji22) + 1)) : Int).toNat : List (S25))).bind fun y438 => (if y435.length + y438.length < 4398046511104 then ((some (([] : List (S25)) : List (S25))).bind fun y446 => (if y446.length + t421.length < 4398046511104 then ((some (y446 ++ t421 : List (S25))).bind fun y449 => (if (ji22) < (t421.length : Int) then ((some (([(⟨(rd_T25 t421 (ji22)).f0,(rd_T25 t421 (ji22)).f1⟩ : S25)] : List (S25)) : List (S25))).bind fun y453 => (if y449.length + y453.length < 4398046511104 then ((impl_VotesOk.f kj7 (y435 ++ y438)).bind fun t459 => (if t459 = true then ((laws_lwBack.f kj7 t421).bind fun t460 => ((impl_VotesOk.f kj7 t460).bind fun t463 => (if t463 = true then ((impl_VotesOk.f kj7 (y449 ++ y453)).bind fun t464 => (some (!t464))) else (some false)))) else (some false))) else (none))) else (none))) else (none))) else (none))) else (none)) else (none))) else (none)) = some r:=by first|(rw [hy430];with_reducible exact H)|(have H2_:=(Option.bind_some _ _).symm.trans H;rw [hy430];with_reducible exact H2_)|(have H2_:=(Option.bind_some _ _).symm.trans H;with_reducible exact H2_)|with_reducible exact H|(rw [hy430];exact H)|exact H
        have Ny430:=aM hy430
        clear hy430
        by_cases c25 : y427.length + y430.length < 4398046511104
        case neg => rw [if_neg c25] at H;exact absurd H (by simp)
        rw [if_pos c25] at H
        have LMc25:=aM c25
        clear c25
        obtain ⟨y435,hy435⟩ : ∃ y_ : List (S25),y_ = (y427 ++ y430):=⟨_,rfl⟩
        replace H : (if 0 ≤ (wrap64 ((ji22) + 1)) then (if (wrap64 ((ji22) + 1)) ≤ (t421.length : Int) then ((some (t421.drop ((wrap64 ((ji22) + 1)) : Int).toNat : List (S25))).bind fun y438 => (if y435.length + y438.length < 4398046511104 then ((some (([] : List (S25)) : List (S25))).bind fun y446 => (if y446.length + t421.length < 4398046511104 then ((some (y446 ++ t421 : List (S25))).bind fun y449 => (if (ji22) < (t421.length : Int) then ((some (([(⟨(rd_T25 t421 (ji22)).f0,(rd_T25 t421 (ji22)).f1⟩ : S25)] : List (S25)) : List (S25))).bind fun y453 => (if y449.length + y453.length < 4398046511104 then ((impl_VotesOk.f kj7 (y435 ++ y438)).bind fun t459 => (if t459 = true then ((laws_lwBack.f kj7 t421).bind fun t460 => ((impl_VotesOk.f kj7 t460).bind fun t463 => (if t463 = true then ((impl_VotesOk.f kj7 (y449 ++ y453)).bind fun t464 => (some (!t464))) else (some false)))) else (some false))) else (none))) else (none))) else (none))) else (none))) else (none)) else (none)) = some r:=by first|(rw [hy435];with_reducible exact H)|(have H2_:=(Option.bind_some _ _).symm.trans H;rw [hy435];with_reducible exact H2_)|(have H2_:=(Option.bind_some _ _).symm.trans H;with_reducible exact H2_)|with_reducible exact H|(rw [hy435];exact H)|exact H
        have Ny435:=aM hy435
        clear hy435
        obtain ⟨ji26,hji26⟩ : ∃ j_ : Int,(wrap64 ((ji22) + 1)) = j_:=⟨_,rfl⟩
        replace H : (if 0 ≤ (ji26) then (if (ji26) ≤ (t421.length : Int) then ((some (t421.drop ((ji26) : Int).toNat : List (S25))).bind fun y438 => (if y435.length + y438.length < 4398046511104 then ((some (([] : List (S25)) : List (S25))).bind fun y446 => (if y446.length + t421.length < 4398046511104 then ((some (y446 ++ t421 : List (S25))).bind fun y449 => (if (ji22) < (t421.length : Int) then ((some (([(⟨(rd_T25 t421 (ji22)).f0,(rd_T25 t421 (ji22)).f1⟩ : S25)] : List (S25)) : List (S25))).bind fun y453 => (if y449.length + y453.length < 4398046511104 then ((impl_VotesOk.f kj7 (y435 ++ y438)).bind fun t459 => (if t459 = true then ((laws_lwBack.f kj7 t421).bind fun t460 => ((impl_VotesOk.f kj7 t460).bind fun t463 => (if t463 = true then ((impl_VotesOk.f kj7 (y449 ++ y453)).bind fun t464 => (some (!t464))) else (some false)))) else (some false))) else (none))) else (none))) else (none))) else (none))) else (none)) else (none)) = some r:=by first|(rw [hji26] at H;exact H)|(simp only [hji26] at H ⊢;exact H)
        have hji26w : (IntKind.i64.wrap ((ji22) + 1)) = ji26:=(i64_w _).trans hji26
        by_cases c27 : 0 ≤ (ji26)
        case neg => rw [if_neg c27] at H;exact absurd H (by simp)
        rw [if_pos c27] at H
        have c27b0:=eq_true c27
        have c27b1 : decide (0 ≤ (ji26)) = true:=decide_eq_true c27
        clear c27
        by_cases c28 : (ji26) ≤ (t421.length : Int)
        case neg => rw [if_neg c28] at H;exact absurd H (by simp)
        rw [if_pos c28] at H
        have c28b0:=eq_true c28
        have c28b1 : decide ((ji26) ≤ (t421.length : Int)) = true:=decide_eq_true c28
        clear c28
        obtain ⟨y438,hy438⟩ : ∃ y_ : List (S25),y_ = (t421.drop ((ji26) : Int).toNat):=⟨_,rfl⟩
        replace H : (if y435.length + y438.length < 4398046511104 then ((some (([] : List (S25)) : List (S25))).bind fun y446 => (if y446.length + t421.length < 4398046511104 then ((some (y446 ++ t421 : List (S25))).bind fun y449 => (if (ji22) < (t421.length : Int) then ((some (([(⟨(rd_T25 t421 (ji22)).f0,(rd_T25 t421 (ji22)).f1⟩ : S25)] : List (S25)) : List (S25))).bind fun y453 => (if y449.length + y453.length < 4398046511104 then ((impl_VotesOk.f kj7 (y435 ++ y438)).bind fun t459 => (if t459 = true then ((laws_lwBack.f kj7 t421).bind fun t460 => ((impl_VotesOk.f kj7 t460).bind fun t463 => (if t463 = true then ((impl_VotesOk.f kj7 (y449 ++ y453)).bind fun t464 => (some (!t464))) else (some false)))) else (some false))) else (none))) else (none))) else (none))) else (none)) = some r:=by first|(rw [hy438];with_reducible exact H)|(have H2_:=(Option.bind_some _ _).symm.trans H;rw [hy438];with_reducible exact H2_)|(have H2_:=(Option.bind_some _ _).symm.trans H;with_reducible exact H2_)|with_reducible exact H|(rw [hy438];exact H)|exact H
        have Ny438:=aM hy438
        clear hy438
        by_cases c29 : y435.length + y438.length < 4398046511104
        case neg => rw [if_neg c29] at H;exact absurd H (by simp)
        rw [if_pos c29] at H
        have LMc29:=aM c29
        clear c29
        obtain ⟨y443,hy443⟩ : ∃ y_ : List (S25),y_ = (y435 ++ y438):=⟨_,rfl⟩
        replace H : ((some (([] : List (S25)) : List (S25))).bind fun y446 => (if y446.length + t421.length < 4398046511104 then ((some (y446 ++ t421 : List (S25))).bind fun y449 => (if (ji22) < (t421.length : Int) then ((some (([(⟨(rd_T25 t421 (ji22)).f0,(rd_T25 t421 (ji22)).f1⟩ : S25)] : List (S25)) : List (S25))).bind fun y453 => (if y449.length + y453.length < 4398046511104 then ((impl_VotesOk.f kj7 y443).bind fun t459 => (if t459 = true then ((laws_lwBack.f kj7 t421).bind fun t460 => ((impl_VotesOk.f kj7 t460).bind fun t463 => (if t463 = true then ((impl_VotesOk.f kj7 (y449 ++ y453)).bind fun t464 => (some (!t464))) else (some false)))) else (some false))) else (none))) else (none))) else (none))) = some r:=by first|(rw [hy443];with_reducible exact H)|(have H2_:=(Option.bind_some _ _).symm.trans H;rw [hy443];with_reducible exact H2_)|(have H2_:=(Option.bind_some _ _).symm.trans H;with_reducible exact H2_)|with_reducible exact H|(rw [hy443];exact H)|exact H
        have Ny443:=aM hy443
        clear hy443
        obtain ⟨y446,hy446⟩ : ∃ y_ : List (S25),y_ = (([] : List (S25))):=⟨_,rfl⟩
        replace H : (if y446.length + t421.length < 4398046511104 then ((some (y446 ++ t421 : List (S25))).bind fun y449 => (if (ji22) < (t421.length : Int) then ((some (([(⟨(rd_T25 t421 (ji22)).f0,(rd_T25 t421 (ji22)).f1⟩ : S25)] : List (S25)) : List (S25))).bind fun y453 => (if y449.length + y453.length < 4398046511104 then ((impl_VotesOk.f kj7 y443).bind fun t459 => (if t459 = true then ((laws_lwBack.f kj7 t421).bind fun t460 => ((impl_VotesOk.f kj7 t460).bind fun t463 => (if t463 = true then ((impl_VotesOk.f kj7 (y449 ++ y453)).bind fun t464 => (some (!t464))) else (some false)))) else (some false))) else (none))) else (none))) else (none)) = some r:=by first|(rw [hy446];with_reducible exact H)|(have H2_:=(Option.bind_some _ _).symm.trans H;rw [hy446];with_reducible exact H2_)|(have H2_:=(Option.bind_some _ _).symm.trans H;with_reducible exact H2_)|with_reducible exact H|(rw [hy446];exact H)|exact H
        have Ny446:=aM hy446
        clear hy446
        by_cases c30 : y446.length + t421.length < 4398046511104
        case neg => rw [if_neg c30] at H;exact absurd H (by simp)
        rw [if_pos c30] at H
        have LMc30:=aM c30
        clear c30
        obtain ⟨y449,hy449⟩ : ∃ y_ : List (S25),y_ = (y446 ++ t421):=⟨_,rfl⟩
        replace H : (if (ji22) < (t421.length : Int) then ((some (([(⟨(rd_T25 t421 (ji22)).f0,(rd_T25 t421 (ji22)).f1⟩ : S25)] : List (S25)) : List (S25))).bind fun y453 => (if y449.length + y453.length < 4398046511104 then ((impl_VotesOk.f kj7 y443).bind fun t459 => (if t459 = true then ((laws_lwBack.f kj7 t421).bind fun t460 => ((impl_VotesOk.f kj7 t460).bind fun t463 => (if t463 = true then ((impl_VotesOk.f kj7 (y449 ++ y453)).bind fun t464 => (some (!t464))) else (some false)))) else (some false))) else (none))) else (none)) = some r:=by first|(rw [hy449];with_reducible exact H)|(have H2_:=(Option.bind_some _ _).symm.trans H;rw [hy449];with_reducible exact H2_)|(have H2_:=(Option.bind_some _ _).symm.trans H;with_reducible exact H2_)|with_reducible exact H|(rw [hy449];exact H)|exact H
        have Ny449:=aM hy449
        clear hy449
        by_cases c31 : (ji22) < (t421.length : Int)
        case neg => rw [if_neg c31] at H;exact absurd H (by simp)
        rw [if_pos c31] at H
        have c31b0 : decide ((ji22) < (t421.length : Int)) = true:=decide_eq_true c31
        clear c31
        obtain ⟨y453,hy453⟩ : ∃ y_ : List (S25),y_ = (([(⟨(rd_T25 t421 (ji22)).f0,(rd_T25 t421 (ji22)).f1⟩ : S25)] : List (S25))):=⟨_,rfl⟩
        replace H : (if y449.length + y453.length < 4398046511104 then ((impl_VotesOk.f kj7 y443).bind fun t459 => (if t459 = true then ((laws_lwBack.f kj7 t421).bind fun t460 => ((impl_VotesOk.f kj7 t460).bind fun t463 => (if t463 = true then ((impl_VotesOk.f kj7 (y449 ++ y453)).bind fun t464 => (some (!t464))) else (some false)))) else (some false))) else (none)) = some r:=by first|(rw [hy453];with_reducible exact H)|(have H2_:=(Option.bind_some _ _).symm.trans H;rw [hy453];with_reducible exact H2_)|(have H2_:=(Option.bind_some _ _).symm.trans H;with_reducible exact H2_)|with_reducible exact H|(rw [hy453];exact H)|exact H
        have Ny453:=aM hy453
        clear hy453
        by_cases c32 : y449.length + y453.length < 4398046511104
        case neg => rw [if_neg c32] at H;exact absurd H (by simp)
        rw [if_pos c32] at H
        have LMc32:=aM c32
        clear c32
        obtain ⟨y456,hy456⟩ : ∃ y_ : List (S25),y_ = (y449 ++ y453):=⟨_,rfl⟩
        replace H : ((impl_VotesOk.f kj7 y443).bind fun t459 => (if t459 = true then ((laws_lwBack.f kj7 t421).bind fun t460 => ((impl_VotesOk.f kj7 t460).bind fun t463 => (if t463 = true then ((impl_VotesOk.f kj7 y456).bind fun t464 => (some (!t464))) else (some false)))) else (some false))) = some r:=by first|(rw [hy456];with_reducible exact H)|(have H2_:=(Option.bind_some _ _).symm.trans H;rw [hy456];with_reducible exact H2_)|(have H2_:=(Option.bind_some _ _).symm.trans H;with_reducible exact H2_)|with_reducible exact H|(rw [hy456];exact H)|exact H
        have Ny456:=aM hy456
        clear hy456
        replace H:=Option.bind_eq_some_iff.mp H
        obtain ⟨t459,A330,H⟩:=H
        replace H : (if t459 = true then ((laws_lwBack.f kj7 t421).bind fun t460 => ((impl_VotesOk.f kj7 t460).bind fun t463 => (if t463 = true then ((impl_VotesOk.f kj7 y456).bind fun t464 => (some (!t464))) else (some false)))) else (some false)) = some r:=H
        have A33:=aM A330
        clear A330
        by_cases c34 : t459 = true
        ·subst c34
         have H1 : ((laws_lwBack.f kj7 t421).bind fun t460 => ((impl_VotesOk.f kj7 t460).bind fun t463 => (if t463 = true then ((impl_VotesOk.f kj7 y456).bind fun t464 => (some (!t464))) else (some false)))) = some r:=by rw [if_pos rfl] at H;exact H
         clear H
         have H:=H1
         clear H1
         replace H:=Option.bind_eq_some_iff.mp H
         obtain ⟨t460,A350,H⟩:=H
         replace H : ((impl_VotesOk.f kj7 t460).bind fun t463 => (if t463 = true then ((impl_VotesOk.f kj7 y456).bind fun t464 => (some (!t464))) else (some false))) = some r:=H
         have A35:=aM A350
         clear A350
         replace H:=Option.bind_eq_some_iff.mp H
         obtain ⟨t463,A360,H⟩:=H
         replace H : (if t463 = true then ((impl_VotesOk.f kj7 y456).bind fun t464 => (some (!t464))) else (some false)) = some r:=H
         have A36:=aM A360
         clear A360
         by_cases c37 : t463 = true
         ·subst c37
          have H1 : ((impl_VotesOk.f kj7 y456).bind fun t464 => (some (!t464))) = some r:=by rw [if_pos rfl] at H;exact H
          clear H
          have H:=H1
          clear H1
          replace H:=Option.bind_eq_some_iff.mp H
          obtain ⟨t464,A380,H⟩:=H
          replace H : (some (!t464)) = some r:=H
          have A38:=aM A380
          clear A380
          obtain rfl:=Option.some.inj H
          try go_wp2
          have n0_:=aM (Kd.N_drew HO_5.out)
          have n1_:=aM (bD HB.out)
          clear HO_5
          clear HB
          have HO_5:=n0_
          have HB:=n1_
          clear n0_ n1_
          have q40 : ((ji22) : Int) ≤ ((t421.length : Int) : Int):=of_decide_eq_true (by first|(with_reducible assumption)|assumption)
          obtain ⟨i040,hi040,_,hsz40,_⟩:=info_parts info25
          have hroom40 : t421.length ≤ co10:=(Kd.N_reads' HO_5.out).2.1
          have hC40 : Kd.F k25 _ _ Ao10 t421.length t421:=(Kd.V_at (base:=w.heap.size) (Kd.N_V HO_5.out)).2.2
          have hcut40:=cut_to (P:=Try.prog) 37 25 .i64 Try.underlying37 hi040 Ao10 t421.length co10 (ji22) (of_decide_eq_true (by first|(with_reducible assumption)|assumption)) q40 hroom40
          have hr40:=Kd.F_take (m:=((ji22) : Int).toNat) hC40 (by omega)
          have hy40 : y430.length = ((ji22) : Int).toNat:=(by rw [Ny430.out,List.length_take];omega)
          rw [← Ny430.out] at hr40
          rw [← hy40] at hcut40
          have HO434:=aM (show Kd.V k25 25 _ w.heap.size _ (.slice Ao10 y430.length co10) y430 from Kd.V_mk (by omega) hr40)
          have HC434:=aM (show y430.length ≤ co10 from by omega)
          clear hr40 hC40 hroom40 hi040 hsz40
          have KY40:=aM hy40
          clear hy40
          replace q40:=eq_true q40
          have q41 : ((ji26) : Int) ≤ ((t421.length : Int) : Int):=of_decide_eq_true (by first|(with_reducible assumption)|assumption)
          obtain ⟨i041,hi041,_,hsz41,_⟩:=info_parts info25
          have hroom41 : t421.length ≤ co10:=(Kd.N_reads' HO_5.out).2.1
          have hC41 : Kd.F k25 _ _ Ao10 t421.length t421:=(Kd.V_at (base:=w.heap.size) (Kd.N_V HO_5.out)).2.2
          have q041 : (0 : Int) ≤ ((ji26) : Int):=of_decide_eq_true (by first|(with_reducible assumption)|assumption)
          have hcut41:=cut_from (P:=Try.prog) 37 25 .i64 Try.underlying37 hi041 2 hsz41 Ao10 t421.length co10 (ji26) q041 q41
          have hr41:=Kd.F_cut (m:=((ji26) : Int).toNat) (c:=co10) hC41 (by omega) hroom41
          obtain ⟨A41,hA41⟩ : ∃ A1,A1 = (if co10 = ((ji26) : Int).toNat then Ao10 else (Ao10 : Option Addr).map (·.add (((ji26) : Int).toNat * 2))):=⟨_,rfl⟩
          obtain ⟨c41,hc41⟩ : ∃ c1,c1 = co10 - ((ji26) : Int).toNat:=⟨_,rfl⟩
          have hy41 : y438.length = t421.length - ((ji26) : Int).toNat:=(by rw [Ny438.out,List.length_drop] <;> omega)
          rw [show (t421).drop ((ji26) : Int).toNat = y438 from Ny438.out.symm] at hr41
          replace hr41 : Kd.F k25 _ _ A41 y438.length y438:=(by rw [hA41];exact hr41)
          rw [← hy41,← hA41,← hc41] at hcut41
          have HO442:=aM (show Kd.V k25 25 _ w.heap.size _ (.slice A41 y438.length c41) y438 from Kd.V_mk (by rw [hy41,hc41];exact Nat.sub_le_sub_right hroom41 _) hr41)
          have HC442:=aM (show y438.length ≤ c41 from by rw [hy41,hc41];exact Nat.sub_le_sub_right hroom41 _)
          clear hr41 hC41 hroom41 hi041 hsz41 hc41
          have KY41:=aM hy41
          have KA41:=aM hA41
          clear hy41 hA41
          replace q41:=eq_true q41
          refine start_ (n:=11) (S:=fun w' => True) (ds:=[]) #[bF,bF,bF,bF,bF,bF,bF,bF,bF,bF,bF] (by kernel_rfl) rfl rfl trivial (fun hHeld => ?_);refine with_tabW laws_FnVotesLess.tab8 laws_FnVotesLess.bits8 (fun HT_ HW_ => ?_)
          generalize wc.drew = w39 at HO_5 HB HO434 HO442 hHeld ⊢
          refine pure_ (i:=1) (N:=some 45) (v:=?_) (a':=?_) #[bF,bT,bF,bF,bF,bF,bF,bF,bF,bF,bF] rfl rfl (any_of HT_.out (by kernel_rfl)) (fun _ _ _ h => h) (Or.inl ⟨by rfl,?_⟩) ?_ ?_
          rotate_left;(· intro w';go_simp;with_reducible rfl);rotate_left;(· simp only [Act.put,sI,sZ,sS,i64_w,i32_w];rfl)
          refine pure_ (i:=2) (N:=some 46) (v:=?_) (a':=?_) #[bF,bT,bT,bF,bF,bF,bF,bF,bF,bF,bF] rfl rfl (any_of HT_.out (by kernel_rfl)) (fun _ _ _ h => h) (Or.inl ⟨by rfl,?_⟩) ?_ ?_
          rotate_left;(· intro w';go_simp;with_reducible rfl);rotate_left;(· simp only [Act.put,sI,sZ,sS,i64_w,i32_w];rfl)
          refine pure_ (i:=3) (N:=some 47) (v:=?_) (a':=?_) #[bF,bT,bT,bT,bF,bF,bF,bF,bF,bF,bF] rfl rfl (any_of HT_.out (by kernel_rfl)) (fun _ _ _ h => h) (Or.inl ⟨by rfl,?_⟩) ?_ ?_
          rotate_left;(· intro w';go_simp;with_reducible rfl);rotate_left;(· simp only [Act.put,sI,sZ,sS,i64_w,i32_w];rfl)
          refine pure_ (i:=5) (N:=some 49) (v:=?_) (a':=?_) #[bF,bT,bT,bT,bF,bT,bF,bF,bF,bF,bF] rfl rfl (any_of HT_.out (by kernel_rfl)) (fun _ _ _ h => h) (Or.inl ⟨by rfl,?_⟩) ?_ ?_
          rotate_left;(· intro w';go_simp;with_reducible rfl);rotate_left;(· simp only [Act.put,sI,sZ,sS,i64_w,i32_w];rfl)
          refine pure_ (i:=6) (N:=some 50) (v:=?_) (a':=?_) #[bF,bT,bT,bT,bF,bT,bT,bF,bF,bF,bF] rfl rfl (any_of HT_.out (by kernel_rfl)) (fun _ _ _ h => h) (Or.inl ⟨by rfl,?_⟩) ?_ ?_
          rotate_left;(· intro w';go_simp;with_reducible rfl);rotate_left;(· simp only [Act.put,sI,sZ,sS,i64_w,i32_w];rfl)
          refine pure_ (i:=7) (N:=some 51) (v:=?_) (a':=?_) #[bF,bT,bT,bT,bF,bT,bT,bT,bF,bF,bF] rfl rfl (any_of HT_.out (by kernel_rfl)) (fun _ _ _ h => h) (Or.inl ⟨by rfl,?_⟩) ?_ ?_
          rotate_left;(· intro w';go_simp;with_reducible rfl);rotate_left;(· simp only [Act.put,sI,sZ,sS,i64_w,i32_w];rfl)
          refine pure_ (i:=8) (N:=some 52) (v:=?_) (a':=?_) #[bF,bT,bT,bT,bF,bT,bT,bT,bT,bF,bF] rfl rfl (any_of HT_.out (by kernel_rfl)) (fun _ _ _ h => h) (Or.inl ⟨by rfl,?_⟩) ?_ ?_
          rotate_left;(· intro w';go_simp;with_reducible rfl);rotate_left;(· simp only [Act.put,sI,sZ,sS,i64_w,i32_w];rfl)
          refine one_ (i:=0) (N:=some 44) #[bT,bT,bT,bT,bF,bT,bT,bT,bT,bF,bF] rfl rfl (one_of HT_.out (by kernel_rfl)) (by decide) (fun K hK => ?_)
          refine Kd.N_lit_step k25 _ 25 ?hg (N':=44) ?hd (xs:=([] : List (S25))) (inner:=[]) (ok:=(fun k_ => some k_ ≠ (.slice Ao10 t421.length co10 : Value).ownBlock)) (okp:=(fun k_ => some k_ ≠ (.slice Ao10 t421.length co10 : Value).ownBlock)) ?hr ?hp (fun _ hk => hk) ((show ∀ k_,w39.heap.size ≤ k_ → (fun k_ => some k_ ≠ (.slice Ao10 t421.length co10 : Value).ownBlock) k_ from fun k_ hk => Kd.fresh' (Kd.N_lt (by (with_reducible repeat (first|apply Kd.N_alloc|apply Kd.N_drewN|apply Kd.N_drew));exact HO_5.out)) k_ hk) _ (Nat.le_refl _)) (Below.refl _ _) (Nat.le_refl _) (by simp) ?_;(case hd => rfl);(case hg => rfl);(case hr => first|(go_simp;done)|(go_simp;rfl));(case hp => exact (Reps.none _ _))
          intro v428 w42 ho43 hb hg_ hnew_
          clear hg_ hnew_
          (first|rw [← Ny427.out] at ho43|(simp only [Int.reduceToNat] at ho43;rw [← Ny427.out] at ho43))
          have n0_:=aM (Kd.N_elder' (by (with_reducible repeat (first|apply Kd.N_alloc|apply Kd.N_drewN|apply Kd.N_drew));exact HO_5.out) (Kd.N_base ho43) hb)
          have n1_:=aM (Kd.V_elder' (by (with_reducible repeat (first|apply Kd.V_alloc|apply Kd.V_drewN|apply Kd.V_drew));exact HO434.out) (Kd.N_base ho43) hb)
          have n2_:=aM (Kd.V_elder' (by (with_reducible repeat (first|apply Kd.V_alloc|apply Kd.V_drewN|apply Kd.V_drew));exact HO442.out) (Kd.N_base ho43) hb)
          have n3_:=aM (Kd.N_lower ho43 (below_size (by repeat (first|(with_reducible first|exact HB.out|apply bA|apply bN|apply bD)|exact HB.out))))
          have n4_:=aM (below_step (by repeat (first|(with_reducible first|exact HB.out|apply bA|apply bN|apply bD)|exact HB.out)) hb)
          clear HO_5
          clear HO434
          clear HO442
          clear HB
          have HO_5:=n0_
          have HO434:=n1_
          have HO442:=n2_
          have HO429:=n3_
          have HB:=n4_
          clear n0_ n1_ n2_ n3_ n4_
          clear hb ho43
          refine hK.out _ _ trivial (fun hHeld => ?_)
          clear hK K
          refine norm_ (a':=?_) ?_ ?_
          rotate_left
          ·show Act.put _ (some 44) _ = _
           simp only [Act.put,sI,sZ,sS,i64_w,i32_w]
           rfl
          refine one_ (i:=4) (N:=some 48) #[bT,bT,bT,bT,bT,bT,bT,bT,bT,bF,bF] rfl rfl (one_of HT_.out (by kernel_rfl)) (by decide) (fun K hK => ?_)
          refine Kd.N_append_rows_step k25 (w0:=w) w.heap.size (by rfl) (.tmp 44) (.tmp 47) 37 25 (.agg #[(.int .i64 0),(.slice none 0 0)]) 32 rfl Try.underlying37 info25 rfl (by decide) (by omega) v428 y427 y430 _ _ _ (fun _ => True) (fun k_ => ((fun _ => True)) k_ ∧ some k_ ≠ (v428 : Value).ownBlock) rfl rfl ?aO ?aR (fun _ hk => hk) ?aF ?aB ?aS ?aL ?_
          (case aR => exact (by skip;exact Kd.V_F (Kd.V_mono (ok':=(fun k_ => ((fun _ => True)) k_ ∧ some k_ ≠ (v428 : Value).ownBlock)) (HO434.out) (fun k_ hk => ⟨trivial,hk.2⟩))))
          (case aB => exact (by repeat (first|(with_reducible first|exact HB.out|apply bA|apply bN|apply bD)|exact HB.out)))
          (case aF => exact (fun _ _ => trivial))
          (case aO => exact (by (with_reducible repeat (first|apply Kd.N_alloc|apply Kd.N_drewN|apply Kd.N_drew));exact Kd.N_mono HO429.out (fun _ hk => trivial)))
          (case aS => exact (below_size (by repeat (first|(with_reducible first|exact HB.out|apply bA|apply bN|apply bD)|exact HB.out))))
          (case aL => have:=LMc25.out;omega)
          intro v436 w44 ho hb hg hat
          have hHN4_:=True.intro
          rw [← Ny435.out] at ho
          have n0_:=aM (Kd.N_afterv (ok:=(fun _ => True)) (by (with_reducible repeat (first|apply Kd.N_alloc|apply Kd.N_drewN|apply Kd.N_drew));exact HO_5.out) hg hat)
          have n1_:=aM (Kd.V_afterv (ok:=(fun _ => True)) (by (with_reducible repeat (first|apply Kd.V_alloc|apply Kd.V_drewN|apply Kd.V_drew));exact HO434.out) hg hat)
          have n2_:=aM (Kd.V_afterv (ok:=(fun _ => True)) (by (with_reducible repeat (first|apply Kd.V_alloc|apply Kd.V_drewN|apply Kd.V_drew));exact HO442.out) hg hat)
          have n3_:=aM (hb)
          have n4_:=aM (ho)
          clear HO_5
          clear HO434
          clear HO442
          clear HB
          clear HO429
          have HO_5:=n0_
          have HO434:=n1_
          have HO442:=n2_
          have HB:=n3_
          have HO437:=n4_
          clear n0_ n1_ n2_ n3_ n4_
          clear ho hb hg hat
          refine hK.out _ _ trivial (fun hHeld => ?_)
          clear hK K
          refine norm_ (a':=?_) ?_ ?_
          rotate_left
          ·show Act.put _ (some 48) _ = _
           simp only [Act.put,sI,sZ,sS,i64_w,i32_w]
           rfl
          refine one_ (i:=9) (N:=some 53) #[bT,bT,bT,bT,bT,bT,bT,bT,bT,bT,bF] rfl rfl (one_of HT_.out (by kernel_rfl)) (by decide) (fun K hK => ?_)
          refine Kd.N_append_rows_step k25 (w0:=w) w.heap.size (by rfl) (.tmp 48) (.tmp 52) 37 25 (.agg #[(.int .i64 0),(.slice none 0 0)]) 32 rfl Try.underlying37 info25 rfl (by decide) (by omega) v436 y435 y438 _ _ _ (fun _ => True) (fun k_ => ((fun _ => True)) k_ ∧ some k_ ≠ (v436 : Value).ownBlock) rfl rfl ?aO ?aR (fun _ hk => hk) ?aF ?aB ?aS ?aL ?_
          (case aR => exact (by skip;exact Kd.V_F (Kd.V_mono (ok':=(fun k_ => ((fun _ => True)) k_ ∧ some k_ ≠ (v436 : Value).ownBlock)) (HO442.out) (fun k_ hk => ⟨trivial,hk.2⟩))))
          (case aB => exact (by repeat (first|(with_reducible first|exact HB.out|apply bA|apply bN|apply bD)|exact HB.out)))
          (case aF => exact (fun _ _ => trivial))
          (case aO => exact (by (with_reducible repeat (first|apply Kd.N_alloc|apply Kd.N_drewN|apply Kd.N_drew));exact HO437.out))
          (case aS => exact (below_size (by repeat (first|(with_reducible first|exact HB.out|apply bA|apply bN|apply bD)|exact HB.out))))
          (case aL => have:=LMc29.out;omega)
          intro v444 w45 ho hb hg hat
          have hHN5_:=True.intro
          rw [← Ny443.out] at ho
          have n0_:=aM (Kd.N_afterv (ok:=(fun _ => True)) (by (with_reducible repeat (first|apply Kd.N_alloc|apply Kd.N_drewN|apply Kd.N_drew));exact HO_5.out) hg hat)
          have n1_:=aM (Kd.V_afterv (ok:=(fun _ => True)) (by (with_reducible repeat (first|apply Kd.V_alloc|apply Kd.V_drewN|apply Kd.V_drew));exact HO434.out) hg hat)
          have n2_:=aM (Kd.V_afterv (ok:=(fun _ => True)) (by (with_reducible repeat (first|apply Kd.V_alloc|apply Kd.V_drewN|apply Kd.V_drew));exact HO442.out) hg hat)
          have n3_:=aM (hb)
          have n4_:=aM (ho)
          clear HO_5
          clear HO434
          clear HO442
          clear HB
          clear HO437
          have HO_5:=n0_
          have HO434:=n1_
          have HO442:=n2_
          have HB:=n3_
          have HO445:=n4_
          clear n0_ n1_ n2_ n3_ n4_
          clear ho hb hg hat
          refine hK.out _ _ trivial (fun hHeld => ?_)
          clear hK K
          refine norm_ (a':=?_) ?_ ?_
          rotate_left
          ·show Act.put _ (some 53) _ = _
           simp only [Act.put,sI,sZ,sS,i64_w,i32_w]
           rfl
          refine pure_ (i:=10) (N:=some 8) (v:=?_) (a':=?_) #[bT,bT,bT,bT,bT,bT,bT,bT,bT,bT,bT] rfl rfl (any_of HT_.out (by kernel_rfl)) (fun _ _ _ h => h) (Or.inl ⟨by rfl,?_⟩) ?_ ?_
          rotate_left;(· intro w';go_simp;with_reducible rfl);rotate_left;(· simp only [Act.put,sI,sZ,sS,i64_w,i32_w];rfl)
          refine done_ (done_of HT_.out (by kernel_rfl)) ?_
          try go_wp2
          have n0_:=aM (Kd.N_drew HO_5.out)
          have n1_:=aM (Kd.V_drew HO434.out)
          have n2_:=aM (Kd.V_drew HO442.out)
          have n3_:=aM (Kd.N_drew HO445.out)
          have n4_:=aM (bD HB.out)
          clear HO_5
          clear HO434
          clear HO442
          clear HO445
          clear HB
          have HO_5:=n0_
          have HO434:=n1_
          have HO442:=n2_
          have HO445:=n3_
          have HB:=n4_
          clear n0_ n1_ n2_ n3_ n4_
          have p452 : 0 ≤ ((ji22) : Int):=of_decide_eq_true (by first|(with_reducible assumption)|assumption)
          have q452 : (ji22) < (t421.length : Int):=of_decide_eq_true (by first|(with_reducible assumption)|assumption)
          obtain ⟨ad452,A452_1,c452_1,e452,hx452_0,hx452_1,hl452_1,hi452_1⟩:=at_T25 (Kd.N_reads' HO_5.out).2.2 (ji22) p452 q452
          cases e452
          obtain ⟨ce452,hce452,hMe452,hcc452⟩:=Kd.N_get HO_5.out z25 (ji22) p452 (by first|exact q452|exact of_decide_eq_true (by first|(with_reducible assumption)|assumption)|(have e_:=(Kd.N_reads' HO_5.out).1;omega))
          obtain ⟨ua452_1,uc452_1,rfl,ul452_1,ge452_1⟩:=k25_openF hMe452
          have hv452_1:=hcc452 1 _ rfl
          rw [add_field _ _ 1 (by omega)] at hv452_1
          replace hv452_1:=Option.some.inj (hv452_1.symm.trans hx452_1)
          injection hv452_1 with hva_ hvn_ hvc_
          rw [hva_] at ge452_1
          rw [hvc_] at ul452_1
          have HL452_1:=aM (show Kd.V k65 65 _ w.heap.size _ _ ((rd_T25 t421 (ji22)).f1) from Kd.V_mk ul452_1 ge452_1)
          clear hva_ hvn_ hvc_ ge452_1 ul452_1
          clear hcc452 hce452
          have HR452_1:=aM hi452_1
          have HC452_1:=aM hl452_1
          clear hi452_1 hl452_1
          replace p452:=eq_true p452
          replace q452:=eq_true q452
          refine start_ (n:=10) (S:=fun w' => w'.cell? (ad452.add (((ji22)).toNat * 2)) = some (.int .i64 ((rd_T25 t421 (ji22)).f0)) ∧ w'.cell? ⟨(ad452.add (((ji22)).toNat * 2)).block,(ad452.add (((ji22)).toNat * 2)).off + 1,none⟩ = some (.slice A452_1 ((rd_T25 t421 (ji22)).f1).length c452_1)) (ds:=[]) #[bF,bF,bF,bF,bF,bF,bF,bF,bF,bF] (by kernel_rfl) rfl rfl ⟨hx452_0,hx452_1⟩ (fun hHeld => ?_);refine with_tabW laws_FnVotesLess.tab9 laws_FnVotesLess.bits9 (fun HT_ HW_ => ?_)
          generalize w45.drew = w46 at HO_5 HO434 HO442 HO445 HB HL452_1 HR452_1 hx452_0 hx452_1 hHeld ⊢
          refine pure_ (i:=1) (N:=some 55) (v:=?_) (a':=?_) #[bF,bT,bF,bF,bF,bF,bF,bF,bF,bF] rfl rfl (any_of HT_.out (by kernel_rfl)) (fun _ _ _ h => h) (Or.inl ⟨by rfl,?_⟩) ?_ ?_
          rotate_left;(· intro w';go_simp;with_reducible rfl);rotate_left;(· simp only [Act.put,sI,sZ,sS,i64_w,i32_w];rfl)
          refine pure_ (i:=3) (N:=some 57) (v:=?_) (a':=?_) #[bF,bT,bF,bT,bF,bF,bF,bF,bF,bF] rfl rfl (any_of HT_.out (by kernel_rfl)) (fun _ _ _ h => h) (Or.inl ⟨by rfl,?_⟩) ?_ ?_
          rotate_left;(· intro w';go_simp;with_reducible rfl);rotate_left;(· simp only [Act.put,sI,sZ,sS,i64_w,i32_w];rfl)
          refine pure_ (i:=4) (N:=some 58) (v:=?_) (a':=?_) #[bF,bT,bF,bT,bT,bF,bF,bF,bF,bF] rfl rfl (any_of HT_.out (by kernel_rfl)) (fun _ _ _ h => h) (Or.inl ⟨by rfl,?_⟩) ?_ ?_
          rotate_left;(· intro w';go_simp;with_reducible rfl);rotate_left;(· simp only [Act.put,sI,sZ,sS,i64_w,i32_w];rfl)
          refine pure_ (i:=5) (N:=some 59) (v:=?_) (a':=?_) #[bF,bT,bF,bT,bT,bT,bF,bF,bF,bF] rfl rfl (any_of HT_.out (by kernel_rfl)) (fun _ _ _ h => h) (Or.inl ⟨by rfl,?_⟩) ?_ ?_
          rotate_left;(· intro w';go_simp;with_reducible rfl);rotate_left;(· simp only [Act.put,sI,sZ,sS,i64_w,i32_w];rfl)
          refine take_ (i:=6) (N:=some 60) (v:=?_) (a':=?_) #[bF,bT,bF,bT,bT,bT,bT,bF,bF,bF] rfl rfl (take_ofW HT_.out HW_.out (by kernel_rfl)) (fun _ _ _ h => h) (Or.inl ⟨by rfl,?_⟩) hHeld ?_ ?_
          rotate_left
          ·rintro w' ⟨s0,s1⟩
           (try simp only [Int.toNat_natCast] at s0 s1)
           go_simp
           with_reducible rfl
          rotate_left
          ·simp only [Act.put,sI,sZ,sS,i64_w,i32_w]
           rfl
          refine join_ (σ:=Value × Value × Value) 2 #[bT,bT,bT,bT,bT,bT,bT,bT,bF,bF] (fun s_ => [(54,s_.1),(56,s_.2.1),(61,s_.2.2)]) (fun s_ w' => (w'.cell? (ad452.add (((ji22)).toNat * 2)) = some (.int .i64 ((rd_T25 t421 (ji22)).f0)) ∧ w'.cell? ⟨(ad452.add (((ji22)).toNat * 2)).block,(ad452.add (((ji22)).toNat * 2)).off + 1,none⟩ = some (.slice A452_1 ((rd_T25 t421 (ji22)).f1).length c452_1)) ∧ (Kd.V k65 65 w' w.heap.size (fun k_ => some k_ ≠ (v444 : Value).ownBlock ∧ some k_ ≠ (s_.2.1 : Value).ownBlock ∧ some k_ ≠ (s_.2.2 : Value).ownBlock ∧ some k_ ≠ (.slice (some ad452) t421.length co10 : Value).ownBlock) (.slice A452_1 ((rd_T25 t421 (ji22)).f1).length c452_1) ((rd_T25 t421 (ji22)).f1)) ∧ (Kd.V k25 25 w' w.heap.size (fun k_ => some k_ ≠ (v444 : Value).ownBlock ∧ some k_ ≠ (s_.2.1 : Value).ownBlock ∧ some k_ ≠ (s_.2.2 : Value).ownBlock) (.slice (some ad452) y430.length co10) y430) ∧ (Kd.V k25 25 w' w.heap.size (fun k_ => some k_ ≠ (v444 : Value).ownBlock ∧ some k_ ≠ (s_.2.1 : Value).ownBlock ∧ some k_ ≠ (s_.2.2 : Value).ownBlock) (.slice A41 y438.length c41) y438) ∧ (Kd.N k25 25 w' w.heap.size (fun k_ => some k_ ≠ (s_.2.1 : Value).ownBlock ∧ some k_ ≠ (s_.2.2 : Value).ownBlock) v444 y443) ∧ (Kd.N k25 25 w' w.heap.size (fun k_ => some k_ ≠ (v444 : Value).ownBlock ∧ some k_ ≠ (s_.2.2 : Value).ownBlock) s_.2.1 y449) ∧ (Kd.N k25 25 w' w.heap.size (fun k_ => some k_ ≠ (v444 : Value).ownBlock ∧ some k_ ≠ (s_.2.1 : Value).ownBlock ∧ some k_ ≠ (.slice (some ad452) t421.length co10 : Value).ownBlock) s_.2.2 y453) ∧ (Kd.N k25 25 w' w.heap.size (fun k_ => some k_ ≠ (v444 : Value).ownBlock ∧ some k_ ≠ (s_.2.1 : Value).ownBlock ∧ some k_ ≠ (s_.2.2 : Value).ownBlock) (.slice (some ad452) t421.length co10) t421) ∧ (Below w.heap.size w w')) ?_ ?_
          rotate_left
          ·intro hCont
           refine two_ (i:=0) (j:=7) (Ni:=some 54) (Nj:=some 61) #[bT,bT,bF,bT,bT,bT,bT,bF,bF,bF] #[bF,bT,bF,bT,bT,bT,bT,bT,bF,bF] rfl rfl rfl rfl (two_of HT_.out (by kernel_rfl)) (by decide) (by decide) (fun K hK => ?_) (fun K hK => ?_)
           ·skip
            refine Kd.N_lit_step k25 _ 25 ?hg (N':=54) ?hd (xs:=([] : List (S25))) (inner:=[]) (ok:=(fun k_ => some k_ ≠ (.slice (some ad452) t421.length co10 : Value).ownBlock ∧ some k_ ≠ (v444 : Value).ownBlock)) (okp:=(fun k_ => some k_ ≠ (.slice (some ad452) t421.length co10 : Value).ownBlock ∧ some k_ ≠ (v444 : Value).ownBlock)) ?hr ?hp (fun _ hk => hk) ((show ∀ k_,w46.heap.size ≤ k_ → (fun k_ => some k_ ≠ (.slice (some ad452) t421.length co10 : Value).ownBlock ∧ some k_ ≠ (v444 : Value).ownBlock) k_ from fun k_ hk => ⟨Kd.fresh' (Kd.N_lt (by (with_reducible repeat (first|apply Kd.N_alloc|apply Kd.N_drewN|apply Kd.N_drew));exact HO_5.out)) k_ hk,Kd.fresh' (Kd.N_lt (by (with_reducible repeat (first|apply Kd.N_alloc|apply Kd.N_drewN|apply Kd.N_drew));exact HO445.out)) k_ hk⟩) _ (Nat.le_refl _)) (Below.refl _ _) (Nat.le_refl _) (by simp) ?_;(case hd => rfl);(case hg => rfl);(case hr => first|(go_simp;done)|(go_simp;rfl));(case hp => exact (Reps.none _ _))
            intro v447 w47 ho48 hb hg_ hnew_
            have HS0_:=(hb.cell (World.block_lt_of_cell? _ _ (hHeld.1))).trans (hHeld.1)
            have HS1_:=(hb.cell (World.block_lt_of_cell? _ _ (hHeld.2))).trans (hHeld.2)
            clear hg_ hnew_
            (first|rw [← Ny446.out] at ho48|(simp only [Int.reduceToNat] at ho48;rw [← Ny446.out] at ho48))
            have n0_:=aM (Kd.N_elder' (by (with_reducible repeat (first|apply Kd.N_alloc|apply Kd.N_drewN|apply Kd.N_drew));exact HO_5.out) (Kd.N_base ho48) hb)
            have n1_:=aM (Kd.V_elder' (by (with_reducible repeat (first|apply Kd.V_alloc|apply Kd.V_drewN|apply Kd.V_drew));exact HO434.out) (Kd.N_base ho48) hb)
            have n2_:=aM (Kd.V_elder' (by (with_reducible repeat (first|apply Kd.V_alloc|apply Kd.V_drewN|apply Kd.V_drew));exact HO442.out) (Kd.N_base ho48) hb)
            have n3_:=aM (Kd.N_elder' (by (with_reducible repeat (first|apply Kd.N_alloc|apply Kd.N_drewN|apply Kd.N_drew));exact HO445.out) (Kd.N_base ho48) hb)
            have n4_:=aM (Kd.V_elder' (by (with_reducible repeat (first|apply Kd.V_alloc|apply Kd.V_drewN|apply Kd.V_drew));exact HL452_1.out) (Kd.N_base ho48) hb)
            have n5_:=aM (Kd.N_lower ho48 (below_size (by repeat (first|(with_reducible first|exact HB.out|apply bA|apply bN|apply bD)|exact HB.out))))
            have n6_:=aM (Kd.C_below (by repeat (first|(with_reducible exact HR452_1.out)|(with_reducible refine Kd.C_alloc ?_ _)|(with_reducible refine Kd.C_drewN ?_ _)|(with_reducible refine Kd.C_drew ?_)|exact HR452_1.out)) hb)
            have n7_:=aM (below_step (by repeat (first|(with_reducible first|exact HB.out|apply bA|apply bN|apply bD)|exact HB.out)) hb)
            clear HO_5
            clear HO434
            clear HO442
            clear HO445
            clear HL452_1
            clear HR452_1
            clear HB
            have HO_5:=n0_
            have HO434:=n1_
            have HO442:=n2_
            have HO445:=n3_
            have HL452_1:=n4_
            have HO448:=n5_
            have HR452_1:=n6_
            have HB:=n7_
            clear n0_ n1_ n2_ n3_ n4_ n5_ n6_ n7_
            clear hb ho48
            refine hK.out _ _ ⟨HS0_,HS1_⟩ (fun hHeld => ?_)
            clear hK K
            refine norm_ (a':=?_) ?_ ?_
            rotate_left
            ·show Act.put _ (some 54) _ = _
             simp only [Act.put,sI,sZ,sS,i64_w,i32_w]
             rfl
            refine two_ (i:=2) (j:=7) (Ni:=some 56) (Nj:=some 61) #[bT,bT,bT,bT,bT,bT,bT,bF,bF,bF] #[bT,bT,bF,bT,bT,bT,bT,bT,bF,bF] rfl rfl rfl rfl (two_of HT_.out (by kernel_rfl)) (by decide) (by decide) (fun K hK => ?_) (fun K hK => ?_)
            ·skip
             refine Kd.N_append_rows_step k25 (w0:=w) w.heap.size (by rfl) (.tmp 54) (.tmp 55) 37 25 (.agg #[(.int .i64 0),(.slice none 0 0)]) 32 rfl Try.underlying37 info25 rfl (by decide) (by omega) v447 y446 t421 _ _ _ (fun k_ => some k_ ≠ (v444 : Value).ownBlock) (fun k_ => ((fun k_ => some k_ ≠ (v444 : Value).ownBlock)) k_ ∧ some k_ ≠ (v447 : Value).ownBlock) rfl rfl ?aO ?aR (fun _ hk => hk) ?aF ?aB ?aS ?aL ?_
             (case aR => exact (by skip;exact Kd.N_F (Kd.N_mono (ok':=(fun k_ => ((fun k_ => some k_ ≠ (v444 : Value).ownBlock)) k_ ∧ some k_ ≠ (v447 : Value).ownBlock)) (HO_5.out) (fun k_ hk => ⟨hk.1.2,hk.2⟩))))
             (case aB => exact (by repeat (first|(with_reducible first|exact HB.out|apply bA|apply bN|apply bD)|exact HB.out)))
             (case aF => exact (fun k_ hk => Kd.fresh' (Kd.N_lt (by (with_reducible repeat (first|apply Kd.N_alloc|apply Kd.N_drewN|apply Kd.N_drew));exact HO445.out)) k_ hk))
             (case aO => exact (by (with_reducible repeat (first|apply Kd.N_alloc|apply Kd.N_drewN|apply Kd.N_drew));exact Kd.N_mono HO448.out (fun _ hk => hk.2)))
             (case aS => exact (below_size (by repeat (first|(with_reducible first|exact HB.out|apply bA|apply bN|apply bD)|exact HB.out))))
             (case aL => have:=LMc30.out;omega)
             intro v450 w49 ho hb hg hat
             have HS0_:=cell_grown hg (hHeld.1) (cell_ne_row (fun e_ => ((HO448.out.1 _ e_.symm).1) rfl))
             have HS1_:=cell_grown hg (hHeld.2) (cell_ne_row (fun e_ => ((HO448.out.1 _ e_.symm).1) rfl))
             have hHN8_:=True.intro
             rw [← Ny449.out] at ho
             have n0_:=aM (Kd.N_afterv (ok:=(fun k_ => some k_ ≠ (v444 : Value).ownBlock)) (by (with_reducible repeat (first|apply Kd.N_alloc|apply Kd.N_drewN|apply Kd.N_drew));exact Kd.N_mono HO_5.out (fun _ hk => ⟨hk.1.2,hk.2⟩)) hg hat)
             have n1_:=aM (Kd.V_afterv (ok:=(fun k_ => some k_ ≠ (v444 : Value).ownBlock)) (by (with_reducible repeat (first|apply Kd.V_alloc|apply Kd.V_drewN|apply Kd.V_drew));exact Kd.V_mono HO434.out (fun _ hk => ⟨hk.1.2,hk.2⟩)) hg hat)
             have n2_:=aM (Kd.V_afterv (ok:=(fun k_ => some k_ ≠ (v444 : Value).ownBlock)) (by (with_reducible repeat (first|apply Kd.V_alloc|apply Kd.V_drewN|apply Kd.V_drew));exact Kd.V_mono HO442.out (fun _ hk => ⟨hk.1.2,hk.2⟩)) hg hat)
             have n3_:=aM (Kd.N_afterv (ok:=(fun _ => True)) (by (with_reducible repeat (first|apply Kd.N_alloc|apply Kd.N_drewN|apply Kd.N_drew));exact HO445.out) hg hat)
             have n4_:=aM (Kd.V_afterv (ok:=(fun k_ => some k_ ≠ (.slice (some ad452) t421.length co10 : Value).ownBlock ∧ some k_ ≠ (v444 : Value).ownBlock)) (by (with_reducible repeat (first|apply Kd.V_alloc|apply Kd.V_drewN|apply Kd.V_drew));exact Kd.V_mono HL452_1.out (fun _ hk => ⟨⟨hk.1.2,hk.1.1.2⟩,hk.2⟩)) hg hat)
             have n5_:=aM (hb)
             have n6_:=aM (ho)
             clear HO_5
             clear HO434
             clear HO442
             clear HO445
             clear HL452_1
             clear HB
             clear HO448
             have HO_5:=n0_
             have HO434:=n1_
             have HO442:=n2_
             have HO445:=n3_
             have HL452_1:=n4_
             have HB:=n5_
             have HO451:=n6_
             clear n0_ n1_ n2_ n3_ n4_ n5_ n6_
             clear ho hb hg hat
             refine hK.out _ _ ⟨HS0_,HS1_⟩ (fun hHeld => ?_)
             clear hK K
             refine norm_ (a':=?_) ?_ ?_
             rotate_left
             ·show Act.put _ (some 56) _ = _
              simp only [Act.put,sI,sZ,sS,i64_w,i32_w]
              rfl
             refine one_ (i:=7) (N:=some 61) #[bT,bT,bT,bT,bT,bT,bT,bT,bF,bF] rfl rfl (one_of HT_.out (by kernel_rfl)) (by decide) (fun K hK => ?_)
             refine Kd.N_lit_step k25 _ 25 ?hg (N':=61) ?hd (xs:=([(⟨(rd_T25 t421 (ji22)).f0,(rd_T25 t421 (ji22)).f1⟩ : S25)] : List (S25))) (inner:=[.int .i64 ((rd_T25 t421 (ji22)).f0),.slice A452_1 ((rd_T25 t421 (ji22)).f1).length c452_1]) (ok:=(fun k_ => some k_ ≠ (.slice (some ad452) t421.length co10 : Value).ownBlock ∧ some k_ ≠ (v444 : Value).ownBlock ∧ some k_ ≠ (v450 : Value).ownBlock)) (okp:=(fun k_ => some k_ ≠ (.slice (some ad452) t421.length co10 : Value).ownBlock ∧ some k_ ≠ (v444 : Value).ownBlock ∧ some k_ ≠ (v450 : Value).ownBlock)) ?hr ?hp (fun _ hk => hk) ((show ∀ k_,w49.heap.size ≤ k_ → (fun k_ => some k_ ≠ (.slice (some ad452) t421.length co10 : Value).ownBlock ∧ some k_ ≠ (v444 : Value).ownBlock ∧ some k_ ≠ (v450 : Value).ownBlock) k_ from fun k_ hk => ⟨Kd.fresh' (Kd.N_lt (by (with_reducible repeat (first|apply Kd.N_alloc|apply Kd.N_drewN|apply Kd.N_drew));exact HO_5.out)) k_ hk,Kd.fresh' (Kd.N_lt (by (with_reducible repeat (first|apply Kd.N_alloc|apply Kd.N_drewN|apply Kd.N_drew));exact HO445.out)) k_ hk,Kd.fresh' (Kd.N_lt (by (with_reducible repeat (first|apply Kd.N_alloc|apply Kd.N_drewN|apply Kd.N_drew));exact HO451.out)) k_ hk⟩) _ (Nat.le_refl _)) (Below.refl _ _) (Nat.le_refl _) (by simp) ?_;(case hd => rfl);(case hg => rfl);(case hr => first|(go_simp;done)|(go_simp;rfl));(case hp => exact (Reps.c2 (show Kd.FK k25 _ _ (⟨(rd_T25 t421 (ji22)).f0,(rd_T25 t421 (ji22)).f1⟩ : S25) [.int .i64 ((rd_T25 t421 (ji22)).f0),.slice A452_1 ((rd_T25 t421 (ji22)).f1).length c452_1] from (k25_mkF _ _ (⟨(rd_T25 t421 (ji22)).f0,(rd_T25 t421 (ji22)).f1⟩ : S25) (Kd.V_reads' (Kd.V_mono (ok':=(fun k_ => some k_ ≠ (.slice (some ad452) t421.length co10 : Value).ownBlock ∧ some k_ ≠ (v444 : Value).ownBlock ∧ some k_ ≠ (v450 : Value).ownBlock)) (HL452_1.out) (fun k_ hk => ⟨hk.1.1,⟨hk.1.2,hk.2⟩⟩))).2.1 (Kd.V_F (Kd.V_mono (ok':=(fun k_ => some k_ ≠ (.slice (some ad452) t421.length co10 : Value).ownBlock ∧ some k_ ≠ (v444 : Value).ownBlock ∧ some k_ ≠ (v450 : Value).ownBlock)) (HL452_1.out) (fun k_ hk => ⟨hk.1.1,⟨hk.1.2,hk.2⟩⟩))))) (Reps.none _ _)))
             intro v454 w50 ho51 hb hg_ hnew_
             have HS0_:=(hb.cell (World.block_lt_of_cell? _ _ (hHeld.1))).trans (hHeld.1)
             have HS1_:=(hb.cell (World.block_lt_of_cell? _ _ (hHeld.2))).trans (hHeld.2)
             clear hg_ hnew_
             (first|rw [← Ny453.out] at ho51|(simp only [Int.reduceToNat] at ho51;rw [← Ny453.out] at ho51))
             have n0_:=aM (Kd.N_elder' (by (with_reducible repeat (first|apply Kd.N_alloc|apply Kd.N_drewN|apply Kd.N_drew));exact HO_5.out) (Kd.N_base ho51) hb)
             have n1_:=aM (Kd.V_elder' (by (with_reducible repeat (first|apply Kd.V_alloc|apply Kd.V_drewN|apply Kd.V_drew));exact HO434.out) (Kd.N_base ho51) hb)
             have n2_:=aM (Kd.V_elder' (by (with_reducible repeat (first|apply Kd.V_alloc|apply Kd.V_drewN|apply Kd.V_drew));exact HO442.out) (Kd.N_base ho51) hb)
             have n3_:=aM (Kd.N_elder' (by (with_reducible repeat (first|apply Kd.N_alloc|apply Kd.N_drewN|apply Kd.N_drew));exact HO445.out) (Kd.N_base ho51) hb)
             have n4_:=aM (Kd.V_elder' (by (with_reducible repeat (first|apply Kd.V_alloc|apply Kd.V_drewN|apply Kd.V_drew));exact HL452_1.out) (Kd.N_base ho51) hb)
             have n5_:=aM (Kd.N_elder' (by (with_reducible repeat (first|apply Kd.N_alloc|apply Kd.N_drewN|apply Kd.N_drew));exact HO451.out) (Kd.N_base ho51) hb)
             have n6_:=aM (Kd.N_lower ho51 (below_size (by repeat (first|(with_reducible first|exact HB.out|apply bA|apply bN|apply bD)|exact HB.out))))
             have n7_:=aM (below_step (by repeat (first|(with_reducible first|exact HB.out|apply bA|apply bN|apply bD)|exact HB.out)) hb)
             clear HO_5
             clear HO434
             clear HO442
             clear HO445
             clear HL452_1
             clear HO451
             clear HB
             have HO_5:=n0_
             have HO434:=n1_
             have HO442:=n2_
             have HO445:=n3_
             have HL452_1:=n4_
             have HO451:=n5_
             have HO455:=n6_
             have HB:=n7_
             clear n0_ n1_ n2_ n3_ n4_ n5_ n6_ n7_
             clear hb ho51
             refine hK.out _ _ ⟨HS0_,HS1_⟩ (fun hHeld => ?_)
             clear hK K
             refine norm_ (a':=?_) ?_ ?_
             rotate_left
             ·show Act.put _ (some 61) _ = _
              simp only [Act.put,sI,sZ,sS,i64_w,i32_w]
              rfl
             exact norm_ (by simp only [putAll,Act.put,sI,sZ,sS]) (hCont (v447,v450,v454) _ ⟨hHeld,(by (with_reducible repeat (first|apply Kd.V_alloc|apply Kd.V_drewN|apply Kd.V_drew));exact Kd.V_mono HL452_1.out (fun _ hk => ⟨hk.1.1.2,⟨hk.1.2,⟨hk.2,hk.1.1.1⟩⟩⟩)),(by (with_reducible repeat (first|apply Kd.V_alloc|apply Kd.V_drewN|apply Kd.V_drew));exact Kd.V_mono HO434.out (fun _ hk => ⟨hk.1.1,⟨hk.1.2,hk.2⟩⟩)),(by (with_reducible repeat (first|apply Kd.V_alloc|apply Kd.V_drewN|apply Kd.V_drew));exact Kd.V_mono HO442.out (fun _ hk => ⟨hk.1.1,⟨hk.1.2,hk.2⟩⟩)),(by (with_reducible repeat (first|apply Kd.N_alloc|apply Kd.N_drewN|apply Kd.N_drew));exact Kd.N_mono HO445.out (fun _ hk => ⟨hk.1.2,hk.2⟩)),(by (with_reducible repeat (first|apply Kd.N_alloc|apply Kd.N_drewN|apply Kd.N_drew));exact HO451.out),(by (with_reducible repeat (first|apply Kd.N_alloc|apply Kd.N_drewN|apply Kd.N_drew));exact Kd.N_mono HO455.out (fun _ hk => ⟨hk.2.1,⟨hk.2.2,hk.1⟩⟩)),(by (with_reducible repeat (first|apply Kd.N_alloc|apply Kd.N_drewN|apply Kd.N_drew));exact Kd.N_mono HO_5.out (fun _ hk => ⟨hk.1.1,⟨hk.1.2,hk.2⟩⟩)),(by repeat (first|(with_reducible first|exact HB.out|apply bA|apply bN|apply bD)|exact HB.out))⟩)
            ·skip
             refine Kd.N_lit_step k25 _ 25 ?hg (N':=61) ?hd (xs:=([(⟨(rd_T25 t421 (ji22)).f0,(rd_T25 t421 (ji22)).f1⟩ : S25)] : List (S25))) (inner:=[.int .i64 ((rd_T25 t421 (ji22)).f0),.slice A452_1 ((rd_T25 t421 (ji22)).f1).length c452_1]) (ok:=(fun k_ => some k_ ≠ (.slice (some ad452) t421.length co10 : Value).ownBlock ∧ some k_ ≠ (v444 : Value).ownBlock ∧ some k_ ≠ (v447 : Value).ownBlock)) (okp:=(fun k_ => some k_ ≠ (.slice (some ad452) t421.length co10 : Value).ownBlock ∧ some k_ ≠ (v444 : Value).ownBlock ∧ some k_ ≠ (v447 : Value).ownBlock)) ?hr ?hp (fun _ hk => hk) ((show ∀ k_,w47.heap.size ≤ k_ → (fun k_ => some k_ ≠ (.slice (some ad452) t421.length co10 : Value).ownBlock ∧ some k_ ≠ (v444 : Value).ownBlock ∧ some k_ ≠ (v447 : Value).ownBlock) k_ from fun k_ hk => ⟨Kd.fresh' (Kd.N_lt (by (with_reducible repeat (first|apply Kd.N_alloc|apply Kd.N_drewN|apply Kd.N_drew));exact HO_5.out)) k_ hk,Kd.fresh' (Kd.N_lt (by (with_reducible repeat (first|apply Kd.N_alloc|apply Kd.N_drewN|apply Kd.N_drew));exact HO445.out)) k_ hk,Kd.fresh' (Kd.N_lt (by (with_reducible repeat (first|apply Kd.N_alloc|apply Kd.N_drewN|apply Kd.N_drew));exact HO448.out)) k_ hk⟩) _ (Nat.le_refl _)) (Below.refl _ _) (Nat.le_refl _) (by simp) ?_;(case hd => rfl);(case hg => rfl);(case hr => first|(go_simp;done)|(go_simp;rfl));(case hp => exact (Reps.c2 (show Kd.FK k25 _ _ (⟨(rd_T25 t421 (ji22)).f0,(rd_T25 t421 (ji22)).f1⟩ : S25) [.int .i64 ((rd_T25 t421 (ji22)).f0),.slice A452_1 ((rd_T25 t421 (ji22)).f1).length c452_1] from (k25_mkF _ _ (⟨(rd_T25 t421 (ji22)).f0,(rd_T25 t421 (ji22)).f1⟩ : S25) (Kd.V_reads' (Kd.V_mono (ok':=(fun k_ => some k_ ≠ (.slice (some ad452) t421.length co10 : Value).ownBlock ∧ some k_ ≠ (v444 : Value).ownBlock ∧ some k_ ≠ (v447 : Value).ownBlock)) (HL452_1.out) (fun k_ hk => ⟨hk.1.2,⟨hk.1.1.2,hk.2⟩⟩))).2.1 (Kd.V_F (Kd.V_mono (ok':=(fun k_ => some k_ ≠ (.slice (some ad452) t421.length co10 : Value).ownBlock ∧ some k_ ≠ (v444 : Value).ownBlock ∧ some k_ ≠ (v447 : Value).ownBlock)) (HL452_1.out) (fun k_ hk => ⟨hk.1.2,⟨hk.1.1.2,hk.2⟩⟩))))) (Reps.none _ _)))
             intro v454 w49 ho50 hb hg_ hnew_
             have HS0_:=(hb.cell (World.block_lt_of_cell? _ _ (hHeld.1))).trans (hHeld.1)
             have HS1_:=(hb.cell (World.block_lt_of_cell? _ _ (hHeld.2))).trans (hHeld.2)
             clear hg_ hnew_
             (first|rw [← Ny453.out] at ho50|(simp only [Int.reduceToNat] at ho50;rw [← Ny453.out] at ho50))
             have n0_:=aM (Kd.N_elder' (by (with_reducible repeat (first|apply Kd.N_alloc|apply Kd.N_drewN|apply Kd.N_drew));exact HO_5.out) (Kd.N_base ho50) hb)
             have n1_:=aM (Kd.V_elder' (by (with_reducible repeat (first|apply Kd.V_alloc|apply Kd.V_drewN|apply Kd.V_drew));exact HO434.out) (Kd.N_base ho50) hb)
             have n2_:=aM (Kd.V_elder' (by (with_reducible repeat (first|apply Kd.V_alloc|apply Kd.V_drewN|apply Kd.V_drew));exact HO442.out) (Kd.N_base ho50) hb)
             have n3_:=aM (Kd.N_elder' (by (with_reducible repeat (first|apply Kd.N_alloc|apply Kd.N_drewN|apply Kd.N_drew));exact HO445.out) (Kd.N_base ho50) hb)
             have n4_:=aM (Kd.V_elder' (by (with_reducible repeat (first|apply Kd.V_alloc|apply Kd.V_drewN|apply Kd.V_drew));exact HL452_1.out) (Kd.N_base ho50) hb)
             have n5_:=aM (Kd.N_elder' (by (with_reducible repeat (first|apply Kd.N_alloc|apply Kd.N_drewN|apply Kd.N_drew));exact HO448.out) (Kd.N_base ho50) hb)
             have n6_:=aM (Kd.N_lower ho50 (below_size (by repeat (first|(with_reducible first|exact HB.out|apply bA|apply bN|apply bD)|exact HB.out))))
             have n7_:=aM (Kd.C_below (by repeat (first|(with_reducible exact HR452_1.out)|(with_reducible refine Kd.C_alloc ?_ _)|(with_reducible refine Kd.C_drewN ?_ _)|(with_reducible refine Kd.C_drew ?_)|exact HR452_1.out)) hb)
             have n8_:=aM (below_step (by repeat (first|(with_reducible first|exact HB.out|apply bA|apply bN|apply bD)|exact HB.out)) hb)
             clear HO_5
             clear HO434
             clear HO442
             clear HO445
             clear HL452_1
             clear HO448
             clear HR452_1
             clear HB
             have HO_5:=n0_
             have HO434:=n1_
             have HO442:=n2_
             have HO445:=n3_
             have HL452_1:=n4_
             have HO448:=n5_
             have HO455:=n6_
             have HR452_1:=n7_
             have HB:=n8_
             clear n0_ n1_ n2_ n3_ n4_ n5_ n6_ n7_ n8_
             clear hb ho50
             refine hK.out _ _ ⟨HS0_,HS1_⟩ (fun hHeld => ?_)
             clear hK K
             refine norm_ (a':=?_) ?_ ?_
             rotate_left
             ·show Act.put _ (some 61) _ = _
              simp only [Act.put,sI,sZ,sS,i64_w,i32_w]
              rfl
             refine one_ (i:=2) (N:=some 56) #[bT,bT,bT,bT,bT,bT,bT,bT,bF,bF] rfl rfl (one_of HT_.out (by kernel_rfl)) (by decide) (fun K hK => ?_)
             refine Kd.N_append_rows_step k25 (w0:=w) w.heap.size (by rfl) (.tmp 54) (.tmp 55) 37 25 (.agg #[(.int .i64 0),(.slice none 0 0)]) 32 rfl Try.underlying37 info25 rfl (by decide) (by omega) v447 y446 t421 _ _ _ (fun k_ => some k_ ≠ (v444 : Value).ownBlock ∧ some k_ ≠ (v454 : Value).ownBlock) (fun k_ => ((fun k_ => some k_ ≠ (v444 : Value).ownBlock ∧ some k_ ≠ (v454 : Value).ownBlock)) k_ ∧ some k_ ≠ (v447 : Value).ownBlock) rfl rfl ?aO ?aR (fun _ hk => hk) ?aF ?aB ?aS ?aL ?_
             (case aR => exact (by skip;exact Kd.N_F (Kd.N_mono (ok':=(fun k_ => ((fun k_ => some k_ ≠ (v444 : Value).ownBlock ∧ some k_ ≠ (v454 : Value).ownBlock)) k_ ∧ some k_ ≠ (v447 : Value).ownBlock)) (HO_5.out) (fun k_ hk => ⟨⟨hk.1.1.2,hk.2⟩,hk.1.2⟩))))
             (case aB => exact (by repeat (first|(with_reducible first|exact HB.out|apply bA|apply bN|apply bD)|exact HB.out)))
             (case aF => exact (fun k_ hk => ⟨Kd.fresh' (Kd.N_lt (by (with_reducible repeat (first|apply Kd.N_alloc|apply Kd.N_drewN|apply Kd.N_drew));exact HO445.out)) k_ hk,Kd.fresh' (Kd.N_lt (by (with_reducible repeat (first|apply Kd.N_alloc|apply Kd.N_drewN|apply Kd.N_drew));exact HO455.out)) k_ hk⟩))
             (case aO => exact (by (with_reducible repeat (first|apply Kd.N_alloc|apply Kd.N_drewN|apply Kd.N_drew));exact Kd.N_mono HO448.out (fun _ hk => ⟨hk.1.2,hk.2⟩)))
             (case aS => exact (below_size (by repeat (first|(with_reducible first|exact HB.out|apply bA|apply bN|apply bD)|exact HB.out))))
             (case aL => have:=LMc30.out;omega)
             intro v450 w51 ho hb hg hat
             have HS0_:=cell_grown hg (hHeld.1) (cell_ne_row (fun e_ => ((HO448.out.1 _ e_.symm).1.1) rfl))
             have HS1_:=cell_grown hg (hHeld.2) (cell_ne_row (fun e_ => ((HO448.out.1 _ e_.symm).1.1) rfl))
             have hHN11_:=True.intro
             rw [← Ny449.out] at ho
             have n0_:=aM (Kd.N_afterv (ok:=(fun k_ => some k_ ≠ (v444 : Value).ownBlock ∧ some k_ ≠ (v454 : Value).ownBlock)) (by (with_reducible repeat (first|apply Kd.N_alloc|apply Kd.N_drewN|apply Kd.N_drew));exact Kd.N_mono HO_5.out (fun _ hk => ⟨⟨hk.1.1.2,hk.2⟩,hk.1.2⟩)) hg hat)
             have n1_:=aM (Kd.V_afterv (ok:=(fun k_ => some k_ ≠ (v444 : Value).ownBlock ∧ some k_ ≠ (v454 : Value).ownBlock)) (by (with_reducible repeat (first|apply Kd.V_alloc|apply Kd.V_drewN|apply Kd.V_drew));exact Kd.V_mono HO434.out (fun _ hk => ⟨⟨hk.1.1.2,hk.2⟩,hk.1.2⟩)) hg hat)
             have n2_:=aM (Kd.V_afterv (ok:=(fun k_ => some k_ ≠ (v444 : Value).ownBlock ∧ some k_ ≠ (v454 : Value).ownBlock)) (by (with_reducible repeat (first|apply Kd.V_alloc|apply Kd.V_drewN|apply Kd.V_drew));exact Kd.V_mono HO442.out (fun _ hk => ⟨⟨hk.1.1.2,hk.2⟩,hk.1.2⟩)) hg hat)
             have n3_:=aM (Kd.N_afterv (ok:=(fun k_ => some k_ ≠ (v454 : Value).ownBlock)) (by (with_reducible repeat (first|apply Kd.N_alloc|apply Kd.N_drewN|apply Kd.N_drew));exact Kd.N_mono HO445.out (fun _ hk => ⟨hk.2,hk.1.2⟩)) hg hat)
             have n4_:=aM (Kd.V_afterv (ok:=(fun k_ => some k_ ≠ (.slice (some ad452) t421.length co10 : Value).ownBlock ∧ some k_ ≠ (v444 : Value).ownBlock ∧ some k_ ≠ (v454 : Value).ownBlock)) (by (with_reducible repeat (first|apply Kd.V_alloc|apply Kd.V_drewN|apply Kd.V_drew));exact Kd.V_mono HL452_1.out (fun _ hk => ⟨⟨hk.1.1.2,⟨hk.1.1.1.2,hk.2⟩⟩,hk.1.2⟩)) hg hat)
             have n5_:=aM (Kd.N_afterv (ok:=(fun k_ => some k_ ≠ (.slice (some ad452) t421.length co10 : Value).ownBlock ∧ some k_ ≠ (v444 : Value).ownBlock)) (by (with_reducible repeat (first|apply Kd.N_alloc|apply Kd.N_drewN|apply Kd.N_drew));exact Kd.N_mono HO455.out (fun _ hk => ⟨⟨hk.1,hk.2.1⟩,hk.2.2⟩)) hg hat)
             have n6_:=aM (hb)
             have n7_:=aM (ho)
             clear HO_5
             clear HO434
             clear HO442
             clear HO445
             clear HL452_1
             clear HO455
             clear HB
             clear HO448
             have HO_5:=n0_
             have HO434:=n1_
             have HO442:=n2_
             have HO445:=n3_
             have HL452_1:=n4_
             have HO455:=n5_
             have HB:=n6_
             have HO451:=n7_
             clear n0_ n1_ n2_ n3_ n4_ n5_ n6_ n7_
             clear ho hb hg hat
             refine hK.out _ _ ⟨HS0_,HS1_⟩ (fun hHeld => ?_)
             clear hK K
             refine norm_ (a':=?_) ?_ ?_
             rotate_left
             ·show Act.put _ (some 56) _ = _
              simp only [Act.put,sI,sZ,sS,i64_w,i32_w]
              rfl
             exact norm_ (by simp only [putAll,Act.put,sI,sZ,sS]) (hCont (v447,v450,v454) _ ⟨hHeld,(by (with_reducible repeat (first|apply Kd.V_alloc|apply Kd.V_drewN|apply Kd.V_drew));exact Kd.V_mono HL452_1.out (fun _ hk => ⟨hk.1.2.1,⟨hk.2,⟨hk.1.2.2,hk.1.1⟩⟩⟩)),(by (with_reducible repeat (first|apply Kd.V_alloc|apply Kd.V_drewN|apply Kd.V_drew));exact Kd.V_mono HO434.out (fun _ hk => ⟨hk.1.1,⟨hk.2,hk.1.2⟩⟩)),(by (with_reducible repeat (first|apply Kd.V_alloc|apply Kd.V_drewN|apply Kd.V_drew));exact Kd.V_mono HO442.out (fun _ hk => ⟨hk.1.1,⟨hk.2,hk.1.2⟩⟩)),(by (with_reducible repeat (first|apply Kd.N_alloc|apply Kd.N_drewN|apply Kd.N_drew));exact Kd.N_mono HO445.out (fun _ hk => ⟨hk.2,hk.1⟩)),(by (with_reducible repeat (first|apply Kd.N_alloc|apply Kd.N_drewN|apply Kd.N_drew));exact HO451.out),(by (with_reducible repeat (first|apply Kd.N_alloc|apply Kd.N_drewN|apply Kd.N_drew));exact Kd.N_mono HO455.out (fun _ hk => ⟨hk.1.2,⟨hk.2,hk.1.1⟩⟩)),(by (with_reducible repeat (first|apply Kd.N_alloc|apply Kd.N_drewN|apply Kd.N_drew));exact Kd.N_mono HO_5.out (fun _ hk => ⟨hk.1.1,⟨hk.2,hk.1.2⟩⟩)),(by repeat (first|(with_reducible first|exact HB.out|apply bA|apply bN|apply bD)|exact HB.out))⟩)
           ·skip
            refine Kd.N_lit_step k25 _ 25 ?hg (N':=61) ?hd (xs:=([(⟨(rd_T25 t421 (ji22)).f0,(rd_T25 t421 (ji22)).f1⟩ : S25)] : List (S25))) (inner:=[.int .i64 ((rd_T25 t421 (ji22)).f0),.slice A452_1 ((rd_T25 t421 (ji22)).f1).length c452_1]) (ok:=(fun k_ => some k_ ≠ (.slice (some ad452) t421.length co10 : Value).ownBlock ∧ some k_ ≠ (v444 : Value).ownBlock)) (okp:=(fun k_ => some k_ ≠ (.slice (some ad452) t421.length co10 : Value).ownBlock ∧ some k_ ≠ (v444 : Value).ownBlock)) ?hr ?hp (fun _ hk => hk) ((show ∀ k_,w46.heap.size ≤ k_ → (fun k_ => some k_ ≠ (.slice (some ad452) t421.length co10 : Value).ownBlock ∧ some k_ ≠ (v444 : Value).ownBlock) k_ from fun k_ hk => ⟨Kd.fresh' (Kd.N_lt (by (with_reducible repeat (first|apply Kd.N_alloc|apply Kd.N_drewN|apply Kd.N_drew));exact HO_5.out)) k_ hk,Kd.fresh' (Kd.N_lt (by (with_reducible repeat (first|apply Kd.N_alloc|apply Kd.N_drewN|apply Kd.N_drew));exact HO445.out)) k_ hk⟩) _ (Nat.le_refl _)) (Below.refl _ _) (Nat.le_refl _) (by simp) ?_;(case hd => rfl);(case hg => rfl);(case hr => first|(go_simp;done)|(go_simp;rfl));(case hp => exact (Reps.c2 (show Kd.FK k25 _ _ (⟨(rd_T25 t421 (ji22)).f0,(rd_T25 t421 (ji22)).f1⟩ : S25) [.int .i64 ((rd_T25 t421 (ji22)).f0),.slice A452_1 ((rd_T25 t421 (ji22)).f1).length c452_1] from (k25_mkF _ _ (⟨(rd_T25 t421 (ji22)).f0,(rd_T25 t421 (ji22)).f1⟩ : S25) (Kd.V_reads' (Kd.V_mono (ok':=(fun k_ => some k_ ≠ (.slice (some ad452) t421.length co10 : Value).ownBlock ∧ some k_ ≠ (v444 : Value).ownBlock)) (HL452_1.out) (fun k_ hk => ⟨hk.2,hk.1.2⟩))).2.1 (Kd.V_F (Kd.V_mono (ok':=(fun k_ => some k_ ≠ (.slice (some ad452) t421.length co10 : Value).ownBlock ∧ some k_ ≠ (v444 : Value).ownBlock)) (HL452_1.out) (fun k_ hk => ⟨hk.2,hk.1.2⟩))))) (Reps.none _ _)))
            intro v454 w47 ho48 hb hg_ hnew_
            have HS0_:=(hb.cell (World.block_lt_of_cell? _ _ (hHeld.1))).trans (hHeld.1)
            have HS1_:=(hb.cell (World.block_lt_of_cell? _ _ (hHeld.2))).trans (hHeld.2)
            clear hg_ hnew_
            (first|rw [← Ny453.out] at ho48|(simp only [Int.reduceToNat] at ho48;rw [← Ny453.out] at ho48))
            have n0_:=aM (Kd.N_elder' (by (with_reducible repeat (first|apply Kd.N_alloc|apply Kd.N_drewN|apply Kd.N_drew));exact HO_5.out) (Kd.N_base ho48) hb)
            have n1_:=aM (Kd.V_elder' (by (with_reducible repeat (first|apply Kd.V_alloc|apply Kd.V_drewN|apply Kd.V_drew));exact HO434.out) (Kd.N_base ho48) hb)
            have n2_:=aM (Kd.V_elder' (by (with_reducible repeat (first|apply Kd.V_alloc|apply Kd.V_drewN|apply Kd.V_drew));exact HO442.out) (Kd.N_base ho48) hb)
            have n3_:=aM (Kd.N_elder' (by (with_reducible repeat (first|apply Kd.N_alloc|apply Kd.N_drewN|apply Kd.N_drew));exact HO445.out) (Kd.N_base ho48) hb)
            have n4_:=aM (Kd.V_elder' (by (with_reducible repeat (first|apply Kd.V_alloc|apply Kd.V_drewN|apply Kd.V_drew));exact HL452_1.out) (Kd.N_base ho48) hb)
            have n5_:=aM (Kd.N_lower ho48 (below_size (by repeat (first|(with_reducible first|exact HB.out|apply bA|apply bN|apply bD)|exact HB.out))))
            have n6_:=aM (Kd.C_below (by repeat (first|(with_reducible exact HR452_1.out)|(with_reducible refine Kd.C_alloc ?_ _)|(with_reducible refine Kd.C_drewN ?_ _)|(with_reducible refine Kd.C_drew ?_)|exact HR452_1.out)) hb)
            have n7_:=aM (below_step (by repeat (first|(with_reducible first|exact HB.out|apply bA|apply bN|apply bD)|exact HB.out)) hb)
            clear HO_5
            clear HO434
            clear HO442
            clear HO445
            clear HL452_1
            clear HR452_1
            clear HB
            have HO_5:=n0_
            have HO434:=n1_
            have HO442:=n2_
            have HO445:=n3_
            have HL452_1:=n4_
            have HO455:=n5_
            have HR452_1:=n6_
            have HB:=n7_
            clear n0_ n1_ n2_ n3_ n4_ n5_ n6_ n7_
            clear hb ho48
            refine hK.out _ _ ⟨HS0_,HS1_⟩ (fun hHeld => ?_)
            clear hK K
            refine norm_ (a':=?_) ?_ ?_
            rotate_left
            ·show Act.put _ (some 61) _ = _
             simp only [Act.put,sI,sZ,sS,i64_w,i32_w]
             rfl
            refine one_ (i:=0) (N:=some 54) #[bT,bT,bF,bT,bT,bT,bT,bT,bF,bF] rfl rfl (one_of HT_.out (by kernel_rfl)) (by decide) (fun K hK => ?_)
            refine Kd.N_lit_step k25 _ 25 ?hg (N':=54) ?hd (xs:=([] : List (S25))) (inner:=[]) (ok:=(fun k_ => some k_ ≠ (.slice (some ad452) t421.length co10 : Value).ownBlock ∧ some k_ ≠ (v444 : Value).ownBlock ∧ some k_ ≠ (v454 : Value).ownBlock)) (okp:=(fun k_ => some k_ ≠ (.slice (some ad452) t421.length co10 : Value).ownBlock ∧ some k_ ≠ (v444 : Value).ownBlock ∧ some k_ ≠ (v454 : Value).ownBlock)) ?hr ?hp (fun _ hk => hk) ((show ∀ k_,w47.heap.size ≤ k_ → (fun k_ => some k_ ≠ (.slice (some ad452) t421.length co10 : Value).ownBlock ∧ some k_ ≠ (v444 : Value).ownBlock ∧ some k_ ≠ (v454 : Value).ownBlock) k_ from fun k_ hk => ⟨Kd.fresh' (Kd.N_lt (by (with_reducible repeat (first|apply Kd.N_alloc|apply Kd.N_drewN|apply Kd.N_drew));exact HO_5.out)) k_ hk,Kd.fresh' (Kd.N_lt (by (with_reducible repeat (first|apply Kd.N_alloc|apply Kd.N_drewN|apply Kd.N_drew));exact HO445.out)) k_ hk,Kd.fresh' (Kd.N_lt (by (with_reducible repeat (first|apply Kd.N_alloc|apply Kd.N_drewN|apply Kd.N_drew));exact HO455.out)) k_ hk⟩) _ (Nat.le_refl _)) (Below.refl _ _) (Nat.le_refl _) (by simp) ?_;(case hd => rfl);(case hg => rfl);(case hr => first|(go_simp;done)|(go_simp;rfl));(case hp => exact (Reps.none _ _))
            intro v447 w49 ho50 hb hg_ hnew_
            have HS0_:=(hb.cell (World.block_lt_of_cell? _ _ (hHeld.1))).trans (hHeld.1)
            have HS1_:=(hb.cell (World.block_lt_of_cell? _ _ (hHeld.2))).trans (hHeld.2)
            clear hg_ hnew_
            (first|rw [← Ny446.out] at ho50|(simp only [Int.reduceToNat] at ho50;rw [← Ny446.out] at ho50))
            have n0_:=aM (Kd.N_elder' (by (with_reducible repeat (first|apply Kd.N_alloc|apply Kd.N_drewN|apply Kd.N_drew));exact HO_5.out) (Kd.N_base ho50) hb)
            have n1_:=aM (Kd.V_elder' (by (with_reducible repeat (first|apply Kd.V_alloc|apply Kd.V_drewN|apply Kd.V_drew));exact HO434.out) (Kd.N_base ho50) hb)
            have n2_:=aM (Kd.V_elder' (by (with_reducible repeat (first|apply Kd.V_alloc|apply Kd.V_drewN|apply Kd.V_drew));exact HO442.out) (Kd.N_base ho50) hb)
            have n3_:=aM (Kd.N_elder' (by (with_reducible repeat (first|apply Kd.N_alloc|apply Kd.N_drewN|apply Kd.N_drew));exact HO445.out) (Kd.N_base ho50) hb)
            have n4_:=aM (Kd.V_elder' (by (with_reducible repeat (first|apply Kd.V_alloc|apply Kd.V_drewN|apply Kd.V_drew));exact HL452_1.out) (Kd.N_base ho50) hb)
            have n5_:=aM (Kd.N_elder' (by (with_reducible repeat (first|apply Kd.N_alloc|apply Kd.N_drewN|apply Kd.N_drew));exact HO455.out) (Kd.N_base ho50) hb)
            have n6_:=aM (Kd.N_lower ho50 (below_size (by repeat (first|(with_reducible first|exact HB.out|apply bA|apply bN|apply bD)|exact HB.out))))
            have n7_:=aM (Kd.C_below (by repeat (first|(with_reducible exact HR452_1.out)|(with_reducible refine Kd.C_alloc ?_ _)|(with_reducible refine Kd.C_drewN ?_ _)|(with_reducible refine Kd.C_drew ?_)|exact HR452_1.out)) hb)
            have n8_:=aM (below_step (by repeat (first|(with_reducible first|exact HB.out|apply bA|apply bN|apply bD)|exact HB.out)) hb)
            clear HO_5
            clear HO434
            clear HO442
            clear HO445
            clear HL452_1
            clear HO455
            clear HR452_1
            clear HB
            have HO_5:=n0_
            have HO434:=n1_
            have HO442:=n2_
            have HO445:=n3_
            have HL452_1:=n4_
            have HO455:=n5_
            have HO448:=n6_
            have HR452_1:=n7_
            have HB:=n8_
            clear n0_ n1_ n2_ n3_ n4_ n5_ n6_ n7_ n8_
            clear hb ho50
            refine hK.out _ _ ⟨HS0_,HS1_⟩ (fun hHeld => ?_)
            clear hK K
            refine norm_ (a':=?_) ?_ ?_
            rotate_left
            ·show Act.put _ (some 54) _ = _
             simp only [Act.put,sI,sZ,sS,i64_w,i32_w]
             rfl
            refine one_ (i:=2) (N:=some 56) #[bT,bT,bT,bT,bT,bT,bT,bT,bF,bF] rfl rfl (one_of HT_.out (by kernel_rfl)) (by decide) (fun K hK => ?_)
            refine Kd.N_append_rows_step k25 (w0:=w) w.heap.size (by rfl) (.tmp 54) (.tmp 55) 37 25 (.agg #[(.int .i64 0),(.slice none 0 0)]) 32 rfl Try.underlying37 info25 rfl (by decide) (by omega) v447 y446 t421 _ _ _ (fun k_ => some k_ ≠ (v444 : Value).ownBlock ∧ some k_ ≠ (v454 : Value).ownBlock) (fun k_ => ((fun k_ => some k_ ≠ (v444 : Value).ownBlock ∧ some k_ ≠ (v454 : Value).ownBlock)) k_ ∧ some k_ ≠ (v447 : Value).ownBlock) rfl rfl ?aO ?aR (fun _ hk => hk) ?aF ?aB ?aS ?aL ?_
            (case aR => exact (by skip;exact Kd.N_F (Kd.N_mono (ok':=(fun k_ => ((fun k_ => some k_ ≠ (v444 : Value).ownBlock ∧ some k_ ≠ (v454 : Value).ownBlock)) k_ ∧ some k_ ≠ (v447 : Value).ownBlock)) (HO_5.out) (fun k_ hk => ⟨⟨hk.1.1.2,hk.1.2⟩,hk.2⟩))))
            (case aB => exact (by repeat (first|(with_reducible first|exact HB.out|apply bA|apply bN|apply bD)|exact HB.out)))
            (case aF => exact (fun k_ hk => ⟨Kd.fresh' (Kd.N_lt (by (with_reducible repeat (first|apply Kd.N_alloc|apply Kd.N_drewN|apply Kd.N_drew));exact HO445.out)) k_ hk,Kd.fresh' (Kd.N_lt (by (with_reducible repeat (first|apply Kd.N_alloc|apply Kd.N_drewN|apply Kd.N_drew));exact HO455.out)) k_ hk⟩))
            (case aO => exact (by (with_reducible repeat (first|apply Kd.N_alloc|apply Kd.N_drewN|apply Kd.N_drew));exact Kd.N_mono HO448.out (fun _ hk => ⟨hk.2.1,hk.2.2⟩)))
            (case aS => exact (below_size (by repeat (first|(with_reducible first|exact HB.out|apply bA|apply bN|apply bD)|exact HB.out))))
            (case aL => have:=LMc30.out;omega)
            intro v450 w51 ho hb hg hat
            have HS0_:=cell_grown hg (hHeld.1) (cell_ne_row (fun e_ => ((HO448.out.1 _ e_.symm).1) rfl))
            have HS1_:=cell_grown hg (hHeld.2) (cell_ne_row (fun e_ => ((HO448.out.1 _ e_.symm).1) rfl))
            have hHN14_:=True.intro
            rw [← Ny449.out] at ho
            have n0_:=aM (Kd.N_afterv (ok:=(fun k_ => some k_ ≠ (v444 : Value).ownBlock ∧ some k_ ≠ (v454 : Value).ownBlock)) (by (with_reducible repeat (first|apply Kd.N_alloc|apply Kd.N_drewN|apply Kd.N_drew));exact Kd.N_mono HO_5.out (fun _ hk => ⟨⟨hk.1.1.2,hk.1.2⟩,hk.2⟩)) hg hat)
            have n1_:=aM (Kd.V_afterv (ok:=(fun k_ => some k_ ≠ (v444 : Value).ownBlock ∧ some k_ ≠ (v454 : Value).ownBlock)) (by (with_reducible repeat (first|apply Kd.V_alloc|apply Kd.V_drewN|apply Kd.V_drew));exact Kd.V_mono HO434.out (fun _ hk => ⟨⟨hk.1.1.2,hk.1.2⟩,hk.2⟩)) hg hat)
            have n2_:=aM (Kd.V_afterv (ok:=(fun k_ => some k_ ≠ (v444 : Value).ownBlock ∧ some k_ ≠ (v454 : Value).ownBlock)) (by (with_reducible repeat (first|apply Kd.V_alloc|apply Kd.V_drewN|apply Kd.V_drew));exact Kd.V_mono HO442.out (fun _ hk => ⟨⟨hk.1.1.2,hk.1.2⟩,hk.2⟩)) hg hat)
            have n3_:=aM (Kd.N_afterv (ok:=(fun k_ => some k_ ≠ (v454 : Value).ownBlock)) (by (with_reducible repeat (first|apply Kd.N_alloc|apply Kd.N_drewN|apply Kd.N_drew));exact Kd.N_mono HO445.out (fun _ hk => ⟨hk.1.2,hk.2⟩)) hg hat)
            have n4_:=aM (Kd.V_afterv (ok:=(fun k_ => some k_ ≠ (.slice (some ad452) t421.length co10 : Value).ownBlock ∧ some k_ ≠ (v444 : Value).ownBlock ∧ some k_ ≠ (v454 : Value).ownBlock)) (by (with_reducible repeat (first|apply Kd.V_alloc|apply Kd.V_drewN|apply Kd.V_drew));exact Kd.V_mono HL452_1.out (fun _ hk => ⟨⟨hk.1.1.2,⟨hk.1.1.1.2,hk.1.2⟩⟩,hk.2⟩)) hg hat)
            have n5_:=aM (Kd.N_afterv (ok:=(fun k_ => some k_ ≠ (.slice (some ad452) t421.length co10 : Value).ownBlock ∧ some k_ ≠ (v444 : Value).ownBlock)) (by (with_reducible repeat (first|apply Kd.N_alloc|apply Kd.N_drewN|apply Kd.N_drew));exact HO455.out) hg hat)
            have n6_:=aM (hb)
            have n7_:=aM (ho)
            clear HO_5
            clear HO434
            clear HO442
            clear HO445
            clear HL452_1
            clear HO455
            clear HB
            clear HO448
            have HO_5:=n0_
            have HO434:=n1_
            have HO442:=n2_
            have HO445:=n3_
            have HL452_1:=n4_
            have HO455:=n5_
            have HB:=n6_
            have HO451:=n7_
            clear n0_ n1_ n2_ n3_ n4_ n5_ n6_ n7_
            clear ho hb hg hat
            refine hK.out _ _ ⟨HS0_,HS1_⟩ (fun hHeld => ?_)
            clear hK K
            refine norm_ (a':=?_) ?_ ?_
            rotate_left
            ·show Act.put _ (some 56) _ = _
             simp only [Act.put,sI,sZ,sS,i64_w,i32_w]
             rfl
            exact norm_ (by simp only [putAll,Act.put,sI,sZ,sS]) (hCont (v447,v450,v454) _ ⟨hHeld,(by (with_reducible repeat (first|apply Kd.V_alloc|apply Kd.V_drewN|apply Kd.V_drew));exact Kd.V_mono HL452_1.out (fun _ hk => ⟨hk.1.2.1,⟨hk.2,⟨hk.1.2.2,hk.1.1⟩⟩⟩)),(by (with_reducible repeat (first|apply Kd.V_alloc|apply Kd.V_drewN|apply Kd.V_drew));exact Kd.V_mono HO434.out (fun _ hk => ⟨hk.1.1,⟨hk.2,hk.1.2⟩⟩)),(by (with_reducible repeat (first|apply Kd.V_alloc|apply Kd.V_drewN|apply Kd.V_drew));exact Kd.V_mono HO442.out (fun _ hk => ⟨hk.1.1,⟨hk.2,hk.1.2⟩⟩)),(by (with_reducible repeat (first|apply Kd.N_alloc|apply Kd.N_drewN|apply Kd.N_drew));exact Kd.N_mono HO445.out (fun _ hk => ⟨hk.2,hk.1⟩)),(by (with_reducible repeat (first|apply Kd.N_alloc|apply Kd.N_drewN|apply Kd.N_drew));exact HO451.out),(by (with_reducible repeat (first|apply Kd.N_alloc|apply Kd.N_drewN|apply Kd.N_drew));exact Kd.N_mono HO455.out (fun _ hk => ⟨hk.1.2,⟨hk.2,hk.1.1⟩⟩)),(by (with_reducible repeat (first|apply Kd.N_alloc|apply Kd.N_drewN|apply Kd.N_drew));exact Kd.N_mono HO_5.out (fun _ hk => ⟨hk.1.1,⟨hk.2,hk.1.2⟩⟩)),(by repeat (first|(with_reducible first|exact HB.out|apply bA|apply bN|apply bD)|exact HB.out))⟩)
          rintro ⟨v447,v450,v454⟩ w52 ⟨hS_,h0_,h1_,h2_,h3_,h4_,h5_,h6_,h7_⟩
          have n0_ : Aside0 (Kd.V k65 65 w52 w.heap.size (fun k_ => some k_ ≠ (v444 : Value).ownBlock ∧ some k_ ≠ (v450 : Value).ownBlock ∧ some k_ ≠ (v454 : Value).ownBlock ∧ some k_ ≠ (.slice (some ad452) t421.length co10 : Value).ownBlock) (.slice A452_1 ((rd_T25 t421 (ji22)).f1).length c452_1) ((rd_T25 t421 (ji22)).f1)):=⟨h0_⟩
          have n1_ : Aside0 (Kd.V k25 25 w52 w.heap.size (fun k_ => some k_ ≠ (v444 : Value).ownBlock ∧ some k_ ≠ (v450 : Value).ownBlock ∧ some k_ ≠ (v454 : Value).ownBlock) (.slice (some ad452) y430.length co10) y430):=⟨h1_⟩
          have n2_ : Aside0 (Kd.V k25 25 w52 w.heap.size (fun k_ => some k_ ≠ (v444 : Value).ownBlock ∧ some k_ ≠ (v450 : Value).ownBlock ∧ some k_ ≠ (v454 : Value).ownBlock) (.slice A41 y438.length c41) y438):=⟨h2_⟩
          have n3_ : Aside0 (Kd.N k25 25 w52 w.heap.size (fun k_ => some k_ ≠ (v450 : Value).ownBlock ∧ some k_ ≠ (v454 : Value).ownBlock) v444 y443):=⟨h3_⟩
          have n4_ : Aside0 (Kd.N k25 25 w52 w.heap.size (fun k_ => some k_ ≠ (v444 : Value).ownBlock ∧ some k_ ≠ (v454 : Value).ownBlock) v450 y449):=⟨h4_⟩
          have n5_ : Aside0 (Kd.N k25 25 w52 w.heap.size (fun k_ => some k_ ≠ (v444 : Value).ownBlock ∧ some k_ ≠ (v450 : Value).ownBlock ∧ some k_ ≠ (.slice (some ad452) t421.length co10 : Value).ownBlock) v454 y453):=⟨h5_⟩
          have n6_ : Aside0 (Kd.N k25 25 w52 w.heap.size (fun k_ => some k_ ≠ (v444 : Value).ownBlock ∧ some k_ ≠ (v450 : Value).ownBlock ∧ some k_ ≠ (v454 : Value).ownBlock) (.slice (some ad452) t421.length co10) t421):=⟨h6_⟩
          have n7_ : Aside0 (Below w.heap.size w w52):=⟨h7_⟩
          clear HO_5
          clear HO434
          clear HO442
          clear HO445
          clear HB
          clear h0_ h1_ h2_ h3_ h4_ h5_ h6_ h7_
          have HL452_1:=n0_
          have HO434:=n1_
          have HO442:=n2_
          have HO445:=n3_
          have HO451:=n4_
          have HO455:=n5_
          have HO_5:=n6_
          have HB:=n7_
          clear n0_ n1_ n2_ n3_ n4_ n5_ n6_ n7_
          have hHeld : w52.cell? (ad452.add (((ji22)).toNat * 2)) = some (.int .i64 ((rd_T25 t421 (ji22)).f0)) ∧ w52.cell? ⟨(ad452.add (((ji22)).toNat * 2)).block,(ad452.add (((ji22)).toNat * 2)).off + 1,none⟩ = some (.slice A452_1 ((rd_T25 t421 (ji22)).f1).length c452_1):=hS_
          obtain ⟨Ao54,co54,eo54⟩:=Kd.N_slice HO455.out
          (first|subst eo54|(injection eo54 with f1_ f2_ f3_;have f4_:=f1_.symm;have f5_:=f3_.symm;clear f1_ f2_ f3_;subst f4_;subst f5_))
          refine norm_ (a':=?_) ?_ ?_
          rotate_left
          ·simp only [putAll,Act.put,sI,sZ,sS]
           rfl
          refine one_ (i:=8) (N:=some 62) #[bT,bT,bT,bT,bT,bT,bT,bT,bT,bF] rfl rfl (one_of HT_.out (by kernel_rfl)) (by decide) (fun K hK => ?_)
          refine Kd.N_append_rows_step k25 (w0:=w) w.heap.size (by rfl) (.tmp 56) (.tmp 61) 37 25 (.agg #[(.int .i64 0),(.slice none 0 0)]) 32 rfl Try.underlying37 info25 rfl (by decide) (by omega) v450 y449 y453 _ _ _ (fun k_ => some k_ ≠ (v444 : Value).ownBlock) (fun k_ => ((fun k_ => some k_ ≠ (v444 : Value).ownBlock)) k_ ∧ some k_ ≠ (v450 : Value).ownBlock) rfl rfl ?aO ?aR (fun _ hk => hk) ?aF ?aB ?aS ?aL ?_
          (case aR => exact (by skip;exact Kd.N_F (Kd.N_mono (ok':=(fun k_ => ((fun k_ => some k_ ≠ (v444 : Value).ownBlock)) k_ ∧ some k_ ≠ (v450 : Value).ownBlock)) (HO455.out) (fun k_ hk => ⟨hk.1,hk.2.1⟩))))
          (case aB => exact (by repeat (first|(with_reducible first|exact HB.out|apply bA|apply bN|apply bD)|exact HB.out)))
          (case aF => exact (fun k_ hk => Kd.fresh' (Kd.N_lt (by (with_reducible repeat (first|apply Kd.N_alloc|apply Kd.N_drewN|apply Kd.N_drew));exact HO445.out)) k_ hk))
          (case aO => exact (by (with_reducible repeat (first|apply Kd.N_alloc|apply Kd.N_drewN|apply Kd.N_drew));exact Kd.N_mono HO451.out (fun _ hk => hk.1)))
          (case aS => exact (below_size (by repeat (first|(with_reducible first|exact HB.out|apply bA|apply bN|apply bD)|exact HB.out))))
          (case aL => have:=LMc32.out;omega)
          intro v457 w53 ho hb hg hat
          have HS0_:=cell_grown hg (hHeld.1) (cell_ne_row ((HO_5.out.1 _ rfl).2.1))
          have HS1_:=cell_grown hg (hHeld.2) (cell_ne_row ((HO_5.out.1 _ rfl).2.1))
          have hHN16_:=True.intro
          rw [← Ny456.out] at ho
          have n0_:=aM (Kd.N_afterv (ok:=(fun k_ => some k_ ≠ (v444 : Value).ownBlock ∧ some k_ ≠ (.slice Ao54 y453.length co54 : Value).ownBlock)) (by (with_reducible repeat (first|apply Kd.N_alloc|apply Kd.N_drewN|apply Kd.N_drew));exact Kd.N_mono HO_5.out (fun _ hk => ⟨⟨hk.1,hk.2.2⟩,hk.2.1⟩)) hg hat)
          have n1_:=aM (Kd.V_afterv (ok:=(fun k_ => some k_ ≠ (v444 : Value).ownBlock ∧ some k_ ≠ (.slice Ao54 y453.length co54 : Value).ownBlock)) (by (with_reducible repeat (first|apply Kd.V_alloc|apply Kd.V_drewN|apply Kd.V_drew));exact Kd.V_mono HO434.out (fun _ hk => ⟨⟨hk.1,hk.2.2⟩,hk.2.1⟩)) hg hat)
          have n2_:=aM (Kd.V_afterv (ok:=(fun k_ => some k_ ≠ (v444 : Value).ownBlock ∧ some k_ ≠ (.slice Ao54 y453.length co54 : Value).ownBlock)) (by (with_reducible repeat (first|apply Kd.V_alloc|apply Kd.V_drewN|apply Kd.V_drew));exact Kd.V_mono HO442.out (fun _ hk => ⟨⟨hk.1,hk.2.2⟩,hk.2.1⟩)) hg hat)
          have n3_:=aM (Kd.N_afterv (ok:=(fun k_ => some k_ ≠ (.slice Ao54 y453.length co54 : Value).ownBlock)) (by (with_reducible repeat (first|apply Kd.N_alloc|apply Kd.N_drewN|apply Kd.N_drew));exact Kd.N_mono HO445.out (fun _ hk => ⟨hk.2,hk.1⟩)) hg hat)
          have n4_:=aM (Kd.V_afterv (ok:=(fun k_ => some k_ ≠ (.slice (some ad452) t421.length co10 : Value).ownBlock ∧ some k_ ≠ (v444 : Value).ownBlock ∧ some k_ ≠ (.slice Ao54 y453.length co54 : Value).ownBlock)) (by (with_reducible repeat (first|apply Kd.V_alloc|apply Kd.V_drewN|apply Kd.V_drew));exact Kd.V_mono HL452_1.out (fun _ hk => ⟨⟨hk.2.2.2,⟨hk.1,hk.2.2.1⟩⟩,hk.2.1⟩)) hg hat)
          have n5_:=aM (Kd.N_afterv (ok:=(fun k_ => some k_ ≠ (.slice (some ad452) t421.length co10 : Value).ownBlock ∧ some k_ ≠ (v444 : Value).ownBlock)) (by (with_reducible repeat (first|apply Kd.N_alloc|apply Kd.N_drewN|apply Kd.N_drew));exact Kd.N_mono HO455.out (fun _ hk => ⟨⟨hk.2.2,hk.1⟩,hk.2.1⟩)) hg hat)
          have n6_:=aM (hb)
          have n7_:=aM (ho)
          clear HO_5
          clear HO434
          clear HO442
          clear HO445
          clear HL452_1
          clear HO455
          clear HB
          clear HO451
          have HO_5:=n0_
          have HO434:=n1_
          have HO442:=n2_
          have HO445:=n3_
          have HL452_1:=n4_
          have HO455:=n5_
          have HB:=n6_
          have HO458:=n7_
          clear n0_ n1_ n2_ n3_ n4_ n5_ n6_ n7_
          clear ho hb hg hat
          refine hK.out _ _ ⟨HS0_,HS1_⟩ (fun hHeld => ?_)
          clear hK K
          refine norm_ (a':=?_) ?_ ?_
          rotate_left
          ·show Act.put _ (some 62) _ = _
           simp only [Act.put,sI,sZ,sS,i64_w,i32_w]
           rfl
          refine pure_ (i:=9) (N:=some 9) (v:=?_) (a':=?_) #[bT,bT,bT,bT,bT,bT,bT,bT,bT,bT] rfl rfl (any_of HT_.out (by kernel_rfl)) (fun _ _ _ h => h) (Or.inl ⟨by rfl,?_⟩) ?_ ?_
          rotate_left;(· intro w';go_simp;with_reducible rfl);rotate_left;(· simp only [Act.put,sI,sZ,sS,i64_w,i32_w];rfl)
          refine done_ (done_of HT_.out (by kernel_rfl)) ?_
          obtain ⟨Ao55,co55,eo55⟩:=Kd.N_slice HO445.out
          subst eo55
          try go_wp2_with (first|((with_reducible refine gate_callee (f:=24) rfl ?_);refine goesL_ (some 64) rfl rfl Try.func24 (by kernel_rfl) rfl #[.slice Ao55 y443.length co55] rfl (by (try simp only [List.map_toArray,List.map_cons,List.map_nil]);first|done|rfl|(simp only [List.length_drop,List.length_take];rfl)) ?_;(with_reducible refine (impl_VotesOk.calls kj7 _ _ y443 true _ ?side1 ?side2 A33.out).mono ?_);(case side1 => repeat (first|exact (Kd.N_reads' HO445.out).2.2|(with_reducible refine Kd.C_alloc ?_ _)|(with_reducible refine Kd.C_drewN ?_ _)|(with_reducible refine Kd.C_drew ?_)));(case side2 => exact (Kd.N_reads' HO445.out).2.1);rintro e w56 ⟨rfl,hb⟩;refine ⟨_,rfl,?_⟩;have n0_:=aM (Kd.N_below (by (with_reducible repeat (first|apply Kd.N_alloc|apply Kd.N_drewN|apply Kd.N_drew));exact HO_5.out) hb);have n1_:=aM (Kd.V_below (by (with_reducible repeat (first|apply Kd.V_alloc|apply Kd.V_drewN|apply Kd.V_drew));exact HO434.out) hb);have n2_:=aM (Kd.V_below (by (with_reducible repeat (first|apply Kd.V_alloc|apply Kd.V_drewN|apply Kd.V_drew));exact HO442.out) hb);have n3_:=aM (Kd.N_below (by (with_reducible repeat (first|apply Kd.N_alloc|apply Kd.N_drewN|apply Kd.N_drew));exact HO445.out) hb);have n4_:=aM (Kd.V_below (by (with_reducible repeat (first|apply Kd.V_alloc|apply Kd.V_drewN|apply Kd.V_drew));exact HL452_1.out) hb);have n5_:=aM (Kd.N_below (by (with_reducible repeat (first|apply Kd.N_alloc|apply Kd.N_drewN|apply Kd.N_drew));exact HO455.out) hb);have n6_:=aM (Kd.N_below (by (with_reducible repeat (first|apply Kd.N_alloc|apply Kd.N_drewN|apply Kd.N_drew));exact HO458.out) hb);have n7_:=aM (below_step (by repeat (first|(with_reducible first|exact HB.out|apply bA|apply bN|apply bD)|exact HB.out)) hb);clear HO_5;clear HO434;clear HO442;clear HO445;clear HL452_1;clear HO455;clear HO458;clear HB;have HO_5:=n0_;have HO434:=n1_;have HO442:=n2_;have HO445:=n3_;have HL452_1:=n4_;have HO455:=n5_;have HO458:=n6_;have HB:=n7_;clear n0_ n1_ n2_ n3_ n4_ n5_ n6_ n7_;(try clear hb);(try clear hb2);(try clear hk);(try clear hi))|(go_at_call 27;(with_reducible refine (laws_lwBack.calls kj7 (fun k_ => ((some k_ ≠ (.slice Ao55 y443.length co55 : Value).ownBlock ∧ some k_ ≠ (.slice Ao54 y453.length co54 : Value).ownBlock) ∧ some k_ ≠ (v457 : Value).ownBlock)) _ _ t421 t460 _ ?side1 A35.out).mono ?_);(case side1 => exact Kd.N_V (HO_5.out));rintro e w57 ⟨v461,rfl,ho0,hb⟩;have n0_:=aM (Kd.N_elder' (by (with_reducible repeat (first|apply Kd.N_alloc|apply Kd.N_drewN|apply Kd.N_drew));exact HO_5.out) (Kd.N_base ho0) hb);have n1_:=aM (Kd.V_elder' (by (with_reducible repeat (first|apply Kd.V_alloc|apply Kd.V_drewN|apply Kd.V_drew));exact HO434.out) (Kd.N_base ho0) hb);have n2_:=aM (Kd.V_elder' (by (with_reducible repeat (first|apply Kd.V_alloc|apply Kd.V_drewN|apply Kd.V_drew));exact HO442.out) (Kd.N_base ho0) hb);have n3_:=aM (Kd.N_elder' (by (with_reducible repeat (first|apply Kd.N_alloc|apply Kd.N_drewN|apply Kd.N_drew));exact HO445.out) (Kd.N_base ho0) hb);have n4_:=aM (Kd.V_elder' (by (with_reducible repeat (first|apply Kd.V_alloc|apply Kd.V_drewN|apply Kd.V_drew));exact HL452_1.out) (Kd.N_base ho0) hb);have n5_:=aM (Kd.N_elder' (by (with_reducible repeat (first|apply Kd.N_alloc|apply Kd.N_drewN|apply Kd.N_drew));exact HO455.out) (Kd.N_base ho0) hb);have n6_:=aM (Kd.N_elder' (by (with_reducible repeat (first|apply Kd.N_alloc|apply Kd.N_drewN|apply Kd.N_drew));exact HO458.out) (Kd.N_base ho0) hb);have n7_:=aM (Kd.N_lower (Kd.N_mono (ok':=fun k_ => some k_ ≠ (.slice Ao55 y443.length co55 : Value).ownBlock ∧ some k_ ≠ (.slice Ao54 y453.length co54 : Value).ownBlock ∧ some k_ ≠ (v457 : Value).ownBlock) ho0 (fun k_ hk_ => ⟨Or.elim hk_ (fun hs_ => hs_.1.1) (fun hn_ => (Kd.fresh' (Kd.N_lt (by (with_reducible repeat (first|apply Kd.N_alloc|apply Kd.N_drewN|apply Kd.N_drew));exact HO445.out)) k_ hn_)),Or.elim hk_ (fun hs_ => hs_.1.2) (fun hn_ => (Kd.fresh' (Kd.N_lt (by (with_reducible repeat (first|apply Kd.N_alloc|apply Kd.N_drewN|apply Kd.N_drew));exact HO455.out)) k_ hn_)),Or.elim hk_ (fun hs_ => hs_.2) (fun hn_ => (Kd.fresh' (Kd.N_lt (by (with_reducible repeat (first|apply Kd.N_alloc|apply Kd.N_drewN|apply Kd.N_drew));exact HO458.out)) k_ hn_))⟩)) (below_size (by repeat (first|(with_reducible first|exact HB.out|apply bA|apply bN|apply bD)|exact HB.out))));have n8_:=aM (below_step (by repeat (first|(with_reducible first|exact HB.out|apply bA|apply bN|apply bD)|exact HB.out)) hb);clear HO_5;clear HO434;clear HO442;clear HO445;clear HL452_1;clear HO455;clear HO458;clear HB;have HO_5:=n0_;have HO434:=n1_;have HO442:=n2_;have HO445:=n3_;have HL452_1:=n4_;have HO455:=n5_;have HO458:=n6_;have HO462:=n7_;have HB:=n8_;clear n0_ n1_ n2_ n3_ n4_ n5_ n6_ n7_ n8_;(try clear hb);(try clear hb2);(try clear hk);(try clear hi);(try clear ho0);obtain ⟨Ao58,co58,eo58⟩:=Kd.N_slice HO462.out;subst eo58)|(go_at_call 24;(with_reducible refine (impl_VotesOk.calls kj7 _ _ t460 true _ ?side1 ?side2 A36.out).mono ?_);(case side1 => repeat (first|exact (Kd.N_reads' HO462.out).2.2|(with_reducible refine Kd.C_alloc ?_ _)|(with_reducible refine Kd.C_drewN ?_ _)|(with_reducible refine Kd.C_drew ?_)));(case side2 => exact (Kd.N_reads' HO462.out).2.1);rintro e w59 ⟨rfl,hb⟩;have n0_:=aM (Kd.N_below (by (with_reducible repeat (first|apply Kd.N_alloc|apply Kd.N_drewN|apply Kd.N_drew));exact HO_5.out) hb);have n1_:=aM (Kd.V_below (by (with_reducible repeat (first|apply Kd.V_alloc|apply Kd.V_drewN|apply Kd.V_drew));exact HO434.out) hb);have n2_:=aM (Kd.V_below (by (with_reducible repeat (first|apply Kd.V_alloc|apply Kd.V_drewN|apply Kd.V_drew));exact HO442.out) hb);have n3_:=aM (Kd.N_below (by (with_reducible repeat (first|apply Kd.N_alloc|apply Kd.N_drewN|apply Kd.N_drew));exact HO445.out) hb);have n4_:=aM (Kd.V_below (by (with_reducible repeat (first|apply Kd.V_alloc|apply Kd.V_drewN|apply Kd.V_drew));exact HL452_1.out) hb);have n5_:=aM (Kd.N_below (by (with_reducible repeat (first|apply Kd.N_alloc|apply Kd.N_drewN|apply Kd.N_drew));exact HO455.out) hb);have n6_:=aM (Kd.N_below (by (with_reducible repeat (first|apply Kd.N_alloc|apply Kd.N_drewN|apply Kd.N_drew));exact HO458.out) hb);have n7_:=aM (Kd.N_below (by (with_reducible repeat (first|apply Kd.N_alloc|apply Kd.N_drewN|apply Kd.N_drew));exact HO462.out) hb);have n8_:=aM (below_step (by repeat (first|(with_reducible first|exact HB.out|apply bA|apply bN|apply bD)|exact HB.out)) hb);clear HO_5;clear HO434;clear HO442;clear HO445;clear HL452_1;clear HO455;clear HO458;clear HO462;clear HB;have HO_5:=n0_;have HO434:=n1_;have HO442:=n2_;have HO445:=n3_;have HL452_1:=n4_;have HO455:=n5_;have HO458:=n6_;have HO462:=n7_;have HB:=n8_;clear n0_ n1_ n2_ n3_ n4_ n5_ n6_ n7_ n8_;(try clear hb);(try clear hb2);(try clear hk);(try clear hi);obtain ⟨Ao60,co60,eo60⟩:=Kd.N_slice HO458.out;subst eo60)|(go_at_call 24;(with_reducible refine (impl_VotesOk.calls kj7 _ _ y456 t464 _ ?side1 ?side2 A38.out).mono ?_);(case side1 => repeat (first|exact (Kd.N_reads' HO458.out).2.2|(with_reducible refine Kd.C_alloc ?_ _)|(with_reducible refine Kd.C_drewN ?_ _)|(with_reducible refine Kd.C_drew ?_)));(case side2 => exact (Kd.N_reads' HO458.out).2.1);rintro e w61 ⟨rfl,hb⟩;have n0_:=aM (Kd.N_below (by (with_reducible repeat (first|apply Kd.N_alloc|apply Kd.N_drewN|apply Kd.N_drew));exact HO_5.out) hb);have n1_:=aM (Kd.V_below (by (with_reducible repeat (first|apply Kd.V_alloc|apply Kd.V_drewN|apply Kd.V_drew));exact HO434.out) hb);have n2_:=aM (Kd.V_below (by (with_reducible repeat (first|apply Kd.V_alloc|apply Kd.V_drewN|apply Kd.V_drew));exact HO442.out) hb);have n3_:=aM (Kd.N_below (by (with_reducible repeat (first|apply Kd.N_alloc|apply Kd.N_drewN|apply Kd.N_drew));exact HO445.out) hb);have n4_:=aM (Kd.V_below (by (with_reducible repeat (first|apply Kd.V_alloc|apply Kd.V_drewN|apply Kd.V_drew));exact HL452_1.out) hb);have n5_:=aM (Kd.N_below (by (with_reducible repeat (first|apply Kd.N_alloc|apply Kd.N_drewN|apply Kd.N_drew));exact HO455.out) hb);have n6_:=aM (Kd.N_below (by (with_reducible repeat (first|apply Kd.N_alloc|apply Kd.N_drewN|apply Kd.N_drew));exact HO458.out) hb);have n7_:=aM (Kd.N_below (by (with_reducible repeat (first|apply Kd.N_alloc|apply Kd.N_drewN|apply Kd.N_drew));exact HO462.out) hb);have n8_:=aM (below_step (by repeat (first|(with_reducible first|exact HB.out|apply bA|apply bN|apply bD)|exact HB.out)) hb);clear HO_5;clear HO434;clear HO442;clear HO445;clear HL452_1;clear HO455;clear HO458;clear HO462;clear HB;have HO_5:=n0_;have HO434:=n1_;have HO442:=n2_;have HO445:=n3_;have HL452_1:=n4_;have HO455:=n5_;have HO458:=n6_;have HO462:=n7_;have HB:=n8_;clear n0_ n1_ n2_ n3_ n4_ n5_ n6_ n7_ n8_;(try clear hb);(try clear hb2);(try clear hk);(try clear hi)))
          go_ret
          exact ⟨by first|rfl|(simp only [i64_w,i32_w];done)|(simp only [i64_w,i32_w];rfl)|(simp [errW_none,errW_some] <;> rfl)|(simp only [← hji22,← hji26];first|rfl|(simp [errW_none,errW_some] <;> rfl))|(simp [*,errW_none,errW_some] <;> rfl),by repeat (first|(with_reducible first|exact HB.out|apply bA|apply bN|apply bD)|exact HB.out)⟩
         ·replace c37:=Bool.eq_false_iff.mpr c37
          subst c37
          have H1 : (some false) = some r:=by rw [if_neg (show ¬ (false = true) by decide)] at H;exact H
          clear H
          have H:=H1
          clear H1
          obtain rfl:=Option.some.inj H
          try go_wp2
          have n0_:=aM (Kd.N_drew HO_5.out)
          have n1_:=aM (bD HB.out)
          clear HO_5
          clear HB
          have HO_5:=n0_
          have HB:=n1_
          clear n0_ n1_
          have q63 : ((ji22) : Int) ≤ ((t421.length : Int) : Int):=of_decide_eq_true (by first|(with_reducible assumption)|assumption)
          obtain ⟨i063,hi063,_,hsz63,_⟩:=info_parts info25
          have hroom63 : t421.length ≤ co10:=(Kd.N_reads' HO_5.out).2.1
          have hC63 : Kd.F k25 _ _ Ao10 t421.length t421:=(Kd.V_at (base:=w.heap.size) (Kd.N_V HO_5.out)).2.2
          have hcut63:=cut_to (P:=Try.prog) 37 25 .i64 Try.underlying37 hi063 Ao10 t421.length co10 (ji22) (of_decide_eq_true (by first|(with_reducible assumption)|assumption)) q63 hroom63
          have hr63:=Kd.F_take (m:=((ji22) : Int).toNat) hC63 (by omega)
          have hy63 : y430.length = ((ji22) : Int).toNat:=(by rw [Ny430.out,List.length_take];omega)
          rw [← Ny430.out] at hr63
          rw [← hy63] at hcut63
          have HO434:=aM (show Kd.V k25 25 _ w.heap.size _ (.slice Ao10 y430.length co10) y430 from Kd.V_mk (by omega) hr63)
          have HC434:=aM (show y430.length ≤ co10 from by omega)
          clear hr63 hC63 hroom63 hi063 hsz63
          have KY63:=aM hy63
          clear hy63
          replace q63:=eq_true q63
          have q64 : ((ji26) : Int) ≤ ((t421.length : Int) : Int):=of_decide_eq_true (by first|(with_reducible assumption)|assumption)
          obtain ⟨i064,hi064,_,hsz64,_⟩:=info_parts info25
          have hroom64 : t421.length ≤ co10:=(Kd.N_reads' HO_5.out).2.1
          have hC64 : Kd.F k25 _ _ Ao10 t421.length t421:=(Kd.V_at (base:=w.heap.size) (Kd.N_V HO_5.out)).2.2
          have q064 : (0 : Int) ≤ ((ji26) : Int):=of_decide_eq_true (by first|(with_reducible assumption)|assumption)
          have hcut64:=cut_from (P:=Try.prog) 37 25 .i64 Try.underlying37 hi064 2 hsz64 Ao10 t421.length co10 (ji26) q064 q64
          have hr64:=Kd.F_cut (m:=((ji26) : Int).toNat) (c:=co10) hC64 (by omega) hroom64
          obtain ⟨A64,hA64⟩ : ∃ A1,A1 = (if co10 = ((ji26) : Int).toNat then Ao10 else (Ao10 : Option Addr).map (·.add (((ji26) : Int).toNat * 2))):=⟨_,rfl⟩
          obtain ⟨c64,hc64⟩ : ∃ c1,c1 = co10 - ((ji26) : Int).toNat:=⟨_,rfl⟩
          have hy64 : y438.length = t421.length - ((ji26) : Int).toNat:=(by rw [Ny438.out,List.length_drop] <;> omega)
          rw [show (t421).drop ((ji26) : Int).toNat = y438 from Ny438.out.symm] at hr64
          replace hr64 : Kd.F k25 _ _ A64 y438.length y438:=(by rw [hA64];exact hr64)
          rw [← hy64,← hA64,← hc64] at hcut64
          have HO442:=aM (show Kd.V k25 25 _ w.heap.size _ (.slice A64 y438.length c64) y438 from Kd.V_mk (by rw [hy64,hc64];exact Nat.sub_le_sub_right hroom64 _) hr64)
          have HC442:=aM (show y438.length ≤ c64 from by rw [hy64,hc64];exact Nat.sub_le_sub_right hroom64 _)
          clear hr64 hC64 hroom64 hi064 hsz64 hc64
          have KY64:=aM hy64
          have KA64:=aM hA64
          clear hy64 hA64
          replace q64:=eq_true q64
          refine start_ (n:=11) (S:=fun w' => True) (ds:=[]) #[bF,bF,bF,bF,bF,bF,bF,bF,bF,bF,bF] (by kernel_rfl) rfl rfl trivial (fun hHeld => ?_);refine with_tabW laws_FnVotesLess.tab8 laws_FnVotesLess.bits8 (fun HT_ HW_ => ?_)
          generalize wc.drew = w62 at HO_5 HB HO434 HO442 hHeld ⊢
          refine pure_ (i:=1) (N:=some 45) (v:=?_) (a':=?_) #[bF,bT,bF,bF,bF,bF,bF,bF,bF,bF,bF] rfl rfl (any_of HT_.out (by kernel_rfl)) (fun _ _ _ h => h) (Or.inl ⟨by rfl,?_⟩) ?_ ?_
          rotate_left;(· intro w';go_simp;with_reducible rfl);rotate_left;(· simp only [Act.put,sI,sZ,sS,i64_w,i32_w];rfl)
          refine pure_ (i:=2) (N:=some 46) (v:=?_) (a':=?_) #[bF,bT,bT,bF,bF,bF,bF,bF,bF,bF,bF] rfl rfl (any_of HT_.out (by kernel_rfl)) (fun _ _ _ h => h) (Or.inl ⟨by rfl,?_⟩) ?_ ?_
          rotate_left;(· intro w';go_simp;with_reducible rfl);rotate_left;(· simp only [Act.put,sI,sZ,sS,i64_w,i32_w];rfl)
          refine pure_ (i:=3) (N:=some 47) (v:=?_) (a':=?_) #[bF,bT,bT,bT,bF,bF,bF,bF,bF,bF,bF] rfl rfl (any_of HT_.out (by kernel_rfl)) (fun _ _ _ h => h) (Or.inl ⟨by rfl,?_⟩) ?_ ?_
          rotate_left;(· intro w';go_simp;with_reducible rfl);rotate_left;(· simp only [Act.put,sI,sZ,sS,i64_w,i32_w];rfl)
          refine pure_ (i:=5) (N:=some 49) (v:=?_) (a':=?_) #[bF,bT,bT,bT,bF,bT,bF,bF,bF,bF,bF] rfl rfl (any_of HT_.out (by kernel_rfl)) (fun _ _ _ h => h) (Or.inl ⟨by rfl,?_⟩) ?_ ?_
          rotate_left;(· intro w';go_simp;with_reducible rfl);rotate_left;(· simp only [Act.put,sI,sZ,sS,i64_w,i32_w];rfl)
          refine pure_ (i:=6) (N:=some 50) (v:=?_) (a':=?_) #[bF,bT,bT,bT,bF,bT,bT,bF,bF,bF,bF] rfl rfl (any_of HT_.out (by kernel_rfl)) (fun _ _ _ h => h) (Or.inl ⟨by rfl,?_⟩) ?_ ?_
          rotate_left;(· intro w';go_simp;with_reducible rfl);rotate_left;(· simp only [Act.put,sI,sZ,sS,i64_w,i32_w];rfl)
          refine pure_ (i:=7) (N:=some 51) (v:=?_) (a':=?_) #[bF,bT,bT,bT,bF,bT,bT,bT,bF,bF,bF] rfl rfl (any_of HT_.out (by kernel_rfl)) (fun _ _ _ h => h) (Or.inl ⟨by rfl,?_⟩) ?_ ?_
          rotate_left;(· intro w';go_simp;with_reducible rfl);rotate_left;(· simp only [Act.put,sI,sZ,sS,i64_w,i32_w];rfl)
          refine pure_ (i:=8) (N:=some 52) (v:=?_) (a':=?_) #[bF,bT,bT,bT,bF,bT,bT,bT,bT,bF,bF] rfl rfl (any_of HT_.out (by kernel_rfl)) (fun _ _ _ h => h) (Or.inl ⟨by rfl,?_⟩) ?_ ?_
          rotate_left;(· intro w';go_simp;with_reducible rfl);rotate_left;(· simp only [Act.put,sI,sZ,sS,i64_w,i32_w];rfl)
          refine one_ (i:=0) (N:=some 44) #[bT,bT,bT,bT,bF,bT,bT,bT,bT,bF,bF] rfl rfl (one_of HT_.out (by kernel_rfl)) (by decide) (fun K hK => ?_)
          refine Kd.N_lit_step k25 _ 25 ?hg (N':=44) ?hd (xs:=([] : List (S25))) (inner:=[]) (ok:=(fun k_ => some k_ ≠ (.slice Ao10 t421.length co10 : Value).ownBlock)) (okp:=(fun k_ => some k_ ≠ (.slice Ao10 t421.length co10 : Value).ownBlock)) ?hr ?hp (fun _ hk => hk) ((show ∀ k_,w62.heap.size ≤ k_ → (fun k_ => some k_ ≠ (.slice Ao10 t421.length co10 : Value).ownBlock) k_ from fun k_ hk => Kd.fresh' (Kd.N_lt (by (with_reducible repeat (first|apply Kd.N_alloc|apply Kd.N_drewN|apply Kd.N_drew));exact HO_5.out)) k_ hk) _ (Nat.le_refl _)) (Below.refl _ _) (Nat.le_refl _) (by simp) ?_;(case hd => rfl);(case hg => rfl);(case hr => first|(go_simp;done)|(go_simp;rfl));(case hp => exact (Reps.none _ _))
          intro v428 w65 ho66 hb hg_ hnew_
          clear hg_ hnew_
          (first|rw [← Ny427.out] at ho66|(simp only [Int.reduceToNat] at ho66;rw [← Ny427.out] at ho66))
          have n0_:=aM (Kd.N_elder' (by (with_reducible repeat (first|apply Kd.N_alloc|apply Kd.N_drewN|apply Kd.N_drew));exact HO_5.out) (Kd.N_base ho66) hb)
          have n1_:=aM (Kd.V_elder' (by (with_reducible repeat (first|apply Kd.V_alloc|apply Kd.V_drewN|apply Kd.V_drew));exact HO434.out) (Kd.N_base ho66) hb)
          have n2_:=aM (Kd.V_elder' (by (with_reducible repeat (first|apply Kd.V_alloc|apply Kd.V_drewN|apply Kd.V_drew));exact HO442.out) (Kd.N_base ho66) hb)
          have n3_:=aM (Kd.N_lower ho66 (below_size (by repeat (first|(with_reducible first|exact HB.out|apply bA|apply bN|apply bD)|exact HB.out))))
          have n4_:=aM (below_step (by repeat (first|(with_reducible first|exact HB.out|apply bA|apply bN|apply bD)|exact HB.out)) hb)
          clear HO_5
          clear HO434
          clear HO442
          clear HB
          have HO_5:=n0_
          have HO434:=n1_
          have HO442:=n2_
          have HO429:=n3_
          have HB:=n4_
          clear n0_ n1_ n2_ n3_ n4_
          clear hb ho66
          refine hK.out _ _ trivial (fun hHeld => ?_)
          clear hK K
          refine norm_ (a':=?_) ?_ ?_
          rotate_left
          ·show Act.put _ (some 44) _ = _
           simp only [Act.put,sI,sZ,sS,i64_w,i32_w]
           rfl
          refine one_ (i:=4) (N:=some 48) #[bT,bT,bT,bT,bT,bT,bT,bT,bT,bF,bF] rfl rfl (one_of HT_.out (by kernel_rfl)) (by decide) (fun K hK => ?_)
          refine Kd.N_append_rows_step k25 (w0:=w) w.heap.size (by rfl) (.tmp 44) (.tmp 47) 37 25 (.agg #[(.int .i64 0),(.slice none 0 0)]) 32 rfl Try.underlying37 info25 rfl (by decide) (by omega) v428 y427 y430 _ _ _ (fun _ => True) (fun k_ => ((fun _ => True)) k_ ∧ some k_ ≠ (v428 : Value).ownBlock) rfl rfl ?aO ?aR (fun _ hk => hk) ?aF ?aB ?aS ?aL ?_
          (case aR => exact (by skip;exact Kd.V_F (Kd.V_mono (ok':=(fun k_ => ((fun _ => True)) k_ ∧ some k_ ≠ (v428 : Value).ownBlock)) (HO434.out) (fun k_ hk => ⟨trivial,hk.2⟩))))
          (case aB => exact (by repeat (first|(with_reducible first|exact HB.out|apply bA|apply bN|apply bD)|exact HB.out)))
          (case aF => exact (fun _ _ => trivial))
          (case aO => exact (by (with_reducible repeat (first|apply Kd.N_alloc|apply Kd.N_drewN|apply Kd.N_drew));exact Kd.N_mono HO429.out (fun _ hk => trivial)))
          (case aS => exact (below_size (by repeat (first|(with_reducible first|exact HB.out|apply bA|apply bN|apply bD)|exact HB.out))))
          (case aL => have:=LMc25.out;omega)
          intro v436 w67 ho hb hg hat
          have hHN17_:=True.intro
          rw [← Ny435.out] at ho
          have n0_:=aM (Kd.N_afterv (ok:=(fun _ => True)) (by (with_reducible repeat (first|apply Kd.N_alloc|apply Kd.N_drewN|apply Kd.N_drew));exact HO_5.out) hg hat)
          have n1_:=aM (Kd.V_afterv (ok:=(fun _ => True)) (by (with_reducible repeat (first|apply Kd.V_alloc|apply Kd.V_drewN|apply Kd.V_drew));exact HO434.out) hg hat)
          have n2_:=aM (Kd.V_afterv (ok:=(fun _ => True)) (by (with_reducible repeat (first|apply Kd.V_alloc|apply Kd.V_drewN|apply Kd.V_drew));exact HO442.out) hg hat)
          have n3_:=aM (hb)
          have n4_:=aM (ho)
          clear HO_5
          clear HO434
          clear HO442
          clear HB
          clear HO429
          have HO_5:=n0_
          have HO434:=n1_
          have HO442:=n2_
          have HB:=n3_
          have HO437:=n4_
          clear n0_ n1_ n2_ n3_ n4_
          clear ho hb hg hat
          refine hK.out _ _ trivial (fun hHeld => ?_)
          clear hK K
          refine norm_ (a':=?_) ?_ ?_
          rotate_left
          ·show Act.put _ (some 48) _ = _
           simp only [Act.put,sI,sZ,sS,i64_w,i32_w]
           rfl
          refine one_ (i:=9) (N:=some 53) #[bT,bT,bT,bT,bT,bT,bT,bT,bT,bT,bF] rfl rfl (one_of HT_.out (by kernel_rfl)) (by decide) (fun K hK => ?_)
          refine Kd.N_append_rows_step k25 (w0:=w) w.heap.size (by rfl) (.tmp 48) (.tmp 52) 37 25 (.agg #[(.int .i64 0),(.slice none 0 0)]) 32 rfl Try.underlying37 info25 rfl (by decide) (by omega) v436 y435 y438 _ _ _ (fun _ => True) (fun k_ => ((fun _ => True)) k_ ∧ some k_ ≠ (v436 : Value).ownBlock) rfl rfl ?aO ?aR (fun _ hk => hk) ?aF ?aB ?aS ?aL ?_
          (case aR => exact (by skip;exact Kd.V_F (Kd.V_mono (ok':=(fun k_ => ((fun _ => True)) k_ ∧ some k_ ≠ (v436 : Value).ownBlock)) (HO442.out) (fun k_ hk => ⟨trivial,hk.2⟩))))
          (case aB => exact (by repeat (first|(with_reducible first|exact HB.out|apply bA|apply bN|apply bD)|exact HB.out)))
          (case aF => exact (fun _ _ => trivial))
          (case aO => exact (by (with_reducible repeat (first|apply Kd.N_alloc|apply Kd.N_drewN|apply Kd.N_drew));exact HO437.out))
          (case aS => exact (below_size (by repeat (first|(with_reducible first|exact HB.out|apply bA|apply bN|apply bD)|exact HB.out))))
          (case aL => have:=LMc29.out;omega)
          intro v444 w68 ho hb hg hat
          have hHN18_:=True.intro
          rw [← Ny443.out] at ho
          have n0_:=aM (Kd.N_afterv (ok:=(fun _ => True)) (by (with_reducible repeat (first|apply Kd.N_alloc|apply Kd.N_drewN|apply Kd.N_drew));exact HO_5.out) hg hat)
          have n1_:=aM (Kd.V_afterv (ok:=(fun _ => True)) (by (with_reducible repeat (first|apply Kd.V_alloc|apply Kd.V_drewN|apply Kd.V_drew));exact HO434.out) hg hat)
          have n2_:=aM (Kd.V_afterv (ok:=(fun _ => True)) (by (with_reducible repeat (first|apply Kd.V_alloc|apply Kd.V_drewN|apply Kd.V_drew));exact HO442.out) hg hat)
          have n3_:=aM (hb)
          have n4_:=aM (ho)
          clear HO_5
          clear HO434
          clear HO442
          clear HB
          clear HO437
          have HO_5:=n0_
          have HO434:=n1_
          have HO442:=n2_
          have HB:=n3_
          have HO445:=n4_
          clear n0_ n1_ n2_ n3_ n4_
          clear ho hb hg hat
          refine hK.out _ _ trivial (fun hHeld => ?_)
          clear hK K
          refine norm_ (a':=?_) ?_ ?_
          rotate_left
          ·show Act.put _ (some 53) _ = _
           simp only [Act.put,sI,sZ,sS,i64_w,i32_w]
           rfl
          refine pure_ (i:=10) (N:=some 8) (v:=?_) (a':=?_) #[bT,bT,bT,bT,bT,bT,bT,bT,bT,bT,bT] rfl rfl (any_of HT_.out (by kernel_rfl)) (fun _ _ _ h => h) (Or.inl ⟨by rfl,?_⟩) ?_ ?_
          rotate_left;(· intro w';go_simp;with_reducible rfl);rotate_left;(· simp only [Act.put,sI,sZ,sS,i64_w,i32_w];rfl)
          refine done_ (done_of HT_.out (by kernel_rfl)) ?_
          try go_wp2
          have n0_:=aM (Kd.N_drew HO_5.out)
          have n1_:=aM (Kd.V_drew HO434.out)
          have n2_:=aM (Kd.V_drew HO442.out)
          have n3_:=aM (Kd.N_drew HO445.out)
          have n4_:=aM (bD HB.out)
          clear HO_5
          clear HO434
          clear HO442
          clear HO445
          clear HB
          have HO_5:=n0_
          have HO434:=n1_
          have HO442:=n2_
          have HO445:=n3_
          have HB:=n4_
          clear n0_ n1_ n2_ n3_ n4_
          have p452 : 0 ≤ ((ji22) : Int):=of_decide_eq_true (by first|(with_reducible assumption)|assumption)
          have q452 : (ji22) < (t421.length : Int):=of_decide_eq_true (by first|(with_reducible assumption)|assumption)
          obtain ⟨ad452,A452_1,c452_1,e452,hx452_0,hx452_1,hl452_1,hi452_1⟩:=at_T25 (Kd.N_reads' HO_5.out).2.2 (ji22) p452 q452
          cases e452
          obtain ⟨ce452,hce452,hMe452,hcc452⟩:=Kd.N_get HO_5.out z25 (ji22) p452 (by first|exact q452|exact of_decide_eq_true (by first|(with_reducible assumption)|assumption)|(have e_:=(Kd.N_reads' HO_5.out).1;omega))
          obtain ⟨ua452_1,uc452_1,rfl,ul452_1,ge452_1⟩:=k25_openF hMe452
          have hv452_1:=hcc452 1 _ rfl
          rw [add_field _ _ 1 (by omega)] at hv452_1
          replace hv452_1:=Option.some.inj (hv452_1.symm.trans hx452_1)
          injection hv452_1 with hva_ hvn_ hvc_
          rw [hva_] at ge452_1
          rw [hvc_] at ul452_1
          have HL452_1:=aM (show Kd.V k65 65 _ w.heap.size _ _ ((rd_T25 t421 (ji22)).f1) from Kd.V_mk ul452_1 ge452_1)
          clear hva_ hvn_ hvc_ ge452_1 ul452_1
          clear hcc452 hce452
          have HR452_1:=aM hi452_1
          have HC452_1:=aM hl452_1
          clear hi452_1 hl452_1
          replace p452:=eq_true p452
          replace q452:=eq_true q452
          refine start_ (n:=10) (S:=fun w' => w'.cell? (ad452.add (((ji22)).toNat * 2)) = some (.int .i64 ((rd_T25 t421 (ji22)).f0)) ∧ w'.cell? ⟨(ad452.add (((ji22)).toNat * 2)).block,(ad452.add (((ji22)).toNat * 2)).off + 1,none⟩ = some (.slice A452_1 ((rd_T25 t421 (ji22)).f1).length c452_1)) (ds:=[]) #[bF,bF,bF,bF,bF,bF,bF,bF,bF,bF] (by kernel_rfl) rfl rfl ⟨hx452_0,hx452_1⟩ (fun hHeld => ?_);refine with_tabW laws_FnVotesLess.tab9 laws_FnVotesLess.bits9 (fun HT_ HW_ => ?_)
          generalize w68.drew = w69 at HO_5 HO434 HO442 HO445 HB HL452_1 HR452_1 hx452_0 hx452_1 hHeld ⊢
          refine pure_ (i:=1) (N:=some 55) (v:=?_) (a':=?_) #[bF,bT,bF,bF,bF,bF,bF,bF,bF,bF] rfl rfl (any_of HT_.out (by kernel_rfl)) (fun _ _ _ h => h) (Or.inl ⟨by rfl,?_⟩) ?_ ?_
          rotate_left;(· intro w';go_simp;with_reducible rfl);rotate_left;(· simp only [Act.put,sI,sZ,sS,i64_w,i32_w];rfl)
          refine pure_ (i:=3) (N:=some 57) (v:=?_) (a':=?_) #[bF,bT,bF,bT,bF,bF,bF,bF,bF,bF] rfl rfl (any_of HT_.out (by kernel_rfl)) (fun _ _ _ h => h) (Or.inl ⟨by rfl,?_⟩) ?_ ?_
          rotate_left;(· intro w';go_simp;with_reducible rfl);rotate_left;(· simp only [Act.put,sI,sZ,sS,i64_w,i32_w];rfl)
          refine pure_ (i:=4) (N:=some 58) (v:=?_) (a':=?_) #[bF,bT,bF,bT,bT,bF,bF,bF,bF,bF] rfl rfl (any_of HT_.out (by kernel_rfl)) (fun _ _ _ h => h) (Or.inl ⟨by rfl,?_⟩) ?_ ?_
          rotate_left;(· intro w';go_simp;with_reducible rfl);rotate_left;(· simp only [Act.put,sI,sZ,sS,i64_w,i32_w];rfl)
          refine pure_ (i:=5) (N:=some 59) (v:=?_) (a':=?_) #[bF,bT,bF,bT,bT,bT,bF,bF,bF,bF] rfl rfl (any_of HT_.out (by kernel_rfl)) (fun _ _ _ h => h) (Or.inl ⟨by rfl,?_⟩) ?_ ?_
          rotate_left;(· intro w';go_simp;with_reducible rfl);rotate_left;(· simp only [Act.put,sI,sZ,sS,i64_w,i32_w];rfl)
          refine take_ (i:=6) (N:=some 60) (v:=?_) (a':=?_) #[bF,bT,bF,bT,bT,bT,bT,bF,bF,bF] rfl rfl (take_ofW HT_.out HW_.out (by kernel_rfl)) (fun _ _ _ h => h) (Or.inl ⟨by rfl,?_⟩) hHeld ?_ ?_
          rotate_left
          ·rintro w' ⟨s0,s1⟩
           (try simp only [Int.toNat_natCast] at s0 s1)
           go_simp
           with_reducible rfl
          rotate_left
          ·simp only [Act.put,sI,sZ,sS,i64_w,i32_w]
           rfl
          refine join_ (σ:=Value × Value × Value) 2 #[bT,bT,bT,bT,bT,bT,bT,bT,bF,bF] (fun s_ => [(54,s_.1),(56,s_.2.1),(61,s_.2.2)]) (fun s_ w' => (w'.cell? (ad452.add (((ji22)).toNat * 2)) = some (.int .i64 ((rd_T25 t421 (ji22)).f0)) ∧ w'.cell? ⟨(ad452.add (((ji22)).toNat * 2)).block,(ad452.add (((ji22)).toNat * 2)).off + 1,none⟩ = some (.slice A452_1 ((rd_T25 t421 (ji22)).f1).length c452_1)) ∧ (Kd.V k65 65 w' w.heap.size (fun k_ => some k_ ≠ (v444 : Value).ownBlock ∧ some k_ ≠ (s_.2.1 : Value).ownBlock ∧ some k_ ≠ (s_.2.2 : Value).ownBlock ∧ some k_ ≠ (.slice (some ad452) t421.length co10 : Value).ownBlock) (.slice A452_1 ((rd_T25 t421 (ji22)).f1).length c452_1) ((rd_T25 t421 (ji22)).f1)) ∧ (Kd.V k25 25 w' w.heap.size (fun k_ => some k_ ≠ (v444 : Value).ownBlock ∧ some k_ ≠ (s_.2.1 : Value).ownBlock ∧ some k_ ≠ (s_.2.2 : Value).ownBlock) (.slice (some ad452) y430.length co10) y430) ∧ (Kd.V k25 25 w' w.heap.size (fun k_ => some k_ ≠ (v444 : Value).ownBlock ∧ some k_ ≠ (s_.2.1 : Value).ownBlock ∧ some k_ ≠ (s_.2.2 : Value).ownBlock) (.slice A64 y438.length c64) y438) ∧ (Kd.N k25 25 w' w.heap.size (fun k_ => some k_ ≠ (s_.2.1 : Value).ownBlock ∧ some k_ ≠ (s_.2.2 : Value).ownBlock) v444 y443) ∧ (Kd.N k25 25 w' w.heap.size (fun k_ => some k_ ≠ (v444 : Value).ownBlock ∧ some k_ ≠ (s_.2.2 : Value).ownBlock) s_.2.1 y449) ∧ (Kd.N k25 25 w' w.heap.size (fun k_ => some k_ ≠ (v444 : Value).ownBlock ∧ some k_ ≠ (s_.2.1 : Value).ownBlock ∧ some k_ ≠ (.slice (some ad452) t421.length co10 : Value).ownBlock) s_.2.2 y453) ∧ (Kd.N k25 25 w' w.heap.size (fun k_ => some k_ ≠ (v444 : Value).ownBlock ∧ some k_ ≠ (s_.2.1 : Value).ownBlock ∧ some k_ ≠ (s_.2.2 : Value).ownBlock) (.slice (some ad452) t421.length co10) t421) ∧ (Below w.heap.size w w')) ?_ ?_
          rotate_left
          ·intro hCont
           refine two_ (i:=0) (j:=7) (Ni:=some 54) (Nj:=some 61) #[bT,bT,bF,bT,bT,bT,bT,bF,bF,bF] #[bF,bT,bF,bT,bT,bT,bT,bT,bF,bF] rfl rfl rfl rfl (two_of HT_.out (by kernel_rfl)) (by decide) (by decide) (fun K hK => ?_) (fun K hK => ?_)
           ·skip
            refine Kd.N_lit_step k25 _ 25 ?hg (N':=54) ?hd (xs:=([] : List (S25))) (inner:=[]) (ok:=(fun k_ => some k_ ≠ (.slice (some ad452) t421.length co10 : Value).ownBlock ∧ some k_ ≠ (v444 : Value).ownBlock)) (okp:=(fun k_ => some k_ ≠ (.slice (some ad452) t421.length co10 : Value).ownBlock ∧ some k_ ≠ (v444 : Value).ownBlock)) ?hr ?hp (fun _ hk => hk) ((show ∀ k_,w69.heap.size ≤ k_ → (fun k_ => some k_ ≠ (.slice (some ad452) t421.length co10 : Value).ownBlock ∧ some k_ ≠ (v444 : Value).ownBlock) k_ from fun k_ hk => ⟨Kd.fresh' (Kd.N_lt (by (with_reducible repeat (first|apply Kd.N_alloc|apply Kd.N_drewN|apply Kd.N_drew));exact HO_5.out)) k_ hk,Kd.fresh' (Kd.N_lt (by (with_reducible repeat (first|apply Kd.N_alloc|apply Kd.N_drewN|apply Kd.N_drew));exact HO445.out)) k_ hk⟩) _ (Nat.le_refl _)) (Below.refl _ _) (Nat.le_refl _) (by simp) ?_;(case hd => rfl);(case hg => rfl);(case hr => first|(go_simp;done)|(go_simp;rfl));(case hp => exact (Reps.none _ _))
            intro v447 w70 ho71 hb hg_ hnew_
            have HS0_:=(hb.cell (World.block_lt_of_cell? _ _ (hHeld.1))).trans (hHeld.1)
            have HS1_:=(hb.cell (World.block_lt_of_cell? _ _ (hHeld.2))).trans (hHeld.2)
            clear hg_ hnew_
            (first|rw [← Ny446.out] at ho71|(simp only [Int.reduceToNat] at ho71;rw [← Ny446.out] at ho71))
            have n0_:=aM (Kd.N_elder' (by (with_reducible repeat (first|apply Kd.N_alloc|apply Kd.N_drewN|apply Kd.N_drew));exact HO_5.out) (Kd.N_base ho71) hb)
            have n1_:=aM (Kd.V_elder' (by (with_reducible repeat (first|apply Kd.V_alloc|apply Kd.V_drewN|apply Kd.V_drew));exact HO434.out) (Kd.N_base ho71) hb)
            have n2_:=aM (Kd.V_elder' (by (with_reducible repeat (first|apply Kd.V_alloc|apply Kd.V_drewN|apply Kd.V_drew));exact HO442.out) (Kd.N_base ho71) hb)
            have n3_:=aM (Kd.N_elder' (by (with_reducible repeat (first|apply Kd.N_alloc|apply Kd.N_drewN|apply Kd.N_drew));exact HO445.out) (Kd.N_base ho71) hb)
            have n4_:=aM (Kd.V_elder' (by (with_reducible repeat (first|apply Kd.V_alloc|apply Kd.V_drewN|apply Kd.V_drew));exact HL452_1.out) (Kd.N_base ho71) hb)
            have n5_:=aM (Kd.N_lower ho71 (below_size (by repeat (first|(with_reducible first|exact HB.out|apply bA|apply bN|apply bD)|exact HB.out))))
            have n6_:=aM (Kd.C_below (by repeat (first|(with_reducible exact HR452_1.out)|(with_reducible refine Kd.C_alloc ?_ _)|(with_reducible refine Kd.C_drewN ?_ _)|(with_reducible refine Kd.C_drew ?_)|exact HR452_1.out)) hb)
            have n7_:=aM (below_step (by repeat (first|(with_reducible first|exact HB.out|apply bA|apply bN|apply bD)|exact HB.out)) hb)
            clear HO_5
            clear HO434
            clear HO442
            clear HO445
            clear HL452_1
            clear HR452_1
            clear HB
            have HO_5:=n0_
            have HO434:=n1_
            have HO442:=n2_
            have HO445:=n3_
            have HL452_1:=n4_
            have HO448:=n5_
            have HR452_1:=n6_
            have HB:=n7_
            clear n0_ n1_ n2_ n3_ n4_ n5_ n6_ n7_
            clear hb ho71
            refine hK.out _ _ ⟨HS0_,HS1_⟩ (fun hHeld => ?_)
            clear hK K
            refine norm_ (a':=?_) ?_ ?_
            rotate_left
            ·show Act.put _ (some 54) _ = _
             simp only [Act.put,sI,sZ,sS,i64_w,i32_w]
             rfl
            refine two_ (i:=2) (j:=7) (Ni:=some 56) (Nj:=some 61) #[bT,bT,bT,bT,bT,bT,bT,bF,bF,bF] #[bT,bT,bF,bT,bT,bT,bT,bT,bF,bF] rfl rfl rfl rfl (two_of HT_.out (by kernel_rfl)) (by decide) (by decide) (fun K hK => ?_) (fun K hK => ?_)
            ·skip
             refine Kd.N_append_rows_step k25 (w0:=w) w.heap.size (by rfl) (.tmp 54) (.tmp 55) 37 25 (.agg #[(.int .i64 0),(.slice none 0 0)]) 32 rfl Try.underlying37 info25 rfl (by decide) (by omega) v447 y446 t421 _ _ _ (fun k_ => some k_ ≠ (v444 : Value).ownBlock) (fun k_ => ((fun k_ => some k_ ≠ (v444 : Value).ownBlock)) k_ ∧ some k_ ≠ (v447 : Value).ownBlock) rfl rfl ?aO ?aR (fun _ hk => hk) ?aF ?aB ?aS ?aL ?_
             (case aR => exact (by skip;exact Kd.N_F (Kd.N_mono (ok':=(fun k_ => ((fun k_ => some k_ ≠ (v444 : Value).ownBlock)) k_ ∧ some k_ ≠ (v447 : Value).ownBlock)) (HO_5.out) (fun k_ hk => ⟨hk.1.2,hk.2⟩))))
             (case aB => exact (by repeat (first|(with_reducible first|exact HB.out|apply bA|apply bN|apply bD)|exact HB.out)))
             (case aF => exact (fun k_ hk => Kd.fresh' (Kd.N_lt (by (with_reducible repeat (first|apply Kd.N_alloc|apply Kd.N_drewN|apply Kd.N_drew));exact HO445.out)) k_ hk))
             (case aO => exact (by (with_reducible repeat (first|apply Kd.N_alloc|apply Kd.N_drewN|apply Kd.N_drew));exact Kd.N_mono HO448.out (fun _ hk => hk.2)))
             (case aS => exact (below_size (by repeat (first|(with_reducible first|exact HB.out|apply bA|apply bN|apply bD)|exact HB.out))))
             (case aL => have:=LMc30.out;omega)
             intro v450 w72 ho hb hg hat
             have HS0_:=cell_grown hg (hHeld.1) (cell_ne_row (fun e_ => ((HO448.out.1 _ e_.symm).1) rfl))
             have HS1_:=cell_grown hg (hHeld.2) (cell_ne_row (fun e_ => ((HO448.out.1 _ e_.symm).1) rfl))
             have hHN21_:=True.intro
             rw [← Ny449.out] at ho
             have n0_:=aM (Kd.N_afterv (ok:=(fun k_ => some k_ ≠ (v444 : Value).ownBlock)) (by (with_reducible repeat (first|apply Kd.N_alloc|apply Kd.N_drewN|apply Kd.N_drew));exact Kd.N_mono HO_5.out (fun _ hk => ⟨hk.1.2,hk.2⟩)) hg hat)
             have n1_:=aM (Kd.V_afterv (ok:=(fun k_ => some k_ ≠ (v444 : Value).ownBlock)) (by (with_reducible repeat (first|apply Kd.V_alloc|apply Kd.V_drewN|apply Kd.V_drew));exact Kd.V_mono HO434.out (fun _ hk => ⟨hk.1.2,hk.2⟩)) hg hat)
             have n2_:=aM (Kd.V_afterv (ok:=(fun k_ => some k_ ≠ (v444 : Value).ownBlock)) (by (with_reducible repeat (first|apply Kd.V_alloc|apply Kd.V_drewN|apply Kd.V_drew));exact Kd.V_mono HO442.out (fun _ hk => ⟨hk.1.2,hk.2⟩)) hg hat)
             have n3_:=aM (Kd.N_afterv (ok:=(fun _ => True)) (by (with_reducible repeat (first|apply Kd.N_alloc|apply Kd.N_drewN|apply Kd.N_drew));exact HO445.out) hg hat)
             have n4_:=aM (Kd.V_afterv (ok:=(fun k_ => some k_ ≠ (.slice (some ad452) t421.length co10 : Value).ownBlock ∧ some k_ ≠ (v444 : Value).ownBlock)) (by (with_reducible repeat (first|apply Kd.V_alloc|apply Kd.V_drewN|apply Kd.V_drew));exact Kd.V_mono HL452_1.out (fun _ hk => ⟨⟨hk.1.2,hk.1.1.2⟩,hk.2⟩)) hg hat)
             have n5_:=aM (hb)
             have n6_:=aM (ho)
             clear HO_5
             clear HO434
             clear HO442
             clear HO445
             clear HL452_1
             clear HB
             clear HO448
             have HO_5:=n0_
             have HO434:=n1_
             have HO442:=n2_
             have HO445:=n3_
             have HL452_1:=n4_
             have HB:=n5_
             have HO451:=n6_
             clear n0_ n1_ n2_ n3_ n4_ n5_ n6_
             clear ho hb hg hat
             refine hK.out _ _ ⟨HS0_,HS1_⟩ (fun hHeld => ?_)
             clear hK K
             refine norm_ (a':=?_) ?_ ?_
             rotate_left
             ·show Act.put _ (some 56) _ = _
              simp only [Act.put,sI,sZ,sS,i64_w,i32_w]
              rfl
             refine one_ (i:=7) (N:=some 61) #[bT,bT,bT,bT,bT,bT,bT,bT,bF,bF] rfl rfl (one_of HT_.out (by kernel_rfl)) (by decide) (fun K hK => ?_)
             refine Kd.N_lit_step k25 _ 25 ?hg (N':=61) ?hd (xs:=([(⟨(rd_T25 t421 (ji22)).f0,(rd_T25 t421 (ji22)).f1⟩ : S25)] : List (S25))) (inner:=[.int .i64 ((rd_T25 t421 (ji22)).f0),.slice A452_1 ((rd_T25 t421 (ji22)).f1).length c452_1]) (ok:=(fun k_ => some k_ ≠ (.slice (some ad452) t421.length co10 : Value).ownBlock ∧ some k_ ≠ (v444 : Value).ownBlock ∧ some k_ ≠ (v450 : Value).ownBlock)) (okp:=(fun k_ => some k_ ≠ (.slice (some ad452) t421.length co10 : Value).ownBlock ∧ some k_ ≠ (v444 : Value).ownBlock ∧ some k_ ≠ (v450 : Value).ownBlock)) ?hr ?hp (fun _ hk => hk) ((show ∀ k_,w72.heap.size ≤ k_ → (fun k_ => some k_ ≠ (.slice (some ad452) t421.length co10 : Value).ownBlock ∧ some k_ ≠ (v444 : Value).ownBlock ∧ some k_ ≠ (v450 : Value).ownBlock) k_ from fun k_ hk => ⟨Kd.fresh' (Kd.N_lt (by (with_reducible repeat (first|apply Kd.N_alloc|apply Kd.N_drewN|apply Kd.N_drew));exact HO_5.out)) k_ hk,Kd.fresh' (Kd.N_lt (by (with_reducible repeat (first|apply Kd.N_alloc|apply Kd.N_drewN|apply Kd.N_drew));exact HO445.out)) k_ hk,Kd.fresh' (Kd.N_lt (by (with_reducible repeat (first|apply Kd.N_alloc|apply Kd.N_drewN|apply Kd.N_drew));exact HO451.out)) k_ hk⟩) _ (Nat.le_refl _)) (Below.refl _ _) (Nat.le_refl _) (by simp) ?_;(case hd => rfl);(case hg => rfl);(case hr => first|(go_simp;done)|(go_simp;rfl));(case hp => exact (Reps.c2 (show Kd.FK k25 _ _ (⟨(rd_T25 t421 (ji22)).f0,(rd_T25 t421 (ji22)).f1⟩ : S25) [.int .i64 ((rd_T25 t421 (ji22)).f0),.slice A452_1 ((rd_T25 t421 (ji22)).f1).length c452_1] from (k25_mkF _ _ (⟨(rd_T25 t421 (ji22)).f0,(rd_T25 t421 (ji22)).f1⟩ : S25) (Kd.V_reads' (Kd.V_mono (ok':=(fun k_ => some k_ ≠ (.slice (some ad452) t421.length co10 : Value).ownBlock ∧ some k_ ≠ (v444 : Value).ownBlock ∧ some k_ ≠ (v450 : Value).ownBlock)) (HL452_1.out) (fun k_ hk => ⟨hk.1.1,⟨hk.1.2,hk.2⟩⟩))).2.1 (Kd.V_F (Kd.V_mono (ok':=(fun k_ => some k_ ≠ (.slice (some ad452) t421.length co10 : Value).ownBlock ∧ some k_ ≠ (v444 : Value).ownBlock ∧ some k_ ≠ (v450 : Value).ownBlock)) (HL452_1.out) (fun k_ hk => ⟨hk.1.1,⟨hk.1.2,hk.2⟩⟩))))) (Reps.none _ _)))
             intro v454 w73 ho74 hb hg_ hnew_
             have HS0_:=(hb.cell (World.block_lt_of_cell? _ _ (hHeld.1))).trans (hHeld.1)
             have HS1_:=(hb.cell (World.block_lt_of_cell? _ _ (hHeld.2))).trans (hHeld.2)
             clear hg_ hnew_
             (first|rw [← Ny453.out] at ho74|(simp only [Int.reduceToNat] at ho74;rw [← Ny453.out] at ho74))
             have n0_:=aM (Kd.N_elder' (by (with_reducible repeat (first|apply Kd.N_alloc|apply Kd.N_drewN|apply Kd.N_drew));exact HO_5.out) (Kd.N_base ho74) hb)
             have n1_:=aM (Kd.V_elder' (by (with_reducible repeat (first|apply Kd.V_alloc|apply Kd.V_drewN|apply Kd.V_drew));exact HO434.out) (Kd.N_base ho74) hb)
             have n2_:=aM (Kd.V_elder' (by (with_reducible repeat (first|apply Kd.V_alloc|apply Kd.V_drewN|apply Kd.V_drew));exact HO442.out) (Kd.N_base ho74) hb)
             have n3_:=aM (Kd.N_elder' (by (with_reducible repeat (first|apply Kd.N_alloc|apply Kd.N_drewN|apply Kd.N_drew));exact HO445.out) (Kd.N_base ho74) hb)
             have n4_:=aM (Kd.V_elder' (by (with_reducible repeat (first|apply Kd.V_alloc|apply Kd.V_drewN|apply Kd.V_drew));exact HL452_1.out) (Kd.N_base ho74) hb)
             have n5_:=aM (Kd.N_elder' (by (with_reducible repeat (first|apply Kd.N_alloc|apply Kd.N_drewN|apply Kd.N_drew));exact HO451.out) (Kd.N_base ho74) hb)
             have n6_:=aM (Kd.N_lower ho74 (below_size (by repeat (first|(with_reducible first|exact HB.out|apply bA|apply bN|apply bD)|exact HB.out))))
             have n7_:=aM (below_step (by repeat (first|(with_reducible first|exact HB.out|apply bA|apply bN|apply bD)|exact HB.out)) hb)
             clear HO_5
             clear HO434
             clear HO442
             clear HO445
             clear HL452_1
             clear HO451
             clear HB
             have HO_5:=n0_
             have HO434:=n1_
             have HO442:=n2_
             have HO445:=n3_
             have HL452_1:=n4_
             have HO451:=n5_
             have HO455:=n6_
             have HB:=n7_
             clear n0_ n1_ n2_ n3_ n4_ n5_ n6_ n7_
             clear hb ho74
             refine hK.out _ _ ⟨HS0_,HS1_⟩ (fun hHeld => ?_)
             clear hK K
             refine norm_ (a':=?_) ?_ ?_
             rotate_left
             ·show Act.put _ (some 61) _ = _
              simp only [Act.put,sI,sZ,sS,i64_w,i32_w]
              rfl
             exact norm_ (by simp only [putAll,Act.put,sI,sZ,sS]) (hCont (v447,v450,v454) _ ⟨hHeld,(by (with_reducible repeat (first|apply Kd.V_alloc|apply Kd.V_drewN|apply Kd.V_drew));exact Kd.V_mono HL452_1.out (fun _ hk => ⟨hk.1.1.2,⟨hk.1.2,⟨hk.2,hk.1.1.1⟩⟩⟩)),(by (with_reducible repeat (first|apply Kd.V_alloc|apply Kd.V_drewN|apply Kd.V_drew));exact Kd.V_mono HO434.out (fun _ hk => ⟨hk.1.1,⟨hk.1.2,hk.2⟩⟩)),(by (with_reducible repeat (first|apply Kd.V_alloc|apply Kd.V_drewN|apply Kd.V_drew));exact Kd.V_mono HO442.out (fun _ hk => ⟨hk.1.1,⟨hk.1.2,hk.2⟩⟩)),(by (with_reducible repeat (first|apply Kd.N_alloc|apply Kd.N_drewN|apply Kd.N_drew));exact Kd.N_mono HO445.out (fun _ hk => ⟨hk.1.2,hk.2⟩)),(by (with_reducible repeat (first|apply Kd.N_alloc|apply Kd.N_drewN|apply Kd.N_drew));exact HO451.out),(by (with_reducible repeat (first|apply Kd.N_alloc|apply Kd.N_drewN|apply Kd.N_drew));exact Kd.N_mono HO455.out (fun _ hk => ⟨hk.2.1,⟨hk.2.2,hk.1⟩⟩)),(by (with_reducible repeat (first|apply Kd.N_alloc|apply Kd.N_drewN|apply Kd.N_drew));exact Kd.N_mono HO_5.out (fun _ hk => ⟨hk.1.1,⟨hk.1.2,hk.2⟩⟩)),(by repeat (first|(with_reducible first|exact HB.out|apply bA|apply bN|apply bD)|exact HB.out))⟩)
            ·skip
             refine Kd.N_lit_step k25 _ 25 ?hg (N':=61) ?hd (xs:=([(⟨(rd_T25 t421 (ji22)).f0,(rd_T25 t421 (ji22)).f1⟩ : S25)] : List (S25))) (inner:=[.int .i64 ((rd_T25 t421 (ji22)).f0),.slice A452_1 ((rd_T25 t421 (ji22)).f1).length c452_1]) (ok:=(fun k_ => some k_ ≠ (.slice (some ad452) t421.length co10 : Value).ownBlock ∧ some k_ ≠ (v444 : Value).ownBlock ∧ some k_ ≠ (v447 : Value).ownBlock)) (okp:=(fun k_ => some k_ ≠ (.slice (some ad452) t421.length co10 : Value).ownBlock ∧ some k_ ≠ (v444 : Value).ownBlock ∧ some k_ ≠ (v447 : Value).ownBlock)) ?hr ?hp (fun _ hk => hk) ((show ∀ k_,w70.heap.size ≤ k_ → (fun k_ => some k_ ≠ (.slice (some ad452) t421.length co10 : Value).ownBlock ∧ some k_ ≠ (v444 : Value).ownBlock ∧ some k_ ≠ (v447 : Value).ownBlock) k_ from fun k_ hk => ⟨Kd.fresh' (Kd.N_lt (by (with_reducible repeat (first|apply Kd.N_alloc|apply Kd.N_drewN|apply Kd.N_drew));exact HO_5.out)) k_ hk,Kd.fresh' (Kd.N_lt (by (with_reducible repeat (first|apply Kd.N_alloc|apply Kd.N_drewN|apply Kd.N_drew));exact HO445.out)) k_ hk,Kd.fresh' (Kd.N_lt (by (with_reducible repeat (first|apply Kd.N_alloc|apply Kd.N_drewN|apply Kd.N_drew));exact HO448.out)) k_ hk⟩) _ (Nat.le_refl _)) (Below.refl _ _) (Nat.le_refl _) (by simp) ?_;(case hd => rfl);(case hg => rfl);(case hr => first|(go_simp;done)|(go_simp;rfl));(case hp => exact (Reps.c2 (show Kd.FK k25 _ _ (⟨(rd_T25 t421 (ji22)).f0,(rd_T25 t421 (ji22)).f1⟩ : S25) [.int .i64 ((rd_T25 t421 (ji22)).f0),.slice A452_1 ((rd_T25 t421 (ji22)).f1).length c452_1] from (k25_mkF _ _ (⟨(rd_T25 t421 (ji22)).f0,(rd_T25 t421 (ji22)).f1⟩ : S25) (Kd.V_reads' (Kd.V_mono (ok':=(fun k_ => some k_ ≠ (.slice (some ad452) t421.length co10 : Value).ownBlock ∧ some k_ ≠ (v444 : Value).ownBlock ∧ some k_ ≠ (v447 : Value).ownBlock)) (HL452_1.out) (fun k_ hk => ⟨hk.1.2,⟨hk.1.1.2,hk.2⟩⟩))).2.1 (Kd.V_F (Kd.V_mono (ok':=(fun k_ => some k_ ≠ (.slice (some ad452) t421.length co10 : Value).ownBlock ∧ some k_ ≠ (v444 : Value).ownBlock ∧ some k_ ≠ (v447 : Value).ownBlock)) (HL452_1.out) (fun k_ hk => ⟨hk.1.2,⟨hk.1.1.2,hk.2⟩⟩))))) (Reps.none _ _)))
             intro v454 w72 ho73 hb hg_ hnew_
             have HS0_:=(hb.cell (World.block_lt_of_cell? _ _ (hHeld.1))).trans (hHeld.1)
             have HS1_:=(hb.cell (World.block_lt_of_cell? _ _ (hHeld.2))).trans (hHeld.2)
             clear hg_ hnew_
             (first|rw [← Ny453.out] at ho73|(simp only [Int.reduceToNat] at ho73;rw [← Ny453.out] at ho73))
             have n0_:=aM (Kd.N_elder' (by (with_reducible repeat (first|apply Kd.N_alloc|apply Kd.N_drewN|apply Kd.N_drew));exact HO_5.out) (Kd.N_base ho73) hb)
             have n1_:=aM (Kd.V_elder' (by (with_reducible repeat (first|apply Kd.V_alloc|apply Kd.V_drewN|apply Kd.V_drew));exact HO434.out) (Kd.N_base ho73) hb)
             have n2_:=aM (Kd.V_elder' (by (with_reducible repeat (first|apply Kd.V_alloc|apply Kd.V_drewN|apply Kd.V_drew));exact HO442.out) (Kd.N_base ho73) hb)
             have n3_:=aM (Kd.N_elder' (by (with_reducible repeat (first|apply Kd.N_alloc|apply Kd.N_drewN|apply Kd.N_drew));exact HO445.out) (Kd.N_base ho73) hb)
             have n4_:=aM (Kd.V_elder' (by (with_reducible repeat (first|apply Kd.V_alloc|apply Kd.V_drewN|apply Kd.V_drew));exact HL452_1.out) (Kd.N_base ho73) hb)
             have n5_:=aM (Kd.N_elder' (by (with_reducible repeat (first|apply Kd.N_alloc|apply Kd.N_drewN|apply Kd.N_drew));exact HO448.out) (Kd.N_base ho73) hb)
             have n6_:=aM (Kd.N_lower ho73 (below_size (by repeat (first|(with_reducible first|exact HB.out|apply bA|apply bN|apply bD)|exact HB.out))))
             have n7_:=aM (Kd.C_below (by repeat (first|(with_reducible exact HR452_1.out)|(with_reducible refine Kd.C_alloc ?_ _)|(with_reducible refine Kd.C_drewN ?_ _)|(with_reducible refine Kd.C_drew ?_)|exact HR452_1.out)) hb)
             have n8_:=aM (below_step (by repeat (first|(with_reducible first|exact HB.out|apply bA|apply bN|apply bD)|exact HB.out)) hb)
             clear HO_5
             clear HO434
             clear HO442
             clear HO445
             clear HL452_1
             clear HO448
             clear HR452_1
             clear HB
             have HO_5:=n0_
             have HO434:=n1_
             have HO442:=n2_
             have HO445:=n3_
             have HL452_1:=n4_
             have HO448:=n5_
             have HO455:=n6_
             have HR452_1:=n7_
             have HB:=n8_
             clear n0_ n1_ n2_ n3_ n4_ n5_ n6_ n7_ n8_
             clear hb ho73
             refine hK.out _ _ ⟨HS0_,HS1_⟩ (fun hHeld => ?_)
             clear hK K
             refine norm_ (a':=?_) ?_ ?_
             rotate_left
             ·show Act.put _ (some 61) _ = _
              simp only [Act.put,sI,sZ,sS,i64_w,i32_w]
              rfl
             refine one_ (i:=2) (N:=some 56) #[bT,bT,bT,bT,bT,bT,bT,bT,bF,bF] rfl rfl (one_of HT_.out (by kernel_rfl)) (by decide) (fun K hK => ?_)
             refine Kd.N_append_rows_step k25 (w0:=w) w.heap.size (by rfl) (.tmp 54) (.tmp 55) 37 25 (.agg #[(.int .i64 0),(.slice none 0 0)]) 32 rfl Try.underlying37 info25 rfl (by decide) (by omega) v447 y446 t421 _ _ _ (fun k_ => some k_ ≠ (v444 : Value).ownBlock ∧ some k_ ≠ (v454 : Value).ownBlock) (fun k_ => ((fun k_ => some k_ ≠ (v444 : Value).ownBlock ∧ some k_ ≠ (v454 : Value).ownBlock)) k_ ∧ some k_ ≠ (v447 : Value).ownBlock) rfl rfl ?aO ?aR (fun _ hk => hk) ?aF ?aB ?aS ?aL ?_
             (case aR => exact (by skip;exact Kd.N_F (Kd.N_mono (ok':=(fun k_ => ((fun k_ => some k_ ≠ (v444 : Value).ownBlock ∧ some k_ ≠ (v454 : Value).ownBlock)) k_ ∧ some k_ ≠ (v447 : Value).ownBlock)) (HO_5.out) (fun k_ hk => ⟨⟨hk.1.1.2,hk.2⟩,hk.1.2⟩))))
             (case aB => exact (by repeat (first|(with_reducible first|exact HB.out|apply bA|apply bN|apply bD)|exact HB.out)))
             (case aF => exact (fun k_ hk => ⟨Kd.fresh' (Kd.N_lt (by (with_reducible repeat (first|apply Kd.N_alloc|apply Kd.N_drewN|apply Kd.N_drew));exact HO445.out)) k_ hk,Kd.fresh' (Kd.N_lt (by (with_reducible repeat (first|apply Kd.N_alloc|apply Kd.N_drewN|apply Kd.N_drew));exact HO455.out)) k_ hk⟩))
             (case aO => exact (by (with_reducible repeat (first|apply Kd.N_alloc|apply Kd.N_drewN|apply Kd.N_drew));exact Kd.N_mono HO448.out (fun _ hk => ⟨hk.1.2,hk.2⟩)))
             (case aS => exact (below_size (by repeat (first|(with_reducible first|exact HB.out|apply bA|apply bN|apply bD)|exact HB.out))))
             (case aL => have:=LMc30.out;omega)
             intro v450 w74 ho hb hg hat
             have HS0_:=cell_grown hg (hHeld.1) (cell_ne_row (fun e_ => ((HO448.out.1 _ e_.symm).1.1) rfl))
             have HS1_:=cell_grown hg (hHeld.2) (cell_ne_row (fun e_ => ((HO448.out.1 _ e_.symm).1.1) rfl))
             have hHN24_:=True.intro
             rw [← Ny449.out] at ho
             have n0_:=aM (Kd.N_afterv (ok:=(fun k_ => some k_ ≠ (v444 : Value).ownBlock ∧ some k_ ≠ (v454 : Value).ownBlock)) (by (with_reducible repeat (first|apply Kd.N_alloc|apply Kd.N_drewN|apply Kd.N_drew));exact Kd.N_mono HO_5.out (fun _ hk => ⟨⟨hk.1.1.2,hk.2⟩,hk.1.2⟩)) hg hat)
             have n1_:=aM (Kd.V_afterv (ok:=(fun k_ => some k_ ≠ (v444 : Value).ownBlock ∧ some k_ ≠ (v454 : Value).ownBlock)) (by (with_reducible repeat (first|apply Kd.V_alloc|apply Kd.V_drewN|apply Kd.V_drew));exact Kd.V_mono HO434.out (fun _ hk => ⟨⟨hk.1.1.2,hk.2⟩,hk.1.2⟩)) hg hat)
             have n2_:=aM (Kd.V_afterv (ok:=(fun k_ => some k_ ≠ (v444 : Value).ownBlock ∧ some k_ ≠ (v454 : Value).ownBlock)) (by (with_reducible repeat (first|apply Kd.V_alloc|apply Kd.V_drewN|apply Kd.V_drew));exact Kd.V_mono HO442.out (fun _ hk => ⟨⟨hk.1.1.2,hk.2⟩,hk.1.2⟩)) hg hat)
             have n3_:=aM (Kd.N_afterv (ok:=(fun k_ => some k_ ≠ (v454 : Value).ownBlock)) (by (with_reducible repeat (first|apply Kd.N_alloc|apply Kd.N_drewN|apply Kd.N_drew));exact Kd.N_mono HO445.out (fun _ hk => ⟨hk.2,hk.1.2⟩)) hg hat)
             have n4_:=aM (Kd.V_afterv (ok:=(fun k_ => some k_ ≠ (.slice (some ad452) t421.length co10 : Value).ownBlock ∧ some k_ ≠ (v444 : Value).ownBlock ∧ some k_ ≠ (v454 : Value).ownBlock)) (by (with_reducible repeat (first|apply Kd.V_alloc|apply Kd.V_drewN|apply Kd.V_drew));exact Kd.V_mono HL452_1.out (fun _ hk => ⟨⟨hk.1.1.2,⟨hk.1.1.1.2,hk.2⟩⟩,hk.1.2⟩)) hg hat)
             have n5_:=aM (Kd.N_afterv (ok:=(fun k_ => some k_ ≠ (.slice (some ad452) t421.length co10 : Value).ownBlock ∧ some k_ ≠ (v444 : Value).ownBlock)) (by (with_reducible repeat (first|apply Kd.N_alloc|apply Kd.N_drewN|apply Kd.N_drew));exact Kd.N_mono HO455.out (fun _ hk => ⟨⟨hk.1,hk.2.1⟩,hk.2.2⟩)) hg hat)
             have n6_:=aM (hb)
             have n7_:=aM (ho)
             clear HO_5
             clear HO434
             clear HO442
             clear HO445
             clear HL452_1
             clear HO455
             clear HB
             clear HO448
             have HO_5:=n0_
             have HO434:=n1_
             have HO442:=n2_
             have HO445:=n3_
             have HL452_1:=n4_
             have HO455:=n5_
             have HB:=n6_
             have HO451:=n7_
             clear n0_ n1_ n2_ n3_ n4_ n5_ n6_ n7_
             clear ho hb hg hat
             refine hK.out _ _ ⟨HS0_,HS1_⟩ (fun hHeld => ?_)
             clear hK K
             refine norm_ (a':=?_) ?_ ?_
             rotate_left
             ·show Act.put _ (some 56) _ = _
              simp only [Act.put,sI,sZ,sS,i64_w,i32_w]
              rfl
             exact norm_ (by simp only [putAll,Act.put,sI,sZ,sS]) (hCont (v447,v450,v454) _ ⟨hHeld,(by (with_reducible repeat (first|apply Kd.V_alloc|apply Kd.V_drewN|apply Kd.V_drew));exact Kd.V_mono HL452_1.out (fun _ hk => ⟨hk.1.2.1,⟨hk.2,⟨hk.1.2.2,hk.1.1⟩⟩⟩)),(by (with_reducible repeat (first|apply Kd.V_alloc|apply Kd.V_drewN|apply Kd.V_drew));exact Kd.V_mono HO434.out (fun _ hk => ⟨hk.1.1,⟨hk.2,hk.1.2⟩⟩)),(by (with_reducible repeat (first|apply Kd.V_alloc|apply Kd.V_drewN|apply Kd.V_drew));exact Kd.V_mono HO442.out (fun _ hk => ⟨hk.1.1,⟨hk.2,hk.1.2⟩⟩)),(by (with_reducible repeat (first|apply Kd.N_alloc|apply Kd.N_drewN|apply Kd.N_drew));exact Kd.N_mono HO445.out (fun _ hk => ⟨hk.2,hk.1⟩)),(by (with_reducible repeat (first|apply Kd.N_alloc|apply Kd.N_drewN|apply Kd.N_drew));exact HO451.out),(by (with_reducible repeat (first|apply Kd.N_alloc|apply Kd.N_drewN|apply Kd.N_drew));exact Kd.N_mono HO455.out (fun _ hk => ⟨hk.1.2,⟨hk.2,hk.1.1⟩⟩)),(by (with_reducible repeat (first|apply Kd.N_alloc|apply Kd.N_drewN|apply Kd.N_drew));exact Kd.N_mono HO_5.out (fun _ hk => ⟨hk.1.1,⟨hk.2,hk.1.2⟩⟩)),(by repeat (first|(with_reducible first|exact HB.out|apply bA|apply bN|apply bD)|exact HB.out))⟩)
           ·skip
            refine Kd.N_lit_step k25 _ 25 ?hg (N':=61) ?hd (xs:=([(⟨(rd_T25 t421 (ji22)).f0,(rd_T25 t421 (ji22)).f1⟩ : S25)] : List (S25))) (inner:=[.int .i64 ((rd_T25 t421 (ji22)).f0),.slice A452_1 ((rd_T25 t421 (ji22)).f1).length c452_1]) (ok:=(fun k_ => some k_ ≠ (.slice (some ad452) t421.length co10 : Value).ownBlock ∧ some k_ ≠ (v444 : Value).ownBlock)) (okp:=(fun k_ => some k_ ≠ (.slice (some ad452) t421.length co10 : Value).ownBlock ∧ some k_ ≠ (v444 : Value).ownBlock)) ?hr ?hp (fun _ hk => hk) ((show ∀ k_,w69.heap.size ≤ k_ → (fun k_ => some k_ ≠ (.slice (some ad452) t421.length co10 : Value).ownBlock ∧ some k_ ≠ (v444 : Value).ownBlock) k_ from fun k_ hk => ⟨Kd.fresh' (Kd.N_lt (by (with_reducible repeat (first|apply Kd.N_alloc|apply Kd.N_drewN|apply Kd.N_drew));exact HO_5.out)) k_ hk,Kd.fresh' (Kd.N_lt (by (with_reducible repeat (first|apply Kd.N_alloc|apply Kd.N_drewN|apply Kd.N_drew));exact HO445.out)) k_ hk⟩) _ (Nat.le_refl _)) (Below.refl _ _) (Nat.le_refl _) (by simp) ?_;(case hd => rfl);(case hg => rfl);(case hr => first|(go_simp;done)|(go_simp;rfl));(case hp => exact (Reps.c2 (show Kd.FK k25 _ _ (⟨(rd_T25 t421 (ji22)).f0,(rd_T25 t421 (ji22)).f1⟩ : S25) [.int .i64 ((rd_T25 t421 (ji22)).f0),.slice A452_1 ((rd_T25 t421 (ji22)).f1).length c452_1] from (k25_mkF _ _ (⟨(rd_T25 t421 (ji22)).f0,(rd_T25 t421 (ji22)).f1⟩ : S25) (Kd.V_reads' (Kd.V_mono (ok':=(fun k_ => some k_ ≠ (.slice (some ad452) t421.length co10 : Value).ownBlock ∧ some k_ ≠ (v444 : Value).ownBlock)) (HL452_1.out) (fun k_ hk => ⟨hk.2,hk.1.2⟩))).2.1 (Kd.V_F (Kd.V_mono (ok':=(fun k_ => some k_ ≠ (.slice (some ad452) t421.length co10 : Value).ownBlock ∧ some k_ ≠ (v444 : Value).ownBlock)) (HL452_1.out) (fun k_ hk => ⟨hk.2,hk.1.2⟩))))) (Reps.none _ _)))
            intro v454 w70 ho71 hb hg_ hnew_
            have HS0_:=(hb.cell (World.block_lt_of_cell? _ _ (hHeld.1))).trans (hHeld.1)
            have HS1_:=(hb.cell (World.block_lt_of_cell? _ _ (hHeld.2))).trans (hHeld.2)
            clear hg_ hnew_
            (first|rw [← Ny453.out] at ho71|(simp only [Int.reduceToNat] at ho71;rw [← Ny453.out] at ho71))
            have n0_:=aM (Kd.N_elder' (by (with_reducible repeat (first|apply Kd.N_alloc|apply Kd.N_drewN|apply Kd.N_drew));exact HO_5.out) (Kd.N_base ho71) hb)
            have n1_:=aM (Kd.V_elder' (by (with_reducible repeat (first|apply Kd.V_alloc|apply Kd.V_drewN|apply Kd.V_drew));exact HO434.out) (Kd.N_base ho71) hb)
            have n2_:=aM (Kd.V_elder' (by (with_reducible repeat (first|apply Kd.V_alloc|apply Kd.V_drewN|apply Kd.V_drew));exact HO442.out) (Kd.N_base ho71) hb)
            have n3_:=aM (Kd.N_elder' (by (with_reducible repeat (first|apply Kd.N_alloc|apply Kd.N_drewN|apply Kd.N_drew));exact HO445.out) (Kd.N_base ho71) hb)
            have n4_:=aM (Kd.V_elder' (by (with_reducible repeat (first|apply Kd.V_alloc|apply Kd.V_drewN|apply Kd.V_drew));exact HL452_1.out) (Kd.N_base ho71) hb)
            have n5_:=aM (Kd.N_lower ho71 (below_size (by repeat (first|(with_reducible first|exact HB.out|apply bA|apply bN|apply bD)|exact HB.out))))
            have n6_:=aM (Kd.C_below (by repeat (first|(with_reducible exact HR452_1.out)|(with_reducible refine Kd.C_alloc ?_ _)|(with_reducible refine Kd.C_drewN ?_ _)|(with_reducible refine Kd.C_drew ?_)|exact HR452_1.out)) hb)
            have n7_:=aM (below_step (by repeat (first|(with_reducible first|exact HB.out|apply bA|apply bN|apply bD)|exact HB.out)) hb)
            clear HO_5
            clear HO434
            clear HO442
            clear HO445
            clear HL452_1
            clear HR452_1
            clear HB
            have HO_5:=n0_
            have HO434:=n1_
            have HO442:=n2_
            have HO445:=n3_
            have HL452_1:=n4_
            have HO455:=n5_
            have HR452_1:=n6_
            have HB:=n7_
            clear n0_ n1_ n2_ n3_ n4_ n5_ n6_ n7_
            clear hb ho71
            refine hK.out _ _ ⟨HS0_,HS1_⟩ (fun hHeld => ?_)
            clear hK K
            refine norm_ (a':=?_) ?_ ?_
            rotate_left
            ·show Act.put _ (some 61) _ = _
             simp only [Act.put,sI,sZ,sS,i64_w,i32_w]
             rfl
            refine one_ (i:=0) (N:=some 54) #[bT,bT,bF,bT,bT,bT,bT,bT,bF,bF] rfl rfl (one_of HT_.out (by kernel_rfl)) (by decide) (fun K hK => ?_)
            refine Kd.N_lit_step k25 _ 25 ?hg (N':=54) ?hd (xs:=([] : List (S25))) (inner:=[]) (ok:=(fun k_ => some k_ ≠ (.slice (some ad452) t421.length co10 : Value).ownBlock ∧ some k_ ≠ (v444 : Value).ownBlock ∧ some k_ ≠ (v454 : Value).ownBlock)) (okp:=(fun k_ => some k_ ≠ (.slice (some ad452) t421.length co10 : Value).ownBlock ∧ some k_ ≠ (v444 : Value).ownBlock ∧ some k_ ≠ (v454 : Value).ownBlock)) ?hr ?hp (fun _ hk => hk) ((show ∀ k_,w70.heap.size ≤ k_ → (fun k_ => some k_ ≠ (.slice (some ad452) t421.length co10 : Value).ownBlock ∧ some k_ ≠ (v444 : Value).ownBlock ∧ some k_ ≠ (v454 : Value).ownBlock) k_ from fun k_ hk => ⟨Kd.fresh' (Kd.N_lt (by (with_reducible repeat (first|apply Kd.N_alloc|apply Kd.N_drewN|apply Kd.N_drew));exact HO_5.out)) k_ hk,Kd.fresh' (Kd.N_lt (by (with_reducible repeat (first|apply Kd.N_alloc|apply Kd.N_drewN|apply Kd.N_drew));exact HO445.out)) k_ hk,Kd.fresh' (Kd.N_lt (by (with_reducible repeat (first|apply Kd.N_alloc|apply Kd.N_drewN|apply Kd.N_drew));exact HO455.out)) k_ hk⟩) _ (Nat.le_refl _)) (Below.refl _ _) (Nat.le_refl _) (by simp) ?_;(case hd => rfl);(case hg => rfl);(case hr => first|(go_simp;done)|(go_simp;rfl));(case hp => exact (Reps.none _ _))
            intro v447 w72 ho73 hb hg_ hnew_
            have HS0_:=(hb.cell (World.block_lt_of_cell? _ _ (hHeld.1))).trans (hHeld.1)
            have HS1_:=(hb.cell (World.block_lt_of_cell? _ _ (hHeld.2))).trans (hHeld.2)
            clear hg_ hnew_
            (first|rw [← Ny446.out] at ho73|(simp only [Int.reduceToNat] at ho73;rw [← Ny446.out] at ho73))
            have n0_:=aM (Kd.N_elder' (by (with_reducible repeat (first|apply Kd.N_alloc|apply Kd.N_drewN|apply Kd.N_drew));exact HO_5.out) (Kd.N_base ho73) hb)
            have n1_:=aM (Kd.V_elder' (by (with_reducible repeat (first|apply Kd.V_alloc|apply Kd.V_drewN|apply Kd.V_drew));exact HO434.out) (Kd.N_base ho73) hb)
            have n2_:=aM (Kd.V_elder' (by (with_reducible repeat (first|apply Kd.V_alloc|apply Kd.V_drewN|apply Kd.V_drew));exact HO442.out) (Kd.N_base ho73) hb)
            have n3_:=aM (Kd.N_elder' (by (with_reducible repeat (first|apply Kd.N_alloc|apply Kd.N_drewN|apply Kd.N_drew));exact HO445.out) (Kd.N_base ho73) hb)
            have n4_:=aM (Kd.V_elder' (by (with_reducible repeat (first|apply Kd.V_alloc|apply Kd.V_drewN|apply Kd.V_drew));exact HL452_1.out) (Kd.N_base ho73) hb)
            have n5_:=aM (Kd.N_elder' (by (with_reducible repeat (first|apply Kd.N_alloc|apply Kd.N_drewN|apply Kd.N_drew));exact HO455.out) (Kd.N_base ho73) hb)
            have n6_:=aM (Kd.N_lower ho73 (below_size (by repeat (first|(with_reducible first|exact HB.out|apply bA|apply bN|apply bD)|exact HB.out))))
            have n7_:=aM (Kd.C_below (by repeat (first|(with_reducible exact HR452_1.out)|(with_reducible refine Kd.C_alloc ?_ _)|(with_reducible refine Kd.C_drewN ?_ _)|(with_reducible refine Kd.C_drew ?_)|exact HR452_1.out)) hb)
            have n8_:=aM (below_step (by repeat (first|(with_reducible first|exact HB.out|apply bA|apply bN|apply bD)|exact HB.out)) hb)
            clear HO_5
            clear HO434
            clear HO442
            clear HO445
            clear HL452_1
            clear HO455
            clear HR452_1
            clear HB
            have HO_5:=n0_
            have HO434:=n1_
            have HO442:=n2_
            have HO445:=n3_
            have HL452_1:=n4_
            have HO455:=n5_
            have HO448:=n6_
            have HR452_1:=n7_
            have HB:=n8_
            clear n0_ n1_ n2_ n3_ n4_ n5_ n6_ n7_ n8_
            clear hb ho73
            refine hK.out _ _ ⟨HS0_,HS1_⟩ (fun hHeld => ?_)
            clear hK K
            refine norm_ (a':=?_) ?_ ?_
            rotate_left
            ·show Act.put _ (some 54) _ = _
             simp only [Act.put,sI,sZ,sS,i64_w,i32_w]
             rfl
            refine one_ (i:=2) (N:=some 56) #[bT,bT,bT,bT,bT,bT,bT,bT,bF,bF] rfl rfl (one_of HT_.out (by kernel_rfl)) (by decide) (fun K hK => ?_)
            refine Kd.N_append_rows_step k25 (w0:=w) w.heap.size (by rfl) (.tmp 54) (.tmp 55) 37 25 (.agg #[(.int .i64 0),(.slice none 0 0)]) 32 rfl Try.underlying37 info25 rfl (by decide) (by omega) v447 y446 t421 _ _ _ (fun k_ => some k_ ≠ (v444 : Value).ownBlock ∧ some k_ ≠ (v454 : Value).ownBlock) (fun k_ => ((fun k_ => some k_ ≠ (v444 : Value).ownBlock ∧ some k_ ≠ (v454 : Value).ownBlock)) k_ ∧ some k_ ≠ (v447 : Value).ownBlock) rfl rfl ?aO ?aR (fun _ hk => hk) ?aF ?aB ?aS ?aL ?_
            (case aR => exact (by skip;exact Kd.N_F (Kd.N_mono (ok':=(fun k_ => ((fun k_ => some k_ ≠ (v444 : Value).ownBlock ∧ some k_ ≠ (v454 : Value).ownBlock)) k_ ∧ some k_ ≠ (v447 : Value).ownBlock)) (HO_5.out) (fun k_ hk => ⟨⟨hk.1.1.2,hk.1.2⟩,hk.2⟩))))
            (case aB => exact (by repeat (first|(with_reducible first|exact HB.out|apply bA|apply bN|apply bD)|exact HB.out)))
            (case aF => exact (fun k_ hk => ⟨Kd.fresh' (Kd.N_lt (by (with_reducible repeat (first|apply Kd.N_alloc|apply Kd.N_drewN|apply Kd.N_drew));exact HO445.out)) k_ hk,Kd.fresh' (Kd.N_lt (by (with_reducible repeat (first|apply Kd.N_alloc|apply Kd.N_drewN|apply Kd.N_drew));exact HO455.out)) k_ hk⟩))
            (case aO => exact (by (with_reducible repeat (first|apply Kd.N_alloc|apply Kd.N_drewN|apply Kd.N_drew));exact Kd.N_mono HO448.out (fun _ hk => ⟨hk.2.1,hk.2.2⟩)))
            (case aS => exact (below_size (by repeat (first|(with_reducible first|exact HB.out|apply bA|apply bN|apply bD)|exact HB.out))))
            (case aL => have:=LMc30.out;omega)
            intro v450 w74 ho hb hg hat
            have HS0_:=cell_grown hg (hHeld.1) (cell_ne_row (fun e_ => ((HO448.out.1 _ e_.symm).1) rfl))
            have HS1_:=cell_grown hg (hHeld.2) (cell_ne_row (fun e_ => ((HO448.out.1 _ e_.symm).1) rfl))
            have hHN27_:=True.intro
            rw [← Ny449.out] at ho
            have n0_:=aM (Kd.N_afterv (ok:=(fun k_ => some k_ ≠ (v444 : Value).ownBlock ∧ some k_ ≠ (v454 : Value).ownBlock)) (by (with_reducible repeat (first|apply Kd.N_alloc|apply Kd.N_drewN|apply Kd.N_drew));exact Kd.N_mono HO_5.out (fun _ hk => ⟨⟨hk.1.1.2,hk.1.2⟩,hk.2⟩)) hg hat)
            have n1_:=aM (Kd.V_afterv (ok:=(fun k_ => some k_ ≠ (v444 : Value).ownBlock ∧ some k_ ≠ (v454 : Value).ownBlock)) (by (with_reducible repeat (first|apply Kd.V_alloc|apply Kd.V_drewN|apply Kd.V_drew));exact Kd.V_mono HO434.out (fun _ hk => ⟨⟨hk.1.1.2,hk.1.2⟩,hk.2⟩)) hg hat)
            have n2_:=aM (Kd.V_afterv (ok:=(fun k_ => some k_ ≠ (v444 : Value).ownBlock ∧ some k_ ≠ (v454 : Value).ownBlock)) (by (with_reducible repeat (first|apply Kd.V_alloc|apply Kd.V_drewN|apply Kd.V_drew));exact Kd.V_mono HO442.out (fun _ hk => ⟨⟨hk.1.1.2,hk.1.2⟩,hk.2⟩)) hg hat)
            have n3_:=aM (Kd.N_afterv (ok:=(fun k_ => some k_ ≠ (v454 : Value).ownBlock)) (by (with_reducible repeat (first|apply Kd.N_alloc|apply Kd.N_drewN|apply Kd.N_drew));exact Kd.N_mono HO445.out (fun _ hk => ⟨hk.1.2,hk.2⟩)) hg hat)
            have n4_:=aM (Kd.V_afterv (ok:=(fun k_ => some k_ ≠ (.slice (some ad452) t421.length co10 : Value).ownBlock ∧ some k_ ≠ (v444 : Value).ownBlock ∧ some k_ ≠ (v454 : Value).ownBlock)) (by (with_reducible repeat (first|apply Kd.V_alloc|apply Kd.V_drewN|apply Kd.V_drew));exact Kd.V_mono HL452_1.out (fun _ hk => ⟨⟨hk.1.1.2,⟨hk.1.1.1.2,hk.1.2⟩⟩,hk.2⟩)) hg hat)
            have n5_:=aM (Kd.N_afterv (ok:=(fun k_ => some k_ ≠ (.slice (some ad452) t421.length co10 : Value).ownBlock ∧ some k_ ≠ (v444 : Value).ownBlock)) (by (with_reducible repeat (first|apply Kd.N_alloc|apply Kd.N_drewN|apply Kd.N_drew));exact HO455.out) hg hat)
            have n6_:=aM (hb)
            have n7_:=aM (ho)
            clear HO_5
            clear HO434
            clear HO442
            clear HO445
            clear HL452_1
            clear HO455
            clear HB
            clear HO448
            have HO_5:=n0_
            have HO434:=n1_
            have HO442:=n2_
            have HO445:=n3_
            have HL452_1:=n4_
            have HO455:=n5_
            have HB:=n6_
            have HO451:=n7_
            clear n0_ n1_ n2_ n3_ n4_ n5_ n6_ n7_
            clear ho hb hg hat
            refine hK.out _ _ ⟨HS0_,HS1_⟩ (fun hHeld => ?_)
            clear hK K
            refine norm_ (a':=?_) ?_ ?_
            rotate_left
            ·show Act.put _ (some 56) _ = _
             simp only [Act.put,sI,sZ,sS,i64_w,i32_w]
             rfl
            exact norm_ (by simp only [putAll,Act.put,sI,sZ,sS]) (hCont (v447,v450,v454) _ ⟨hHeld,(by (with_reducible repeat (first|apply Kd.V_alloc|apply Kd.V_drewN|apply Kd.V_drew));exact Kd.V_mono HL452_1.out (fun _ hk => ⟨hk.1.2.1,⟨hk.2,⟨hk.1.2.2,hk.1.1⟩⟩⟩)),(by (with_reducible repeat (first|apply Kd.V_alloc|apply Kd.V_drewN|apply Kd.V_drew));exact Kd.V_mono HO434.out (fun _ hk => ⟨hk.1.1,⟨hk.2,hk.1.2⟩⟩)),(by (with_reducible repeat (first|apply Kd.V_alloc|apply Kd.V_drewN|apply Kd.V_drew));exact Kd.V_mono HO442.out (fun _ hk => ⟨hk.1.1,⟨hk.2,hk.1.2⟩⟩)),(by (with_reducible repeat (first|apply Kd.N_alloc|apply Kd.N_drewN|apply Kd.N_drew));exact Kd.N_mono HO445.out (fun _ hk => ⟨hk.2,hk.1⟩)),(by (with_reducible repeat (first|apply Kd.N_alloc|apply Kd.N_drewN|apply Kd.N_drew));exact HO451.out),(by (with_reducible repeat (first|apply Kd.N_alloc|apply Kd.N_drewN|apply Kd.N_drew));exact Kd.N_mono HO455.out (fun _ hk => ⟨hk.1.2,⟨hk.2,hk.1.1⟩⟩)),(by (with_reducible repeat (first|apply Kd.N_alloc|apply Kd.N_drewN|apply Kd.N_drew));exact Kd.N_mono HO_5.out (fun _ hk => ⟨hk.1.1,⟨hk.2,hk.1.2⟩⟩)),(by repeat (first|(with_reducible first|exact HB.out|apply bA|apply bN|apply bD)|exact HB.out))⟩)
          rintro ⟨v447,v450,v454⟩ w75 ⟨hS_,h0_,h1_,h2_,h3_,h4_,h5_,h6_,h7_⟩
          have n0_ : Aside0 (Kd.V k65 65 w75 w.heap.size (fun k_ => some k_ ≠ (v444 : Value).ownBlock ∧ some k_ ≠ (v450 : Value).ownBlock ∧ some k_ ≠ (v454 : Value).ownBlock ∧ some k_ ≠ (.slice (some ad452) t421.length co10 : Value).ownBlock) (.slice A452_1 ((rd_T25 t421 (ji22)).f1).length c452_1) ((rd_T25 t421 (ji22)).f1)):=⟨h0_⟩
          have n1_ : Aside0 (Kd.V k25 25 w75 w.heap.size (fun k_ => some k_ ≠ (v444 : Value).ownBlock ∧ some k_ ≠ (v450 : Value).ownBlock ∧ some k_ ≠ (v454 : Value).ownBlock) (.slice (some ad452) y430.length co10) y430):=⟨h1_⟩
          have n2_ : Aside0 (Kd.V k25 25 w75 w.heap.size (fun k_ => some k_ ≠ (v444 : Value).ownBlock ∧ some k_ ≠ (v450 : Value).ownBlock ∧ some k_ ≠ (v454 : Value).ownBlock) (.slice A64 y438.length c64) y438):=⟨h2_⟩
          have n3_ : Aside0 (Kd.N k25 25 w75 w.heap.size (fun k_ => some k_ ≠ (v450 : Value).ownBlock ∧ some k_ ≠ (v454 : Value).ownBlock) v444 y443):=⟨h3_⟩
          have n4_ : Aside0 (Kd.N k25 25 w75 w.heap.size (fun k_ => some k_ ≠ (v444 : Value).ownBlock ∧ some k_ ≠ (v454 : Value).ownBlock) v450 y449):=⟨h4_⟩
          have n5_ : Aside0 (Kd.N k25 25 w75 w.heap.size (fun k_ => some k_ ≠ (v444 : Value).ownBlock ∧ some k_ ≠ (v450 : Value).ownBlock ∧ some k_ ≠ (.slice (some ad452) t421.length co10 : Value).ownBlock) v454 y453):=⟨h5_⟩
          have n6_ : Aside0 (Kd.N k25 25 w75 w.heap.size (fun k_ => some k_ ≠ (v444 : Value).ownBlock ∧ some k_ ≠ (v450 : Value).ownBlock ∧ some k_ ≠ (v454 : Value).ownBlock) (.slice (some ad452) t421.length co10) t421):=⟨h6_⟩
          have n7_ : Aside0 (Below w.heap.size w w75):=⟨h7_⟩
          clear HO_5
          clear HO434
          clear HO442
          clear HO445
          clear HB
          clear h0_ h1_ h2_ h3_ h4_ h5_ h6_ h7_
          have HL452_1:=n0_
          have HO434:=n1_
          have HO442:=n2_
          have HO445:=n3_
          have HO451:=n4_
          have HO455:=n5_
          have HO_5:=n6_
          have HB:=n7_
          clear n0_ n1_ n2_ n3_ n4_ n5_ n6_ n7_
          have hHeld : w75.cell? (ad452.add (((ji22)).toNat * 2)) = some (.int .i64 ((rd_T25 t421 (ji22)).f0)) ∧ w75.cell? ⟨(ad452.add (((ji22)).toNat * 2)).block,(ad452.add (((ji22)).toNat * 2)).off + 1,none⟩ = some (.slice A452_1 ((rd_T25 t421 (ji22)).f1).length c452_1):=hS_
          obtain ⟨Ao77,co77,eo77⟩:=Kd.N_slice HO455.out
          (first|subst eo77|(injection eo77 with f1_ f2_ f3_;have f4_:=f1_.symm;have f5_:=f3_.symm;clear f1_ f2_ f3_;subst f4_;subst f5_))
          refine norm_ (a':=?_) ?_ ?_
          rotate_left
          ·simp only [putAll,Act.put,sI,sZ,sS]
           rfl
          refine one_ (i:=8) (N:=some 62) #[bT,bT,bT,bT,bT,bT,bT,bT,bT,bF] rfl rfl (one_of HT_.out (by kernel_rfl)) (by decide) (fun K hK => ?_)
          refine Kd.N_append_rows_step k25 (w0:=w) w.heap.size (by rfl) (.tmp 56) (.tmp 61) 37 25 (.agg #[(.int .i64 0),(.slice none 0 0)]) 32 rfl Try.underlying37 info25 rfl (by decide) (by omega) v450 y449 y453 _ _ _ (fun k_ => some k_ ≠ (v444 : Value).ownBlock) (fun k_ => ((fun k_ => some k_ ≠ (v444 : Value).ownBlock)) k_ ∧ some k_ ≠ (v450 : Value).ownBlock) rfl rfl ?aO ?aR (fun _ hk => hk) ?aF ?aB ?aS ?aL ?_
          (case aR => exact (by skip;exact Kd.N_F (Kd.N_mono (ok':=(fun k_ => ((fun k_ => some k_ ≠ (v444 : Value).ownBlock)) k_ ∧ some k_ ≠ (v450 : Value).ownBlock)) (HO455.out) (fun k_ hk => ⟨hk.1,hk.2.1⟩))))
          (case aB => exact (by repeat (first|(with_reducible first|exact HB.out|apply bA|apply bN|apply bD)|exact HB.out)))
          (case aF => exact (fun k_ hk => Kd.fresh' (Kd.N_lt (by (with_reducible repeat (first|apply Kd.N_alloc|apply Kd.N_drewN|apply Kd.N_drew));exact HO445.out)) k_ hk))
          (case aO => exact (by (with_reducible repeat (first|apply Kd.N_alloc|apply Kd.N_drewN|apply Kd.N_drew));exact Kd.N_mono HO451.out (fun _ hk => hk.1)))
          (case aS => exact (below_size (by repeat (first|(with_reducible first|exact HB.out|apply bA|apply bN|apply bD)|exact HB.out))))
          (case aL => have:=LMc32.out;omega)
          intro v457 w76 ho hb hg hat
          have HS0_:=cell_grown hg (hHeld.1) (cell_ne_row ((HO_5.out.1 _ rfl).2.1))
          have HS1_:=cell_grown hg (hHeld.2) (cell_ne_row ((HO_5.out.1 _ rfl).2.1))
          have hHN29_:=True.intro
          rw [← Ny456.out] at ho
          have n0_:=aM (Kd.N_afterv (ok:=(fun k_ => some k_ ≠ (v444 : Value).ownBlock ∧ some k_ ≠ (.slice Ao77 y453.length co77 : Value).ownBlock)) (by (with_reducible repeat (first|apply Kd.N_alloc|apply Kd.N_drewN|apply Kd.N_drew));exact Kd.N_mono HO_5.out (fun _ hk => ⟨⟨hk.1,hk.2.2⟩,hk.2.1⟩)) hg hat)
          have n1_:=aM (Kd.V_afterv (ok:=(fun k_ => some k_ ≠ (v444 : Value).ownBlock ∧ some k_ ≠ (.slice Ao77 y453.length co77 : Value).ownBlock)) (by (with_reducible repeat (first|apply Kd.V_alloc|apply Kd.V_drewN|apply Kd.V_drew));exact Kd.V_mono HO434.out (fun _ hk => ⟨⟨hk.1,hk.2.2⟩,hk.2.1⟩)) hg hat)
          have n2_:=aM (Kd.V_afterv (ok:=(fun k_ => some k_ ≠ (v444 : Value).ownBlock ∧ some k_ ≠ (.slice Ao77 y453.length co77 : Value).ownBlock)) (by (with_reducible repeat (first|apply Kd.V_alloc|apply Kd.V_drewN|apply Kd.V_drew));exact Kd.V_mono HO442.out (fun _ hk => ⟨⟨hk.1,hk.2.2⟩,hk.2.1⟩)) hg hat)
          have n3_:=aM (Kd.N_afterv (ok:=(fun k_ => some k_ ≠ (.slice Ao77 y453.length co77 : Value).ownBlock)) (by (with_reducible repeat (first|apply Kd.N_alloc|apply Kd.N_drewN|apply Kd.N_drew));exact Kd.N_mono HO445.out (fun _ hk => ⟨hk.2,hk.1⟩)) hg hat)
          have n4_:=aM (Kd.V_afterv (ok:=(fun k_ => some k_ ≠ (.slice (some ad452) t421.length co10 : Value).ownBlock ∧ some k_ ≠ (v444 : Value).ownBlock ∧ some k_ ≠ (.slice Ao77 y453.length co77 : Value).ownBlock)) (by (with_reducible repeat (first|apply Kd.V_alloc|apply Kd.V_drewN|apply Kd.V_drew));exact Kd.V_mono HL452_1.out (fun _ hk => ⟨⟨hk.2.2.2,⟨hk.1,hk.2.2.1⟩⟩,hk.2.1⟩)) hg hat)
          have n5_:=aM (Kd.N_afterv (ok:=(fun k_ => some k_ ≠ (.slice (some ad452) t421.length co10 : Value).ownBlock ∧ some k_ ≠ (v444 : Value).ownBlock)) (by (with_reducible repeat (first|apply Kd.N_alloc|apply Kd.N_drewN|apply Kd.N_drew));exact Kd.N_mono HO455.out (fun _ hk => ⟨⟨hk.2.2,hk.1⟩,hk.2.1⟩)) hg hat)
          have n6_:=aM (hb)
          have n7_:=aM (ho)
          clear HO_5
          clear HO434
          clear HO442
          clear HO445
          clear HL452_1
          clear HO455
          clear HB
          clear HO451
          have HO_5:=n0_
          have HO434:=n1_
          have HO442:=n2_
          have HO445:=n3_
          have HL452_1:=n4_
          have HO455:=n5_
          have HB:=n6_
          have HO458:=n7_
          clear n0_ n1_ n2_ n3_ n4_ n5_ n6_ n7_
          clear ho hb hg hat
          refine hK.out _ _ ⟨HS0_,HS1_⟩ (fun hHeld => ?_)
          clear hK K
          refine norm_ (a':=?_) ?_ ?_
          rotate_left
          ·show Act.put _ (some 62) _ = _
           simp only [Act.put,sI,sZ,sS,i64_w,i32_w]
           rfl
          refine pure_ (i:=9) (N:=some 9) (v:=?_) (a':=?_) #[bT,bT,bT,bT,bT,bT,bT,bT,bT,bT] rfl rfl (any_of HT_.out (by kernel_rfl)) (fun _ _ _ h => h) (Or.inl ⟨by rfl,?_⟩) ?_ ?_
          rotate_left;(· intro w';go_simp;with_reducible rfl);rotate_left;(· simp only [Act.put,sI,sZ,sS,i64_w,i32_w];rfl)
          refine done_ (done_of HT_.out (by kernel_rfl)) ?_
          obtain ⟨Ao78,co78,eo78⟩:=Kd.N_slice HO445.out
          subst eo78
          try go_wp2_with (first|((with_reducible refine gate_callee (f:=24) rfl ?_);refine goesL_ (some 64) rfl rfl Try.func24 (by kernel_rfl) rfl #[.slice Ao78 y443.length co78] rfl (by (try simp only [List.map_toArray,List.map_cons,List.map_nil]);first|done|rfl|(simp only [List.length_drop,List.length_take];rfl)) ?_;(with_reducible refine (impl_VotesOk.calls kj7 _ _ y443 true _ ?side1 ?side2 A33.out).mono ?_);(case side1 => repeat (first|exact (Kd.N_reads' HO445.out).2.2|(with_reducible refine Kd.C_alloc ?_ _)|(with_reducible refine Kd.C_drewN ?_ _)|(with_reducible refine Kd.C_drew ?_)));(case side2 => exact (Kd.N_reads' HO445.out).2.1);rintro e w79 ⟨rfl,hb⟩;refine ⟨_,rfl,?_⟩;have n0_:=aM (Kd.N_below (by (with_reducible repeat (first|apply Kd.N_alloc|apply Kd.N_drewN|apply Kd.N_drew));exact HO_5.out) hb);have n1_:=aM (Kd.V_below (by (with_reducible repeat (first|apply Kd.V_alloc|apply Kd.V_drewN|apply Kd.V_drew));exact HO434.out) hb);have n2_:=aM (Kd.V_below (by (with_reducible repeat (first|apply Kd.V_alloc|apply Kd.V_drewN|apply Kd.V_drew));exact HO442.out) hb);have n3_:=aM (Kd.N_below (by (with_reducible repeat (first|apply Kd.N_alloc|apply Kd.N_drewN|apply Kd.N_drew));exact HO445.out) hb);have n4_:=aM (Kd.V_below (by (with_reducible repeat (first|apply Kd.V_alloc|apply Kd.V_drewN|apply Kd.V_drew));exact HL452_1.out) hb);have n5_:=aM (Kd.N_below (by (with_reducible repeat (first|apply Kd.N_alloc|apply Kd.N_drewN|apply Kd.N_drew));exact HO455.out) hb);have n6_:=aM (Kd.N_below (by (with_reducible repeat (first|apply Kd.N_alloc|apply Kd.N_drewN|apply Kd.N_drew));exact HO458.out) hb);have n7_:=aM (below_step (by repeat (first|(with_reducible first|exact HB.out|apply bA|apply bN|apply bD)|exact HB.out)) hb);clear HO_5;clear HO434;clear HO442;clear HO445;clear HL452_1;clear HO455;clear HO458;clear HB;have HO_5:=n0_;have HO434:=n1_;have HO442:=n2_;have HO445:=n3_;have HL452_1:=n4_;have HO455:=n5_;have HO458:=n6_;have HB:=n7_;clear n0_ n1_ n2_ n3_ n4_ n5_ n6_ n7_;(try clear hb);(try clear hb2);(try clear hk);(try clear hi))|(go_at_call 27;(with_reducible refine (laws_lwBack.calls kj7 (fun k_ => ((some k_ ≠ (.slice Ao78 y443.length co78 : Value).ownBlock ∧ some k_ ≠ (.slice Ao77 y453.length co77 : Value).ownBlock) ∧ some k_ ≠ (v457 : Value).ownBlock)) _ _ t421 t460 _ ?side1 A35.out).mono ?_);(case side1 => exact Kd.N_V (HO_5.out));rintro e w80 ⟨v461,rfl,ho0,hb⟩;have n0_:=aM (Kd.N_elder' (by (with_reducible repeat (first|apply Kd.N_alloc|apply Kd.N_drewN|apply Kd.N_drew));exact HO_5.out) (Kd.N_base ho0) hb);have n1_:=aM (Kd.V_elder' (by (with_reducible repeat (first|apply Kd.V_alloc|apply Kd.V_drewN|apply Kd.V_drew));exact HO434.out) (Kd.N_base ho0) hb);have n2_:=aM (Kd.V_elder' (by (with_reducible repeat (first|apply Kd.V_alloc|apply Kd.V_drewN|apply Kd.V_drew));exact HO442.out) (Kd.N_base ho0) hb);have n3_:=aM (Kd.N_elder' (by (with_reducible repeat (first|apply Kd.N_alloc|apply Kd.N_drewN|apply Kd.N_drew));exact HO445.out) (Kd.N_base ho0) hb);have n4_:=aM (Kd.V_elder' (by (with_reducible repeat (first|apply Kd.V_alloc|apply Kd.V_drewN|apply Kd.V_drew));exact HL452_1.out) (Kd.N_base ho0) hb);have n5_:=aM (Kd.N_elder' (by (with_reducible repeat (first|apply Kd.N_alloc|apply Kd.N_drewN|apply Kd.N_drew));exact HO455.out) (Kd.N_base ho0) hb);have n6_:=aM (Kd.N_elder' (by (with_reducible repeat (first|apply Kd.N_alloc|apply Kd.N_drewN|apply Kd.N_drew));exact HO458.out) (Kd.N_base ho0) hb);have n7_:=aM (Kd.N_lower (Kd.N_mono (ok':=fun k_ => some k_ ≠ (.slice Ao78 y443.length co78 : Value).ownBlock ∧ some k_ ≠ (.slice Ao77 y453.length co77 : Value).ownBlock ∧ some k_ ≠ (v457 : Value).ownBlock) ho0 (fun k_ hk_ => ⟨Or.elim hk_ (fun hs_ => hs_.1.1) (fun hn_ => (Kd.fresh' (Kd.N_lt (by (with_reducible repeat (first|apply Kd.N_alloc|apply Kd.N_drewN|apply Kd.N_drew));exact HO445.out)) k_ hn_)),Or.elim hk_ (fun hs_ => hs_.1.2) (fun hn_ => (Kd.fresh' (Kd.N_lt (by (with_reducible repeat (first|apply Kd.N_alloc|apply Kd.N_drewN|apply Kd.N_drew));exact HO455.out)) k_ hn_)),Or.elim hk_ (fun hs_ => hs_.2) (fun hn_ => (Kd.fresh' (Kd.N_lt (by (with_reducible repeat (first|apply Kd.N_alloc|apply Kd.N_drewN|apply Kd.N_drew));exact HO458.out)) k_ hn_))⟩)) (below_size (by repeat (first|(with_reducible first|exact HB.out|apply bA|apply bN|apply bD)|exact HB.out))));have n8_:=aM (below_step (by repeat (first|(with_reducible first|exact HB.out|apply bA|apply bN|apply bD)|exact HB.out)) hb);clear HO_5;clear HO434;clear HO442;clear HO445;clear HL452_1;clear HO455;clear HO458;clear HB;have HO_5:=n0_;have HO434:=n1_;have HO442:=n2_;have HO445:=n3_;have HL452_1:=n4_;have HO455:=n5_;have HO458:=n6_;have HO462:=n7_;have HB:=n8_;clear n0_ n1_ n2_ n3_ n4_ n5_ n6_ n7_ n8_;(try clear hb);(try clear hb2);(try clear hk);(try clear hi);(try clear ho0);obtain ⟨Ao81,co81,eo81⟩:=Kd.N_slice HO462.out;subst eo81)|(go_at_call 24;(with_reducible refine (impl_VotesOk.calls kj7 _ _ t460 false _ ?side1 ?side2 A36.out).mono ?_);(case side1 => repeat (first|exact (Kd.N_reads' HO462.out).2.2|(with_reducible refine Kd.C_alloc ?_ _)|(with_reducible refine Kd.C_drewN ?_ _)|(with_reducible refine Kd.C_drew ?_)));(case side2 => exact (Kd.N_reads' HO462.out).2.1);rintro e w82 ⟨rfl,hb⟩;have n0_:=aM (Kd.N_below (by (with_reducible repeat (first|apply Kd.N_alloc|apply Kd.N_drewN|apply Kd.N_drew));exact HO_5.out) hb);have n1_:=aM (Kd.V_below (by (with_reducible repeat (first|apply Kd.V_alloc|apply Kd.V_drewN|apply Kd.V_drew));exact HO434.out) hb);have n2_:=aM (Kd.V_below (by (with_reducible repeat (first|apply Kd.V_alloc|apply Kd.V_drewN|apply Kd.V_drew));exact HO442.out) hb);have n3_:=aM (Kd.N_below (by (with_reducible repeat (first|apply Kd.N_alloc|apply Kd.N_drewN|apply Kd.N_drew));exact HO445.out) hb);have n4_:=aM (Kd.V_below (by (with_reducible repeat (first|apply Kd.V_alloc|apply Kd.V_drewN|apply Kd.V_drew));exact HL452_1.out) hb);have n5_:=aM (Kd.N_below (by (with_reducible repeat (first|apply Kd.N_alloc|apply Kd.N_drewN|apply Kd.N_drew));exact HO455.out) hb);have n6_:=aM (Kd.N_below (by (with_reducible repeat (first|apply Kd.N_alloc|apply Kd.N_drewN|apply Kd.N_drew));exact HO458.out) hb);have n7_:=aM (Kd.N_below (by (with_reducible repeat (first|apply Kd.N_alloc|apply Kd.N_drewN|apply Kd.N_drew));exact HO462.out) hb);have n8_:=aM (below_step (by repeat (first|(with_reducible first|exact HB.out|apply bA|apply bN|apply bD)|exact HB.out)) hb);clear HO_5;clear HO434;clear HO442;clear HO445;clear HL452_1;clear HO455;clear HO458;clear HO462;clear HB;have HO_5:=n0_;have HO434:=n1_;have HO442:=n2_;have HO445:=n3_;have HL452_1:=n4_;have HO455:=n5_;have HO458:=n6_;have HO462:=n7_;have HB:=n8_;clear n0_ n1_ n2_ n3_ n4_ n5_ n6_ n7_ n8_;(try clear hb);(try clear hb2);(try clear hk);(try clear hi)))
          go_ret
          exact ⟨by first|rfl|(simp only [i64_w,i32_w];done)|(simp only [i64_w,i32_w];rfl)|(simp [errW_none,errW_some] <;> rfl)|(simp only [← hji22,← hji26];first|rfl|(simp [errW_none,errW_some] <;> rfl))|(simp [*,errW_none,errW_some] <;> rfl),by repeat (first|(with_reducible first|exact HB.out|apply bA|apply bN|apply bD)|exact HB.out)⟩
        ·replace c34:=Bool.eq_false_iff.mpr c34
         subst c34
         have H1 : (some false) = some r:=by rw [if_neg (show ¬ (false = true) by decide)] at H;exact H
         clear H
         have H:=H1
         clear H1
         obtain rfl:=Option.some.inj H
         try go_wp2
         have n0_:=aM (Kd.N_drew HO_5.out)
         have n1_:=aM (bD HB.out)
         clear HO_5
         clear HB
         have HO_5:=n0_
         have HB:=n1_
         clear n0_ n1_
         have q84 : ((ji22) : Int) ≤ ((t421.length : Int) : Int):=of_decide_eq_true (by first|(with_reducible assumption)|assumption)
         obtain ⟨i084,hi084,_,hsz84,_⟩:=info_parts info25
         have hroom84 : t421.length ≤ co10:=(Kd.N_reads' HO_5.out).2.1
         have hC84 : Kd.F k25 _ _ Ao10 t421.length t421:=(Kd.V_at (base:=w.heap.size) (Kd.N_V HO_5.out)).2.2
         have hcut84:=cut_to (P:=Try.prog) 37 25 .i64 Try.underlying37 hi084 Ao10 t421.length co10 (ji22) (of_decide_eq_true (by first|(with_reducible assumption)|assumption)) q84 hroom84
         have hr84:=Kd.F_take (m:=((ji22) : Int).toNat) hC84 (by omega)
         have hy84 : y430.length = ((ji22) : Int).toNat:=(by rw [Ny430.out,List.length_take];omega)
         rw [← Ny430.out] at hr84
         rw [← hy84] at hcut84
         have HO434:=aM (show Kd.V k25 25 _ w.heap.size _ (.slice Ao10 y430.length co10) y430 from Kd.V_mk (by omega) hr84)
         have HC434:=aM (show y430.length ≤ co10 from by omega)
         clear hr84 hC84 hroom84 hi084 hsz84
         have KY84:=aM hy84
         clear hy84
         replace q84:=eq_true q84
         have q85 : ((ji26) : Int) ≤ ((t421.length : Int) : Int):=of_decide_eq_true (by first|(with_reducible assumption)|assumption)
         obtain ⟨i085,hi085,_,hsz85,_⟩:=info_parts info25
         have hroom85 : t421.length ≤ co10:=(Kd.N_reads' HO_5.out).2.1
         have hC85 : Kd.F k25 _ _ Ao10 t421.length t421:=(Kd.V_at (base:=w.heap.size) (Kd.N_V HO_5.out)).2.2
         have q085 : (0 : Int) ≤ ((ji26) : Int):=of_decide_eq_true (by first|(with_reducible assumption)|assumption)
         have hcut85:=cut_from (P:=Try.prog) 37 25 .i64 Try.underlying37 hi085 2 hsz85 Ao10 t421.length co10 (ji26) q085 q85
         have hr85:=Kd.F_cut (m:=((ji26) : Int).toNat) (c:=co10) hC85 (by omega) hroom85
         obtain ⟨A85,hA85⟩ : ∃ A1,A1 = (if co10 = ((ji26) : Int).toNat then Ao10 else (Ao10 : Option Addr).map (·.add (((ji26) : Int).toNat * 2))):=⟨_,rfl⟩
         obtain ⟨c85,hc85⟩ : ∃ c1,c1 = co10 - ((ji26) : Int).toNat:=⟨_,rfl⟩
         have hy85 : y438.length = t421.length - ((ji26) : Int).toNat:=(by rw [Ny438.out,List.length_drop] <;> omega)
         rw [show (t421).drop ((ji26) : Int).toNat = y438 from Ny438.out.symm] at hr85
         replace hr85 : Kd.F k25 _ _ A85 y438.length y438:=(by rw [hA85];exact hr85)
         rw [← hy85,← hA85,← hc85] at hcut85
         have HO442:=aM (show Kd.V k25 25 _ w.heap.size _ (.slice A85 y438.length c85) y438 from Kd.V_mk (by rw [hy85,hc85];exact Nat.sub_le_sub_right hroom85 _) hr85)
         have HC442:=aM (show y438.length ≤ c85 from by rw [hy85,hc85];exact Nat.sub_le_sub_right hroom85 _)
         clear hr85 hC85 hroom85 hi085 hsz85 hc85
         have KY85:=aM hy85
         have KA85:=aM hA85
         clear hy85 hA85
         replace q85:=eq_true q85
         refine start_ (n:=11) (S:=fun w' => True) (ds:=[]) #[bF,bF,bF,bF,bF,bF,bF,bF,bF,bF,bF] (by kernel_rfl) rfl rfl trivial (fun hHeld => ?_);refine with_tabW laws_FnVotesLess.tab8 laws_FnVotesLess.bits8 (fun HT_ HW_ => ?_)
         generalize wc.drew = w83 at HO_5 HB HO434 HO442 hHeld ⊢
         refine pure_ (i:=1) (N:=some 45) (v:=?_) (a':=?_) #[bF,bT,bF,bF,bF,bF,bF,bF,bF,bF,bF] rfl rfl (any_of HT_.out (by kernel_rfl)) (fun _ _ _ h => h) (Or.inl ⟨by rfl,?_⟩) ?_ ?_
         rotate_left;(· intro w';go_simp;with_reducible rfl);rotate_left;(· simp only [Act.put,sI,sZ,sS,i64_w,i32_w];rfl)
         refine pure_ (i:=2) (N:=some 46) (v:=?_) (a':=?_) #[bF,bT,bT,bF,bF,bF,bF,bF,bF,bF,bF] rfl rfl (any_of HT_.out (by kernel_rfl)) (fun _ _ _ h => h) (Or.inl ⟨by rfl,?_⟩) ?_ ?_
         rotate_left;(· intro w';go_simp;with_reducible rfl);rotate_left;(· simp only [Act.put,sI,sZ,sS,i64_w,i32_w];rfl)
         refine pure_ (i:=3) (N:=some 47) (v:=?_) (a':=?_) #[bF,bT,bT,bT,bF,bF,bF,bF,bF,bF,bF] rfl rfl (any_of HT_.out (by kernel_rfl)) (fun _ _ _ h => h) (Or.inl ⟨by rfl,?_⟩) ?_ ?_
         rotate_left;(· intro w';go_simp;with_reducible rfl);rotate_left;(· simp only [Act.put,sI,sZ,sS,i64_w,i32_w];rfl)
         refine pure_ (i:=5) (N:=some 49) (v:=?_) (a':=?_) #[bF,bT,bT,bT,bF,bT,bF,bF,bF,bF,bF] rfl rfl (any_of HT_.out (by kernel_rfl)) (fun _ _ _ h => h) (Or.inl ⟨by rfl,?_⟩) ?_ ?_
         rotate_left;(· intro w';go_simp;with_reducible rfl);rotate_left;(· simp only [Act.put,sI,sZ,sS,i64_w,i32_w];rfl)
         refine pure_ (i:=6) (N:=some 50) (v:=?_) (a':=?_) #[bF,bT,bT,bT,bF,bT,bT,bF,bF,bF,bF] rfl rfl (any_of HT_.out (by kernel_rfl)) (fun _ _ _ h => h) (Or.inl ⟨by rfl,?_⟩) ?_ ?_
         rotate_left;(· intro w';go_simp;with_reducible rfl);rotate_left;(· simp only [Act.put,sI,sZ,sS,i64_w,i32_w];rfl)
         refine pure_ (i:=7) (N:=some 51) (v:=?_) (a':=?_) #[bF,bT,bT,bT,bF,bT,bT,bT,bF,bF,bF] rfl rfl (any_of HT_.out (by kernel_rfl)) (fun _ _ _ h => h) (Or.inl ⟨by rfl,?_⟩) ?_ ?_
         rotate_left;(· intro w';go_simp;with_reducible rfl);rotate_left;(· simp only [Act.put,sI,sZ,sS,i64_w,i32_w];rfl)
         refine pure_ (i:=8) (N:=some 52) (v:=?_) (a':=?_) #[bF,bT,bT,bT,bF,bT,bT,bT,bT,bF,bF] rfl rfl (any_of HT_.out (by kernel_rfl)) (fun _ _ _ h => h) (Or.inl ⟨by rfl,?_⟩) ?_ ?_
         rotate_left;(· intro w';go_simp;with_reducible rfl);rotate_left;(· simp only [Act.put,sI,sZ,sS,i64_w,i32_w];rfl)
         refine one_ (i:=0) (N:=some 44) #[bT,bT,bT,bT,bF,bT,bT,bT,bT,bF,bF] rfl rfl (one_of HT_.out (by kernel_rfl)) (by decide) (fun K hK => ?_)
         refine Kd.N_lit_step k25 _ 25 ?hg (N':=44) ?hd (xs:=([] : List (S25))) (inner:=[]) (ok:=(fun k_ => some k_ ≠ (.slice Ao10 t421.length co10 : Value).ownBlock)) (okp:=(fun k_ => some k_ ≠ (.slice Ao10 t421.length co10 : Value).ownBlock)) ?hr ?hp (fun _ hk => hk) ((show ∀ k_,w83.heap.size ≤ k_ → (fun k_ => some k_ ≠ (.slice Ao10 t421.length co10 : Value).ownBlock) k_ from fun k_ hk => Kd.fresh' (Kd.N_lt (by (with_reducible repeat (first|apply Kd.N_alloc|apply Kd.N_drewN|apply Kd.N_drew));exact HO_5.out)) k_ hk) _ (Nat.le_refl _)) (Below.refl _ _) (Nat.le_refl _) (by simp) ?_;(case hd => rfl);(case hg => rfl);(case hr => first|(go_simp;done)|(go_simp;rfl));(case hp => exact (Reps.none _ _))
         intro v428 w86 ho87 hb hg_ hnew_
         clear hg_ hnew_
         (first|rw [← Ny427.out] at ho87|(simp only [Int.reduceToNat] at ho87;rw [← Ny427.out] at ho87))
         have n0_:=aM (Kd.N_elder' (by (with_reducible repeat (first|apply Kd.N_alloc|apply Kd.N_drewN|apply Kd.N_drew));exact HO_5.out) (Kd.N_base ho87) hb)
         have n1_:=aM (Kd.V_elder' (by (with_reducible repeat (first|apply Kd.V_alloc|apply Kd.V_drewN|apply Kd.V_drew));exact HO434.out) (Kd.N_base ho87) hb)
         have n2_:=aM (Kd.V_elder' (by (with_reducible repeat (first|apply Kd.V_alloc|apply Kd.V_drewN|apply Kd.V_drew));exact HO442.out) (Kd.N_base ho87) hb)
         have n3_:=aM (Kd.N_lower ho87 (below_size (by repeat (first|(with_reducible first|exact HB.out|apply bA|apply bN|apply bD)|exact HB.out))))
         have n4_:=aM (below_step (by repeat (first|(with_reducible first|exact HB.out|apply bA|apply bN|apply bD)|exact HB.out)) hb)
         clear HO_5
         clear HO434
         clear HO442
         clear HB
         have HO_5:=n0_
         have HO434:=n1_
         have HO442:=n2_
         have HO429:=n3_
         have HB:=n4_
         clear n0_ n1_ n2_ n3_ n4_
         clear hb ho87
         refine hK.out _ _ trivial (fun hHeld => ?_)
         clear hK K
         refine norm_ (a':=?_) ?_ ?_
         rotate_left
         ·show Act.put _ (some 44) _ = _
          simp only [Act.put,sI,sZ,sS,i64_w,i32_w]
          rfl
         refine one_ (i:=4) (N:=some 48) #[bT,bT,bT,bT,bT,bT,bT,bT,bT,bF,bF] rfl rfl (one_of HT_.out (by kernel_rfl)) (by decide) (fun K hK => ?_)
         refine Kd.N_append_rows_step k25 (w0:=w) w.heap.size (by rfl) (.tmp 44) (.tmp 47) 37 25 (.agg #[(.int .i64 0),(.slice none 0 0)]) 32 rfl Try.underlying37 info25 rfl (by decide) (by omega) v428 y427 y430 _ _ _ (fun _ => True) (fun k_ => ((fun _ => True)) k_ ∧ some k_ ≠ (v428 : Value).ownBlock) rfl rfl ?aO ?aR (fun _ hk => hk) ?aF ?aB ?aS ?aL ?_
         (case aR => exact (by skip;exact Kd.V_F (Kd.V_mono (ok':=(fun k_ => ((fun _ => True)) k_ ∧ some k_ ≠ (v428 : Value).ownBlock)) (HO434.out) (fun k_ hk => ⟨trivial,hk.2⟩))))
         (case aB => exact (by repeat (first|(with_reducible first|exact HB.out|apply bA|apply bN|apply bD)|exact HB.out)))
         (case aF => exact (fun _ _ => trivial))
         (case aO => exact (by (with_reducible repeat (first|apply Kd.N_alloc|apply Kd.N_drewN|apply Kd.N_drew));exact Kd.N_mono HO429.out (fun _ hk => trivial)))
         (case aS => exact (below_size (by repeat (first|(with_reducible first|exact HB.out|apply bA|apply bN|apply bD)|exact HB.out))))
         (case aL => have:=LMc25.out;omega)
         intro v436 w88 ho hb hg hat
         have hHN30_:=True.intro
         rw [← Ny435.out] at ho
         have n0_:=aM (Kd.N_afterv (ok:=(fun _ => True)) (by (with_reducible repeat (first|apply Kd.N_alloc|apply Kd.N_drewN|apply Kd.N_drew));exact HO_5.out) hg hat)
         have n1_:=aM (Kd.V_afterv (ok:=(fun _ => True)) (by (with_reducible repeat (first|apply Kd.V_alloc|apply Kd.V_drewN|apply Kd.V_drew));exact HO434.out) hg hat)
         have n2_:=aM (Kd.V_afterv (ok:=(fun _ => True)) (by (with_reducible repeat (first|apply Kd.V_alloc|apply Kd.V_drewN|apply Kd.V_drew));exact HO442.out) hg hat)
         have n3_:=aM (hb)
         have n4_:=aM (ho)
         clear HO_5
         clear HO434
         clear HO442
         clear HB
         clear HO429
         have HO_5:=n0_
         have HO434:=n1_
         have HO442:=n2_
         have HB:=n3_
         have HO437:=n4_
         clear n0_ n1_ n2_ n3_ n4_
         clear ho hb hg hat
         refine hK.out _ _ trivial (fun hHeld => ?_)
         clear hK K
         refine norm_ (a':=?_) ?_ ?_
         rotate_left
         ·show Act.put _ (some 48) _ = _
          simp only [Act.put,sI,sZ,sS,i64_w,i32_w]
          rfl
         refine one_ (i:=9) (N:=some 53) #[bT,bT,bT,bT,bT,bT,bT,bT,bT,bT,bF] rfl rfl (one_of HT_.out (by kernel_rfl)) (by decide) (fun K hK => ?_)
         refine Kd.N_append_rows_step k25 (w0:=w) w.heap.size (by rfl) (.tmp 48) (.tmp 52) 37 25 (.agg #[(.int .i64 0),(.slice none 0 0)]) 32 rfl Try.underlying37 info25 rfl (by decide) (by omega) v436 y435 y438 _ _ _ (fun _ => True) (fun k_ => ((fun _ => True)) k_ ∧ some k_ ≠ (v436 : Value).ownBlock) rfl rfl ?aO ?aR (fun _ hk => hk) ?aF ?aB ?aS ?aL ?_
         (case aR => exact (by skip;exact Kd.V_F (Kd.V_mono (ok':=(fun k_ => ((fun _ => True)) k_ ∧ some k_ ≠ (v436 : Value).ownBlock)) (HO442.out) (fun k_ hk => ⟨trivial,hk.2⟩))))
         (case aB => exact (by repeat (first|(with_reducible first|exact HB.out|apply bA|apply bN|apply bD)|exact HB.out)))
         (case aF => exact (fun _ _ => trivial))
         (case aO => exact (by (with_reducible repeat (first|apply Kd.N_alloc|apply Kd.N_drewN|apply Kd.N_drew));exact HO437.out))
         (case aS => exact (below_size (by repeat (first|(with_reducible first|exact HB.out|apply bA|apply bN|apply bD)|exact HB.out))))
         (case aL => have:=LMc29.out;omega)
         intro v444 w89 ho hb hg hat
         have hHN31_:=True.intro
         rw [← Ny443.out] at ho
         have n0_:=aM (Kd.N_afterv (ok:=(fun _ => True)) (by (with_reducible repeat (first|apply Kd.N_alloc|apply Kd.N_drewN|apply Kd.N_drew));exact HO_5.out) hg hat)
         have n1_:=aM (Kd.V_afterv (ok:=(fun _ => True)) (by (with_reducible repeat (first|apply Kd.V_alloc|apply Kd.V_drewN|apply Kd.V_drew));exact HO434.out) hg hat)
         have n2_:=aM (Kd.V_afterv (ok:=(fun _ => True)) (by (with_reducible repeat (first|apply Kd.V_alloc|apply Kd.V_drewN|apply Kd.V_drew));exact HO442.out) hg hat)
         have n3_:=aM (hb)
         have n4_:=aM (ho)
         clear HO_5
         clear HO434
         clear HO442
         clear HB
         clear HO437
         have HO_5:=n0_
         have HO434:=n1_
         have HO442:=n2_
         have HB:=n3_
         have HO445:=n4_
         clear n0_ n1_ n2_ n3_ n4_
         clear ho hb hg hat
         refine hK.out _ _ trivial (fun hHeld => ?_)
         clear hK K
         refine norm_ (a':=?_) ?_ ?_
         rotate_left
         ·show Act.put _ (some 53) _ = _
          simp only [Act.put,sI,sZ,sS,i64_w,i32_w]
          rfl
         refine pure_ (i:=10) (N:=some 8) (v:=?_) (a':=?_) #[bT,bT,bT,bT,bT,bT,bT,bT,bT,bT,bT] rfl rfl (any_of HT_.out (by kernel_rfl)) (fun _ _ _ h => h) (Or.inl ⟨by rfl,?_⟩) ?_ ?_
         rotate_left;(· intro w';go_simp;with_reducible rfl);rotate_left;(· simp only [Act.put,sI,sZ,sS,i64_w,i32_w];rfl)
         refine done_ (done_of HT_.out (by kernel_rfl)) ?_
         try go_wp2
         have n0_:=aM (Kd.N_drew HO_5.out)
         have n1_:=aM (Kd.V_drew HO434.out)
         have n2_:=aM (Kd.V_drew HO442.out)
         have n3_:=aM (Kd.N_drew HO445.out)
         have n4_:=aM (bD HB.out)
         clear HO_5
         clear HO434
         clear HO442
         clear HO445
         clear HB
         have HO_5:=n0_
         have HO434:=n1_
         have HO442:=n2_
         have HO445:=n3_
         have HB:=n4_
         clear n0_ n1_ n2_ n3_ n4_
         have p452 : 0 ≤ ((ji22) : Int):=of_decide_eq_true (by first|(with_reducible assumption)|assumption)
         have q452 : (ji22) < (t421.length : Int):=of_decide_eq_true (by first|(with_reducible assumption)|assumption)
         obtain ⟨ad452,A452_1,c452_1,e452,hx452_0,hx452_1,hl452_1,hi452_1⟩:=at_T25 (Kd.N_reads' HO_5.out).2.2 (ji22) p452 q452
         cases e452
         obtain ⟨ce452,hce452,hMe452,hcc452⟩:=Kd.N_get HO_5.out z25 (ji22) p452 (by first|exact q452|exact of_decide_eq_true (by first|(with_reducible assumption)|assumption)|(have e_:=(Kd.N_reads' HO_5.out).1;omega))
         obtain ⟨ua452_1,uc452_1,rfl,ul452_1,ge452_1⟩:=k25_openF hMe452
         have hv452_1:=hcc452 1 _ rfl
         rw [add_field _ _ 1 (by omega)] at hv452_1
         replace hv452_1:=Option.some.inj (hv452_1.symm.trans hx452_1)
         injection hv452_1 with hva_ hvn_ hvc_
         rw [hva_] at ge452_1
         rw [hvc_] at ul452_1
         have HL452_1:=aM (show Kd.V k65 65 _ w.heap.size _ _ ((rd_T25 t421 (ji22)).f1) from Kd.V_mk ul452_1 ge452_1)
         clear hva_ hvn_ hvc_ ge452_1 ul452_1
         clear hcc452 hce452
         have HR452_1:=aM hi452_1
         have HC452_1:=aM hl452_1
         clear hi452_1 hl452_1
         replace p452:=eq_true p452
         replace q452:=eq_true q452
         refine start_ (n:=10) (S:=fun w' => w'.cell? (ad452.add (((ji22)).toNat * 2)) = some (.int .i64 ((rd_T25 t421 (ji22)).f0)) ∧ w'.cell? ⟨(ad452.add (((ji22)).toNat * 2)).block,(ad452.add (((ji22)).toNat * 2)).off + 1,none⟩ = some (.slice A452_1 ((rd_T25 t421 (ji22)).f1).length c452_1)) (ds:=[]) #[bF,bF,bF,bF,bF,bF,bF,bF,bF,bF] (by kernel_rfl) rfl rfl ⟨hx452_0,hx452_1⟩ (fun hHeld => ?_);refine with_tabW laws_FnVotesLess.tab9 laws_FnVotesLess.bits9 (fun HT_ HW_ => ?_)
         generalize w89.drew = w90 at HO_5 HO434 HO442 HO445 HB HL452_1 HR452_1 hx452_0 hx452_1 hHeld ⊢
         refine pure_ (i:=1) (N:=some 55) (v:=?_) (a':=?_) #[bF,bT,bF,bF,bF,bF,bF,bF,bF,bF] rfl rfl (any_of HT_.out (by kernel_rfl)) (fun _ _ _ h => h) (Or.inl ⟨by rfl,?_⟩) ?_ ?_
         rotate_left;(· intro w';go_simp;with_reducible rfl);rotate_left;(· simp only [Act.put,sI,sZ,sS,i64_w,i32_w];rfl)
         refine pure_ (i:=3) (N:=some 57) (v:=?_) (a':=?_) #[bF,bT,bF,bT,bF,bF,bF,bF,bF,bF] rfl rfl (any_of HT_.out (by kernel_rfl)) (fun _ _ _ h => h) (Or.inl ⟨by rfl,?_⟩) ?_ ?_
         rotate_left;(· intro w';go_simp;with_reducible rfl);rotate_left;(· simp only [Act.put,sI,sZ,sS,i64_w,i32_w];rfl)
         refine pure_ (i:=4) (N:=some 58) (v:=?_) (a':=?_) #[bF,bT,bF,bT,bT,bF,bF,bF,bF,bF] rfl rfl (any_of HT_.out (by kernel_rfl)) (fun _ _ _ h => h) (Or.inl ⟨by rfl,?_⟩) ?_ ?_
         rotate_left;(· intro w';go_simp;with_reducible rfl);rotate_left;(· simp only [Act.put,sI,sZ,sS,i64_w,i32_w];rfl)
         refine pure_ (i:=5) (N:=some 59) (v:=?_) (a':=?_) #[bF,bT,bF,bT,bT,bT,bF,bF,bF,bF] rfl rfl (any_of HT_.out (by kernel_rfl)) (fun _ _ _ h => h) (Or.inl ⟨by rfl,?_⟩) ?_ ?_
         rotate_left;(· intro w';go_simp;with_reducible rfl);rotate_left;(· simp only [Act.put,sI,sZ,sS,i64_w,i32_w];rfl)
         refine take_ (i:=6) (N:=some 60) (v:=?_) (a':=?_) #[bF,bT,bF,bT,bT,bT,bT,bF,bF,bF] rfl rfl (take_ofW HT_.out HW_.out (by kernel_rfl)) (fun _ _ _ h => h) (Or.inl ⟨by rfl,?_⟩) hHeld ?_ ?_
         rotate_left
         ·rintro w' ⟨s0,s1⟩
          (try simp only [Int.toNat_natCast] at s0 s1)
          go_simp
          with_reducible rfl
         rotate_left
         ·simp only [Act.put,sI,sZ,sS,i64_w,i32_w]
          rfl
         refine join_ (σ:=Value × Value × Value) 2 #[bT,bT,bT,bT,bT,bT,bT,bT,bF,bF] (fun s_ => [(54,s_.1),(56,s_.2.1),(61,s_.2.2)]) (fun s_ w' => (w'.cell? (ad452.add (((ji22)).toNat * 2)) = some (.int .i64 ((rd_T25 t421 (ji22)).f0)) ∧ w'.cell? ⟨(ad452.add (((ji22)).toNat * 2)).block,(ad452.add (((ji22)).toNat * 2)).off + 1,none⟩ = some (.slice A452_1 ((rd_T25 t421 (ji22)).f1).length c452_1)) ∧ (Kd.V k65 65 w' w.heap.size (fun k_ => some k_ ≠ (v444 : Value).ownBlock ∧ some k_ ≠ (s_.2.1 : Value).ownBlock ∧ some k_ ≠ (s_.2.2 : Value).ownBlock ∧ some k_ ≠ (.slice (some ad452) t421.length co10 : Value).ownBlock) (.slice A452_1 ((rd_T25 t421 (ji22)).f1).length c452_1) ((rd_T25 t421 (ji22)).f1)) ∧ (Kd.V k25 25 w' w.heap.size (fun k_ => some k_ ≠ (v444 : Value).ownBlock ∧ some k_ ≠ (s_.2.1 : Value).ownBlock ∧ some k_ ≠ (s_.2.2 : Value).ownBlock) (.slice (some ad452) y430.length co10) y430) ∧ (Kd.V k25 25 w' w.heap.size (fun k_ => some k_ ≠ (v444 : Value).ownBlock ∧ some k_ ≠ (s_.2.1 : Value).ownBlock ∧ some k_ ≠ (s_.2.2 : Value).ownBlock) (.slice A85 y438.length c85) y438) ∧ (Kd.N k25 25 w' w.heap.size (fun k_ => some k_ ≠ (s_.2.1 : Value).ownBlock ∧ some k_ ≠ (s_.2.2 : Value).ownBlock) v444 y443) ∧ (Kd.N k25 25 w' w.heap.size (fun k_ => some k_ ≠ (v444 : Value).ownBlock ∧ some k_ ≠ (s_.2.2 : Value).ownBlock) s_.2.1 y449) ∧ (Kd.N k25 25 w' w.heap.size (fun k_ => some k_ ≠ (v444 : Value).ownBlock ∧ some k_ ≠ (s_.2.1 : Value).ownBlock ∧ some k_ ≠ (.slice (some ad452) t421.length co10 : Value).ownBlock) s_.2.2 y453) ∧ (Kd.N k25 25 w' w.heap.size (fun k_ => some k_ ≠ (v444 : Value).ownBlock ∧ some k_ ≠ (s_.2.1 : Value).ownBlock ∧ some k_ ≠ (s_.2.2 : Value).ownBlock) (.slice (some ad452) t421.length co10) t421) ∧ (Below w.heap.size w w')) ?_ ?_
         rotate_left
         ·intro hCont
          refine two_ (i:=0) (j:=7) (Ni:=some 54) (Nj:=some 61) #[bT,bT,bF,bT,bT,bT,bT,bF,bF,bF] #[bF,bT,bF,bT,bT,bT,bT,bT,bF,bF] rfl rfl rfl rfl (two_of HT_.out (by kernel_rfl)) (by decide) (by decide) (fun K hK => ?_) (fun K hK => ?_)
          ·skip
           refine Kd.N_lit_step k25 _ 25 ?hg (N':=54) ?hd (xs:=([] : List (S25))) (inner:=[]) (ok:=(fun k_ => some k_ ≠ (.slice (some ad452) t421.length co10 : Value).ownBlock ∧ some k_ ≠ (v444 : Value).ownBlock)) (okp:=(fun k_ => some k_ ≠ (.slice (some ad452) t421.length co10 : Value).ownBlock ∧ some k_ ≠ (v444 : Value).ownBlock)) ?hr ?hp (fun _ hk => hk) ((show ∀ k_,w90.heap.size ≤ k_ → (fun k_ => some k_ ≠ (.slice (some ad452) t421.length co10 : Value).ownBlock ∧ some k_ ≠ (v444 : Value).ownBlock) k_ from fun k_ hk => ⟨Kd.fresh' (Kd.N_lt (by (with_reducible repeat (first|apply Kd.N_alloc|apply Kd.N_drewN|apply Kd.N_drew));exact HO_5.out)) k_ hk,Kd.fresh' (Kd.N_lt (by (with_reducible repeat (first|apply Kd.N_alloc|apply Kd.N_drewN|apply Kd.N_drew));exact HO445.out)) k_ hk⟩) _ (Nat.le_refl _)) (Below.refl _ _) (Nat.le_refl _) (by simp) ?_;(case hd => rfl);(case hg => rfl);(case hr => first|(go_simp;done)|(go_simp;rfl));(case hp => exact (Reps.none _ _))
           intro v447 w91 ho92 hb hg_ hnew_
           have HS0_:=(hb.cell (World.block_lt_of_cell? _ _ (hHeld.1))).trans (hHeld.1)
           have HS1_:=(hb.cell (World.block_lt_of_cell? _ _ (hHeld.2))).trans (hHeld.2)
           clear hg_ hnew_
           (first|rw [← Ny446.out] at ho92|(simp only [Int.reduceToNat] at ho92;rw [← Ny446.out] at ho92))
           have n0_:=aM (Kd.N_elder' (by (with_reducible repeat (first|apply Kd.N_alloc|apply Kd.N_drewN|apply Kd.N_drew));exact HO_5.out) (Kd.N_base ho92) hb)
           have n1_:=aM (Kd.V_elder' (by (with_reducible repeat (first|apply Kd.V_alloc|apply Kd.V_drewN|apply Kd.V_drew));exact HO434.out) (Kd.N_base ho92) hb)
           have n2_:=aM (Kd.V_elder' (by (with_reducible repeat (first|apply Kd.V_alloc|apply Kd.V_drewN|apply Kd.V_drew));exact HO442.out) (Kd.N_base ho92) hb)
           have n3_:=aM (Kd.N_elder' (by (with_reducible repeat (first|apply Kd.N_alloc|apply Kd.N_drewN|apply Kd.N_drew));exact HO445.out) (Kd.N_base ho92) hb)
           have n4_:=aM (Kd.V_elder' (by (with_reducible repeat (first|apply Kd.V_alloc|apply Kd.V_drewN|apply Kd.V_drew));exact HL452_1.out) (Kd.N_base ho92) hb)
           have n5_:=aM (Kd.N_lower ho92 (below_size (by repeat (first|(with_reducible first|exact HB.out|apply bA|apply bN|apply bD)|exact HB.out))))
           have n6_:=aM (Kd.C_below (by repeat (first|(with_reducible exact HR452_1.out)|(with_reducible refine Kd.C_alloc ?_ _)|(with_reducible refine Kd.C_drewN ?_ _)|(with_reducible refine Kd.C_drew ?_)|exact HR452_1.out)) hb)
           have n7_:=aM (below_step (by repeat (first|(with_reducible first|exact HB.out|apply bA|apply bN|apply bD)|exact HB.out)) hb)
           clear HO_5
           clear HO434
           clear HO442
           clear HO445
           clear HL452_1
           clear HR452_1
           clear HB
           have HO_5:=n0_
           have HO434:=n1_
           have HO442:=n2_
           have HO445:=n3_
           have HL452_1:=n4_
           have HO448:=n5_
           have HR452_1:=n6_
           have HB:=n7_
           clear n0_ n1_ n2_ n3_ n4_ n5_ n6_ n7_
           clear hb ho92
           refine hK.out _ _ ⟨HS0_,HS1_⟩ (fun hHeld => ?_)
           clear hK K
           refine norm_ (a':=?_) ?_ ?_
           rotate_left
           ·show Act.put _ (some 54) _ = _
            simp only [Act.put,sI,sZ,sS,i64_w,i32_w]
            rfl
           refine two_ (i:=2) (j:=7) (Ni:=some 56) (Nj:=some 61) #[bT,bT,bT,bT,bT,bT,bT,bF,bF,bF] #[bT,bT,bF,bT,bT,bT,bT,bT,bF,bF] rfl rfl rfl rfl (two_of HT_.out (by kernel_rfl)) (by decide) (by decide) (fun K hK => ?_) (fun K hK => ?_)
           ·skip
            refine Kd.N_append_rows_step k25 (w0:=w) w.heap.size (by rfl) (.tmp 54) (.tmp 55) 37 25 (.agg #[(.int .i64 0),(.slice none 0 0)]) 32 rfl Try.underlying37 info25 rfl (by decide) (by omega) v447 y446 t421 _ _ _ (fun k_ => some k_ ≠ (v444 : Value).ownBlock) (fun k_ => ((fun k_ => some k_ ≠ (v444 : Value).ownBlock)) k_ ∧ some k_ ≠ (v447 : Value).ownBlock) rfl rfl ?aO ?aR (fun _ hk => hk) ?aF ?aB ?aS ?aL ?_
            (case aR => exact (by skip;exact Kd.N_F (Kd.N_mono (ok':=(fun k_ => ((fun k_ => some k_ ≠ (v444 : Value).ownBlock)) k_ ∧ some k_ ≠ (v447 : Value).ownBlock)) (HO_5.out) (fun k_ hk => ⟨hk.1.2,hk.2⟩))))
            (case aB => exact (by repeat (first|(with_reducible first|exact HB.out|apply bA|apply bN|apply bD)|exact HB.out)))
            (case aF => exact (fun k_ hk => Kd.fresh' (Kd.N_lt (by (with_reducible repeat (first|apply Kd.N_alloc|apply Kd.N_drewN|apply Kd.N_drew));exact HO445.out)) k_ hk))
            (case aO => exact (by (with_reducible repeat (first|apply Kd.N_alloc|apply Kd.N_drewN|apply Kd.N_drew));exact Kd.N_mono HO448.out (fun _ hk => hk.2)))
            (case aS => exact (below_size (by repeat (first|(with_reducible first|exact HB.out|apply bA|apply bN|apply bD)|exact HB.out))))
            (case aL => have:=LMc30.out;omega)
            intro v450 w93 ho hb hg hat
            have HS0_:=cell_grown hg (hHeld.1) (cell_ne_row (fun e_ => ((HO448.out.1 _ e_.symm).1) rfl))
            have HS1_:=cell_grown hg (hHeld.2) (cell_ne_row (fun e_ => ((HO448.out.1 _ e_.symm).1) rfl))
            have hHN34_:=True.intro
            rw [← Ny449.out] at ho
            have n0_:=aM (Kd.N_afterv (ok:=(fun k_ => some k_ ≠ (v444 : Value).ownBlock)) (by (with_reducible repeat (first|apply Kd.N_alloc|apply Kd.N_drewN|apply Kd.N_drew));exact Kd.N_mono HO_5.out (fun _ hk => ⟨hk.1.2,hk.2⟩)) hg hat)
            have n1_:=aM (Kd.V_afterv (ok:=(fun k_ => some k_ ≠ (v444 : Value).ownBlock)) (by (with_reducible repeat (first|apply Kd.V_alloc|apply Kd.V_drewN|apply Kd.V_drew));exact Kd.V_mono HO434.out (fun _ hk => ⟨hk.1.2,hk.2⟩)) hg hat)
            have n2_:=aM (Kd.V_afterv (ok:=(fun k_ => some k_ ≠ (v444 : Value).ownBlock)) (by (with_reducible repeat (first|apply Kd.V_alloc|apply Kd.V_drewN|apply Kd.V_drew));exact Kd.V_mono HO442.out (fun _ hk => ⟨hk.1.2,hk.2⟩)) hg hat)
            have n3_:=aM (Kd.N_afterv (ok:=(fun _ => True)) (by (with_reducible repeat (first|apply Kd.N_alloc|apply Kd.N_drewN|apply Kd.N_drew));exact HO445.out) hg hat)
            have n4_:=aM (Kd.V_afterv (ok:=(fun k_ => some k_ ≠ (.slice (some ad452) t421.length co10 : Value).ownBlock ∧ some k_ ≠ (v444 : Value).ownBlock)) (by (with_reducible repeat (first|apply Kd.V_alloc|apply Kd.V_drewN|apply Kd.V_drew));exact Kd.V_mono HL452_1.out (fun _ hk => ⟨⟨hk.1.2,hk.1.1.2⟩,hk.2⟩)) hg hat)
            have n5_:=aM (hb)
            have n6_:=aM (ho)
            clear HO_5
            clear HO434
            clear HO442
            clear HO445
            clear HL452_1
            clear HB
            clear HO448
            have HO_5:=n0_
            have HO434:=n1_
            have HO442:=n2_
            have HO445:=n3_
            have HL452_1:=n4_
            have HB:=n5_
            have HO451:=n6_
            clear n0_ n1_ n2_ n3_ n4_ n5_ n6_
            clear ho hb hg hat
            refine hK.out _ _ ⟨HS0_,HS1_⟩ (fun hHeld => ?_)
            clear hK K
            refine norm_ (a':=?_) ?_ ?_
            rotate_left
            ·show Act.put _ (some 56) _ = _
             simp only [Act.put,sI,sZ,sS,i64_w,i32_w]
             rfl
            refine one_ (i:=7) (N:=some 61) #[bT,bT,bT,bT,bT,bT,bT,bT,bF,bF] rfl rfl (one_of HT_.out (by kernel_rfl)) (by decide) (fun K hK => ?_)
            refine Kd.N_lit_step k25 _ 25 ?hg (N':=61) ?hd (xs:=([(⟨(rd_T25 t421 (ji22)).f0,(rd_T25 t421 (ji22)).f1⟩ : S25)] : List (S25))) (inner:=[.int .i64 ((rd_T25 t421 (ji22)).f0),.slice A452_1 ((rd_T25 t421 (ji22)).f1).length c452_1]) (ok:=(fun k_ => some k_ ≠ (.slice (some ad452) t421.length co10 : Value).ownBlock ∧ some k_ ≠ (v444 : Value).ownBlock ∧ some k_ ≠ (v450 : Value).ownBlock)) (okp:=(fun k_ => some k_ ≠ (.slice (some ad452) t421.length co10 : Value).ownBlock ∧ some k_ ≠ (v444 : Value).ownBlock ∧ some k_ ≠ (v450 : Value).ownBlock)) ?hr ?hp (fun _ hk => hk) ((show ∀ k_,w93.heap.size ≤ k_ → (fun k_ => some k_ ≠ (.slice (some ad452) t421.length co10 : Value).ownBlock ∧ some k_ ≠ (v444 : Value).ownBlock ∧ some k_ ≠ (v450 : Value).ownBlock) k_ from fun k_ hk => ⟨Kd.fresh' (Kd.N_lt (by (with_reducible repeat (first|apply Kd.N_alloc|apply Kd.N_drewN|apply Kd.N_drew));exact HO_5.out)) k_ hk,Kd.fresh' (Kd.N_lt (by (with_reducible repeat (first|apply Kd.N_alloc|apply Kd.N_drewN|apply Kd.N_drew));exact HO445.out)) k_ hk,Kd.fresh' (Kd.N_lt (by (with_reducible repeat (first|apply Kd.N_alloc|apply Kd.N_drewN|apply Kd.N_drew));exact HO451.out)) k_ hk⟩) _ (Nat.le_refl _)) (Below.refl _ _) (Nat.le_refl _) (by simp) ?_;(case hd => rfl);(case hg => rfl);(case hr => first|(go_simp;done)|(go_simp;rfl));(case hp => exact (Reps.c2 (show Kd.FK k25 _ _ (⟨(rd_T25 t421 (ji22)).f0,(rd_T25 t421 (ji22)).f1⟩ : S25) [.int .i64 ((rd_T25 t421 (ji22)).f0),.slice A452_1 ((rd_T25 t421 (ji22)).f1).length c452_1] from (k25_mkF _ _ (⟨(rd_T25 t421 (ji22)).f0,(rd_T25 t421 (ji22)).f1⟩ : S25) (Kd.V_reads' (Kd.V_mono (ok':=(fun k_ => some k_ ≠ (.slice (some ad452) t421.length co10 : Value).ownBlock ∧ some k_ ≠ (v444 : Value).ownBlock ∧ some k_ ≠ (v450 : Value).ownBlock)) (HL452_1.out) (fun k_ hk => ⟨hk.1.1,⟨hk.1.2,hk.2⟩⟩))).2.1 (Kd.V_F (Kd.V_mono (ok':=(fun k_ => some k_ ≠ (.slice (some ad452) t421.length co10 : Value).ownBlock ∧ some k_ ≠ (v444 : Value).ownBlock ∧ some k_ ≠ (v450 : Value).ownBlock)) (HL452_1.out) (fun k_ hk => ⟨hk.1.1,⟨hk.1.2,hk.2⟩⟩))))) (Reps.none _ _)))
            intro v454 w94 ho95 hb hg_ hnew_
            have HS0_:=(hb.cell (World.block_lt_of_cell? _ _ (hHeld.1))).trans (hHeld.1)
            have HS1_:=(hb.cell (World.block_lt_of_cell? _ _ (hHeld.2))).trans (hHeld.2)
            clear hg_ hnew_
            (first|rw [← Ny453.out] at ho95|(simp only [Int.reduceToNat] at ho95;rw [← Ny453.out] at ho95))
            have n0_:=aM (Kd.N_elder' (by (with_reducible repeat (first|apply Kd.N_alloc|apply Kd.N_drewN|apply Kd.N_drew));exact HO_5.out) (Kd.N_base ho95) hb)
            have n1_:=aM (Kd.V_elder' (by (with_reducible repeat (first|apply Kd.V_alloc|apply Kd.V_drewN|apply Kd.V_drew));exact HO434.out) (Kd.N_base ho95) hb)
            have n2_:=aM (Kd.V_elder' (by (with_reducible repeat (first|apply Kd.V_alloc|apply Kd.V_drewN|apply Kd.V_drew));exact HO442.out) (Kd.N_base ho95) hb)
            have n3_:=aM (Kd.N_elder' (by (with_reducible repeat (first|apply Kd.N_alloc|apply Kd.N_drewN|apply Kd.N_drew));exact HO445.out) (Kd.N_base ho95) hb)
            have n4_:=aM (Kd.V_elder' (by (with_reducible repeat (first|apply Kd.V_alloc|apply Kd.V_drewN|apply Kd.V_drew));exact HL452_1.out) (Kd.N_base ho95) hb)
            have n5_:=aM (Kd.N_elder' (by (with_reducible repeat (first|apply Kd.N_alloc|apply Kd.N_drewN|apply Kd.N_drew));exact HO451.out) (Kd.N_base ho95) hb)
            have n6_:=aM (Kd.N_lower ho95 (below_size (by repeat (first|(with_reducible first|exact HB.out|apply bA|apply bN|apply bD)|exact HB.out))))
            have n7_:=aM (below_step (by repeat (first|(with_reducible first|exact HB.out|apply bA|apply bN|apply bD)|exact HB.out)) hb)
            clear HO_5
            clear HO434
            clear HO442
            clear HO445
            clear HL452_1
            clear HO451
            clear HB
            have HO_5:=n0_
            have HO434:=n1_
            have HO442:=n2_
            have HO445:=n3_
            have HL452_1:=n4_
            have HO451:=n5_
            have HO455:=n6_
            have HB:=n7_
            clear n0_ n1_ n2_ n3_ n4_ n5_ n6_ n7_
            clear hb ho95
            refine hK.out _ _ ⟨HS0_,HS1_⟩ (fun hHeld => ?_)
            clear hK K
            refine norm_ (a':=?_) ?_ ?_
            rotate_left
            ·show Act.put _ (some 61) _ = _
             simp only [Act.put,sI,sZ,sS,i64_w,i32_w]
             rfl
            exact norm_ (by simp only [putAll,Act.put,sI,sZ,sS]) (hCont (v447,v450,v454) _ ⟨hHeld,(by (with_reducible repeat (first|apply Kd.V_alloc|apply Kd.V_drewN|apply Kd.V_drew));exact Kd.V_mono HL452_1.out (fun _ hk => ⟨hk.1.1.2,⟨hk.1.2,⟨hk.2,hk.1.1.1⟩⟩⟩)),(by (with_reducible repeat (first|apply Kd.V_alloc|apply Kd.V_drewN|apply Kd.V_drew));exact Kd.V_mono HO434.out (fun _ hk => ⟨hk.1.1,⟨hk.1.2,hk.2⟩⟩)),(by (with_reducible repeat (first|apply Kd.V_alloc|apply Kd.V_drewN|apply Kd.V_drew));exact Kd.V_mono HO442.out (fun _ hk => ⟨hk.1.1,⟨hk.1.2,hk.2⟩⟩)),(by (with_reducible repeat (first|apply Kd.N_alloc|apply Kd.N_drewN|apply Kd.N_drew));exact Kd.N_mono HO445.out (fun _ hk => ⟨hk.1.2,hk.2⟩)),(by (with_reducible repeat (first|apply Kd.N_alloc|apply Kd.N_drewN|apply Kd.N_drew));exact HO451.out),(by (with_reducible repeat (first|apply Kd.N_alloc|apply Kd.N_drewN|apply Kd.N_drew));exact Kd.N_mono HO455.out (fun _ hk => ⟨hk.2.1,⟨hk.2.2,hk.1⟩⟩)),(by (with_reducible repeat (first|apply Kd.N_alloc|apply Kd.N_drewN|apply Kd.N_drew));exact Kd.N_mono HO_5.out (fun _ hk => ⟨hk.1.1,⟨hk.1.2,hk.2⟩⟩)),(by repeat (first|(with_reducible first|exact HB.out|apply bA|apply bN|apply bD)|exact HB.out))⟩)
           ·skip
            refine Kd.N_lit_step k25 _ 25 ?hg (N':=61) ?hd (xs:=([(⟨(rd_T25 t421 (ji22)).f0,(rd_T25 t421 (ji22)).f1⟩ : S25)] : List (S25))) (inner:=[.int .i64 ((rd_T25 t421 (ji22)).f0),.slice A452_1 ((rd_T25 t421 (ji22)).f1).length c452_1]) (ok:=(fun k_ => some k_ ≠ (.slice (some ad452) t421.length co10 : Value).ownBlock ∧ some k_ ≠ (v444 : Value).ownBlock ∧ some k_ ≠ (v447 : Value).ownBlock)) (okp:=(fun k_ => some k_ ≠ (.slice (some ad452) t421.length co10 : Value).ownBlock ∧ some k_ ≠ (v444 : Value).ownBlock ∧ some k_ ≠ (v447 : Value).ownBlock)) ?hr ?hp (fun _ hk => hk) ((show ∀ k_,w91.heap.size ≤ k_ → (fun k_ => some k_ ≠ (.slice (some ad452) t421.length co10 : Value).ownBlock ∧ some k_ ≠ (v444 : Value).ownBlock ∧ some k_ ≠ (v447 : Value).ownBlock) k_ from fun k_ hk => ⟨Kd.fresh' (Kd.N_lt (by (with_reducible repeat (first|apply Kd.N_alloc|apply Kd.N_drewN|apply Kd.N_drew));exact HO_5.out)) k_ hk,Kd.fresh' (Kd.N_lt (by (with_reducible repeat (first|apply Kd.N_alloc|apply Kd.N_drewN|apply Kd.N_drew));exact HO445.out)) k_ hk,Kd.fresh' (Kd.N_lt (by (with_reducible repeat (first|apply Kd.N_alloc|apply Kd.N_drewN|apply Kd.N_drew));exact HO448.out)) k_ hk⟩) _ (Nat.le_refl _)) (Below.refl _ _) (Nat.le_refl _) (by simp) ?_;(case hd => rfl);(case hg => rfl);(case hr => first|(go_simp;done)|(go_simp;rfl));(case hp => exact (Reps.c2 (show Kd.FK k25 _ _ (⟨(rd_T25 t421 (ji22)).f0,(rd_T25 t421 (ji22)).f1⟩ : S25) [.int .i64 ((rd_T25 t421 (ji22)).f0),.slice A452_1 ((rd_T25 t421 (ji22)).f1).length c452_1] from (k25_mkF _ _ (⟨(rd_T25 t421 (ji22)).f0,(rd_T25 t421 (ji22)).f1⟩ : S25) (Kd.V_reads' (Kd.V_mono (ok':=(fun k_ => some k_ ≠ (.slice (some ad452) t421.length co10 : Value).ownBlock ∧ some k_ ≠ (v444 : Value).ownBlock ∧ some k_ ≠ (v447 : Value).ownBlock)) (HL452_1.out) (fun k_ hk => ⟨hk.1.2,⟨hk.1.1.2,hk.2⟩⟩))).2.1 (Kd.V_F (Kd.V_mono (ok':=(fun k_ => some k_ ≠ (.slice (some ad452) t421.length co10 : Value).ownBlock ∧ some k_ ≠ (v444 : Value).ownBlock ∧ some k_ ≠ (v447 : Value).ownBlock)) (HL452_1.out) (fun k_ hk => ⟨hk.1.2,⟨hk.1.1.2,hk.2⟩⟩))))) (Reps.none _ _)))
            intro v454 w93 ho94 hb hg_ hnew_
            have HS0_:=(hb.cell (World.block_lt_of_cell? _ _ (hHeld.1))).trans (hHeld.1)
            have HS1_:=(hb.cell (World.block_lt_of_cell? _ _ (hHeld.2))).trans (hHeld.2)
            clear hg_ hnew_
            (first|rw [← Ny453.out] at ho94|(simp only [Int.reduceToNat] at ho94;rw [← Ny453.out] at ho94))
            have n0_:=aM (Kd.N_elder' (by (with_reducible repeat (first|apply Kd.N_alloc|apply Kd.N_drewN|apply Kd.N_drew));exact HO_5.out) (Kd.N_base ho94) hb)
            have n1_:=aM (Kd.V_elder' (by (with_reducible repeat (first|apply Kd.V_alloc|apply Kd.V_drewN|apply Kd.V_drew));exact HO434.out) (Kd.N_base ho94) hb)
            have n2_:=aM (Kd.V_elder' (by (with_reducible repeat (first|apply Kd.V_alloc|apply Kd.V_drewN|apply Kd.V_drew));exact HO442.out) (Kd.N_base ho94) hb)
            have n3_:=aM (Kd.N_elder' (by (with_reducible repeat (first|apply Kd.N_alloc|apply Kd.N_drewN|apply Kd.N_drew));exact HO445.out) (Kd.N_base ho94) hb)
            have n4_:=aM (Kd.V_elder' (by (with_reducible repeat (first|apply Kd.V_alloc|apply Kd.V_drewN|apply Kd.V_drew));exact HL452_1.out) (Kd.N_base ho94) hb)
            have n5_:=aM (Kd.N_elder' (by (with_reducible repeat (first|apply Kd.N_alloc|apply Kd.N_drewN|apply Kd.N_drew));exact HO448.out) (Kd.N_base ho94) hb)
            have n6_:=aM (Kd.N_lower ho94 (below_size (by repeat (first|(with_reducible first|exact HB.out|apply bA|apply bN|apply bD)|exact HB.out))))
            have n7_:=aM (Kd.C_below (by repeat (first|(with_reducible exact HR452_1.out)|(with_reducible refine Kd.C_alloc ?_ _)|(with_reducible refine Kd.C_drewN ?_ _)|(with_reducible refine Kd.C_drew ?_)|exact HR452_1.out)) hb)
            have n8_:=aM (below_step (by repeat (first|(with_reducible first|exact HB.out|apply bA|apply bN|apply bD)|exact HB.out)) hb)
            clear HO_5
            clear HO434
            clear HO442
            clear HO445
            clear HL452_1
            clear HO448
            clear HR452_1
            clear HB
            have HO_5:=n0_
            have HO434:=n1_
            have HO442:=n2_
            have HO445:=n3_
            have HL452_1:=n4_
            have HO448:=n5_
            have HO455:=n6_
            have HR452_1:=n7_
            have HB:=n8_
            clear n0_ n1_ n2_ n3_ n4_ n5_ n6_ n7_ n8_
            clear hb ho94
            refine hK.out _ _ ⟨HS0_,HS1_⟩ (fun hHeld => ?_)
            clear hK K
            refine norm_ (a':=?_) ?_ ?_
            rotate_left
            ·show Act.put _ (some 61) _ = _
             simp only [Act.put,sI,sZ,sS,i64_w,i32_w]
             rfl
            refine one_ (i:=2) (N:=some 56) #[bT,bT,bT,bT,bT,bT,bT,bT,bF,bF] rfl rfl (one_of HT_.out (by kernel_rfl)) (by decide) (fun K hK => ?_)
            refine Kd.N_append_rows_step k25 (w0:=w) w.heap.size (by rfl) (.tmp 54) (.tmp 55) 37 25 (.agg #[(.int .i64 0),(.slice none 0 0)]) 32 rfl Try.underlying37 info25 rfl (by decide) (by omega) v447 y446 t421 _ _ _ (fun k_ => some k_ ≠ (v444 : Value).ownBlock ∧ some k_ ≠ (v454 : Value).ownBlock) (fun k_ => ((fun k_ => some k_ ≠ (v444 : Value).ownBlock ∧ some k_ ≠ (v454 : Value).ownBlock)) k_ ∧ some k_ ≠ (v447 : Value).ownBlock) rfl rfl ?aO ?aR (fun _ hk => hk) ?aF ?aB ?aS ?aL ?_
            (case aR => exact (by skip;exact Kd.N_F (Kd.N_mono (ok':=(fun k_ => ((fun k_ => some k_ ≠ (v444 : Value).ownBlock ∧ some k_ ≠ (v454 : Value).ownBlock)) k_ ∧ some k_ ≠ (v447 : Value).ownBlock)) (HO_5.out) (fun k_ hk => ⟨⟨hk.1.1.2,hk.2⟩,hk.1.2⟩))))
            (case aB => exact (by repeat (first|(with_reducible first|exact HB.out|apply bA|apply bN|apply bD)|exact HB.out)))
            (case aF => exact (fun k_ hk => ⟨Kd.fresh' (Kd.N_lt (by (with_reducible repeat (first|apply Kd.N_alloc|apply Kd.N_drewN|apply Kd.N_drew));exact HO445.out)) k_ hk,Kd.fresh' (Kd.N_lt (by (with_reducible repeat (first|apply Kd.N_alloc|apply Kd.N_drewN|apply Kd.N_drew));exact HO455.out)) k_ hk⟩))
            (case aO => exact (by (with_reducible repeat (first|apply Kd.N_alloc|apply Kd.N_drewN|apply Kd.N_drew));exact Kd.N_mono HO448.out (fun _ hk => ⟨hk.1.2,hk.2⟩)))
            (case aS => exact (below_size (by repeat (first|(with_reducible first|exact HB.out|apply bA|apply bN|apply bD)|exact HB.out))))
            (case aL => have:=LMc30.out;omega)
            intro v450 w95 ho hb hg hat
            have HS0_:=cell_grown hg (hHeld.1) (cell_ne_row (fun e_ => ((HO448.out.1 _ e_.symm).1.1) rfl))
            have HS1_:=cell_grown hg (hHeld.2) (cell_ne_row (fun e_ => ((HO448.out.1 _ e_.symm).1.1) rfl))
            have hHN37_:=True.intro
            rw [← Ny449.out] at ho
            have n0_:=aM (Kd.N_afterv (ok:=(fun k_ => some k_ ≠ (v444 : Value).ownBlock ∧ some k_ ≠ (v454 : Value).ownBlock)) (by (with_reducible repeat (first|apply Kd.N_alloc|apply Kd.N_drewN|apply Kd.N_drew));exact Kd.N_mono HO_5.out (fun _ hk => ⟨⟨hk.1.1.2,hk.2⟩,hk.1.2⟩)) hg hat)
            have n1_:=aM (Kd.V_afterv (ok:=(fun k_ => some k_ ≠ (v444 : Value).ownBlock ∧ some k_ ≠ (v454 : Value).ownBlock)) (by (with_reducible repeat (first|apply Kd.V_alloc|apply Kd.V_drewN|apply Kd.V_drew));exact Kd.V_mono HO434.out (fun _ hk => ⟨⟨hk.1.1.2,hk.2⟩,hk.1.2⟩)) hg hat)
            have n2_:=aM (Kd.V_afterv (ok:=(fun k_ => some k_ ≠ (v444 : Value).ownBlock ∧ some k_ ≠ (v454 : Value).ownBlock)) (by (with_reducible repeat (first|apply Kd.V_alloc|apply Kd.V_drewN|apply Kd.V_drew));exact Kd.V_mono HO442.out (fun _ hk => ⟨⟨hk.1.1.2,hk.2⟩,hk.1.2⟩)) hg hat)
            have n3_:=aM (Kd.N_afterv (ok:=(fun k_ => some k_ ≠ (v454 : Value).ownBlock)) (by (with_reducible repeat (first|apply Kd.N_alloc|apply Kd.N_drewN|apply Kd.N_drew));exact Kd.N_mono HO445.out (fun _ hk => ⟨hk.2,hk.1.2⟩)) hg hat)
            have n4_:=aM (Kd.V_afterv (ok:=(fun k_ => some k_ ≠ (.slice (some ad452) t421.length co10 : Value).ownBlock ∧ some k_ ≠ (v444 : Value).ownBlock ∧ some k_ ≠ (v454 : Value).ownBlock)) (by (with_reducible repeat (first|apply Kd.V_alloc|apply Kd.V_drewN|apply Kd.V_drew));exact Kd.V_mono HL452_1.out (fun _ hk => ⟨⟨hk.1.1.2,⟨hk.1.1.1.2,hk.2⟩⟩,hk.1.2⟩)) hg hat)
            have n5_:=aM (Kd.N_afterv (ok:=(fun k_ => some k_ ≠ (.slice (some ad452) t421.length co10 : Value).ownBlock ∧ some k_ ≠ (v444 : Value).ownBlock)) (by (with_reducible repeat (first|apply Kd.N_alloc|apply Kd.N_drewN|apply Kd.N_drew));exact Kd.N_mono HO455.out (fun _ hk => ⟨⟨hk.1,hk.2.1⟩,hk.2.2⟩)) hg hat)
            have n6_:=aM (hb)
            have n7_:=aM (ho)
            clear HO_5
            clear HO434
            clear HO442
            clear HO445
            clear HL452_1
            clear HO455
            clear HB
            clear HO448
            have HO_5:=n0_
            have HO434:=n1_
            have HO442:=n2_
            have HO445:=n3_
            have HL452_1:=n4_
            have HO455:=n5_
            have HB:=n6_
            have HO451:=n7_
            clear n0_ n1_ n2_ n3_ n4_ n5_ n6_ n7_
            clear ho hb hg hat
            refine hK.out _ _ ⟨HS0_,HS1_⟩ (fun hHeld => ?_)
            clear hK K
            refine norm_ (a':=?_) ?_ ?_
            rotate_left
            ·show Act.put _ (some 56) _ = _
             simp only [Act.put,sI,sZ,sS,i64_w,i32_w]
             rfl
            exact norm_ (by simp only [putAll,Act.put,sI,sZ,sS]) (hCont (v447,v450,v454) _ ⟨hHeld,(by (with_reducible repeat (first|apply Kd.V_alloc|apply Kd.V_drewN|apply Kd.V_drew));exact Kd.V_mono HL452_1.out (fun _ hk => ⟨hk.1.2.1,⟨hk.2,⟨hk.1.2.2,hk.1.1⟩⟩⟩)),(by (with_reducible repeat (first|apply Kd.V_alloc|apply Kd.V_drewN|apply Kd.V_drew));exact Kd.V_mono HO434.out (fun _ hk => ⟨hk.1.1,⟨hk.2,hk.1.2⟩⟩)),(by (with_reducible repeat (first|apply Kd.V_alloc|apply Kd.V_drewN|apply Kd.V_drew));exact Kd.V_mono HO442.out (fun _ hk => ⟨hk.1.1,⟨hk.2,hk.1.2⟩⟩)),(by (with_reducible repeat (first|apply Kd.N_alloc|apply Kd.N_drewN|apply Kd.N_drew));exact Kd.N_mono HO445.out (fun _ hk => ⟨hk.2,hk.1⟩)),(by (with_reducible repeat (first|apply Kd.N_alloc|apply Kd.N_drewN|apply Kd.N_drew));exact HO451.out),(by (with_reducible repeat (first|apply Kd.N_alloc|apply Kd.N_drewN|apply Kd.N_drew));exact Kd.N_mono HO455.out (fun _ hk => ⟨hk.1.2,⟨hk.2,hk.1.1⟩⟩)),(by (with_reducible repeat (first|apply Kd.N_alloc|apply Kd.N_drewN|apply Kd.N_drew));exact Kd.N_mono HO_5.out (fun _ hk => ⟨hk.1.1,⟨hk.2,hk.1.2⟩⟩)),(by repeat (first|(with_reducible first|exact HB.out|apply bA|apply bN|apply bD)|exact HB.out))⟩)
          ·skip
           refine Kd.N_lit_step k25 _ 25 ?hg (N':=61) ?hd (xs:=([(⟨(rd_T25 t421 (ji22)).f0,(rd_T25 t421 (ji22)).f1⟩ : S25)] : List (S25))) (inner:=[.int .i64 ((rd_T25 t421 (ji22)).f0),.slice A452_1 ((rd_T25 t421 (ji22)).f1).length c452_1]) (ok:=(fun k_ => some k_ ≠ (.slice (some ad452) t421.length co10 : Value).ownBlock ∧ some k_ ≠ (v444 : Value).ownBlock)) (okp:=(fun k_ => some k_ ≠ (.slice (some ad452) t421.length co10 : Value).ownBlock ∧ some k_ ≠ (v444 : Value).ownBlock)) ?hr ?hp (fun _ hk => hk) ((show ∀ k_,w90.heap.size ≤ k_ → (fun k_ => some k_ ≠ (.slice (some ad452) t421.length co10 : Value).ownBlock ∧ some k_ ≠ (v444 : Value).ownBlock) k_ from fun k_ hk => ⟨Kd.fresh' (Kd.N_lt (by (with_reducible repeat (first|apply Kd.N_alloc|apply Kd.N_drewN|apply Kd.N_drew));exact HO_5.out)) k_ hk,Kd.fresh' (Kd.N_lt (by (with_reducible repeat (first|apply Kd.N_alloc|apply Kd.N_drewN|apply Kd.N_drew));exact HO445.out)) k_ hk⟩) _ (Nat.le_refl _)) (Below.refl _ _) (Nat.le_refl _) (by simp) ?_;(case hd => rfl);(case hg => rfl);(case hr => first|(go_simp;done)|(go_simp;rfl));(case hp => exact (Reps.c2 (show Kd.FK k25 _ _ (⟨(rd_T25 t421 (ji22)).f0,(rd_T25 t421 (ji22)).f1⟩ : S25) [.int .i64 ((rd_T25 t421 (ji22)).f0),.slice A452_1 ((rd_T25 t421 (ji22)).f1).length c452_1] from (k25_mkF _ _ (⟨(rd_T25 t421 (ji22)).f0,(rd_T25 t421 (ji22)).f1⟩ : S25) (Kd.V_reads' (Kd.V_mono (ok':=(fun k_ => some k_ ≠ (.slice (some ad452) t421.length co10 : Value).ownBlock ∧ some k_ ≠ (v444 : Value).ownBlock)) (HL452_1.out) (fun k_ hk => ⟨hk.2,hk.1.2⟩))).2.1 (Kd.V_F (Kd.V_mono (ok':=(fun k_ => some k_ ≠ (.slice (some ad452) t421.length co10 : Value).ownBlock ∧ some k_ ≠ (v444 : Value).ownBlock)) (HL452_1.out) (fun k_ hk => ⟨hk.2,hk.1.2⟩))))) (Reps.none _ _)))
           intro v454 w91 ho92 hb hg_ hnew_
           have HS0_:=(hb.cell (World.block_lt_of_cell? _ _ (hHeld.1))).trans (hHeld.1)
           have HS1_:=(hb.cell (World.block_lt_of_cell? _ _ (hHeld.2))).trans (hHeld.2)
           clear hg_ hnew_
           (first|rw [← Ny453.out] at ho92|(simp only [Int.reduceToNat] at ho92;rw [← Ny453.out] at ho92))
           have n0_:=aM (Kd.N_elder' (by (with_reducible repeat (first|apply Kd.N_alloc|apply Kd.N_drewN|apply Kd.N_drew));exact HO_5.out) (Kd.N_base ho92) hb)
           have n1_:=aM (Kd.V_elder' (by (with_reducible repeat (first|apply Kd.V_alloc|apply Kd.V_drewN|apply Kd.V_drew));exact HO434.out) (Kd.N_base ho92) hb)
           have n2_:=aM (Kd.V_elder' (by (with_reducible repeat (first|apply Kd.V_alloc|apply Kd.V_drewN|apply Kd.V_drew));exact HO442.out) (Kd.N_base ho92) hb)
           have n3_:=aM (Kd.N_elder' (by (with_reducible repeat (first|apply Kd.N_alloc|apply Kd.N_drewN|apply Kd.N_drew));exact HO445.out) (Kd.N_base ho92) hb)
           have n4_:=aM (Kd.V_elder' (by (with_reducible repeat (first|apply Kd.V_alloc|apply Kd.V_drewN|apply Kd.V_drew));exact HL452_1.out) (Kd.N_base ho92) hb)
           have n5_:=aM (Kd.N_lower ho92 (below_size (by repeat (first|(with_reducible first|exact HB.out|apply bA|apply bN|apply bD)|exact HB.out))))
           have n6_:=aM (Kd.C_below (by repeat (first|(with_reducible exact HR452_1.out)|(with_reducible refine Kd.C_alloc ?_ _)|(with_reducible refine Kd.C_drewN ?_ _)|(with_reducible refine Kd.C_drew ?_)|exact HR452_1.out)) hb)
           have n7_:=aM (below_step (by repeat (first|(with_reducible first|exact HB.out|apply bA|apply bN|apply bD)|exact HB.out)) hb)
           clear HO_5
           clear HO434
           clear HO442
           clear HO445
           clear HL452_1
           clear HR452_1
           clear HB
           have HO_5:=n0_
           have HO434:=n1_
           have HO442:=n2_
           have HO445:=n3_
           have HL452_1:=n4_
           have HO455:=n5_
           have HR452_1:=n6_
           have HB:=n7_
           clear n0_ n1_ n2_ n3_ n4_ n5_ n6_ n7_
           clear hb ho92
           refine hK.out _ _ ⟨HS0_,HS1_⟩ (fun hHeld => ?_)
           clear hK K
           refine norm_ (a':=?_) ?_ ?_
           rotate_left
           ·show Act.put _ (some 61) _ = _
            simp only [Act.put,sI,sZ,sS,i64_w,i32_w]
            rfl
           refine one_ (i:=0) (N:=some 54) #[bT,bT,bF,bT,bT,bT,bT,bT,bF,bF] rfl rfl (one_of HT_.out (by kernel_rfl)) (by decide) (fun K hK => ?_)
           refine Kd.N_lit_step k25 _ 25 ?hg (N':=54) ?hd (xs:=([] : List (S25))) (inner:=[]) (ok:=(fun k_ => some k_ ≠ (.slice (some ad452) t421.length co10 : Value).ownBlock ∧ some k_ ≠ (v444 : Value).ownBlock ∧ some k_ ≠ (v454 : Value).ownBlock)) (okp:=(fun k_ => some k_ ≠ (.slice (some ad452) t421.length co10 : Value).ownBlock ∧ some k_ ≠ (v444 : Value).ownBlock ∧ some k_ ≠ (v454 : Value).ownBlock)) ?hr ?hp (fun _ hk => hk) ((show ∀ k_,w91.heap.size ≤ k_ → (fun k_ => some k_ ≠ (.slice (some ad452) t421.length co10 : Value).ownBlock ∧ some k_ ≠ (v444 : Value).ownBlock ∧ some k_ ≠ (v454 : Value).ownBlock) k_ from fun k_ hk => ⟨Kd.fresh' (Kd.N_lt (by (with_reducible repeat (first|apply Kd.N_alloc|apply Kd.N_drewN|apply Kd.N_drew));exact HO_5.out)) k_ hk,Kd.fresh' (Kd.N_lt (by (with_reducible repeat (first|apply Kd.N_alloc|apply Kd.N_drewN|apply Kd.N_drew));exact HO445.out)) k_ hk,Kd.fresh' (Kd.N_lt (by (with_reducible repeat (first|apply Kd.N_alloc|apply Kd.N_drewN|apply Kd.N_drew));exact HO455.out)) k_ hk⟩) _ (Nat.le_refl _)) (Below.refl _ _) (Nat.le_refl _) (by simp) ?_;(case hd => rfl);(case hg => rfl);(case hr => first|(go_simp;done)|(go_simp;rfl));(case hp => exact (Reps.none _ _))
           intro v447 w93 ho94 hb hg_ hnew_
           have HS0_:=(hb.cell (World.block_lt_of_cell? _ _ (hHeld.1))).trans (hHeld.1)
           have HS1_:=(hb.cell (World.block_lt_of_cell? _ _ (hHeld.2))).trans (hHeld.2)
           clear hg_ hnew_
           (first|rw [← Ny446.out] at ho94|(simp only [Int.reduceToNat] at ho94;rw [← Ny446.out] at ho94))
           have n0_:=aM (Kd.N_elder' (by (with_reducible repeat (first|apply Kd.N_alloc|apply Kd.N_drewN|apply Kd.N_drew));exact HO_5.out) (Kd.N_base ho94) hb)
           have n1_:=aM (Kd.V_elder' (by (with_reducible repeat (first|apply Kd.V_alloc|apply Kd.V_drewN|apply Kd.V_drew));exact HO434.out) (Kd.N_base ho94) hb)
           have n2_:=aM (Kd.V_elder' (by (with_reducible repeat (first|apply Kd.V_alloc|apply Kd.V_drewN|apply Kd.V_drew));exact HO442.out) (Kd.N_base ho94) hb)
           have n3_:=aM (Kd.N_elder' (by (with_reducible repeat (first|apply Kd.N_alloc|apply Kd.N_drewN|apply Kd.N_drew));exact HO445.out) (Kd.N_base ho94) hb)
           have n4_:=aM (Kd.V_elder' (by (with_reducible repeat (first|apply Kd.V_alloc|apply Kd.V_drewN|apply Kd.V_drew));exact HL452_1.out) (Kd.N_base ho94) hb)
           have n5_:=aM (Kd.N_elder' (by (with_reducible repeat (first|apply Kd.N_alloc|apply Kd.N_drewN|apply Kd.N_drew));exact HO455.out) (Kd.N_base ho94) hb)
           have n6_:=aM (Kd.N_lower ho94 (below_size (by repeat (first|(with_reducible first|exact HB.out|apply bA|apply bN|apply bD)|exact HB.out))))
           have n7_:=aM (Kd.C_below (by repeat (first|(with_reducible exact HR452_1.out)|(with_reducible refine Kd.C_alloc ?_ _)|(with_reducible refine Kd.C_drewN ?_ _)|(with_reducible refine Kd.C_drew ?_)|exact HR452_1.out)) hb)
           have n8_:=aM (below_step (by repeat (first|(with_reducible first|exact HB.out|apply bA|apply bN|apply bD)|exact HB.out)) hb)
           clear HO_5
           clear HO434
           clear HO442
           clear HO445
           clear HL452_1
           clear HO455
           clear HR452_1
           clear HB
           have HO_5:=n0_
           have HO434:=n1_
           have HO442:=n2_
           have HO445:=n3_
           have HL452_1:=n4_
           have HO455:=n5_
           have HO448:=n6_
           have HR452_1:=n7_
           have HB:=n8_
           clear n0_ n1_ n2_ n3_ n4_ n5_ n6_ n7_ n8_
           clear hb ho94
           refine hK.out _ _ ⟨HS0_,HS1_⟩ (fun hHeld => ?_)
           clear hK K
           refine norm_ (a':=?_) ?_ ?_
           rotate_left
           ·show Act.put _ (some 54) _ = _
            simp only [Act.put,sI,sZ,sS,i64_w,i32_w]
            rfl
           refine one_ (i:=2) (N:=some 56) #[bT,bT,bT,bT,bT,bT,bT,bT,bF,bF] rfl rfl (one_of HT_.out (by kernel_rfl)) (by decide) (fun K hK => ?_)
           refine Kd.N_append_rows_step k25 (w0:=w) w.heap.size (by rfl) (.tmp 54) (.tmp 55) 37 25 (.agg #[(.int .i64 0),(.slice none 0 0)]) 32 rfl Try.underlying37 info25 rfl (by decide) (by omega) v447 y446 t421 _ _ _ (fun k_ => some k_ ≠ (v444 : Value).ownBlock ∧ some k_ ≠ (v454 : Value).ownBlock) (fun k_ => ((fun k_ => some k_ ≠ (v444 : Value).ownBlock ∧ some k_ ≠ (v454 : Value).ownBlock)) k_ ∧ some k_ ≠ (v447 : Value).ownBlock) rfl rfl ?aO ?aR (fun _ hk => hk) ?aF ?aB ?aS ?aL ?_
           (case aR => exact (by skip;exact Kd.N_F (Kd.N_mono (ok':=(fun k_ => ((fun k_ => some k_ ≠ (v444 : Value).ownBlock ∧ some k_ ≠ (v454 : Value).ownBlock)) k_ ∧ some k_ ≠ (v447 : Value).ownBlock)) (HO_5.out) (fun k_ hk => ⟨⟨hk.1.1.2,hk.1.2⟩,hk.2⟩))))
           (case aB => exact (by repeat (first|(with_reducible first|exact HB.out|apply bA|apply bN|apply bD)|exact HB.out)))
           (case aF => exact (fun k_ hk => ⟨Kd.fresh' (Kd.N_lt (by (with_reducible repeat (first|apply Kd.N_alloc|apply Kd.N_drewN|apply Kd.N_drew));exact HO445.out)) k_ hk,Kd.fresh' (Kd.N_lt (by (with_reducible repeat (first|apply Kd.N_alloc|apply Kd.N_drewN|apply Kd.N_drew));exact HO455.out)) k_ hk⟩))
           (case aO => exact (by (with_reducible repeat (first|apply Kd.N_alloc|apply Kd.N_drewN|apply Kd.N_drew));exact Kd.N_mono HO448.out (fun _ hk => ⟨hk.2.1,hk.2.2⟩)))
           (case aS => exact (below_size (by repeat (first|(with_reducible first|exact HB.out|apply bA|apply bN|apply bD)|exact HB.out))))
           (case aL => have:=LMc30.out;omega)
           intro v450 w95 ho hb hg hat
           have HS0_:=cell_grown hg (hHeld.1) (cell_ne_row (fun e_ => ((HO448.out.1 _ e_.symm).1) rfl))
           have HS1_:=cell_grown hg (hHeld.2) (cell_ne_row (fun e_ => ((HO448.out.1 _ e_.symm).1) rfl))
           have hHN40_:=True.intro
           rw [← Ny449.out] at ho
           have n0_:=aM (Kd.N_afterv (ok:=(fun k_ => some k_ ≠ (v444 : Value).ownBlock ∧ some k_ ≠ (v454 : Value).ownBlock)) (by (with_reducible repeat (first|apply Kd.N_alloc|apply Kd.N_drewN|apply Kd.N_drew));exact Kd.N_mono HO_5.out (fun _ hk => ⟨⟨hk.1.1.2,hk.1.2⟩,hk.2⟩)) hg hat)
           have n1_:=aM (Kd.V_afterv (ok:=(fun k_ => some k_ ≠ (v444 : Value).ownBlock ∧ some k_ ≠ (v454 : Value).ownBlock)) (by (with_reducible repeat (first|apply Kd.V_alloc|apply Kd.V_drewN|apply Kd.V_drew));exact Kd.V_mono HO434.out (fun _ hk => ⟨⟨hk.1.1.2,hk.1.2⟩,hk.2⟩)) hg hat)
           have n2_:=aM (Kd.V_afterv (ok:=(fun k_ => some k_ ≠ (v444 : Value).ownBlock ∧ some k_ ≠ (v454 : Value).ownBlock)) (by (with_reducible repeat (first|apply Kd.V_alloc|apply Kd.V_drewN|apply Kd.V_drew));exact Kd.V_mono HO442.out (fun _ hk => ⟨⟨hk.1.1.2,hk.1.2⟩,hk.2⟩)) hg hat)
           have n3_:=aM (Kd.N_afterv (ok:=(fun k_ => some k_ ≠ (v454 : Value).ownBlock)) (by (with_reducible repeat (first|apply Kd.N_alloc|apply Kd.N_drewN|apply Kd.N_drew));exact Kd.N_mono HO445.out (fun _ hk => ⟨hk.1.2,hk.2⟩)) hg hat)
           have n4_:=aM (Kd.V_afterv (ok:=(fun k_ => some k_ ≠ (.slice (some ad452) t421.length co10 : Value).ownBlock ∧ some k_ ≠ (v444 : Value).ownBlock ∧ some k_ ≠ (v454 : Value).ownBlock)) (by (with_reducible repeat (first|apply Kd.V_alloc|apply Kd.V_drewN|apply Kd.V_drew));exact Kd.V_mono HL452_1.out (fun _ hk => ⟨⟨hk.1.1.2,⟨hk.1.1.1.2,hk.1.2⟩⟩,hk.2⟩)) hg hat)
           have n5_:=aM (Kd.N_afterv (ok:=(fun k_ => some k_ ≠ (.slice (some ad452) t421.length co10 : Value).ownBlock ∧ some k_ ≠ (v444 : Value).ownBlock)) (by (with_reducible repeat (first|apply Kd.N_alloc|apply Kd.N_drewN|apply Kd.N_drew));exact HO455.out) hg hat)
           have n6_:=aM (hb)
           have n7_:=aM (ho)
           clear HO_5
           clear HO434
           clear HO442
           clear HO445
           clear HL452_1
           clear HO455
           clear HB
           clear HO448
           have HO_5:=n0_
           have HO434:=n1_
           have HO442:=n2_
           have HO445:=n3_
           have HL452_1:=n4_
           have HO455:=n5_
           have HB:=n6_
           have HO451:=n7_
           clear n0_ n1_ n2_ n3_ n4_ n5_ n6_ n7_
           clear ho hb hg hat
           refine hK.out _ _ ⟨HS0_,HS1_⟩ (fun hHeld => ?_)
           clear hK K
           refine norm_ (a':=?_) ?_ ?_
           rotate_left
           ·show Act.put _ (some 56) _ = _
            simp only [Act.put,sI,sZ,sS,i64_w,i32_w]
            rfl
           exact norm_ (by simp only [putAll,Act.put,sI,sZ,sS]) (hCont (v447,v450,v454) _ ⟨hHeld,(by (with_reducible repeat (first|apply Kd.V_alloc|apply Kd.V_drewN|apply Kd.V_drew));exact Kd.V_mono HL452_1.out (fun _ hk => ⟨hk.1.2.1,⟨hk.2,⟨hk.1.2.2,hk.1.1⟩⟩⟩)),(by (with_reducible repeat (first|apply Kd.V_alloc|apply Kd.V_drewN|apply Kd.V_drew));exact Kd.V_mono HO434.out (fun _ hk => ⟨hk.1.1,⟨hk.2,hk.1.2⟩⟩)),(by (with_reducible repeat (first|apply Kd.V_alloc|apply Kd.V_drewN|apply Kd.V_drew));exact Kd.V_mono HO442.out (fun _ hk => ⟨hk.1.1,⟨hk.2,hk.1.2⟩⟩)),(by (with_reducible repeat (first|apply Kd.N_alloc|apply Kd.N_drewN|apply Kd.N_drew));exact Kd.N_mono HO445.out (fun _ hk => ⟨hk.2,hk.1⟩)),(by (with_reducible repeat (first|apply Kd.N_alloc|apply Kd.N_drewN|apply Kd.N_drew));exact HO451.out),(by (with_reducible repeat (first|apply Kd.N_alloc|apply Kd.N_drewN|apply Kd.N_drew));exact Kd.N_mono HO455.out (fun _ hk => ⟨hk.1.2,⟨hk.2,hk.1.1⟩⟩)),(by (with_reducible repeat (first|apply Kd.N_alloc|apply Kd.N_drewN|apply Kd.N_drew));exact Kd.N_mono HO_5.out (fun _ hk => ⟨hk.1.1,⟨hk.2,hk.1.2⟩⟩)),(by repeat (first|(with_reducible first|exact HB.out|apply bA|apply bN|apply bD)|exact HB.out))⟩)
         rintro ⟨v447,v450,v454⟩ w96 ⟨hS_,h0_,h1_,h2_,h3_,h4_,h5_,h6_,h7_⟩
         have n0_ : Aside0 (Kd.V k65 65 w96 w.heap.size (fun k_ => some k_ ≠ (v444 : Value).ownBlock ∧ some k_ ≠ (v450 : Value).ownBlock ∧ some k_ ≠ (v454 : Value).ownBlock ∧ some k_ ≠ (.slice (some ad452) t421.length co10 : Value).ownBlock) (.slice A452_1 ((rd_T25 t421 (ji22)).f1).length c452_1) ((rd_T25 t421 (ji22)).f1)):=⟨h0_⟩
         have n1_ : Aside0 (Kd.V k25 25 w96 w.heap.size (fun k_ => some k_ ≠ (v444 : Value).ownBlock ∧ some k_ ≠ (v450 : Value).ownBlock ∧ some k_ ≠ (v454 : Value).ownBlock) (.slice (some ad452) y430.length co10) y430):=⟨h1_⟩
         have n2_ : Aside0 (Kd.V k25 25 w96 w.heap.size (fun k_ => some k_ ≠ (v444 : Value).ownBlock ∧ some k_ ≠ (v450 : Value).ownBlock ∧ some k_ ≠ (v454 : Value).ownBlock) (.slice A85 y438.length c85) y438):=⟨h2_⟩
         have n3_ : Aside0 (Kd.N k25 25 w96 w.heap.size (fun k_ => some k_ ≠ (v450 : Value).ownBlock ∧ some k_ ≠ (v454 : Value).ownBlock) v444 y443):=⟨h3_⟩
         have n4_ : Aside0 (Kd.N k25 25 w96 w.heap.size (fun k_ => some k_ ≠ (v444 : Value).ownBlock ∧ some k_ ≠ (v454 : Value).ownBlock) v450 y449):=⟨h4_⟩
         have n5_ : Aside0 (Kd.N k25 25 w96 w.heap.size (fun k_ => some k_ ≠ (v444 : Value).ownBlock ∧ some k_ ≠ (v450 : Value).ownBlock ∧ some k_ ≠ (.slice (some ad452) t421.length co10 : Value).ownBlock) v454 y453):=⟨h5_⟩
         have n6_ : Aside0 (Kd.N k25 25 w96 w.heap.size (fun k_ => some k_ ≠ (v444 : Value).ownBlock ∧ some k_ ≠ (v450 : Value).ownBlock ∧ some k_ ≠ (v454 : Value).ownBlock) (.slice (some ad452) t421.length co10) t421):=⟨h6_⟩
         have n7_ : Aside0 (Below w.heap.size w w96):=⟨h7_⟩
         clear HO_5
         clear HO434
         clear HO442
         clear HO445
         clear HB
         clear h0_ h1_ h2_ h3_ h4_ h5_ h6_ h7_
         have HL452_1:=n0_
         have HO434:=n1_
         have HO442:=n2_
         have HO445:=n3_
         have HO451:=n4_
         have HO455:=n5_
         have HO_5:=n6_
         have HB:=n7_
         clear n0_ n1_ n2_ n3_ n4_ n5_ n6_ n7_
         have hHeld : w96.cell? (ad452.add (((ji22)).toNat * 2)) = some (.int .i64 ((rd_T25 t421 (ji22)).f0)) ∧ w96.cell? ⟨(ad452.add (((ji22)).toNat * 2)).block,(ad452.add (((ji22)).toNat * 2)).off + 1,none⟩ = some (.slice A452_1 ((rd_T25 t421 (ji22)).f1).length c452_1):=hS_
         obtain ⟨Ao98,co98,eo98⟩:=Kd.N_slice HO455.out
         (first|subst eo98|(injection eo98 with f1_ f2_ f3_;have f4_:=f1_.symm;have f5_:=f3_.symm;clear f1_ f2_ f3_;subst f4_;subst f5_))
         refine norm_ (a':=?_) ?_ ?_
         rotate_left
         ·simp only [putAll,Act.put,sI,sZ,sS]
          rfl
         refine one_ (i:=8) (N:=some 62) #[bT,bT,bT,bT,bT,bT,bT,bT,bT,bF] rfl rfl (one_of HT_.out (by kernel_rfl)) (by decide) (fun K hK => ?_)
         refine Kd.N_append_rows_step k25 (w0:=w) w.heap.size (by rfl) (.tmp 56) (.tmp 61) 37 25 (.agg #[(.int .i64 0),(.slice none 0 0)]) 32 rfl Try.underlying37 info25 rfl (by decide) (by omega) v450 y449 y453 _ _ _ (fun k_ => some k_ ≠ (v444 : Value).ownBlock) (fun k_ => ((fun k_ => some k_ ≠ (v444 : Value).ownBlock)) k_ ∧ some k_ ≠ (v450 : Value).ownBlock) rfl rfl ?aO ?aR (fun _ hk => hk) ?aF ?aB ?aS ?aL ?_
         (case aR => exact (by skip;exact Kd.N_F (Kd.N_mono (ok':=(fun k_ => ((fun k_ => some k_ ≠ (v444 : Value).ownBlock)) k_ ∧ some k_ ≠ (v450 : Value).ownBlock)) (HO455.out) (fun k_ hk => ⟨hk.1,hk.2.1⟩))))
         (case aB => exact (by repeat (first|(with_reducible first|exact HB.out|apply bA|apply bN|apply bD)|exact HB.out)))
         (case aF => exact (fun k_ hk => Kd.fresh' (Kd.N_lt (by (with_reducible repeat (first|apply Kd.N_alloc|apply Kd.N_drewN|apply Kd.N_drew));exact HO445.out)) k_ hk))
         (case aO => exact (by (with_reducible repeat (first|apply Kd.N_alloc|apply Kd.N_drewN|apply Kd.N_drew));exact Kd.N_mono HO451.out (fun _ hk => hk.1)))
         (case aS => exact (below_size (by repeat (first|(with_reducible first|exact HB.out|apply bA|apply bN|apply bD)|exact HB.out))))
         (case aL => have:=LMc32.out;omega)
         intro v457 w97 ho hb hg hat
         have HS0_:=cell_grown hg (hHeld.1) (cell_ne_row ((HO_5.out.1 _ rfl).2.1))
         have HS1_:=cell_grown hg (hHeld.2) (cell_ne_row ((HO_5.out.1 _ rfl).2.1))
         have hHN42_:=True.intro
         rw [← Ny456.out] at ho
         have n0_:=aM (Kd.N_afterv (ok:=(fun k_ => some k_ ≠ (v444 : Value).ownBlock ∧ some k_ ≠ (.slice Ao98 y453.length co98 : Value).ownBlock)) (by (with_reducible repeat (first|apply Kd.N_alloc|apply Kd.N_drewN|apply Kd.N_drew));exact Kd.N_mono HO_5.out (fun _ hk => ⟨⟨hk.1,hk.2.2⟩,hk.2.1⟩)) hg hat)
         have n1_:=aM (Kd.V_afterv (ok:=(fun k_ => some k_ ≠ (v444 : Value).ownBlock ∧ some k_ ≠ (.slice Ao98 y453.length co98 : Value).ownBlock)) (by (with_reducible repeat (first|apply Kd.V_alloc|apply Kd.V_drewN|apply Kd.V_drew));exact Kd.V_mono HO434.out (fun _ hk => ⟨⟨hk.1,hk.2.2⟩,hk.2.1⟩)) hg hat)
         have n2_:=aM (Kd.V_afterv (ok:=(fun k_ => some k_ ≠ (v444 : Value).ownBlock ∧ some k_ ≠ (.slice Ao98 y453.length co98 : Value).ownBlock)) (by (with_reducible repeat (first|apply Kd.V_alloc|apply Kd.V_drewN|apply Kd.V_drew));exact Kd.V_mono HO442.out (fun _ hk => ⟨⟨hk.1,hk.2.2⟩,hk.2.1⟩)) hg hat)
         have n3_:=aM (Kd.N_afterv (ok:=(fun k_ => some k_ ≠ (.slice Ao98 y453.length co98 : Value).ownBlock)) (by (with_reducible repeat (first|apply Kd.N_alloc|apply Kd.N_drewN|apply Kd.N_drew));exact Kd.N_mono HO445.out (fun _ hk => ⟨hk.2,hk.1⟩)) hg hat)
         have n4_:=aM (Kd.V_afterv (ok:=(fun k_ => some k_ ≠ (.slice (some ad452) t421.length co10 : Value).ownBlock ∧ some k_ ≠ (v444 : Value).ownBlock ∧ some k_ ≠ (.slice Ao98 y453.length co98 : Value).ownBlock)) (by (with_reducible repeat (first|apply Kd.V_alloc|apply Kd.V_drewN|apply Kd.V_drew));exact Kd.V_mono HL452_1.out (fun _ hk => ⟨⟨hk.2.2.2,⟨hk.1,hk.2.2.1⟩⟩,hk.2.1⟩)) hg hat)
         have n5_:=aM (Kd.N_afterv (ok:=(fun k_ => some k_ ≠ (.slice (some ad452) t421.length co10 : Value).ownBlock ∧ some k_ ≠ (v444 : Value).ownBlock)) (by (with_reducible repeat (first|apply Kd.N_alloc|apply Kd.N_drewN|apply Kd.N_drew));exact Kd.N_mono HO455.out (fun _ hk => ⟨⟨hk.2.2,hk.1⟩,hk.2.1⟩)) hg hat)
         have n6_:=aM (hb)
         have n7_:=aM (ho)
         clear HO_5
         clear HO434
         clear HO442
         clear HO445
         clear HL452_1
         clear HO455
         clear HB
         clear HO451
         have HO_5:=n0_
         have HO434:=n1_
         have HO442:=n2_
         have HO445:=n3_
         have HL452_1:=n4_
         have HO455:=n5_
         have HB:=n6_
         have HO458:=n7_
         clear n0_ n1_ n2_ n3_ n4_ n5_ n6_ n7_
         clear ho hb hg hat
         refine hK.out _ _ ⟨HS0_,HS1_⟩ (fun hHeld => ?_)
         clear hK K
         refine norm_ (a':=?_) ?_ ?_
         rotate_left
         ·show Act.put _ (some 62) _ = _
          simp only [Act.put,sI,sZ,sS,i64_w,i32_w]
          rfl
         refine pure_ (i:=9) (N:=some 9) (v:=?_) (a':=?_) #[bT,bT,bT,bT,bT,bT,bT,bT,bT,bT] rfl rfl (any_of HT_.out (by kernel_rfl)) (fun _ _ _ h => h) (Or.inl ⟨by rfl,?_⟩) ?_ ?_
         rotate_left;(· intro w';go_simp;with_reducible rfl);rotate_left;(· simp only [Act.put,sI,sZ,sS,i64_w,i32_w];rfl)
         refine done_ (done_of HT_.out (by kernel_rfl)) ?_
         obtain ⟨Ao99,co99,eo99⟩:=Kd.N_slice HO445.out
         subst eo99
         try go_wp2_with (first|((with_reducible refine gate_callee (f:=24) rfl ?_);refine goesL_ (some 64) rfl rfl Try.func24 (by kernel_rfl) rfl #[.slice Ao99 y443.length co99] rfl (by (try simp only [List.map_toArray,List.map_cons,List.map_nil]);first|done|rfl|(simp only [List.length_drop,List.length_take];rfl)) ?_;(with_reducible refine (impl_VotesOk.calls kj7 _ _ y443 false _ ?side1 ?side2 A33.out).mono ?_);(case side1 => repeat (first|exact (Kd.N_reads' HO445.out).2.2|(with_reducible refine Kd.C_alloc ?_ _)|(with_reducible refine Kd.C_drewN ?_ _)|(with_reducible refine Kd.C_drew ?_)));(case side2 => exact (Kd.N_reads' HO445.out).2.1);rintro e w100 ⟨rfl,hb⟩;refine ⟨_,rfl,?_⟩;have n0_:=aM (Kd.N_below (by (with_reducible repeat (first|apply Kd.N_alloc|apply Kd.N_drewN|apply Kd.N_drew));exact HO_5.out) hb);have n1_:=aM (Kd.V_below (by (with_reducible repeat (first|apply Kd.V_alloc|apply Kd.V_drewN|apply Kd.V_drew));exact HO434.out) hb);have n2_:=aM (Kd.V_below (by (with_reducible repeat (first|apply Kd.V_alloc|apply Kd.V_drewN|apply Kd.V_drew));exact HO442.out) hb);have n3_:=aM (Kd.N_below (by (with_reducible repeat (first|apply Kd.N_alloc|apply Kd.N_drewN|apply Kd.N_drew));exact HO445.out) hb);have n4_:=aM (Kd.V_below (by (with_reducible repeat (first|apply Kd.V_alloc|apply Kd.V_drewN|apply Kd.V_drew));exact HL452_1.out) hb);have n5_:=aM (Kd.N_below (by (with_reducible repeat (first|apply Kd.N_alloc|apply Kd.N_drewN|apply Kd.N_drew));exact HO455.out) hb);have n6_:=aM (Kd.N_below (by (with_reducible repeat (first|apply Kd.N_alloc|apply Kd.N_drewN|apply Kd.N_drew));exact HO458.out) hb);have n7_:=aM (below_step (by repeat (first|(with_reducible first|exact HB.out|apply bA|apply bN|apply bD)|exact HB.out)) hb);clear HO_5;clear HO434;clear HO442;clear HO445;clear HL452_1;clear HO455;clear HO458;clear HB;have HO_5:=n0_;have HO434:=n1_;have HO442:=n2_;have HO445:=n3_;have HL452_1:=n4_;have HO455:=n5_;have HO458:=n6_;have HB:=n7_;clear n0_ n1_ n2_ n3_ n4_ n5_ n6_ n7_;(try clear hb);(try clear hb2);(try clear hk);(try clear hi)))
         go_ret
         exact ⟨by first|rfl|(simp only [i64_w,i32_w];done)|(simp only [i64_w,i32_w];rfl)|(simp [errW_none,errW_some] <;> rfl)|(simp only [← hji22,← hji26];first|rfl|(simp [errW_none,errW_some] <;> rfl))|(simp [*,errW_none,errW_some] <;> rfl),by repeat (first|(with_reducible first|exact HB.out|apply bA|apply bN|apply bD)|exact HB.out)⟩

/-- What is left to prove of laws_FnVotesLess. -/
def laws_FnVotesLess.Pure : Prop:=∀ (l0 : List Int) (l1 : List Int),l0.length ≤ 9223372036854775807 → (∀ x,x ∈ l0 → (Lit.int .u8 x).wf = true) → l1.length ≤ 9223372036854775807 → (∀ x,x ∈ l1 → (Lit.int .u8 x).wf = true) → ∃ k,laws_FnVotesLess.f k l0 l1 = some true

end Go.Proofs.Ytaccamnoacdiiaa.P
