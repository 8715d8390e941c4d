/- The printed functions: what each Go function computes, as a Lean function, and that the Go code comes to just that. Conditions: none beyond each contract's own. -/
import Derived.Test.YtkkfokcbbhnjeaaPx0
import Derived.Test.YtkkfokcbbhnjeaaPx1
import Derived.Test.YtkkfokcbbhnjeaaPx5
namespace Go.Proofs.Ytkkfokcbbhnjeaa.P
open Go.RowKit Go.Proofs.YtkkfokcbbhnjeaaW.PrintWords Go.Proofs.YtkkfokcbbhnjeaaW.PrintLast Go.Proofs.YtkkfokcbbhnjeaaW.PrintMore
attribute [local go_sem] max2_int min2_int max_two min_two max_three min_three max_four min_four   -- for this text's walks alone
set_option linter.unusedVariables false
set_option linter.unusedSimpArgs false

attribute [local go_sem high] eqA56
/-! ### spec_l1Copy: function 41 -/
def spec_l1Copy.f (l0 : List (S56)) : Option ((List (S56))):=(some (([] : List (S56)) : List (S56))).bind fun y244 => (if y244.length + l0.length < 4398046511104 then (some (y244 ++ l0)) else (none))
set_option maxHeartbeats 8000000 in
set_option maxRecDepth 100000 in
theorem spec_l1Copy.calls (A0 : Option Addr) (c0 : Nat) (l0 : List (S56)) (r : List (S56)) (w : World) (hr0 : Kd.C k56 w A0 l0.length l0) (hc0 : l0.length ≤ c0) (h : spec_l1Copy.f l0 = some r) :
  Calls Try.prog 41 #[.slice A0 l0.length c0] w fun e w' => ∃ v0_ : Value,e = .returned (v0_) ∧ Kd.R k56 56 w' w.heap.size (fun _ => True) v0_ r ∧ Below w.heap.size w w':=by
 have HR0:=aM hr0
 have HC0:=aM hc0
 clear hr0 hc0
 have HB:=aM (Below.refl w.heap.size w)
 have H : ((some (([] : List (S56)) : List (S56))).bind fun y244 => (if y244.length + l0.length < 4398046511104 then (some (y244 ++ l0)) else (none))) = some r:=h
 clear h
 obtain ⟨y244,hy244⟩ : ∃ y_ : List (S56),y_ = (([] : List (S56))):=⟨_,rfl⟩
 replace H : (if y244.length + l0.length < 4398046511104 then (some (y244 ++ l0)) else (none)) = some r:=by first|(rw [hy244];with_reducible exact H)|(have H2_:=(Option.bind_some _ _).symm.trans H;rw [hy244];with_reducible exact H2_)|(have H2_:=(Option.bind_some _ _).symm.trans H;with_reducible exact H2_)|with_reducible exact H|(rw [hy244];exact H)|exact H
 have Ny244:=aM hy244
 clear hy244
 by_cases c2 : y244.length + l0.length < 4398046511104
 case neg => rw [if_neg c2] at H;exact absurd H (by simp)
 rw [if_pos c2] at H
 have LMc2:=aM c2
 clear c2
 obtain ⟨y247,hy247⟩ : ∃ y_ : List (S56),y_ = (y244 ++ l0):=⟨_,rfl⟩
 replace H : (some y247) = some r:=by first|(rw [hy247];with_reducible exact H)|(have H2_:=(Option.bind_some _ _).symm.trans H;rw [hy247];with_reducible exact H2_)|(have H2_:=(Option.bind_some _ _).symm.trans H;with_reducible exact H2_)|with_reducible exact H|(rw [hy247];exact H)|exact H
 have Ny247:=aM hy247
 clear hy247
 obtain rfl:=Option.some.inj H
 go_enter Try.func41,Try.ntmps41
 go_wp2_with (first|((with_reducible refine gate_dst (N:=3) rfl ?_);refine Kd.R_lit k56 _ 56 ?hg (N:=3) ?hd (xs:=([] : List (S56))) (inner:=[]) (ok:=fun _ => True) (okp:=fun _ => True) ?hr ?hp (fun _ hk => hk) trivial (Below.refl _ _) (Nat.le_refl _) (by simp) ?_;(case hd => rfl);(case hg => rfl);(case hr => first|(go_simp;done)|(go_simp;rfl));(case hp => exact (Reps.none _ _));intro v245 w3 ho4 hb hg_ hnew_;clear hg_ hnew_;(first|rw [← Ny244.out] at ho4|(simp only [Int.reduceToNat] at ho4;rw [← Ny244.out] at ho4));have n0_:=aM (Kd.R_lower ho4 (below_size (by repeat (first|(with_reducible first|exact HB.out|apply bA|apply bN|apply bD)|exact HB.out))));have n1_:=aM (below_step (by repeat (first|(with_reducible first|exact HB.out|apply bA|apply bN|apply bD)|exact HB.out)) hb);clear HB;have HO246:=n0_;have HB:=n1_;clear n0_ n1_;clear hb ho4)|((with_reducible refine gate_builtin (b:=.append) (xs:=#[.tmp 3,.tmp 4]) rfl ?_);at_builtin;refine Kd.R_append_rows k56 (w0:=w) w.heap.size rfl (.tmp 3) (.tmp 4) 28 56 (.agg #[(.int .i64 0),(.int .i64 0),(.int .i64 0),(.int .i64 0)]) 32 rfl Try.underlying28 info56 rfl (by decide) (by omega) v245 y244 l0 _ _ _ (fun _ => True) (fun _ => False) rfl rfl ?aO ?aR (fun _ _ h => h) (fun _ h => h.elim) ?aF ?aB ?aS ?aL ?_;(case aR => repeat (first|exact (Kd.C_below HR0.out HB.out)|(with_reducible refine Kd.C_alloc ?_ _)|(with_reducible refine Kd.C_drewN ?_ _)|(with_reducible refine Kd.C_drew ?_)));(case aB => exact (by repeat (first|(with_reducible first|exact HB.out|apply bA|apply bN|apply bD)|exact HB.out)));(case aF => exact (fun _ _ => trivial));(case aO => exact (by (with_reducible repeat (first|apply Kd.R_alloc|apply Kd.R_drewN|apply Kd.R_drew));exact HO246.out));(case aS => exact (below_size (by repeat (first|(with_reducible first|exact HB.out|apply bA|apply bN|apply bD)|exact HB.out))));(case aL => have:=LMc2.out;omega);intro v248 w5 ho hb hg hat;rw [← Ny247.out] at ho;have n0_:=aM (hb);have n1_:=aM (ho);clear HB;clear HO246;have HB:=n0_;have HO249:=n1_;clear n0_ n1_;clear ho hb hg hat))
 go_ret
 exact ⟨_,by first|rfl|(simp only [i64_w,i32_w];done)|(simp only [i64_w,i32_w];rfl)|(simp [errW_none,errW_some] <;> rfl)|(simp [*,errW_none,errW_some] <;> rfl),by (with_reducible repeat (first|apply Kd.R_alloc|apply Kd.R_drewN|apply Kd.R_drew));exact HO249.out,by repeat (first|(with_reducible first|exact HB.out|apply bA|apply bN|apply bD)|exact HB.out)⟩

/-! ### spec_ChainBoth: function 19 -/
mutual
def spec_ChainBoth.j0 : Nat → List (S56) → List (S56) → Int → Bool → Option ((List (S56)))
 | 0,_,_,_,_ => none
 | k + 1,x0,x1,x5,x13 => if x13 = true then (some (([] : List (S56)))) else (spec_ChainBoth.l0 k x0 x1 x5)
def spec_ChainBoth.l0 : Nat → List (S56) → List (S56) → Int → Option ((List (S56)))
 | 0,_,_,_ => none
 | k + 1,x0,x1,x5 => if x5 < (x0.length : Int) then (if x5 < (x1.length : Int) then (if 0 ≤ x5 then (if (((rd_T56 x0 x5).f0) == ((rd_T56 x1 x5).f0) && ((((rd_T56 x0 x5).f1.f0) == ((rd_T56 x1 x5).f1.f0) && (((rd_T56 x0 x5).f1.f1) == ((rd_T56 x1 x5).f1.f1) && (((rd_T56 x0 x5).f1.f2) == ((rd_T56 x1 x5).f1.f2)))))) = true then (spec_ChainBoth.l0 k x0 x1 (wrap64 (x5 + 1))) else (if x5 ≤ (x0.length : Int) then ((spec_l1Copy.f (x0.take (x5 : Int).toNat)).bind fun t261 => (some t261)) else (none))) else (none)) else (if 0 ≤ x5 then (if x5 ≤ (x0.length : Int) then ((spec_l1Copy.f (x0.take (x5 : Int).toNat)).bind fun t268 => (some t268)) else (none)) else (none))) else (if 0 ≤ x5 then (if x5 ≤ (x0.length : Int) then ((spec_l1Copy.f (x0.take (x5 : Int).toNat)).bind fun t275 => (some t275)) else (none)) else (none))
end
def spec_ChainBoth.f (k : Nat) (l0 : List (S56)) (l1 : List (S56)) : Option ((List (S56))):=(spec_ChainOk.f k l0).bind fun t250 => (if t250 = true then ((spec_ChainOk.f k l1).bind fun t251 => (spec_ChainBoth.j0 k l0 l1 0 (!t251))) else (spec_ChainBoth.j0 k l0 l1 0 true))
theorem spec_ChainBoth.mono_l : ∀ k,(∀ y0 y1 y2 y3,LeO (spec_ChainBoth.j0 k y0 y1 y2 y3) (spec_ChainBoth.j0 (k + 1) y0 y1 y2 y3)) ∧ (∀ y0 y1 y2,LeO (spec_ChainBoth.l0 k y0 y1 y2) (spec_ChainBoth.l0 (k + 1) y0 y1 y2))
 | 0 => ⟨fun _ _ _ _ r h => by simp [spec_ChainBoth.j0] at h,fun _ _ _ r h => by simp [spec_ChainBoth.l0] at h⟩
 | k + 1 => by
  obtain ⟨ih0,ih1⟩:=spec_ChainBoth.mono_l k
  refine ⟨?_,?_⟩
  ·intro y0 y1 y2 y3
   unfold spec_ChainBoth.j0
   repeat' first
   | exact LeO.refl _
   | exact ih0 _ _ _ _
   | exact ih1 _ _ _
   | exact spec_ChainOk.mono _ _
   | exact LeO.none _
   | refine LeO.ite ?_ ?_
   | refine LeO.bind ?_ (fun _ => ?_)
  ·intro y0 y1 y2
   unfold spec_ChainBoth.l0
   repeat' first
   | exact LeO.refl _
   | exact ih0 _ _ _ _
   | exact ih1 _ _ _
   | exact spec_ChainOk.mono _ _
   | exact LeO.none _
   | refine LeO.ite ?_ ?_
   | refine LeO.bind ?_ (fun _ => ?_)
theorem spec_ChainBoth.mono : ∀ a0 a1 k,LeO (spec_ChainBoth.f k a0 a1) (spec_ChainBoth.f (k + 1) a0 a1):=by
 intro a0 a1 k
 obtain ⟨ih0,ih1⟩:=spec_ChainBoth.mono_l k
 unfold spec_ChainBoth.f
 repeat' first
   | exact LeO.refl _
   | exact ih0 _ _ _ _
   | exact ih1 _ _ _
   | exact spec_ChainOk.mono _ _
   | exact LeO.none _
   | refine LeO.ite ?_ ?_
   | refine LeO.bind ?_ (fun _ => ?_)
set_option maxHeartbeats 8000000 in
set_option maxRecDepth 100000 in
theorem spec_ChainBoth.calls (k : Nat) (A0 : Option Addr) (c0 : Nat) (l0 : List (S56)) (A1 : Option Addr) (c1 : Nat) (l1 : List (S56)) (r : List (S56)) (w : World) (hr0 : Kd.C k56 w A0 l0.length l0) (hc0 : l0.length ≤ c0) (hr1 : Kd.C k56 w A1 l1.length l1) (hc1 : l1.length ≤ c1) (h : spec_ChainBoth.f k l0 l1 = some r) :
  Calls Try.prog 19 #[.slice A0 l0.length c0,.slice A1 l1.length c1] w fun e w' => ∃ v0_ : Value,e = .returned (v0_) ∧ Kd.R k56 56 w' w.heap.size (fun _ => True) v0_ r ∧ Below w.heap.size w w':=by
 have hu56:=Try.underlying56
 have HR0:=aM hr0
 have HC0:=aM hc0
 clear hr0 hc0
 have HR1:=aM hr1
 have HC1:=aM hc1
 clear hr1 hc1
 have HB:=aM (Below.refl w.heap.size w)
 have H : ((spec_ChainOk.f k l0).bind fun t250 => (if t250 = true then ((spec_ChainOk.f k l1).bind fun t251 => (spec_ChainBoth.j0 k l0 l1 0 (!t251))) else (spec_ChainBoth.j0 k l0 l1 0 true))) = some r:=h
 clear h
 have HC3:=aM H
 clear H
 go_enter Try.func19,Try.ntmps19
 go_upto_region 2 with (fail)
 repeat (go_quiet (fail);go_upto_region 2 with (fail))
 go_cut [13] (fun v13 wc => ∃ (kq : Nat) (x13_2 : Bool),v13 = .bool x13_2 ∧ Aside0 (spec_ChainBoth.j0 kq l0 l1 0 x13_2 = some r) ∧ Aside0 (kq ≤ k) ∧ Aside0 (Below w.heap.size w wc))
 case first =>
  have H:=HC3.out
  clear HC3
  replace H:=Option.bind_eq_some_iff.mp H
  obtain ⟨t250,A40,H⟩:=H
  replace H : (if t250 = true then ((spec_ChainOk.f k l1).bind fun t251 => (spec_ChainBoth.j0 k l0 l1 0 (!t251))) else (spec_ChainBoth.j0 k l0 l1 0 true)) = some r:=H
  have A4:=aM A40
  clear A40
  by_cases c5 : t250 = true
  ·subst c5
   have H1 : ((spec_ChainOk.f k l1).bind fun t251 => (spec_ChainBoth.j0 k l0 l1 0 (!t251))) = some r:=by rw [if_pos rfl] at H;exact H
   clear H
   have H:=H1
   clear H1
   replace H:=Option.bind_eq_some_iff.mp H
   obtain ⟨t251,A60,H⟩:=H
   replace H : (spec_ChainBoth.j0 k l0 l1 0 (!t251)) = some r:=H
   have A6:=aM A60
   clear A60
   have H':=aM H
   clear H
   go_wp2_with (first|(go_at_call 16;(with_reducible refine (spec_ChainOk.calls k _ _ l0 true _ ?side1 ?side2 A4.out).mono ?_);(case side1 => repeat (first|exact (Kd.C_below HR0.out HB.out)|(with_reducible refine Kd.C_alloc ?_ _)|(with_reducible refine Kd.C_drewN ?_ _)|(with_reducible refine Kd.C_drew ?_)));(case side2 => exact HC0.out);rintro e w7 ⟨rfl,hb⟩;have n0_:=aM (below_step (by repeat (first|(with_reducible first|exact HB.out|apply bA|apply bN|apply bD)|exact HB.out)) hb);clear HB;have HB:=n0_;clear n0_;(try clear hb);(try clear hb2);(try clear hk);(try clear hi))|(go_at_call 16;(with_reducible refine (spec_ChainOk.calls k _ _ l1 t251 _ ?side1 ?side2 A6.out).mono ?_);(case side1 => repeat (first|exact (Kd.C_below HR1.out HB.out)|(with_reducible refine Kd.C_alloc ?_ _)|(with_reducible refine Kd.C_drewN ?_ _)|(with_reducible refine Kd.C_drew ?_)));(case side2 => exact HC1.out);rintro e w8 ⟨rfl,hb⟩;have n0_:=aM (below_step (by repeat (first|(with_reducible first|exact HB.out|apply bA|apply bN|apply bD)|exact HB.out)) hb);clear HB;have HB:=n0_;clear n0_;(try clear hb);(try clear hb2);(try clear hk);(try clear hi)))
   repeat (go_quiet (first|(go_at_call 16;(with_reducible refine (spec_ChainOk.calls k _ _ l0 true _ ?side1 ?side2 A4.out).mono ?_);(case side1 => repeat (first|exact (Kd.C_below HR0.out HB.out)|(with_reducible refine Kd.C_alloc ?_ _)|(with_reducible refine Kd.C_drewN ?_ _)|(with_reducible refine Kd.C_drew ?_)));(case side2 => exact HC0.out);rintro e w7 ⟨rfl,hb⟩;have n0_:=aM (below_step (by repeat (first|(with_reducible first|exact HB.out|apply bA|apply bN|apply bD)|exact HB.out)) hb);clear HB;have HB:=n0_;clear n0_;(try clear hb);(try clear hb2);(try clear hk);(try clear hi))|(go_at_call 16;(with_reducible refine (spec_ChainOk.calls k _ _ l1 t251 _ ?side1 ?side2 A6.out).mono ?_);(case side1 => repeat (first|exact (Kd.C_below HR1.out HB.out)|(with_reducible refine Kd.C_alloc ?_ _)|(with_reducible refine Kd.C_drewN ?_ _)|(with_reducible refine Kd.C_drew ?_)));(case side2 => exact HC1.out);rintro e w8 ⟨rfl,hb⟩;have n0_:=aM (below_step (by repeat (first|(with_reducible first|exact HB.out|apply bA|apply bN|apply bD)|exact HB.out)) hb);clear HB;have HB:=n0_;clear n0_;(try clear hb);(try clear hb2);(try clear hk);(try clear hi)));try go_wp2_with (first|(go_at_call 16;(with_reducible refine (spec_ChainOk.calls k _ _ l0 true _ ?side1 ?side2 A4.out).mono ?_);(case side1 => repeat (first|exact (Kd.C_below HR0.out HB.out)|(with_reducible refine Kd.C_alloc ?_ _)|(with_reducible refine Kd.C_drewN ?_ _)|(with_reducible refine Kd.C_drew ?_)));(case side2 => exact HC0.out);rintro e w7 ⟨rfl,hb⟩;have n0_:=aM (below_step (by repeat (first|(with_reducible first|exact HB.out|apply bA|apply bN|apply bD)|exact HB.out)) hb);clear HB;have HB:=n0_;clear n0_;(try clear hb);(try clear hb2);(try clear hk);(try clear hi))|(go_at_call 16;(with_reducible refine (spec_ChainOk.calls k _ _ l1 t251 _ ?side1 ?side2 A6.out).mono ?_);(case side1 => repeat (first|exact (Kd.C_below HR1.out HB.out)|(with_reducible refine Kd.C_alloc ?_ _)|(with_reducible refine Kd.C_drewN ?_ _)|(with_reducible refine Kd.C_drew ?_)));(case side2 => exact HC1.out);rintro e w8 ⟨rfl,hb⟩;have n0_:=aM (below_step (by repeat (first|(with_reducible first|exact HB.out|apply bA|apply bN|apply bD)|exact HB.out)) hb);clear HB;have HB:=n0_;clear n0_;(try clear hb);(try clear hb2);(try clear hk);(try clear hi))))
   go_meet
   case rel => exact ⟨_,(!t251),(by first|rfl|(simp;done)|(simp [*];done)),H',⟨by first|omega|exact Nat.le_refl _⟩,⟨by repeat (first|(with_reducible first|exact HB.out|apply bA|apply bN|apply bD)|exact HB.out)⟩⟩
  ·replace c5:=Bool.eq_false_iff.mpr c5
   subst c5
   have H1 : (spec_ChainBoth.j0 k l0 l1 0 true) = some r:=by rw [if_neg (show ¬ (false = true) by decide)] at H;exact H
   clear H
   have H:=H1
   clear H1
   have H':=aM H
   clear H
   go_wp2_with (first|(go_at_call 16;(with_reducible refine (spec_ChainOk.calls k _ _ l0 false _ ?side1 ?side2 A4.out).mono ?_);(case side1 => repeat (first|exact (Kd.C_below HR0.out HB.out)|(with_reducible refine Kd.C_alloc ?_ _)|(with_reducible refine Kd.C_drewN ?_ _)|(with_reducible refine Kd.C_drew ?_)));(case side2 => exact HC0.out);rintro e w9 ⟨rfl,hb⟩;have n0_:=aM (below_step (by repeat (first|(with_reducible first|exact HB.out|apply bA|apply bN|apply bD)|exact HB.out)) hb);clear HB;have HB:=n0_;clear n0_;(try clear hb);(try clear hb2);(try clear hk);(try clear hi)))
   repeat (go_quiet (first|(go_at_call 16;(with_reducible refine (spec_ChainOk.calls k _ _ l0 false _ ?side1 ?side2 A4.out).mono ?_);(case side1 => repeat (first|exact (Kd.C_below HR0.out HB.out)|(with_reducible refine Kd.C_alloc ?_ _)|(with_reducible refine Kd.C_drewN ?_ _)|(with_reducible refine Kd.C_drew ?_)));(case side2 => exact HC0.out);rintro e w9 ⟨rfl,hb⟩;have n0_:=aM (below_step (by repeat (first|(with_reducible first|exact HB.out|apply bA|apply bN|apply bD)|exact HB.out)) hb);clear HB;have HB:=n0_;clear n0_;(try clear hb);(try clear hb2);(try clear hk);(try clear hi)));try go_wp2_with (first|(go_at_call 16;(with_reducible refine (spec_ChainOk.calls k _ _ l0 false _ ?side1 ?side2 A4.out).mono ?_);(case side1 => repeat (first|exact (Kd.C_below HR0.out HB.out)|(with_reducible refine Kd.C_alloc ?_ _)|(with_reducible refine Kd.C_drewN ?_ _)|(with_reducible refine Kd.C_drew ?_)));(case side2 => exact HC0.out);rintro e w9 ⟨rfl,hb⟩;have n0_:=aM (below_step (by repeat (first|(with_reducible first|exact HB.out|apply bA|apply bN|apply bD)|exact HB.out)) hb);clear HB;have HB:=n0_;clear n0_;(try clear hb);(try clear hb2);(try clear hk);(try clear hi))))
   go_meet
   case rel => exact ⟨_,(true),(by first|rfl|(simp;done)|(simp [*];done)),H',⟨by first|omega|exact Nat.le_refl _⟩,⟨by repeat (first|(with_reducible first|exact HB.out|apply bA|apply bN|apply bD)|exact HB.out)⟩⟩
 case rest =>
  clear HC3
  try clear c1
  try clear p2
  try clear c5
  obtain ⟨kq,x13_2,rfl,HA,HJ2,HB⟩:=hcut
  cases kq with
  | zero => exact absurd HA.out (by simp [spec_ChainBoth.j0])
  | succ kj2 =>
   have H:=HA.out
   clear HA
   simp only [spec_ChainBoth.j0] at H
   by_cases c10 : x13_2 = true
   ·subst c10
    have H1 : (some (([] : List (S56)))) = some r:=by rw [if_pos rfl] at H;exact H
    clear H
    have H:=H1
    clear H1
    obtain ⟨y252,hy252⟩ : ∃ y_ : List (S56),y_ = (([] : List (S56))):=⟨_,rfl⟩
    replace H : (some y252) = some r:=by first|(rw [hy252];with_reducible exact H)|(have H2_:=(Option.bind_some _ _).symm.trans H;rw [hy252];with_reducible exact H2_)|(have H2_:=(Option.bind_some _ _).symm.trans H;with_reducible exact H2_)|with_reducible exact H|(rw [hy252];exact H)|exact H
    have Ny252:=aM hy252
    clear hy252
    obtain rfl:=Option.some.inj H
    go_wp2_with (first|((with_reducible refine gate_dst (N:=14) rfl ?_);(try (refine gate_guard (by rfl) ?_;dsimp only));refine Kd.R_lit k56 _ 56 ?hg (N:=14) ?hd (xs:=([] : List (S56))) (inner:=[]) (ok:=fun _ => True) (okp:=fun _ => True) ?hr ?hp (fun _ hk => hk) trivial (Below.refl _ _) (Nat.le_refl _) (by simp) ?_;(case hd => rfl);(case hg => rfl);(case hr => first|(go_simp;done)|(go_simp;rfl));(case hp => exact (Reps.none _ _));intro v253 w11 ho12 hb hg_ hnew_;clear hg_ hnew_;(first|rw [← Ny252.out] at ho12|(simp only [Int.reduceToNat] at ho12;rw [← Ny252.out] at ho12));have n0_:=aM (Kd.R_lower ho12 (below_size (by repeat (first|(with_reducible first|exact HB.out|apply bA|apply bN|apply bD)|exact HB.out))));have n1_:=aM (below_step (by repeat (first|(with_reducible first|exact HB.out|apply bA|apply bN|apply bD)|exact HB.out)) hb);clear HB;have HO254:=n0_;have HB:=n1_;clear n0_ n1_;clear hb ho12))
    repeat (go_quiet (first|((with_reducible refine gate_dst (N:=14) rfl ?_);(try (refine gate_guard (by rfl) ?_;dsimp only));refine Kd.R_lit k56 _ 56 ?hg (N:=14) ?hd (xs:=([] : List (S56))) (inner:=[]) (ok:=fun _ => True) (okp:=fun _ => True) ?hr ?hp (fun _ hk => hk) trivial (Below.refl _ _) (Nat.le_refl _) (by simp) ?_;(case hd => rfl);(case hg => rfl);(case hr => first|(go_simp;done)|(go_simp;rfl));(case hp => exact (Reps.none _ _));intro v253 w11 ho12 hb hg_ hnew_;clear hg_ hnew_;(first|rw [← Ny252.out] at ho12|(simp only [Int.reduceToNat] at ho12;rw [← Ny252.out] at ho12));have n0_:=aM (Kd.R_lower ho12 (below_size (by repeat (first|(with_reducible first|exact HB.out|apply bA|apply bN|apply bD)|exact HB.out))));have n1_:=aM (below_step (by repeat (first|(with_reducible first|exact HB.out|apply bA|apply bN|apply bD)|exact HB.out)) hb);clear HB;have HO254:=n0_;have HB:=n1_;clear n0_ n1_;clear hb ho12));try go_wp2_with (first|((with_reducible refine gate_dst (N:=14) rfl ?_);(try (refine gate_guard (by rfl) ?_;dsimp only));refine Kd.R_lit k56 _ 56 ?hg (N:=14) ?hd (xs:=([] : List (S56))) (inner:=[]) (ok:=fun _ => True) (okp:=fun _ => True) ?hr ?hp (fun _ hk => hk) trivial (Below.refl _ _) (Nat.le_refl _) (by simp) ?_;(case hd => rfl);(case hg => rfl);(case hr => first|(go_simp;done)|(go_simp;rfl));(case hp => exact (Reps.none _ _));intro v253 w11 ho12 hb hg_ hnew_;clear hg_ hnew_;(first|rw [← Ny252.out] at ho12|(simp only [Int.reduceToNat] at ho12;rw [← Ny252.out] at ho12));have n0_:=aM (Kd.R_lower ho12 (below_size (by repeat (first|(with_reducible first|exact HB.out|apply bA|apply bN|apply bD)|exact HB.out))));have n1_:=aM (below_step (by repeat (first|(with_reducible first|exact HB.out|apply bA|apply bN|apply bD)|exact HB.out)) hb);clear HB;have HO254:=n0_;have HB:=n1_;clear n0_ n1_;clear hb ho12)))
    go_ret
    exact ⟨_,by first|rfl|(simp only [i64_w,i32_w];done)|(simp only [i64_w,i32_w];rfl)|(simp [errW_none,errW_some] <;> rfl)|(simp [*,errW_none,errW_some] <;> rfl),by (with_reducible repeat (first|apply Kd.R_alloc|apply Kd.R_drewN|apply Kd.R_drew));exact HO254.out,by repeat (first|(with_reducible first|exact HB.out|apply bA|apply bN|apply bD)|exact HB.out)⟩
   ·replace c10:=Bool.eq_false_iff.mpr c10
    subst c10
    have H1 : (spec_ChainBoth.l0 kj2 l0 l1 0) = some r:=by rw [if_neg (show ¬ (false = true) by decide)] at H;exact H
    clear H
    have H:=H1
    clear H1
    have H':=aM H
    clear H
    go_wp2
    repeat (go_quiet (fail);try go_wp2)
    go_loopg [5] kj2 (fun kq v5 w' => ∃ (x5_2 : Int),v5 = .int .i64 x5_2 ∧ Aside0 (spec_ChainBoth.l0 kq l0 l1 x5_2 = some r) ∧ Aside0 (kq ≤ kj2) ∧ Aside0 (Below w.heap.size w w'))
    case atStart => exact ⟨(0),(by first|rfl|(simp;done)|(simp [*];done)),H',⟨Nat.le_refl _⟩,⟨by repeat (first|(with_reducible first|exact HB.out|apply bA|apply bN|apply bD)|exact HB.out)⟩⟩
    case round =>
     clear H'
     try clear c1
     try clear p2
     try clear c5
     try clear c10
     try clear p2
     obtain ⟨x5_2,rfl,HA,HK2,HB⟩:=hrel
     cases gk with
     | zero => exact absurd HA.out (by simp [spec_ChainBoth.l0])
     | succ k2 =>
      have H:=HA.out
      clear HA
      simp only [spec_ChainBoth.l0] at H
      by_cases c13 : x5_2 < (l0.length : Int)
      ·rw [if_pos c13] at H
       have c13b0 : decide (x5_2 < (l0.length : Int)) = true:=decide_eq_true c13
       clear c13
       by_cases c14 : x5_2 < (l1.length : Int)
       ·rw [if_pos c14] at H
        have c14b0 : decide (x5_2 < (l1.length : Int)) = true:=decide_eq_true c14
        clear c14
        by_cases c15 : 0 ≤ x5_2
        case neg => rw [if_neg c15] at H;exact absurd H (by simp)
        rw [if_pos c15] at H
        have c15b0 : decide (0 ≤ x5_2) = true:=decide_eq_true c15
        clear c15
        by_cases c16 : (((rd_T56 l0 x5_2).f0) == ((rd_T56 l1 x5_2).f0) && ((((rd_T56 l0 x5_2).f1.f0) == ((rd_T56 l1 x5_2).f1.f0) && (((rd_T56 l0 x5_2).f1.f1) == ((rd_T56 l1 x5_2).f1.f1) && (((rd_T56 l0 x5_2).f1.f2) == ((rd_T56 l1 x5_2).f1.f2)))))) = true
        ·rw [if_pos c16] at H
         have c16b0 : (((rd_T56 l0 x5_2).f0) == ((rd_T56 l1 x5_2).f0) && ((((rd_T56 l0 x5_2).f1.f0) == ((rd_T56 l1 x5_2).f1.f0) && (((rd_T56 l0 x5_2).f1.f1) == ((rd_T56 l1 x5_2).f1.f1) && (((rd_T56 l0 x5_2).f1.f2) == ((rd_T56 l1 x5_2).f1.f2)))))) = true:=c16
         (try (have c16b1 : decide (((rd_T56 l0 x5_2).f0) = ((rd_T56 l1 x5_2).f0) && ((((rd_T56 l0 x5_2).f1.f0) == ((rd_T56 l1 x5_2).f1.f0) && (((rd_T56 l0 x5_2).f1.f1) == ((rd_T56 l1 x5_2).f1.f1) && (((rd_T56 l0 x5_2).f1.f2) == ((rd_T56 l1 x5_2).f1.f2)))))) = true:=by simpa using c16))
         (try (have c16b2 : (((rd_T56 l0 x5_2).f0) == ((rd_T56 l1 x5_2).f0) && ((((rd_T56 l0 x5_2).f1.f0) == ((rd_T56 l1 x5_2).f1.f0) && (((rd_T56 l0 x5_2).f1.f1) == ((rd_T56 l1 x5_2).f1.f1) && (((rd_T56 l0 x5_2).f1.f2) == ((rd_T56 l1 x5_2).f1.f2)))))) = true:=by simpa using c16))
         clear c16
         have H':=aM H
         clear H
         have p255 : 0 ≤ (x5_2 : Int):=of_decide_eq_true (by first|(with_reducible assumption)|assumption)
         have q255 : x5_2 < (l0.length : Int):=of_decide_eq_true (by first|(with_reducible assumption)|assumption)
         obtain ⟨ad255,e255,hx255_0,hx255_1,hx255_2,hx255_3⟩:=at_T56 HR0.out x5_2 p255 q255
         cases e255
         replace hx255_0:=(HB.out.cell (bL w hx255_0)).trans hx255_0
         replace hx255_1:=(HB.out.cell (bL w hx255_1)).trans hx255_1
         replace hx255_2:=(HB.out.cell (bL w hx255_2)).trans hx255_2
         replace hx255_3:=(HB.out.cell (bL w hx255_3)).trans hx255_3
         replace p255:=eq_true p255
         replace q255:=eq_true q255
         have p256 : 0 ≤ (x5_2 : Int):=of_decide_eq_true (by first|(with_reducible assumption)|assumption)
         have q256 : x5_2 < (l1.length : Int):=of_decide_eq_true (by first|(with_reducible assumption)|assumption)
         obtain ⟨ad256,e256,hx256_0,hx256_1,hx256_2,hx256_3⟩:=at_T56 HR1.out x5_2 p256 q256
         cases e256
         replace hx256_0:=(HB.out.cell (bL w hx256_0)).trans hx256_0
         replace hx256_1:=(HB.out.cell (bL w hx256_1)).trans hx256_1
         replace hx256_2:=(HB.out.cell (bL w hx256_2)).trans hx256_2
         replace hx256_3:=(HB.out.cell (bL w hx256_3)).trans hx256_3
         replace p256:=eq_true p256
         replace q256:=eq_true q256
         go_wp2
         repeat (go_quiet (fail);try go_wp2)
         go_roundg k2
         case measure => have:=HJ2.out;have:=HK2.out;omega
         case rel => exact ⟨(wrap64 (x5_2 + 1)),(by first|rfl|(simp;done)|(simp [*];done)),H',⟨by have:=HJ2.out;have:=HK2.out;omega⟩,⟨by repeat (first|(with_reducible first|exact HB.out|apply bA|apply bN|apply bD)|exact HB.out)⟩⟩
        ·rw [if_neg c16] at H
         have c16b0 : (((rd_T56 l0 x5_2).f0) == ((rd_T56 l1 x5_2).f0) && ((((rd_T56 l0 x5_2).f1.f0) == ((rd_T56 l1 x5_2).f1.f0) && (((rd_T56 l0 x5_2).f1.f1) == ((rd_T56 l1 x5_2).f1.f1) && (((rd_T56 l0 x5_2).f1.f2) == ((rd_T56 l1 x5_2).f1.f2)))))) = false:=by simpa using c16
         (try (have c16b1 : decide (((rd_T56 l0 x5_2).f0) = ((rd_T56 l1 x5_2).f0) && ((((rd_T56 l0 x5_2).f1.f0) == ((rd_T56 l1 x5_2).f1.f0) && (((rd_T56 l0 x5_2).f1.f1) == ((rd_T56 l1 x5_2).f1.f1) && (((rd_T56 l0 x5_2).f1.f2) == ((rd_T56 l1 x5_2).f1.f2)))))) = false:=by simpa using c16))
         (try (have c16b2 : (((rd_T56 l0 x5_2).f0) == ((rd_T56 l1 x5_2).f0) && ((((rd_T56 l0 x5_2).f1.f0) == ((rd_T56 l1 x5_2).f1.f0) && (((rd_T56 l0 x5_2).f1.f1) == ((rd_T56 l1 x5_2).f1.f1) && (((rd_T56 l0 x5_2).f1.f2) == ((rd_T56 l1 x5_2).f1.f2)))))) = false:=by simpa using c16))
         (try (have c16b3 : ¬ (((rd_T56 l0 x5_2).f0) = ((rd_T56 l1 x5_2).f0) && ((((rd_T56 l0 x5_2).f1.f0) == ((rd_T56 l1 x5_2).f1.f0) && (((rd_T56 l0 x5_2).f1.f1) == ((rd_T56 l1 x5_2).f1.f1) && (((rd_T56 l0 x5_2).f1.f2) == ((rd_T56 l1 x5_2).f1.f2)))))):=by simpa using c16))
         clear c16
         have c17b0:=eq_true (of_decide_eq_true (by first|(with_reducible assumption)|assumption) : 0 ≤ x5_2)
         by_cases c18 : x5_2 ≤ (l0.length : Int)
         case neg => rw [if_neg c18] at H;exact absurd H (by simp)
         rw [if_pos c18] at H
         have c18b0:=eq_true c18
         have c18b1 : decide (x5_2 ≤ (l0.length : Int)) = true:=decide_eq_true c18
         clear c18
         obtain ⟨y257,hy257⟩ : ∃ y_ : List (S56),y_ = (l0.take (x5_2 : Int).toNat):=⟨_,rfl⟩
         replace H : ((spec_l1Copy.f y257).bind fun t261 => (some t261)) = some r:=by first|(rw [hy257];with_reducible exact H)|(have H2_:=(Option.bind_some _ _).symm.trans H;rw [hy257];with_reducible exact H2_)|(have H2_:=(Option.bind_some _ _).symm.trans H;with_reducible exact H2_)|with_reducible exact H|(rw [hy257];exact H)|exact H
         have Ny257:=aM hy257
         clear hy257
         replace H:=Option.bind_eq_some_iff.mp H
         obtain ⟨t261,A190,H⟩:=H
         replace H : (some t261) = some r:=H
         have A19:=aM A190
         clear A190
         obtain rfl:=Option.some.inj H
         have p255 : 0 ≤ (x5_2 : Int):=of_decide_eq_true (by first|(with_reducible assumption)|assumption)
         have q255 : x5_2 < (l0.length : Int):=of_decide_eq_true (by first|(with_reducible assumption)|assumption)
         obtain ⟨ad255,e255,hx255_0,hx255_1,hx255_2,hx255_3⟩:=at_T56 HR0.out x5_2 p255 q255
         cases e255
         replace hx255_0:=(HB.out.cell (bL w hx255_0)).trans hx255_0
         replace hx255_1:=(HB.out.cell (bL w hx255_1)).trans hx255_1
         replace hx255_2:=(HB.out.cell (bL w hx255_2)).trans hx255_2
         replace hx255_3:=(HB.out.cell (bL w hx255_3)).trans hx255_3
         replace p255:=eq_true p255
         replace q255:=eq_true q255
         have p256 : 0 ≤ (x5_2 : Int):=of_decide_eq_true (by first|(with_reducible assumption)|assumption)
         have q256 : x5_2 < (l1.length : Int):=of_decide_eq_true (by first|(with_reducible assumption)|assumption)
         obtain ⟨ad256,e256,hx256_0,hx256_1,hx256_2,hx256_3⟩:=at_T56 HR1.out x5_2 p256 q256
         cases e256
         replace hx256_0:=(HB.out.cell (bL w hx256_0)).trans hx256_0
         replace hx256_1:=(HB.out.cell (bL w hx256_1)).trans hx256_1
         replace hx256_2:=(HB.out.cell (bL w hx256_2)).trans hx256_2
         replace hx256_3:=(HB.out.cell (bL w hx256_3)).trans hx256_3
         replace p256:=eq_true p256
         replace q256:=eq_true q256
         have q20 : (x5_2 : Int) ≤ ((l0.length : Int) : Int):=of_decide_eq_true (by first|(with_reducible assumption)|assumption)
         obtain ⟨i020,hi020,_,hsz20,_⟩:=info_parts info56
         have hroom20 : l0.length ≤ c0:=HC0.out
         have hC20 : Kd.C k56 _ (some ad255) l0.length l0:=HR0.out
         have hcut20:=cut_to (P:=Try.prog) 28 56 .i64 Try.underlying28 hi020 (some ad255) l0.length c0 x5_2 (of_decide_eq_true (by first|(with_reducible assumption)|assumption)) q20 hroom20
         have hr20:=Kd.C_take (m:=(x5_2 : Int).toNat) hC20 (by omega)
         have hy20 : y257.length = (x5_2 : Int).toNat:=(by rw [Ny257.out,List.length_take];omega)
         rw [← Ny257.out] at hr20
         rw [← hy20] at hcut20
         have HR260:=aM hr20
         have HC260:=aM (show y257.length ≤ c0 from by omega)
         clear hr20 hC20 hroom20 hi020 hsz20
         have KY20:=aM hy20
         clear hy20
         replace q20:=eq_true q20
         go_wp2_with (first|(go_at_call 41;(with_reducible refine (spec_l1Copy.calls _ _ y257 t261 _ ?side1 ?side2 A19.out).mono ?_);(case side1 => repeat (first|exact (Kd.C_below HR260.out HB.out)|(with_reducible refine Kd.C_alloc ?_ _)|(with_reducible refine Kd.C_drewN ?_ _)|(with_reducible refine Kd.C_drew ?_)));(case side2 => exact HC260.out);rintro e w21 ⟨v262,rfl,ho0,hb⟩;have n0_:=aM (Kd.R_lower ho0 (below_size (by repeat (first|(with_reducible first|exact HB.out|apply bA|apply bN|apply bD)|exact HB.out))));have n1_:=aM (below_step (by repeat (first|(with_reducible first|exact HB.out|apply bA|apply bN|apply bD)|exact HB.out)) hb);clear HB;have HO263:=n0_;have HB:=n1_;clear n0_ n1_;(try clear hb);(try clear hb2);(try clear hk);(try clear hi);(try clear ho0)))
         repeat (go_quiet (first|(go_at_call 41;(with_reducible refine (spec_l1Copy.calls _ _ y257 t261 _ ?side1 ?side2 A19.out).mono ?_);(case side1 => repeat (first|exact (Kd.C_below HR260.out HB.out)|(with_reducible refine Kd.C_alloc ?_ _)|(with_reducible refine Kd.C_drewN ?_ _)|(with_reducible refine Kd.C_drew ?_)));(case side2 => exact HC260.out);rintro e w21 ⟨v262,rfl,ho0,hb⟩;have n0_:=aM (Kd.R_lower ho0 (below_size (by repeat (first|(with_reducible first|exact HB.out|apply bA|apply bN|apply bD)|exact HB.out))));have n1_:=aM (below_step (by repeat (first|(with_reducible first|exact HB.out|apply bA|apply bN|apply bD)|exact HB.out)) hb);clear HB;have HO263:=n0_;have HB:=n1_;clear n0_ n1_;(try clear hb);(try clear hb2);(try clear hk);(try clear hi);(try clear ho0)));try go_wp2_with (first|(go_at_call 41;(with_reducible refine (spec_l1Copy.calls _ _ y257 t261 _ ?side1 ?side2 A19.out).mono ?_);(case side1 => repeat (first|exact (Kd.C_below HR260.out HB.out)|(with_reducible refine Kd.C_alloc ?_ _)|(with_reducible refine Kd.C_drewN ?_ _)|(with_reducible refine Kd.C_drew ?_)));(case side2 => exact HC260.out);rintro e w21 ⟨v262,rfl,ho0,hb⟩;have n0_:=aM (Kd.R_lower ho0 (below_size (by repeat (first|(with_reducible first|exact HB.out|apply bA|apply bN|apply bD)|exact HB.out))));have n1_:=aM (below_step (by repeat (first|(with_reducible first|exact HB.out|apply bA|apply bN|apply bD)|exact HB.out)) hb);clear HB;have HO263:=n0_;have HB:=n1_;clear n0_ n1_;(try clear hb);(try clear hb2);(try clear hk);(try clear hi);(try clear ho0))))
         go_ret
         exact ⟨_,by first|rfl|(simp only [i64_w,i32_w];done)|(simp only [i64_w,i32_w];rfl)|(simp [errW_none,errW_some] <;> rfl)|(simp [*,errW_none,errW_some] <;> rfl),by (with_reducible repeat (first|apply Kd.R_alloc|apply Kd.R_drewN|apply Kd.R_drew));exact HO263.out,by repeat (first|(with_reducible first|exact HB.out|apply bA|apply bN|apply bD)|exact HB.out)⟩
       ·rw [if_neg c14] at H
        have c14b0 : decide (x5_2 < (l1.length : Int)) = false:=decide_eq_false c14
        clear c14
        by_cases c22 : 0 ≤ x5_2
        case neg => rw [if_neg c22] at H;exact absurd H (by simp)
        rw [if_pos c22] at H
        have c22b0:=eq_true c22
        have c22b1 : decide (0 ≤ x5_2) = true:=decide_eq_true c22
        clear c22
        by_cases c23 : x5_2 ≤ (l0.length : Int)
        case neg => rw [if_neg c23] at H;exact absurd H (by simp)
        rw [if_pos c23] at H
        have c23b0:=eq_true c23
        have c23b1 : decide (x5_2 ≤ (l0.length : Int)) = true:=decide_eq_true c23
        clear c23
        obtain ⟨y264,hy264⟩ : ∃ y_ : List (S56),y_ = (l0.take (x5_2 : Int).toNat):=⟨_,rfl⟩
        replace H : ((spec_l1Copy.f y264).bind fun t268 => (some t268)) = some r:=by first|(rw [hy264];with_reducible exact H)|(have H2_:=(Option.bind_some _ _).symm.trans H;rw [hy264];with_reducible exact H2_)|(have H2_:=(Option.bind_some _ _).symm.trans H;with_reducible exact H2_)|with_reducible exact H|(rw [hy264];exact H)|exact H
        have Ny264:=aM hy264
        clear hy264
        replace H:=Option.bind_eq_some_iff.mp H
        obtain ⟨t268,A240,H⟩:=H
        replace H : (some t268) = some r:=H
        have A24:=aM A240
        clear A240
        obtain rfl:=Option.some.inj H
        have q25 : (x5_2 : Int) ≤ ((l0.length : Int) : Int):=of_decide_eq_true (by first|(with_reducible assumption)|assumption)
        obtain ⟨i025,hi025,_,hsz25,_⟩:=info_parts info56
        have hroom25 : l0.length ≤ c0:=HC0.out
        have hC25 : Kd.C k56 _ A0 l0.length l0:=HR0.out
        have hcut25:=cut_to (P:=Try.prog) 28 56 .i64 Try.underlying28 hi025 A0 l0.length c0 x5_2 (of_decide_eq_true (by first|(with_reducible assumption)|assumption)) q25 hroom25
        have hr25:=Kd.C_take (m:=(x5_2 : Int).toNat) hC25 (by omega)
        have hy25 : y264.length = (x5_2 : Int).toNat:=(by rw [Ny264.out,List.length_take];omega)
        rw [← Ny264.out] at hr25
        rw [← hy25] at hcut25
        have HR267:=aM hr25
        have HC267:=aM (show y264.length ≤ c0 from by omega)
        clear hr25 hC25 hroom25 hi025 hsz25
        have KY25:=aM hy25
        clear hy25
        replace q25:=eq_true q25
        go_wp2_with (first|(go_at_call 41;(with_reducible refine (spec_l1Copy.calls _ _ y264 t268 _ ?side1 ?side2 A24.out).mono ?_);(case side1 => repeat (first|exact (Kd.C_below HR267.out HB.out)|(with_reducible refine Kd.C_alloc ?_ _)|(with_reducible refine Kd.C_drewN ?_ _)|(with_reducible refine Kd.C_drew ?_)));(case side2 => exact HC267.out);rintro e w26 ⟨v269,rfl,ho0,hb⟩;have n0_:=aM (Kd.R_lower ho0 (below_size (by repeat (first|(with_reducible first|exact HB.out|apply bA|apply bN|apply bD)|exact HB.out))));have n1_:=aM (below_step (by repeat (first|(with_reducible first|exact HB.out|apply bA|apply bN|apply bD)|exact HB.out)) hb);clear HB;have HO270:=n0_;have HB:=n1_;clear n0_ n1_;(try clear hb);(try clear hb2);(try clear hk);(try clear hi);(try clear ho0)))
        repeat (go_quiet (first|(go_at_call 41;(with_reducible refine (spec_l1Copy.calls _ _ y264 t268 _ ?side1 ?side2 A24.out).mono ?_);(case side1 => repeat (first|exact (Kd.C_below HR267.out HB.out)|(with_reducible refine Kd.C_alloc ?_ _)|(with_reducible refine Kd.C_drewN ?_ _)|(with_reducible refine Kd.C_drew ?_)));(case side2 => exact HC267.out);rintro e w26 ⟨v269,rfl,ho0,hb⟩;have n0_:=aM (Kd.R_lower ho0 (below_size (by repeat (first|(with_reducible first|exact HB.out|apply bA|apply bN|apply bD)|exact HB.out))));have n1_:=aM (below_step (by repeat (first|(with_reducible first|exact HB.out|apply bA|apply bN|apply bD)|exact HB.out)) hb);clear HB;have HO270:=n0_;have HB:=n1_;clear n0_ n1_;(try clear hb);(try clear hb2);(try clear hk);(try clear hi);(try clear ho0)));try go_wp2_with (first|(go_at_call 41;(with_reducible refine (spec_l1Copy.calls _ _ y264 t268 _ ?side1 ?side2 A24.out).mono ?_);(case side1 => repeat (first|exact (Kd.C_below HR267.out HB.out)|(with_reducible refine Kd.C_alloc ?_ _)|(with_reducible refine Kd.C_drewN ?_ _)|(with_reducible refine Kd.C_drew ?_)));(case side2 => exact HC267.out);rintro e w26 ⟨v269,rfl,ho0,hb⟩;have n0_:=aM (Kd.R_lower ho0 (below_size (by repeat (first|(with_reducible first|exact HB.out|apply bA|apply bN|apply bD)|exact HB.out))));have n1_:=aM (below_step (by repeat (first|(with_reducible first|exact HB.out|apply bA|apply bN|apply bD)|exact HB.out)) hb);clear HB;have HO270:=n0_;have HB:=n1_;clear n0_ n1_;(try clear hb);(try clear hb2);(try clear hk);(try clear hi);(try clear ho0))))
        go_ret
        exact ⟨_,by first|rfl|(simp only [i64_w,i32_w];done)|(simp only [i64_w,i32_w];rfl)|(simp [errW_none,errW_some] <;> rfl)|(simp [*,errW_none,errW_some] <;> rfl),by (with_reducible repeat (first|apply Kd.R_alloc|apply Kd.R_drewN|apply Kd.R_drew));exact HO270.out,by repeat (first|(with_reducible first|exact HB.out|apply bA|apply bN|apply bD)|exact HB.out)⟩
      ·rw [if_neg c13] at H
       have c13b0 : decide (x5_2 < (l0.length : Int)) = false:=decide_eq_false c13
       clear c13
       by_cases c27 : 0 ≤ x5_2
       case neg => rw [if_neg c27] at H;exact absurd H (by simp)
       rw [if_pos c27] at H
       have c27b0:=eq_true c27
       have c27b1 : decide (0 ≤ x5_2) = true:=decide_eq_true c27
       clear c27
       by_cases c28 : x5_2 ≤ (l0.length : Int)
       case neg => rw [if_neg c28] at H;exact absurd H (by simp)
       rw [if_pos c28] at H
       have c28b0:=eq_true c28
       have c28b1 : decide (x5_2 ≤ (l0.length : Int)) = true:=decide_eq_true c28
       clear c28
       obtain ⟨y271,hy271⟩ : ∃ y_ : List (S56),y_ = (l0.take (x5_2 : Int).toNat):=⟨_,rfl⟩
       replace H : ((spec_l1Copy.f y271).bind fun t275 => (some t275)) = some r:=by first|(rw [hy271];with_reducible exact H)|(have H2_:=(Option.bind_some _ _).symm.trans H;rw [hy271];with_reducible exact H2_)|(have H2_:=(Option.bind_some _ _).symm.trans H;with_reducible exact H2_)|with_reducible exact H|(rw [hy271];exact H)|exact H
       have Ny271:=aM hy271
       clear hy271
       replace H:=Option.bind_eq_some_iff.mp H
       obtain ⟨t275,A290,H⟩:=H
       replace H : (some t275) = some r:=H
       have A29:=aM A290
       clear A290
       obtain rfl:=Option.some.inj H
       have q30 : (x5_2 : Int) ≤ ((l0.length : Int) : Int):=of_decide_eq_true (by first|(with_reducible assumption)|assumption)
       obtain ⟨i030,hi030,_,hsz30,_⟩:=info_parts info56
       have hroom30 : l0.length ≤ c0:=HC0.out
       have hC30 : Kd.C k56 _ A0 l0.length l0:=HR0.out
       have hcut30:=cut_to (P:=Try.prog) 28 56 .i64 Try.underlying28 hi030 A0 l0.length c0 x5_2 (of_decide_eq_true (by first|(with_reducible assumption)|assumption)) q30 hroom30
       have hr30:=Kd.C_take (m:=(x5_2 : Int).toNat) hC30 (by omega)
       have hy30 : y271.length = (x5_2 : Int).toNat:=(by rw [Ny271.out,List.length_take];omega)
       rw [← Ny271.out] at hr30
       rw [← hy30] at hcut30
       have HR274:=aM hr30
       have HC274:=aM (show y271.length ≤ c0 from by omega)
       clear hr30 hC30 hroom30 hi030 hsz30
       have KY30:=aM hy30
       clear hy30
       replace q30:=eq_true q30
       go_wp2_with (first|(go_at_call 41;(with_reducible refine (spec_l1Copy.calls _ _ y271 t275 _ ?side1 ?side2 A29.out).mono ?_);(case side1 => repeat (first|exact (Kd.C_below HR274.out HB.out)|(with_reducible refine Kd.C_alloc ?_ _)|(with_reducible refine Kd.C_drewN ?_ _)|(with_reducible refine Kd.C_drew ?_)));(case side2 => exact HC274.out);rintro e w31 ⟨v276,rfl,ho0,hb⟩;have n0_:=aM (Kd.R_lower ho0 (below_size (by repeat (first|(with_reducible first|exact HB.out|apply bA|apply bN|apply bD)|exact HB.out))));have n1_:=aM (below_step (by repeat (first|(with_reducible first|exact HB.out|apply bA|apply bN|apply bD)|exact HB.out)) hb);clear HB;have HO277:=n0_;have HB:=n1_;clear n0_ n1_;(try clear hb);(try clear hb2);(try clear hk);(try clear hi);(try clear ho0)))
       repeat (go_quiet (first|(go_at_call 41;(with_reducible refine (spec_l1Copy.calls _ _ y271 t275 _ ?side1 ?side2 A29.out).mono ?_);(case side1 => repeat (first|exact (Kd.C_below HR274.out HB.out)|(with_reducible refine Kd.C_alloc ?_ _)|(with_reducible refine Kd.C_drewN ?_ _)|(with_reducible refine Kd.C_drew ?_)));(case side2 => exact HC274.out);rintro e w31 ⟨v276,rfl,ho0,hb⟩;have n0_:=aM (Kd.R_lower ho0 (below_size (by repeat (first|(with_reducible first|exact HB.out|apply bA|apply bN|apply bD)|exact HB.out))));have n1_:=aM (below_step (by repeat (first|(with_reducible first|exact HB.out|apply bA|apply bN|apply bD)|exact HB.out)) hb);clear HB;have HO277:=n0_;have HB:=n1_;clear n0_ n1_;(try clear hb);(try clear hb2);(try clear hk);(try clear hi);(try clear ho0)));try go_wp2_with (first|(go_at_call 41;(with_reducible refine (spec_l1Copy.calls _ _ y271 t275 _ ?side1 ?side2 A29.out).mono ?_);(case side1 => repeat (first|exact (Kd.C_below HR274.out HB.out)|(with_reducible refine Kd.C_alloc ?_ _)|(with_reducible refine Kd.C_drewN ?_ _)|(with_reducible refine Kd.C_drew ?_)));(case side2 => exact HC274.out);rintro e w31 ⟨v276,rfl,ho0,hb⟩;have n0_:=aM (Kd.R_lower ho0 (below_size (by repeat (first|(with_reducible first|exact HB.out|apply bA|apply bN|apply bD)|exact HB.out))));have n1_:=aM (below_step (by repeat (first|(with_reducible first|exact HB.out|apply bA|apply bN|apply bD)|exact HB.out)) hb);clear HB;have HO277:=n0_;have HB:=n1_;clear n0_ n1_;(try clear hb);(try clear hb2);(try clear hk);(try clear hi);(try clear ho0))))
       go_ret
       exact ⟨_,by first|rfl|(simp only [i64_w,i32_w];done)|(simp only [i64_w,i32_w];rfl)|(simp [errW_none,errW_some] <;> rfl)|(simp [*,errW_none,errW_some] <;> rfl),by (with_reducible repeat (first|apply Kd.R_alloc|apply Kd.R_drewN|apply Kd.R_drew));exact HO277.out,by repeat (first|(with_reducible first|exact HB.out|apply bA|apply bN|apply bD)|exact HB.out)⟩

/-! ### laws_toPay: function 27 -/
def laws_toPay.f (a0_0 : Int) (a0_1 : Int) (a0_2 : Int) : Option (Int × Int × Int):=some (a0_0,a0_1,a0_2)
set_option maxHeartbeats 8000000 in
set_option maxRecDepth 100000 in
theorem laws_toPay.calls (a0_0 : Int) (a0_1 : Int) (a0_2 : Int) (r1 : Int) (r2 : Int) (r3 : Int) (w : World) (h : laws_toPay.f a0_0 a0_1 a0_2 = some (r1,r2,r3)) :
  Calls Try.prog 27 #[.agg #[.int .i64 a0_0,.int .i64 a0_1,.int .i64 a0_2]] w fun e w' => e = .returned (.agg #[.int .i64 r1,.int .i64 r2,.int .i64 r3]) ∧ Below w.heap.size w w':=by
 have hu41:=Try.underlying41
 have hu44:=Try.underlying44
 have HB:=aM (Below.refl w.heap.size w)
 have H : (some (a0_0,a0_1,a0_2)) = some (r1,r2,r3):=h
 clear h
 simp only [Option.some.injEq,Prod.mk.injEq] at H
 obtain ⟨rfl,rfl,rfl⟩:=H
 go_enter Try.func27,Try.ntmps27
 go_wp2_with (first|((with_reducible refine gate_dst (N:=1) rfl ?_);refine box_event ?hg (N:=1) ?hd (cs:=#[.int .i64 a0_0,.int .i64 a0_1,.int .i64 a0_2]) (t:=41) ?hr ?_;(case hd => rfl);(case hg => rfl);(case hr => first|(go_simp;done)|(go_simp;rfl));intro gb278 hg w2 hbox hb;have n0_:=aM (below_step (by repeat (first|(with_reducible first|exact HB.out|apply bA|apply bN|apply bD)|exact HB.out)) hb);have n1_:=aM (hbox);have n2_:=aM ((by rw [hg];exact (below_size (by repeat (first|(with_reducible first|exact HB.out|apply bA|apply bN|apply bD)|exact HB.out))) : w.heap.size ≤ gb278));have n3_:=aM ((by rw [hg];exact (below_size (by repeat (first|(with_reducible first|exact HB.out|apply bA|apply bN|apply bD)|exact HB.out))) : w.heap.size ≤ gb278));clear HB;have HB:=n0_;have BK278:=n1_;have GW278:=n2_;have GE278:=n3_;clear n0_ n1_ n2_ n3_;clear hb hbox hg)|((with_reducible refine gate_dst (N:=2) rfl ?_);refine box_event ?hg (N:=2) ?hd (cs:=#[.int .i64 0,.int .i64 0,.int .i64 0]) (t:=44) ?hr ?_;(case hd => rfl);(case hg => rfl);(case hr => first|(go_simp;done)|(go_simp;rfl));intro gb279 hg w3 hbox hb;have n0_:=aM (blk_below (g:=gb278) (o:=.cells #[.int .i64 a0_0,.int .i64 a0_1,.int .i64 a0_2] 41 (0,0)) (by (with_reducible repeat (first|refine blk_drewN ?_ _|refine blk_drew ?_|refine blk_alloc ?_ _));exact BK278.out) hb);have n1_:=aM (below_step (by repeat (first|(with_reducible first|exact HB.out|apply bA|apply bN|apply bD|refine below_set ?_ GE278.out)|exact HB.out)) hb);have n2_:=aM (hbox);have n3_:=aM ((by rw [hg];exact (below_size (by repeat (first|(with_reducible first|exact HB.out|apply bA|apply bN|apply bD|refine below_set ?_ GE278.out)|exact HB.out))) : w.heap.size ≤ gb279));have n4_:=aM ((by rw [hg];exact (below_size (by repeat (first|(with_reducible first|exact HB.out|apply bA|apply bN|apply bD|refine below_set ?_ GE278.out)|exact HB.out))) : w.heap.size ≤ gb279));have n5_:=aM ((by rw [hg];exact Nat.ne_of_lt (blk_lt (g:=gb278) (o:=.cells #[.int .i64 a0_0,.int .i64 a0_1,.int .i64 a0_2] 41 (0,0)) (by (with_reducible repeat (first|refine blk_drewN ?_ _|refine blk_drew ?_|refine blk_alloc ?_ _));exact BK278.out)) : gb278 ≠ gb279));have n6_:=aM ((by rw [hg];exact Nat.ne_of_gt (blk_lt (g:=gb278) (o:=.cells #[.int .i64 a0_0,.int .i64 a0_1,.int .i64 a0_2] 41 (0,0)) (by (with_reducible repeat (first|refine blk_drewN ?_ _|refine blk_drew ?_|refine blk_alloc ?_ _));exact BK278.out)) : gb279 ≠ gb278));clear BK278;clear HB;have BK278:=n0_;have HB:=n1_;have BK279:=n2_;have GW279:=n3_;have GE279:=n4_;have NB278_279:=n5_;have NB279_278:=n6_;clear n0_ n1_ n2_ n3_ n4_ n5_ n6_;clear hb hbox hg)|((with_reducible refine gate_dst (N:=3) rfl ?_);refine box_event ?hg (N:=3) ?hd (cs:=#[.int .i64 0,.int .i64 0,.int .i64 0]) (t:=44) ?hr ?_;(case hd => rfl);(case hg => rfl);(case hr => first|(go_simp;done)|(go_simp;rfl));intro gb280 hg w4 hbox hb;have n0_:=aM (blk_below (g:=gb278) (o:=.cells #[.int .i64 a0_0,.int .i64 a0_1,.int .i64 a0_2] 41 (0,0)) (by (with_reducible repeat (first|refine blk_drewN ?_ _|refine blk_drew ?_|refine blk_alloc ?_ _));exact BK278.out) hb);have n1_:=aM (blk_below (g:=gb279) (o:=.cells #[.int .i64 0,.int .i64 0,.int .i64 0] 44 (0,0)) (by (with_reducible repeat (first|refine blk_drewN ?_ _|refine blk_drew ?_|refine blk_alloc ?_ _));exact BK279.out) hb);have n2_:=aM (below_step (by repeat (first|(with_reducible first|exact HB.out|apply bA|apply bN|apply bD|refine below_set ?_ GE278.out|refine below_set ?_ GE279.out)|exact HB.out)) hb);have n3_:=aM (hbox);have n4_:=aM ((by rw [hg];exact (below_size (by repeat (first|(with_reducible first|exact HB.out|apply bA|apply bN|apply bD|refine below_set ?_ GE278.out|refine below_set ?_ GE279.out)|exact HB.out))) : w.heap.size ≤ gb280));have n5_:=aM ((by rw [hg];exact (below_size (by repeat (first|(with_reducible first|exact HB.out|apply bA|apply bN|apply bD|refine below_set ?_ GE278.out|refine below_set ?_ GE279.out)|exact HB.out))) : w.heap.size ≤ gb280));have n6_:=aM ((by rw [hg];exact Nat.ne_of_lt (blk_lt (g:=gb278) (o:=.cells #[.int .i64 a0_0,.int .i64 a0_1,.int .i64 a0_2] 41 (0,0)) (by (with_reducible repeat (first|refine blk_drewN ?_ _|refine blk_drew ?_|refine blk_alloc ?_ _));exact BK278.out)) : gb278 ≠ gb280));have n7_:=aM ((by rw [hg];exact Nat.ne_of_gt (blk_lt (g:=gb278) (o:=.cells #[.int .i64 a0_0,.int .i64 a0_1,.int .i64 a0_2] 41 (0,0)) (by (with_reducible repeat (first|refine blk_drewN ?_ _|refine blk_drew ?_|refine blk_alloc ?_ _));exact BK278.out)) : gb280 ≠ gb278));have n8_:=aM ((by rw [hg];exact Nat.ne_of_lt (blk_lt (g:=gb279) (o:=.cells #[.int .i64 0,.int .i64 0,.int .i64 0] 44 (0,0)) (by (with_reducible repeat (first|refine blk_drewN ?_ _|refine blk_drew ?_|refine blk_alloc ?_ _));exact BK279.out)) : gb279 ≠ gb280));have n9_:=aM ((by rw [hg];exact Nat.ne_of_gt (blk_lt (g:=gb279) (o:=.cells #[.int .i64 0,.int .i64 0,.int .i64 0] 44 (0,0)) (by (with_reducible repeat (first|refine blk_drewN ?_ _|refine blk_drew ?_|refine blk_alloc ?_ _));exact BK279.out)) : gb280 ≠ gb279));clear BK278;clear BK279;clear HB;have BK278:=n0_;have BK279:=n1_;have HB:=n2_;have BK280:=n3_;have GW280:=n4_;have GE280:=n5_;have NB278_280:=n6_;have NB280_278:=n7_;have NB279_280:=n8_;have NB280_279:=n9_;clear n0_ n1_ n2_ n3_ n4_ n5_ n6_ n7_ n8_ n9_;clear hb hbox hg;have hnb5:=NB278_279.out;have hnc5:=NB279_278.out;have hnb6:=NB278_280.out;have hnc6:=NB280_278.out;have hcz7_0 : w4.cell? ⟨gb278,0,none⟩ = some (.int .i64 a0_0):=(blk_cell BK278.out 0).trans rfl;have hcz7_1 : w4.cell? ⟨gb278,1,none⟩ = some (.int .i64 a0_1):=(blk_cell BK278.out 1).trans rfl;have hcz7_2 : w4.cell? ⟨gb278,2,none⟩ = some (.int .i64 a0_2):=(blk_cell BK278.out 2).trans rfl;have hfz7_0:=blk_frozen BK278.out 0;have hfz7_1:=blk_frozen BK278.out 1;have hfz7_2:=blk_frozen BK278.out 2;have hnb8:=NB280_279.out;have hnc8:=NB279_280.out;have hcz9_0 : w4.cell? ⟨gb280,0,none⟩ = some (.int .i64 0):=(blk_cell BK280.out 0).trans rfl;have hcz9_1 : w4.cell? ⟨gb280,1,none⟩ = some (.int .i64 0):=(blk_cell BK280.out 1).trans rfl;have hcz9_2 : w4.cell? ⟨gb280,2,none⟩ = some (.int .i64 0):=(blk_cell BK280.out 2).trans rfl;have hfz9_0:=blk_frozen BK280.out 0;have hfz9_1:=blk_frozen BK280.out 1;have hfz9_2:=blk_frozen BK280.out 2;have hcz10_0 : w4.cell? ⟨gb279,0,none⟩ = some (.int .i64 0):=(blk_cell BK279.out 0).trans rfl;have hcz10_1 : w4.cell? ⟨gb279,1,none⟩ = some (.int .i64 0):=(blk_cell BK279.out 1).trans rfl;have hcz10_2 : w4.cell? ⟨gb279,2,none⟩ = some (.int .i64 0):=(blk_cell BK279.out 2).trans rfl;have hfz10_0:=blk_frozen BK279.out 0;have hfz10_1:=blk_frozen BK279.out 1;have hfz10_2:=blk_frozen BK279.out 2))
 refine bodyPost_ret (results_cell_row rfl _ _ gb279 44 #[.int .i64 a0_0,.int .i64 a0_1,.int .i64 a0_2] (0,0) _ rfl (by (with_reducible repeat (first|refine blk_drewN ?_ _|refine blk_drew ?_|refine blk_alloc ?_ _));refine blk_put (cs:=#[.int .i64 a0_0,.int .i64 a0_1,.int .i64 0]) ?_ 2 _ rfl;(with_reducible repeat (first|refine blk_drewN ?_ _|refine blk_drew ?_|refine blk_alloc ?_ _));refine blk_put (cs:=#[.int .i64 a0_0,.int .i64 0,.int .i64 0]) ?_ 1 _ rfl;(with_reducible repeat (first|refine blk_drewN ?_ _|refine blk_drew ?_|refine blk_alloc ?_ _));refine blk_put (cs:=#[.int .i64 0,.int .i64 0,.int .i64 0]) ?_ 0 _ rfl;(with_reducible repeat (first|refine blk_drewN ?_ _|refine blk_drew ?_|refine blk_alloc ?_ _));refine blk_far ?_ NB279_280.out _;(with_reducible repeat (first|refine blk_drewN ?_ _|refine blk_drew ?_|refine blk_alloc ?_ _));refine blk_far ?_ NB279_280.out _;(with_reducible repeat (first|refine blk_drewN ?_ _|refine blk_drew ?_|refine blk_alloc ?_ _));refine blk_far ?_ NB279_280.out _;(with_reducible repeat (first|refine blk_drewN ?_ _|refine blk_drew ?_|refine blk_alloc ?_ _));exact BK279.out) Try.underlying44 rfl (by kernel_rfl)) rfl ?_
 exact ⟨by first|rfl|(simp only [i64_w,i32_w];done)|(simp only [i64_w,i32_w];rfl)|(simp [errW_none,errW_some] <;> rfl)|(simp [*,errW_none,errW_some] <;> rfl),by repeat (first|(with_reducible first|exact HB.out|apply bA|apply bN|apply bD|refine below_set ?_ GE278.out|refine below_set ?_ GE279.out|refine below_set ?_ GE280.out)|exact HB.out)⟩

/-! ### laws_toItem: function 42 -/
def laws_toItem.f (a0_0 : Int) (a0_1 : Int) (a0_2 : Int) (a0_3 : Int) : Option (Int × Int × Int × Int):=(laws_toPay.f a0_1 a0_2 a0_3).bind fun bt284 => (some (a0_0,bt284.1,bt284.2.1,bt284.2.2))
set_option maxHeartbeats 8000000 in
set_option maxRecDepth 100000 in
theorem laws_toItem.calls (a0_0 : Int) (a0_1 : Int) (a0_2 : Int) (a0_3 : Int) (r1 : Int) (r2 : Int) (r3 : Int) (r4 : Int) (w : World) (h : laws_toItem.f a0_0 a0_1 a0_2 a0_3 = some (r1,r2,r3,r4)) :
  Calls Try.prog 42 #[.agg #[.int .i64 a0_0,.int .i64 a0_1,.int .i64 a0_2,.int .i64 a0_3]] w fun e w' => e = .returned (.agg #[.int .i64 r1,.int .i64 r2,.int .i64 r3,.int .i64 r4]) ∧ Below w.heap.size w w':=by
 have hu61:=Try.underlying61
 have hu56:=Try.underlying56
 have hu41:=Try.underlying41
 have hu44:=Try.underlying44
 have HB:=aM (Below.refl w.heap.size w)
 have H : ((laws_toPay.f a0_1 a0_2 a0_3).bind fun bt284 => (some (a0_0,bt284.1,bt284.2.1,bt284.2.2))) = some (r1,r2,r3,r4):=h
 clear h
 replace H:=Option.bind_eq_some_iff.mp H
 obtain ⟨⟨t284,t285,t286⟩,A20,H⟩:=H
 replace H : (some (a0_0,t284,t285,t286)) = some (r1,r2,r3,r4):=H
 have A2:=aM A20
 clear A20
 simp only [Option.some.injEq,Prod.mk.injEq] at H
 obtain ⟨rfl,rfl,rfl,rfl⟩:=H
 go_enter Try.func42,Try.ntmps42
 go_wp2_with (first|((with_reducible refine gate_dst (N:=1) rfl ?_);refine box_event ?hg (N:=1) ?hd (cs:=#[.int .i64 a0_0,.int .i64 a0_1,.int .i64 a0_2,.int .i64 a0_3]) (t:=61) ?hr ?_;(case hd => rfl);(case hg => rfl);(case hr => first|(go_simp;done)|(go_simp;rfl));intro gb281 hg w3 hbox hb;have n0_:=aM (below_step (by repeat (first|(with_reducible first|exact HB.out|apply bA|apply bN|apply bD)|exact HB.out)) hb);have n1_:=aM (hbox);have n2_:=aM ((by rw [hg];exact (below_size (by repeat (first|(with_reducible first|exact HB.out|apply bA|apply bN|apply bD)|exact HB.out))) : w.heap.size ≤ gb281));have n3_:=aM ((by rw [hg];exact (below_size (by repeat (first|(with_reducible first|exact HB.out|apply bA|apply bN|apply bD)|exact HB.out))) : w.heap.size ≤ gb281));clear HB;have HB:=n0_;have BK281:=n1_;have GW281:=n2_;have GE281:=n3_;clear n0_ n1_ n2_ n3_;clear hb hbox hg)|((with_reducible refine gate_dst (N:=2) rfl ?_);refine box_event ?hg (N:=2) ?hd (cs:=#[.int .i64 0,.int .i64 0,.int .i64 0,.int .i64 0]) (t:=56) ?hr ?_;(case hd => rfl);(case hg => rfl);(case hr => first|(go_simp;done)|(go_simp;rfl));intro gb282 hg w4 hbox hb;have n0_:=aM (blk_below (g:=gb281) (o:=.cells #[.int .i64 a0_0,.int .i64 a0_1,.int .i64 a0_2,.int .i64 a0_3] 61 (0,0)) (by (with_reducible repeat (first|refine blk_drewN ?_ _|refine blk_drew ?_|refine blk_alloc ?_ _));exact BK281.out) hb);have n1_:=aM (below_step (by repeat (first|(with_reducible first|exact HB.out|apply bA|apply bN|apply bD|refine below_set ?_ GE281.out)|exact HB.out)) hb);have n2_:=aM (hbox);have n3_:=aM ((by rw [hg];exact (below_size (by repeat (first|(with_reducible first|exact HB.out|apply bA|apply bN|apply bD|refine below_set ?_ GE281.out)|exact HB.out))) : w.heap.size ≤ gb282));have n4_:=aM ((by rw [hg];exact (below_size (by repeat (first|(with_reducible first|exact HB.out|apply bA|apply bN|apply bD|refine below_set ?_ GE281.out)|exact HB.out))) : w.heap.size ≤ gb282));have n5_:=aM ((by rw [hg];exact Nat.ne_of_lt (blk_lt (g:=gb281) (o:=.cells #[.int .i64 a0_0,.int .i64 a0_1,.int .i64 a0_2,.int .i64 a0_3] 61 (0,0)) (by (with_reducible repeat (first|refine blk_drewN ?_ _|refine blk_drew ?_|refine blk_alloc ?_ _));exact BK281.out)) : gb281 ≠ gb282));have n6_:=aM ((by rw [hg];exact Nat.ne_of_gt (blk_lt (g:=gb281) (o:=.cells #[.int .i64 a0_0,.int .i64 a0_1,.int .i64 a0_2,.int .i64 a0_3] 61 (0,0)) (by (with_reducible repeat (first|refine blk_drewN ?_ _|refine blk_drew ?_|refine blk_alloc ?_ _));exact BK281.out)) : gb282 ≠ gb281));clear BK281;clear HB;have BK281:=n0_;have HB:=n1_;have BK282:=n2_;have GW282:=n3_;have GE282:=n4_;have NB281_282:=n5_;have NB282_281:=n6_;clear n0_ n1_ n2_ n3_ n4_ n5_ n6_;clear hb hbox hg)|((with_reducible refine gate_dst (N:=3) rfl ?_);refine box_event ?hg (N:=3) ?hd (cs:=#[.int .i64 0,.int .i64 0,.int .i64 0,.int .i64 0]) (t:=56) ?hr ?_;(case hd => rfl);(case hg => rfl);(case hr => first|(go_simp;done)|(go_simp;rfl));intro gb283 hg w5 hbox hb;have n0_:=aM (blk_below (g:=gb281) (o:=.cells #[.int .i64 a0_0,.int .i64 a0_1,.int .i64 a0_2,.int .i64 a0_3] 61 (0,0)) (by (with_reducible repeat (first|refine blk_drewN ?_ _|refine blk_drew ?_|refine blk_alloc ?_ _));exact BK281.out) hb);have n1_:=aM (blk_below (g:=gb282) (o:=.cells #[.int .i64 0,.int .i64 0,.int .i64 0,.int .i64 0] 56 (0,0)) (by (with_reducible repeat (first|refine blk_drewN ?_ _|refine blk_drew ?_|refine blk_alloc ?_ _));exact BK282.out) hb);have n2_:=aM (below_step (by repeat (first|(with_reducible first|exact HB.out|apply bA|apply bN|apply bD|refine below_set ?_ GE281.out|refine below_set ?_ GE282.out)|exact HB.out)) hb);have n3_:=aM (hbox);have n4_:=aM ((by rw [hg];exact (below_size (by repeat (first|(with_reducible first|exact HB.out|apply bA|apply bN|apply bD|refine below_set ?_ GE281.out|refine below_set ?_ GE282.out)|exact HB.out))) : w.heap.size ≤ gb283));have n5_:=aM ((by rw [hg];exact (below_size (by repeat (first|(with_reducible first|exact HB.out|apply bA|apply bN|apply bD|refine below_set ?_ GE281.out|refine below_set ?_ GE282.out)|exact HB.out))) : w.heap.size ≤ gb283));have n6_:=aM ((by rw [hg];exact Nat.ne_of_lt (blk_lt (g:=gb281) (o:=.cells #[.int .i64 a0_0,.int .i64 a0_1,.int .i64 a0_2,.int .i64 a0_3] 61 (0,0)) (by (with_reducible repeat (first|refine blk_drewN ?_ _|refine blk_drew ?_|refine blk_alloc ?_ _));exact BK281.out)) : gb281 ≠ gb283));have n7_:=aM ((by rw [hg];exact Nat.ne_of_gt (blk_lt (g:=gb281) (o:=.cells #[.int .i64 a0_0,.int .i64 a0_1,.int .i64 a0_2,.int .i64 a0_3] 61 (0,0)) (by (with_reducible repeat (first|refine blk_drewN ?_ _|refine blk_drew ?_|refine blk_alloc ?_ _));exact BK281.out)) : gb283 ≠ gb281));have n8_:=aM ((by rw [hg];exact Nat.ne_of_lt (blk_lt (g:=gb282) (o:=.cells #[.int .i64 0,.int .i64 0,.int .i64 0,.int .i64 0] 56 (0,0)) (by (with_reducible repeat (first|refine blk_drewN ?_ _|refine blk_drew ?_|refine blk_alloc ?_ _));exact BK282.out)) : gb282 ≠ gb283));have n9_:=aM ((by rw [hg];exact Nat.ne_of_gt (blk_lt (g:=gb282) (o:=.cells #[.int .i64 0,.int .i64 0,.int .i64 0,.int .i64 0] 56 (0,0)) (by (with_reducible repeat (first|refine blk_drewN ?_ _|refine blk_drew ?_|refine blk_alloc ?_ _));exact BK282.out)) : gb283 ≠ gb282));clear BK281;clear BK282;clear HB;have BK281:=n0_;have BK282:=n1_;have HB:=n2_;have BK283:=n3_;have GW283:=n4_;have GE283:=n5_;have NB281_283:=n6_;have NB283_281:=n7_;have NB282_283:=n8_;have NB283_282:=n9_;clear n0_ n1_ n2_ n3_ n4_ n5_ n6_ n7_ n8_ n9_;clear hb hbox hg;have hnb6:=NB281_282.out;have hnc6:=NB282_281.out;have hnb7:=NB281_283.out;have hnc7:=NB283_281.out;have hcz8_0 : w5.cell? ⟨gb281,0,none⟩ = some (.int .i64 a0_0):=(blk_cell BK281.out 0).trans rfl;have hcz8_1 : w5.cell? ⟨gb281,1,none⟩ = some (.int .i64 a0_1):=(blk_cell BK281.out 1).trans rfl;have hcz8_2 : w5.cell? ⟨gb281,2,none⟩ = some (.int .i64 a0_2):=(blk_cell BK281.out 2).trans rfl;have hcz8_3 : w5.cell? ⟨gb281,3,none⟩ = some (.int .i64 a0_3):=(blk_cell BK281.out 3).trans rfl;have hfz8_0:=blk_frozen BK281.out 0;have hfz8_1:=blk_frozen BK281.out 1;have hfz8_2:=blk_frozen BK281.out 2;have hfz8_3:=blk_frozen BK281.out 3;have hnb9:=NB283_282.out;have hnc9:=NB282_283.out;have hcz10_0 : w5.cell? ⟨gb283,0,none⟩ = some (.int .i64 0):=(blk_cell BK283.out 0).trans rfl;have hcz10_1 : w5.cell? ⟨gb283,1,none⟩ = some (.int .i64 0):=(blk_cell BK283.out 1).trans rfl;have hcz10_2 : w5.cell? ⟨gb283,2,none⟩ = some (.int .i64 0):=(blk_cell BK283.out 2).trans rfl;have hcz10_3 : w5.cell? ⟨gb283,3,none⟩ = some (.int .i64 0):=(blk_cell BK283.out 3).trans rfl;have hfz10_0:=blk_frozen BK283.out 0;have hfz10_1:=blk_frozen BK283.out 1;have hfz10_2:=blk_frozen BK283.out 2;have hfz10_3:=blk_frozen BK283.out 3)|((with_reducible refine gate_callee (f:=27) rfl ?_);refine goesL_ (some 9) rfl rfl Try.func27 (by kernel_rfl) rfl #[.agg #[.int .i64 a0_1,.int .i64 a0_2,.int .i64 a0_3]] rfl (by (try simp only [List.map_toArray,List.map_cons,List.map_nil]);first|done|rfl|(simp only [List.length_drop,List.length_take];rfl)) ?_;(with_reducible refine (laws_toPay.calls a0_1 a0_2 a0_3 t284 t285 t286 _ A2.out).mono ?_);rintro e w11 ⟨rfl,hb⟩;refine ⟨_,rfl,?_⟩;have n0_:=aM (blk_below (g:=gb281) (o:=.cells #[.int .i64 a0_0,.int .i64 a0_1,.int .i64 a0_2,.int .i64 a0_3] 61 (0,0)) (by (with_reducible repeat (first|refine blk_drewN ?_ _|refine blk_drew ?_|refine blk_alloc ?_ _));refine blk_far ?_ NB281_283.out _;(with_reducible repeat (first|refine blk_drewN ?_ _|refine blk_drew ?_|refine blk_alloc ?_ _));exact BK281.out) hb);have n1_:=aM (blk_below (g:=gb282) (o:=.cells #[.int .i64 0,.int .i64 0,.int .i64 0,.int .i64 0] 56 (0,0)) (by (with_reducible repeat (first|refine blk_drewN ?_ _|refine blk_drew ?_|refine blk_alloc ?_ _));refine blk_far ?_ NB282_283.out _;(with_reducible repeat (first|refine blk_drewN ?_ _|refine blk_drew ?_|refine blk_alloc ?_ _));exact BK282.out) hb);have n2_:=aM (blk_below (g:=gb283) (o:=.cells #[.int .i64 a0_0,.int .i64 0,.int .i64 0,.int .i64 0] 56 (0,0)) (by (with_reducible repeat (first|refine blk_drewN ?_ _|refine blk_drew ?_|refine blk_alloc ?_ _));refine blk_put (cs:=#[.int .i64 0,.int .i64 0,.int .i64 0,.int .i64 0]) ?_ 0 _ rfl;(with_reducible repeat (first|refine blk_drewN ?_ _|refine blk_drew ?_|refine blk_alloc ?_ _));exact BK283.out) hb);have n3_:=aM (below_step (by repeat (first|(with_reducible first|exact HB.out|apply bA|apply bN|apply bD|refine below_set ?_ GE281.out|refine below_set ?_ GE282.out|refine below_set ?_ GE283.out)|exact HB.out)) hb);clear BK281;clear BK282;clear BK283;clear HB;have BK281:=n0_;have BK282:=n1_;have BK283:=n2_;have HB:=n3_;clear n0_ n1_ n2_ n3_;(try clear hb);(try clear hb2);(try clear hk);(try clear hi);have hcz12_0 : w11.cell? ⟨gb283,0,none⟩ = some (.int .i64 a0_0):=(blk_cell BK283.out 0).trans rfl;have hcz12_1 : w11.cell? ⟨gb283,1,none⟩ = some (.int .i64 0):=(blk_cell BK283.out 1).trans rfl;have hcz12_2 : w11.cell? ⟨gb283,2,none⟩ = some (.int .i64 0):=(blk_cell BK283.out 2).trans rfl;have hcz12_3 : w11.cell? ⟨gb283,3,none⟩ = some (.int .i64 0):=(blk_cell BK283.out 3).trans rfl;have hfz12_0:=blk_frozen BK283.out 0;have hfz12_1:=blk_frozen BK283.out 1;have hfz12_2:=blk_frozen BK283.out 2;have hfz12_3:=blk_frozen BK283.out 3;have hcz13_0 : w11.cell? ⟨gb282,0,none⟩ = some (.int .i64 0):=(blk_cell BK282.out 0).trans rfl;have hcz13_1 : w11.cell? ⟨gb282,1,none⟩ = some (.int .i64 0):=(blk_cell BK282.out 1).trans rfl;have hcz13_2 : w11.cell? ⟨gb282,2,none⟩ = some (.int .i64 0):=(blk_cell BK282.out 2).trans rfl;have hcz13_3 : w11.cell? ⟨gb282,3,none⟩ = some (.int .i64 0):=(blk_cell BK282.out 3).trans rfl;have hfz13_0:=blk_frozen BK282.out 0;have hfz13_1:=blk_frozen BK282.out 1;have hfz13_2:=blk_frozen BK282.out 2;have hfz13_3:=blk_frozen BK282.out 3))
 refine bodyPost_ret (results_cell_row rfl _ _ gb282 56 #[.int .i64 a0_0,.int .i64 t284,.int .i64 t285,.int .i64 t286] (0,0) _ rfl (by (with_reducible repeat (first|refine blk_drewN ?_ _|refine blk_drew ?_|refine blk_alloc ?_ _));refine blk_put (cs:=#[.int .i64 a0_0,.int .i64 t284,.int .i64 t285,.int .i64 0]) ?_ 3 _ rfl;(with_reducible repeat (first|refine blk_drewN ?_ _|refine blk_drew ?_|refine blk_alloc ?_ _));refine blk_put (cs:=#[.int .i64 a0_0,.int .i64 t284,.int .i64 0,.int .i64 0]) ?_ 2 _ rfl;(with_reducible repeat (first|refine blk_drewN ?_ _|refine blk_drew ?_|refine blk_alloc ?_ _));refine blk_put (cs:=#[.int .i64 a0_0,.int .i64 0,.int .i64 0,.int .i64 0]) ?_ 1 _ rfl;(with_reducible repeat (first|refine blk_drewN ?_ _|refine blk_drew ?_|refine blk_alloc ?_ _));refine blk_put (cs:=#[.int .i64 0,.int .i64 0,.int .i64 0,.int .i64 0]) ?_ 0 _ rfl;(with_reducible repeat (first|refine blk_drewN ?_ _|refine blk_drew ?_|refine blk_alloc ?_ _));refine blk_far ?_ NB282_283.out _;(with_reducible repeat (first|refine blk_drewN ?_ _|refine blk_drew ?_|refine blk_alloc ?_ _));refine blk_far ?_ NB282_283.out _;(with_reducible repeat (first|refine blk_drewN ?_ _|refine blk_drew ?_|refine blk_alloc ?_ _));refine blk_far ?_ NB282_283.out _;(with_reducible repeat (first|refine blk_drewN ?_ _|refine blk_drew ?_|refine blk_alloc ?_ _));exact BK282.out) Try.underlying56 rfl (by kernel_rfl)) rfl ?_
 exact ⟨by first|rfl|(simp only [i64_w,i32_w];done)|(simp only [i64_w,i32_w];rfl)|(simp [errW_none,errW_some] <;> rfl)|(simp [*,errW_none,errW_some] <;> rfl),by repeat (first|(with_reducible first|exact HB.out|apply bA|apply bN|apply bD|refine below_set ?_ GE281.out|refine below_set ?_ GE282.out|refine below_set ?_ GE283.out)|exact HB.out)⟩

/-! ### laws_toItemS: function 20 -/
def laws_toItemS.l0 : Nat → List (S61) → List (S56) → Int → Option ((List (S56)))
 | 0,_,_,_ => none
 | k + 1,x0,x3,x4 => if x4 < (x0.length : Int) then (if 0 ≤ x4 then ((laws_toItem.f ((rd_T61 x0 x4).f0) ((rd_T61 x0 x4).f1.f0) ((rd_T61 x0 x4).f1.f1) ((rd_T61 x0 x4).f1.f2)).bind fun bt291 => (if x4 < (x3.length : Int) then (laws_toItemS.l0 k x0 (x3.set (x4 : Int).toNat (⟨bt291.1,(⟨bt291.2.1,bt291.2.2.1,bt291.2.2.2⟩ : S44)⟩ : S56)) (wrap64 (x4 + 1))) else (none))) else (none)) else (some x3)
def laws_toItemS.f (k : Nat) (l0 : List (S61)) : Option ((List (S56))):=if 0 ≤ (l0.length : Int) then (if ((l0.length : Int) : Int).toNat ≤ 8796093022208 then (laws_toItemS.l0 k l0 (List.replicate ((l0.length : Int) : Int).toNat z56) 0) else (none)) else (none)
theorem laws_toItemS.mono_l : ∀ k,(∀ y0 y1 y2,LeO (laws_toItemS.l0 k y0 y1 y2) (laws_toItemS.l0 (k + 1) y0 y1 y2))
 | 0 => fun _ _ _ r h => by simp [laws_toItemS.l0] at h
 | k + 1 => by
  have ih0:=laws_toItemS.mono_l k
  ·intro y0 y1 y2
   unfold laws_toItemS.l0
   repeat' first
   | exact LeO.refl _
   | exact ih0 _ _ _
   | exact LeO.none _
   | refine LeO.ite ?_ ?_
   | refine LeO.bind ?_ (fun _ => ?_)
theorem laws_toItemS.mono : ∀ a0 k,LeO (laws_toItemS.f k a0) (laws_toItemS.f (k + 1) a0):=by
 intro a0 k
 have ih0:=laws_toItemS.mono_l k
 unfold laws_toItemS.f
 repeat' first
   | exact LeO.refl _
   | exact ih0 _ _ _
   | exact LeO.none _
   | refine LeO.ite ?_ ?_
   | refine LeO.bind ?_ (fun _ => ?_)
set_option maxHeartbeats 8000000 in
set_option maxRecDepth 100000 in
theorem laws_toItemS.calls (k : Nat) (A0 : Option Addr) (c0 : Nat) (l0 : List (S61)) (r : List (S56)) (w : World) (hr0 : Kd.C k61 w A0 l0.length l0) (hc0 : l0.length ≤ c0) (h : laws_toItemS.f k l0 = some r) :
  Calls Try.prog 20 #[.slice A0 l0.length c0] w fun e w' => ∃ v0_ : Value,e = .returned (v0_) ∧ Kd.R k56 56 w' w.heap.size (fun _ => True) v0_ r ∧ Below w.heap.size w w':=by
 have hu61:=Try.underlying61
 have hu56:=Try.underlying56
 have HR0:=aM hr0
 have HC0:=aM hc0
 clear hr0 hc0
 have HB:=aM (Below.refl w.heap.size w)
 have H : (if 0 ≤ (l0.length : Int) then (if ((l0.length : Int) : Int).toNat ≤ 8796093022208 then (laws_toItemS.l0 k l0 (List.replicate ((l0.length : Int) : Int).toNat z56) 0) else (none)) else (none)) = some r:=h
 clear h
 by_cases c2 : 0 ≤ (l0.length : Int)
 case neg => rw [if_neg c2] at H;exact absurd H (by simp)
 rw [if_pos c2] at H
 have c2b0:=eq_true c2
 have c2b1 : decide (0 ≤ (l0.length : Int)) = true:=decide_eq_true c2
 clear c2
 by_cases c3 : ((l0.length : Int) : Int).toNat ≤ 8796093022208
 case neg => rw [if_neg c3] at H;exact absurd H (by simp)
 rw [if_pos c3] at H
 have c3b0:=eq_true c3
 have c3b1 : decide (((l0.length : Int) : Int).toNat ≤ 8796093022208) = true:=decide_eq_true c3
 clear c3
 obtain ⟨y287,hy287⟩ : ∃ y_ : List (S56),y_ = (List.replicate ((l0.length : Int) : Int).toNat z56):=⟨_,rfl⟩
 replace H : (laws_toItemS.l0 k l0 y287 0) = some r:=by first|(rw [hy287];with_reducible exact H)|(have H2_:=(Option.bind_some _ _).symm.trans H;rw [hy287];with_reducible exact H2_)|(have H2_:=(Option.bind_some _ _).symm.trans H;with_reducible exact H2_)|with_reducible exact H|(rw [hy287];exact H)|exact H
 have Ny287:=aM hy287
 clear hy287
 have H':=aM H
 clear H
 go_enter Try.func20,Try.ntmps20
 go_wp2_with (first|((with_reducible refine gate_dst (N:=7) rfl ?_);refine Kd.R_make k56 _ 56 rfl (N:=7) rfl 28 _ _ rfl (l0.length : Int) rfl rfl Try.underlying28 (.agg #[(.int .i64 0),(.int .i64 0),(.int .i64 0),(.int .i64 0)]) 32 info56 rfl (by decide) (by omega) z56 (ok:=fun _ => True) (okp:=fun _ => True) (k56_mkM _ _ _ z56 ) (fun _ hk => hk) trivial (of_decide_eq_true (by first|(with_reducible assumption)|assumption)) (Nat.le_trans (Nat.mul_le_mul_right _ (of_decide_eq_true (by first|(with_reducible assumption)|assumption) : (l0.length : Int).toNat ≤ 8796093022208)) (by omega)) (Below.refl _ _) (Nat.le_refl _) ?_;intro v288 w4 ho5 hb hg_ hnew_;clear hg_ hnew_;(first|rw [← Ny287.out] at ho5|(simp only [Int.reduceToNat] at ho5;rw [← Ny287.out] at ho5));have n0_:=aM (Kd.R_lower ho5 (below_size (by repeat (first|(with_reducible first|exact HB.out|apply bA|apply bN|apply bD)|exact HB.out))));have n1_:=aM (below_step (by repeat (first|(with_reducible first|exact HB.out|apply bA|apply bN|apply bD)|exact HB.out)) hb);clear HB;have HO289:=n0_;have HB:=n1_;clear n0_ n1_;clear hb ho5))
 go_loopg [4] k (fun kq v4 w' => ∃ (x3_1 : List (S56)) (x4_1 : Int),v4 = .int .i64 x4_1 ∧ Aside0 (laws_toItemS.l0 kq l0 x3_1 x4_1 = some r) ∧ Aside0 (kq ≤ k) ∧ Aside0 (Kd.R k56 56 w' w.heap.size (fun _ => True) v288 x3_1) ∧ Aside0 (Below w.heap.size w w'))
 case atStart => exact ⟨(y287),(0),(by first|rfl|(simp;done)|(simp [*];done)),H',⟨Nat.le_refl _⟩,⟨by (with_reducible repeat (first|apply Kd.R_alloc|apply Kd.R_drewN|apply Kd.R_drew));exact HO289.out⟩,⟨by repeat (first|(with_reducible first|exact HB.out|apply bA|apply bN|apply bD)|exact HB.out)⟩⟩
 case round =>
  clear H'
  try clear c2
  try clear c2b0
  try clear c2b1
  try clear p2
  try clear c3
  try clear c3b0
  try clear c3b1
  obtain ⟨x3_1,x4_1,rfl,HA,HK1,HO_3,HB⟩:=hrel
  cases gk with
  | zero => exact absurd HA.out (by simp [laws_toItemS.l0])
  | succ k1 =>
   have H:=HA.out
   clear HA
   simp only [laws_toItemS.l0] at H
   by_cases c6 : x4_1 < (l0.length : Int)
   ·rw [if_pos c6] at H
    have c6b0 : decide (x4_1 < (l0.length : Int)) = true:=decide_eq_true c6
    clear c6
    by_cases c7 : 0 ≤ x4_1
    case neg => rw [if_neg c7] at H;exact absurd H (by simp)
    rw [if_pos c7] at H
    have c7b0 : decide (0 ≤ x4_1) = true:=decide_eq_true c7
    clear c7
    replace H:=Option.bind_eq_some_iff.mp H
    obtain ⟨⟨t291,t292,t293,t294⟩,A80,H⟩:=H
    replace H : (if x4_1 < (x3_1.length : Int) then (laws_toItemS.l0 k1 l0 (x3_1.set (x4_1 : Int).toNat (⟨t291,(⟨t292,t293,t294⟩ : S44)⟩ : S56)) (wrap64 (x4_1 + 1))) else (none)) = some r:=H
    have A8:=aM A80
    clear A80
    by_cases c9 : x4_1 < (x3_1.length : Int)
    case neg => rw [if_neg c9] at H;exact absurd H (by simp)
    rw [if_pos c9] at H
    have c9b0 : decide (x4_1 < (x3_1.length : Int)) = true:=decide_eq_true c9
    clear c9
    obtain ⟨y295,hy295⟩ : ∃ y_ : List (S56),y_ = (x3_1.set (x4_1 : Int).toNat (⟨t291,(⟨t292,t293,t294⟩ : S44)⟩ : S56)):=⟨_,rfl⟩
    replace H : (laws_toItemS.l0 k1 l0 y295 (wrap64 (x4_1 + 1))) = some r:=by first|(rw [hy295];with_reducible exact H)|(have H2_:=(Option.bind_some _ _).symm.trans H;rw [hy295];with_reducible exact H2_)|(have H2_:=(Option.bind_some _ _).symm.trans H;with_reducible exact H2_)|with_reducible exact H|(rw [hy295];exact H)|exact H
    have Ny295:=aM hy295
    clear hy295
    have H':=aM H
    clear H
    have p290 : 0 ≤ (x4_1 : Int):=of_decide_eq_true (by first|(with_reducible assumption)|assumption)
    have q290 : x4_1 < (l0.length : Int):=of_decide_eq_true (by first|(with_reducible assumption)|assumption)
    obtain ⟨ad290,e290,hx290_0,hx290_1,hx290_2,hx290_3⟩:=at_T61 HR0.out x4_1 p290 q290
    cases e290
    replace hx290_0:=(HB.out.cell (bL w hx290_0)).trans hx290_0
    replace hx290_1:=(HB.out.cell (bL w hx290_1)).trans hx290_1
    replace hx290_2:=(HB.out.cell (bL w hx290_2)).trans hx290_2
    replace hx290_3:=(HB.out.cell (bL w hx290_3)).trans hx290_3
    replace p290:=eq_true p290
    replace q290:=eq_true q290
    go_wp2_with (first|((with_reducible refine gate_callee (f:=42) rfl ?_);refine goesL_ (some 20) rfl rfl Try.func42 (by kernel_rfl) rfl #[.agg #[.int .i64 ((rd_T61 l0 x4_1).f0),.int .i64 ((rd_T61 l0 x4_1).f1.f0),.int .i64 ((rd_T61 l0 x4_1).f1.f1),.int .i64 ((rd_T61 l0 x4_1).f1.f2)]] rfl (by (try simp only [List.map_toArray,List.map_cons,List.map_nil]);first|done|rfl|(simp only [List.length_drop,List.length_take];rfl)) ?_;(with_reducible refine (laws_toItem.calls ((rd_T61 l0 x4_1).f0) ((rd_T61 l0 x4_1).f1.f0) ((rd_T61 l0 x4_1).f1.f1) ((rd_T61 l0 x4_1).f1.f2) t291 t292 t293 t294 _ A8.out).mono ?_);rintro e w11 ⟨rfl,hb⟩;refine ⟨_,rfl,?_⟩;have n0_:=aM (Kd.R_below (by (with_reducible repeat (first|apply Kd.R_alloc|apply Kd.R_drewN|apply Kd.R_drew));exact HO_3.out) hb);have n1_:=aM (below_step (by repeat (first|(with_reducible first|exact HB.out|apply bA|apply bN|apply bD)|exact HB.out)) hb);clear HO_3;clear HB;have HO_3:=n0_;have HB:=n1_;clear n0_ n1_;(try clear hb);(try clear hb2);(try clear hk);(try clear hi);have p10 : 0 ≤ (x4_1 : Int):=of_decide_eq_true (by first|(with_reducible assumption)|assumption);have q10 : (x4_1 : Int) < ((x3_1.length : Int) : Int):=of_decide_eq_true (by first|(with_reducible assumption)|assumption);obtain ⟨go10,co10,eo10,gb10,gl10,cl10,HG10⟩:=Kd.R_form HO_3.out (by omega);(first|cases eo10|(injection eo10 with ea_ en_ ec_;(first|subst ea_|(injection ea_ with ea_;subst ea_));subst ec_;clear en_));have GB10:=aM gb10;have GG10:=aM HG10;clear gb10 gl10 HG10;obtain ⟨ce10,hcl10,hM10,hcc10,hfr10⟩:=Kd.R_elem HO_3.out z56 (x4_1 : Int) p10 q10;obtain rfl:=k56_openM hM10;have hx10_0 : w11.cell? ⟨go10,(x4_1 : Int).toNat * 4,none⟩ = some (.int .i64 ((rd_T56 x3_1 x4_1).f0)):=hcc10 0 _ rfl;have hx10_1 : w11.cell? ⟨go10,(x4_1 : Int).toNat * 4 + 1,none⟩ = some (.int .i64 ((rd_T56 x3_1 x4_1).f1.f0)):=hcc10 1 _ rfl;have hx10_2 : w11.cell? ⟨go10,(x4_1 : Int).toNat * 4 + 2,none⟩ = some (.int .i64 ((rd_T56 x3_1 x4_1).f1.f1)):=hcc10 2 _ rfl;have hx10_3 : w11.cell? ⟨go10,(x4_1 : Int).toNat * 4 + 3,none⟩ = some (.int .i64 ((rd_T56 x3_1 x4_1).f1.f2)):=hcc10 3 _ rfl;have hf10_0 : w11.frozen? ⟨go10,(x4_1 : Int).toNat * 4,none⟩ = false:=hfr10 0;have hf10_1 : w11.frozen? ⟨go10,(x4_1 : Int).toNat * 4 + 1,none⟩ = false:=hfr10 1;have hf10_2 : w11.frozen? ⟨go10,(x4_1 : Int).toNat * 4 + 2,none⟩ = false:=hfr10 2;have hf10_3 : w11.frozen? ⟨go10,(x4_1 : Int).toNat * 4 + 3,none⟩ = false:=hfr10 3;clear hcl10 hcc10 hfr10 hM10;replace p10:=eq_true p10;replace q10:=eq_true q10;have HX12:=aM (show Kd.R k56 56 w11 w.heap.size (fun _ => True) (.slice (some ⟨go10,0,none⟩) x3_1.length co10) x3_1 from (by (with_reducible repeat (first|apply Kd.R_alloc|apply Kd.R_drewN|apply Kd.R_drew));exact HO_3.out));obtain ⟨ce12,hcl12,hM12,hcc12,hfr12⟩:=Kd.R_elem HX12.out z56 (x4_1 : Int) (of_decide_eq_true (by first|(with_reducible assumption)|assumption)) (by have h_ : (x4_1 : Int) < ((x3_1.length : Int) : Int):=of_decide_eq_true (by first|(with_reducible assumption)|assumption);first|exact h_|(have e_:=(Kd.R_reads' HO_3.out).1;omega)|simpa using h_);obtain rfl:=k56_openM hM12;have HP12:=Kd.R_seg HX12.out (x4_1 : Int) (of_decide_eq_true (by first|(with_reducible assumption)|assumption)) (by have h_ : (x4_1 : Int) < ((x3_1.length : Int) : Int):=of_decide_eq_true (by first|(with_reducible assumption)|assumption);first|exact h_|(have e_:=(Kd.R_reads' HO_3.out).1;omega)|simpa using h_) (seg:=[.int .i64 t291,.int .i64 t292,.int .i64 t293,.int .i64 t294]) (j:=0) hcl12 hcc12 (show 4 ≤ 4 from by decide) (x':=(⟨t291,(⟨t292,t293,t294⟩ : S44)⟩ : S56)) (k56_mkM _ _ _ (⟨t291,(⟨t292,t293,t294⟩ : S44)⟩ : S56) ) (fun _ hk => hk);have hx12_0:=hcc12 0 _ rfl;(try simp only [show (k56).sz = 4 from rfl,Nat.mul_one,Nat.add_zero] at hx12_0);have hf12_0:=hfr12 0;(try simp only [show (k56).sz = 4 from rfl,Nat.mul_one,Nat.add_zero] at hf12_0);have hx12_1:=hcc12 1 _ rfl;(try simp only [show (k56).sz = 4 from rfl,Nat.mul_one,Nat.add_zero] at hx12_1);have hf12_1:=hfr12 1;(try simp only [show (k56).sz = 4 from rfl,Nat.mul_one,Nat.add_zero] at hf12_1);have hx12_2:=hcc12 2 _ rfl;(try simp only [show (k56).sz = 4 from rfl,Nat.mul_one,Nat.add_zero] at hx12_2);have hf12_2:=hfr12 2;(try simp only [show (k56).sz = 4 from rfl,Nat.mul_one,Nat.add_zero] at hf12_2);have hx12_3:=hcc12 3 _ rfl;(try simp only [show (k56).sz = 4 from rfl,Nat.mul_one,Nat.add_zero] at hx12_3);have hf12_3:=hfr12 3;(try simp only [show (k56).sz = 4 from rfl,Nat.mul_one,Nat.add_zero] at hf12_3);clear hcl12 hcc12 hfr12 hM12)|((with_reducible refine gate_store (t:=56) (p:=21) rfl ?_);refine store_event (t:=56) (p:=21) (v:=?vo_w13) (w1:=((((w11.setCell ⟨go10,(x4_1 : Int).toNat * 4,none⟩ (.int .i64 t291)).setCell ⟨go10,(x4_1 : Int).toNat * 4 + 1,none⟩ (.int .i64 t292)).setCell ⟨go10,(x4_1 : Int).toNat * 4 + 2,none⟩ (.int .i64 t293)).setCell ⟨go10,(x4_1 : Int).toNat * 4 + 3,none⟩ (.int .i64 t294))) ?hg ?ho ?hn ?hr ?_;(case ho => rfl);(case hg => rfl);(case hn => rfl);(case hr => first|(go_simp;done)|(go_simp;rfl));intro w13 hw;have hg : w11.grownBy w13 (some go10):=(by rw [hw];exact HP12.2);have hp_ : Kd.R k56 56 w13 w.heap.size (fun _ => True) (.slice (some ⟨go10,0,none⟩) x3_1.length co10) y295:=(by rw [hw,Ny295.out];exact HP12.1);clear HP12;have n0_:=aM (hp_);have n1_:=aM ((by rw [hw];exact below_set (below_set (below_set (below_set (HB.out) GB10.out) GB10.out) GB10.out) GB10.out : Below w.heap.size w w13));clear HO_3;clear HB;have HO_3:=n0_;have HB:=n1_;clear n0_ n1_;clear hg hw hp_))
    go_roundg k1
    case measure => have:=HK1.out;omega
    case rel => exact ⟨(y295),(wrap64 (x4_1 + 1)),(by first|rfl|(simp;done)|(simp [*];done)),H',⟨by have:=HK1.out;omega⟩,⟨by (with_reducible repeat (first|apply Kd.R_alloc|apply Kd.R_drewN|apply Kd.R_drew));exact HO_3.out⟩,⟨by repeat (first|(with_reducible first|exact HB.out|apply bA|apply bN|apply bD)|exact HB.out)⟩⟩
   ·rw [if_neg c6] at H
    have c6b0 : decide (x4_1 < (l0.length : Int)) = false:=decide_eq_false c6
    clear c6
    obtain rfl:=Option.some.inj H
    go_wp2
    go_ret
    exact ⟨_,by first|rfl|(simp only [i64_w,i32_w];done)|(simp only [i64_w,i32_w];rfl)|(simp [errW_none,errW_some] <;> rfl)|(simp [*,errW_none,errW_some] <;> rfl),by (with_reducible repeat (first|apply Kd.R_alloc|apply Kd.R_drewN|apply Kd.R_drew));exact HO_3.out,by repeat (first|(with_reducible first|exact HB.out|apply bA|apply bN|apply bD)|exact HB.out)⟩

/-! ### impl_within: function 59 -/
def impl_within.f (a0 : Int) (a1 : Int) (a2 : Int) : Option (Bool):=if a0 ≥ a1 then (some (decide (a0 ≤ a2))) else (some false)
set_option maxHeartbeats 8000000 in
set_option maxRecDepth 100000 in
theorem impl_within.calls (a0 : Int) (a1 : Int) (a2 : Int) (r : Bool) (w : World) (h : impl_within.f a0 a1 a2 = some r) :
  Calls Try.prog 59 #[.int .i64 a0,.int .i64 a1,.int .i64 a2] w fun e w' => e = .returned (.bool r) ∧ Drawn0 w w':=by
 have H : (if a0 ≥ a1 then (some (decide (a0 ≤ a2))) else (some false)) = some r:=h
 clear h
 by_cases c4 : a0 ≥ a1
 ·rw [if_pos c4] at H
  have c4b0 : decide (a1 ≤ a0) = true:=decide_eq_true c4
  clear c4
  obtain rfl:=Option.some.inj H
  go_enter Try.func59,Try.ntmps59
  go_wp2
  go_ret
  exact ⟨by first|rfl|(simp;done)|(simp [*];done),by repeat (first|exact Drawn0.refl _|apply Drawn0.step)⟩
 ·rw [if_neg c4] at H
  have c4b0 : decide (a1 ≤ a0) = false:=decide_eq_false c4
  clear c4
  obtain rfl:=Option.some.inj H
  go_enter Try.func59,Try.ntmps59
  go_wp2
  go_ret
  exact ⟨by first|rfl|(simp;done)|(simp [*];done),by repeat (first|exact Drawn0.refl _|apply Drawn0.step)⟩

/-! ### impl_PayOk: function 48 -/
def impl_PayOk.f (a0_0 : Int) (a0_1 : Int) (a0_2 : Int) : Option (Bool):=(impl_within.f a0_0 1 3).bind fun t297 => (if t297 = true then ((impl_within.f a0_1 1 3).bind fun t298 => (if t298 = true then (if a0_0 = a0_1 then (some false) else ((impl_within.f a0_2 1 9).bind fun t299 => (some t299))) else (some false))) else (some false))
set_option maxHeartbeats 8000000 in
set_option maxRecDepth 100000 in
theorem impl_PayOk.calls (a0_0 : Int) (a0_1 : Int) (a0_2 : Int) (r : Bool) (w : World) (h : impl_PayOk.f a0_0 a0_1 a0_2 = some r) :
  Calls Try.prog 48 #[.agg #[.int .i64 a0_0,.int .i64 a0_1,.int .i64 a0_2]] w fun e w' => e = .returned (.bool r) ∧ Below w.heap.size w w':=by
 have hu44:=Try.underlying44
 have HB:=aM (Below.refl w.heap.size w)
 have H : ((impl_within.f a0_0 1 3).bind fun t297 => (if t297 = true then ((impl_within.f a0_1 1 3).bind fun t298 => (if t298 = true then (if a0_0 = a0_1 then (some false) else ((impl_within.f a0_2 1 9).bind fun t299 => (some t299))) else (some false))) else (some false))) = some r:=h
 clear h
 replace H:=Option.bind_eq_some_iff.mp H
 obtain ⟨t297,A20,H⟩:=H
 replace H : (if t297 = true then ((impl_within.f a0_1 1 3).bind fun t298 => (if t298 = true then (if a0_0 = a0_1 then (some false) else ((impl_within.f a0_2 1 9).bind fun t299 => (some t299))) else (some false))) else (some false)) = some r:=H
 have A2:=aM A20
 clear A20
 by_cases c3 : t297 = true
 ·subst c3
  have H1 : ((impl_within.f a0_1 1 3).bind fun t298 => (if t298 = true then (if a0_0 = a0_1 then (some false) else ((impl_within.f a0_2 1 9).bind fun t299 => (some t299))) else (some false))) = some r:=by rw [if_pos rfl] at H;exact H
  clear H
  have H:=H1
  clear H1
  replace H:=Option.bind_eq_some_iff.mp H
  obtain ⟨t298,A40,H⟩:=H
  replace H : (if t298 = true then (if a0_0 = a0_1 then (some false) else ((impl_within.f a0_2 1 9).bind fun t299 => (some t299))) else (some false)) = some r:=H
  have A4:=aM A40
  clear A40
  by_cases c5 : t298 = true
  ·subst c5
   have H1 : (if a0_0 = a0_1 then (some false) else ((impl_within.f a0_2 1 9).bind fun t299 => (some t299))) = some r:=by rw [if_pos rfl] at H;exact H
   clear H
   have H:=H1
   clear H1
   by_cases c6 : a0_0 = a0_1
   ·rw [if_pos c6] at H
    have c6b0 : (a0_0 == a0_1) = true:=beq_iff_eq.mpr c6
    have c6b1 : (a0_0 != a0_1) = false:=bne_eq_false_iff_eq.mpr c6
    clear c6
    obtain rfl:=Option.some.inj H
    go_enter Try.func48,Try.ntmps48
    go_wp2_with (first|((with_reducible refine gate_dst (N:=1) rfl ?_);refine box_event ?hg (N:=1) ?hd (cs:=#[.int .i64 a0_0,.int .i64 a0_1,.int .i64 a0_2]) (t:=44) ?hr ?_;(case hd => rfl);(case hg => rfl);(case hr => first|(go_simp;done)|(go_simp;rfl));intro gb296 hg w7 hbox hb;have n0_:=aM (below_step (by repeat (first|(with_reducible first|exact HB.out|apply bA|apply bN|apply bD)|exact HB.out)) hb);have n1_:=aM (hbox);have n2_:=aM ((by rw [hg];exact (below_size (by repeat (first|(with_reducible first|exact HB.out|apply bA|apply bN|apply bD)|exact HB.out))) : w.heap.size ≤ gb296));have n3_:=aM ((by rw [hg];exact (below_size (by repeat (first|(with_reducible first|exact HB.out|apply bA|apply bN|apply bD)|exact HB.out))) : w.heap.size ≤ gb296));clear HB;have HB:=n0_;have BK296:=n1_;have GW296:=n2_;have GE296:=n3_;clear n0_ n1_ n2_ n3_;clear hb hbox hg;have hcz8_0 : w7.cell? ⟨gb296,0,none⟩ = some (.int .i64 a0_0):=(blk_cell BK296.out 0).trans rfl;have hcz8_1 : w7.cell? ⟨gb296,1,none⟩ = some (.int .i64 a0_1):=(blk_cell BK296.out 1).trans rfl;have hcz8_2 : w7.cell? ⟨gb296,2,none⟩ = some (.int .i64 a0_2):=(blk_cell BK296.out 2).trans rfl;have hfz8_0:=blk_frozen BK296.out 0;have hfz8_1:=blk_frozen BK296.out 1;have hfz8_2:=blk_frozen BK296.out 2)|((with_reducible refine gate_callee (f:=59) rfl ?_);refine goesL_ (some 5) rfl rfl Try.func59 (by kernel_rfl) rfl #[.int .i64 a0_0,.int .i64 1,.int .i64 3] rfl (by (try simp only [List.map_toArray,List.map_cons,List.map_nil]);first|done|rfl|(simp only [List.length_drop,List.length_take];rfl)) ?_;(with_reducible refine (impl_within.calls a0_0 1 3 true _ A2.out).mono ?_);rintro e w' ⟨rfl,⟨nd,rfl⟩⟩;refine ⟨_,rfl,?_⟩)|(go_at_call 59;(with_reducible refine (impl_within.calls a0_1 1 3 true _ A4.out).mono ?_);rintro e w' ⟨rfl,⟨nd,rfl⟩⟩))
    go_ret
    exact ⟨by first|rfl|(simp only [i64_w,i32_w];done)|(simp only [i64_w,i32_w];rfl)|(simp [errW_none,errW_some] <;> rfl)|(simp [*,errW_none,errW_some] <;> rfl),by repeat (first|(with_reducible first|exact HB.out|apply bA|apply bN|apply bD|refine below_set ?_ GE296.out)|exact HB.out)⟩
   ·rw [if_neg c6] at H
    have c6b0 : (a0_0 == a0_1) = false:=beq_eq_false_iff_ne.mpr c6
    have c6b1 : (a0_0 != a0_1) = true:=bne_iff_ne.mpr c6
    replace H:=Option.bind_eq_some_iff.mp H
    obtain ⟨t299,A90,H⟩:=H
    replace H : (some t299) = some r:=H
    have A9:=aM A90
    clear A90
    obtain rfl:=Option.some.inj H
    go_enter Try.func48,Try.ntmps48
    go_wp2_with (first|((with_reducible refine gate_dst (N:=1) rfl ?_);refine box_event ?hg (N:=1) ?hd (cs:=#[.int .i64 a0_0,.int .i64 a0_1,.int .i64 a0_2]) (t:=44) ?hr ?_;(case hd => rfl);(case hg => rfl);(case hr => first|(go_simp;done)|(go_simp;rfl));intro gb296 hg w10 hbox hb;have n0_:=aM (below_step (by repeat (first|(with_reducible first|exact HB.out|apply bA|apply bN|apply bD)|exact HB.out)) hb);have n1_:=aM (hbox);have n2_:=aM ((by rw [hg];exact (below_size (by repeat (first|(with_reducible first|exact HB.out|apply bA|apply bN|apply bD)|exact HB.out))) : w.heap.size ≤ gb296));have n3_:=aM ((by rw [hg];exact (below_size (by repeat (first|(with_reducible first|exact HB.out|apply bA|apply bN|apply bD)|exact HB.out))) : w.heap.size ≤ gb296));clear HB;have HB:=n0_;have BK296:=n1_;have GW296:=n2_;have GE296:=n3_;clear n0_ n1_ n2_ n3_;clear hb hbox hg;have hcz11_0 : w10.cell? ⟨gb296,0,none⟩ = some (.int .i64 a0_0):=(blk_cell BK296.out 0).trans rfl;have hcz11_1 : w10.cell? ⟨gb296,1,none⟩ = some (.int .i64 a0_1):=(blk_cell BK296.out 1).trans rfl;have hcz11_2 : w10.cell? ⟨gb296,2,none⟩ = some (.int .i64 a0_2):=(blk_cell BK296.out 2).trans rfl;have hfz11_0:=blk_frozen BK296.out 0;have hfz11_1:=blk_frozen BK296.out 1;have hfz11_2:=blk_frozen BK296.out 2)|((with_reducible refine gate_callee (f:=59) rfl ?_);refine goesL_ (some 5) rfl rfl Try.func59 (by kernel_rfl) rfl #[.int .i64 a0_0,.int .i64 1,.int .i64 3] rfl (by (try simp only [List.map_toArray,List.map_cons,List.map_nil]);first|done|rfl|(simp only [List.length_drop,List.length_take];rfl)) ?_;(with_reducible refine (impl_within.calls a0_0 1 3 true _ A2.out).mono ?_);rintro e w' ⟨rfl,⟨nd,rfl⟩⟩;refine ⟨_,rfl,?_⟩)|(go_at_call 59;(with_reducible refine (impl_within.calls a0_1 1 3 true _ A4.out).mono ?_);rintro e w' ⟨rfl,⟨nd,rfl⟩⟩)|(go_at_call 59;(with_reducible refine (impl_within.calls a0_2 1 9 t299 _ A9.out).mono ?_);rintro e w' ⟨rfl,⟨nd,rfl⟩⟩))
    go_ret
    exact ⟨by first|rfl|(simp only [i64_w,i32_w];done)|(simp only [i64_w,i32_w];rfl)|(simp [errW_none,errW_some] <;> rfl)|(simp [*,errW_none,errW_some] <;> rfl),by repeat (first|(with_reducible first|exact HB.out|apply bA|apply bN|apply bD|refine below_set ?_ GE296.out)|exact HB.out)⟩
  ·replace c5:=Bool.eq_false_iff.mpr c5
   subst c5
   have H1 : (some false) = some r:=by rw [if_neg (show ¬ (false = true) by decide)] at H;exact H
   clear H
   have H:=H1
   clear H1
   obtain rfl:=Option.some.inj H
   go_enter Try.func48,Try.ntmps48
   go_wp2_with (first|((with_reducible refine gate_dst (N:=1) rfl ?_);refine box_event ?hg (N:=1) ?hd (cs:=#[.int .i64 a0_0,.int .i64 a0_1,.int .i64 a0_2]) (t:=44) ?hr ?_;(case hd => rfl);(case hg => rfl);(case hr => first|(go_simp;done)|(go_simp;rfl));intro gb296 hg w12 hbox hb;have n0_:=aM (below_step (by repeat (first|(with_reducible first|exact HB.out|apply bA|apply bN|apply bD)|exact HB.out)) hb);have n1_:=aM (hbox);have n2_:=aM ((by rw [hg];exact (below_size (by repeat (first|(with_reducible first|exact HB.out|apply bA|apply bN|apply bD)|exact HB.out))) : w.heap.size ≤ gb296));have n3_:=aM ((by rw [hg];exact (below_size (by repeat (first|(with_reducible first|exact HB.out|apply bA|apply bN|apply bD)|exact HB.out))) : w.heap.size ≤ gb296));clear HB;have HB:=n0_;have BK296:=n1_;have GW296:=n2_;have GE296:=n3_;clear n0_ n1_ n2_ n3_;clear hb hbox hg;have hcz13_0 : w12.cell? ⟨gb296,0,none⟩ = some (.int .i64 a0_0):=(blk_cell BK296.out 0).trans rfl;have hcz13_1 : w12.cell? ⟨gb296,1,none⟩ = some (.int .i64 a0_1):=(blk_cell BK296.out 1).trans rfl;have hcz13_2 : w12.cell? ⟨gb296,2,none⟩ = some (.int .i64 a0_2):=(blk_cell BK296.out 2).trans rfl;have hfz13_0:=blk_frozen BK296.out 0;have hfz13_1:=blk_frozen BK296.out 1;have hfz13_2:=blk_frozen BK296.out 2)|((with_reducible refine gate_callee (f:=59) rfl ?_);refine goesL_ (some 5) rfl rfl Try.func59 (by kernel_rfl) rfl #[.int .i64 a0_0,.int .i64 1,.int .i64 3] rfl (by (try simp only [List.map_toArray,List.map_cons,List.map_nil]);first|done|rfl|(simp only [List.length_drop,List.length_take];rfl)) ?_;(with_reducible refine (impl_within.calls a0_0 1 3 true _ A2.out).mono ?_);rintro e w' ⟨rfl,⟨nd,rfl⟩⟩;refine ⟨_,rfl,?_⟩)|(go_at_call 59;(with_reducible refine (impl_within.calls a0_1 1 3 false _ A4.out).mono ?_);rintro e w' ⟨rfl,⟨nd,rfl⟩⟩))
   go_ret
   exact ⟨by first|rfl|(simp only [i64_w,i32_w];done)|(simp only [i64_w,i32_w];rfl)|(simp [errW_none,errW_some] <;> rfl)|(simp [*,errW_none,errW_some] <;> rfl),by repeat (first|(with_reducible first|exact HB.out|apply bA|apply bN|apply bD|refine below_set ?_ GE296.out)|exact HB.out)⟩
 ·replace c3:=Bool.eq_false_iff.mpr c3
  subst c3
  have H1 : (some false) = some r:=by rw [if_neg (show ¬ (false = true) by decide)] at H;exact H
  clear H
  have H:=H1
  clear H1
  obtain rfl:=Option.some.inj H
  go_enter Try.func48,Try.ntmps48
  go_wp2_with (first|((with_reducible refine gate_dst (N:=1) rfl ?_);refine box_event ?hg (N:=1) ?hd (cs:=#[.int .i64 a0_0,.int .i64 a0_1,.int .i64 a0_2]) (t:=44) ?hr ?_;(case hd => rfl);(case hg => rfl);(case hr => first|(go_simp;done)|(go_simp;rfl));intro gb296 hg w14 hbox hb;have n0_:=aM (below_step (by repeat (first|(with_reducible first|exact HB.out|apply bA|apply bN|apply bD)|exact HB.out)) hb);have n1_:=aM (hbox);have n2_:=aM ((by rw [hg];exact (below_size (by repeat (first|(with_reducible first|exact HB.out|apply bA|apply bN|apply bD)|exact HB.out))) : w.heap.size ≤ gb296));have n3_:=aM ((by rw [hg];exact (below_size (by repeat (first|(with_reducible first|exact HB.out|apply bA|apply bN|apply bD)|exact HB.out))) : w.heap.size ≤ gb296));clear HB;have HB:=n0_;have BK296:=n1_;have GW296:=n2_;have GE296:=n3_;clear n0_ n1_ n2_ n3_;clear hb hbox hg;have hcz15_0 : w14.cell? ⟨gb296,0,none⟩ = some (.int .i64 a0_0):=(blk_cell BK296.out 0).trans rfl;have hcz15_1 : w14.cell? ⟨gb296,1,none⟩ = some (.int .i64 a0_1):=(blk_cell BK296.out 1).trans rfl;have hcz15_2 : w14.cell? ⟨gb296,2,none⟩ = some (.int .i64 a0_2):=(blk_cell BK296.out 2).trans rfl;have hfz15_0:=blk_frozen BK296.out 0;have hfz15_1:=blk_frozen BK296.out 1;have hfz15_2:=blk_frozen BK296.out 2)|((with_reducible refine gate_callee (f:=59) rfl ?_);refine goesL_ (some 5) rfl rfl Try.func59 (by kernel_rfl) rfl #[.int .i64 a0_0,.int .i64 1,.int .i64 3] rfl (by (try simp only [List.map_toArray,List.map_cons,List.map_nil]);first|done|rfl|(simp only [List.length_drop,List.length_take];rfl)) ?_;(with_reducible refine (impl_within.calls a0_0 1 3 false _ A2.out).mono ?_);rintro e w' ⟨rfl,⟨nd,rfl⟩⟩;refine ⟨_,rfl,?_⟩))
  go_ret
  exact ⟨by first|rfl|(simp only [i64_w,i32_w];done)|(simp only [i64_w,i32_w];rfl)|(simp [errW_none,errW_some] <;> rfl)|(simp [*,errW_none,errW_some] <;> rfl),by repeat (first|(with_reducible first|exact HB.out|apply bA|apply bN|apply bD|refine below_set ?_ GE296.out)|exact HB.out)⟩

/-! ### impl_epochOk: function 54 -/
def impl_epochOk.f (a0 : Int) : Option (Bool):=(impl_within.f a0 1 30).bind fun t300 => (some t300)
set_option maxHeartbeats 8000000 in
set_option maxRecDepth 100000 in
theorem impl_epochOk.calls (a0 : Int) (r : Bool) (w : World) (h : impl_epochOk.f a0 = some r) :
  Calls Try.prog 54 #[.int .i64 a0] w fun e w' => e = .returned (.bool r) ∧ Drawn0 w w':=by
 have H : ((impl_within.f a0 1 30).bind fun t300 => (some t300)) = some r:=h
 clear h
 replace H:=Option.bind_eq_some_iff.mp H
 obtain ⟨t300,A20,H⟩:=H
 replace H : (some t300) = some r:=H
 have A2:=aM A20
 clear A20
 obtain rfl:=Option.some.inj H
 go_enter Try.func54,Try.ntmps54
 go_wp2_with (first|((with_reducible refine gate_callee (f:=59) rfl ?_);refine goesL_ (some 4) rfl rfl Try.func59 (by kernel_rfl) rfl #[.int .i64 a0,.int .i64 1,.int .i64 30] rfl (by (try simp only [List.map_toArray,List.map_cons,List.map_nil]);first|done|rfl|(simp only [List.length_drop,List.length_take];rfl)) ?_;(with_reducible refine (impl_within.calls a0 1 30 t300 _ A2.out).mono ?_);rintro e w' ⟨rfl,⟨nd,rfl⟩⟩;refine ⟨_,rfl,?_⟩))
 go_ret
 exact ⟨by first|rfl|(simp;done)|(simp [*];done),by repeat (first|exact Drawn0.refl _|apply Drawn0.step)⟩

end Go.Proofs.Ytkkfokcbbhnjeaa.P
