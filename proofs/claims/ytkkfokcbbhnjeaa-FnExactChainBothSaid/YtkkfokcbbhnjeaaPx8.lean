/- The printed functions: what each Go function computes, as a Lean function, and that the Go code comes to just that. Conditions: none beyond each contract's own. -/
import Derived.Test.YtkkfokcbbhnjeaaPx0
import Derived.Test.YtkkfokcbbhnjeaaPx1
import Derived.Test.YtkkfokcbbhnjeaaPx7
namespace Go.Proofs.Ytkkfokcbbhnjeaa.P
open Go.RowKit Go.Proofs.YtkkfokcbbhnjeaaW.PrintWords Go.Proofs.YtkkfokcbbhnjeaaW.PrintLast Go.Proofs.YtkkfokcbbhnjeaaW.PrintMore
attribute [local go_sem] max2_int min2_int max_two min_two max_three min_three max_four min_four   -- for this text's walks alone
set_option linter.unusedVariables false
set_option linter.unusedSimpArgs false

attribute [local go_sem high] eqA56
-- NOT PRINTED: function 56 (impl_Item_56)

/-! ### impl_Item_57: function 57 -/
def impl_Item_57.f (l0 : List (S56)) : Option (List (S56)):=if l0.length < 4398046511104 then some l0 else none
set_option maxHeartbeats 8000000 in
set_option maxRecDepth 100000 in
theorem impl_Item_57.calls (A0 : Option Addr) (c0 : Nat) (l0 : List (S56)) (r : List (S56)) (w : World) (hr0 : Kd.C k56 w A0 l0.length l0) (hc0 : l0.length ≤ c0) (h : impl_Item_57.f l0 = some r) :
  Calls Try.prog 57 #[.slice A0 l0.length c0] w fun e w' => ∃ v0_ : Value,e = .returned (v0_) ∧ Kd.R k56 56 w' w.heap.size (fun _ => True) v0_ r ∧ Below w.heap.size w w':=by
 have hlim : l0.length < 4398046511104:=by
  unfold impl_Item_57.f at h
  by_cases hx : l0.length < 4398046511104
  ·exact hx
  ·rw [if_neg hx] at h
   cases h
 have hr : l0 = r:=by
  unfold impl_Item_57.f at h
  rw [if_pos hlim] at h
  exact Option.some.inj h
 have HR:=aM hr
 have HR0:=aM hr0
 have LMc2:=aM hlim
 clear hr h
 cases A0 with
 | none =>
  have hn : l0 = []:=by
   cases l0 with
   | nil => rfl
   | cons x xs =>
    obtain ⟨ad,he,_⟩:=hr0.2.2 (by simp)
    cases he
  have HN:=aM hn
  clear hr0 hc0 hlim hn
  have heq:=fun (w : World) (a : Option Addr) (l c : Nat) => Go.run_eql_slice_nil (P:=Try.prog) w 28 56 a l c Try.underlying28
  go_enter Try.func57,Try.ntmps57
  go_wp2
  go_ret
  exact ⟨_,rfl,by rw [← HR.out,HN.out];exact Kd.R_nil _ _ _ _ _,Below.refl _ _⟩
 | some a0 =>
  have HC0:=aM hc0
  clear hr0 hc0 hlim
  have HB:=aM (Below.refl w.heap.size w)
  obtain ⟨y1,hy1⟩ : ∃ y_ : List (S56),y_ = ([] : List (S56)):=⟨_,rfl⟩
  have Ny1:=aM hy1
  clear hy1
  have heq:=fun (w : World) (a : Option Addr) (l c : Nat) => Go.run_eql_slice_nil (P:=Try.prog) w 28 56 a l c Try.underlying28
  obtain ⟨y2,hy2⟩ : ∃ y_ : List (S56),y_ = (y1 ++ l0):=⟨_,rfl⟩
  have Ny2:=aM hy2
  clear hy2
  go_enter Try.func57,Try.ntmps57
  go_wp2_with (first|((with_reducible refine gate_dst (N:=5) rfl ?_);refine Kd.R_lit k56 _ 56 ?hg (N:=5) ?hd (xs:=([] : List (S56))) (inner:=[]) (ok:=fun _ => True) (okp:=fun _ => True) ?hr ?hp (fun _ hk => hk) trivial (Below.refl _ _) (Nat.le_refl _) (by simp) ?_;(case hd => rfl);(case hg => rfl);(case hr => first|(go_simp;done)|(go_simp;rfl));(case hp => exact (Reps.none _ _));intro v1 w3 ho4 hb hg_ hnew_;clear hg_ hnew_;rw [← Ny1.out] at ho4;have n0_:=aM (Kd.R_lower ho4 (below_size (by repeat (first|(with_reducible first|exact HB.out|apply bA|apply bN|apply bD)|exact HB.out))));have n1_:=aM (below_step (by repeat (first|(with_reducible first|exact HB.out|apply bA|apply bN|apply bD)|exact HB.out)) hb);clear HB;have HO1:=n0_;have HB:=n1_;clear n0_ n1_;clear hb ho4)|((with_reducible refine gate_builtin (b:=.append) (xs:=#[.tmp 5,.tmp 6]) rfl ?_);at_builtin;refine Kd.R_append_rows k56 (w0:=w) w.heap.size rfl (.tmp 5) (.tmp 6) 28 56 (.agg #[(.int .i64 0),(.int .i64 0),(.int .i64 0),(.int .i64 0)]) 32 rfl Try.underlying28 info56 rfl (by decide) (by omega) v1 y1 l0 _ _ _ (fun _ => True) (fun _ => False) rfl rfl ?aO ?aR (fun _ _ h => h) (fun _ h => h.elim) ?aF ?aB ?aS ?aL ?_;(case aR => repeat (first|exact (Kd.C_below HR0.out HB.out)|(with_reducible refine Kd.C_alloc ?_ _)|(with_reducible refine Kd.C_drewN ?_ _)|(with_reducible refine Kd.C_drew ?_)));(case aB => exact (by repeat (first|(with_reducible first|exact HB.out|apply bA|apply bN|apply bD)|exact HB.out)));(case aF => exact (fun _ _ => trivial));(case aO => exact (by (with_reducible repeat (first|apply Kd.R_alloc|apply Kd.R_drewN|apply Kd.R_drew));exact HO1.out));(case aS => exact (below_size (by repeat (first|(with_reducible first|exact HB.out|apply bA|apply bN|apply bD)|exact HB.out))));(case aL => have h1:=LMc2.out;have h2:=Ny1.out;rw [h2];simp only [List.length_nil,Nat.zero_add];omega);intro v2 w5 ho hb hg hat;rw [← Ny2.out] at ho;have n0_:=aM (hb);have n1_:=aM (ho);clear HB;clear HO1;have HB:=n0_;have HO2:=n1_;clear n0_ n1_;clear ho hb hg hat))
  go_ret
  refine ⟨_,rfl,?_,by repeat (first|(with_reducible first|exact HB.out|apply bA|apply bN|apply bD)|exact HB.out)⟩
  have e : y2 = r:=by rw [Ny2.out,Ny1.out,List.nil_append,HR.out]
  rw [← e]
  (with_reducible repeat (first|apply Kd.R_alloc|apply Kd.R_drewN|apply Kd.R_drew));exact HO2.out

/-! ### impl_copied: function 43 -/
def impl_copied.f (l0 : List (S56)) : Option (List (S56)):=impl_Item_57.f l0
set_option maxHeartbeats 1000000 in
set_option maxRecDepth 100000 in
theorem item_clip (A : Option Addr) (n c : Nat) (w : World) (hn : n ≤ c) (hc : c ≤ 9223372036854775807) :
  Calls Try.prog 56 #[.slice A n c] w fun e w' => e = .returned (.slice A n n) ∧ w = w':=by
 go_enter Try.func56,Try.ntmps56
 go_wp2
 go_ret
 exact ⟨rfl,rfl⟩
set_option maxHeartbeats 8000000 in
set_option maxRecDepth 100000 in
/-- The copy is a row of the call's own, its capacity cut to its length. -/
theorem impl_copied.callsX (A0 : Option Addr) (c0 : Nat) (l0 : List (S56)) (r : List (S56)) (w : World) (hr0 : Kd.C k56 w A0 l0.length l0) (hc0 : l0.length ≤ c0) (h : impl_copied.f l0 = some r) :
  Calls Try.prog 43 #[.slice A0 l0.length c0] w fun e w' => ∃ (A : Option Addr) (c : Nat),e = .returned (.slice A r.length r.length) ∧ Kd.R k56 56 w' w.heap.size (fun _ => True) (.slice A r.length c) r ∧ Below w.heap.size w w':=by
 have hcl:=impl_Item_57.calls A0 c0 l0 r w hr0 hc0 h
 have HCL:=aM hcl
 clear hcl h hr0 hc0
 go_enter Try.func43,Try.ntmps43
 go_wp2_with (first|(go_at_call 57;refine HCL.out.mono ?_;rintro e w1 ⟨v1,rfl,ho1,hb1⟩;obtain ⟨A1,c1,hv1,hl1,hC1⟩:=Kd.R_reads ho1;have HM:=aM (row_cap ho1 hv1);subst hv1;have HO1:=aM ho1;have HB1:=aM hb1;have HL1:=aM hl1;clear ho1 hb1 hl1 hC1)|(go_at_call 56;refine (item_clip A1 r.length c1 _ HL1.out HM.out).mono ?_;rintro e w' ⟨rfl,rfl⟩))
 go_ret
 exact ⟨A1,c1,rfl,HO1.out,HB1.out⟩
theorem impl_copied.calls (A0 : Option Addr) (c0 : Nat) (l0 : List (S56)) (r : List (S56)) (w : World) (hr0 : Kd.C k56 w A0 l0.length l0) (hc0 : l0.length ≤ c0) (h : impl_copied.f l0 = some r) :
  Calls Try.prog 43 #[.slice A0 l0.length c0] w fun e w' => ∃ v0_ : Value,e = .returned (v0_) ∧ Kd.V k56 56 w' w.heap.size (fun k_ => (w.heap.size ≤ k_)) v0_ r ∧ Below w.heap.size w w':=by
 refine (impl_copied.callsX A0 c0 l0 r w hr0 hc0 h).mono ?_
 rintro e w' ⟨A,c,rfl,ho,hb⟩
 exact ⟨_,rfl,Kd.V_mk (Nat.le_refl _) (Kd.F_mono (Kd.R_F (Kd.R_bound ho)) (fun k hk => hk.2.1)),hb⟩

/-! ### impl_ChainBoth: function 21 -/
mutual
def impl_ChainBoth.j0 : Nat → List (S56) → List (S56) → Bool → Option ((List (S56)))
 | 0,_,_,_ => none
 | k + 1,x0,x1,x13 => if x13 = true then (some ([] : List (S56))) else (impl_ChainBoth.l0 k x0 x1 0)
def impl_ChainBoth.l0 : Nat → List (S56) → List (S56) → Int → Option ((List (S56)))
 | 0,_,_,_ => none
 | k + 1,x0,x1,x5 => if (x1.length : Int) < (x0.length : Int) then (if x5 < (x1.length : Int) then (if 0 ≤ x5 then (if x5 < (x0.length : Int) then (if (((rd_T56 x0 x5).f0) == ((rd_T56 x1 x5).f0) && ((((rd_T56 x0 x5).f1.f0) == ((rd_T56 x1 x5).f1.f0) && (((rd_T56 x0 x5).f1.f1) == ((rd_T56 x1 x5).f1.f1) && (((rd_T56 x0 x5).f1.f2) == ((rd_T56 x1 x5).f1.f2)))))) = true then (impl_ChainBoth.l0 k x0 x1 (wrap64 (x5 + 1))) else (if x5 ≤ (x0.length : Int) then ((impl_copied.f (x0.take (x5 : Int).toNat)).bind fun t314 => (some t314)) else (none))) else (none)) else (none)) else (if 0 ≤ x5 then (if x5 ≤ (x0.length : Int) then ((impl_copied.f (x0.take (x5 : Int).toNat)).bind fun t321 => (some t321)) else (none)) else (none))) else (if x5 < (x0.length : Int) then (if 0 ≤ x5 then (if x5 < (x1.length : Int) then (if (((rd_T56 x0 x5).f0) == ((rd_T56 x1 x5).f0) && ((((rd_T56 x0 x5).f1.f0) == ((rd_T56 x1 x5).f1.f0) && (((rd_T56 x0 x5).f1.f1) == ((rd_T56 x1 x5).f1.f1) && (((rd_T56 x0 x5).f1.f2) == ((rd_T56 x1 x5).f1.f2)))))) = true then (impl_ChainBoth.l0 k x0 x1 (wrap64 (x5 + 1))) else (if x5 ≤ (x0.length : Int) then ((impl_copied.f (x0.take (x5 : Int).toNat)).bind fun t330 => (some t330)) else (none))) else (none)) else (none)) else (if 0 ≤ x5 then (if x5 ≤ (x0.length : Int) then ((impl_copied.f (x0.take (x5 : Int).toNat)).bind fun t337 => (some t337)) else (none)) else (none)))
end
def impl_ChainBoth.f (k : Nat) (l0 : List (S56)) (l1 : List (S56)) : Option ((List (S56))):=(impl_ChainOk.f k l0).bind fun t306 => (if t306 = true then ((impl_ChainOk.f k l1).bind fun t307 => (impl_ChainBoth.j0 k l0 l1 (!t307))) else (impl_ChainBoth.j0 k l0 l1 true))
theorem impl_ChainBoth.mono_l : ∀ k,(∀ y0 y1 y2,LeO (impl_ChainBoth.j0 k y0 y1 y2) (impl_ChainBoth.j0 (k + 1) y0 y1 y2)) ∧ (∀ y0 y1 y2,LeO (impl_ChainBoth.l0 k y0 y1 y2) (impl_ChainBoth.l0 (k + 1) y0 y1 y2))
 | 0 => ⟨fun _ _ _ r h => by simp [impl_ChainBoth.j0] at h,fun _ _ _ r h => by simp [impl_ChainBoth.l0] at h⟩
 | k + 1 => by
  obtain ⟨ih0,ih1⟩:=impl_ChainBoth.mono_l k
  refine ⟨?_,?_⟩
  ·intro y0 y1 y2
   unfold impl_ChainBoth.j0
   repeat' first
   | exact LeO.refl _
   | exact ih0 _ _ _
   | exact ih1 _ _ _
   | exact impl_ChainOk.mono _ _
   | exact LeO.none _
   | refine LeO.ite ?_ ?_
   | refine LeO.bind ?_ (fun _ => ?_)
  ·intro y0 y1 y2
   unfold impl_ChainBoth.l0
   repeat' first
   | exact LeO.refl _
   | exact ih0 _ _ _
   | exact ih1 _ _ _
   | exact impl_ChainOk.mono _ _
   | exact LeO.none _
   | refine LeO.ite ?_ ?_
   | refine LeO.bind ?_ (fun _ => ?_)
theorem impl_ChainBoth.mono : ∀ a0 a1 k,LeO (impl_ChainBoth.f k a0 a1) (impl_ChainBoth.f (k + 1) a0 a1):=by
 intro a0 a1 k
 obtain ⟨ih0,ih1⟩:=impl_ChainBoth.mono_l k
 unfold impl_ChainBoth.f
 repeat' first
   | exact LeO.refl _
   | exact ih0 _ _ _
   | exact ih1 _ _ _
   | exact impl_ChainOk.mono _ _
   | exact LeO.none _
   | refine LeO.ite ?_ ?_
   | refine LeO.bind ?_ (fun _ => ?_)
set_option maxHeartbeats 8000000 in
set_option maxRecDepth 100000 in
theorem impl_ChainBoth.calls (k : Nat) (A0 : Option Addr) (c0 : Nat) (l0 : List (S56)) (A1 : Option Addr) (c1 : Nat) (l1 : List (S56)) (r : List (S56)) (w : World) (hr0 : Kd.C k56 w A0 l0.length l0) (hc0 : l0.length ≤ c0) (hr1 : Kd.C k56 w A1 l1.length l1) (hc1 : l1.length ≤ c1) (h : impl_ChainBoth.f k l0 l1 = some r) :
  Calls Try.prog 21 #[.slice A0 l0.length c0,.slice A1 l1.length c1] w fun e w' => ∃ v0_ : Value,e = .returned (v0_) ∧ Kd.V k56 56 w' w.heap.size (fun k_ => (w.heap.size ≤ k_)) v0_ r ∧ Below w.heap.size w w':=by
 have hu56:=Try.underlying56
 have HR0:=aM hr0
 have HC0:=aM hc0
 clear hr0 hc0
 have HR1:=aM hr1
 have HC1:=aM hc1
 clear hr1 hc1
 have HB:=aM (Below.refl w.heap.size w)
 have H : ((impl_ChainOk.f k l0).bind fun t306 => (if t306 = true then ((impl_ChainOk.f k l1).bind fun t307 => (impl_ChainBoth.j0 k l0 l1 (!t307))) else (impl_ChainBoth.j0 k l0 l1 true))) = some r:=h
 clear h
 have HC3:=aM H
 clear H
 go_enter Try.func21,Try.ntmps21
 go_upto_region 1 with (fail)
 repeat (go_quiet (fail);go_upto_region 1 with (fail))
 go_cut [13] (fun v13 wc => ∃ (kq : Nat) (x13_2 : Bool),v13 = .bool x13_2 ∧ Aside0 (impl_ChainBoth.j0 kq l0 l1 x13_2 = some r) ∧ Aside0 (kq ≤ k) ∧ Aside0 (Below w.heap.size w wc))
 case first =>
  have H:=HC3.out
  clear HC3
  replace H:=Option.bind_eq_some_iff.mp H
  obtain ⟨t306,A40,H⟩:=H
  replace H : (if t306 = true then ((impl_ChainOk.f k l1).bind fun t307 => (impl_ChainBoth.j0 k l0 l1 (!t307))) else (impl_ChainBoth.j0 k l0 l1 true)) = some r:=H
  have A4:=aM A40
  clear A40
  by_cases c5 : t306 = true
  ·subst c5
   have H1 : ((impl_ChainOk.f k l1).bind fun t307 => (impl_ChainBoth.j0 k l0 l1 (!t307))) = some r:=by rw [if_pos rfl] at H;exact H
   clear H
   have H:=H1
   clear H1
   replace H:=Option.bind_eq_some_iff.mp H
   obtain ⟨t307,A60,H⟩:=H
   replace H : (impl_ChainBoth.j0 k l0 l1 (!t307)) = some r:=H
   have A6:=aM A60
   clear A60
   have H':=aM H
   clear H
   go_wp2_with (first|(go_at_call 36;(with_reducible refine (impl_ChainOk.calls k _ _ l0 true _ ?side1 ?side2 A4.out).mono ?_);(case side1 => repeat (first|exact (Kd.C_below HR0.out HB.out)|(with_reducible refine Kd.C_alloc ?_ _)|(with_reducible refine Kd.C_drewN ?_ _)|(with_reducible refine Kd.C_drew ?_)));(case side2 => exact HC0.out);rintro e w7 ⟨rfl,hb⟩;have n0_:=aM (below_step (by repeat (first|(with_reducible first|exact HB.out|apply bA|apply bN|apply bD)|exact HB.out)) hb);clear HB;have HB:=n0_;clear n0_;(try clear hb);(try clear hb2);(try clear hk);(try clear hi))|(go_at_call 36;(with_reducible refine (impl_ChainOk.calls k _ _ l1 t307 _ ?side1 ?side2 A6.out).mono ?_);(case side1 => repeat (first|exact (Kd.C_below HR1.out HB.out)|(with_reducible refine Kd.C_alloc ?_ _)|(with_reducible refine Kd.C_drewN ?_ _)|(with_reducible refine Kd.C_drew ?_)));(case side2 => exact HC1.out);rintro e w8 ⟨rfl,hb⟩;have n0_:=aM (below_step (by repeat (first|(with_reducible first|exact HB.out|apply bA|apply bN|apply bD)|exact HB.out)) hb);clear HB;have HB:=n0_;clear n0_;(try clear hb);(try clear hb2);(try clear hk);(try clear hi)))
   repeat (go_quiet (first|(go_at_call 36;(with_reducible refine (impl_ChainOk.calls k _ _ l0 true _ ?side1 ?side2 A4.out).mono ?_);(case side1 => repeat (first|exact (Kd.C_below HR0.out HB.out)|(with_reducible refine Kd.C_alloc ?_ _)|(with_reducible refine Kd.C_drewN ?_ _)|(with_reducible refine Kd.C_drew ?_)));(case side2 => exact HC0.out);rintro e w7 ⟨rfl,hb⟩;have n0_:=aM (below_step (by repeat (first|(with_reducible first|exact HB.out|apply bA|apply bN|apply bD)|exact HB.out)) hb);clear HB;have HB:=n0_;clear n0_;(try clear hb);(try clear hb2);(try clear hk);(try clear hi))|(go_at_call 36;(with_reducible refine (impl_ChainOk.calls k _ _ l1 t307 _ ?side1 ?side2 A6.out).mono ?_);(case side1 => repeat (first|exact (Kd.C_below HR1.out HB.out)|(with_reducible refine Kd.C_alloc ?_ _)|(with_reducible refine Kd.C_drewN ?_ _)|(with_reducible refine Kd.C_drew ?_)));(case side2 => exact HC1.out);rintro e w8 ⟨rfl,hb⟩;have n0_:=aM (below_step (by repeat (first|(with_reducible first|exact HB.out|apply bA|apply bN|apply bD)|exact HB.out)) hb);clear HB;have HB:=n0_;clear n0_;(try clear hb);(try clear hb2);(try clear hk);(try clear hi)));try go_wp2_with (first|(go_at_call 36;(with_reducible refine (impl_ChainOk.calls k _ _ l0 true _ ?side1 ?side2 A4.out).mono ?_);(case side1 => repeat (first|exact (Kd.C_below HR0.out HB.out)|(with_reducible refine Kd.C_alloc ?_ _)|(with_reducible refine Kd.C_drewN ?_ _)|(with_reducible refine Kd.C_drew ?_)));(case side2 => exact HC0.out);rintro e w7 ⟨rfl,hb⟩;have n0_:=aM (below_step (by repeat (first|(with_reducible first|exact HB.out|apply bA|apply bN|apply bD)|exact HB.out)) hb);clear HB;have HB:=n0_;clear n0_;(try clear hb);(try clear hb2);(try clear hk);(try clear hi))|(go_at_call 36;(with_reducible refine (impl_ChainOk.calls k _ _ l1 t307 _ ?side1 ?side2 A6.out).mono ?_);(case side1 => repeat (first|exact (Kd.C_below HR1.out HB.out)|(with_reducible refine Kd.C_alloc ?_ _)|(with_reducible refine Kd.C_drewN ?_ _)|(with_reducible refine Kd.C_drew ?_)));(case side2 => exact HC1.out);rintro e w8 ⟨rfl,hb⟩;have n0_:=aM (below_step (by repeat (first|(with_reducible first|exact HB.out|apply bA|apply bN|apply bD)|exact HB.out)) hb);clear HB;have HB:=n0_;clear n0_;(try clear hb);(try clear hb2);(try clear hk);(try clear hi))))
   go_meet
   case rel => exact ⟨_,(!t307),(by first|rfl|(simp;done)|(simp [*];done)),H',⟨by first|omega|exact Nat.le_refl _⟩,⟨by repeat (first|(with_reducible first|exact HB.out|apply bA|apply bN|apply bD)|exact HB.out)⟩⟩
  ·replace c5:=Bool.eq_false_iff.mpr c5
   subst c5
   have H1 : (impl_ChainBoth.j0 k l0 l1 true) = some r:=by rw [if_neg (show ¬ (false = true) by decide)] at H;exact H
   clear H
   have H:=H1
   clear H1
   have H':=aM H
   clear H
   go_wp2_with (first|(go_at_call 36;(with_reducible refine (impl_ChainOk.calls k _ _ l0 false _ ?side1 ?side2 A4.out).mono ?_);(case side1 => repeat (first|exact (Kd.C_below HR0.out HB.out)|(with_reducible refine Kd.C_alloc ?_ _)|(with_reducible refine Kd.C_drewN ?_ _)|(with_reducible refine Kd.C_drew ?_)));(case side2 => exact HC0.out);rintro e w9 ⟨rfl,hb⟩;have n0_:=aM (below_step (by repeat (first|(with_reducible first|exact HB.out|apply bA|apply bN|apply bD)|exact HB.out)) hb);clear HB;have HB:=n0_;clear n0_;(try clear hb);(try clear hb2);(try clear hk);(try clear hi)))
   repeat (go_quiet (first|(go_at_call 36;(with_reducible refine (impl_ChainOk.calls k _ _ l0 false _ ?side1 ?side2 A4.out).mono ?_);(case side1 => repeat (first|exact (Kd.C_below HR0.out HB.out)|(with_reducible refine Kd.C_alloc ?_ _)|(with_reducible refine Kd.C_drewN ?_ _)|(with_reducible refine Kd.C_drew ?_)));(case side2 => exact HC0.out);rintro e w9 ⟨rfl,hb⟩;have n0_:=aM (below_step (by repeat (first|(with_reducible first|exact HB.out|apply bA|apply bN|apply bD)|exact HB.out)) hb);clear HB;have HB:=n0_;clear n0_;(try clear hb);(try clear hb2);(try clear hk);(try clear hi)));try go_wp2_with (first|(go_at_call 36;(with_reducible refine (impl_ChainOk.calls k _ _ l0 false _ ?side1 ?side2 A4.out).mono ?_);(case side1 => repeat (first|exact (Kd.C_below HR0.out HB.out)|(with_reducible refine Kd.C_alloc ?_ _)|(with_reducible refine Kd.C_drewN ?_ _)|(with_reducible refine Kd.C_drew ?_)));(case side2 => exact HC0.out);rintro e w9 ⟨rfl,hb⟩;have n0_:=aM (below_step (by repeat (first|(with_reducible first|exact HB.out|apply bA|apply bN|apply bD)|exact HB.out)) hb);clear HB;have HB:=n0_;clear n0_;(try clear hb);(try clear hb2);(try clear hk);(try clear hi))))
   go_meet
   case rel => exact ⟨_,(true),(by first|rfl|(simp;done)|(simp [*];done)),H',⟨by first|omega|exact Nat.le_refl _⟩,⟨by repeat (first|(with_reducible first|exact HB.out|apply bA|apply bN|apply bD)|exact HB.out)⟩⟩
 case rest =>
  clear HC3
  try clear c1
  try clear c2
  try clear p2
  try clear c5
  obtain ⟨kq,x13_2,rfl,HA,HJ2,HB⟩:=hcut
  cases kq with
  | zero => exact absurd HA.out (by simp [impl_ChainBoth.j0])
  | succ kj2 =>
   have H:=HA.out
   clear HA
   simp only [impl_ChainBoth.j0] at H
   by_cases c10 : x13_2 = true
   ·subst c10
    have H1 : (some ([] : List (S56))) = some r:=by rw [if_pos rfl] at H;exact H
    clear H
    have H:=H1
    clear H1
    obtain rfl:=Option.some.inj H
    go_wp2
    repeat (go_quiet (fail);try go_wp2)
    go_ret
    exact ⟨_,by first|rfl|(simp only [i64_w,i32_w];done)|(simp only [i64_w,i32_w];rfl)|(simp [errW_none,errW_some] <;> rfl)|(simp [*,errW_none,errW_some] <;> rfl),Kd.V_nil _ _ _ _ _,by repeat (first|(with_reducible first|exact HB.out|apply bA|apply bN|apply bD)|exact HB.out)⟩
   ·replace c10:=Bool.eq_false_iff.mpr c10
    subst c10
    have H1 : (impl_ChainBoth.l0 kj2 l0 l1 0) = some r:=by rw [if_neg (show ¬ (false = true) by decide)] at H;exact H
    clear H
    have H:=H1
    clear H1
    have H':=aM H
    clear H
    go_wp2
    repeat (go_quiet (fail);try go_wp2)
    go_loopg [5] kj2 (fun kq v5 w' => ∃ (x5_2 : Int),v5 = .int .i64 x5_2 ∧ Aside0 (impl_ChainBoth.l0 kq l0 l1 x5_2 = some r) ∧ Aside0 (kq ≤ kj2) ∧ Aside0 (Below w.heap.size w w'))
    case atStart => exact ⟨(0),(by first|rfl|(simp;done)|(simp [*];done)),H',⟨Nat.le_refl _⟩,⟨by repeat (first|(with_reducible first|exact HB.out|apply bA|apply bN|apply bD)|exact HB.out)⟩⟩
    case round =>
     clear H'
     try clear c1
     try clear c2
     try clear p2
     try clear c5
     try clear c10
     try clear p2
     obtain ⟨x5_2,rfl,HA,HK2,HB⟩:=hrel
     cases gk with
     | zero => exact absurd HA.out (by simp [impl_ChainBoth.l0])
     | succ k2 =>
      have H:=HA.out
      clear HA
      simp only [impl_ChainBoth.l0] at H
      by_cases c11 : (l1.length : Int) < (l0.length : Int)
      ·rw [if_pos c11] at H
       have c11i:=eq_true c11
       have c11b0 : decide ((l1.length : Int) < (l0.length : Int)) = true:=decide_eq_true c11
       have c11b1 : decide (l1.length < l0.length) = true:=decide_eq_true (Int.ofNat_lt.mp c11)
       clear c11
       by_cases c12 : x5_2 < (l1.length : Int)
       ·rw [if_pos c12] at H
        have c12b0 : decide (x5_2 < (l1.length : Int)) = true:=decide_eq_true c12
        clear c12
        by_cases c13 : 0 ≤ x5_2
        case neg => rw [if_neg c13] at H;exact absurd H (by simp)
        rw [if_pos c13] at H
        have c13b0 : decide (0 ≤ x5_2) = true:=decide_eq_true c13
        clear c13
        by_cases c14 : x5_2 < (l0.length : Int)
        case neg => rw [if_neg c14] at H;exact absurd H (by simp)
        rw [if_pos c14] at H
        have c14b0 : decide (x5_2 < (l0.length : Int)) = true:=decide_eq_true c14
        clear c14
        by_cases c15 : (((rd_T56 l0 x5_2).f0) == ((rd_T56 l1 x5_2).f0) && ((((rd_T56 l0 x5_2).f1.f0) == ((rd_T56 l1 x5_2).f1.f0) && (((rd_T56 l0 x5_2).f1.f1) == ((rd_T56 l1 x5_2).f1.f1) && (((rd_T56 l0 x5_2).f1.f2) == ((rd_T56 l1 x5_2).f1.f2)))))) = true
        ·rw [if_pos c15] at H
         have c15b0 : (((rd_T56 l0 x5_2).f0) == ((rd_T56 l1 x5_2).f0) && ((((rd_T56 l0 x5_2).f1.f0) == ((rd_T56 l1 x5_2).f1.f0) && (((rd_T56 l0 x5_2).f1.f1) == ((rd_T56 l1 x5_2).f1.f1) && (((rd_T56 l0 x5_2).f1.f2) == ((rd_T56 l1 x5_2).f1.f2)))))) = true:=c15
         (try (have c15b1 : decide (((rd_T56 l0 x5_2).f0) = ((rd_T56 l1 x5_2).f0) && ((((rd_T56 l0 x5_2).f1.f0) == ((rd_T56 l1 x5_2).f1.f0) && (((rd_T56 l0 x5_2).f1.f1) == ((rd_T56 l1 x5_2).f1.f1) && (((rd_T56 l0 x5_2).f1.f2) == ((rd_T56 l1 x5_2).f1.f2)))))) = true:=by simpa using c15))
         (try (have c15b2 : (((rd_T56 l0 x5_2).f0) == ((rd_T56 l1 x5_2).f0) && ((((rd_T56 l0 x5_2).f1.f0) == ((rd_T56 l1 x5_2).f1.f0) && (((rd_T56 l0 x5_2).f1.f1) == ((rd_T56 l1 x5_2).f1.f1) && (((rd_T56 l0 x5_2).f1.f2) == ((rd_T56 l1 x5_2).f1.f2)))))) = true:=by simpa using c15))
         clear c15
         have H':=aM H
         clear H
         have p308 : 0 ≤ (x5_2 : Int):=of_decide_eq_true (by first|(with_reducible assumption)|assumption)
         have q308 : x5_2 < (l0.length : Int):=of_decide_eq_true (by first|(with_reducible assumption)|assumption)
         obtain ⟨ad308,e308,hx308_0,hx308_1,hx308_2,hx308_3⟩:=at_T56 HR0.out x5_2 p308 q308
         cases e308
         replace hx308_0:=(HB.out.cell (bL w hx308_0)).trans hx308_0
         replace hx308_1:=(HB.out.cell (bL w hx308_1)).trans hx308_1
         replace hx308_2:=(HB.out.cell (bL w hx308_2)).trans hx308_2
         replace hx308_3:=(HB.out.cell (bL w hx308_3)).trans hx308_3
         replace p308:=eq_true p308
         replace q308:=eq_true q308
         have p309 : 0 ≤ (x5_2 : Int):=of_decide_eq_true (by first|(with_reducible assumption)|assumption)
         have q309 : x5_2 < (l1.length : Int):=of_decide_eq_true (by first|(with_reducible assumption)|assumption)
         obtain ⟨ad309,e309,hx309_0,hx309_1,hx309_2,hx309_3⟩:=at_T56 HR1.out x5_2 p309 q309
         cases e309
         replace hx309_0:=(HB.out.cell (bL w hx309_0)).trans hx309_0
         replace hx309_1:=(HB.out.cell (bL w hx309_1)).trans hx309_1
         replace hx309_2:=(HB.out.cell (bL w hx309_2)).trans hx309_2
         replace hx309_3:=(HB.out.cell (bL w hx309_3)).trans hx309_3
         replace p309:=eq_true p309
         replace q309:=eq_true q309
         go_wp2
         repeat (go_quiet (fail);try go_wp2)
         go_roundg k2
         case measure => have:=HJ2.out;have:=HK2.out;omega
         case rel => exact ⟨(wrap64 (x5_2 + 1)),(by first|rfl|(simp;done)|(simp [*];done)),H',⟨by have:=HJ2.out;have:=HK2.out;omega⟩,⟨by repeat (first|(with_reducible first|exact HB.out|apply bA|apply bN|apply bD)|exact HB.out)⟩⟩
        ·rw [if_neg c15] at H
         have c15b0 : (((rd_T56 l0 x5_2).f0) == ((rd_T56 l1 x5_2).f0) && ((((rd_T56 l0 x5_2).f1.f0) == ((rd_T56 l1 x5_2).f1.f0) && (((rd_T56 l0 x5_2).f1.f1) == ((rd_T56 l1 x5_2).f1.f1) && (((rd_T56 l0 x5_2).f1.f2) == ((rd_T56 l1 x5_2).f1.f2)))))) = false:=by simpa using c15
         (try (have c15b1 : decide (((rd_T56 l0 x5_2).f0) = ((rd_T56 l1 x5_2).f0) && ((((rd_T56 l0 x5_2).f1.f0) == ((rd_T56 l1 x5_2).f1.f0) && (((rd_T56 l0 x5_2).f1.f1) == ((rd_T56 l1 x5_2).f1.f1) && (((rd_T56 l0 x5_2).f1.f2) == ((rd_T56 l1 x5_2).f1.f2)))))) = false:=by simpa using c15))
         (try (have c15b2 : (((rd_T56 l0 x5_2).f0) == ((rd_T56 l1 x5_2).f0) && ((((rd_T56 l0 x5_2).f1.f0) == ((rd_T56 l1 x5_2).f1.f0) && (((rd_T56 l0 x5_2).f1.f1) == ((rd_T56 l1 x5_2).f1.f1) && (((rd_T56 l0 x5_2).f1.f2) == ((rd_T56 l1 x5_2).f1.f2)))))) = false:=by simpa using c15))
         (try (have c15b3 : ¬ (((rd_T56 l0 x5_2).f0) = ((rd_T56 l1 x5_2).f0) && ((((rd_T56 l0 x5_2).f1.f0) == ((rd_T56 l1 x5_2).f1.f0) && (((rd_T56 l0 x5_2).f1.f1) == ((rd_T56 l1 x5_2).f1.f1) && (((rd_T56 l0 x5_2).f1.f2) == ((rd_T56 l1 x5_2).f1.f2)))))):=by simpa using c15))
         clear c15
         have c16b0:=eq_true (of_decide_eq_true (by first|(with_reducible assumption)|assumption) : 0 ≤ x5_2)
         by_cases c17 : x5_2 ≤ (l0.length : Int)
         case neg => rw [if_neg c17] at H;exact absurd H (by simp)
         rw [if_pos c17] at H
         have c17b0:=eq_true c17
         have c17b1 : decide (x5_2 ≤ (l0.length : Int)) = true:=decide_eq_true c17
         clear c17
         obtain ⟨y310,hy310⟩ : ∃ y_ : List (S56),y_ = (l0.take (x5_2 : Int).toNat):=⟨_,rfl⟩
         replace H : ((impl_copied.f y310).bind fun t314 => (some t314)) = some r:=by first|(rw [hy310];with_reducible exact H)|(have H2_:=(Option.bind_some _ _).symm.trans H;rw [hy310];with_reducible exact H2_)|(have H2_:=(Option.bind_some _ _).symm.trans H;with_reducible exact H2_)|with_reducible exact H|(rw [hy310];exact H)|exact H
         have Ny310:=aM hy310
         clear hy310
         replace H:=Option.bind_eq_some_iff.mp H
         obtain ⟨t314,A180,H⟩:=H
         replace H : (some t314) = some r:=H
         have A18:=aM A180
         clear A180
         obtain rfl:=Option.some.inj H
         have p308 : 0 ≤ (x5_2 : Int):=of_decide_eq_true (by first|(with_reducible assumption)|assumption)
         have q308 : x5_2 < (l0.length : Int):=of_decide_eq_true (by first|(with_reducible assumption)|assumption)
         obtain ⟨ad308,e308,hx308_0,hx308_1,hx308_2,hx308_3⟩:=at_T56 HR0.out x5_2 p308 q308
         cases e308
         replace hx308_0:=(HB.out.cell (bL w hx308_0)).trans hx308_0
         replace hx308_1:=(HB.out.cell (bL w hx308_1)).trans hx308_1
         replace hx308_2:=(HB.out.cell (bL w hx308_2)).trans hx308_2
         replace hx308_3:=(HB.out.cell (bL w hx308_3)).trans hx308_3
         replace p308:=eq_true p308
         replace q308:=eq_true q308
         have p309 : 0 ≤ (x5_2 : Int):=of_decide_eq_true (by first|(with_reducible assumption)|assumption)
         have q309 : x5_2 < (l1.length : Int):=of_decide_eq_true (by first|(with_reducible assumption)|assumption)
         obtain ⟨ad309,e309,hx309_0,hx309_1,hx309_2,hx309_3⟩:=at_T56 HR1.out x5_2 p309 q309
         cases e309
         replace hx309_0:=(HB.out.cell (bL w hx309_0)).trans hx309_0
         replace hx309_1:=(HB.out.cell (bL w hx309_1)).trans hx309_1
         replace hx309_2:=(HB.out.cell (bL w hx309_2)).trans hx309_2
         replace hx309_3:=(HB.out.cell (bL w hx309_3)).trans hx309_3
         replace p309:=eq_true p309
         replace q309:=eq_true q309
         have q19 : (x5_2 : Int) ≤ ((l0.length : Int) : Int):=of_decide_eq_true (by first|(with_reducible assumption)|assumption)
         obtain ⟨i019,hi019,_,hsz19,_⟩:=info_parts info56
         have hroom19 : l0.length ≤ c0:=HC0.out
         have hC19 : Kd.C k56 _ (some ad308) l0.length l0:=HR0.out
         have hcut19:=cut_to (P:=Try.prog) 28 56 .i64 Try.underlying28 hi019 (some ad308) l0.length c0 x5_2 (of_decide_eq_true (by first|(with_reducible assumption)|assumption)) q19 hroom19
         have hr19:=Kd.C_take (m:=(x5_2 : Int).toNat) hC19 (by omega)
         have hy19 : y310.length = (x5_2 : Int).toNat:=(by rw [Ny310.out,List.length_take];omega)
         rw [← Ny310.out] at hr19
         rw [← hy19] at hcut19
         have HR313:=aM hr19
         have HC313:=aM (show y310.length ≤ c0 from by omega)
         clear hr19 hC19 hroom19 hi019 hsz19
         have KY19:=aM hy19
         clear hy19
         replace q19:=eq_true q19
         go_wp2_with (first|(go_at_call 43;(with_reducible refine (impl_copied.calls _ _ y310 t314 _ ?side1 ?side2 A18.out).mono ?_);(case side1 => repeat (first|exact (Kd.C_below HR313.out HB.out)|(with_reducible refine Kd.C_alloc ?_ _)|(with_reducible refine Kd.C_drewN ?_ _)|(with_reducible refine Kd.C_drew ?_)));(case side2 => exact HC313.out);rintro e w20 ⟨v315,rfl,ho0,hb⟩;have n0_:=aM (Kd.V_lower (Kd.V_mono (ok':=fun k_ => (w.heap.size ≤ k_)) ho0 (fun k_ hk_ => (Nat.le_trans (below_size (by repeat (first|(with_reducible first|exact HB.out|apply bA|apply bN|apply bD)|exact HB.out))) hk_))) (below_size (by repeat (first|(with_reducible first|exact HB.out|apply bA|apply bN|apply bD)|exact HB.out))));have n1_:=aM (below_step (by repeat (first|(with_reducible first|exact HB.out|apply bA|apply bN|apply bD)|exact HB.out)) hb);clear HB;have HO316:=n0_;have HB:=n1_;clear n0_ n1_;(try clear hb);(try clear hb2);(try clear hk);(try clear hi);(try clear ho0)))
         repeat (go_quiet (first|(go_at_call 43;(with_reducible refine (impl_copied.calls _ _ y310 t314 _ ?side1 ?side2 A18.out).mono ?_);(case side1 => repeat (first|exact (Kd.C_below HR313.out HB.out)|(with_reducible refine Kd.C_alloc ?_ _)|(with_reducible refine Kd.C_drewN ?_ _)|(with_reducible refine Kd.C_drew ?_)));(case side2 => exact HC313.out);rintro e w20 ⟨v315,rfl,ho0,hb⟩;have n0_:=aM (Kd.V_lower (Kd.V_mono (ok':=fun k_ => (w.heap.size ≤ k_)) ho0 (fun k_ hk_ => (Nat.le_trans (below_size (by repeat (first|(with_reducible first|exact HB.out|apply bA|apply bN|apply bD)|exact HB.out))) hk_))) (below_size (by repeat (first|(with_reducible first|exact HB.out|apply bA|apply bN|apply bD)|exact HB.out))));have n1_:=aM (below_step (by repeat (first|(with_reducible first|exact HB.out|apply bA|apply bN|apply bD)|exact HB.out)) hb);clear HB;have HO316:=n0_;have HB:=n1_;clear n0_ n1_;(try clear hb);(try clear hb2);(try clear hk);(try clear hi);(try clear ho0)));try go_wp2_with (first|(go_at_call 43;(with_reducible refine (impl_copied.calls _ _ y310 t314 _ ?side1 ?side2 A18.out).mono ?_);(case side1 => repeat (first|exact (Kd.C_below HR313.out HB.out)|(with_reducible refine Kd.C_alloc ?_ _)|(with_reducible refine Kd.C_drewN ?_ _)|(with_reducible refine Kd.C_drew ?_)));(case side2 => exact HC313.out);rintro e w20 ⟨v315,rfl,ho0,hb⟩;have n0_:=aM (Kd.V_lower (Kd.V_mono (ok':=fun k_ => (w.heap.size ≤ k_)) ho0 (fun k_ hk_ => (Nat.le_trans (below_size (by repeat (first|(with_reducible first|exact HB.out|apply bA|apply bN|apply bD)|exact HB.out))) hk_))) (below_size (by repeat (first|(with_reducible first|exact HB.out|apply bA|apply bN|apply bD)|exact HB.out))));have n1_:=aM (below_step (by repeat (first|(with_reducible first|exact HB.out|apply bA|apply bN|apply bD)|exact HB.out)) hb);clear HB;have HO316:=n0_;have HB:=n1_;clear n0_ n1_;(try clear hb);(try clear hb2);(try clear hk);(try clear hi);(try clear ho0))))
         go_ret
         exact ⟨_,by first|rfl|(simp only [i64_w,i32_w];done)|(simp only [i64_w,i32_w];rfl)|(simp [errW_none,errW_some] <;> rfl)|(simp [*,errW_none,errW_some] <;> rfl),by (with_reducible repeat (first|apply Kd.V_alloc|apply Kd.V_drewN|apply Kd.V_drew));exact HO316.out,by repeat (first|(with_reducible first|exact HB.out|apply bA|apply bN|apply bD)|exact HB.out)⟩
       ·rw [if_neg c12] at H
        have c12b0 : decide (x5_2 < (l1.length : Int)) = false:=decide_eq_false c12
        clear c12
        by_cases c21 : 0 ≤ x5_2
        case neg => rw [if_neg c21] at H;exact absurd H (by simp)
        rw [if_pos c21] at H
        have c21b0:=eq_true c21
        have c21b1 : decide (0 ≤ x5_2) = true:=decide_eq_true c21
        clear c21
        by_cases c22 : x5_2 ≤ (l0.length : Int)
        case neg => rw [if_neg c22] at H;exact absurd H (by simp)
        rw [if_pos c22] at H
        have c22b0:=eq_true c22
        have c22b1 : decide (x5_2 ≤ (l0.length : Int)) = true:=decide_eq_true c22
        clear c22
        obtain ⟨y317,hy317⟩ : ∃ y_ : List (S56),y_ = (l0.take (x5_2 : Int).toNat):=⟨_,rfl⟩
        replace H : ((impl_copied.f y317).bind fun t321 => (some t321)) = some r:=by first|(rw [hy317];with_reducible exact H)|(have H2_:=(Option.bind_some _ _).symm.trans H;rw [hy317];with_reducible exact H2_)|(have H2_:=(Option.bind_some _ _).symm.trans H;with_reducible exact H2_)|with_reducible exact H|(rw [hy317];exact H)|exact H
        have Ny317:=aM hy317
        clear hy317
        replace H:=Option.bind_eq_some_iff.mp H
        obtain ⟨t321,A230,H⟩:=H
        replace H : (some t321) = some r:=H
        have A23:=aM A230
        clear A230
        obtain rfl:=Option.some.inj H
        have q24 : (x5_2 : Int) ≤ ((l0.length : Int) : Int):=of_decide_eq_true (by first|(with_reducible assumption)|assumption)
        obtain ⟨i024,hi024,_,hsz24,_⟩:=info_parts info56
        have hroom24 : l0.length ≤ c0:=HC0.out
        have hC24 : Kd.C k56 _ A0 l0.length l0:=HR0.out
        have hcut24:=cut_to (P:=Try.prog) 28 56 .i64 Try.underlying28 hi024 A0 l0.length c0 x5_2 (of_decide_eq_true (by first|(with_reducible assumption)|assumption)) q24 hroom24
        have hr24:=Kd.C_take (m:=(x5_2 : Int).toNat) hC24 (by omega)
        have hy24 : y317.length = (x5_2 : Int).toNat:=(by rw [Ny317.out,List.length_take];omega)
        rw [← Ny317.out] at hr24
        rw [← hy24] at hcut24
        have HR320:=aM hr24
        have HC320:=aM (show y317.length ≤ c0 from by omega)
        clear hr24 hC24 hroom24 hi024 hsz24
        have KY24:=aM hy24
        clear hy24
        replace q24:=eq_true q24
        go_wp2_with (first|(go_at_call 43;(with_reducible refine (impl_copied.calls _ _ y317 t321 _ ?side1 ?side2 A23.out).mono ?_);(case side1 => repeat (first|exact (Kd.C_below HR320.out HB.out)|(with_reducible refine Kd.C_alloc ?_ _)|(with_reducible refine Kd.C_drewN ?_ _)|(with_reducible refine Kd.C_drew ?_)));(case side2 => exact HC320.out);rintro e w25 ⟨v322,rfl,ho0,hb⟩;have n0_:=aM (Kd.V_lower (Kd.V_mono (ok':=fun k_ => (w.heap.size ≤ k_)) ho0 (fun k_ hk_ => (Nat.le_trans (below_size (by repeat (first|(with_reducible first|exact HB.out|apply bA|apply bN|apply bD)|exact HB.out))) hk_))) (below_size (by repeat (first|(with_reducible first|exact HB.out|apply bA|apply bN|apply bD)|exact HB.out))));have n1_:=aM (below_step (by repeat (first|(with_reducible first|exact HB.out|apply bA|apply bN|apply bD)|exact HB.out)) hb);clear HB;have HO323:=n0_;have HB:=n1_;clear n0_ n1_;(try clear hb);(try clear hb2);(try clear hk);(try clear hi);(try clear ho0)))
        repeat (go_quiet (first|(go_at_call 43;(with_reducible refine (impl_copied.calls _ _ y317 t321 _ ?side1 ?side2 A23.out).mono ?_);(case side1 => repeat (first|exact (Kd.C_below HR320.out HB.out)|(with_reducible refine Kd.C_alloc ?_ _)|(with_reducible refine Kd.C_drewN ?_ _)|(with_reducible refine Kd.C_drew ?_)));(case side2 => exact HC320.out);rintro e w25 ⟨v322,rfl,ho0,hb⟩;have n0_:=aM (Kd.V_lower (Kd.V_mono (ok':=fun k_ => (w.heap.size ≤ k_)) ho0 (fun k_ hk_ => (Nat.le_trans (below_size (by repeat (first|(with_reducible first|exact HB.out|apply bA|apply bN|apply bD)|exact HB.out))) hk_))) (below_size (by repeat (first|(with_reducible first|exact HB.out|apply bA|apply bN|apply bD)|exact HB.out))));have n1_:=aM (below_step (by repeat (first|(with_reducible first|exact HB.out|apply bA|apply bN|apply bD)|exact HB.out)) hb);clear HB;have HO323:=n0_;have HB:=n1_;clear n0_ n1_;(try clear hb);(try clear hb2);(try clear hk);(try clear hi);(try clear ho0)));try go_wp2_with (first|(go_at_call 43;(with_reducible refine (impl_copied.calls _ _ y317 t321 _ ?side1 ?side2 A23.out).mono ?_);(case side1 => repeat (first|exact (Kd.C_below HR320.out HB.out)|(with_reducible refine Kd.C_alloc ?_ _)|(with_reducible refine Kd.C_drewN ?_ _)|(with_reducible refine Kd.C_drew ?_)));(case side2 => exact HC320.out);rintro e w25 ⟨v322,rfl,ho0,hb⟩;have n0_:=aM (Kd.V_lower (Kd.V_mono (ok':=fun k_ => (w.heap.size ≤ k_)) ho0 (fun k_ hk_ => (Nat.le_trans (below_size (by repeat (first|(with_reducible first|exact HB.out|apply bA|apply bN|apply bD)|exact HB.out))) hk_))) (below_size (by repeat (first|(with_reducible first|exact HB.out|apply bA|apply bN|apply bD)|exact HB.out))));have n1_:=aM (below_step (by repeat (first|(with_reducible first|exact HB.out|apply bA|apply bN|apply bD)|exact HB.out)) hb);clear HB;have HO323:=n0_;have HB:=n1_;clear n0_ n1_;(try clear hb);(try clear hb2);(try clear hk);(try clear hi);(try clear ho0))))
        go_ret
        exact ⟨_,by first|rfl|(simp only [i64_w,i32_w];done)|(simp only [i64_w,i32_w];rfl)|(simp [errW_none,errW_some] <;> rfl)|(simp [*,errW_none,errW_some] <;> rfl),by (with_reducible repeat (first|apply Kd.V_alloc|apply Kd.V_drewN|apply Kd.V_drew));exact HO323.out,by repeat (first|(with_reducible first|exact HB.out|apply bA|apply bN|apply bD)|exact HB.out)⟩
      ·rw [if_neg c11] at H
       have c11i:=eq_false c11
       have c11b0 : decide ((l1.length : Int) < (l0.length : Int)) = false:=decide_eq_false c11
       have c11b1 : decide (l1.length < l0.length) = false:=decide_eq_false (fun h => c11 (Int.ofNat_lt.mpr h))
       clear c11
       by_cases c26 : x5_2 < (l0.length : Int)
       ·rw [if_pos c26] at H
        have c26b0 : decide (x5_2 < (l0.length : Int)) = true:=decide_eq_true c26
        clear c26
        by_cases c27 : 0 ≤ x5_2
        case neg => rw [if_neg c27] at H;exact absurd H (by simp)
        rw [if_pos c27] at H
        have c27b0 : decide (0 ≤ x5_2) = true:=decide_eq_true c27
        clear c27
        by_cases c28 : x5_2 < (l1.length : Int)
        case neg => rw [if_neg c28] at H;exact absurd H (by simp)
        rw [if_pos c28] at H
        have c28b0 : decide (x5_2 < (l1.length : Int)) = true:=decide_eq_true c28
        clear c28
        by_cases c29 : (((rd_T56 l0 x5_2).f0) == ((rd_T56 l1 x5_2).f0) && ((((rd_T56 l0 x5_2).f1.f0) == ((rd_T56 l1 x5_2).f1.f0) && (((rd_T56 l0 x5_2).f1.f1) == ((rd_T56 l1 x5_2).f1.f1) && (((rd_T56 l0 x5_2).f1.f2) == ((rd_T56 l1 x5_2).f1.f2)))))) = true
        ·rw [if_pos c29] at H
         have c29b0 : (((rd_T56 l0 x5_2).f0) == ((rd_T56 l1 x5_2).f0) && ((((rd_T56 l0 x5_2).f1.f0) == ((rd_T56 l1 x5_2).f1.f0) && (((rd_T56 l0 x5_2).f1.f1) == ((rd_T56 l1 x5_2).f1.f1) && (((rd_T56 l0 x5_2).f1.f2) == ((rd_T56 l1 x5_2).f1.f2)))))) = true:=c29
         (try (have c29b1 : decide (((rd_T56 l0 x5_2).f0) = ((rd_T56 l1 x5_2).f0) && ((((rd_T56 l0 x5_2).f1.f0) == ((rd_T56 l1 x5_2).f1.f0) && (((rd_T56 l0 x5_2).f1.f1) == ((rd_T56 l1 x5_2).f1.f1) && (((rd_T56 l0 x5_2).f1.f2) == ((rd_T56 l1 x5_2).f1.f2)))))) = true:=by simpa using c29))
         (try (have c29b2 : (((rd_T56 l0 x5_2).f0) == ((rd_T56 l1 x5_2).f0) && ((((rd_T56 l0 x5_2).f1.f0) == ((rd_T56 l1 x5_2).f1.f0) && (((rd_T56 l0 x5_2).f1.f1) == ((rd_T56 l1 x5_2).f1.f1) && (((rd_T56 l0 x5_2).f1.f2) == ((rd_T56 l1 x5_2).f1.f2)))))) = true:=by simpa using c29))
         clear c29
         have H':=aM H
         clear H
         have p324 : 0 ≤ (x5_2 : Int):=of_decide_eq_true (by first|(with_reducible assumption)|assumption)
         have q324 : x5_2 < (l0.length : Int):=of_decide_eq_true (by first|(with_reducible assumption)|assumption)
         obtain ⟨ad324,e324,hx324_0,hx324_1,hx324_2,hx324_3⟩:=at_T56 HR0.out x5_2 p324 q324
         cases e324
         replace hx324_0:=(HB.out.cell (bL w hx324_0)).trans hx324_0
         replace hx324_1:=(HB.out.cell (bL w hx324_1)).trans hx324_1
         replace hx324_2:=(HB.out.cell (bL w hx324_2)).trans hx324_2
         replace hx324_3:=(HB.out.cell (bL w hx324_3)).trans hx324_3
         replace p324:=eq_true p324
         replace q324:=eq_true q324
         have p325 : 0 ≤ (x5_2 : Int):=of_decide_eq_true (by first|(with_reducible assumption)|assumption)
         have q325 : x5_2 < (l1.length : Int):=of_decide_eq_true (by first|(with_reducible assumption)|assumption)
         obtain ⟨ad325,e325,hx325_0,hx325_1,hx325_2,hx325_3⟩:=at_T56 HR1.out x5_2 p325 q325
         cases e325
         replace hx325_0:=(HB.out.cell (bL w hx325_0)).trans hx325_0
         replace hx325_1:=(HB.out.cell (bL w hx325_1)).trans hx325_1
         replace hx325_2:=(HB.out.cell (bL w hx325_2)).trans hx325_2
         replace hx325_3:=(HB.out.cell (bL w hx325_3)).trans hx325_3
         replace p325:=eq_true p325
         replace q325:=eq_true q325
         go_wp2
         repeat (go_quiet (fail);try go_wp2)
         go_roundg k2
         case measure => have:=HJ2.out;have:=HK2.out;omega
         case rel => exact ⟨(wrap64 (x5_2 + 1)),(by first|rfl|(simp;done)|(simp [*];done)),H',⟨by have:=HJ2.out;have:=HK2.out;omega⟩,⟨by repeat (first|(with_reducible first|exact HB.out|apply bA|apply bN|apply bD)|exact HB.out)⟩⟩
        ·rw [if_neg c29] at H
         have c29b0 : (((rd_T56 l0 x5_2).f0) == ((rd_T56 l1 x5_2).f0) && ((((rd_T56 l0 x5_2).f1.f0) == ((rd_T56 l1 x5_2).f1.f0) && (((rd_T56 l0 x5_2).f1.f1) == ((rd_T56 l1 x5_2).f1.f1) && (((rd_T56 l0 x5_2).f1.f2) == ((rd_T56 l1 x5_2).f1.f2)))))) = false:=by simpa using c29
         (try (have c29b1 : decide (((rd_T56 l0 x5_2).f0) = ((rd_T56 l1 x5_2).f0) && ((((rd_T56 l0 x5_2).f1.f0) == ((rd_T56 l1 x5_2).f1.f0) && (((rd_T56 l0 x5_2).f1.f1) == ((rd_T56 l1 x5_2).f1.f1) && (((rd_T56 l0 x5_2).f1.f2) == ((rd_T56 l1 x5_2).f1.f2)))))) = false:=by simpa using c29))
         (try (have c29b2 : (((rd_T56 l0 x5_2).f0) == ((rd_T56 l1 x5_2).f0) && ((((rd_T56 l0 x5_2).f1.f0) == ((rd_T56 l1 x5_2).f1.f0) && (((rd_T56 l0 x5_2).f1.f1) == ((rd_T56 l1 x5_2).f1.f1) && (((rd_T56 l0 x5_2).f1.f2) == ((rd_T56 l1 x5_2).f1.f2)))))) = false:=by simpa using c29))
         (try (have c29b3 : ¬ (((rd_T56 l0 x5_2).f0) = ((rd_T56 l1 x5_2).f0) && ((((rd_T56 l0 x5_2).f1.f0) == ((rd_T56 l1 x5_2).f1.f0) && (((rd_T56 l0 x5_2).f1.f1) == ((rd_T56 l1 x5_2).f1.f1) && (((rd_T56 l0 x5_2).f1.f2) == ((rd_T56 l1 x5_2).f1.f2)))))):=by simpa using c29))
         clear c29
         have c30b0:=eq_true (of_decide_eq_true (by first|(with_reducible assumption)|assumption) : 0 ≤ x5_2)
         by_cases c31 : x5_2 ≤ (l0.length : Int)
         case neg => rw [if_neg c31] at H;exact absurd H (by simp)
         rw [if_pos c31] at H
         have c31b0:=eq_true c31
         have c31b1 : decide (x5_2 ≤ (l0.length : Int)) = true:=decide_eq_true c31
         clear c31
         obtain ⟨y326,hy326⟩ : ∃ y_ : List (S56),y_ = (l0.take (x5_2 : Int).toNat):=⟨_,rfl⟩
         replace H : ((impl_copied.f y326).bind fun t330 => (some t330)) = some r:=by first|(rw [hy326];with_reducible exact H)|(have H2_:=(Option.bind_some _ _).symm.trans H;rw [hy326];with_reducible exact H2_)|(have H2_:=(Option.bind_some _ _).symm.trans H;with_reducible exact H2_)|with_reducible exact H|(rw [hy326];exact H)|exact H
         have Ny326:=aM hy326
         clear hy326
         replace H:=Option.bind_eq_some_iff.mp H
         obtain ⟨t330,A320,H⟩:=H
         replace H : (some t330) = some r:=H
         have A32:=aM A320
         clear A320
         obtain rfl:=Option.some.inj H
         have p324 : 0 ≤ (x5_2 : Int):=of_decide_eq_true (by first|(with_reducible assumption)|assumption)
         have q324 : x5_2 < (l0.length : Int):=of_decide_eq_true (by first|(with_reducible assumption)|assumption)
         obtain ⟨ad324,e324,hx324_0,hx324_1,hx324_2,hx324_3⟩:=at_T56 HR0.out x5_2 p324 q324
         cases e324
         replace hx324_0:=(HB.out.cell (bL w hx324_0)).trans hx324_0
         replace hx324_1:=(HB.out.cell (bL w hx324_1)).trans hx324_1
         replace hx324_2:=(HB.out.cell (bL w hx324_2)).trans hx324_2
         replace hx324_3:=(HB.out.cell (bL w hx324_3)).trans hx324_3
         replace p324:=eq_true p324
         replace q324:=eq_true q324
         have p325 : 0 ≤ (x5_2 : Int):=of_decide_eq_true (by first|(with_reducible assumption)|assumption)
         have q325 : x5_2 < (l1.length : Int):=of_decide_eq_true (by first|(with_reducible assumption)|assumption)
         obtain ⟨ad325,e325,hx325_0,hx325_1,hx325_2,hx325_3⟩:=at_T56 HR1.out x5_2 p325 q325
         cases e325
         replace hx325_0:=(HB.out.cell (bL w hx325_0)).trans hx325_0
         replace hx325_1:=(HB.out.cell (bL w hx325_1)).trans hx325_1
         replace hx325_2:=(HB.out.cell (bL w hx325_2)).trans hx325_2
         replace hx325_3:=(HB.out.cell (bL w hx325_3)).trans hx325_3
         replace p325:=eq_true p325
         replace q325:=eq_true q325
         have q33 : (x5_2 : Int) ≤ ((l0.length : Int) : Int):=of_decide_eq_true (by first|(with_reducible assumption)|assumption)
         obtain ⟨i033,hi033,_,hsz33,_⟩:=info_parts info56
         have hroom33 : l0.length ≤ c0:=HC0.out
         have hC33 : Kd.C k56 _ (some ad324) l0.length l0:=HR0.out
         have hcut33:=cut_to (P:=Try.prog) 28 56 .i64 Try.underlying28 hi033 (some ad324) l0.length c0 x5_2 (of_decide_eq_true (by first|(with_reducible assumption)|assumption)) q33 hroom33
         have hr33:=Kd.C_take (m:=(x5_2 : Int).toNat) hC33 (by omega)
         have hy33 : y326.length = (x5_2 : Int).toNat:=(by rw [Ny326.out,List.length_take];omega)
         rw [← Ny326.out] at hr33
         rw [← hy33] at hcut33
         have HR329:=aM hr33
         have HC329:=aM (show y326.length ≤ c0 from by omega)
         clear hr33 hC33 hroom33 hi033 hsz33
         have KY33:=aM hy33
         clear hy33
         replace q33:=eq_true q33
         go_wp2_with (first|(go_at_call 43;(with_reducible refine (impl_copied.calls _ _ y326 t330 _ ?side1 ?side2 A32.out).mono ?_);(case side1 => repeat (first|exact (Kd.C_below HR329.out HB.out)|(with_reducible refine Kd.C_alloc ?_ _)|(with_reducible refine Kd.C_drewN ?_ _)|(with_reducible refine Kd.C_drew ?_)));(case side2 => exact HC329.out);rintro e w34 ⟨v331,rfl,ho0,hb⟩;have n0_:=aM (Kd.V_lower (Kd.V_mono (ok':=fun k_ => (w.heap.size ≤ k_)) ho0 (fun k_ hk_ => (Nat.le_trans (below_size (by repeat (first|(with_reducible first|exact HB.out|apply bA|apply bN|apply bD)|exact HB.out))) hk_))) (below_size (by repeat (first|(with_reducible first|exact HB.out|apply bA|apply bN|apply bD)|exact HB.out))));have n1_:=aM (below_step (by repeat (first|(with_reducible first|exact HB.out|apply bA|apply bN|apply bD)|exact HB.out)) hb);clear HB;have HO332:=n0_;have HB:=n1_;clear n0_ n1_;(try clear hb);(try clear hb2);(try clear hk);(try clear hi);(try clear ho0)))
         repeat (go_quiet (first|(go_at_call 43;(with_reducible refine (impl_copied.calls _ _ y326 t330 _ ?side1 ?side2 A32.out).mono ?_);(case side1 => repeat (first|exact (Kd.C_below HR329.out HB.out)|(with_reducible refine Kd.C_alloc ?_ _)|(with_reducible refine Kd.C_drewN ?_ _)|(with_reducible refine Kd.C_drew ?_)));(case side2 => exact HC329.out);rintro e w34 ⟨v331,rfl,ho0,hb⟩;have n0_:=aM (Kd.V_lower (Kd.V_mono (ok':=fun k_ => (w.heap.size ≤ k_)) ho0 (fun k_ hk_ => (Nat.le_trans (below_size (by repeat (first|(with_reducible first|exact HB.out|apply bA|apply bN|apply bD)|exact HB.out))) hk_))) (below_size (by repeat (first|(with_reducible first|exact HB.out|apply bA|apply bN|apply bD)|exact HB.out))));have n1_:=aM (below_step (by repeat (first|(with_reducible first|exact HB.out|apply bA|apply bN|apply bD)|exact HB.out)) hb);clear HB;have HO332:=n0_;have HB:=n1_;clear n0_ n1_;(try clear hb);(try clear hb2);(try clear hk);(try clear hi);(try clear ho0)));try go_wp2_with (first|(go_at_call 43;(with_reducible refine (impl_copied.calls _ _ y326 t330 _ ?side1 ?side2 A32.out).mono ?_);(case side1 => repeat (first|exact (Kd.C_below HR329.out HB.out)|(with_reducible refine Kd.C_alloc ?_ _)|(with_reducible refine Kd.C_drewN ?_ _)|(with_reducible refine Kd.C_drew ?_)));(case side2 => exact HC329.out);rintro e w34 ⟨v331,rfl,ho0,hb⟩;have n0_:=aM (Kd.V_lower (Kd.V_mono (ok':=fun k_ => (w.heap.size ≤ k_)) ho0 (fun k_ hk_ => (Nat.le_trans (below_size (by repeat (first|(with_reducible first|exact HB.out|apply bA|apply bN|apply bD)|exact HB.out))) hk_))) (below_size (by repeat (first|(with_reducible first|exact HB.out|apply bA|apply bN|apply bD)|exact HB.out))));have n1_:=aM (below_step (by repeat (first|(with_reducible first|exact HB.out|apply bA|apply bN|apply bD)|exact HB.out)) hb);clear HB;have HO332:=n0_;have HB:=n1_;clear n0_ n1_;(try clear hb);(try clear hb2);(try clear hk);(try clear hi);(try clear ho0))))
         go_ret
         exact ⟨_,by first|rfl|(simp only [i64_w,i32_w];done)|(simp only [i64_w,i32_w];rfl)|(simp [errW_none,errW_some] <;> rfl)|(simp [*,errW_none,errW_some] <;> rfl),by (with_reducible repeat (first|apply Kd.V_alloc|apply Kd.V_drewN|apply Kd.V_drew));exact HO332.out,by repeat (first|(with_reducible first|exact HB.out|apply bA|apply bN|apply bD)|exact HB.out)⟩
       ·rw [if_neg c26] at H
        have c26b0 : decide (x5_2 < (l0.length : Int)) = false:=decide_eq_false c26
        clear c26
        by_cases c35 : 0 ≤ x5_2
        case neg => rw [if_neg c35] at H;exact absurd H (by simp)
        rw [if_pos c35] at H
        have c35b0:=eq_true c35
        have c35b1 : decide (0 ≤ x5_2) = true:=decide_eq_true c35
        clear c35
        by_cases c36 : x5_2 ≤ (l0.length : Int)
        case neg => rw [if_neg c36] at H;exact absurd H (by simp)
        rw [if_pos c36] at H
        have c36b0:=eq_true c36
        have c36b1 : decide (x5_2 ≤ (l0.length : Int)) = true:=decide_eq_true c36
        clear c36
        obtain ⟨y333,hy333⟩ : ∃ y_ : List (S56),y_ = (l0.take (x5_2 : Int).toNat):=⟨_,rfl⟩
        replace H : ((impl_copied.f y333).bind fun t337 => (some t337)) = some r:=by first|(rw [hy333];with_reducible exact H)|(have H2_:=(Option.bind_some _ _).symm.trans H;rw [hy333];with_reducible exact H2_)|(have H2_:=(Option.bind_some _ _).symm.trans H;with_reducible exact H2_)|with_reducible exact H|(rw [hy333];exact H)|exact H
        have Ny333:=aM hy333
        clear hy333
        replace H:=Option.bind_eq_some_iff.mp H
        obtain ⟨t337,A370,H⟩:=H
        replace H : (some t337) = some r:=H
        have A37:=aM A370
        clear A370
        obtain rfl:=Option.some.inj H
        have q38 : (x5_2 : Int) ≤ ((l0.length : Int) : Int):=of_decide_eq_true (by first|(with_reducible assumption)|assumption)
        obtain ⟨i038,hi038,_,hsz38,_⟩:=info_parts info56
        have hroom38 : l0.length ≤ c0:=HC0.out
        have hC38 : Kd.C k56 _ A0 l0.length l0:=HR0.out
        have hcut38:=cut_to (P:=Try.prog) 28 56 .i64 Try.underlying28 hi038 A0 l0.length c0 x5_2 (of_decide_eq_true (by first|(with_reducible assumption)|assumption)) q38 hroom38
        have hr38:=Kd.C_take (m:=(x5_2 : Int).toNat) hC38 (by omega)
        have hy38 : y333.length = (x5_2 : Int).toNat:=(by rw [Ny333.out,List.length_take];omega)
        rw [← Ny333.out] at hr38
        rw [← hy38] at hcut38
        have HR336:=aM hr38
        have HC336:=aM (show y333.length ≤ c0 from by omega)
        clear hr38 hC38 hroom38 hi038 hsz38
        have KY38:=aM hy38
        clear hy38
        replace q38:=eq_true q38
        go_wp2_with (first|(go_at_call 43;(with_reducible refine (impl_copied.calls _ _ y333 t337 _ ?side1 ?side2 A37.out).mono ?_);(case side1 => repeat (first|exact (Kd.C_below HR336.out HB.out)|(with_reducible refine Kd.C_alloc ?_ _)|(with_reducible refine Kd.C_drewN ?_ _)|(with_reducible refine Kd.C_drew ?_)));(case side2 => exact HC336.out);rintro e w39 ⟨v338,rfl,ho0,hb⟩;have n0_:=aM (Kd.V_lower (Kd.V_mono (ok':=fun k_ => (w.heap.size ≤ k_)) ho0 (fun k_ hk_ => (Nat.le_trans (below_size (by repeat (first|(with_reducible first|exact HB.out|apply bA|apply bN|apply bD)|exact HB.out))) hk_))) (below_size (by repeat (first|(with_reducible first|exact HB.out|apply bA|apply bN|apply bD)|exact HB.out))));have n1_:=aM (below_step (by repeat (first|(with_reducible first|exact HB.out|apply bA|apply bN|apply bD)|exact HB.out)) hb);clear HB;have HO339:=n0_;have HB:=n1_;clear n0_ n1_;(try clear hb);(try clear hb2);(try clear hk);(try clear hi);(try clear ho0)))
        repeat (go_quiet (first|(go_at_call 43;(with_reducible refine (impl_copied.calls _ _ y333 t337 _ ?side1 ?side2 A37.out).mono ?_);(case side1 => repeat (first|exact (Kd.C_below HR336.out HB.out)|(with_reducible refine Kd.C_alloc ?_ _)|(with_reducible refine Kd.C_drewN ?_ _)|(with_reducible refine Kd.C_drew ?_)));(case side2 => exact HC336.out);rintro e w39 ⟨v338,rfl,ho0,hb⟩;have n0_:=aM (Kd.V_lower (Kd.V_mono (ok':=fun k_ => (w.heap.size ≤ k_)) ho0 (fun k_ hk_ => (Nat.le_trans (below_size (by repeat (first|(with_reducible first|exact HB.out|apply bA|apply bN|apply bD)|exact HB.out))) hk_))) (below_size (by repeat (first|(with_reducible first|exact HB.out|apply bA|apply bN|apply bD)|exact HB.out))));have n1_:=aM (below_step (by repeat (first|(with_reducible first|exact HB.out|apply bA|apply bN|apply bD)|exact HB.out)) hb);clear HB;have HO339:=n0_;have HB:=n1_;clear n0_ n1_;(try clear hb);(try clear hb2);(try clear hk);(try clear hi);(try clear ho0)));try go_wp2_with (first|(go_at_call 43;(with_reducible refine (impl_copied.calls _ _ y333 t337 _ ?side1 ?side2 A37.out).mono ?_);(case side1 => repeat (first|exact (Kd.C_below HR336.out HB.out)|(with_reducible refine Kd.C_alloc ?_ _)|(with_reducible refine Kd.C_drewN ?_ _)|(with_reducible refine Kd.C_drew ?_)));(case side2 => exact HC336.out);rintro e w39 ⟨v338,rfl,ho0,hb⟩;have n0_:=aM (Kd.V_lower (Kd.V_mono (ok':=fun k_ => (w.heap.size ≤ k_)) ho0 (fun k_ hk_ => (Nat.le_trans (below_size (by repeat (first|(with_reducible first|exact HB.out|apply bA|apply bN|apply bD)|exact HB.out))) hk_))) (below_size (by repeat (first|(with_reducible first|exact HB.out|apply bA|apply bN|apply bD)|exact HB.out))));have n1_:=aM (below_step (by repeat (first|(with_reducible first|exact HB.out|apply bA|apply bN|apply bD)|exact HB.out)) hb);clear HB;have HO339:=n0_;have HB:=n1_;clear n0_ n1_;(try clear hb);(try clear hb2);(try clear hk);(try clear hi);(try clear ho0))))
        go_ret
        exact ⟨_,by first|rfl|(simp only [i64_w,i32_w];done)|(simp only [i64_w,i32_w];rfl)|(simp [errW_none,errW_some] <;> rfl)|(simp [*,errW_none,errW_some] <;> rfl),by (with_reducible repeat (first|apply Kd.V_alloc|apply Kd.V_drewN|apply Kd.V_drew));exact HO339.out,by repeat (first|(with_reducible first|exact HB.out|apply bA|apply bN|apply bD)|exact HB.out)⟩

/-! ### laws_eqPay: function 58 -/
def laws_eqPay.f (a0_0 : Int) (a0_1 : Int) (a0_2 : Int) (a1_0 : Int) (a1_1 : Int) (a1_2 : Int) : Option (Bool):=if a0_0 = a1_0 then (if a0_1 = a1_1 then (if a0_2 = a1_2 then (some true) else (some false)) else (some false)) else (some false)
set_option maxHeartbeats 8000000 in
set_option maxRecDepth 100000 in
theorem laws_eqPay.calls (a0_0 : Int) (a0_1 : Int) (a0_2 : Int) (a1_0 : Int) (a1_1 : Int) (a1_2 : Int) (r : Bool) (w : World) (h : laws_eqPay.f a0_0 a0_1 a0_2 a1_0 a1_1 a1_2 = some r) :
  Calls Try.prog 58 #[.agg #[.int .i64 a0_0,.int .i64 a0_1,.int .i64 a0_2],.agg #[.int .i64 a1_0,.int .i64 a1_1,.int .i64 a1_2]] w fun e w' => e = .returned (.bool r) ∧ Below w.heap.size w w':=by
 have hu44:=Try.underlying44
 have HB:=aM (Below.refl w.heap.size w)
 have H : (if a0_0 = a1_0 then (if a0_1 = a1_1 then (if a0_2 = a1_2 then (some true) else (some false)) else (some false)) else (some false)) = some r:=h
 clear h
 by_cases c3 : a0_0 = a1_0
 ·rw [if_pos c3] at H
  have c3b0 : (a0_0 == a1_0) = true:=beq_iff_eq.mpr c3
  have c3b1 : (a0_0 != a1_0) = false:=bne_eq_false_iff_eq.mpr c3
  clear c3
  by_cases c4 : a0_1 = a1_1
  ·rw [if_pos c4] at H
   have c4b0 : (a0_1 == a1_1) = true:=beq_iff_eq.mpr c4
   have c4b1 : (a0_1 != a1_1) = false:=bne_eq_false_iff_eq.mpr c4
   clear c4
   by_cases c5 : a0_2 = a1_2
   ·rw [if_pos c5] at H
    have c5b0 : (a0_2 == a1_2) = true:=beq_iff_eq.mpr c5
    have c5b1 : (a0_2 != a1_2) = false:=bne_eq_false_iff_eq.mpr c5
    clear c5
    obtain rfl:=Option.some.inj H
    go_enter Try.func58,Try.ntmps58
    go_wp2_with (first|((with_reducible refine gate_dst (N:=2) rfl ?_);refine box_event ?hg (N:=2) ?hd (cs:=#[.int .i64 a0_0,.int .i64 a0_1,.int .i64 a0_2]) (t:=44) ?hr ?_;(case hd => rfl);(case hg => rfl);(case hr => first|(go_simp;done)|(go_simp;rfl));intro gb340 hg w6 hbox hb;have n0_:=aM (below_step (by repeat (first|(with_reducible first|exact HB.out|apply bA|apply bN|apply bD)|exact HB.out)) hb);have n1_:=aM (hbox);have n2_:=aM ((by rw [hg];exact (below_size (by repeat (first|(with_reducible first|exact HB.out|apply bA|apply bN|apply bD)|exact HB.out))) : w.heap.size ≤ gb340));have n3_:=aM ((by rw [hg];exact (below_size (by repeat (first|(with_reducible first|exact HB.out|apply bA|apply bN|apply bD)|exact HB.out))) : w.heap.size ≤ gb340));clear HB;have HB:=n0_;have BK340:=n1_;have GW340:=n2_;have GE340:=n3_;clear n0_ n1_ n2_ n3_;clear hb hbox hg)|((with_reducible refine gate_dst (N:=3) rfl ?_);refine box_event ?hg (N:=3) ?hd (cs:=#[.int .i64 a1_0,.int .i64 a1_1,.int .i64 a1_2]) (t:=44) ?hr ?_;(case hd => rfl);(case hg => rfl);(case hr => first|(go_simp;done)|(go_simp;rfl));intro gb341 hg w7 hbox hb;have n0_:=aM (blk_below (g:=gb340) (o:=.cells #[.int .i64 a0_0,.int .i64 a0_1,.int .i64 a0_2] 44 (0,0)) (by (with_reducible repeat (first|refine blk_drewN ?_ _|refine blk_drew ?_|refine blk_alloc ?_ _));exact BK340.out) hb);have n1_:=aM (below_step (by repeat (first|(with_reducible first|exact HB.out|apply bA|apply bN|apply bD|refine below_set ?_ GE340.out)|exact HB.out)) hb);have n2_:=aM (hbox);have n3_:=aM ((by rw [hg];exact (below_size (by repeat (first|(with_reducible first|exact HB.out|apply bA|apply bN|apply bD|refine below_set ?_ GE340.out)|exact HB.out))) : w.heap.size ≤ gb341));have n4_:=aM ((by rw [hg];exact (below_size (by repeat (first|(with_reducible first|exact HB.out|apply bA|apply bN|apply bD|refine below_set ?_ GE340.out)|exact HB.out))) : w.heap.size ≤ gb341));have n5_:=aM ((by rw [hg];exact Nat.ne_of_lt (blk_lt (g:=gb340) (o:=.cells #[.int .i64 a0_0,.int .i64 a0_1,.int .i64 a0_2] 44 (0,0)) (by (with_reducible repeat (first|refine blk_drewN ?_ _|refine blk_drew ?_|refine blk_alloc ?_ _));exact BK340.out)) : gb340 ≠ gb341));have n6_:=aM ((by rw [hg];exact Nat.ne_of_gt (blk_lt (g:=gb340) (o:=.cells #[.int .i64 a0_0,.int .i64 a0_1,.int .i64 a0_2] 44 (0,0)) (by (with_reducible repeat (first|refine blk_drewN ?_ _|refine blk_drew ?_|refine blk_alloc ?_ _));exact BK340.out)) : gb341 ≠ gb340));clear BK340;clear HB;have BK340:=n0_;have HB:=n1_;have BK341:=n2_;have GW341:=n3_;have GE341:=n4_;have NB340_341:=n5_;have NB341_340:=n6_;clear n0_ n1_ n2_ n3_ n4_ n5_ n6_;clear hb hbox hg;have hnb8:=NB340_341.out;have hnc8:=NB341_340.out;have hcz9_0 : w7.cell? ⟨gb340,0,none⟩ = some (.int .i64 a0_0):=(blk_cell BK340.out 0).trans rfl;have hcz9_1 : w7.cell? ⟨gb340,1,none⟩ = some (.int .i64 a0_1):=(blk_cell BK340.out 1).trans rfl;have hcz9_2 : w7.cell? ⟨gb340,2,none⟩ = some (.int .i64 a0_2):=(blk_cell BK340.out 2).trans rfl;have hfz9_0:=blk_frozen BK340.out 0;have hfz9_1:=blk_frozen BK340.out 1;have hfz9_2:=blk_frozen BK340.out 2;have hcz10_0 : w7.cell? ⟨gb341,0,none⟩ = some (.int .i64 a1_0):=(blk_cell BK341.out 0).trans rfl;have hcz10_1 : w7.cell? ⟨gb341,1,none⟩ = some (.int .i64 a1_1):=(blk_cell BK341.out 1).trans rfl;have hcz10_2 : w7.cell? ⟨gb341,2,none⟩ = some (.int .i64 a1_2):=(blk_cell BK341.out 2).trans rfl;have hfz10_0:=blk_frozen BK341.out 0;have hfz10_1:=blk_frozen BK341.out 1;have hfz10_2:=blk_frozen BK341.out 2))
    go_ret
    exact ⟨by first|rfl|(simp only [i64_w,i32_w];done)|(simp only [i64_w,i32_w];rfl)|(simp [errW_none,errW_some] <;> rfl)|(simp [*,errW_none,errW_some] <;> rfl),by repeat (first|(with_reducible first|exact HB.out|apply bA|apply bN|apply bD|refine below_set ?_ GE340.out|refine below_set ?_ GE341.out)|exact HB.out)⟩
   ·rw [if_neg c5] at H
    have c5b0 : (a0_2 == a1_2) = false:=beq_eq_false_iff_ne.mpr c5
    have c5b1 : (a0_2 != a1_2) = true:=bne_iff_ne.mpr c5
    obtain rfl:=Option.some.inj H
    go_enter Try.func58,Try.ntmps58
    go_wp2_with (first|((with_reducible refine gate_dst (N:=2) rfl ?_);refine box_event ?hg (N:=2) ?hd (cs:=#[.int .i64 a0_0,.int .i64 a0_1,.int .i64 a0_2]) (t:=44) ?hr ?_;(case hd => rfl);(case hg => rfl);(case hr => first|(go_simp;done)|(go_simp;rfl));intro gb340 hg w11 hbox hb;have n0_:=aM (below_step (by repeat (first|(with_reducible first|exact HB.out|apply bA|apply bN|apply bD)|exact HB.out)) hb);have n1_:=aM (hbox);have n2_:=aM ((by rw [hg];exact (below_size (by repeat (first|(with_reducible first|exact HB.out|apply bA|apply bN|apply bD)|exact HB.out))) : w.heap.size ≤ gb340));have n3_:=aM ((by rw [hg];exact (below_size (by repeat (first|(with_reducible first|exact HB.out|apply bA|apply bN|apply bD)|exact HB.out))) : w.heap.size ≤ gb340));clear HB;have HB:=n0_;have BK340:=n1_;have GW340:=n2_;have GE340:=n3_;clear n0_ n1_ n2_ n3_;clear hb hbox hg)|((with_reducible refine gate_dst (N:=3) rfl ?_);refine box_event ?hg (N:=3) ?hd (cs:=#[.int .i64 a1_0,.int .i64 a1_1,.int .i64 a1_2]) (t:=44) ?hr ?_;(case hd => rfl);(case hg => rfl);(case hr => first|(go_simp;done)|(go_simp;rfl));intro gb341 hg w12 hbox hb;have n0_:=aM (blk_below (g:=gb340) (o:=.cells #[.int .i64 a0_0,.int .i64 a0_1,.int .i64 a0_2] 44 (0,0)) (by (with_reducible repeat (first|refine blk_drewN ?_ _|refine blk_drew ?_|refine blk_alloc ?_ _));exact BK340.out) hb);have n1_:=aM (below_step (by repeat (first|(with_reducible first|exact HB.out|apply bA|apply bN|apply bD|refine below_set ?_ GE340.out)|exact HB.out)) hb);have n2_:=aM (hbox);have n3_:=aM ((by rw [hg];exact (below_size (by repeat (first|(with_reducible first|exact HB.out|apply bA|apply bN|apply bD|refine below_set ?_ GE340.out)|exact HB.out))) : w.heap.size ≤ gb341));have n4_:=aM ((by rw [hg];exact (below_size (by repeat (first|(with_reducible first|exact HB.out|apply bA|apply bN|apply bD|refine below_set ?_ GE340.out)|exact HB.out))) : w.heap.size ≤ gb341));have n5_:=aM ((by rw [hg];exact Nat.ne_of_lt (blk_lt (g:=gb340) (o:=.cells #[.int .i64 a0_0,.int .i64 a0_1,.int .i64 a0_2] 44 (0,0)) (by (with_reducible repeat (first|refine blk_drewN ?_ _|refine blk_drew ?_|refine blk_alloc ?_ _));exact BK340.out)) : gb340 ≠ gb341));have n6_:=aM ((by rw [hg];exact Nat.ne_of_gt (blk_lt (g:=gb340) (o:=.cells #[.int .i64 a0_0,.int .i64 a0_1,.int .i64 a0_2] 44 (0,0)) (by (with_reducible repeat (first|refine blk_drewN ?_ _|refine blk_drew ?_|refine blk_alloc ?_ _));exact BK340.out)) : gb341 ≠ gb340));clear BK340;clear HB;have BK340:=n0_;have HB:=n1_;have BK341:=n2_;have GW341:=n3_;have GE341:=n4_;have NB340_341:=n5_;have NB341_340:=n6_;clear n0_ n1_ n2_ n3_ n4_ n5_ n6_;clear hb hbox hg;have hnb13:=NB340_341.out;have hnc13:=NB341_340.out;have hcz14_0 : w12.cell? ⟨gb340,0,none⟩ = some (.int .i64 a0_0):=(blk_cell BK340.out 0).trans rfl;have hcz14_1 : w12.cell? ⟨gb340,1,none⟩ = some (.int .i64 a0_1):=(blk_cell BK340.out 1).trans rfl;have hcz14_2 : w12.cell? ⟨gb340,2,none⟩ = some (.int .i64 a0_2):=(blk_cell BK340.out 2).trans rfl;have hfz14_0:=blk_frozen BK340.out 0;have hfz14_1:=blk_frozen BK340.out 1;have hfz14_2:=blk_frozen BK340.out 2;have hcz15_0 : w12.cell? ⟨gb341,0,none⟩ = some (.int .i64 a1_0):=(blk_cell BK341.out 0).trans rfl;have hcz15_1 : w12.cell? ⟨gb341,1,none⟩ = some (.int .i64 a1_1):=(blk_cell BK341.out 1).trans rfl;have hcz15_2 : w12.cell? ⟨gb341,2,none⟩ = some (.int .i64 a1_2):=(blk_cell BK341.out 2).trans rfl;have hfz15_0:=blk_frozen BK341.out 0;have hfz15_1:=blk_frozen BK341.out 1;have hfz15_2:=blk_frozen BK341.out 2))
    go_ret
    exact ⟨by first|rfl|(simp only [i64_w,i32_w];done)|(simp only [i64_w,i32_w];rfl)|(simp [errW_none,errW_some] <;> rfl)|(simp [*,errW_none,errW_some] <;> rfl),by repeat (first|(with_reducible first|exact HB.out|apply bA|apply bN|apply bD|refine below_set ?_ GE340.out|refine below_set ?_ GE341.out)|exact HB.out)⟩
  ·rw [if_neg c4] at H
   have c4b0 : (a0_1 == a1_1) = false:=beq_eq_false_iff_ne.mpr c4
   have c4b1 : (a0_1 != a1_1) = true:=bne_iff_ne.mpr c4
   obtain rfl:=Option.some.inj H
   go_enter Try.func58,Try.ntmps58
   go_wp2_with (first|((with_reducible refine gate_dst (N:=2) rfl ?_);refine box_event ?hg (N:=2) ?hd (cs:=#[.int .i64 a0_0,.int .i64 a0_1,.int .i64 a0_2]) (t:=44) ?hr ?_;(case hd => rfl);(case hg => rfl);(case hr => first|(go_simp;done)|(go_simp;rfl));intro gb340 hg w16 hbox hb;have n0_:=aM (below_step (by repeat (first|(with_reducible first|exact HB.out|apply bA|apply bN|apply bD)|exact HB.out)) hb);have n1_:=aM (hbox);have n2_:=aM ((by rw [hg];exact (below_size (by repeat (first|(with_reducible first|exact HB.out|apply bA|apply bN|apply bD)|exact HB.out))) : w.heap.size ≤ gb340));have n3_:=aM ((by rw [hg];exact (below_size (by repeat (first|(with_reducible first|exact HB.out|apply bA|apply bN|apply bD)|exact HB.out))) : w.heap.size ≤ gb340));clear HB;have HB:=n0_;have BK340:=n1_;have GW340:=n2_;have GE340:=n3_;clear n0_ n1_ n2_ n3_;clear hb hbox hg)|((with_reducible refine gate_dst (N:=3) rfl ?_);refine box_event ?hg (N:=3) ?hd (cs:=#[.int .i64 a1_0,.int .i64 a1_1,.int .i64 a1_2]) (t:=44) ?hr ?_;(case hd => rfl);(case hg => rfl);(case hr => first|(go_simp;done)|(go_simp;rfl));intro gb341 hg w17 hbox hb;have n0_:=aM (blk_below (g:=gb340) (o:=.cells #[.int .i64 a0_0,.int .i64 a0_1,.int .i64 a0_2] 44 (0,0)) (by (with_reducible repeat (first|refine blk_drewN ?_ _|refine blk_drew ?_|refine blk_alloc ?_ _));exact BK340.out) hb);have n1_:=aM (below_step (by repeat (first|(with_reducible first|exact HB.out|apply bA|apply bN|apply bD|refine below_set ?_ GE340.out)|exact HB.out)) hb);have n2_:=aM (hbox);have n3_:=aM ((by rw [hg];exact (below_size (by repeat (first|(with_reducible first|exact HB.out|apply bA|apply bN|apply bD|refine below_set ?_ GE340.out)|exact HB.out))) : w.heap.size ≤ gb341));have n4_:=aM ((by rw [hg];exact (below_size (by repeat (first|(with_reducible first|exact HB.out|apply bA|apply bN|apply bD|refine below_set ?_ GE340.out)|exact HB.out))) : w.heap.size ≤ gb341));have n5_:=aM ((by rw [hg];exact Nat.ne_of_lt (blk_lt (g:=gb340) (o:=.cells #[.int .i64 a0_0,.int .i64 a0_1,.int .i64 a0_2] 44 (0,0)) (by (with_reducible repeat (first|refine blk_drewN ?_ _|refine blk_drew ?_|refine blk_alloc ?_ _));exact BK340.out)) : gb340 ≠ gb341));have n6_:=aM ((by rw [hg];exact Nat.ne_of_gt (blk_lt (g:=gb340) (o:=.cells #[.int .i64 a0_0,.int .i64 a0_1,.int .i64 a0_2] 44 (0,0)) (by (with_reducible repeat (first|refine blk_drewN ?_ _|refine blk_drew ?_|refine blk_alloc ?_ _));exact BK340.out)) : gb341 ≠ gb340));clear BK340;clear HB;have BK340:=n0_;have HB:=n1_;have BK341:=n2_;have GW341:=n3_;have GE341:=n4_;have NB340_341:=n5_;have NB341_340:=n6_;clear n0_ n1_ n2_ n3_ n4_ n5_ n6_;clear hb hbox hg;have hnb18:=NB340_341.out;have hnc18:=NB341_340.out;have hcz19_0 : w17.cell? ⟨gb340,0,none⟩ = some (.int .i64 a0_0):=(blk_cell BK340.out 0).trans rfl;have hcz19_1 : w17.cell? ⟨gb340,1,none⟩ = some (.int .i64 a0_1):=(blk_cell BK340.out 1).trans rfl;have hcz19_2 : w17.cell? ⟨gb340,2,none⟩ = some (.int .i64 a0_2):=(blk_cell BK340.out 2).trans rfl;have hfz19_0:=blk_frozen BK340.out 0;have hfz19_1:=blk_frozen BK340.out 1;have hfz19_2:=blk_frozen BK340.out 2;have hcz20_0 : w17.cell? ⟨gb341,0,none⟩ = some (.int .i64 a1_0):=(blk_cell BK341.out 0).trans rfl;have hcz20_1 : w17.cell? ⟨gb341,1,none⟩ = some (.int .i64 a1_1):=(blk_cell BK341.out 1).trans rfl;have hcz20_2 : w17.cell? ⟨gb341,2,none⟩ = some (.int .i64 a1_2):=(blk_cell BK341.out 2).trans rfl;have hfz20_0:=blk_frozen BK341.out 0;have hfz20_1:=blk_frozen BK341.out 1;have hfz20_2:=blk_frozen BK341.out 2))
   go_ret
   exact ⟨by first|rfl|(simp only [i64_w,i32_w];done)|(simp only [i64_w,i32_w];rfl)|(simp [errW_none,errW_some] <;> rfl)|(simp [*,errW_none,errW_some] <;> rfl),by repeat (first|(with_reducible first|exact HB.out|apply bA|apply bN|apply bD|refine below_set ?_ GE340.out|refine below_set ?_ GE341.out)|exact HB.out)⟩
 ·rw [if_neg c3] at H
  have c3b0 : (a0_0 == a1_0) = false:=beq_eq_false_iff_ne.mpr c3
  have c3b1 : (a0_0 != a1_0) = true:=bne_iff_ne.mpr c3
  obtain rfl:=Option.some.inj H
  go_enter Try.func58,Try.ntmps58
  go_wp2_with (first|((with_reducible refine gate_dst (N:=2) rfl ?_);refine box_event ?hg (N:=2) ?hd (cs:=#[.int .i64 a0_0,.int .i64 a0_1,.int .i64 a0_2]) (t:=44) ?hr ?_;(case hd => rfl);(case hg => rfl);(case hr => first|(go_simp;done)|(go_simp;rfl));intro gb340 hg w21 hbox hb;have n0_:=aM (below_step (by repeat (first|(with_reducible first|exact HB.out|apply bA|apply bN|apply bD)|exact HB.out)) hb);have n1_:=aM (hbox);have n2_:=aM ((by rw [hg];exact (below_size (by repeat (first|(with_reducible first|exact HB.out|apply bA|apply bN|apply bD)|exact HB.out))) : w.heap.size ≤ gb340));have n3_:=aM ((by rw [hg];exact (below_size (by repeat (first|(with_reducible first|exact HB.out|apply bA|apply bN|apply bD)|exact HB.out))) : w.heap.size ≤ gb340));clear HB;have HB:=n0_;have BK340:=n1_;have GW340:=n2_;have GE340:=n3_;clear n0_ n1_ n2_ n3_;clear hb hbox hg)|((with_reducible refine gate_dst (N:=3) rfl ?_);refine box_event ?hg (N:=3) ?hd (cs:=#[.int .i64 a1_0,.int .i64 a1_1,.int .i64 a1_2]) (t:=44) ?hr ?_;(case hd => rfl);(case hg => rfl);(case hr => first|(go_simp;done)|(go_simp;rfl));intro gb341 hg w22 hbox hb;have n0_:=aM (blk_below (g:=gb340) (o:=.cells #[.int .i64 a0_0,.int .i64 a0_1,.int .i64 a0_2] 44 (0,0)) (by (with_reducible repeat (first|refine blk_drewN ?_ _|refine blk_drew ?_|refine blk_alloc ?_ _));exact BK340.out) hb);have n1_:=aM (below_step (by repeat (first|(with_reducible first|exact HB.out|apply bA|apply bN|apply bD|refine below_set ?_ GE340.out)|exact HB.out)) hb);have n2_:=aM (hbox);have n3_:=aM ((by rw [hg];exact (below_size (by repeat (first|(with_reducible first|exact HB.out|apply bA|apply bN|apply bD|refine below_set ?_ GE340.out)|exact HB.out))) : w.heap.size ≤ gb341));have n4_:=aM ((by rw [hg];exact (below_size (by repeat (first|(with_reducible first|exact HB.out|apply bA|apply bN|apply bD|refine below_set ?_ GE340.out)|exact HB.out))) : w.heap.size ≤ gb341));have n5_:=aM ((by rw [hg];exact Nat.ne_of_lt (blk_lt (g:=gb340) (o:=.cells #[.int .i64 a0_0,.int .i64 a0_1,.int .i64 a0_2] 44 (0,0)) (by (with_reducible repeat (first|refine blk_drewN ?_ _|refine blk_drew ?_|refine blk_alloc ?_ _));exact BK340.out)) : gb340 ≠ gb341));have n6_:=aM ((by rw [hg];exact Nat.ne_of_gt (blk_lt (g:=gb340) (o:=.cells #[.int .i64 a0_0,.int .i64 a0_1,.int .i64 a0_2] 44 (0,0)) (by (with_reducible repeat (first|refine blk_drewN ?_ _|refine blk_drew ?_|refine blk_alloc ?_ _));exact BK340.out)) : gb341 ≠ gb340));clear BK340;clear HB;have BK340:=n0_;have HB:=n1_;have BK341:=n2_;have GW341:=n3_;have GE341:=n4_;have NB340_341:=n5_;have NB341_340:=n6_;clear n0_ n1_ n2_ n3_ n4_ n5_ n6_;clear hb hbox hg;have hnb23:=NB340_341.out;have hnc23:=NB341_340.out;have hcz24_0 : w22.cell? ⟨gb340,0,none⟩ = some (.int .i64 a0_0):=(blk_cell BK340.out 0).trans rfl;have hcz24_1 : w22.cell? ⟨gb340,1,none⟩ = some (.int .i64 a0_1):=(blk_cell BK340.out 1).trans rfl;have hcz24_2 : w22.cell? ⟨gb340,2,none⟩ = some (.int .i64 a0_2):=(blk_cell BK340.out 2).trans rfl;have hfz24_0:=blk_frozen BK340.out 0;have hfz24_1:=blk_frozen BK340.out 1;have hfz24_2:=blk_frozen BK340.out 2;have hcz25_0 : w22.cell? ⟨gb341,0,none⟩ = some (.int .i64 a1_0):=(blk_cell BK341.out 0).trans rfl;have hcz25_1 : w22.cell? ⟨gb341,1,none⟩ = some (.int .i64 a1_1):=(blk_cell BK341.out 1).trans rfl;have hcz25_2 : w22.cell? ⟨gb341,2,none⟩ = some (.int .i64 a1_2):=(blk_cell BK341.out 2).trans rfl;have hfz25_0:=blk_frozen BK341.out 0;have hfz25_1:=blk_frozen BK341.out 1;have hfz25_2:=blk_frozen BK341.out 2))
  go_ret
  exact ⟨by first|rfl|(simp only [i64_w,i32_w];done)|(simp only [i64_w,i32_w];rfl)|(simp [errW_none,errW_some] <;> rfl)|(simp [*,errW_none,errW_some] <;> rfl),by repeat (first|(with_reducible first|exact HB.out|apply bA|apply bN|apply bD|refine below_set ?_ GE340.out|refine below_set ?_ GE341.out)|exact HB.out)⟩

/-! ### laws_eqItem: function 44 -/
def laws_eqItem.f (a0_0 : Int) (a0_1 : Int) (a0_2 : Int) (a0_3 : Int) (a1_0 : Int) (a1_1 : Int) (a1_2 : Int) (a1_3 : Int) : Option (Bool):=if a0_0 = a1_0 then ((laws_eqPay.f a0_1 a0_2 a0_3 a1_1 a1_2 a1_3).bind fun t344 => (if t344 = true then (some true) else (some false))) else (some false)
set_option maxHeartbeats 8000000 in
set_option maxRecDepth 100000 in
theorem laws_eqItem.calls (a0_0 : Int) (a0_1 : Int) (a0_2 : Int) (a0_3 : Int) (a1_0 : Int) (a1_1 : Int) (a1_2 : Int) (a1_3 : Int) (r : Bool) (w : World) (h : laws_eqItem.f a0_0 a0_1 a0_2 a0_3 a1_0 a1_1 a1_2 a1_3 = some r) :
  Calls Try.prog 44 #[.agg #[.int .i64 a0_0,.int .i64 a0_1,.int .i64 a0_2,.int .i64 a0_3],.agg #[.int .i64 a1_0,.int .i64 a1_1,.int .i64 a1_2,.int .i64 a1_3]] w fun e w' => e = .returned (.bool r) ∧ Below w.heap.size w w':=by
 have hu56:=Try.underlying56
 have hu44:=Try.underlying44
 have HB:=aM (Below.refl w.heap.size w)
 have H : (if a0_0 = a1_0 then ((laws_eqPay.f a0_1 a0_2 a0_3 a1_1 a1_2 a1_3).bind fun t344 => (if t344 = true then (some true) else (some false))) else (some false)) = some r:=h
 clear h
 by_cases c3 : a0_0 = a1_0
 ·rw [if_pos c3] at H
  have c3b0 : (a0_0 == a1_0) = true:=beq_iff_eq.mpr c3
  have c3b1 : (a0_0 != a1_0) = false:=bne_eq_false_iff_eq.mpr c3
  clear c3
  replace H:=Option.bind_eq_some_iff.mp H
  obtain ⟨t344,A40,H⟩:=H
  replace H : (if t344 = true then (some true) else (some false)) = some r:=H
  have A4:=aM A40
  clear A40
  by_cases c5 : t344 = true
  ·subst c5
   have H1 : (some true) = some r:=by rw [if_pos rfl] at H;exact H
   clear H
   have H:=H1
   clear H1
   obtain rfl:=Option.some.inj H
   go_enter Try.func44,Try.ntmps44
   go_wp2_with (first|((with_reducible refine gate_dst (N:=2) rfl ?_);refine box_event ?hg (N:=2) ?hd (cs:=#[.int .i64 a0_0,.int .i64 a0_1,.int .i64 a0_2,.int .i64 a0_3]) (t:=56) ?hr ?_;(case hd => rfl);(case hg => rfl);(case hr => first|(go_simp;done)|(go_simp;rfl));intro gb342 hg w6 hbox hb;have n0_:=aM (below_step (by repeat (first|(with_reducible first|exact HB.out|apply bA|apply bN|apply bD)|exact HB.out)) hb);have n1_:=aM (hbox);have n2_:=aM ((by rw [hg];exact (below_size (by repeat (first|(with_reducible first|exact HB.out|apply bA|apply bN|apply bD)|exact HB.out))) : w.heap.size ≤ gb342));have n3_:=aM ((by rw [hg];exact (below_size (by repeat (first|(with_reducible first|exact HB.out|apply bA|apply bN|apply bD)|exact HB.out))) : w.heap.size ≤ gb342));clear HB;have HB:=n0_;have BK342:=n1_;have GW342:=n2_;have GE342:=n3_;clear n0_ n1_ n2_ n3_;clear hb hbox hg)|((with_reducible refine gate_dst (N:=3) rfl ?_);refine box_event ?hg (N:=3) ?hd (cs:=#[.int .i64 a1_0,.int .i64 a1_1,.int .i64 a1_2,.int .i64 a1_3]) (t:=56) ?hr ?_;(case hd => rfl);(case hg => rfl);(case hr => first|(go_simp;done)|(go_simp;rfl));intro gb343 hg w7 hbox hb;have n0_:=aM (blk_below (g:=gb342) (o:=.cells #[.int .i64 a0_0,.int .i64 a0_1,.int .i64 a0_2,.int .i64 a0_3] 56 (0,0)) (by (with_reducible repeat (first|refine blk_drewN ?_ _|refine blk_drew ?_|refine blk_alloc ?_ _));exact BK342.out) hb);have n1_:=aM (below_step (by repeat (first|(with_reducible first|exact HB.out|apply bA|apply bN|apply bD|refine below_set ?_ GE342.out)|exact HB.out)) hb);have n2_:=aM (hbox);have n3_:=aM ((by rw [hg];exact (below_size (by repeat (first|(with_reducible first|exact HB.out|apply bA|apply bN|apply bD|refine below_set ?_ GE342.out)|exact HB.out))) : w.heap.size ≤ gb343));have n4_:=aM ((by rw [hg];exact (below_size (by repeat (first|(with_reducible first|exact HB.out|apply bA|apply bN|apply bD|refine below_set ?_ GE342.out)|exact HB.out))) : w.heap.size ≤ gb343));have n5_:=aM ((by rw [hg];exact Nat.ne_of_lt (blk_lt (g:=gb342) (o:=.cells #[.int .i64 a0_0,.int .i64 a0_1,.int .i64 a0_2,.int .i64 a0_3] 56 (0,0)) (by (with_reducible repeat (first|refine blk_drewN ?_ _|refine blk_drew ?_|refine blk_alloc ?_ _));exact BK342.out)) : gb342 ≠ gb343));have n6_:=aM ((by rw [hg];exact Nat.ne_of_gt (blk_lt (g:=gb342) (o:=.cells #[.int .i64 a0_0,.int .i64 a0_1,.int .i64 a0_2,.int .i64 a0_3] 56 (0,0)) (by (with_reducible repeat (first|refine blk_drewN ?_ _|refine blk_drew ?_|refine blk_alloc ?_ _));exact BK342.out)) : gb343 ≠ gb342));clear BK342;clear HB;have BK342:=n0_;have HB:=n1_;have BK343:=n2_;have GW343:=n3_;have GE343:=n4_;have NB342_343:=n5_;have NB343_342:=n6_;clear n0_ n1_ n2_ n3_ n4_ n5_ n6_;clear hb hbox hg;have hnb8:=NB342_343.out;have hnc8:=NB343_342.out;have hcz9_0 : w7.cell? ⟨gb342,0,none⟩ = some (.int .i64 a0_0):=(blk_cell BK342.out 0).trans rfl;have hcz9_1 : w7.cell? ⟨gb342,1,none⟩ = some (.int .i64 a0_1):=(blk_cell BK342.out 1).trans rfl;have hcz9_2 : w7.cell? ⟨gb342,2,none⟩ = some (.int .i64 a0_2):=(blk_cell BK342.out 2).trans rfl;have hcz9_3 : w7.cell? ⟨gb342,3,none⟩ = some (.int .i64 a0_3):=(blk_cell BK342.out 3).trans rfl;have hfz9_0:=blk_frozen BK342.out 0;have hfz9_1:=blk_frozen BK342.out 1;have hfz9_2:=blk_frozen BK342.out 2;have hfz9_3:=blk_frozen BK342.out 3;have hcz10_0 : w7.cell? ⟨gb343,0,none⟩ = some (.int .i64 a1_0):=(blk_cell BK343.out 0).trans rfl;have hcz10_1 : w7.cell? ⟨gb343,1,none⟩ = some (.int .i64 a1_1):=(blk_cell BK343.out 1).trans rfl;have hcz10_2 : w7.cell? ⟨gb343,2,none⟩ = some (.int .i64 a1_2):=(blk_cell BK343.out 2).trans rfl;have hcz10_3 : w7.cell? ⟨gb343,3,none⟩ = some (.int .i64 a1_3):=(blk_cell BK343.out 3).trans rfl;have hfz10_0:=blk_frozen BK343.out 0;have hfz10_1:=blk_frozen BK343.out 1;have hfz10_2:=blk_frozen BK343.out 2;have hfz10_3:=blk_frozen BK343.out 3)|((with_reducible refine gate_callee (f:=58) rfl ?_);refine goesL_ (some 14) rfl rfl Try.func58 (by kernel_rfl) rfl #[.agg #[.int .i64 a0_1,.int .i64 a0_2,.int .i64 a0_3],.agg #[.int .i64 a1_1,.int .i64 a1_2,.int .i64 a1_3]] rfl (by (try simp only [List.map_toArray,List.map_cons,List.map_nil]);first|done|rfl|(simp only [List.length_drop,List.length_take];rfl)) ?_;(with_reducible refine (laws_eqPay.calls a0_1 a0_2 a0_3 a1_1 a1_2 a1_3 true _ A4.out).mono ?_);rintro e w11 ⟨rfl,hb⟩;refine ⟨_,rfl,?_⟩;have n0_:=aM (blk_below (g:=gb342) (o:=.cells #[.int .i64 a0_0,.int .i64 a0_1,.int .i64 a0_2,.int .i64 a0_3] 56 (0,0)) (by (with_reducible repeat (first|refine blk_drewN ?_ _|refine blk_drew ?_|refine blk_alloc ?_ _));exact BK342.out) hb);have n1_:=aM (blk_below (g:=gb343) (o:=.cells #[.int .i64 a1_0,.int .i64 a1_1,.int .i64 a1_2,.int .i64 a1_3] 56 (0,0)) (by (with_reducible repeat (first|refine blk_drewN ?_ _|refine blk_drew ?_|refine blk_alloc ?_ _));exact BK343.out) hb);have n2_:=aM (below_step (by repeat (first|(with_reducible first|exact HB.out|apply bA|apply bN|apply bD|refine below_set ?_ GE342.out|refine below_set ?_ GE343.out)|exact HB.out)) hb);clear BK342;clear BK343;clear HB;have BK342:=n0_;have BK343:=n1_;have HB:=n2_;clear n0_ n1_ n2_;(try clear hb);(try clear hb2);(try clear hk);(try clear hi)))
   go_ret
   exact ⟨by first|rfl|(simp only [i64_w,i32_w];done)|(simp only [i64_w,i32_w];rfl)|(simp [errW_none,errW_some] <;> rfl)|(simp [*,errW_none,errW_some] <;> rfl),by repeat (first|(with_reducible first|exact HB.out|apply bA|apply bN|apply bD|refine below_set ?_ GE342.out|refine below_set ?_ GE343.out)|exact HB.out)⟩
  ·replace c5:=Bool.eq_false_iff.mpr c5
   subst c5
   have H1 : (some false) = some r:=by rw [if_neg (show ¬ (false = true) by decide)] at H;exact H
   clear H
   have H:=H1
   clear H1
   obtain rfl:=Option.some.inj H
   go_enter Try.func44,Try.ntmps44
   go_wp2_with (first|((with_reducible refine gate_dst (N:=2) rfl ?_);refine box_event ?hg (N:=2) ?hd (cs:=#[.int .i64 a0_0,.int .i64 a0_1,.int .i64 a0_2,.int .i64 a0_3]) (t:=56) ?hr ?_;(case hd => rfl);(case hg => rfl);(case hr => first|(go_simp;done)|(go_simp;rfl));intro gb342 hg w12 hbox hb;have n0_:=aM (below_step (by repeat (first|(with_reducible first|exact HB.out|apply bA|apply bN|apply bD)|exact HB.out)) hb);have n1_:=aM (hbox);have n2_:=aM ((by rw [hg];exact (below_size (by repeat (first|(with_reducible first|exact HB.out|apply bA|apply bN|apply bD)|exact HB.out))) : w.heap.size ≤ gb342));have n3_:=aM ((by rw [hg];exact (below_size (by repeat (first|(with_reducible first|exact HB.out|apply bA|apply bN|apply bD)|exact HB.out))) : w.heap.size ≤ gb342));clear HB;have HB:=n0_;have BK342:=n1_;have GW342:=n2_;have GE342:=n3_;clear n0_ n1_ n2_ n3_;clear hb hbox hg)|((with_reducible refine gate_dst (N:=3) rfl ?_);refine box_event ?hg (N:=3) ?hd (cs:=#[.int .i64 a1_0,.int .i64 a1_1,.int .i64 a1_2,.int .i64 a1_3]) (t:=56) ?hr ?_;(case hd => rfl);(case hg => rfl);(case hr => first|(go_simp;done)|(go_simp;rfl));intro gb343 hg w13 hbox hb;have n0_:=aM (blk_below (g:=gb342) (o:=.cells #[.int .i64 a0_0,.int .i64 a0_1,.int .i64 a0_2,.int .i64 a0_3] 56 (0,0)) (by (with_reducible repeat (first|refine blk_drewN ?_ _|refine blk_drew ?_|refine blk_alloc ?_ _));exact BK342.out) hb);have n1_:=aM (below_step (by repeat (first|(with_reducible first|exact HB.out|apply bA|apply bN|apply bD|refine below_set ?_ GE342.out)|exact HB.out)) hb);have n2_:=aM (hbox);have n3_:=aM ((by rw [hg];exact (below_size (by repeat (first|(with_reducible first|exact HB.out|apply bA|apply bN|apply bD|refine below_set ?_ GE342.out)|exact HB.out))) : w.heap.size ≤ gb343));have n4_:=aM ((by rw [hg];exact (below_size (by repeat (first|(with_reducible first|exact HB.out|apply bA|apply bN|apply bD|refine below_set ?_ GE342.out)|exact HB.out))) : w.heap.size ≤ gb343));have n5_:=aM ((by rw [hg];exact Nat.ne_of_lt (blk_lt (g:=gb342) (o:=.cells #[.int .i64 a0_0,.int .i64 a0_1,.int .i64 a0_2,.int .i64 a0_3] 56 (0,0)) (by (with_reducible repeat (first|refine blk_drewN ?_ _|refine blk_drew ?_|refine blk_alloc ?_ _));exact BK342.out)) : gb342 ≠ gb343));have n6_:=aM ((by rw [hg];exact Nat.ne_of_gt (blk_lt (g:=gb342) (o:=.cells #[.int .i64 a0_0,.int .i64 a0_1,.int .i64 a0_2,.int .i64 a0_3] 56 (0,0)) (by (with_reducible repeat (first|refine blk_drewN ?_ _|refine blk_drew ?_|refine blk_alloc ?_ _));exact BK342.out)) : gb343 ≠ gb342));clear BK342;clear HB;have BK342:=n0_;have HB:=n1_;have BK343:=n2_;have GW343:=n3_;have GE343:=n4_;have NB342_343:=n5_;have NB343_342:=n6_;clear n0_ n1_ n2_ n3_ n4_ n5_ n6_;clear hb hbox hg;have hnb14:=NB342_343.out;have hnc14:=NB343_342.out;have hcz15_0 : w13.cell? ⟨gb342,0,none⟩ = some (.int .i64 a0_0):=(blk_cell BK342.out 0).trans rfl;have hcz15_1 : w13.cell? ⟨gb342,1,none⟩ = some (.int .i64 a0_1):=(blk_cell BK342.out 1).trans rfl;have hcz15_2 : w13.cell? ⟨gb342,2,none⟩ = some (.int .i64 a0_2):=(blk_cell BK342.out 2).trans rfl;have hcz15_3 : w13.cell? ⟨gb342,3,none⟩ = some (.int .i64 a0_3):=(blk_cell BK342.out 3).trans rfl;have hfz15_0:=blk_frozen BK342.out 0;have hfz15_1:=blk_frozen BK342.out 1;have hfz15_2:=blk_frozen BK342.out 2;have hfz15_3:=blk_frozen BK342.out 3;have hcz16_0 : w13.cell? ⟨gb343,0,none⟩ = some (.int .i64 a1_0):=(blk_cell BK343.out 0).trans rfl;have hcz16_1 : w13.cell? ⟨gb343,1,none⟩ = some (.int .i64 a1_1):=(blk_cell BK343.out 1).trans rfl;have hcz16_2 : w13.cell? ⟨gb343,2,none⟩ = some (.int .i64 a1_2):=(blk_cell BK343.out 2).trans rfl;have hcz16_3 : w13.cell? ⟨gb343,3,none⟩ = some (.int .i64 a1_3):=(blk_cell BK343.out 3).trans rfl;have hfz16_0:=blk_frozen BK343.out 0;have hfz16_1:=blk_frozen BK343.out 1;have hfz16_2:=blk_frozen BK343.out 2;have hfz16_3:=blk_frozen BK343.out 3)|((with_reducible refine gate_callee (f:=58) rfl ?_);refine goesL_ (some 14) rfl rfl Try.func58 (by kernel_rfl) rfl #[.agg #[.int .i64 a0_1,.int .i64 a0_2,.int .i64 a0_3],.agg #[.int .i64 a1_1,.int .i64 a1_2,.int .i64 a1_3]] rfl (by (try simp only [List.map_toArray,List.map_cons,List.map_nil]);first|done|rfl|(simp only [List.length_drop,List.length_take];rfl)) ?_;(with_reducible refine (laws_eqPay.calls a0_1 a0_2 a0_3 a1_1 a1_2 a1_3 false _ A4.out).mono ?_);rintro e w17 ⟨rfl,hb⟩;refine ⟨_,rfl,?_⟩;have n0_:=aM (blk_below (g:=gb342) (o:=.cells #[.int .i64 a0_0,.int .i64 a0_1,.int .i64 a0_2,.int .i64 a0_3] 56 (0,0)) (by (with_reducible repeat (first|refine blk_drewN ?_ _|refine blk_drew ?_|refine blk_alloc ?_ _));exact BK342.out) hb);have n1_:=aM (blk_below (g:=gb343) (o:=.cells #[.int .i64 a1_0,.int .i64 a1_1,.int .i64 a1_2,.int .i64 a1_3] 56 (0,0)) (by (with_reducible repeat (first|refine blk_drewN ?_ _|refine blk_drew ?_|refine blk_alloc ?_ _));exact BK343.out) hb);have n2_:=aM (below_step (by repeat (first|(with_reducible first|exact HB.out|apply bA|apply bN|apply bD|refine below_set ?_ GE342.out|refine below_set ?_ GE343.out)|exact HB.out)) hb);clear BK342;clear BK343;clear HB;have BK342:=n0_;have BK343:=n1_;have HB:=n2_;clear n0_ n1_ n2_;(try clear hb);(try clear hb2);(try clear hk);(try clear hi)))
   go_ret
   exact ⟨by first|rfl|(simp only [i64_w,i32_w];done)|(simp only [i64_w,i32_w];rfl)|(simp [errW_none,errW_some] <;> rfl)|(simp [*,errW_none,errW_some] <;> rfl),by repeat (first|(with_reducible first|exact HB.out|apply bA|apply bN|apply bD|refine below_set ?_ GE342.out|refine below_set ?_ GE343.out)|exact HB.out)⟩
 ·rw [if_neg c3] at H
  have c3b0 : (a0_0 == a1_0) = false:=beq_eq_false_iff_ne.mpr c3
  have c3b1 : (a0_0 != a1_0) = true:=bne_iff_ne.mpr c3
  obtain rfl:=Option.some.inj H
  go_enter Try.func44,Try.ntmps44
  go_wp2_with (first|((with_reducible refine gate_dst (N:=2) rfl ?_);refine box_event ?hg (N:=2) ?hd (cs:=#[.int .i64 a0_0,.int .i64 a0_1,.int .i64 a0_2,.int .i64 a0_3]) (t:=56) ?hr ?_;(case hd => rfl);(case hg => rfl);(case hr => first|(go_simp;done)|(go_simp;rfl));intro gb342 hg w18 hbox hb;have n0_:=aM (below_step (by repeat (first|(with_reducible first|exact HB.out|apply bA|apply bN|apply bD)|exact HB.out)) hb);have n1_:=aM (hbox);have n2_:=aM ((by rw [hg];exact (below_size (by repeat (first|(with_reducible first|exact HB.out|apply bA|apply bN|apply bD)|exact HB.out))) : w.heap.size ≤ gb342));have n3_:=aM ((by rw [hg];exact (below_size (by repeat (first|(with_reducible first|exact HB.out|apply bA|apply bN|apply bD)|exact HB.out))) : w.heap.size ≤ gb342));clear HB;have HB:=n0_;have BK342:=n1_;have GW342:=n2_;have GE342:=n3_;clear n0_ n1_ n2_ n3_;clear hb hbox hg)|((with_reducible refine gate_dst (N:=3) rfl ?_);refine box_event ?hg (N:=3) ?hd (cs:=#[.int .i64 a1_0,.int .i64 a1_1,.int .i64 a1_2,.int .i64 a1_3]) (t:=56) ?hr ?_;(case hd => rfl);(case hg => rfl);(case hr => first|(go_simp;done)|(go_simp;rfl));intro gb343 hg w19 hbox hb;have n0_:=aM (blk_below (g:=gb342) (o:=.cells #[.int .i64 a0_0,.int .i64 a0_1,.int .i64 a0_2,.int .i64 a0_3] 56 (0,0)) (by (with_reducible repeat (first|refine blk_drewN ?_ _|refine blk_drew ?_|refine blk_alloc ?_ _));exact BK342.out) hb);have n1_:=aM (below_step (by repeat (first|(with_reducible first|exact HB.out|apply bA|apply bN|apply bD|refine below_set ?_ GE342.out)|exact HB.out)) hb);have n2_:=aM (hbox);have n3_:=aM ((by rw [hg];exact (below_size (by repeat (first|(with_reducible first|exact HB.out|apply bA|apply bN|apply bD|refine below_set ?_ GE342.out)|exact HB.out))) : w.heap.size ≤ gb343));have n4_:=aM ((by rw [hg];exact (below_size (by repeat (first|(with_reducible first|exact HB.out|apply bA|apply bN|apply bD|refine below_set ?_ GE342.out)|exact HB.out))) : w.heap.size ≤ gb343));have n5_:=aM ((by rw [hg];exact Nat.ne_of_lt (blk_lt (g:=gb342) (o:=.cells #[.int .i64 a0_0,.int .i64 a0_1,.int .i64 a0_2,.int .i64 a0_3] 56 (0,0)) (by (with_reducible repeat (first|refine blk_drewN ?_ _|refine blk_drew ?_|refine blk_alloc ?_ _));exact BK342.out)) : gb342 ≠ gb343));have n6_:=aM ((by rw [hg];exact Nat.ne_of_gt (blk_lt (g:=gb342) (o:=.cells #[.int .i64 a0_0,.int .i64 a0_1,.int .i64 a0_2,.int .i64 a0_3] 56 (0,0)) (by (with_reducible repeat (first|refine blk_drewN ?_ _|refine blk_drew ?_|refine blk_alloc ?_ _));exact BK342.out)) : gb343 ≠ gb342));clear BK342;clear HB;have BK342:=n0_;have HB:=n1_;have BK343:=n2_;have GW343:=n3_;have GE343:=n4_;have NB342_343:=n5_;have NB343_342:=n6_;clear n0_ n1_ n2_ n3_ n4_ n5_ n6_;clear hb hbox hg;have hnb20:=NB342_343.out;have hnc20:=NB343_342.out;have hcz21_0 : w19.cell? ⟨gb342,0,none⟩ = some (.int .i64 a0_0):=(blk_cell BK342.out 0).trans rfl;have hcz21_1 : w19.cell? ⟨gb342,1,none⟩ = some (.int .i64 a0_1):=(blk_cell BK342.out 1).trans rfl;have hcz21_2 : w19.cell? ⟨gb342,2,none⟩ = some (.int .i64 a0_2):=(blk_cell BK342.out 2).trans rfl;have hcz21_3 : w19.cell? ⟨gb342,3,none⟩ = some (.int .i64 a0_3):=(blk_cell BK342.out 3).trans rfl;have hfz21_0:=blk_frozen BK342.out 0;have hfz21_1:=blk_frozen BK342.out 1;have hfz21_2:=blk_frozen BK342.out 2;have hfz21_3:=blk_frozen BK342.out 3;have hcz22_0 : w19.cell? ⟨gb343,0,none⟩ = some (.int .i64 a1_0):=(blk_cell BK343.out 0).trans rfl;have hcz22_1 : w19.cell? ⟨gb343,1,none⟩ = some (.int .i64 a1_1):=(blk_cell BK343.out 1).trans rfl;have hcz22_2 : w19.cell? ⟨gb343,2,none⟩ = some (.int .i64 a1_2):=(blk_cell BK343.out 2).trans rfl;have hcz22_3 : w19.cell? ⟨gb343,3,none⟩ = some (.int .i64 a1_3):=(blk_cell BK343.out 3).trans rfl;have hfz22_0:=blk_frozen BK343.out 0;have hfz22_1:=blk_frozen BK343.out 1;have hfz22_2:=blk_frozen BK343.out 2;have hfz22_3:=blk_frozen BK343.out 3))
  go_ret
  exact ⟨by first|rfl|(simp only [i64_w,i32_w];done)|(simp only [i64_w,i32_w];rfl)|(simp [errW_none,errW_some] <;> rfl)|(simp [*,errW_none,errW_some] <;> rfl),by repeat (first|(with_reducible first|exact HB.out|apply bA|apply bN|apply bD|refine below_set ?_ GE342.out|refine below_set ?_ GE343.out)|exact HB.out)⟩

end Go.Proofs.Ytkkfokcbbhnjeaa.P
