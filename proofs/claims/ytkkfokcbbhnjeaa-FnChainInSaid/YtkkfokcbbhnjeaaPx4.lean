/- The printed functions: what each Go function computes, as a Lean function, and that the Go code comes to just that. Conditions: none beyond each contract's own. -/
import Derived.Test.YtkkfokcbbhnjeaaPx0
import Derived.Test.YtkkfokcbbhnjeaaPx2
import Derived.Test.YtkkfokcbbhnjeaaPx3
namespace Go.Proofs.Ytkkfokcbbhnjeaa.P
open Go.RowKit Go.Proofs.YtkkfokcbbhnjeaaW.PrintWords Go.Proofs.YtkkfokcbbhnjeaaW.PrintLast Go.Proofs.YtkkfokcbbhnjeaaW.PrintMore
attribute [local go_sem] max2_int min2_int max_two min_two max_three min_three max_four min_four   -- for this text's walks alone
set_option linter.unusedVariables false
set_option linter.unusedSimpArgs false

/-! ### spec_l71Two: function 34 -/
def spec_l71Two.l0 : Nat → List (S56) → List (S56) → Int → List Int → Int → Option ((List (S56)) × (List (S56)) × Int)
 | 0,_,_,_,_,_ => none
 | k + 1,x4,x5,x6,x1000,x1001 => if x6 > 0 then (if (x5.length : Int) > 0 then (if 0 ≤ (wrap64 ((x5.length : Int) - 1)) then (if (wrap64 ((x5.length : Int) - 1)) < (x5.length : Int) then ((spec_l6Rd_pick.f k x1000 x1001 2).bind fun bt214 => ((spec_l71Pay.f k x1000 bt214.2).bind fun bt216 => (if x5.length < 4398046511104 then (spec_l71Two.l0 k x4 (x5 ++ [(⟨wrap64 ((wrap64 (((rd_T56 x5 (wrap64 ((x5.length : Int) - 1))).f0) + 1)) + bt214.1),(⟨bt216.1,bt216.2.1,bt216.2.2.1⟩ : S44)⟩ : S56)]) (wrap64 (x6 - 1)) x1000 bt216.2.2.2) else (none)))) else (none)) else (none)) else ((spec_l6Rd_pick.f k x1000 x1001 2).bind fun bt223 => ((spec_l71Pay.f k x1000 bt223.2).bind fun bt225 => (if x5.length < 4398046511104 then (spec_l71Two.l0 k x4 (x5 ++ [(⟨wrap64 (1 + bt223.1),(⟨bt225.1,bt225.2.1,bt225.2.2.1⟩ : S44)⟩ : S56)]) (wrap64 (x6 - 1)) x1000 bt225.2.2.2) else (none))))) else ((spec_l6Rd_pick.f k x1000 x1001 2).bind fun bt211 => (if bt211.1 = 0 then (some (x5,x4,bt211.2)) else (some (x4,x5,bt211.2))))
def spec_l71Two.f (k : Nat) (s0_0 : List Int) (s0_1 : Int) : Option ((List (S56)) × (List (S56)) × Int):=(spec_l71Off.f k s0_0 s0_1).bind fun bt187 => ((spec_l71Off.f k s0_0 bt187.2).bind fun bt191 => ((spec_l6Rd_pick.f k s0_0 bt191.2 4).bind fun bt195 => (if bt195.1 > 0 then ((some (([] : List (S56)) : List (S56))).bind fun y197 => ((spec_l6Rd_pick.f k s0_0 bt195.2 (wrap64 ((bt187.1.length : Int) + 1))).bind fun bt200 => (if 0 ≤ bt200.1 then (if bt200.1 ≤ (bt187.1.length : Int) then ((some (bt187.1.take (bt200.1 : Int).toNat : List (S56))).bind fun y202 => (if y197.length + y202.length < 4398046511104 then ((spec_l6Rd_pick.f k s0_0 bt200.2 3).bind fun bt209 => (spec_l71Two.l0 k bt187.1 (y197 ++ y202) bt209.1 s0_0 bt209.2)) else (none))) else (none)) else (none)))) else ((spec_l6Rd_pick.f k s0_0 bt195.2 2).bind fun bt232 => (if bt232.1 = 0 then (some (bt191.1,bt187.1,bt232.2)) else (some (bt187.1,bt191.1,bt232.2)))))))
theorem spec_l71Two.mono_l : ∀ k,(∀ y0 y1 y2 y3 y4,LeO (spec_l71Two.l0 k y0 y1 y2 y3 y4) (spec_l71Two.l0 (k + 1) y0 y1 y2 y3 y4))
 | 0 => fun _ _ _ _ _ r h => by simp [spec_l71Two.l0] at h
 | k + 1 => by
  have ih0:=spec_l71Two.mono_l k
  ·intro y0 y1 y2 y3 y4
   unfold spec_l71Two.l0
   repeat' first
   | exact LeO.refl _
   | exact ih0 _ _ _ _ _
   | exact spec_l6Rd_pick.mono _ _ _ _
   | exact spec_l71Off.mono _ _ _
   | exact spec_l71Pay.mono _ _ _
   | exact LeO.none _
   | refine LeO.ite ?_ ?_
   | refine LeO.bind ?_ (fun _ => ?_)
theorem spec_l71Two.mono : ∀ a0 a1 k,LeO (spec_l71Two.f k a0 a1) (spec_l71Two.f (k + 1) a0 a1):=by
 intro a0 a1 k
 have ih0:=spec_l71Two.mono_l k
 unfold spec_l71Two.f
 repeat' first
   | exact LeO.refl _
   | exact ih0 _ _ _ _ _
   | exact spec_l6Rd_pick.mono _ _ _ _
   | exact spec_l71Off.mono _ _ _
   | exact spec_l71Pay.mono _ _ _
   | exact LeO.none _
   | refine LeO.ite ?_ ?_
   | refine LeO.bind ?_ (fun _ => ?_)
set_option maxHeartbeats 8000000 in
set_option maxRecDepth 100000 in
theorem spec_l71Two.calls (k : Nat) (g : Nat) (s0_0 : List Int) (s0_1 : Int) (r1 : List (S56)) (r2 : List (S56)) (r3 : Int) (w0 w : World) (hI : IsS69 w0 w g s0_0 s0_1) (hB : Below w0.heap.size w0 w) (h : spec_l71Two.f k s0_0 s0_1 = some (r1,r2,r3)) :
  Calls Try.prog 34 #[.pointer (some ⟨g,0,none⟩)] w fun e w' => ∃ v0_ v1_ : Value,e = .returned (.tuple #[v0_,v1_]) ∧ Kd.R k56 56 w' w.heap.size (fun k_ => some k_ ≠ (v1_ : Value).ownBlock) v0_ r1 ∧ Kd.R k56 56 w' w.heap.size (fun k_ => some k_ ≠ (v0_ : Value).ownBlock) v1_ r2 ∧ IsS69 w0 w' g s0_0 r3 ∧ Below w0.heap.size w0 w' ∧ KeepBut w w' g none:=by
 have hu56:=Try.underlying56
 have HI0:=aM hI
 have HK:=aM (KeepBut.refl w g none)
 have HL:=aM hB.size
 clear hI
 have HW0:=aM hB.size
 have HB:=aM hB
 clear hB
 have H : ((spec_l71Off.f k s0_0 s0_1).bind fun bt187 => ((spec_l71Off.f k s0_0 bt187.2).bind fun bt191 => ((spec_l6Rd_pick.f k s0_0 bt191.2 4).bind fun bt195 => (if bt195.1 > 0 then ((some (([] : List (S56)) : List (S56))).bind fun y197 => ((spec_l6Rd_pick.f k s0_0 bt195.2 (wrap64 ((bt187.1.length : Int) + 1))).bind fun bt200 => (if 0 ≤ bt200.1 then (if bt200.1 ≤ (bt187.1.length : Int) then ((some (bt187.1.take (bt200.1 : Int).toNat : List (S56))).bind fun y202 => (if y197.length + y202.length < 4398046511104 then ((spec_l6Rd_pick.f k s0_0 bt200.2 3).bind fun bt209 => (spec_l71Two.l0 k bt187.1 (y197 ++ y202) bt209.1 s0_0 bt209.2)) else (none))) else (none)) else (none)))) else ((spec_l6Rd_pick.f k s0_0 bt195.2 2).bind fun bt232 => (if bt232.1 = 0 then (some (bt191.1,bt187.1,bt232.2)) else (some (bt187.1,bt191.1,bt232.2)))))))) = some (r1,r2,r3):=h
 clear h
 replace H:=Option.bind_eq_some_iff.mp H
 obtain ⟨⟨t187,t190⟩,A20,H⟩:=H
 replace H : ((spec_l71Off.f k s0_0 t190).bind fun bt191 => ((spec_l6Rd_pick.f k s0_0 bt191.2 4).bind fun bt195 => (if bt195.1 > 0 then ((some (([] : List (S56)) : List (S56))).bind fun y197 => ((spec_l6Rd_pick.f k s0_0 bt195.2 (wrap64 ((t187.length : Int) + 1))).bind fun bt200 => (if 0 ≤ bt200.1 then (if bt200.1 ≤ (t187.length : Int) then ((some (t187.take (bt200.1 : Int).toNat : List (S56))).bind fun y202 => (if y197.length + y202.length < 4398046511104 then ((spec_l6Rd_pick.f k s0_0 bt200.2 3).bind fun bt209 => (spec_l71Two.l0 k t187 (y197 ++ y202) bt209.1 s0_0 bt209.2)) else (none))) else (none)) else (none)))) else ((spec_l6Rd_pick.f k s0_0 bt195.2 2).bind fun bt232 => (if bt232.1 = 0 then (some (bt191.1,t187,bt232.2)) else (some (t187,bt191.1,bt232.2))))))) = some (r1,r2,r3):=H
 have A2:=aM A20
 clear A20
 replace H:=Option.bind_eq_some_iff.mp H
 obtain ⟨⟨t191,t194⟩,A30,H⟩:=H
 replace H : ((spec_l6Rd_pick.f k s0_0 t194 4).bind fun bt195 => (if bt195.1 > 0 then ((some (([] : List (S56)) : List (S56))).bind fun y197 => ((spec_l6Rd_pick.f k s0_0 bt195.2 (wrap64 ((t187.length : Int) + 1))).bind fun bt200 => (if 0 ≤ bt200.1 then (if bt200.1 ≤ (t187.length : Int) then ((some (t187.take (bt200.1 : Int).toNat : List (S56))).bind fun y202 => (if y197.length + y202.length < 4398046511104 then ((spec_l6Rd_pick.f k s0_0 bt200.2 3).bind fun bt209 => (spec_l71Two.l0 k t187 (y197 ++ y202) bt209.1 s0_0 bt209.2)) else (none))) else (none)) else (none)))) else ((spec_l6Rd_pick.f k s0_0 bt195.2 2).bind fun bt232 => (if bt232.1 = 0 then (some (t191,t187,bt232.2)) else (some (t187,t191,bt232.2)))))) = some (r1,r2,r3):=H
 have A3:=aM A30
 clear A30
 replace H:=Option.bind_eq_some_iff.mp H
 obtain ⟨⟨t195,t196⟩,A40,H⟩:=H
 replace H : (if t195 > 0 then ((some (([] : List (S56)) : List (S56))).bind fun y197 => ((spec_l6Rd_pick.f k s0_0 t196 (wrap64 ((t187.length : Int) + 1))).bind fun bt200 => (if 0 ≤ bt200.1 then (if bt200.1 ≤ (t187.length : Int) then ((some (t187.take (bt200.1 : Int).toNat : List (S56))).bind fun y202 => (if y197.length + y202.length < 4398046511104 then ((spec_l6Rd_pick.f k s0_0 bt200.2 3).bind fun bt209 => (spec_l71Two.l0 k t187 (y197 ++ y202) bt209.1 s0_0 bt209.2)) else (none))) else (none)) else (none)))) else ((spec_l6Rd_pick.f k s0_0 t196 2).bind fun bt232 => (if bt232.1 = 0 then (some (t191,t187,bt232.2)) else (some (t187,t191,bt232.2))))) = some (r1,r2,r3):=H
 have A4:=aM A40
 clear A40
 by_cases c5 : t195 > 0
 ·rw [if_pos c5] at H
  have c5b0 : decide (0 < t195) = true:=decide_eq_true c5
  clear c5
  obtain ⟨y197,hy197⟩ : ∃ y_ : List (S56),y_ = (([] : List (S56))):=⟨_,rfl⟩
  replace H : ((spec_l6Rd_pick.f k s0_0 t196 (wrap64 ((t187.length : Int) + 1))).bind fun bt200 => (if 0 ≤ bt200.1 then (if bt200.1 ≤ (t187.length : Int) then ((some (t187.take (bt200.1 : Int).toNat : List (S56))).bind fun y202 => (if y197.length + y202.length < 4398046511104 then ((spec_l6Rd_pick.f k s0_0 bt200.2 3).bind fun bt209 => (spec_l71Two.l0 k t187 (y197 ++ y202) bt209.1 s0_0 bt209.2)) else (none))) else (none)) else (none))) = some (r1,r2,r3):=by first|(rw [hy197];with_reducible exact H)|(have H2_:=(Option.bind_some _ _).symm.trans H;rw [hy197];with_reducible exact H2_)|(have H2_:=(Option.bind_some _ _).symm.trans H;with_reducible exact H2_)|with_reducible exact H|(rw [hy197];exact H)|exact H
  have Ny197:=aM hy197
  clear hy197
  replace H:=Option.bind_eq_some_iff.mp H
  obtain ⟨⟨t200,t201⟩,A60,H⟩:=H
  replace H : (if 0 ≤ t200 then (if t200 ≤ (t187.length : Int) then ((some (t187.take (t200 : Int).toNat : List (S56))).bind fun y202 => (if y197.length + y202.length < 4398046511104 then ((spec_l6Rd_pick.f k s0_0 t201 3).bind fun bt209 => (spec_l71Two.l0 k t187 (y197 ++ y202) bt209.1 s0_0 bt209.2)) else (none))) else (none)) else (none)) = some (r1,r2,r3):=H
  have A6:=aM A60
  clear A60
  by_cases c7 : 0 ≤ t200
  case neg => rw [if_neg c7] at H;exact absurd H (by simp)
  rw [if_pos c7] at H
  have c7b0:=eq_true c7
  have c7b1 : decide (0 ≤ t200) = true:=decide_eq_true c7
  clear c7
  by_cases c8 : t200 ≤ (t187.length : Int)
  case neg => rw [if_neg c8] at H;exact absurd H (by simp)
  rw [if_pos c8] at H
  have c8b0:=eq_true c8
  have c8b1 : decide (t200 ≤ (t187.length : Int)) = true:=decide_eq_true c8
  clear c8
  obtain ⟨y202,hy202⟩ : ∃ y_ : List (S56),y_ = (t187.take (t200 : Int).toNat):=⟨_,rfl⟩
  replace H : (if y197.length + y202.length < 4398046511104 then ((spec_l6Rd_pick.f k s0_0 t201 3).bind fun bt209 => (spec_l71Two.l0 k t187 (y197 ++ y202) bt209.1 s0_0 bt209.2)) else (none)) = some (r1,r2,r3):=by first|(rw [hy202];with_reducible exact H)|(have H2_:=(Option.bind_some _ _).symm.trans H;rw [hy202];with_reducible exact H2_)|(have H2_:=(Option.bind_some _ _).symm.trans H;with_reducible exact H2_)|with_reducible exact H|(rw [hy202];exact H)|exact H
  have Ny202:=aM hy202
  clear hy202
  by_cases c9 : y197.length + y202.length < 4398046511104
  case neg => rw [if_neg c9] at H;exact absurd H (by simp)
  rw [if_pos c9] at H
  have LMc9:=aM c9
  clear c9
  obtain ⟨y206,hy206⟩ : ∃ y_ : List (S56),y_ = (y197 ++ y202):=⟨_,rfl⟩
  replace H : ((spec_l6Rd_pick.f k s0_0 t201 3).bind fun bt209 => (spec_l71Two.l0 k t187 y206 bt209.1 s0_0 bt209.2)) = some (r1,r2,r3):=by first|(rw [hy206];with_reducible exact H)|(have H2_:=(Option.bind_some _ _).symm.trans H;rw [hy206];with_reducible exact H2_)|(have H2_:=(Option.bind_some _ _).symm.trans H;with_reducible exact H2_)|with_reducible exact H|(rw [hy206];exact H)|exact H
  have Ny206:=aM hy206
  clear hy206
  replace H:=Option.bind_eq_some_iff.mp H
  obtain ⟨⟨t209,t210⟩,A100,H⟩:=H
  replace H : (spec_l71Two.l0 k t187 y206 t209 s0_0 t210) = some (r1,r2,r3):=H
  have A10:=aM A100
  clear A100
  have H':=aM H
  clear H
  go_enter Try.func34,Try.ntmps34
  go_wp2_with (first|((with_reducible refine gate_callee (f:=52) rfl ?_);refine goesL_ (some 9) rfl rfl Try.func52 (by kernel_rfl) rfl #[.pointer (some ⟨g,0,none⟩)] rfl (by (try simp only [List.map_toArray,List.map_cons,List.map_nil]);first|done|rfl|(simp only [List.length_drop,List.length_take];rfl)) ?_;(with_reducible refine (spec_l71Off.calls k g s0_0 s0_1 t187 t190 w0 _ ?side1 ?side2 A2.out).mono ?_);(case side1 => repeat (first|(with_reducible first|exact HI0.out|apply IsS69.alloc|apply IsS69.drewN|apply IsS69.drew|apply IsS69.set_1)|exact HI0.out));(case side2 => repeat (first|(with_reducible first|exact HB.out|apply bA|apply bN|apply bD|refine below_set ?_ (IsS69.ge HI0.out))|exact HB.out));rintro e w11 ⟨v188,rfl,ho0,hi,hb,hk⟩;refine ⟨_,rfl,?_⟩;have n0_:=aM (Kd.R_lower ho0 (keep_size (w:=w) (g:=g) (row:=none) (by repeat (first|(with_reducible first|exact HK.out|apply KeepBut.set_|apply keep_drewN|apply keep_drew|apply keep_alloc)|exact HK.out))));have n1_:=aM (KeepBut.trans (by repeat (first|(with_reducible first|exact HK.out|apply KeepBut.set_|apply keep_drewN|apply keep_drew|apply keep_alloc)|exact HK.out)) hk (.inl rfl));have n2_:=aM (hb);have n3_:=aM (hi);clear HK;clear HB;clear HI0;have HO189:=n0_;have HK:=n1_;have HB:=n2_;have HI0:=n3_;clear n0_ n1_ n2_ n3_;(try clear hb);(try clear hb2);(try clear hk);(try clear hi);(try clear ho0))|((with_reducible refine gate_callee (f:=52) rfl ?_);refine goesL_ (some 11) rfl rfl Try.func52 (by kernel_rfl) rfl #[.pointer (some ⟨g,0,none⟩)] rfl (by (try simp only [List.map_toArray,List.map_cons,List.map_nil]);first|done|rfl|(simp only [List.length_drop,List.length_take];rfl)) ?_;(with_reducible refine (spec_l71Off.calls k g s0_0 t190 t191 t194 w0 _ ?side1 ?side2 A3.out).mono ?_);(case side1 => repeat (first|(with_reducible first|exact HI0.out|apply IsS69.alloc|apply IsS69.drewN|apply IsS69.drew|apply IsS69.set_1)|exact HI0.out));(case side2 => repeat (first|(with_reducible first|exact HB.out|apply bA|apply bN|apply bD|refine below_set ?_ (IsS69.ge HI0.out))|exact HB.out));rintro e w12 ⟨v192,rfl,ho0,hi,hb,hk⟩;refine ⟨_,rfl,?_⟩;have n0_:=aM (Kd.R_mono (Kd.R_told (Kd.R_oldK (IsS69.apart (show IsS69 w0 _ g s0_0 t190 from by repeat (first|(with_reducible first|exact HI0.out|apply IsS69.alloc|apply IsS69.drewN|apply IsS69.drew|apply IsS69.set_1)|exact HI0.out)) (by (with_reducible repeat (first|apply Kd.R_alloc|apply Kd.R_drewN|apply Kd.R_drew));exact HO189.out) (by decide)) hk) (Kd.R_base ho0)) (fun _ h_ => h_.1));have n1_:=aM (Kd.R_lower (Kd.R_new' ho0 (Kd.R_lt (by (with_reducible repeat (first|apply Kd.R_alloc|apply Kd.R_drewN|apply Kd.R_drew));exact HO189.out))) (keep_size (w:=w) (g:=g) (row:=none) (by repeat (first|(with_reducible first|exact HK.out|apply KeepBut.set_|apply keep_drewN|apply keep_drew|apply keep_alloc)|exact HK.out))));have n2_:=aM (KeepBut.trans (by repeat (first|(with_reducible first|exact HK.out|apply KeepBut.set_|apply keep_drewN|apply keep_drew|apply keep_alloc)|exact HK.out)) hk (.inl rfl));have n3_:=aM (hb);have n4_:=aM (hi);clear HO189;clear HK;clear HB;clear HI0;have HO189:=n0_;have HO193:=n1_;have HK:=n2_;have HB:=n3_;have HI0:=n4_;clear n0_ n1_ n2_ n3_ n4_;(try clear hb);(try clear hb2);(try clear hk);(try clear hi);(try clear ho0))|((with_reducible refine gate_callee (f:=35) rfl ?_);refine goesL_ (some 13) rfl rfl Try.func35 (by kernel_rfl) rfl #[.pointer (some ⟨g,0,none⟩),.int .i64 4] rfl (by (try simp only [List.map_toArray,List.map_cons,List.map_nil]);first|done|rfl|(simp only [List.length_drop,List.length_take];rfl)) ?_;(with_reducible refine (spec_l6Rd_pick.calls k g s0_0 t194 4 t195 t196 w0 _ ?side1 ?side2 A4.out).mono ?_);(case side1 => repeat (first|(with_reducible first|exact HI0.out|apply IsS69.alloc|apply IsS69.drewN|apply IsS69.drew|apply IsS69.set_1)|exact HI0.out));(case side2 => repeat (first|(with_reducible first|exact HB.out|apply bA|apply bN|apply bD|refine below_set ?_ (IsS69.ge HI0.out))|exact HB.out));rintro e w13 ⟨rfl,hi,hb,hk⟩;refine ⟨_,rfl,?_⟩;have n0_:=aM (Kd.R_mono (Kd.R_keep (IsS69.apart (show IsS69 w0 _ g s0_0 t194 from by repeat (first|(with_reducible first|exact HI0.out|apply IsS69.alloc|apply IsS69.drewN|apply IsS69.drew|apply IsS69.set_1)|exact HI0.out)) (by (with_reducible repeat (first|apply Kd.R_alloc|apply Kd.R_drewN|apply Kd.R_drew));exact HO189.out) (by decide)) hk (fun _ h => h.2)) (fun _ h => h.1));have n1_:=aM (Kd.R_mono (Kd.R_keep (IsS69.apart (show IsS69 w0 _ g s0_0 t194 from by repeat (first|(with_reducible first|exact HI0.out|apply IsS69.alloc|apply IsS69.drewN|apply IsS69.drew|apply IsS69.set_1)|exact HI0.out)) (by (with_reducible repeat (first|apply Kd.R_alloc|apply Kd.R_drewN|apply Kd.R_drew));exact HO193.out) (by decide)) hk (fun _ h => h.2)) (fun _ h => h.1));have n2_:=aM (KeepBut.trans (by repeat (first|(with_reducible first|exact HK.out|apply KeepBut.set_|apply keep_drewN|apply keep_drew|apply keep_alloc)|exact HK.out)) hk (.inl rfl));have n3_:=aM (hb);have n4_:=aM (hi);clear HO189;clear HO193;clear HK;clear HB;clear HI0;have HO189:=n0_;have HO193:=n1_;have HK:=n2_;have HB:=n3_;have HI0:=n4_;clear n0_ n1_ n2_ n3_ n4_;(try clear hb);(try clear hb2);(try clear hk);(try clear hi))|((with_reducible refine gate_dst (N:=15) rfl ?_);refine Kd.R_lit k56 _ 56 ?hg (N:=15) ?hd (xs:=([] : List (S56))) (inner:=[]) (ok:=fun _ => True) (okp:=fun _ => True) ?hr ?hp (fun _ hk => hk) trivial (Below.refl _ _) (Nat.le_refl _) (by simp) ?_;(case hd => rfl);(case hg => rfl);(case hr => first|(go_simp;done)|(go_simp;rfl));(case hp => exact (Reps.none _ _));intro v198 w14 ho15 hb hg_ hnew_;clear hg_ hnew_;(first|rw [← Ny197.out] at ho15|(simp only [Int.reduceToNat] at ho15;rw [← Ny197.out] at ho15));have n0_:=aM (Kd.R_elder' (by (with_reducible repeat (first|apply Kd.R_alloc|apply Kd.R_drewN|apply Kd.R_drew));exact HO189.out) (Kd.R_base ho15) hb);have n1_:=aM (Kd.R_elder' (by (with_reducible repeat (first|apply Kd.R_alloc|apply Kd.R_drewN|apply Kd.R_drew));exact HO193.out) (Kd.R_base ho15) hb);have n2_:=aM (Kd.R_lower (Kd.R_new' (Kd.R_new' ho15 (Kd.R_lt (by (with_reducible repeat (first|apply Kd.R_alloc|apply Kd.R_drewN|apply Kd.R_drew));exact HO189.out))) (Kd.R_lt (by (with_reducible repeat (first|apply Kd.R_alloc|apply Kd.R_drewN|apply Kd.R_drew));exact HO193.out))) (keep_size (w:=w) (g:=g) (row:=none) (by repeat (first|(with_reducible first|exact HK.out|apply KeepBut.set_|apply keep_drewN|apply keep_drew|apply keep_alloc)|exact HK.out))));have n3_:=aM (IsS69.below (by repeat (first|(with_reducible first|exact HI0.out|apply IsS69.alloc|apply IsS69.drewN|apply IsS69.drew|apply IsS69.set_1)|exact HI0.out)) hb);have n4_:=aM (KeepBut.trans (by repeat (first|(with_reducible first|exact HK.out|apply KeepBut.set_|apply keep_drewN|apply keep_drew|apply keep_alloc)|exact HK.out)) (KeepBut.of_below hb g none) (.inl rfl));have n5_:=aM (below_step (by repeat (first|(with_reducible first|exact HB.out|apply bA|apply bN|apply bD|refine below_set ?_ (IsS69.ge HI0.out))|exact HB.out)) hb);clear HO189;clear HO193;clear HI0;clear HK;clear HB;have HO189:=n0_;have HO193:=n1_;have HO199:=n2_;have HI0:=n3_;have HK:=n4_;have HB:=n5_;clear n0_ n1_ n2_ n3_ n4_ n5_;clear hb ho15;obtain ⟨Ao16,co16,eo16⟩:=Kd.R_slice HO189.out;subst eo16)|((with_reducible refine gate_callee (f:=35) rfl ?_);refine goesL_ (some 21) rfl rfl Try.func35 (by kernel_rfl) rfl #[.pointer (some ⟨g,0,none⟩),.int .i64 (wrap64 ((t187.length : Int) + 1))] rfl (by (try simp only [List.map_toArray,List.map_cons,List.map_nil]);first|done|rfl|(simp only [List.length_drop,List.length_take];rfl)) ?_;(with_reducible refine (spec_l6Rd_pick.calls k g s0_0 t196 (wrap64 ((t187.length : Int) + 1)) t200 t201 w0 _ ?side1 ?side2 A6.out).mono ?_);(case side1 => repeat (first|(with_reducible first|exact HI0.out|apply IsS69.alloc|apply IsS69.drewN|apply IsS69.drew|apply IsS69.set_1)|exact HI0.out));(case side2 => repeat (first|(with_reducible first|exact HB.out|apply bA|apply bN|apply bD|refine below_set ?_ (IsS69.ge HI0.out))|exact HB.out));rintro e w17 ⟨rfl,hi,hb,hk⟩;refine ⟨_,rfl,?_⟩;have n0_:=aM (Kd.R_mono (Kd.R_keep (IsS69.apart (show IsS69 w0 _ g s0_0 t196 from by repeat (first|(with_reducible first|exact HI0.out|apply IsS69.alloc|apply IsS69.drewN|apply IsS69.drew|apply IsS69.set_1)|exact HI0.out)) (by (with_reducible repeat (first|apply Kd.R_alloc|apply Kd.R_drewN|apply Kd.R_drew));exact HO189.out) (by decide)) hk (fun _ h => h.2)) (fun _ h => h.1));have n1_:=aM (Kd.R_mono (Kd.R_keep (IsS69.apart (show IsS69 w0 _ g s0_0 t196 from by repeat (first|(with_reducible first|exact HI0.out|apply IsS69.alloc|apply IsS69.drewN|apply IsS69.drew|apply IsS69.set_1)|exact HI0.out)) (by (with_reducible repeat (first|apply Kd.R_alloc|apply Kd.R_drewN|apply Kd.R_drew));exact HO193.out) (by decide)) hk (fun _ h => h.2)) (fun _ h => h.1));have n2_:=aM (Kd.R_mono (Kd.R_keep (IsS69.apart (show IsS69 w0 _ g s0_0 t196 from by repeat (first|(with_reducible first|exact HI0.out|apply IsS69.alloc|apply IsS69.drewN|apply IsS69.drew|apply IsS69.set_1)|exact HI0.out)) (by (with_reducible repeat (first|apply Kd.R_alloc|apply Kd.R_drewN|apply Kd.R_drew));exact HO199.out) (by decide)) hk (fun _ h => h.2)) (fun _ h => h.1));have n3_:=aM (KeepBut.trans (by repeat (first|(with_reducible first|exact HK.out|apply KeepBut.set_|apply keep_drewN|apply keep_drew|apply keep_alloc)|exact HK.out)) hk (.inl rfl));have n4_:=aM (hb);have n5_:=aM (hi);clear HO189;clear HO193;clear HO199;clear HK;clear HB;clear HI0;have HO189:=n0_;have HO193:=n1_;have HO199:=n2_;have HK:=n3_;have HB:=n4_;have HI0:=n5_;clear n0_ n1_ n2_ n3_ n4_ n5_;(try clear hb);(try clear hb2);(try clear hk);(try clear hi);have q18 : (t200 : Int) ≤ ((t187.length : Int) : Int):=of_decide_eq_true (by first|(with_reducible assumption)|assumption);obtain ⟨i018,hi018,_,hsz18,_⟩:=info_parts info56;have hroom18 : t187.length ≤ co16:=(Kd.R_reads' HO189.out).2.1;have hC18 : Kd.C k56 _ Ao16 t187.length t187:=(Kd.R_reads' HO189.out).2.2;have hcut18:=cut_to (P:=Try.prog) 28 56 .i64 Try.underlying28 hi018 Ao16 t187.length co16 t200 (of_decide_eq_true (by first|(with_reducible assumption)|assumption)) q18 hroom18;have hr18:=Kd.C_take (m:=(t200 : Int).toNat) hC18 (by omega);have hy18 : y202.length = (t200 : Int).toNat:=(by rw [Ny202.out,List.length_take];omega);rw [← Ny202.out] at hr18;rw [← hy18] at hcut18;have HR205:=aM hr18;have HC205:=aM (show y202.length ≤ co16 from by omega);clear hr18 hC18 hroom18 hi018 hsz18;have KY18:=aM hy18;clear hy18;have KL18:=aM (show (t200 : Int).toNat ≤ t187.length from by omega);replace q18:=eq_true q18)|((with_reducible refine gate_builtin (b:=.append) (xs:=#[.tmp 15,.tmp 22]) rfl ?_);at_builtin;refine Kd.R_append_rows k56 w.heap.size rfl (.tmp 15) (.tmp 22) 28 56 (.agg #[(.int .i64 0),(.int .i64 0),(.int .i64 0),(.int .i64 0)]) 32 rfl Try.underlying28 info56 rfl (by decide) (by omega) v198 y197 y202 _ _ _ (fun k_ => some k_ ≠ (.slice Ao16 t187.length co16 : Value).ownBlock ∧ some k_ ≠ (v192 : Value).ownBlock) (fun _ => False) rfl rfl ?aO ?aR (fun _ _ h => h) (fun _ h => h.elim) ?aF (Below.refl _ _) ?aS ?aL ?_;(case aR => repeat (first|exact (by repeat (first|(with_reducible exact HR205.out)|(with_reducible refine Kd.C_alloc ?_ _)|(with_reducible refine Kd.C_drewN ?_ _)|(with_reducible refine Kd.C_drew ?_)|exact HR205.out))|(with_reducible refine Kd.C_alloc ?_ _)|(with_reducible refine Kd.C_drewN ?_ _)|(with_reducible refine Kd.C_drew ?_)));(case aF => exact (fun k_ hk => ⟨Kd.fresh' (Kd.R_lt (by (with_reducible repeat (first|apply Kd.R_alloc|apply Kd.R_drewN|apply Kd.R_drew));exact HO189.out)) k_ hk,Kd.fresh' (Kd.R_lt (by (with_reducible repeat (first|apply Kd.R_alloc|apply Kd.R_drewN|apply Kd.R_drew));exact HO193.out)) k_ hk⟩));(case aO => exact (by (with_reducible repeat (first|apply Kd.R_alloc|apply Kd.R_drewN|apply Kd.R_drew));exact Kd.R_mono HO199.out (fun _ hk => ⟨hk.1.2,hk.2⟩)));(case aS => exact (keep_size (w:=w) (g:=g) (row:=none) (by repeat (first|(with_reducible first|exact HK.out|apply KeepBut.set_|apply keep_drewN|apply keep_drew|apply keep_alloc)|exact HK.out))));(case aL => have:=LMc9.out;omega);intro v207 w19 ho hb hg hat;rw [← Ny206.out] at ho;have n0_:=aM (IsS69.grown (by repeat (first|(with_reducible first|exact HI0.out|apply IsS69.alloc|apply IsS69.drewN|apply IsS69.drew|apply IsS69.set_1)|exact HI0.out)) hg (IsS69.own_ne HI0.out HO199.out (by decide)));have n1_:=aM (Kd.R_after (ok:=(fun k_ => some k_ ≠ (v192 : Value).ownBlock)) (by (with_reducible repeat (first|apply Kd.R_alloc|apply Kd.R_drewN|apply Kd.R_drew));exact Kd.R_mono HO189.out (fun _ hk => ⟨hk.1.2,hk.2⟩)) hg hat);have n2_:=aM (Kd.R_after (ok:=(fun k_ => some k_ ≠ (.slice Ao16 t187.length co16 : Value).ownBlock)) (by (with_reducible repeat (first|apply Kd.R_alloc|apply Kd.R_drewN|apply Kd.R_drew));exact Kd.R_mono HO193.out (fun _ hk => ⟨hk.1.2,hk.2⟩)) hg hat);have n3_:=aM (below_weaken (by repeat (first|(with_reducible first|exact HB.out|apply bA|apply bN|apply bD|refine below_set ?_ (IsS69.ge HI0.out))|exact HB.out)) HL.out hb);have n4_:=aM (KeepBut.trans (by repeat (first|(with_reducible first|exact HK.out|apply KeepBut.set_|apply keep_drewN|apply keep_drew|apply keep_alloc)|exact HK.out)) (KeepBut.of_grown hg g) (Kd.R_base2 HO199.out));have n5_:=aM ((show Kd.C k56 w19 Ao16 y202.length y202 from by rw [Ny202.out];exact Kd.C_take (m:=(t200 : Int).toNat) ((Kd.R_reads' (Kd.R_after (ok:=(fun k_ => some k_ ≠ (v192 : Value).ownBlock)) (by (with_reducible repeat (first|apply Kd.R_alloc|apply Kd.R_drewN|apply Kd.R_drew));exact Kd.R_mono HO189.out (fun _ hk => ⟨hk.1.2,hk.2⟩)) hg hat)).2.2) KL18.out));have n6_:=aM (ho);clear HI0;clear HO189;clear HO193;clear HB;clear HK;clear HR205;clear HO199;have HI0:=n0_;have HO189:=n1_;have HO193:=n2_;have HB:=n3_;have HK:=n4_;have HR205:=n5_;have HO208:=n6_;clear n0_ n1_ n2_ n3_ n4_ n5_ n6_;clear ho hb hg hat)|((with_reducible refine gate_callee (f:=35) rfl ?_);refine goesL_ (some 25) rfl rfl Try.func35 (by kernel_rfl) rfl #[.pointer (some ⟨g,0,none⟩),.int .i64 3] rfl (by (try simp only [List.map_toArray,List.map_cons,List.map_nil]);first|done|rfl|(simp only [List.length_drop,List.length_take];rfl)) ?_;(with_reducible refine (spec_l6Rd_pick.calls k g s0_0 t201 3 t209 t210 w0 _ ?side1 ?side2 A10.out).mono ?_);(case side1 => repeat (first|(with_reducible first|exact HI0.out|apply IsS69.alloc|apply IsS69.drewN|apply IsS69.drew|apply IsS69.set_1)|exact HI0.out));(case side2 => repeat (first|(with_reducible first|exact HB.out|apply bA|apply bN|apply bD|refine below_set ?_ (IsS69.ge HI0.out))|exact HB.out));rintro e w20 ⟨rfl,hi,hb,hk⟩;refine ⟨_,rfl,?_⟩;have n0_:=aM (Kd.R_mono (Kd.R_keep (IsS69.apart (show IsS69 w0 _ g s0_0 t201 from by repeat (first|(with_reducible first|exact HI0.out|apply IsS69.alloc|apply IsS69.drewN|apply IsS69.drew|apply IsS69.set_1)|exact HI0.out)) (by (with_reducible repeat (first|apply Kd.R_alloc|apply Kd.R_drewN|apply Kd.R_drew));exact HO189.out) (by decide)) hk (fun _ h => h.2)) (fun _ h => h.1));have n1_:=aM (Kd.R_mono (Kd.R_keep (IsS69.apart (show IsS69 w0 _ g s0_0 t201 from by repeat (first|(with_reducible first|exact HI0.out|apply IsS69.alloc|apply IsS69.drewN|apply IsS69.drew|apply IsS69.set_1)|exact HI0.out)) (by (with_reducible repeat (first|apply Kd.R_alloc|apply Kd.R_drewN|apply Kd.R_drew));exact HO193.out) (by decide)) hk (fun _ h => h.2)) (fun _ h => h.1));have n2_:=aM (Kd.R_mono (Kd.R_keep (IsS69.apart (show IsS69 w0 _ g s0_0 t201 from by repeat (first|(with_reducible first|exact HI0.out|apply IsS69.alloc|apply IsS69.drewN|apply IsS69.drew|apply IsS69.set_1)|exact HI0.out)) (by (with_reducible repeat (first|apply Kd.R_alloc|apply Kd.R_drewN|apply Kd.R_drew));exact HO208.out) (by decide)) hk (fun _ h => h.2)) (fun _ h => h.1));have n3_:=aM (KeepBut.trans (by repeat (first|(with_reducible first|exact HK.out|apply KeepBut.set_|apply keep_drewN|apply keep_drew|apply keep_alloc)|exact HK.out)) hk (.inl rfl));have n4_:=aM (hb);have n5_:=aM (hi);clear HO189;clear HO193;clear HO208;clear HK;clear HB;clear HI0;have HO189:=n0_;have HO193:=n1_;have HO208:=n2_;have HK:=n3_;have HB:=n4_;have HI0:=n5_;clear n0_ n1_ n2_ n3_ n4_ n5_;(try clear hb);(try clear hb2);(try clear hk);(try clear hi)))
  go_loopg [5,6] k (fun kq v5 v6 w' => ∃ (x5_1 : List (S56)) (x6_1 : Int) (x1001_1 : Int),v6 = .int .i64 x6_1 ∧ Aside0 (spec_l71Two.l0 kq t187 x5_1 x6_1 s0_0 x1001_1 = some (r1,r2,r3)) ∧ Aside0 (kq ≤ k) ∧ Aside0 (Kd.R k56 56 w' w.heap.size (fun k_ => some k_ ≠ (v5 : Value).ownBlock) (.slice Ao16 t187.length co16) t187) ∧ Aside0 (Kd.R k56 56 w' w.heap.size (fun k_ => some k_ ≠ ((.slice Ao16 t187.length co16) : Value).ownBlock) v5 x5_1) ∧ Aside0 (IsS69 w0 w' g s0_0 x1001_1) ∧ Aside0 (KeepBut w w' g none) ∧ Aside0 (Below w0.heap.size w0 w'))
  case atStart => exact ⟨(y206),(t209),(t210),(by first|rfl|(simp;done)|(simp [*];done)),H',⟨Nat.le_refl _⟩,⟨by (with_reducible repeat (first|apply Kd.R_alloc|apply Kd.R_drewN|apply Kd.R_drew));exact Kd.R_mono HO189.out (fun _ hk => hk.2)⟩,⟨by (with_reducible repeat (first|apply Kd.R_alloc|apply Kd.R_drewN|apply Kd.R_drew));exact Kd.R_mono HO208.out (fun _ hk => hk.1)⟩,⟨by repeat (first|(with_reducible first|exact HI0.out|apply IsS69.alloc|apply IsS69.drewN|apply IsS69.drew|apply IsS69.set_1)|exact HI0.out)⟩,⟨by repeat (first|(with_reducible first|exact HK.out|apply KeepBut.set_|apply keep_drewN|apply keep_drew|apply keep_alloc)|exact HK.out)⟩,⟨by repeat (first|(with_reducible first|exact HB.out|apply bA|apply bN|apply bD|refine below_set ?_ (IsS69.ge HI0.out))|exact HB.out)⟩⟩
  case round =>
   clear H'
   try clear q1
   try clear p2
   try clear c3
   try clear c5
   try clear c5b0
   try clear p6
   try clear c7
   try clear c7b0
   try clear c7b1
   try clear c8
   try clear c8b0
   try clear c8b1
   try clear c9
   try clear q18
   try clear q18
   obtain ⟨x5_1,x6_1,x1001_1,rfl,HA,HK1,HO_4,HO_5,HI0,HK,HB⟩:=hrel
   cases gk with
   | zero => exact absurd HA.out (by simp [spec_l71Two.l0])
   | succ k1 =>
    have H:=HA.out
    clear HA
    simp only [spec_l71Two.l0] at H
    by_cases c21 : x6_1 > 0
    ·rw [if_pos c21] at H
     have c21b0 : decide (0 < x6_1) = true:=decide_eq_true c21
     clear c21
     by_cases c22 : (x5_1.length : Int) > 0
     ·rw [if_pos c22] at H
      have c22b0 : decide (0 < (x5_1.length : Int)) = true:=decide_eq_true c22
      have c22b1 : decide (0 < x5_1.length) = true:=decide_eq_true (by omega)
      clear c22
      obtain ⟨ji23,hji23⟩ : ∃ j_ : Int,(wrap64 ((x5_1.length : Int) - 1)) = j_:=⟨_,rfl⟩
      replace H : (if 0 ≤ (ji23) then (if (ji23) < (x5_1.length : Int) then ((spec_l6Rd_pick.f k1 s0_0 x1001_1 2).bind fun bt214 => ((spec_l71Pay.f k1 s0_0 bt214.2).bind fun bt216 => (if x5_1.length < 4398046511104 then (spec_l71Two.l0 k1 t187 (x5_1 ++ [(⟨wrap64 ((wrap64 (((rd_T56 x5_1 (ji23)).f0) + 1)) + bt214.1),(⟨bt216.1,bt216.2.1,bt216.2.2.1⟩ : S44)⟩ : S56)]) (wrap64 (x6_1 - 1)) s0_0 bt216.2.2.2) else (none)))) else (none)) else (none)) = some (r1,r2,r3):=by first|(rw [hji23] at H;exact H)|(simp only [hji23] at H ⊢;exact H)
      have hji23w : (IntKind.i64.wrap ((x5_1.length : Int) - 1)) = ji23:=(i64_w _).trans hji23
      by_cases c24 : 0 ≤ (ji23)
      case neg => rw [if_neg c24] at H;exact absurd H (by simp)
      rw [if_pos c24] at H
      have c24b0 : decide (0 ≤ (ji23)) = true:=decide_eq_true c24
      clear c24
      by_cases c25 : (ji23) < (x5_1.length : Int)
      case neg => rw [if_neg c25] at H;exact absurd H (by simp)
      rw [if_pos c25] at H
      have c25b0 : decide ((ji23) < (x5_1.length : Int)) = true:=decide_eq_true c25
      clear c25
      replace H:=Option.bind_eq_some_iff.mp H
      obtain ⟨⟨t214,t215⟩,A260,H⟩:=H
      replace H : ((spec_l71Pay.f k1 s0_0 t215).bind fun bt216 => (if x5_1.length < 4398046511104 then (spec_l71Two.l0 k1 t187 (x5_1 ++ [(⟨wrap64 ((wrap64 (((rd_T56 x5_1 (ji23)).f0) + 1)) + t214),(⟨bt216.1,bt216.2.1,bt216.2.2.1⟩ : S44)⟩ : S56)]) (wrap64 (x6_1 - 1)) s0_0 bt216.2.2.2) else (none))) = some (r1,r2,r3):=H
      have A26:=aM A260
      clear A260
      replace H:=Option.bind_eq_some_iff.mp H
      obtain ⟨⟨t216,t217,t218,t219⟩,A270,H⟩:=H
      replace H : (if x5_1.length < 4398046511104 then (spec_l71Two.l0 k1 t187 (x5_1 ++ [(⟨wrap64 ((wrap64 (((rd_T56 x5_1 (ji23)).f0) + 1)) + t214),(⟨t216,t217,t218⟩ : S44)⟩ : S56)]) (wrap64 (x6_1 - 1)) s0_0 t219) else (none)) = some (r1,r2,r3):=H
      have A27:=aM A270
      clear A270
      by_cases c28 : x5_1.length < 4398046511104
      case neg => rw [if_neg c28] at H;exact absurd H (by simp)
      rw [if_pos c28] at H
      have LMc28:=aM c28
      clear c28
      obtain ⟨y220,hy220⟩ : ∃ y_ : List (S56),y_ = (x5_1 ++ [(⟨wrap64 ((wrap64 (((rd_T56 x5_1 (ji23)).f0) + 1)) + t214),(⟨t216,t217,t218⟩ : S44)⟩ : S56)]):=⟨_,rfl⟩
      replace H : (spec_l71Two.l0 k1 t187 y220 (wrap64 (x6_1 - 1)) s0_0 t219) = some (r1,r2,r3):=by first|(rw [hy220];with_reducible exact H)|(have H2_:=(Option.bind_some _ _).symm.trans H;rw [hy220];with_reducible exact H2_)|(have H2_:=(Option.bind_some _ _).symm.trans H;with_reducible exact H2_)|with_reducible exact H|(rw [hy220];exact H)|exact H
      have Ny220:=aM hy220
      clear hy220
      have H':=aM H
      clear H
      obtain ⟨Ao29,co29,eo29⟩:=Kd.R_slice HO_5.out
      subst eo29
      have p213 : 0 ≤ ((ji23) : Int):=of_decide_eq_true (by first|(with_reducible assumption)|assumption)
      have q213 : (ji23) < (x5_1.length : Int):=of_decide_eq_true (by first|(with_reducible assumption)|assumption)
      obtain ⟨ad213,e213,hx213_0,hx213_1,hx213_2,hx213_3⟩:=at_T56 (Kd.R_reads' HO_5.out).2.2 (ji23) p213 q213
      cases e213
      replace p213:=eq_true p213
      replace q213:=eq_true q213
      go_wp2_with (first|((with_reducible refine gate_callee (f:=35) rfl ?_);refine goesL_ (some 44) rfl rfl Try.func35 (by kernel_rfl) rfl #[.pointer (some ⟨g,0,none⟩),.int .i64 2] rfl (by (try simp only [List.map_toArray,List.map_cons,List.map_nil]);first|done|rfl|(simp only [List.length_drop,List.length_take];rfl)) ?_;(with_reducible refine (spec_l6Rd_pick.calls k1 g s0_0 x1001_1 2 t214 t215 w0 _ ?side1 ?side2 A26.out).mono ?_);(case side1 => repeat (first|(with_reducible first|exact HI0.out|apply IsS69.alloc|apply IsS69.drewN|apply IsS69.drew|apply IsS69.set_1)|exact HI0.out));(case side2 => repeat (first|(with_reducible first|exact HB.out|apply bA|apply bN|apply bD|refine below_set ?_ (IsS69.ge HI0.out))|exact HB.out));rintro e w30 ⟨rfl,hi,hb,hk⟩;refine ⟨_,rfl,?_⟩;have n0_:=aM (Kd.R_mono (Kd.R_keep (IsS69.apart (show IsS69 w0 _ g s0_0 x1001_1 from by repeat (first|(with_reducible first|exact HI0.out|apply IsS69.alloc|apply IsS69.drewN|apply IsS69.drew|apply IsS69.set_1)|exact HI0.out)) (by (with_reducible repeat (first|apply Kd.R_alloc|apply Kd.R_drewN|apply Kd.R_drew));exact HO_4.out) (by decide)) hk (fun _ h => h.2)) (fun _ h => h.1));have n1_:=aM (Kd.R_mono (Kd.R_keep (IsS69.apart (show IsS69 w0 _ g s0_0 x1001_1 from by repeat (first|(with_reducible first|exact HI0.out|apply IsS69.alloc|apply IsS69.drewN|apply IsS69.drew|apply IsS69.set_1)|exact HI0.out)) (by (with_reducible repeat (first|apply Kd.R_alloc|apply Kd.R_drewN|apply Kd.R_drew));exact HO_5.out) (by decide)) hk (fun _ h => h.2)) (fun _ h => h.1));have n2_:=aM (KeepBut.trans (by repeat (first|(with_reducible first|exact HK.out|apply KeepBut.set_|apply keep_drewN|apply keep_drew|apply keep_alloc)|exact HK.out)) hk (.inl rfl));have n3_:=aM (hb);have n4_:=aM (hi);clear HO_4;clear HO_5;clear HK;clear HB;clear HI0;have HO_4:=n0_;have HO_5:=n1_;have HK:=n2_;have HB:=n3_;have HI0:=n4_;clear n0_ n1_ n2_ n3_ n4_;(try clear hb);(try clear hb2);(try clear hk);(try clear hi))|((with_reducible refine gate_callee (f:=53) rfl ?_);refine goesL_ (some 47) rfl rfl Try.func53 (by kernel_rfl) rfl #[.pointer (some ⟨g,0,none⟩)] rfl (by (try simp only [List.map_toArray,List.map_cons,List.map_nil]);first|done|rfl|(simp only [List.length_drop,List.length_take];rfl)) ?_;(with_reducible refine (spec_l71Pay.calls k1 g s0_0 t215 t216 t217 t218 t219 w0 _ ?side1 ?side2 A27.out).mono ?_);(case side1 => repeat (first|(with_reducible first|exact HI0.out|apply IsS69.alloc|apply IsS69.drewN|apply IsS69.drew|apply IsS69.set_1)|exact HI0.out));(case side2 => repeat (first|(with_reducible first|exact HB.out|apply bA|apply bN|apply bD|refine below_set ?_ (IsS69.ge HI0.out))|exact HB.out));rintro e w31 ⟨rfl,hi,hb,hk⟩;refine ⟨_,rfl,?_⟩;have n0_:=aM (Kd.R_mono (Kd.R_keep (IsS69.apart (show IsS69 w0 _ g s0_0 t215 from by repeat (first|(with_reducible first|exact HI0.out|apply IsS69.alloc|apply IsS69.drewN|apply IsS69.drew|apply IsS69.set_1)|exact HI0.out)) (by (with_reducible repeat (first|apply Kd.R_alloc|apply Kd.R_drewN|apply Kd.R_drew));exact HO_4.out) (by decide)) hk (fun _ h => h.2)) (fun _ h => h.1));have n1_:=aM (Kd.R_mono (Kd.R_keep (IsS69.apart (show IsS69 w0 _ g s0_0 t215 from by repeat (first|(with_reducible first|exact HI0.out|apply IsS69.alloc|apply IsS69.drewN|apply IsS69.drew|apply IsS69.set_1)|exact HI0.out)) (by (with_reducible repeat (first|apply Kd.R_alloc|apply Kd.R_drewN|apply Kd.R_drew));exact HO_5.out) (by decide)) hk (fun _ h => h.2)) (fun _ h => h.1));have n2_:=aM (KeepBut.trans (by repeat (first|(with_reducible first|exact HK.out|apply KeepBut.set_|apply keep_drewN|apply keep_drew|apply keep_alloc)|exact HK.out)) hk (.inl rfl));have n3_:=aM (hb);have n4_:=aM (hi);clear HO_4;clear HO_5;clear HK;clear HB;clear HI0;have HO_4:=n0_;have HO_5:=n1_;have HK:=n2_;have HB:=n3_;have HI0:=n4_;clear n0_ n1_ n2_ n3_ n4_;(try clear hb);(try clear hb2);(try clear hk);(try clear hi))|((with_reducible refine gate_builtin (b:=.append) (xs:=#[.tmp 40,.tmp 49]) rfl ?_);at_builtin;refine Kd.R_append k56 w.heap.size rfl (.tmp 40) (.tmp 49) 28 56 (.agg #[(.int .i64 0),(.int .i64 0),(.int .i64 0),(.int .i64 0)]) 32 rfl Try.underlying28 info56 rfl (by decide) (by omega) (.slice (some ad213) x5_1.length co29) x5_1 (⟨wrap64 ((wrap64 (((rd_T56 x5_1 (ji23)).f0) + 1)) + t214),(⟨t216,t217,t218⟩ : S44)⟩ : S56) [.int .i64 (wrap64 ((wrap64 (((rd_T56 x5_1 (ji23)).f0) + 1)) + t214)),.int .i64 t216,.int .i64 t217,.int .i64 t218] (fun k_ => some k_ ≠ (.slice Ao16 t187.length co16 : Value).ownBlock) (fun _ => False) rfl rfl ?aP (fun _ hk => hk.elim) ?aF ?aO (Below.refl _ _) ?aS ?aL ?_;(case aP => exact k56_mkM _ _ _ (⟨wrap64 ((wrap64 (((rd_T56 x5_1 (ji23)).f0) + 1)) + t214),(⟨t216,t217,t218⟩ : S44)⟩ : S56));(case aF => exact (fun k_ hk => Kd.fresh' (Kd.R_lt (by (with_reducible repeat (first|apply Kd.R_alloc|apply Kd.R_drewN|apply Kd.R_drew));exact HO_4.out)) k_ hk));(case aO => exact (by (with_reducible repeat (first|apply Kd.R_alloc|apply Kd.R_drewN|apply Kd.R_drew));exact HO_5.out));(case aS => exact (keep_size (w:=w) (g:=g) (row:=none) (by repeat (first|(with_reducible first|exact HK.out|apply KeepBut.set_|apply keep_drewN|apply keep_drew|apply keep_alloc)|exact HK.out))));(case aL => have:=LMc28.out;omega);intro v221 w32 ho hb hg hat;rw [← Ny220.out] at ho;have n0_:=aM (Kd.R_after (ok:=(fun _ => True)) (by (with_reducible repeat (first|apply Kd.R_alloc|apply Kd.R_drewN|apply Kd.R_drew));exact Kd.R_mono HO_4.out (fun _ hk => ⟨trivial,hk⟩)) hg hat);have n1_:=aM (IsS69.grown (by repeat (first|(with_reducible first|exact HI0.out|apply IsS69.alloc|apply IsS69.drewN|apply IsS69.drew|apply IsS69.set_1)|exact HI0.out)) hg (IsS69.own_ne HI0.out HO_5.out (by decide)));have n2_:=aM (below_weaken (by repeat (first|(with_reducible first|exact HB.out|apply bA|apply bN|apply bD|refine below_set ?_ (IsS69.ge HI0.out))|exact HB.out)) HL.out hb);have n3_:=aM (KeepBut.trans (by repeat (first|(with_reducible first|exact HK.out|apply KeepBut.set_|apply keep_drewN|apply keep_drew|apply keep_alloc)|exact HK.out)) (KeepBut.of_grown hg g) (Kd.R_base2 HO_5.out));have n4_:=aM (ho);clear HO_4;clear HI0;clear HB;clear HK;clear HO_5;have HO_4:=n0_;have HI0:=n1_;have HB:=n2_;have HK:=n3_;have HO222:=n4_;clear n0_ n1_ n2_ n3_ n4_;clear ho hb hg hat))
      go_roundg k1
      case measure => have:=HK1.out;omega
      case rel => exact ⟨(y220),(wrap64 (x6_1 - 1)),(t219),(by first|rfl|(simp;done)|(simp [*];done)),H',⟨by have:=HK1.out;omega⟩,⟨by (with_reducible repeat (first|apply Kd.R_alloc|apply Kd.R_drewN|apply Kd.R_drew));exact Kd.R_mono HO_4.out (fun _ hk => hk.2)⟩,⟨by (with_reducible repeat (first|apply Kd.R_alloc|apply Kd.R_drewN|apply Kd.R_drew));exact HO222.out⟩,⟨by repeat (first|(with_reducible first|exact HI0.out|apply IsS69.alloc|apply IsS69.drewN|apply IsS69.drew|apply IsS69.set_1)|exact HI0.out)⟩,⟨by repeat (first|(with_reducible first|exact HK.out|apply KeepBut.set_|apply keep_drewN|apply keep_drew|apply keep_alloc)|exact HK.out)⟩,⟨by repeat (first|(with_reducible first|exact HB.out|apply bA|apply bN|apply bD|refine below_set ?_ (IsS69.ge HI0.out))|exact HB.out)⟩⟩
     ·rw [if_neg c22] at H
      have c22b0 : decide (0 < (x5_1.length : Int)) = false:=decide_eq_false c22
      have c22b1 : decide (0 < x5_1.length) = false:=decide_eq_false (by omega)
      clear c22
      replace H:=Option.bind_eq_some_iff.mp H
      obtain ⟨⟨t223,t224⟩,A330,H⟩:=H
      replace H : ((spec_l71Pay.f k1 s0_0 t224).bind fun bt225 => (if x5_1.length < 4398046511104 then (spec_l71Two.l0 k1 t187 (x5_1 ++ [(⟨wrap64 (1 + t223),(⟨bt225.1,bt225.2.1,bt225.2.2.1⟩ : S44)⟩ : S56)]) (wrap64 (x6_1 - 1)) s0_0 bt225.2.2.2) else (none))) = some (r1,r2,r3):=H
      have A33:=aM A330
      clear A330
      replace H:=Option.bind_eq_some_iff.mp H
      obtain ⟨⟨t225,t226,t227,t228⟩,A340,H⟩:=H
      replace H : (if x5_1.length < 4398046511104 then (spec_l71Two.l0 k1 t187 (x5_1 ++ [(⟨wrap64 (1 + t223),(⟨t225,t226,t227⟩ : S44)⟩ : S56)]) (wrap64 (x6_1 - 1)) s0_0 t228) else (none)) = some (r1,r2,r3):=H
      have A34:=aM A340
      clear A340
      by_cases c35 : x5_1.length < 4398046511104
      case neg => rw [if_neg c35] at H;exact absurd H (by simp)
      rw [if_pos c35] at H
      have LMc35:=aM c35
      clear c35
      obtain ⟨y229,hy229⟩ : ∃ y_ : List (S56),y_ = (x5_1 ++ [(⟨wrap64 (1 + t223),(⟨t225,t226,t227⟩ : S44)⟩ : S56)]):=⟨_,rfl⟩
      replace H : (spec_l71Two.l0 k1 t187 y229 (wrap64 (x6_1 - 1)) s0_0 t228) = some (r1,r2,r3):=by first|(rw [hy229];with_reducible exact H)|(have H2_:=(Option.bind_some _ _).symm.trans H;rw [hy229];with_reducible exact H2_)|(have H2_:=(Option.bind_some _ _).symm.trans H;with_reducible exact H2_)|with_reducible exact H|(rw [hy229];exact H)|exact H
      have Ny229:=aM hy229
      clear hy229
      have H':=aM H
      clear H
      obtain ⟨Ao36,co36,eo36⟩:=Kd.R_slice HO_5.out
      subst eo36
      go_wp2_with (first|((with_reducible refine gate_callee (f:=35) rfl ?_);refine goesL_ (some 44) rfl rfl Try.func35 (by kernel_rfl) rfl #[.pointer (some ⟨g,0,none⟩),.int .i64 2] rfl (by (try simp only [List.map_toArray,List.map_cons,List.map_nil]);first|done|rfl|(simp only [List.length_drop,List.length_take];rfl)) ?_;(with_reducible refine (spec_l6Rd_pick.calls k1 g s0_0 x1001_1 2 t223 t224 w0 _ ?side1 ?side2 A33.out).mono ?_);(case side1 => repeat (first|(with_reducible first|exact HI0.out|apply IsS69.alloc|apply IsS69.drewN|apply IsS69.drew|apply IsS69.set_1)|exact HI0.out));(case side2 => repeat (first|(with_reducible first|exact HB.out|apply bA|apply bN|apply bD|refine below_set ?_ (IsS69.ge HI0.out))|exact HB.out));rintro e w37 ⟨rfl,hi,hb,hk⟩;refine ⟨_,rfl,?_⟩;have n0_:=aM (Kd.R_mono (Kd.R_keep (IsS69.apart (show IsS69 w0 _ g s0_0 x1001_1 from by repeat (first|(with_reducible first|exact HI0.out|apply IsS69.alloc|apply IsS69.drewN|apply IsS69.drew|apply IsS69.set_1)|exact HI0.out)) (by (with_reducible repeat (first|apply Kd.R_alloc|apply Kd.R_drewN|apply Kd.R_drew));exact HO_4.out) (by decide)) hk (fun _ h => h.2)) (fun _ h => h.1));have n1_:=aM (Kd.R_mono (Kd.R_keep (IsS69.apart (show IsS69 w0 _ g s0_0 x1001_1 from by repeat (first|(with_reducible first|exact HI0.out|apply IsS69.alloc|apply IsS69.drewN|apply IsS69.drew|apply IsS69.set_1)|exact HI0.out)) (by (with_reducible repeat (first|apply Kd.R_alloc|apply Kd.R_drewN|apply Kd.R_drew));exact HO_5.out) (by decide)) hk (fun _ h => h.2)) (fun _ h => h.1));have n2_:=aM (KeepBut.trans (by repeat (first|(with_reducible first|exact HK.out|apply KeepBut.set_|apply keep_drewN|apply keep_drew|apply keep_alloc)|exact HK.out)) hk (.inl rfl));have n3_:=aM (hb);have n4_:=aM (hi);clear HO_4;clear HO_5;clear HK;clear HB;clear HI0;have HO_4:=n0_;have HO_5:=n1_;have HK:=n2_;have HB:=n3_;have HI0:=n4_;clear n0_ n1_ n2_ n3_ n4_;(try clear hb);(try clear hb2);(try clear hk);(try clear hi))|((with_reducible refine gate_callee (f:=53) rfl ?_);refine goesL_ (some 47) rfl rfl Try.func53 (by kernel_rfl) rfl #[.pointer (some ⟨g,0,none⟩)] rfl (by (try simp only [List.map_toArray,List.map_cons,List.map_nil]);first|done|rfl|(simp only [List.length_drop,List.length_take];rfl)) ?_;(with_reducible refine (spec_l71Pay.calls k1 g s0_0 t224 t225 t226 t227 t228 w0 _ ?side1 ?side2 A34.out).mono ?_);(case side1 => repeat (first|(with_reducible first|exact HI0.out|apply IsS69.alloc|apply IsS69.drewN|apply IsS69.drew|apply IsS69.set_1)|exact HI0.out));(case side2 => repeat (first|(with_reducible first|exact HB.out|apply bA|apply bN|apply bD|refine below_set ?_ (IsS69.ge HI0.out))|exact HB.out));rintro e w38 ⟨rfl,hi,hb,hk⟩;refine ⟨_,rfl,?_⟩;have n0_:=aM (Kd.R_mono (Kd.R_keep (IsS69.apart (show IsS69 w0 _ g s0_0 t224 from by repeat (first|(with_reducible first|exact HI0.out|apply IsS69.alloc|apply IsS69.drewN|apply IsS69.drew|apply IsS69.set_1)|exact HI0.out)) (by (with_reducible repeat (first|apply Kd.R_alloc|apply Kd.R_drewN|apply Kd.R_drew));exact HO_4.out) (by decide)) hk (fun _ h => h.2)) (fun _ h => h.1));have n1_:=aM (Kd.R_mono (Kd.R_keep (IsS69.apart (show IsS69 w0 _ g s0_0 t224 from by repeat (first|(with_reducible first|exact HI0.out|apply IsS69.alloc|apply IsS69.drewN|apply IsS69.drew|apply IsS69.set_1)|exact HI0.out)) (by (with_reducible repeat (first|apply Kd.R_alloc|apply Kd.R_drewN|apply Kd.R_drew));exact HO_5.out) (by decide)) hk (fun _ h => h.2)) (fun _ h => h.1));have n2_:=aM (KeepBut.trans (by repeat (first|(with_reducible first|exact HK.out|apply KeepBut.set_|apply keep_drewN|apply keep_drew|apply keep_alloc)|exact HK.out)) hk (.inl rfl));have n3_:=aM (hb);have n4_:=aM (hi);clear HO_4;clear HO_5;clear HK;clear HB;clear HI0;have HO_4:=n0_;have HO_5:=n1_;have HK:=n2_;have HB:=n3_;have HI0:=n4_;clear n0_ n1_ n2_ n3_ n4_;(try clear hb);(try clear hb2);(try clear hk);(try clear hi))|((with_reducible refine gate_builtin (b:=.append) (xs:=#[.tmp 40,.tmp 49]) rfl ?_);at_builtin;refine Kd.R_append k56 w.heap.size rfl (.tmp 40) (.tmp 49) 28 56 (.agg #[(.int .i64 0),(.int .i64 0),(.int .i64 0),(.int .i64 0)]) 32 rfl Try.underlying28 info56 rfl (by decide) (by omega) (.slice Ao36 x5_1.length co36) x5_1 (⟨wrap64 (1 + t223),(⟨t225,t226,t227⟩ : S44)⟩ : S56) [.int .i64 (wrap64 (1 + t223)),.int .i64 t225,.int .i64 t226,.int .i64 t227] (fun k_ => some k_ ≠ (.slice Ao16 t187.length co16 : Value).ownBlock) (fun _ => False) rfl rfl ?aP (fun _ hk => hk.elim) ?aF ?aO (Below.refl _ _) ?aS ?aL ?_;(case aP => exact k56_mkM _ _ _ (⟨wrap64 (1 + t223),(⟨t225,t226,t227⟩ : S44)⟩ : S56));(case aF => exact (fun k_ hk => Kd.fresh' (Kd.R_lt (by (with_reducible repeat (first|apply Kd.R_alloc|apply Kd.R_drewN|apply Kd.R_drew));exact HO_4.out)) k_ hk));(case aO => exact (by (with_reducible repeat (first|apply Kd.R_alloc|apply Kd.R_drewN|apply Kd.R_drew));exact HO_5.out));(case aS => exact (keep_size (w:=w) (g:=g) (row:=none) (by repeat (first|(with_reducible first|exact HK.out|apply KeepBut.set_|apply keep_drewN|apply keep_drew|apply keep_alloc)|exact HK.out))));(case aL => have:=LMc35.out;omega);intro v230 w39 ho hb hg hat;rw [← Ny229.out] at ho;have n0_:=aM (Kd.R_after (ok:=(fun _ => True)) (by (with_reducible repeat (first|apply Kd.R_alloc|apply Kd.R_drewN|apply Kd.R_drew));exact Kd.R_mono HO_4.out (fun _ hk => ⟨trivial,hk⟩)) hg hat);have n1_:=aM (IsS69.grown (by repeat (first|(with_reducible first|exact HI0.out|apply IsS69.alloc|apply IsS69.drewN|apply IsS69.drew|apply IsS69.set_1)|exact HI0.out)) hg (IsS69.own_ne HI0.out HO_5.out (by decide)));have n2_:=aM (below_weaken (by repeat (first|(with_reducible first|exact HB.out|apply bA|apply bN|apply bD|refine below_set ?_ (IsS69.ge HI0.out))|exact HB.out)) HL.out hb);have n3_:=aM (KeepBut.trans (by repeat (first|(with_reducible first|exact HK.out|apply KeepBut.set_|apply keep_drewN|apply keep_drew|apply keep_alloc)|exact HK.out)) (KeepBut.of_grown hg g) (Kd.R_base2 HO_5.out));have n4_:=aM (ho);clear HO_4;clear HI0;clear HB;clear HK;clear HO_5;have HO_4:=n0_;have HI0:=n1_;have HB:=n2_;have HK:=n3_;have HO231:=n4_;clear n0_ n1_ n2_ n3_ n4_;clear ho hb hg hat))
      go_roundg k1
      case measure => have:=HK1.out;omega
      case rel => exact ⟨(y229),(wrap64 (x6_1 - 1)),(t228),(by first|rfl|(simp;done)|(simp [*];done)),H',⟨by have:=HK1.out;omega⟩,⟨by (with_reducible repeat (first|apply Kd.R_alloc|apply Kd.R_drewN|apply Kd.R_drew));exact Kd.R_mono HO_4.out (fun _ hk => hk.2)⟩,⟨by (with_reducible repeat (first|apply Kd.R_alloc|apply Kd.R_drewN|apply Kd.R_drew));exact HO231.out⟩,⟨by repeat (first|(with_reducible first|exact HI0.out|apply IsS69.alloc|apply IsS69.drewN|apply IsS69.drew|apply IsS69.set_1)|exact HI0.out)⟩,⟨by repeat (first|(with_reducible first|exact HK.out|apply KeepBut.set_|apply keep_drewN|apply keep_drew|apply keep_alloc)|exact HK.out)⟩,⟨by repeat (first|(with_reducible first|exact HB.out|apply bA|apply bN|apply bD|refine below_set ?_ (IsS69.ge HI0.out))|exact HB.out)⟩⟩
    ·rw [if_neg c21] at H
     have c21b0 : decide (0 < x6_1) = false:=decide_eq_false c21
     clear c21
     replace H:=Option.bind_eq_some_iff.mp H
     obtain ⟨⟨t211,t212⟩,A400,H⟩:=H
     replace H : (if t211 = 0 then (some (x5_1,t187,t212)) else (some (t187,x5_1,t212))) = some (r1,r2,r3):=H
     have A40:=aM A400
     clear A400
     by_cases c41 : t211 = 0
     ·rw [if_pos c41] at H
      have c41b0 : (t211 == 0) = true:=beq_iff_eq.mpr c41
      have c41b1 : (t211 != 0) = false:=bne_eq_false_iff_eq.mpr c41
      clear c41
      simp only [Option.some.injEq,Prod.mk.injEq] at H
      obtain ⟨rfl,rfl,rfl⟩:=H
      go_wp2_with (first|((with_reducible refine gate_callee (f:=35) rfl ?_);refine goesL_ (some 52) rfl rfl Try.func35 (by kernel_rfl) rfl #[.pointer (some ⟨g,0,none⟩),.int .i64 2] rfl (by (try simp only [List.map_toArray,List.map_cons,List.map_nil]);first|done|rfl|(simp only [List.length_drop,List.length_take];rfl)) ?_;(with_reducible refine (spec_l6Rd_pick.calls k1 g s0_0 x1001_1 2 t211 t212 w0 _ ?side1 ?side2 A40.out).mono ?_);(case side1 => repeat (first|(with_reducible first|exact HI0.out|apply IsS69.alloc|apply IsS69.drewN|apply IsS69.drew|apply IsS69.set_1)|exact HI0.out));(case side2 => repeat (first|(with_reducible first|exact HB.out|apply bA|apply bN|apply bD|refine below_set ?_ (IsS69.ge HI0.out))|exact HB.out));rintro e w42 ⟨rfl,hi,hb,hk⟩;refine ⟨_,rfl,?_⟩;have n0_:=aM (Kd.R_mono (Kd.R_keep (IsS69.apart (show IsS69 w0 _ g s0_0 x1001_1 from by repeat (first|(with_reducible first|exact HI0.out|apply IsS69.alloc|apply IsS69.drewN|apply IsS69.drew|apply IsS69.set_1)|exact HI0.out)) (by (with_reducible repeat (first|apply Kd.R_alloc|apply Kd.R_drewN|apply Kd.R_drew));exact HO_4.out) (by decide)) hk (fun _ h => h.2)) (fun _ h => h.1));have n1_:=aM (Kd.R_mono (Kd.R_keep (IsS69.apart (show IsS69 w0 _ g s0_0 x1001_1 from by repeat (first|(with_reducible first|exact HI0.out|apply IsS69.alloc|apply IsS69.drewN|apply IsS69.drew|apply IsS69.set_1)|exact HI0.out)) (by (with_reducible repeat (first|apply Kd.R_alloc|apply Kd.R_drewN|apply Kd.R_drew));exact HO_5.out) (by decide)) hk (fun _ h => h.2)) (fun _ h => h.1));have n2_:=aM (KeepBut.trans (by repeat (first|(with_reducible first|exact HK.out|apply KeepBut.set_|apply keep_drewN|apply keep_drew|apply keep_alloc)|exact HK.out)) hk (.inl rfl));have n3_:=aM (hb);have n4_:=aM (hi);clear HO_4;clear HO_5;clear HK;clear HB;clear HI0;have HO_4:=n0_;have HO_5:=n1_;have HK:=n2_;have HB:=n3_;have HI0:=n4_;clear n0_ n1_ n2_ n3_ n4_;(try clear hb);(try clear hb2);(try clear hk);(try clear hi)))
      go_ret2
      exact ⟨_,_,by first|rfl|(simp only [i64_w,i32_w];done)|(simp only [i64_w,i32_w];rfl)|(simp [errW_none,errW_some] <;> rfl)|(simp [*,errW_none,errW_some] <;> rfl),by (with_reducible repeat (first|apply Kd.R_alloc|apply Kd.R_drewN|apply Kd.R_drew));exact HO_5.out,by (with_reducible repeat (first|apply Kd.R_alloc|apply Kd.R_drewN|apply Kd.R_drew));exact HO_4.out,by repeat (first|(with_reducible first|exact HI0.out|apply IsS69.alloc|apply IsS69.drewN|apply IsS69.drew|apply IsS69.set_1)|exact HI0.out),by repeat (first|(with_reducible first|exact HB.out|apply bA|apply bN|apply bD|refine below_set ?_ (IsS69.ge HI0.out))|exact HB.out),by repeat (first|(with_reducible first|exact HK.out|apply KeepBut.set_|apply keep_drewN|apply keep_drew|apply keep_alloc)|exact HK.out)⟩
     ·rw [if_neg c41] at H
      have c41b0 : (t211 == 0) = false:=beq_eq_false_iff_ne.mpr c41
      have c41b1 : (t211 != 0) = true:=bne_iff_ne.mpr c41
      simp only [Option.some.injEq,Prod.mk.injEq] at H
      obtain ⟨rfl,rfl,rfl⟩:=H
      go_wp2_with (first|((with_reducible refine gate_callee (f:=35) rfl ?_);refine goesL_ (some 52) rfl rfl Try.func35 (by kernel_rfl) rfl #[.pointer (some ⟨g,0,none⟩),.int .i64 2] rfl (by (try simp only [List.map_toArray,List.map_cons,List.map_nil]);first|done|rfl|(simp only [List.length_drop,List.length_take];rfl)) ?_;(with_reducible refine (spec_l6Rd_pick.calls k1 g s0_0 x1001_1 2 t211 t212 w0 _ ?side1 ?side2 A40.out).mono ?_);(case side1 => repeat (first|(with_reducible first|exact HI0.out|apply IsS69.alloc|apply IsS69.drewN|apply IsS69.drew|apply IsS69.set_1)|exact HI0.out));(case side2 => repeat (first|(with_reducible first|exact HB.out|apply bA|apply bN|apply bD|refine below_set ?_ (IsS69.ge HI0.out))|exact HB.out));rintro e w43 ⟨rfl,hi,hb,hk⟩;refine ⟨_,rfl,?_⟩;have n0_:=aM (Kd.R_mono (Kd.R_keep (IsS69.apart (show IsS69 w0 _ g s0_0 x1001_1 from by repeat (first|(with_reducible first|exact HI0.out|apply IsS69.alloc|apply IsS69.drewN|apply IsS69.drew|apply IsS69.set_1)|exact HI0.out)) (by (with_reducible repeat (first|apply Kd.R_alloc|apply Kd.R_drewN|apply Kd.R_drew));exact HO_4.out) (by decide)) hk (fun _ h => h.2)) (fun _ h => h.1));have n1_:=aM (Kd.R_mono (Kd.R_keep (IsS69.apart (show IsS69 w0 _ g s0_0 x1001_1 from by repeat (first|(with_reducible first|exact HI0.out|apply IsS69.alloc|apply IsS69.drewN|apply IsS69.drew|apply IsS69.set_1)|exact HI0.out)) (by (with_reducible repeat (first|apply Kd.R_alloc|apply Kd.R_drewN|apply Kd.R_drew));exact HO_5.out) (by decide)) hk (fun _ h => h.2)) (fun _ h => h.1));have n2_:=aM (KeepBut.trans (by repeat (first|(with_reducible first|exact HK.out|apply KeepBut.set_|apply keep_drewN|apply keep_drew|apply keep_alloc)|exact HK.out)) hk (.inl rfl));have n3_:=aM (hb);have n4_:=aM (hi);clear HO_4;clear HO_5;clear HK;clear HB;clear HI0;have HO_4:=n0_;have HO_5:=n1_;have HK:=n2_;have HB:=n3_;have HI0:=n4_;clear n0_ n1_ n2_ n3_ n4_;(try clear hb);(try clear hb2);(try clear hk);(try clear hi)))
      go_ret2
      exact ⟨_,_,by first|rfl|(simp only [i64_w,i32_w];done)|(simp only [i64_w,i32_w];rfl)|(simp [errW_none,errW_some] <;> rfl)|(simp [*,errW_none,errW_some] <;> rfl),by (with_reducible repeat (first|apply Kd.R_alloc|apply Kd.R_drewN|apply Kd.R_drew));exact HO_4.out,by (with_reducible repeat (first|apply Kd.R_alloc|apply Kd.R_drewN|apply Kd.R_drew));exact HO_5.out,by repeat (first|(with_reducible first|exact HI0.out|apply IsS69.alloc|apply IsS69.drewN|apply IsS69.drew|apply IsS69.set_1)|exact HI0.out),by repeat (first|(with_reducible first|exact HB.out|apply bA|apply bN|apply bD|refine below_set ?_ (IsS69.ge HI0.out))|exact HB.out),by repeat (first|(with_reducible first|exact HK.out|apply KeepBut.set_|apply keep_drewN|apply keep_drew|apply keep_alloc)|exact HK.out)⟩
 ·rw [if_neg c5] at H
  have c5b0 : decide (0 < t195) = false:=decide_eq_false c5
  clear c5
  replace H:=Option.bind_eq_some_iff.mp H
  obtain ⟨⟨t232,t233⟩,A440,H⟩:=H
  replace H : (if t232 = 0 then (some (t191,t187,t233)) else (some (t187,t191,t233))) = some (r1,r2,r3):=H
  have A44:=aM A440
  clear A440
  by_cases c45 : t232 = 0
  ·rw [if_pos c45] at H
   have c45b0 : (t232 == 0) = true:=beq_iff_eq.mpr c45
   have c45b1 : (t232 != 0) = false:=bne_eq_false_iff_eq.mpr c45
   clear c45
   simp only [Option.some.injEq,Prod.mk.injEq] at H
   obtain ⟨rfl,rfl,rfl⟩:=H
   go_enter Try.func34,Try.ntmps34
   go_wp2_with (first|((with_reducible refine gate_callee (f:=52) rfl ?_);refine goesL_ (some 9) rfl rfl Try.func52 (by kernel_rfl) rfl #[.pointer (some ⟨g,0,none⟩)] rfl (by (try simp only [List.map_toArray,List.map_cons,List.map_nil]);first|done|rfl|(simp only [List.length_drop,List.length_take];rfl)) ?_;(with_reducible refine (spec_l71Off.calls k g s0_0 s0_1 t187 t190 w0 _ ?side1 ?side2 A2.out).mono ?_);(case side1 => repeat (first|(with_reducible first|exact HI0.out|apply IsS69.alloc|apply IsS69.drewN|apply IsS69.drew|apply IsS69.set_1)|exact HI0.out));(case side2 => repeat (first|(with_reducible first|exact HB.out|apply bA|apply bN|apply bD|refine below_set ?_ (IsS69.ge HI0.out))|exact HB.out));rintro e w46 ⟨v188,rfl,ho0,hi,hb,hk⟩;refine ⟨_,rfl,?_⟩;have n0_:=aM (Kd.R_lower ho0 (keep_size (w:=w) (g:=g) (row:=none) (by repeat (first|(with_reducible first|exact HK.out|apply KeepBut.set_|apply keep_drewN|apply keep_drew|apply keep_alloc)|exact HK.out))));have n1_:=aM (KeepBut.trans (by repeat (first|(with_reducible first|exact HK.out|apply KeepBut.set_|apply keep_drewN|apply keep_drew|apply keep_alloc)|exact HK.out)) hk (.inl rfl));have n2_:=aM (hb);have n3_:=aM (hi);clear HK;clear HB;clear HI0;have HO189:=n0_;have HK:=n1_;have HB:=n2_;have HI0:=n3_;clear n0_ n1_ n2_ n3_;(try clear hb);(try clear hb2);(try clear hk);(try clear hi);(try clear ho0))|((with_reducible refine gate_callee (f:=52) rfl ?_);refine goesL_ (some 11) rfl rfl Try.func52 (by kernel_rfl) rfl #[.pointer (some ⟨g,0,none⟩)] rfl (by (try simp only [List.map_toArray,List.map_cons,List.map_nil]);first|done|rfl|(simp only [List.length_drop,List.length_take];rfl)) ?_;(with_reducible refine (spec_l71Off.calls k g s0_0 t190 t191 t194 w0 _ ?side1 ?side2 A3.out).mono ?_);(case side1 => repeat (first|(with_reducible first|exact HI0.out|apply IsS69.alloc|apply IsS69.drewN|apply IsS69.drew|apply IsS69.set_1)|exact HI0.out));(case side2 => repeat (first|(with_reducible first|exact HB.out|apply bA|apply bN|apply bD|refine below_set ?_ (IsS69.ge HI0.out))|exact HB.out));rintro e w47 ⟨v192,rfl,ho0,hi,hb,hk⟩;refine ⟨_,rfl,?_⟩;have n0_:=aM (Kd.R_mono (Kd.R_told (Kd.R_oldK (IsS69.apart (show IsS69 w0 _ g s0_0 t190 from by repeat (first|(with_reducible first|exact HI0.out|apply IsS69.alloc|apply IsS69.drewN|apply IsS69.drew|apply IsS69.set_1)|exact HI0.out)) (by (with_reducible repeat (first|apply Kd.R_alloc|apply Kd.R_drewN|apply Kd.R_drew));exact HO189.out) (by decide)) hk) (Kd.R_base ho0)) (fun _ h_ => h_.1));have n1_:=aM (Kd.R_lower (Kd.R_new' ho0 (Kd.R_lt (by (with_reducible repeat (first|apply Kd.R_alloc|apply Kd.R_drewN|apply Kd.R_drew));exact HO189.out))) (keep_size (w:=w) (g:=g) (row:=none) (by repeat (first|(with_reducible first|exact HK.out|apply KeepBut.set_|apply keep_drewN|apply keep_drew|apply keep_alloc)|exact HK.out))));have n2_:=aM (KeepBut.trans (by repeat (first|(with_reducible first|exact HK.out|apply KeepBut.set_|apply keep_drewN|apply keep_drew|apply keep_alloc)|exact HK.out)) hk (.inl rfl));have n3_:=aM (hb);have n4_:=aM (hi);clear HO189;clear HK;clear HB;clear HI0;have HO189:=n0_;have HO193:=n1_;have HK:=n2_;have HB:=n3_;have HI0:=n4_;clear n0_ n1_ n2_ n3_ n4_;(try clear hb);(try clear hb2);(try clear hk);(try clear hi);(try clear ho0))|((with_reducible refine gate_callee (f:=35) rfl ?_);refine goesL_ (some 13) rfl rfl Try.func35 (by kernel_rfl) rfl #[.pointer (some ⟨g,0,none⟩),.int .i64 4] rfl (by (try simp only [List.map_toArray,List.map_cons,List.map_nil]);first|done|rfl|(simp only [List.length_drop,List.length_take];rfl)) ?_;(with_reducible refine (spec_l6Rd_pick.calls k g s0_0 t194 4 t195 t196 w0 _ ?side1 ?side2 A4.out).mono ?_);(case side1 => repeat (first|(with_reducible first|exact HI0.out|apply IsS69.alloc|apply IsS69.drewN|apply IsS69.drew|apply IsS69.set_1)|exact HI0.out));(case side2 => repeat (first|(with_reducible first|exact HB.out|apply bA|apply bN|apply bD|refine below_set ?_ (IsS69.ge HI0.out))|exact HB.out));rintro e w48 ⟨rfl,hi,hb,hk⟩;refine ⟨_,rfl,?_⟩;have n0_:=aM (Kd.R_mono (Kd.R_keep (IsS69.apart (show IsS69 w0 _ g s0_0 t194 from by repeat (first|(with_reducible first|exact HI0.out|apply IsS69.alloc|apply IsS69.drewN|apply IsS69.drew|apply IsS69.set_1)|exact HI0.out)) (by (with_reducible repeat (first|apply Kd.R_alloc|apply Kd.R_drewN|apply Kd.R_drew));exact HO189.out) (by decide)) hk (fun _ h => h.2)) (fun _ h => h.1));have n1_:=aM (Kd.R_mono (Kd.R_keep (IsS69.apart (show IsS69 w0 _ g s0_0 t194 from by repeat (first|(with_reducible first|exact HI0.out|apply IsS69.alloc|apply IsS69.drewN|apply IsS69.drew|apply IsS69.set_1)|exact HI0.out)) (by (with_reducible repeat (first|apply Kd.R_alloc|apply Kd.R_drewN|apply Kd.R_drew));exact HO193.out) (by decide)) hk (fun _ h => h.2)) (fun _ h => h.1));have n2_:=aM (KeepBut.trans (by repeat (first|(with_reducible first|exact HK.out|apply KeepBut.set_|apply keep_drewN|apply keep_drew|apply keep_alloc)|exact HK.out)) hk (.inl rfl));have n3_:=aM (hb);have n4_:=aM (hi);clear HO189;clear HO193;clear HK;clear HB;clear HI0;have HO189:=n0_;have HO193:=n1_;have HK:=n2_;have HB:=n3_;have HI0:=n4_;clear n0_ n1_ n2_ n3_ n4_;(try clear hb);(try clear hb2);(try clear hk);(try clear hi))|((with_reducible refine gate_callee (f:=35) rfl ?_);refine goesL_ (some 52) rfl rfl Try.func35 (by kernel_rfl) rfl #[.pointer (some ⟨g,0,none⟩),.int .i64 2] rfl (by (try simp only [List.map_toArray,List.map_cons,List.map_nil]);first|done|rfl|(simp only [List.length_drop,List.length_take];rfl)) ?_;(with_reducible refine (spec_l6Rd_pick.calls k g s0_0 t196 2 t232 t233 w0 _ ?side1 ?side2 A44.out).mono ?_);(case side1 => repeat (first|(with_reducible first|exact HI0.out|apply IsS69.alloc|apply IsS69.drewN|apply IsS69.drew|apply IsS69.set_1)|exact HI0.out));(case side2 => repeat (first|(with_reducible first|exact HB.out|apply bA|apply bN|apply bD|refine below_set ?_ (IsS69.ge HI0.out))|exact HB.out));rintro e w49 ⟨rfl,hi,hb,hk⟩;refine ⟨_,rfl,?_⟩;have n0_:=aM (Kd.R_mono (Kd.R_keep (IsS69.apart (show IsS69 w0 _ g s0_0 t196 from by repeat (first|(with_reducible first|exact HI0.out|apply IsS69.alloc|apply IsS69.drewN|apply IsS69.drew|apply IsS69.set_1)|exact HI0.out)) (by (with_reducible repeat (first|apply Kd.R_alloc|apply Kd.R_drewN|apply Kd.R_drew));exact HO189.out) (by decide)) hk (fun _ h => h.2)) (fun _ h => h.1));have n1_:=aM (Kd.R_mono (Kd.R_keep (IsS69.apart (show IsS69 w0 _ g s0_0 t196 from by repeat (first|(with_reducible first|exact HI0.out|apply IsS69.alloc|apply IsS69.drewN|apply IsS69.drew|apply IsS69.set_1)|exact HI0.out)) (by (with_reducible repeat (first|apply Kd.R_alloc|apply Kd.R_drewN|apply Kd.R_drew));exact HO193.out) (by decide)) hk (fun _ h => h.2)) (fun _ h => h.1));have n2_:=aM (KeepBut.trans (by repeat (first|(with_reducible first|exact HK.out|apply KeepBut.set_|apply keep_drewN|apply keep_drew|apply keep_alloc)|exact HK.out)) hk (.inl rfl));have n3_:=aM (hb);have n4_:=aM (hi);clear HO189;clear HO193;clear HK;clear HB;clear HI0;have HO189:=n0_;have HO193:=n1_;have HK:=n2_;have HB:=n3_;have HI0:=n4_;clear n0_ n1_ n2_ n3_ n4_;(try clear hb);(try clear hb2);(try clear hk);(try clear hi)))
   go_ret2
   exact ⟨_,_,by first|rfl|(simp only [i64_w,i32_w];done)|(simp only [i64_w,i32_w];rfl)|(simp [errW_none,errW_some] <;> rfl)|(simp [*,errW_none,errW_some] <;> rfl),by (with_reducible repeat (first|apply Kd.R_alloc|apply Kd.R_drewN|apply Kd.R_drew));exact Kd.R_mono HO193.out (fun _ hk => hk.2),by (with_reducible repeat (first|apply Kd.R_alloc|apply Kd.R_drewN|apply Kd.R_drew));exact Kd.R_mono HO189.out (fun _ hk => hk.2),by repeat (first|(with_reducible first|exact HI0.out|apply IsS69.alloc|apply IsS69.drewN|apply IsS69.drew|apply IsS69.set_1)|exact HI0.out),by repeat (first|(with_reducible first|exact HB.out|apply bA|apply bN|apply bD|refine below_set ?_ (IsS69.ge HI0.out))|exact HB.out),by repeat (first|(with_reducible first|exact HK.out|apply KeepBut.set_|apply keep_drewN|apply keep_drew|apply keep_alloc)|exact HK.out)⟩
  ·rw [if_neg c45] at H
   have c45b0 : (t232 == 0) = false:=beq_eq_false_iff_ne.mpr c45
   have c45b1 : (t232 != 0) = true:=bne_iff_ne.mpr c45
   simp only [Option.some.injEq,Prod.mk.injEq] at H
   obtain ⟨rfl,rfl,rfl⟩:=H
   go_enter Try.func34,Try.ntmps34
   go_wp2_with (first|((with_reducible refine gate_callee (f:=52) rfl ?_);refine goesL_ (some 9) rfl rfl Try.func52 (by kernel_rfl) rfl #[.pointer (some ⟨g,0,none⟩)] rfl (by (try simp only [List.map_toArray,List.map_cons,List.map_nil]);first|done|rfl|(simp only [List.length_drop,List.length_take];rfl)) ?_;(with_reducible refine (spec_l71Off.calls k g s0_0 s0_1 t187 t190 w0 _ ?side1 ?side2 A2.out).mono ?_);(case side1 => repeat (first|(with_reducible first|exact HI0.out|apply IsS69.alloc|apply IsS69.drewN|apply IsS69.drew|apply IsS69.set_1)|exact HI0.out));(case side2 => repeat (first|(with_reducible first|exact HB.out|apply bA|apply bN|apply bD|refine below_set ?_ (IsS69.ge HI0.out))|exact HB.out));rintro e w50 ⟨v188,rfl,ho0,hi,hb,hk⟩;refine ⟨_,rfl,?_⟩;have n0_:=aM (Kd.R_lower ho0 (keep_size (w:=w) (g:=g) (row:=none) (by repeat (first|(with_reducible first|exact HK.out|apply KeepBut.set_|apply keep_drewN|apply keep_drew|apply keep_alloc)|exact HK.out))));have n1_:=aM (KeepBut.trans (by repeat (first|(with_reducible first|exact HK.out|apply KeepBut.set_|apply keep_drewN|apply keep_drew|apply keep_alloc)|exact HK.out)) hk (.inl rfl));have n2_:=aM (hb);have n3_:=aM (hi);clear HK;clear HB;clear HI0;have HO189:=n0_;have HK:=n1_;have HB:=n2_;have HI0:=n3_;clear n0_ n1_ n2_ n3_;(try clear hb);(try clear hb2);(try clear hk);(try clear hi);(try clear ho0))|((with_reducible refine gate_callee (f:=52) rfl ?_);refine goesL_ (some 11) rfl rfl Try.func52 (by kernel_rfl) rfl #[.pointer (some ⟨g,0,none⟩)] rfl (by (try simp only [List.map_toArray,List.map_cons,List.map_nil]);first|done|rfl|(simp only [List.length_drop,List.length_take];rfl)) ?_;(with_reducible refine (spec_l71Off.calls k g s0_0 t190 t191 t194 w0 _ ?side1 ?side2 A3.out).mono ?_);(case side1 => repeat (first|(with_reducible first|exact HI0.out|apply IsS69.alloc|apply IsS69.drewN|apply IsS69.drew|apply IsS69.set_1)|exact HI0.out));(case side2 => repeat (first|(with_reducible first|exact HB.out|apply bA|apply bN|apply bD|refine below_set ?_ (IsS69.ge HI0.out))|exact HB.out));rintro e w51 ⟨v192,rfl,ho0,hi,hb,hk⟩;refine ⟨_,rfl,?_⟩;have n0_:=aM (Kd.R_mono (Kd.R_told (Kd.R_oldK (IsS69.apart (show IsS69 w0 _ g s0_0 t190 from by repeat (first|(with_reducible first|exact HI0.out|apply IsS69.alloc|apply IsS69.drewN|apply IsS69.drew|apply IsS69.set_1)|exact HI0.out)) (by (with_reducible repeat (first|apply Kd.R_alloc|apply Kd.R_drewN|apply Kd.R_drew));exact HO189.out) (by decide)) hk) (Kd.R_base ho0)) (fun _ h_ => h_.1));have n1_:=aM (Kd.R_lower (Kd.R_new' ho0 (Kd.R_lt (by (with_reducible repeat (first|apply Kd.R_alloc|apply Kd.R_drewN|apply Kd.R_drew));exact HO189.out))) (keep_size (w:=w) (g:=g) (row:=none) (by repeat (first|(with_reducible first|exact HK.out|apply KeepBut.set_|apply keep_drewN|apply keep_drew|apply keep_alloc)|exact HK.out))));have n2_:=aM (KeepBut.trans (by repeat (first|(with_reducible first|exact HK.out|apply KeepBut.set_|apply keep_drewN|apply keep_drew|apply keep_alloc)|exact HK.out)) hk (.inl rfl));have n3_:=aM (hb);have n4_:=aM (hi);clear HO189;clear HK;clear HB;clear HI0;have HO189:=n0_;have HO193:=n1_;have HK:=n2_;have HB:=n3_;have HI0:=n4_;clear n0_ n1_ n2_ n3_ n4_;(try clear hb);(try clear hb2);(try clear hk);(try clear hi);(try clear ho0))|((with_reducible refine gate_callee (f:=35) rfl ?_);refine goesL_ (some 13) rfl rfl Try.func35 (by kernel_rfl) rfl #[.pointer (some ⟨g,0,none⟩),.int .i64 4] rfl (by (try simp only [List.map_toArray,List.map_cons,List.map_nil]);first|done|rfl|(simp only [List.length_drop,List.length_take];rfl)) ?_;(with_reducible refine (spec_l6Rd_pick.calls k g s0_0 t194 4 t195 t196 w0 _ ?side1 ?side2 A4.out).mono ?_);(case side1 => repeat (first|(with_reducible first|exact HI0.out|apply IsS69.alloc|apply IsS69.drewN|apply IsS69.drew|apply IsS69.set_1)|exact HI0.out));(case side2 => repeat (first|(with_reducible first|exact HB.out|apply bA|apply bN|apply bD|refine below_set ?_ (IsS69.ge HI0.out))|exact HB.out));rintro e w52 ⟨rfl,hi,hb,hk⟩;refine ⟨_,rfl,?_⟩;have n0_:=aM (Kd.R_mono (Kd.R_keep (IsS69.apart (show IsS69 w0 _ g s0_0 t194 from by repeat (first|(with_reducible first|exact HI0.out|apply IsS69.alloc|apply IsS69.drewN|apply IsS69.drew|apply IsS69.set_1)|exact HI0.out)) (by (with_reducible repeat (first|apply Kd.R_alloc|apply Kd.R_drewN|apply Kd.R_drew));exact HO189.out) (by decide)) hk (fun _ h => h.2)) (fun _ h => h.1));have n1_:=aM (Kd.R_mono (Kd.R_keep (IsS69.apart (show IsS69 w0 _ g s0_0 t194 from by repeat (first|(with_reducible first|exact HI0.out|apply IsS69.alloc|apply IsS69.drewN|apply IsS69.drew|apply IsS69.set_1)|exact HI0.out)) (by (with_reducible repeat (first|apply Kd.R_alloc|apply Kd.R_drewN|apply Kd.R_drew));exact HO193.out) (by decide)) hk (fun _ h => h.2)) (fun _ h => h.1));have n2_:=aM (KeepBut.trans (by repeat (first|(with_reducible first|exact HK.out|apply KeepBut.set_|apply keep_drewN|apply keep_drew|apply keep_alloc)|exact HK.out)) hk (.inl rfl));have n3_:=aM (hb);have n4_:=aM (hi);clear HO189;clear HO193;clear HK;clear HB;clear HI0;have HO189:=n0_;have HO193:=n1_;have HK:=n2_;have HB:=n3_;have HI0:=n4_;clear n0_ n1_ n2_ n3_ n4_;(try clear hb);(try clear hb2);(try clear hk);(try clear hi))|((with_reducible refine gate_callee (f:=35) rfl ?_);refine goesL_ (some 52) rfl rfl Try.func35 (by kernel_rfl) rfl #[.pointer (some ⟨g,0,none⟩),.int .i64 2] rfl (by (try simp only [List.map_toArray,List.map_cons,List.map_nil]);first|done|rfl|(simp only [List.length_drop,List.length_take];rfl)) ?_;(with_reducible refine (spec_l6Rd_pick.calls k g s0_0 t196 2 t232 t233 w0 _ ?side1 ?side2 A44.out).mono ?_);(case side1 => repeat (first|(with_reducible first|exact HI0.out|apply IsS69.alloc|apply IsS69.drewN|apply IsS69.drew|apply IsS69.set_1)|exact HI0.out));(case side2 => repeat (first|(with_reducible first|exact HB.out|apply bA|apply bN|apply bD|refine below_set ?_ (IsS69.ge HI0.out))|exact HB.out));rintro e w53 ⟨rfl,hi,hb,hk⟩;refine ⟨_,rfl,?_⟩;have n0_:=aM (Kd.R_mono (Kd.R_keep (IsS69.apart (show IsS69 w0 _ g s0_0 t196 from by repeat (first|(with_reducible first|exact HI0.out|apply IsS69.alloc|apply IsS69.drewN|apply IsS69.drew|apply IsS69.set_1)|exact HI0.out)) (by (with_reducible repeat (first|apply Kd.R_alloc|apply Kd.R_drewN|apply Kd.R_drew));exact HO189.out) (by decide)) hk (fun _ h => h.2)) (fun _ h => h.1));have n1_:=aM (Kd.R_mono (Kd.R_keep (IsS69.apart (show IsS69 w0 _ g s0_0 t196 from by repeat (first|(with_reducible first|exact HI0.out|apply IsS69.alloc|apply IsS69.drewN|apply IsS69.drew|apply IsS69.set_1)|exact HI0.out)) (by (with_reducible repeat (first|apply Kd.R_alloc|apply Kd.R_drewN|apply Kd.R_drew));exact HO193.out) (by decide)) hk (fun _ h => h.2)) (fun _ h => h.1));have n2_:=aM (KeepBut.trans (by repeat (first|(with_reducible first|exact HK.out|apply KeepBut.set_|apply keep_drewN|apply keep_drew|apply keep_alloc)|exact HK.out)) hk (.inl rfl));have n3_:=aM (hb);have n4_:=aM (hi);clear HO189;clear HO193;clear HK;clear HB;clear HI0;have HO189:=n0_;have HO193:=n1_;have HK:=n2_;have HB:=n3_;have HI0:=n4_;clear n0_ n1_ n2_ n3_ n4_;(try clear hb);(try clear hb2);(try clear hk);(try clear hi)))
   go_ret2
   exact ⟨_,_,by first|rfl|(simp only [i64_w,i32_w];done)|(simp only [i64_w,i32_w];rfl)|(simp [errW_none,errW_some] <;> rfl)|(simp [*,errW_none,errW_some] <;> rfl),by (with_reducible repeat (first|apply Kd.R_alloc|apply Kd.R_drewN|apply Kd.R_drew));exact Kd.R_mono HO189.out (fun _ hk => hk.2),by (with_reducible repeat (first|apply Kd.R_alloc|apply Kd.R_drewN|apply Kd.R_drew));exact Kd.R_mono HO193.out (fun _ hk => hk.2),by repeat (first|(with_reducible first|exact HI0.out|apply IsS69.alloc|apply IsS69.drewN|apply IsS69.drew|apply IsS69.set_1)|exact HI0.out),by repeat (first|(with_reducible first|exact HB.out|apply bA|apply bN|apply bD|refine below_set ?_ (IsS69.ge HI0.out))|exact HB.out),by repeat (first|(with_reducible first|exact HK.out|apply KeepBut.set_|apply keep_drewN|apply keep_drew|apply keep_alloc)|exact HK.out)⟩

/-! ### spec_DrawChainIn: function 13 -/
def spec_DrawChainIn.f (k : Nat) (l0 : List Int) : Option ((List (S56)) × (List (S56))):=(spec_l6Open.f l0).bind fun o => ((spec_l71Two.f k o.1 o.2).bind fun t => ((spec_l6Rd_pick.f k o.1 t.2.2 2).bind fun p => (if p.1 = 0 then ((spec_l6Rd_pick.f k o.1 p.2 (wrap64 ((t.1.length : Int) + 1))).bind fun q => (if 0 ≤ q.1 then (if q.1 ≤ (t.1.length : Int) then (some (t.1.take (q.1 : Int).toNat,t.1)) else (none)) else (none))) else (some (t.1,t.2.1)))))
theorem spec_DrawChainIn.mono : ∀ a0 k,LeO (spec_DrawChainIn.f k a0) (spec_DrawChainIn.f (k + 1) a0):=by
 intro a0 k
 unfold spec_DrawChainIn.f
 repeat' first
   | exact spec_l71Two.mono _ _ _
   | exact spec_l6Rd_pick.mono _ _ _ _
   | exact LeO.refl _
   | exact LeO.none _
   | refine LeO.ite ?_ ?_
   | refine LeO.bind ?_ (fun _ => ?_)
set_option maxHeartbeats 8000000 in
set_option maxRecDepth 100000 in
theorem spec_DrawChainIn.calls (k : Nat) (A0 : Option Addr) (c0 : Nat) (l0 : List Int) (r1 : List (S56)) (r2 : List (S56)) (w : World) (hr0 : Kd.C (Kd.int .u8) w A0 l0.length l0) (hc0 : l0.length ≤ c0) (h : spec_DrawChainIn.f k l0 = some (r1,r2)) :
  Calls Try.prog 13 #[.slice A0 l0.length c0] w fun e w' => ∃ v0_ v1_ : Value,e = .returned (.tuple #[v0_,v1_]) ∧ Kd.V k56 56 w' w.heap.size (fun k_ => (w.heap.size ≤ k_)) v0_ r1 ∧ Kd.V k56 56 w' w.heap.size (fun k_ => (w.heap.size ≤ k_)) v1_ r2 ∧ Below w.heap.size w w':=by
 have HR0:=aM hr0
 have HC0:=aM hc0
 clear hr0 hc0
 have HB:=aM (Below.refl w.heap.size w)
 unfold spec_DrawChainIn.f at h
 replace h:=Option.bind_eq_some_iff.mp h
 obtain ⟨⟨o1,o2⟩,E1,h⟩:=h
 replace h:=Option.bind_eq_some_iff.mp h
 obtain ⟨⟨t1,t2,t3⟩,E2,h⟩:=h
 replace h:=Option.bind_eq_some_iff.mp h
 obtain ⟨⟨p1,p2⟩,E3,h⟩:=h
 have A1:=aM E1
 have A2:=aM E2
 have A3:=aM E3
 clear E1 E2 E3
 go_enter Try.func13,Try.ntmps13
 by_cases c5 : p1 = 0
 ·replace h:=(if_pos (α:=Option ((List (S56)) × (List (S56)))) c5).symm.trans h
  have c5b0 : (p1 == 0) = true:=beq_iff_eq.mpr c5
  clear c5
  replace h:=Option.bind_eq_some_iff.mp h
  obtain ⟨⟨q1,q2⟩,E4,h⟩:=h
  have A4:=aM E4
  clear E4
  by_cases c6 : 0 ≤ q1
  ·replace h:=(if_pos (α:=Option ((List (S56)) × (List (S56)))) c6).symm.trans h
   by_cases c7 : q1 ≤ (t1.length : Int)
   ·replace h:=(if_pos (α:=Option ((List (S56)) × (List (S56)))) c7).symm.trans h
    simp only [Option.some.injEq,Prod.mk.injEq] at h
    obtain ⟨rfl,rfl⟩:=h
    have C6:=aM c6
    have C7:=aM c7
    have c6b : decide (0 ≤ q1) = true:=decide_eq_true c6
    have c7b : decide (q1 ≤ (t1.length : Int)) = true:=decide_eq_true c7
    go_upto_region 4 with (first|(go_at_call 33;refine (spec_l6Open.calls _ _ l0 o1 o2 w _ (by repeat (first|(with_reducible first|exact HB.out|apply bA|apply bN|apply bD|refine below_set ?_ (IsS69.ge HI.out))|exact HB.out)) HR0.out HC0.out A1.out).mono ?_;rintro e w1 ⟨g,rfl,hi,hb,hb2⟩;clear HB;have HB:=aM hb;have HI:=aM hi;clear hb hb2 hi)|(go_at_call 34;refine (spec_l71Two.calls k g o1 o2 t1 t2 t3 w _ (by repeat (first|(with_reducible first|exact HI.out|apply IsS69.alloc|apply IsS69.drewN|apply IsS69.drew|apply IsS69.set_1)|exact HI.out)) (by repeat (first|(with_reducible first|exact HB.out|apply bA|apply bN|apply bD|refine below_set ?_ (IsS69.ge HI.out))|exact HB.out)) A2.out).mono ?_;rintro e w2 ⟨v0,v1,rfl,ho0,ho1,hi,hb,hk⟩;have n0_:=aM (Kd.R_lower ho0 (below_size (by repeat (first|(with_reducible first|exact HB.out|apply bA|apply bN|apply bD|refine below_set ?_ (IsS69.ge HI.out))|exact HB.out))));have n1_:=aM (Kd.R_lower ho1 (below_size (by repeat (first|(with_reducible first|exact HB.out|apply bA|apply bN|apply bD|refine below_set ?_ (IsS69.ge HI.out))|exact HB.out))));clear HB HI;have HO0:=n0_;have HO1:=n1_;have HB:=aM hb;have HI:=aM hi;clear n0_ n1_ hb hi hk ho0 ho1;obtain ⟨Ao,co,eo⟩:=Kd.R_slice HO0.out;subst eo)|(go_at_call 35;refine (spec_l6Rd_pick.calls k g o1 t3 2 p1 p2 w _ (by repeat (first|(with_reducible first|exact HI.out|apply IsS69.alloc|apply IsS69.drewN|apply IsS69.drew|apply IsS69.set_1)|exact HI.out)) (by repeat (first|(with_reducible first|exact HB.out|apply bA|apply bN|apply bD|refine below_set ?_ (IsS69.ge HI.out))|exact HB.out)) A3.out).mono ?_;rintro e w3 ⟨rfl,hi,hb,hk⟩;have n0_:=aM (Kd.R_mono (Kd.R_keep (IsS69.apart (show IsS69 w _ g o1 t3 from (by repeat (first|(with_reducible first|exact HI.out|apply IsS69.alloc|apply IsS69.drewN|apply IsS69.drew|apply IsS69.set_1)|exact HI.out))) (by (with_reducible repeat (first|apply Kd.R_alloc|apply Kd.R_drewN|apply Kd.R_drew));exact HO0.out) (by decide)) hk (fun _ h => h.2)) (fun _ h => h.1));clear HO0;have HO0:=n0_;clear n0_;have n0_:=aM (Kd.R_mono (Kd.R_keep (IsS69.apart (show IsS69 w _ g o1 t3 from (by repeat (first|(with_reducible first|exact HI.out|apply IsS69.alloc|apply IsS69.drewN|apply IsS69.drew|apply IsS69.set_1)|exact HI.out))) (by (with_reducible repeat (first|apply Kd.R_alloc|apply Kd.R_drewN|apply Kd.R_drew));exact HO1.out) (by decide)) hk (fun _ h => h.2)) (fun _ h => h.1));clear HO1;have HO1:=n0_;clear n0_;clear HB HI;have HB:=aM hb;have HI:=aM hi;clear hb hi hk))
    obtain ⟨i0,hi0,_,hsz,_⟩:=info_parts info56
    have hcut:=cut_to (P:=Try.prog) 28 56 .i64 Try.underlying28 hi0 Ao t1.length co q1 C6.out C7.out (Kd.R_reads' HO0.out).2.1
    clear hi0 hsz
    go_wp2_with (first|(go_at_call 35;refine (spec_l6Rd_pick.calls k g o1 p2 (wrap64 ((t1.length : Int) + 1)) q1 q2 w _ (by repeat (first|(with_reducible first|exact HI.out|apply IsS69.alloc|apply IsS69.drewN|apply IsS69.drew|apply IsS69.set_1)|exact HI.out)) (by repeat (first|(with_reducible first|exact HB.out|apply bA|apply bN|apply bD|refine below_set ?_ (IsS69.ge HI.out))|exact HB.out)) A4.out).mono ?_;rintro e w4 ⟨rfl,hi,hb,hk⟩;have n0_:=aM (Kd.R_mono (Kd.R_keep (IsS69.apart (show IsS69 w _ g o1 p2 from (by repeat (first|(with_reducible first|exact HI.out|apply IsS69.alloc|apply IsS69.drewN|apply IsS69.drew|apply IsS69.set_1)|exact HI.out))) (by (with_reducible repeat (first|apply Kd.R_alloc|apply Kd.R_drewN|apply Kd.R_drew));exact HO0.out) (by decide)) hk (fun _ h => h.2)) (fun _ h => h.1));clear HO0;have HO0:=n0_;clear n0_;have n0_:=aM (Kd.R_mono (Kd.R_keep (IsS69.apart (show IsS69 w _ g o1 p2 from (by repeat (first|(with_reducible first|exact HI.out|apply IsS69.alloc|apply IsS69.drewN|apply IsS69.drew|apply IsS69.set_1)|exact HI.out))) (by (with_reducible repeat (first|apply Kd.R_alloc|apply Kd.R_drewN|apply Kd.R_drew));exact HO1.out) (by decide)) hk (fun _ h => h.2)) (fun _ h => h.1));clear HO1;have HO1:=n0_;clear n0_;clear HB HI;have HB:=aM hb;have HI:=aM hi;clear hb hi hk))
    go_ret2
    have hF:=Kd.F_mono (Kd.R_F (Kd.R_bound HO0.out)) (fun k hk => hk.2.1)
    have hl:=(Kd.R_reads' HO0.out).2.1
    have hm : q1.toNat ≤ t1.length:=by omega
    have ht : (t1.take q1.toNat).length = q1.toNat:=by rw [List.length_take];omega
    have hV:=Kd.V_mk (e:=56) (base:=w.heap.size) (c:=co) (by omega) (Kd.F_take hF hm)
    rw [ht] at hV
    exact ⟨_,_,rfl,hV,Kd.V_mk hl hF,HB.out⟩
   ·replace h:=(if_neg (α:=Option ((List (S56)) × (List (S56)))) c7).symm.trans h
    cases h
  ·replace h:=(if_neg (α:=Option ((List (S56)) × (List (S56)))) c6).symm.trans h
   cases h
 ·replace h:=(if_neg (α:=Option ((List (S56)) × (List (S56)))) c5).symm.trans h
  have c5b0 : (p1 == 0) = false:=beq_eq_false_iff_ne.mpr c5
  clear c5
  simp only [Option.some.injEq,Prod.mk.injEq] at h
  obtain ⟨rfl,rfl⟩:=h
  go_wp2_with (first|(go_at_call 33;refine (spec_l6Open.calls _ _ l0 o1 o2 w _ (by repeat (first|(with_reducible first|exact HB.out|apply bA|apply bN|apply bD|refine below_set ?_ (IsS69.ge HI.out))|exact HB.out)) HR0.out HC0.out A1.out).mono ?_;rintro e w1 ⟨g,rfl,hi,hb,hb2⟩;clear HB;have HB:=aM hb;have HI:=aM hi;clear hb hb2 hi)|(go_at_call 34;refine (spec_l71Two.calls k g o1 o2 t1 t2 t3 w _ (by repeat (first|(with_reducible first|exact HI.out|apply IsS69.alloc|apply IsS69.drewN|apply IsS69.drew|apply IsS69.set_1)|exact HI.out)) (by repeat (first|(with_reducible first|exact HB.out|apply bA|apply bN|apply bD|refine below_set ?_ (IsS69.ge HI.out))|exact HB.out)) A2.out).mono ?_;rintro e w2 ⟨v0,v1,rfl,ho0,ho1,hi,hb,hk⟩;have n0_:=aM (Kd.R_lower ho0 (below_size (by repeat (first|(with_reducible first|exact HB.out|apply bA|apply bN|apply bD|refine below_set ?_ (IsS69.ge HI.out))|exact HB.out))));have n1_:=aM (Kd.R_lower ho1 (below_size (by repeat (first|(with_reducible first|exact HB.out|apply bA|apply bN|apply bD|refine below_set ?_ (IsS69.ge HI.out))|exact HB.out))));clear HB HI;have HO0:=n0_;have HO1:=n1_;have HB:=aM hb;have HI:=aM hi;clear n0_ n1_ hb hi hk ho0 ho1;obtain ⟨Ao,co,eo⟩:=Kd.R_slice HO0.out;subst eo)|(go_at_call 35;refine (spec_l6Rd_pick.calls k g o1 t3 2 p1 p2 w _ (by repeat (first|(with_reducible first|exact HI.out|apply IsS69.alloc|apply IsS69.drewN|apply IsS69.drew|apply IsS69.set_1)|exact HI.out)) (by repeat (first|(with_reducible first|exact HB.out|apply bA|apply bN|apply bD|refine below_set ?_ (IsS69.ge HI.out))|exact HB.out)) A3.out).mono ?_;rintro e w3 ⟨rfl,hi,hb,hk⟩;have n0_:=aM (Kd.R_mono (Kd.R_keep (IsS69.apart (show IsS69 w _ g o1 t3 from (by repeat (first|(with_reducible first|exact HI.out|apply IsS69.alloc|apply IsS69.drewN|apply IsS69.drew|apply IsS69.set_1)|exact HI.out))) (by (with_reducible repeat (first|apply Kd.R_alloc|apply Kd.R_drewN|apply Kd.R_drew));exact HO0.out) (by decide)) hk (fun _ h => h.2)) (fun _ h => h.1));clear HO0;have HO0:=n0_;clear n0_;have n0_:=aM (Kd.R_mono (Kd.R_keep (IsS69.apart (show IsS69 w _ g o1 t3 from (by repeat (first|(with_reducible first|exact HI.out|apply IsS69.alloc|apply IsS69.drewN|apply IsS69.drew|apply IsS69.set_1)|exact HI.out))) (by (with_reducible repeat (first|apply Kd.R_alloc|apply Kd.R_drewN|apply Kd.R_drew));exact HO1.out) (by decide)) hk (fun _ h => h.2)) (fun _ h => h.1));clear HO1;have HO1:=n0_;clear n0_;clear HB HI;have HB:=aM hb;have HI:=aM hi;clear hb hi hk))
  go_ret2
  exact ⟨_,_,rfl,Kd.R_V (Kd.R_mono (Kd.R_bound (by (with_reducible repeat (first|apply Kd.R_alloc|apply Kd.R_drewN|apply Kd.R_drew));exact HO0.out)) (fun k hk => hk.2.1)),Kd.R_V (Kd.R_mono (Kd.R_bound (by (with_reducible repeat (first|apply Kd.R_alloc|apply Kd.R_drewN|apply Kd.R_drew));exact HO1.out)) (fun k hk => hk.2.1)),(by repeat (first|(with_reducible first|exact HB.out|apply bA|apply bN|apply bD|refine below_set ?_ (IsS69.ge HI.out))|exact HB.out))⟩

/-! ### impl_within: function 59 -/
def impl_within.f (a0 : Int) (a1 : Int) (a2 : Int) : Option (Bool):=if a0 ≥ a1 then (some (decide (a0 ≤ a2))) else (some false)
set_option maxHeartbeats 8000000 in
set_option maxRecDepth 100000 in
theorem impl_within.calls (a0 : Int) (a1 : Int) (a2 : Int) (r : Bool) (w : World) (h : impl_within.f a0 a1 a2 = some r) :
  Calls Try.prog 59 #[.int .i64 a0,.int .i64 a1,.int .i64 a2] w fun e w' => e = .returned (.bool r) ∧ Drawn0 w w':=by
 have H : (if a0 ≥ a1 then (some (decide (a0 ≤ a2))) else (some false)) = some r:=h
 clear h
 by_cases c4 : a0 ≥ a1
 ·rw [if_pos c4] at H
  have c4b0 : decide (a1 ≤ a0) = true:=decide_eq_true c4
  clear c4
  obtain rfl:=Option.some.inj H
  go_enter Try.func59,Try.ntmps59
  go_wp2
  go_ret
  exact ⟨by first|rfl|(simp;done)|(simp [*];done),by repeat (first|exact Drawn0.refl _|apply Drawn0.step)⟩
 ·rw [if_neg c4] at H
  have c4b0 : decide (a1 ≤ a0) = false:=decide_eq_false c4
  clear c4
  obtain rfl:=Option.some.inj H
  go_enter Try.func59,Try.ntmps59
  go_wp2
  go_ret
  exact ⟨by first|rfl|(simp;done)|(simp [*];done),by repeat (first|exact Drawn0.refl _|apply Drawn0.step)⟩

/-! ### impl_PayOk: function 48 -/
def impl_PayOk.f (a0_0 : Int) (a0_1 : Int) (a0_2 : Int) : Option (Bool):=(impl_within.f a0_0 1 3).bind fun t235 => (if t235 = true then ((impl_within.f a0_1 1 3).bind fun t236 => (if t236 = true then (if a0_0 = a0_1 then (some false) else ((impl_within.f a0_2 1 9).bind fun t237 => (some t237))) else (some false))) else (some false))
set_option maxHeartbeats 8000000 in
set_option maxRecDepth 100000 in
theorem impl_PayOk.calls (a0_0 : Int) (a0_1 : Int) (a0_2 : Int) (r : Bool) (w : World) (h : impl_PayOk.f a0_0 a0_1 a0_2 = some r) :
  Calls Try.prog 48 #[.agg #[.int .i64 a0_0,.int .i64 a0_1,.int .i64 a0_2]] w fun e w' => e = .returned (.bool r) ∧ Below w.heap.size w w':=by
 have hu44:=Try.underlying44
 have HB:=aM (Below.refl w.heap.size w)
 have H : ((impl_within.f a0_0 1 3).bind fun t235 => (if t235 = true then ((impl_within.f a0_1 1 3).bind fun t236 => (if t236 = true then (if a0_0 = a0_1 then (some false) else ((impl_within.f a0_2 1 9).bind fun t237 => (some t237))) else (some false))) else (some false))) = some r:=h
 clear h
 replace H:=Option.bind_eq_some_iff.mp H
 obtain ⟨t235,A20,H⟩:=H
 replace H : (if t235 = true then ((impl_within.f a0_1 1 3).bind fun t236 => (if t236 = true then (if a0_0 = a0_1 then (some false) else ((impl_within.f a0_2 1 9).bind fun t237 => (some t237))) else (some false))) else (some false)) = some r:=H
 have A2:=aM A20
 clear A20
 by_cases c3 : t235 = true
 ·subst c3
  have H1 : ((impl_within.f a0_1 1 3).bind fun t236 => (if t236 = true then (if a0_0 = a0_1 then (some false) else ((impl_within.f a0_2 1 9).bind fun t237 => (some t237))) else (some false))) = some r:=by rw [if_pos rfl] at H;exact H
  clear H
  have H:=H1
  clear H1
  replace H:=Option.bind_eq_some_iff.mp H
  obtain ⟨t236,A40,H⟩:=H
  replace H : (if t236 = true then (if a0_0 = a0_1 then (some false) else ((impl_within.f a0_2 1 9).bind fun t237 => (some t237))) else (some false)) = some r:=H
  have A4:=aM A40
  clear A40
  by_cases c5 : t236 = true
  ·subst c5
   have H1 : (if a0_0 = a0_1 then (some false) else ((impl_within.f a0_2 1 9).bind fun t237 => (some t237))) = some r:=by rw [if_pos rfl] at H;exact H
   clear H
   have H:=H1
   clear H1
   by_cases c6 : a0_0 = a0_1
   ·rw [if_pos c6] at H
    have c6b0 : (a0_0 == a0_1) = true:=beq_iff_eq.mpr c6
    have c6b1 : (a0_0 != a0_1) = false:=bne_eq_false_iff_eq.mpr c6
    clear c6
    obtain rfl:=Option.some.inj H
    go_enter Try.func48,Try.ntmps48
    go_wp2_with (first|((with_reducible refine gate_dst (N:=1) rfl ?_);refine box_event ?hg (N:=1) ?hd (cs:=#[.int .i64 a0_0,.int .i64 a0_1,.int .i64 a0_2]) (t:=44) ?hr ?_;(case hd => rfl);(case hg => rfl);(case hr => first|(go_simp;done)|(go_simp;rfl));intro gb234 hg w7 hbox hb;have n0_:=aM (below_step (by repeat (first|(with_reducible first|exact HB.out|apply bA|apply bN|apply bD)|exact HB.out)) hb);have n1_:=aM (hbox);have n2_:=aM ((by rw [hg];exact (below_size (by repeat (first|(with_reducible first|exact HB.out|apply bA|apply bN|apply bD)|exact HB.out))) : w.heap.size ≤ gb234));have n3_:=aM ((by rw [hg];exact (below_size (by repeat (first|(with_reducible first|exact HB.out|apply bA|apply bN|apply bD)|exact HB.out))) : w.heap.size ≤ gb234));clear HB;have HB:=n0_;have BK234:=n1_;have GW234:=n2_;have GE234:=n3_;clear n0_ n1_ n2_ n3_;clear hb hbox hg;have hcz8_0 : w7.cell? ⟨gb234,0,none⟩ = some (.int .i64 a0_0):=(blk_cell BK234.out 0).trans rfl;have hcz8_1 : w7.cell? ⟨gb234,1,none⟩ = some (.int .i64 a0_1):=(blk_cell BK234.out 1).trans rfl;have hcz8_2 : w7.cell? ⟨gb234,2,none⟩ = some (.int .i64 a0_2):=(blk_cell BK234.out 2).trans rfl;have hfz8_0:=blk_frozen BK234.out 0;have hfz8_1:=blk_frozen BK234.out 1;have hfz8_2:=blk_frozen BK234.out 2)|((with_reducible refine gate_callee (f:=59) rfl ?_);refine goesL_ (some 5) rfl rfl Try.func59 (by kernel_rfl) rfl #[.int .i64 a0_0,.int .i64 1,.int .i64 3] rfl (by (try simp only [List.map_toArray,List.map_cons,List.map_nil]);first|done|rfl|(simp only [List.length_drop,List.length_take];rfl)) ?_;(with_reducible refine (impl_within.calls a0_0 1 3 true _ A2.out).mono ?_);rintro e w' ⟨rfl,⟨nd,rfl⟩⟩;refine ⟨_,rfl,?_⟩)|(go_at_call 59;(with_reducible refine (impl_within.calls a0_1 1 3 true _ A4.out).mono ?_);rintro e w' ⟨rfl,⟨nd,rfl⟩⟩))
    go_ret
    exact ⟨by first|rfl|(simp only [i64_w,i32_w];done)|(simp only [i64_w,i32_w];rfl)|(simp [errW_none,errW_some] <;> rfl)|(simp [*,errW_none,errW_some] <;> rfl),by repeat (first|(with_reducible first|exact HB.out|apply bA|apply bN|apply bD|refine below_set ?_ GE234.out)|exact HB.out)⟩
   ·rw [if_neg c6] at H
    have c6b0 : (a0_0 == a0_1) = false:=beq_eq_false_iff_ne.mpr c6
    have c6b1 : (a0_0 != a0_1) = true:=bne_iff_ne.mpr c6
    replace H:=Option.bind_eq_some_iff.mp H
    obtain ⟨t237,A90,H⟩:=H
    replace H : (some t237) = some r:=H
    have A9:=aM A90
    clear A90
    obtain rfl:=Option.some.inj H
    go_enter Try.func48,Try.ntmps48
    go_wp2_with (first|((with_reducible refine gate_dst (N:=1) rfl ?_);refine box_event ?hg (N:=1) ?hd (cs:=#[.int .i64 a0_0,.int .i64 a0_1,.int .i64 a0_2]) (t:=44) ?hr ?_;(case hd => rfl);(case hg => rfl);(case hr => first|(go_simp;done)|(go_simp;rfl));intro gb234 hg w10 hbox hb;have n0_:=aM (below_step (by repeat (first|(with_reducible first|exact HB.out|apply bA|apply bN|apply bD)|exact HB.out)) hb);have n1_:=aM (hbox);have n2_:=aM ((by rw [hg];exact (below_size (by repeat (first|(with_reducible first|exact HB.out|apply bA|apply bN|apply bD)|exact HB.out))) : w.heap.size ≤ gb234));have n3_:=aM ((by rw [hg];exact (below_size (by repeat (first|(with_reducible first|exact HB.out|apply bA|apply bN|apply bD)|exact HB.out))) : w.heap.size ≤ gb234));clear HB;have HB:=n0_;have BK234:=n1_;have GW234:=n2_;have GE234:=n3_;clear n0_ n1_ n2_ n3_;clear hb hbox hg;have hcz11_0 : w10.cell? ⟨gb234,0,none⟩ = some (.int .i64 a0_0):=(blk_cell BK234.out 0).trans rfl;have hcz11_1 : w10.cell? ⟨gb234,1,none⟩ = some (.int .i64 a0_1):=(blk_cell BK234.out 1).trans rfl;have hcz11_2 : w10.cell? ⟨gb234,2,none⟩ = some (.int .i64 a0_2):=(blk_cell BK234.out 2).trans rfl;have hfz11_0:=blk_frozen BK234.out 0;have hfz11_1:=blk_frozen BK234.out 1;have hfz11_2:=blk_frozen BK234.out 2)|((with_reducible refine gate_callee (f:=59) rfl ?_);refine goesL_ (some 5) rfl rfl Try.func59 (by kernel_rfl) rfl #[.int .i64 a0_0,.int .i64 1,.int .i64 3] rfl (by (try simp only [List.map_toArray,List.map_cons,List.map_nil]);first|done|rfl|(simp only [List.length_drop,List.length_take];rfl)) ?_;(with_reducible refine (impl_within.calls a0_0 1 3 true _ A2.out).mono ?_);rintro e w' ⟨rfl,⟨nd,rfl⟩⟩;refine ⟨_,rfl,?_⟩)|(go_at_call 59;(with_reducible refine (impl_within.calls a0_1 1 3 true _ A4.out).mono ?_);rintro e w' ⟨rfl,⟨nd,rfl⟩⟩)|(go_at_call 59;(with_reducible refine (impl_within.calls a0_2 1 9 t237 _ A9.out).mono ?_);rintro e w' ⟨rfl,⟨nd,rfl⟩⟩))
    go_ret
    exact ⟨by first|rfl|(simp only [i64_w,i32_w];done)|(simp only [i64_w,i32_w];rfl)|(simp [errW_none,errW_some] <;> rfl)|(simp [*,errW_none,errW_some] <;> rfl),by repeat (first|(with_reducible first|exact HB.out|apply bA|apply bN|apply bD|refine below_set ?_ GE234.out)|exact HB.out)⟩
  ·replace c5:=Bool.eq_false_iff.mpr c5
   subst c5
   have H1 : (some false) = some r:=by rw [if_neg (show ¬ (false = true) by decide)] at H;exact H
   clear H
   have H:=H1
   clear H1
   obtain rfl:=Option.some.inj H
   go_enter Try.func48,Try.ntmps48
   go_wp2_with (first|((with_reducible refine gate_dst (N:=1) rfl ?_);refine box_event ?hg (N:=1) ?hd (cs:=#[.int .i64 a0_0,.int .i64 a0_1,.int .i64 a0_2]) (t:=44) ?hr ?_;(case hd => rfl);(case hg => rfl);(case hr => first|(go_simp;done)|(go_simp;rfl));intro gb234 hg w12 hbox hb;have n0_:=aM (below_step (by repeat (first|(with_reducible first|exact HB.out|apply bA|apply bN|apply bD)|exact HB.out)) hb);have n1_:=aM (hbox);have n2_:=aM ((by rw [hg];exact (below_size (by repeat (first|(with_reducible first|exact HB.out|apply bA|apply bN|apply bD)|exact HB.out))) : w.heap.size ≤ gb234));have n3_:=aM ((by rw [hg];exact (below_size (by repeat (first|(with_reducible first|exact HB.out|apply bA|apply bN|apply bD)|exact HB.out))) : w.heap.size ≤ gb234));clear HB;have HB:=n0_;have BK234:=n1_;have GW234:=n2_;have GE234:=n3_;clear n0_ n1_ n2_ n3_;clear hb hbox hg;have hcz13_0 : w12.cell? ⟨gb234,0,none⟩ = some (.int .i64 a0_0):=(blk_cell BK234.out 0).trans rfl;have hcz13_1 : w12.cell? ⟨gb234,1,none⟩ = some (.int .i64 a0_1):=(blk_cell BK234.out 1).trans rfl;have hcz13_2 : w12.cell? ⟨gb234,2,none⟩ = some (.int .i64 a0_2):=(blk_cell BK234.out 2).trans rfl;have hfz13_0:=blk_frozen BK234.out 0;have hfz13_1:=blk_frozen BK234.out 1;have hfz13_2:=blk_frozen BK234.out 2)|((with_reducible refine gate_callee (f:=59) rfl ?_);refine goesL_ (some 5) rfl rfl Try.func59 (by kernel_rfl) rfl #[.int .i64 a0_0,.int .i64 1,.int .i64 3] rfl (by (try simp only [List.map_toArray,List.map_cons,List.map_nil]);first|done|rfl|(simp only [List.length_drop,List.length_take];rfl)) ?_;(with_reducible refine (impl_within.calls a0_0 1 3 true _ A2.out).mono ?_);rintro e w' ⟨rfl,⟨nd,rfl⟩⟩;refine ⟨_,rfl,?_⟩)|(go_at_call 59;(with_reducible refine (impl_within.calls a0_1 1 3 false _ A4.out).mono ?_);rintro e w' ⟨rfl,⟨nd,rfl⟩⟩))
   go_ret
   exact ⟨by first|rfl|(simp only [i64_w,i32_w];done)|(simp only [i64_w,i32_w];rfl)|(simp [errW_none,errW_some] <;> rfl)|(simp [*,errW_none,errW_some] <;> rfl),by repeat (first|(with_reducible first|exact HB.out|apply bA|apply bN|apply bD|refine below_set ?_ GE234.out)|exact HB.out)⟩
 ·replace c3:=Bool.eq_false_iff.mpr c3
  subst c3
  have H1 : (some false) = some r:=by rw [if_neg (show ¬ (false = true) by decide)] at H;exact H
  clear H
  have H:=H1
  clear H1
  obtain rfl:=Option.some.inj H
  go_enter Try.func48,Try.ntmps48
  go_wp2_with (first|((with_reducible refine gate_dst (N:=1) rfl ?_);refine box_event ?hg (N:=1) ?hd (cs:=#[.int .i64 a0_0,.int .i64 a0_1,.int .i64 a0_2]) (t:=44) ?hr ?_;(case hd => rfl);(case hg => rfl);(case hr => first|(go_simp;done)|(go_simp;rfl));intro gb234 hg w14 hbox hb;have n0_:=aM (below_step (by repeat (first|(with_reducible first|exact HB.out|apply bA|apply bN|apply bD)|exact HB.out)) hb);have n1_:=aM (hbox);have n2_:=aM ((by rw [hg];exact (below_size (by repeat (first|(with_reducible first|exact HB.out|apply bA|apply bN|apply bD)|exact HB.out))) : w.heap.size ≤ gb234));have n3_:=aM ((by rw [hg];exact (below_size (by repeat (first|(with_reducible first|exact HB.out|apply bA|apply bN|apply bD)|exact HB.out))) : w.heap.size ≤ gb234));clear HB;have HB:=n0_;have BK234:=n1_;have GW234:=n2_;have GE234:=n3_;clear n0_ n1_ n2_ n3_;clear hb hbox hg;have hcz15_0 : w14.cell? ⟨gb234,0,none⟩ = some (.int .i64 a0_0):=(blk_cell BK234.out 0).trans rfl;have hcz15_1 : w14.cell? ⟨gb234,1,none⟩ = some (.int .i64 a0_1):=(blk_cell BK234.out 1).trans rfl;have hcz15_2 : w14.cell? ⟨gb234,2,none⟩ = some (.int .i64 a0_2):=(blk_cell BK234.out 2).trans rfl;have hfz15_0:=blk_frozen BK234.out 0;have hfz15_1:=blk_frozen BK234.out 1;have hfz15_2:=blk_frozen BK234.out 2)|((with_reducible refine gate_callee (f:=59) rfl ?_);refine goesL_ (some 5) rfl rfl Try.func59 (by kernel_rfl) rfl #[.int .i64 a0_0,.int .i64 1,.int .i64 3] rfl (by (try simp only [List.map_toArray,List.map_cons,List.map_nil]);first|done|rfl|(simp only [List.length_drop,List.length_take];rfl)) ?_;(with_reducible refine (impl_within.calls a0_0 1 3 false _ A2.out).mono ?_);rintro e w' ⟨rfl,⟨nd,rfl⟩⟩;refine ⟨_,rfl,?_⟩))
  go_ret
  exact ⟨by first|rfl|(simp only [i64_w,i32_w];done)|(simp only [i64_w,i32_w];rfl)|(simp [errW_none,errW_some] <;> rfl)|(simp [*,errW_none,errW_some] <;> rfl),by repeat (first|(with_reducible first|exact HB.out|apply bA|apply bN|apply bD|refine below_set ?_ GE234.out)|exact HB.out)⟩

/-! ### impl_epochOk: function 54 -/
def impl_epochOk.f (a0 : Int) : Option (Bool):=(impl_within.f a0 1 30).bind fun t238 => (some t238)
set_option maxHeartbeats 8000000 in
set_option maxRecDepth 100000 in
theorem impl_epochOk.calls (a0 : Int) (r : Bool) (w : World) (h : impl_epochOk.f a0 = some r) :
  Calls Try.prog 54 #[.int .i64 a0] w fun e w' => e = .returned (.bool r) ∧ Drawn0 w w':=by
 have H : ((impl_within.f a0 1 30).bind fun t238 => (some t238)) = some r:=h
 clear h
 replace H:=Option.bind_eq_some_iff.mp H
 obtain ⟨t238,A20,H⟩:=H
 replace H : (some t238) = some r:=H
 have A2:=aM A20
 clear A20
 obtain rfl:=Option.some.inj H
 go_enter Try.func54,Try.ntmps54
 go_wp2_with (first|((with_reducible refine gate_callee (f:=59) rfl ?_);refine goesL_ (some 4) rfl rfl Try.func59 (by kernel_rfl) rfl #[.int .i64 a0,.int .i64 1,.int .i64 30] rfl (by (try simp only [List.map_toArray,List.map_cons,List.map_nil]);first|done|rfl|(simp only [List.length_drop,List.length_take];rfl)) ?_;(with_reducible refine (impl_within.calls a0 1 30 t238 _ A2.out).mono ?_);rintro e w' ⟨rfl,⟨nd,rfl⟩⟩;refine ⟨_,rfl,?_⟩))
 go_ret
 exact ⟨by first|rfl|(simp;done)|(simp [*];done),by repeat (first|exact Drawn0.refl _|apply Drawn0.step)⟩

end Go.Proofs.Ytkkfokcbbhnjeaa.P
