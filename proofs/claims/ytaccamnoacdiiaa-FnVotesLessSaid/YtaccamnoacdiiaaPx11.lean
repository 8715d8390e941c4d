/- The printed functions: what each Go function computes, as a Lean function, and that the Go code comes to just that. Conditions: none beyond each contract's own. -/
import Derived.Test.YtaccamnoacdiiaaPx0
import Derived.Test.YtaccamnoacdiiaaPx8
import Derived.Test.YtaccamnoacdiiaaPx9
import Derived.Test.YtaccamnoacdiiaaPx10
namespace Go.Proofs.Ytaccamnoacdiiaa.P
open Go.RowKit Go.Proofs.YtaccamnoacdiiaaW.PrintWords Go.Proofs.YtaccamnoacdiiaaW.PrintLast Go.Proofs.YtaccamnoacdiiaaW.PrintMore
attribute [local go_sem] max2_int min2_int max_two min_two max_three min_three max_four min_four   -- for this text's walks alone
set_option linter.unusedVariables false
set_option linter.unusedSimpArgs false

/-! ### spec_l71Spoilt: function 46 -/
def spec_l71Spoilt.f (k : Nat) (s0_0 : List Int) (s0_1 : Int) : Option ((List (S25)) × Int):=(spec_l71Votes.f k s0_0 s0_1).bind fun bt377 => ((spec_l6Rd_pick.f k s0_0 bt377.2 20).bind fun bt381 => (if bt381.1 = 0 then ((spec_l71Vote.f k s0_0 bt381.2).bind fun bt383 => (if bt377.1.length < 4398046511104 then (some ((bt377.1 ++ [(⟨bt383.1,bt383.2.1⟩ : S25)]),bt383.2.2)) else (none))) else (if bt381.1 = 1 then (if (bt377.1.length : Int) > 0 then ((spec_l6Rd_pick.f k s0_0 bt381.2 (bt377.1.length : Int)).bind fun bt391 => (if 0 ≤ bt391.1 then (if bt391.1 < (bt377.1.length : Int) then (if bt377.1.length < 4398046511104 then (some ((bt377.1 ++ [(⟨(rd_T25 bt377.1 bt391.1).f0,(rd_T25 bt377.1 bt391.1).f1⟩ : S25)]),bt391.2)) else (none)) else (none)) else (none))) else (some (bt377.1,bt381.2))) else (some (bt377.1,bt381.2)))))
theorem spec_l71Spoilt.mono : ∀ a0 a1 k,LeO (spec_l71Spoilt.f k a0 a1) (spec_l71Spoilt.f (k + 1) a0 a1):=by
 intro a0 a1 k
 unfold spec_l71Spoilt.f
 repeat' first
   | exact LeO.refl _
   | exact spec_l6Rd_pick.mono _ _ _ _
   | exact spec_l71Vote.mono _ _ _
   | exact spec_l71Votes.mono _ _ _
   | exact LeO.none _
   | refine LeO.ite ?_ ?_
   | refine LeO.bind ?_ (fun _ => ?_)
set_option maxHeartbeats 8000000 in
set_option maxRecDepth 100000 in
theorem spec_l71Spoilt.calls (k : Nat) (g : Nat) (s0_0 : List Int) (s0_1 : Int) (r1 : List (S25)) (r2 : Int) (w0 w : World) (hI : IsS82 w0 w g s0_0 s0_1) (hB : Below w0.heap.size w0 w) (h : spec_l71Spoilt.f k s0_0 s0_1 = some (r1,r2)) :
  Calls Try.prog 46 #[.pointer (some ⟨g,0,none⟩)] w fun e w' => ∃ v0_ : Value,e = .returned (v0_) ∧ Kd.N k25 25 w' w.heap.size (fun k_ => (w.heap.size ≤ k_)) v0_ r1 ∧ IsS82 w0 w' g s0_0 r2 ∧ Below w0.heap.size w0 w' ∧ KeepBut w w' g none:=by
 have hu25:=Try.underlying25
 have HI0:=aM hI
 have HK:=aM (KeepBut.refl w g none)
 have HL:=aM hB.size
 clear hI
 have HW0:=aM hB.size
 have HB:=aM hB
 clear hB
 have H : ((spec_l71Votes.f k s0_0 s0_1).bind fun bt377 => ((spec_l6Rd_pick.f k s0_0 bt377.2 20).bind fun bt381 => (if bt381.1 = 0 then ((spec_l71Vote.f k s0_0 bt381.2).bind fun bt383 => (if bt377.1.length < 4398046511104 then (some ((bt377.1 ++ [(⟨bt383.1,bt383.2.1⟩ : S25)]),bt383.2.2)) else (none))) else (if bt381.1 = 1 then (if (bt377.1.length : Int) > 0 then ((spec_l6Rd_pick.f k s0_0 bt381.2 (bt377.1.length : Int)).bind fun bt391 => (if 0 ≤ bt391.1 then (if bt391.1 < (bt377.1.length : Int) then (if bt377.1.length < 4398046511104 then (some ((bt377.1 ++ [(⟨(rd_T25 bt377.1 bt391.1).f0,(rd_T25 bt377.1 bt391.1).f1⟩ : S25)]),bt391.2)) else (none)) else (none)) else (none))) else (some (bt377.1,bt381.2))) else (some (bt377.1,bt381.2)))))) = some (r1,r2):=h
 clear h
 replace H:=Option.bind_eq_some_iff.mp H
 obtain ⟨⟨t377,t380⟩,A20,H⟩:=H
 replace H : ((spec_l6Rd_pick.f k s0_0 t380 20).bind fun bt381 => (if bt381.1 = 0 then ((spec_l71Vote.f k s0_0 bt381.2).bind fun bt383 => (if t377.length < 4398046511104 then (some ((t377 ++ [(⟨bt383.1,bt383.2.1⟩ : S25)]),bt383.2.2)) else (none))) else (if bt381.1 = 1 then (if (t377.length : Int) > 0 then ((spec_l6Rd_pick.f k s0_0 bt381.2 (t377.length : Int)).bind fun bt391 => (if 0 ≤ bt391.1 then (if bt391.1 < (t377.length : Int) then (if t377.length < 4398046511104 then (some ((t377 ++ [(⟨(rd_T25 t377 bt391.1).f0,(rd_T25 t377 bt391.1).f1⟩ : S25)]),bt391.2)) else (none)) else (none)) else (none))) else (some (t377,bt381.2))) else (some (t377,bt381.2))))) = some (r1,r2):=H
 have A2:=aM A20
 clear A20
 replace H:=Option.bind_eq_some_iff.mp H
 obtain ⟨⟨t381,t382⟩,A30,H⟩:=H
 replace H : (if t381 = 0 then ((spec_l71Vote.f k s0_0 t382).bind fun bt383 => (if t377.length < 4398046511104 then (some ((t377 ++ [(⟨bt383.1,bt383.2.1⟩ : S25)]),bt383.2.2)) else (none))) else (if t381 = 1 then (if (t377.length : Int) > 0 then ((spec_l6Rd_pick.f k s0_0 t382 (t377.length : Int)).bind fun bt391 => (if 0 ≤ bt391.1 then (if bt391.1 < (t377.length : Int) then (if t377.length < 4398046511104 then (some ((t377 ++ [(⟨(rd_T25 t377 bt391.1).f0,(rd_T25 t377 bt391.1).f1⟩ : S25)]),bt391.2)) else (none)) else (none)) else (none))) else (some (t377,t382))) else (some (t377,t382)))) = some (r1,r2):=H
 have A3:=aM A30
 clear A30
 by_cases c4 : t381 = 0
 ·rw [if_pos c4] at H
  have c4b0 : (t381 == 0) = true:=beq_iff_eq.mpr c4
  have c4b1 : (t381 != 0) = false:=bne_eq_false_iff_eq.mpr c4
  clear c4
  replace H:=Option.bind_eq_some_iff.mp H
  obtain ⟨⟨t383,t384,t387⟩,A50,H⟩:=H
  replace H : (if t377.length < 4398046511104 then (some ((t377 ++ [(⟨t383,t384⟩ : S25)]),t387)) else (none)) = some (r1,r2):=H
  have A5:=aM A50
  clear A50
  by_cases c6 : t377.length < 4398046511104
  case neg => rw [if_neg c6] at H;exact absurd H (by simp)
  rw [if_pos c6] at H
  have LMc6:=aM c6
  clear c6
  obtain ⟨y388,hy388⟩ : ∃ y_ : List (S25),y_ = (t377 ++ [(⟨t383,t384⟩ : S25)]):=⟨_,rfl⟩
  replace H : (some (y388,t387)) = some (r1,r2):=by first|(rw [hy388];with_reducible exact H)|(have H2_:=(Option.bind_some _ _).symm.trans H;rw [hy388];with_reducible exact H2_)|(have H2_:=(Option.bind_some _ _).symm.trans H;with_reducible exact H2_)|with_reducible exact H|(rw [hy388];exact H)|exact H
  have Ny388:=aM hy388
  clear hy388
  simp only [Option.some.injEq,Prod.mk.injEq] at H
  obtain ⟨rfl,rfl⟩:=H
  go_enter Try.func46,Try.ntmps46
  go_wp2_with (first|((with_reducible refine gate_callee (f:=62) rfl ?_);refine goesL_ (some 5) rfl rfl Try.func62 (by kernel_rfl) rfl #[.pointer (some ⟨g,0,none⟩)] rfl (by (try simp only [List.map_toArray,List.map_cons,List.map_nil]);first|done|rfl|(simp only [List.length_drop,List.length_take];rfl)) ?_;(with_reducible refine (spec_l71Votes.calls k g s0_0 s0_1 t377 t380 w0 _ ?side1 ?side2 A2.out).mono ?_);(case side1 => repeat (first|(with_reducible first|exact HI0.out|apply IsS82.alloc|apply IsS82.drewN|apply IsS82.drew|apply IsS82.set_1)|exact HI0.out));(case side2 => repeat (first|(with_reducible first|exact HB.out|apply bA|apply bN|apply bD|refine below_set ?_ (IsS82.ge HI0.out))|exact HB.out));rintro e w7 ⟨v378,rfl,ho0,hi,hb,hk⟩;refine ⟨_,rfl,?_⟩;have n0_:=aM (Kd.N_lower (Kd.N_mono (ok':=fun k_ => (w.heap.size ≤ k_) ∧ k_ ≠ g) (Kd.R_N (Kd.R_bound ho0)) (fun k_ hk_ => ⟨(Nat.le_trans (keep_size (w:=w) (g:=g) (row:=none) (by repeat (first|(with_reducible first|exact HK.out|apply KeepBut.set_|apply keep_drewN|apply keep_drew|apply keep_alloc)|exact HK.out))) hk_.2.1),(IsS82.fresh (by repeat (first|(with_reducible first|exact HI0.out|apply IsS82.alloc|apply IsS82.drewN|apply IsS82.drew|apply IsS82.set_1)|exact HI0.out)) k_ hk_.2.1)⟩)) (keep_size (w:=w) (g:=g) (row:=none) (by repeat (first|(with_reducible first|exact HK.out|apply KeepBut.set_|apply keep_drewN|apply keep_drew|apply keep_alloc)|exact HK.out))));have n1_:=aM (KeepBut.trans (by repeat (first|(with_reducible first|exact HK.out|apply KeepBut.set_|apply keep_drewN|apply keep_drew|apply keep_alloc)|exact HK.out)) hk (.inl rfl));have n2_:=aM (hb);have n3_:=aM (hi);clear HK;clear HB;clear HI0;have HO379:=n0_;have HK:=n1_;have HB:=n2_;have HI0:=n3_;clear n0_ n1_ n2_ n3_;(try clear hb);(try clear hb2);(try clear hk);(try clear hi);(try clear ho0))|((with_reducible refine gate_callee (f:=47) rfl ?_);refine goesL_ (some 7) rfl rfl Try.func47 (by kernel_rfl) rfl #[.pointer (some ⟨g,0,none⟩),.int .i64 20] rfl (by (try simp only [List.map_toArray,List.map_cons,List.map_nil]);first|done|rfl|(simp only [List.length_drop,List.length_take];rfl)) ?_;(with_reducible refine (spec_l6Rd_pick.calls k g s0_0 t380 20 t381 t382 w0 _ ?side1 ?side2 A3.out).mono ?_);(case side1 => repeat (first|(with_reducible first|exact HI0.out|apply IsS82.alloc|apply IsS82.drewN|apply IsS82.drew|apply IsS82.set_1)|exact HI0.out));(case side2 => repeat (first|(with_reducible first|exact HB.out|apply bA|apply bN|apply bD|refine below_set ?_ (IsS82.ge HI0.out))|exact HB.out));rintro e w8 ⟨rfl,hi,hb,hk⟩;refine ⟨_,rfl,?_⟩;have n0_:=aM (Kd.N_mono (Kd.N_keep (Kd.N_mono (ok:=fun k_ => (((w.heap.size ≤ k_)) ∧ k_ ≠ g)) (by (with_reducible repeat (first|apply Kd.N_alloc|apply Kd.N_drewN|apply Kd.N_drew));exact HO379.out) (fun k_ hk_ => (⟨hk_,hk_.2⟩ : _ ∧ k_ ≠ g))) hk (fun _ h => h.2)) (fun _ h => h.1));have n1_:=aM (KeepBut.trans (by repeat (first|(with_reducible first|exact HK.out|apply KeepBut.set_|apply keep_drewN|apply keep_drew|apply keep_alloc)|exact HK.out)) hk (.inl rfl));have n2_:=aM (hb);have n3_:=aM (hi);clear HO379;clear HK;clear HB;clear HI0;have HO379:=n0_;have HK:=n1_;have HB:=n2_;have HI0:=n3_;clear n0_ n1_ n2_ n3_;(try clear hb);(try clear hb2);(try clear hk);(try clear hi))|((with_reducible refine gate_callee (f:=32) rfl ?_);refine goesL_ (some 12) rfl rfl Try.func32 (by kernel_rfl) rfl #[.pointer (some ⟨g,0,none⟩)] rfl (by (try simp only [List.map_toArray,List.map_cons,List.map_nil]);first|done|rfl|(simp only [List.length_drop,List.length_take];rfl)) ?_;(with_reducible refine (spec_l71Vote.calls k g s0_0 t382 t383 t384 t387 w0 _ ?side1 ?side2 A5.out).mono ?_);(case side1 => repeat (first|(with_reducible first|exact HI0.out|apply IsS82.alloc|apply IsS82.drewN|apply IsS82.drew|apply IsS82.set_1)|exact HI0.out));(case side2 => repeat (first|(with_reducible first|exact HB.out|apply bA|apply bN|apply bD|refine below_set ?_ (IsS82.ge HI0.out))|exact HB.out));rintro e w9 ⟨v385,rfl,ho0,hi,hb,hk⟩;refine ⟨_,rfl,?_⟩;have n0_:=aM (Kd.N_mono (Kd.N_told (Kd.N_oldK (Kd.N_mono (ok:=fun k_ => (((w.heap.size ≤ k_)) ∧ k_ ≠ g)) (by (with_reducible repeat (first|apply Kd.N_alloc|apply Kd.N_drewN|apply Kd.N_drew));exact HO379.out) (fun k_ hk_ => (⟨hk_,hk_.2⟩ : _ ∧ k_ ≠ g))) hk) (Kd.R_base ho0)) (fun _ h_ => h_.1));have n1_:=aM (Kd.R_lower (Kd.R_newM (M:=fun k_ => (w.heap.size ≤ k_)) ho0 (keep_size (w:=w) (g:=g) (row:=none) (by repeat (first|(with_reducible first|exact HK.out|apply KeepBut.set_|apply keep_drewN|apply keep_drew|apply keep_alloc)|exact HK.out))) (fun k_ h_ => h_)) (keep_size (w:=w) (g:=g) (row:=none) (by repeat (first|(with_reducible first|exact HK.out|apply KeepBut.set_|apply keep_drewN|apply keep_drew|apply keep_alloc)|exact HK.out))));have n2_:=aM (KeepBut.trans (by repeat (first|(with_reducible first|exact HK.out|apply KeepBut.set_|apply keep_drewN|apply keep_drew|apply keep_alloc)|exact HK.out)) hk (.inl rfl));have n3_:=aM (hb);have n4_:=aM (hi);clear HO379;clear HK;clear HB;clear HI0;have HO379:=n0_;have HO386:=n1_;have HK:=n2_;have HB:=n3_;have HI0:=n4_;clear n0_ n1_ n2_ n3_ n4_;(try clear hb);(try clear hb2);(try clear hk);(try clear hi);(try clear ho0);obtain ⟨Ao11,co11,eo11⟩:=Kd.R_slice HO386.out;subst eo11)|((with_reducible refine gate_builtin (b:=.append) (xs:=#[.tmp 10,.tmp 13]) rfl ?_);at_builtin;refine Kd.N_append k25 w.heap.size rfl (.tmp 10) (.tmp 13) 37 25 (.agg #[(.int .i64 0),(.slice none 0 0)]) 32 rfl Try.underlying37 info25 rfl (by decide) (by omega) v378 t377 (⟨t383,t384⟩ : S25) [.int .i64 t383,.slice Ao11 t384.length co11] (fun k_ => (w.heap.size ≤ k_) ∧ k_ ≠ g) (fun k_ => ((fun k_ => (w.heap.size ≤ k_) ∧ k_ ≠ g)) k_ ∧ some k_ ≠ (v378 : Value).ownBlock) rfl rfl ?aP (fun _ hk => hk) ?aF ?aO (Below.refl _ _) ?aS ?aL ?_;(case aP => exact (k25_mkF _ _ (⟨t383,t384⟩ : S25) (Kd.R_reads' (Kd.R_mono (ok':=(fun k_ => ((fun k_ => (w.heap.size ≤ k_) ∧ k_ ≠ g)) k_ ∧ some k_ ≠ (v378 : Value).ownBlock)) (IsS82.apart HI0.out (Kd.R_apart' (HO386.out) (Kd.N_typed HO379.out) (by decide)) (by decide)) (fun k_ hk => ⟨⟨hk.1.1.1,hk.2⟩,hk.1.2⟩))).2.1 (Kd.R_F (Kd.R_mono (ok':=(fun k_ => ((fun k_ => (w.heap.size ≤ k_) ∧ k_ ≠ g)) k_ ∧ some k_ ≠ (v378 : Value).ownBlock)) (IsS82.apart HI0.out (Kd.R_apart' (HO386.out) (Kd.N_typed HO379.out) (by decide)) (by decide)) (fun k_ hk => ⟨⟨hk.1.1.1,hk.2⟩,hk.1.2⟩)))));(case aF => exact (fun k_ hk => ⟨(Nat.le_trans (keep_size (w:=w) (g:=g) (row:=none) (by repeat (first|(with_reducible first|exact HK.out|apply KeepBut.set_|apply keep_drewN|apply keep_drew|apply keep_alloc)|exact HK.out))) hk),IsS82.fresh (by repeat (first|(with_reducible first|exact HI0.out|apply IsS82.alloc|apply IsS82.drewN|apply IsS82.drew|apply IsS82.set_1)|exact HI0.out)) k_ hk⟩));(case aO => exact (by (with_reducible repeat (first|apply Kd.N_alloc|apply Kd.N_drewN|apply Kd.N_drew));exact Kd.N_mono HO379.out (fun _ hk => ⟨hk.1.1,hk.1.2⟩)));(case aS => exact (keep_size (w:=w) (g:=g) (row:=none) (by repeat (first|(with_reducible first|exact HK.out|apply KeepBut.set_|apply keep_drewN|apply keep_drew|apply keep_alloc)|exact HK.out))));(case aL => have:=LMc6.out;omega);intro v389 w10 ho hb hg hat;rw [← Ny388.out] at ho;have n0_:=aM (IsS82.grown (by repeat (first|(with_reducible first|exact HI0.out|apply IsS82.alloc|apply IsS82.drewN|apply IsS82.drew|apply IsS82.set_1)|exact HI0.out)) hg (IsS82.own_neN HI0.out HO379.out (by decide)));have n1_:=aM (below_weaken (by repeat (first|(with_reducible first|exact HB.out|apply bA|apply bN|apply bD|refine below_set ?_ (IsS82.ge HI0.out))|exact HB.out)) HL.out hb);have n2_:=aM (KeepBut.trans (by repeat (first|(with_reducible first|exact HK.out|apply KeepBut.set_|apply keep_drewN|apply keep_drew|apply keep_alloc)|exact HK.out)) (KeepBut.of_grown hg g) (Kd.N_base2 HO379.out));have n3_:=aM (ho);clear HI0;clear HB;clear HK;clear HO379;clear HO386;have HI0:=n0_;have HB:=n1_;have HK:=n2_;have HO390:=n3_;clear n0_ n1_ n2_ n3_;clear ho hb hg hat))
  go_ret
  exact ⟨_,by first|rfl|(simp only [i64_w,i32_w];done)|(simp only [i64_w,i32_w];rfl)|(simp [errW_none,errW_some] <;> rfl)|(simp [*,errW_none,errW_some] <;> rfl),by (with_reducible repeat (first|apply Kd.N_alloc|apply Kd.N_drewN|apply Kd.N_drew));exact Kd.N_mono HO390.out (fun _ hk => hk.1),by repeat (first|(with_reducible first|exact HI0.out|apply IsS82.alloc|apply IsS82.drewN|apply IsS82.drew|apply IsS82.set_1)|exact HI0.out),by repeat (first|(with_reducible first|exact HB.out|apply bA|apply bN|apply bD|refine below_set ?_ (IsS82.ge HI0.out))|exact HB.out),by repeat (first|(with_reducible first|exact HK.out|apply KeepBut.set_|apply keep_drewN|apply keep_drew|apply keep_alloc)|exact HK.out)⟩
 ·rw [if_neg c4] at H
  have c4b0 : (t381 == 0) = false:=beq_eq_false_iff_ne.mpr c4
  have c4b1 : (t381 != 0) = true:=bne_iff_ne.mpr c4
  by_cases c12 : t381 = 1
  ·rw [if_pos c12] at H
   have c12b0 : (t381 == 1) = true:=beq_iff_eq.mpr c12
   have c12b1 : (t381 != 1) = false:=bne_eq_false_iff_eq.mpr c12
   clear c12
   by_cases c13 : (t377.length : Int) > 0
   ·rw [if_pos c13] at H
    have c13b0 : decide (0 < (t377.length : Int)) = true:=decide_eq_true c13
    have c13b1 : decide (0 < t377.length) = true:=decide_eq_true (by omega)
    clear c13
    replace H:=Option.bind_eq_some_iff.mp H
    obtain ⟨⟨t391,t392⟩,A140,H⟩:=H
    replace H : (if 0 ≤ t391 then (if t391 < (t377.length : Int) then (if t377.length < 4398046511104 then (some ((t377 ++ [(⟨(rd_T25 t377 t391).f0,(rd_T25 t377 t391).f1⟩ : S25)]),t392)) else (none)) else (none)) else (none)) = some (r1,r2):=H
    have A14:=aM A140
    clear A140
    by_cases c15 : 0 ≤ t391
    case neg => rw [if_neg c15] at H;exact absurd H (by simp)
    rw [if_pos c15] at H
    have c15b0 : decide (0 ≤ t391) = true:=decide_eq_true c15
    clear c15
    by_cases c16 : t391 < (t377.length : Int)
    case neg => rw [if_neg c16] at H;exact absurd H (by simp)
    rw [if_pos c16] at H
    have c16b0 : decide (t391 < (t377.length : Int)) = true:=decide_eq_true c16
    clear c16
    by_cases c17 : t377.length < 4398046511104
    case neg => rw [if_neg c17] at H;exact absurd H (by simp)
    rw [if_pos c17] at H
    have LMc17:=aM c17
    clear c17
    obtain ⟨y394,hy394⟩ : ∃ y_ : List (S25),y_ = (t377 ++ [(⟨(rd_T25 t377 t391).f0,(rd_T25 t377 t391).f1⟩ : S25)]):=⟨_,rfl⟩
    replace H : (some (y394,t392)) = some (r1,r2):=by first|(rw [hy394];with_reducible exact H)|(have H2_:=(Option.bind_some _ _).symm.trans H;rw [hy394];with_reducible exact H2_)|(have H2_:=(Option.bind_some _ _).symm.trans H;with_reducible exact H2_)|with_reducible exact H|(rw [hy394];exact H)|exact H
    have Ny394:=aM hy394
    clear hy394
    simp only [Option.some.injEq,Prod.mk.injEq] at H
    obtain ⟨rfl,rfl⟩:=H
    go_enter Try.func46,Try.ntmps46
    go_wp2_with (first|((with_reducible refine gate_callee (f:=62) rfl ?_);refine goesL_ (some 5) rfl rfl Try.func62 (by kernel_rfl) rfl #[.pointer (some ⟨g,0,none⟩)] rfl (by (try simp only [List.map_toArray,List.map_cons,List.map_nil]);first|done|rfl|(simp only [List.length_drop,List.length_take];rfl)) ?_;(with_reducible refine (spec_l71Votes.calls k g s0_0 s0_1 t377 t380 w0 _ ?side1 ?side2 A2.out).mono ?_);(case side1 => repeat (first|(with_reducible first|exact HI0.out|apply IsS82.alloc|apply IsS82.drewN|apply IsS82.drew|apply IsS82.set_1)|exact HI0.out));(case side2 => repeat (first|(with_reducible first|exact HB.out|apply bA|apply bN|apply bD|refine below_set ?_ (IsS82.ge HI0.out))|exact HB.out));rintro e w18 ⟨v378,rfl,ho0,hi,hb,hk⟩;refine ⟨_,rfl,?_⟩;have n0_:=aM (Kd.N_lower (Kd.N_mono (ok':=fun k_ => (w.heap.size ≤ k_) ∧ k_ ≠ g) (Kd.R_N (Kd.R_bound ho0)) (fun k_ hk_ => ⟨(Nat.le_trans (keep_size (w:=w) (g:=g) (row:=none) (by repeat (first|(with_reducible first|exact HK.out|apply KeepBut.set_|apply keep_drewN|apply keep_drew|apply keep_alloc)|exact HK.out))) hk_.2.1),(IsS82.fresh (by repeat (first|(with_reducible first|exact HI0.out|apply IsS82.alloc|apply IsS82.drewN|apply IsS82.drew|apply IsS82.set_1)|exact HI0.out)) k_ hk_.2.1)⟩)) (keep_size (w:=w) (g:=g) (row:=none) (by repeat (first|(with_reducible first|exact HK.out|apply KeepBut.set_|apply keep_drewN|apply keep_drew|apply keep_alloc)|exact HK.out))));have n1_:=aM (KeepBut.trans (by repeat (first|(with_reducible first|exact HK.out|apply KeepBut.set_|apply keep_drewN|apply keep_drew|apply keep_alloc)|exact HK.out)) hk (.inl rfl));have n2_:=aM (hb);have n3_:=aM (hi);clear HK;clear HB;clear HI0;have HO379:=n0_;have HK:=n1_;have HB:=n2_;have HI0:=n3_;clear n0_ n1_ n2_ n3_;(try clear hb);(try clear hb2);(try clear hk);(try clear hi);(try clear ho0))|((with_reducible refine gate_callee (f:=47) rfl ?_);refine goesL_ (some 7) rfl rfl Try.func47 (by kernel_rfl) rfl #[.pointer (some ⟨g,0,none⟩),.int .i64 20] rfl (by (try simp only [List.map_toArray,List.map_cons,List.map_nil]);first|done|rfl|(simp only [List.length_drop,List.length_take];rfl)) ?_;(with_reducible refine (spec_l6Rd_pick.calls k g s0_0 t380 20 t381 t382 w0 _ ?side1 ?side2 A3.out).mono ?_);(case side1 => repeat (first|(with_reducible first|exact HI0.out|apply IsS82.alloc|apply IsS82.drewN|apply IsS82.drew|apply IsS82.set_1)|exact HI0.out));(case side2 => repeat (first|(with_reducible first|exact HB.out|apply bA|apply bN|apply bD|refine below_set ?_ (IsS82.ge HI0.out))|exact HB.out));rintro e w19 ⟨rfl,hi,hb,hk⟩;refine ⟨_,rfl,?_⟩;have n0_:=aM (Kd.N_mono (Kd.N_keep (Kd.N_mono (ok:=fun k_ => (((w.heap.size ≤ k_)) ∧ k_ ≠ g)) (by (with_reducible repeat (first|apply Kd.N_alloc|apply Kd.N_drewN|apply Kd.N_drew));exact HO379.out) (fun k_ hk_ => (⟨hk_,hk_.2⟩ : _ ∧ k_ ≠ g))) hk (fun _ h => h.2)) (fun _ h => h.1));have n1_:=aM (KeepBut.trans (by repeat (first|(with_reducible first|exact HK.out|apply KeepBut.set_|apply keep_drewN|apply keep_drew|apply keep_alloc)|exact HK.out)) hk (.inl rfl));have n2_:=aM (hb);have n3_:=aM (hi);clear HO379;clear HK;clear HB;clear HI0;have HO379:=n0_;have HK:=n1_;have HB:=n2_;have HI0:=n3_;clear n0_ n1_ n2_ n3_;(try clear hb);(try clear hb2);(try clear hk);(try clear hi);obtain ⟨Ao20,co20,eo20⟩:=Kd.N_slice HO379.out;subst eo20)|((with_reducible refine gate_callee (f:=47) rfl ?_);refine goesL_ (some 25) rfl rfl Try.func47 (by kernel_rfl) rfl #[.pointer (some ⟨g,0,none⟩),.int .i64 (t377.length : Int)] rfl (by (try simp only [List.map_toArray,List.map_cons,List.map_nil]);first|done|rfl|(simp only [List.length_drop,List.length_take];rfl)) ?_;(with_reducible refine (spec_l6Rd_pick.calls k g s0_0 t382 (t377.length : Int) t391 t392 w0 _ ?side1 ?side2 A14.out).mono ?_);(case side1 => repeat (first|(with_reducible first|exact HI0.out|apply IsS82.alloc|apply IsS82.drewN|apply IsS82.drew|apply IsS82.set_1)|exact HI0.out));(case side2 => repeat (first|(with_reducible first|exact HB.out|apply bA|apply bN|apply bD|refine below_set ?_ (IsS82.ge HI0.out))|exact HB.out));rintro e w21 ⟨rfl,hi,hb,hk⟩;refine ⟨_,rfl,?_⟩;have n0_:=aM (Kd.N_mono (Kd.N_keep (Kd.N_mono (ok:=fun k_ => (((w.heap.size ≤ k_)) ∧ k_ ≠ g)) (by (with_reducible repeat (first|apply Kd.N_alloc|apply Kd.N_drewN|apply Kd.N_drew));exact HO379.out) (fun k_ hk_ => (⟨hk_,hk_.2⟩ : _ ∧ k_ ≠ g))) hk (fun _ h => h.2)) (fun _ h => h.1));have n1_:=aM (KeepBut.trans (by repeat (first|(with_reducible first|exact HK.out|apply KeepBut.set_|apply keep_drewN|apply keep_drew|apply keep_alloc)|exact HK.out)) hk (.inl rfl));have n2_:=aM (hb);have n3_:=aM (hi);clear HO379;clear HK;clear HB;clear HI0;have HO379:=n0_;have HK:=n1_;have HB:=n2_;have HI0:=n3_;clear n0_ n1_ n2_ n3_;(try clear hb);(try clear hb2);(try clear hk);(try clear hi);have p393 : 0 ≤ (t391 : Int):=of_decide_eq_true (by first|(with_reducible assumption)|assumption);have q393 : t391 < (t377.length : Int):=of_decide_eq_true (by first|(with_reducible assumption)|assumption);obtain ⟨ad393,A393_1,c393_1,e393,hx393_0,hx393_1,hl393_1,hi393_1⟩:=at_T25 (Kd.N_reads' HO379.out).2.2 t391 p393 q393;cases e393;obtain ⟨ce393,hce393,hMe393,hcc393⟩:=Kd.N_get HO379.out z25 t391 p393 (by first|exact q393|exact of_decide_eq_true (by first|(with_reducible assumption)|assumption)|(have e_:=(Kd.N_reads' HO379.out).1;omega));obtain ⟨ua393_1,uc393_1,rfl,ul393_1,ge393_1⟩:=k25_openF hMe393;have hv393_1:=hcc393 1 _ rfl;rw [add_field _ _ 1 (by omega)] at hv393_1;replace hv393_1:=Option.some.inj (hv393_1.symm.trans hx393_1);injection hv393_1 with hva_ hvn_ hvc_;rw [hva_] at ge393_1;rw [hvc_] at ul393_1;have HL393_1:=aM (show Kd.V k65 65 _ w.heap.size _ _ ((rd_T25 t377 t391).f1) from Kd.V_mk ul393_1 ge393_1);clear hva_ hvn_ hvc_ ge393_1 ul393_1;clear hcc393 hce393;have HR393_1:=aM hi393_1;have HC393_1:=aM hl393_1;clear hi393_1 hl393_1;replace p393:=eq_true p393;replace q393:=eq_true q393)|((with_reducible refine gate_builtin (b:=.append) (xs:=#[.tmp 20,.tmp 28]) rfl ?_);at_builtin;refine Kd.N_append k25 w.heap.size rfl (.tmp 20) (.tmp 28) 37 25 (.agg #[(.int .i64 0),(.slice none 0 0)]) 32 rfl Try.underlying37 info25 rfl (by decide) (by omega) (.slice (some ad393) t377.length co20) t377 (⟨(rd_T25 t377 t391).f0,(rd_T25 t377 t391).f1⟩ : S25) [.int .i64 ((rd_T25 t377 t391).f0),.slice A393_1 ((rd_T25 t377 t391).f1).length c393_1] (fun k_ => (w.heap.size ≤ k_) ∧ k_ ≠ g) (fun k_ => ((fun k_ => (w.heap.size ≤ k_) ∧ k_ ≠ g)) k_ ∧ some k_ ≠ (.slice (some ad393) t377.length co20 : Value).ownBlock) rfl rfl ?aP (fun _ hk => hk) ?aF ?aO (Below.refl _ _) ?aS ?aL ?_;(case aP => exact (k25_mkF _ _ (⟨(rd_T25 t377 t391).f0,(rd_T25 t377 t391).f1⟩ : S25) (Kd.V_reads' (Kd.V_mono (ok':=(fun k_ => ((fun k_ => (w.heap.size ≤ k_) ∧ k_ ≠ g)) k_ ∧ some k_ ≠ (.slice (some ad393) t377.length co20 : Value).ownBlock)) (HL393_1.out) (fun k_ hk => ⟨⟨hk.1.1,hk.1.2⟩,hk.2⟩))).2.1 (Kd.V_F (Kd.V_mono (ok':=(fun k_ => ((fun k_ => (w.heap.size ≤ k_) ∧ k_ ≠ g)) k_ ∧ some k_ ≠ (.slice (some ad393) t377.length co20 : Value).ownBlock)) (HL393_1.out) (fun k_ hk => ⟨⟨hk.1.1,hk.1.2⟩,hk.2⟩)))));(case aF => exact (fun k_ hk => ⟨(Nat.le_trans (keep_size (w:=w) (g:=g) (row:=none) (by repeat (first|(with_reducible first|exact HK.out|apply KeepBut.set_|apply keep_drewN|apply keep_drew|apply keep_alloc)|exact HK.out))) hk),IsS82.fresh (by repeat (first|(with_reducible first|exact HI0.out|apply IsS82.alloc|apply IsS82.drewN|apply IsS82.drew|apply IsS82.set_1)|exact HI0.out)) k_ hk⟩));(case aO => exact (by (with_reducible repeat (first|apply Kd.N_alloc|apply Kd.N_drewN|apply Kd.N_drew));exact HO379.out));(case aS => exact (keep_size (w:=w) (g:=g) (row:=none) (by repeat (first|(with_reducible first|exact HK.out|apply KeepBut.set_|apply keep_drewN|apply keep_drew|apply keep_alloc)|exact HK.out))));(case aL => have:=LMc17.out;omega);intro v395 w22 ho hb hg hat;rw [← Ny394.out] at ho;have n0_:=aM (IsS82.grown (by repeat (first|(with_reducible first|exact HI0.out|apply IsS82.alloc|apply IsS82.drewN|apply IsS82.drew|apply IsS82.set_1)|exact HI0.out)) hg (IsS82.own_neN HI0.out HO379.out (by decide)));have n1_:=aM (Kd.V_afterv (ok:=(fun k_ => (w.heap.size ≤ k_) ∧ k_ ≠ g)) (by (with_reducible repeat (first|apply Kd.V_alloc|apply Kd.V_drewN|apply Kd.V_drew));exact HL393_1.out) hg hat);have n2_:=aM (below_weaken (by repeat (first|(with_reducible first|exact HB.out|apply bA|apply bN|apply bD|refine below_set ?_ (IsS82.ge HI0.out))|exact HB.out)) HL.out hb);have n3_:=aM (KeepBut.trans (by repeat (first|(with_reducible first|exact HK.out|apply KeepBut.set_|apply keep_drewN|apply keep_drew|apply keep_alloc)|exact HK.out)) (KeepBut.of_grown hg g) (Kd.N_base2 HO379.out));have n4_:=aM (ho);clear HI0;clear HL393_1;clear HB;clear HK;clear HO379;have HI0:=n0_;have HL393_1:=n1_;have HB:=n2_;have HK:=n3_;have HO396:=n4_;clear n0_ n1_ n2_ n3_ n4_;clear ho hb hg hat))
    go_ret
    exact ⟨_,by first|rfl|(simp only [i64_w,i32_w];done)|(simp only [i64_w,i32_w];rfl)|(simp [errW_none,errW_some] <;> rfl)|(simp [*,errW_none,errW_some] <;> rfl),by (with_reducible repeat (first|apply Kd.N_alloc|apply Kd.N_drewN|apply Kd.N_drew));exact Kd.N_mono HO396.out (fun _ hk => hk.1),by repeat (first|(with_reducible first|exact HI0.out|apply IsS82.alloc|apply IsS82.drewN|apply IsS82.drew|apply IsS82.set_1)|exact HI0.out),by repeat (first|(with_reducible first|exact HB.out|apply bA|apply bN|apply bD|refine below_set ?_ (IsS82.ge HI0.out))|exact HB.out),by repeat (first|(with_reducible first|exact HK.out|apply KeepBut.set_|apply keep_drewN|apply keep_drew|apply keep_alloc)|exact HK.out)⟩
   ·rw [if_neg c13] at H
    have c13b0 : decide (0 < (t377.length : Int)) = false:=decide_eq_false c13
    have c13b1 : decide (0 < t377.length) = false:=decide_eq_false (by omega)
    clear c13
    simp only [Option.some.injEq,Prod.mk.injEq] at H
    obtain ⟨rfl,rfl⟩:=H
    go_enter Try.func46,Try.ntmps46
    go_wp2_with (first|((with_reducible refine gate_callee (f:=62) rfl ?_);refine goesL_ (some 5) rfl rfl Try.func62 (by kernel_rfl) rfl #[.pointer (some ⟨g,0,none⟩)] rfl (by (try simp only [List.map_toArray,List.map_cons,List.map_nil]);first|done|rfl|(simp only [List.length_drop,List.length_take];rfl)) ?_;(with_reducible refine (spec_l71Votes.calls k g s0_0 s0_1 t377 t380 w0 _ ?side1 ?side2 A2.out).mono ?_);(case side1 => repeat (first|(with_reducible first|exact HI0.out|apply IsS82.alloc|apply IsS82.drewN|apply IsS82.drew|apply IsS82.set_1)|exact HI0.out));(case side2 => repeat (first|(with_reducible first|exact HB.out|apply bA|apply bN|apply bD|refine below_set ?_ (IsS82.ge HI0.out))|exact HB.out));rintro e w23 ⟨v378,rfl,ho0,hi,hb,hk⟩;refine ⟨_,rfl,?_⟩;have n0_:=aM (Kd.N_lower (Kd.N_mono (ok':=fun k_ => (w.heap.size ≤ k_) ∧ k_ ≠ g) (Kd.R_N (Kd.R_bound ho0)) (fun k_ hk_ => ⟨(Nat.le_trans (keep_size (w:=w) (g:=g) (row:=none) (by repeat (first|(with_reducible first|exact HK.out|apply KeepBut.set_|apply keep_drewN|apply keep_drew|apply keep_alloc)|exact HK.out))) hk_.2.1),(IsS82.fresh (by repeat (first|(with_reducible first|exact HI0.out|apply IsS82.alloc|apply IsS82.drewN|apply IsS82.drew|apply IsS82.set_1)|exact HI0.out)) k_ hk_.2.1)⟩)) (keep_size (w:=w) (g:=g) (row:=none) (by repeat (first|(with_reducible first|exact HK.out|apply KeepBut.set_|apply keep_drewN|apply keep_drew|apply keep_alloc)|exact HK.out))));have n1_:=aM (KeepBut.trans (by repeat (first|(with_reducible first|exact HK.out|apply KeepBut.set_|apply keep_drewN|apply keep_drew|apply keep_alloc)|exact HK.out)) hk (.inl rfl));have n2_:=aM (hb);have n3_:=aM (hi);clear HK;clear HB;clear HI0;have HO379:=n0_;have HK:=n1_;have HB:=n2_;have HI0:=n3_;clear n0_ n1_ n2_ n3_;(try clear hb);(try clear hb2);(try clear hk);(try clear hi);(try clear ho0))|((with_reducible refine gate_callee (f:=47) rfl ?_);refine goesL_ (some 7) rfl rfl Try.func47 (by kernel_rfl) rfl #[.pointer (some ⟨g,0,none⟩),.int .i64 20] rfl (by (try simp only [List.map_toArray,List.map_cons,List.map_nil]);first|done|rfl|(simp only [List.length_drop,List.length_take];rfl)) ?_;(with_reducible refine (spec_l6Rd_pick.calls k g s0_0 t380 20 t381 t382 w0 _ ?side1 ?side2 A3.out).mono ?_);(case side1 => repeat (first|(with_reducible first|exact HI0.out|apply IsS82.alloc|apply IsS82.drewN|apply IsS82.drew|apply IsS82.set_1)|exact HI0.out));(case side2 => repeat (first|(with_reducible first|exact HB.out|apply bA|apply bN|apply bD|refine below_set ?_ (IsS82.ge HI0.out))|exact HB.out));rintro e w24 ⟨rfl,hi,hb,hk⟩;refine ⟨_,rfl,?_⟩;have n0_:=aM (Kd.N_mono (Kd.N_keep (Kd.N_mono (ok:=fun k_ => (((w.heap.size ≤ k_)) ∧ k_ ≠ g)) (by (with_reducible repeat (first|apply Kd.N_alloc|apply Kd.N_drewN|apply Kd.N_drew));exact HO379.out) (fun k_ hk_ => (⟨hk_,hk_.2⟩ : _ ∧ k_ ≠ g))) hk (fun _ h => h.2)) (fun _ h => h.1));have n1_:=aM (KeepBut.trans (by repeat (first|(with_reducible first|exact HK.out|apply KeepBut.set_|apply keep_drewN|apply keep_drew|apply keep_alloc)|exact HK.out)) hk (.inl rfl));have n2_:=aM (hb);have n3_:=aM (hi);clear HO379;clear HK;clear HB;clear HI0;have HO379:=n0_;have HK:=n1_;have HB:=n2_;have HI0:=n3_;clear n0_ n1_ n2_ n3_;(try clear hb);(try clear hb2);(try clear hk);(try clear hi);obtain ⟨Ao25,co25,eo25⟩:=Kd.N_slice HO379.out;subst eo25))
    go_ret
    exact ⟨_,by first|rfl|(simp only [i64_w,i32_w];done)|(simp only [i64_w,i32_w];rfl)|(simp [errW_none,errW_some] <;> rfl)|(simp [*,errW_none,errW_some] <;> rfl),by (with_reducible repeat (first|apply Kd.N_alloc|apply Kd.N_drewN|apply Kd.N_drew));exact Kd.N_mono HO379.out (fun _ hk => hk.1),by repeat (first|(with_reducible first|exact HI0.out|apply IsS82.alloc|apply IsS82.drewN|apply IsS82.drew|apply IsS82.set_1)|exact HI0.out),by repeat (first|(with_reducible first|exact HB.out|apply bA|apply bN|apply bD|refine below_set ?_ (IsS82.ge HI0.out))|exact HB.out),by repeat (first|(with_reducible first|exact HK.out|apply KeepBut.set_|apply keep_drewN|apply keep_drew|apply keep_alloc)|exact HK.out)⟩
  ·rw [if_neg c12] at H
   have c12b0 : (t381 == 1) = false:=beq_eq_false_iff_ne.mpr c12
   have c12b1 : (t381 != 1) = true:=bne_iff_ne.mpr c12
   simp only [Option.some.injEq,Prod.mk.injEq] at H
   obtain ⟨rfl,rfl⟩:=H
   go_enter Try.func46,Try.ntmps46
   go_wp2_with (first|((with_reducible refine gate_callee (f:=62) rfl ?_);refine goesL_ (some 5) rfl rfl Try.func62 (by kernel_rfl) rfl #[.pointer (some ⟨g,0,none⟩)] rfl (by (try simp only [List.map_toArray,List.map_cons,List.map_nil]);first|done|rfl|(simp only [List.length_drop,List.length_take];rfl)) ?_;(with_reducible refine (spec_l71Votes.calls k g s0_0 s0_1 t377 t380 w0 _ ?side1 ?side2 A2.out).mono ?_);(case side1 => repeat (first|(with_reducible first|exact HI0.out|apply IsS82.alloc|apply IsS82.drewN|apply IsS82.drew|apply IsS82.set_1)|exact HI0.out));(case side2 => repeat (first|(with_reducible first|exact HB.out|apply bA|apply bN|apply bD|refine below_set ?_ (IsS82.ge HI0.out))|exact HB.out));rintro e w26 ⟨v378,rfl,ho0,hi,hb,hk⟩;refine ⟨_,rfl,?_⟩;have n0_:=aM (Kd.N_lower (Kd.N_mono (ok':=fun k_ => (w.heap.size ≤ k_) ∧ k_ ≠ g) (Kd.R_N (Kd.R_bound ho0)) (fun k_ hk_ => ⟨(Nat.le_trans (keep_size (w:=w) (g:=g) (row:=none) (by repeat (first|(with_reducible first|exact HK.out|apply KeepBut.set_|apply keep_drewN|apply keep_drew|apply keep_alloc)|exact HK.out))) hk_.2.1),(IsS82.fresh (by repeat (first|(with_reducible first|exact HI0.out|apply IsS82.alloc|apply IsS82.drewN|apply IsS82.drew|apply IsS82.set_1)|exact HI0.out)) k_ hk_.2.1)⟩)) (keep_size (w:=w) (g:=g) (row:=none) (by repeat (first|(with_reducible first|exact HK.out|apply KeepBut.set_|apply keep_drewN|apply keep_drew|apply keep_alloc)|exact HK.out))));have n1_:=aM (KeepBut.trans (by repeat (first|(with_reducible first|exact HK.out|apply KeepBut.set_|apply keep_drewN|apply keep_drew|apply keep_alloc)|exact HK.out)) hk (.inl rfl));have n2_:=aM (hb);have n3_:=aM (hi);clear HK;clear HB;clear HI0;have HO379:=n0_;have HK:=n1_;have HB:=n2_;have HI0:=n3_;clear n0_ n1_ n2_ n3_;(try clear hb);(try clear hb2);(try clear hk);(try clear hi);(try clear ho0))|((with_reducible refine gate_callee (f:=47) rfl ?_);refine goesL_ (some 7) rfl rfl Try.func47 (by kernel_rfl) rfl #[.pointer (some ⟨g,0,none⟩),.int .i64 20] rfl (by (try simp only [List.map_toArray,List.map_cons,List.map_nil]);first|done|rfl|(simp only [List.length_drop,List.length_take];rfl)) ?_;(with_reducible refine (spec_l6Rd_pick.calls k g s0_0 t380 20 t381 t382 w0 _ ?side1 ?side2 A3.out).mono ?_);(case side1 => repeat (first|(with_reducible first|exact HI0.out|apply IsS82.alloc|apply IsS82.drewN|apply IsS82.drew|apply IsS82.set_1)|exact HI0.out));(case side2 => repeat (first|(with_reducible first|exact HB.out|apply bA|apply bN|apply bD|refine below_set ?_ (IsS82.ge HI0.out))|exact HB.out));rintro e w27 ⟨rfl,hi,hb,hk⟩;refine ⟨_,rfl,?_⟩;have n0_:=aM (Kd.N_mono (Kd.N_keep (Kd.N_mono (ok:=fun k_ => (((w.heap.size ≤ k_)) ∧ k_ ≠ g)) (by (with_reducible repeat (first|apply Kd.N_alloc|apply Kd.N_drewN|apply Kd.N_drew));exact HO379.out) (fun k_ hk_ => (⟨hk_,hk_.2⟩ : _ ∧ k_ ≠ g))) hk (fun _ h => h.2)) (fun _ h => h.1));have n1_:=aM (KeepBut.trans (by repeat (first|(with_reducible first|exact HK.out|apply KeepBut.set_|apply keep_drewN|apply keep_drew|apply keep_alloc)|exact HK.out)) hk (.inl rfl));have n2_:=aM (hb);have n3_:=aM (hi);clear HO379;clear HK;clear HB;clear HI0;have HO379:=n0_;have HK:=n1_;have HB:=n2_;have HI0:=n3_;clear n0_ n1_ n2_ n3_;(try clear hb);(try clear hb2);(try clear hk);(try clear hi)))
   go_ret
   exact ⟨_,by first|rfl|(simp only [i64_w,i32_w];done)|(simp only [i64_w,i32_w];rfl)|(simp [errW_none,errW_some] <;> rfl)|(simp [*,errW_none,errW_some] <;> rfl),by (with_reducible repeat (first|apply Kd.N_alloc|apply Kd.N_drewN|apply Kd.N_drew));exact Kd.N_mono HO379.out (fun _ hk => hk.1),by repeat (first|(with_reducible first|exact HI0.out|apply IsS82.alloc|apply IsS82.drewN|apply IsS82.drew|apply IsS82.set_1)|exact HI0.out),by repeat (first|(with_reducible first|exact HB.out|apply bA|apply bN|apply bD|refine below_set ?_ (IsS82.ge HI0.out))|exact HB.out),by repeat (first|(with_reducible first|exact HK.out|apply KeepBut.set_|apply keep_drewN|apply keep_drew|apply keep_alloc)|exact HK.out)⟩

/-! ### spec_DrawVotesOk: function 26 -/
def spec_DrawVotesOk.f (k : Nat) (l0 : List Int) : Option ((List (S25))):=(spec_l6Open.f l0).bind fun bt397 => ((spec_l71Spoilt.f k bt397.1 bt397.2).bind fun bt400 => ((spec_l6Rd_pick.f k bt397.1 bt400.2 4).bind fun bt404 => (if bt404.1 = 0 then ((spec_l71Vote.f k bt397.1 bt404.2).bind fun bt406 => (if bt400.1.length < 4398046511104 then (some (bt400.1 ++ [(⟨bt406.1,bt406.2.1⟩ : S25)])) else (none))) else (some bt400.1))))
theorem spec_DrawVotesOk.mono : ∀ a0 k,LeO (spec_DrawVotesOk.f k a0) (spec_DrawVotesOk.f (k + 1) a0):=by
 intro a0 k
 unfold spec_DrawVotesOk.f
 repeat' first
   | exact LeO.refl _
   | exact spec_l6Rd_pick.mono _ _ _ _
   | exact spec_l71Spoilt.mono _ _ _
   | exact spec_l71Vote.mono _ _ _
   | exact LeO.none _
   | refine LeO.ite ?_ ?_
   | refine LeO.bind ?_ (fun _ => ?_)
set_option maxHeartbeats 8000000 in
set_option maxRecDepth 100000 in
theorem spec_DrawVotesOk.calls (k : Nat) (A0 : Option Addr) (c0 : Nat) (l0 : List Int) (r : List (S25)) (w : World) (hr0 : Kd.C (Kd.int .u8) w A0 l0.length l0) (hc0 : l0.length ≤ c0) (h : spec_DrawVotesOk.f k l0 = some r) :
  Calls Try.prog 26 #[.slice A0 l0.length c0] w fun e w' => ∃ v0_ : Value,e = .returned (v0_) ∧ Kd.N k25 25 w' w.heap.size (fun k_ => (w.heap.size ≤ k_)) v0_ r ∧ Below w.heap.size w w':=by
 have HR0:=aM hr0
 have HC0:=aM hc0
 clear hr0 hc0
 have HB:=aM (Below.refl w.heap.size w)
 have H : ((spec_l6Open.f l0).bind fun bt397 => ((spec_l71Spoilt.f k bt397.1 bt397.2).bind fun bt400 => ((spec_l6Rd_pick.f k bt397.1 bt400.2 4).bind fun bt404 => (if bt404.1 = 0 then ((spec_l71Vote.f k bt397.1 bt404.2).bind fun bt406 => (if bt400.1.length < 4398046511104 then (some (bt400.1 ++ [(⟨bt406.1,bt406.2.1⟩ : S25)])) else (none))) else (some bt400.1))))) = some r:=h
 clear h
 replace H:=Option.bind_eq_some_iff.mp H
 obtain ⟨⟨t397,t398⟩,A20,H⟩:=H
 replace H : ((spec_l71Spoilt.f k t397 t398).bind fun bt400 => ((spec_l6Rd_pick.f k t397 bt400.2 4).bind fun bt404 => (if bt404.1 = 0 then ((spec_l71Vote.f k t397 bt404.2).bind fun bt406 => (if bt400.1.length < 4398046511104 then (some (bt400.1 ++ [(⟨bt406.1,bt406.2.1⟩ : S25)])) else (none))) else (some bt400.1)))) = some r:=H
 have A2:=aM A20
 clear A20
 replace H:=Option.bind_eq_some_iff.mp H
 obtain ⟨⟨t400,t403⟩,A30,H⟩:=H
 replace H : ((spec_l6Rd_pick.f k t397 t403 4).bind fun bt404 => (if bt404.1 = 0 then ((spec_l71Vote.f k t397 bt404.2).bind fun bt406 => (if t400.length < 4398046511104 then (some (t400 ++ [(⟨bt406.1,bt406.2.1⟩ : S25)])) else (none))) else (some t400))) = some r:=H
 have A3:=aM A30
 clear A30
 replace H:=Option.bind_eq_some_iff.mp H
 obtain ⟨⟨t404,t405⟩,A40,H⟩:=H
 replace H : (if t404 = 0 then ((spec_l71Vote.f k t397 t405).bind fun bt406 => (if t400.length < 4398046511104 then (some (t400 ++ [(⟨bt406.1,bt406.2.1⟩ : S25)])) else (none))) else (some t400)) = some r:=H
 have A4:=aM A40
 clear A40
 by_cases c5 : t404 = 0
 ·rw [if_pos c5] at H
  have c5b0 : (t404 == 0) = true:=beq_iff_eq.mpr c5
  have c5b1 : (t404 != 0) = false:=bne_eq_false_iff_eq.mpr c5
  clear c5
  replace H:=Option.bind_eq_some_iff.mp H
  obtain ⟨⟨t406,t407,t410⟩,A60,H⟩:=H
  replace H : (if t400.length < 4398046511104 then (some (t400 ++ [(⟨t406,t407⟩ : S25)])) else (none)) = some r:=H
  have A6:=aM A60
  clear A60
  by_cases c7 : t400.length < 4398046511104
  case neg => rw [if_neg c7] at H;exact absurd H (by simp)
  rw [if_pos c7] at H
  have LMc7:=aM c7
  clear c7
  obtain ⟨y411,hy411⟩ : ∃ y_ : List (S25),y_ = (t400 ++ [(⟨t406,t407⟩ : S25)]):=⟨_,rfl⟩
  replace H : (some y411) = some r:=by first|(rw [hy411];with_reducible exact H)|(have H2_:=(Option.bind_some _ _).symm.trans H;rw [hy411];with_reducible exact H2_)|(have H2_:=(Option.bind_some _ _).symm.trans H;with_reducible exact H2_)|with_reducible exact H|(rw [hy411];exact H)|exact H
  have Ny411:=aM hy411
  clear hy411
  obtain rfl:=Option.some.inj H
  go_enter Try.func26,Try.ntmps26
  go_wp2_with (first|((with_reducible refine gate_callee (f:=33) rfl ?_);refine goesL_ (some 6) rfl rfl Try.func33 (by kernel_rfl) rfl #[.slice A0 l0.length c0] rfl (by (try simp only [List.map_toArray,List.map_cons,List.map_nil]);first|done|rfl|(simp only [List.length_drop,List.length_take];rfl)) ?_;(with_reducible refine (spec_l6Open.calls _ _ l0 t397 t398 w _ ?side1 ?side2 ?side3 A2.out).mono ?_);(case side1 => repeat (first|(with_reducible first|exact HB.out|apply bA|apply bN|apply bD)|exact HB.out));(case side2 => exact HR0.out);(case side3 => exact HC0.out);rintro e w8 ⟨g399,rfl,hi,hb,hb2⟩;refine ⟨_,rfl,?_⟩;have n0_:=aM (hb);have n1_:=aM (hi);clear HB;have HB:=n0_;have HI399:=n1_;clear n0_ n1_;(try clear hb);(try clear hb2);(try clear hk);(try clear hi))|((with_reducible refine gate_callee (f:=46) rfl ?_);refine goesL_ (some 8) rfl rfl Try.func46 (by kernel_rfl) rfl #[.pointer (some ⟨g399,0,none⟩)] rfl (by (try simp only [List.map_toArray,List.map_cons,List.map_nil]);first|done|rfl|(simp only [List.length_drop,List.length_take];rfl)) ?_;(with_reducible refine (spec_l71Spoilt.calls k g399 t397 t398 t400 t403 w _ ?side1 ?side2 A3.out).mono ?_);(case side1 => repeat (first|(with_reducible first|exact HI399.out|apply IsS82.alloc|apply IsS82.drewN|apply IsS82.drew|apply IsS82.set_1)|exact HI399.out));(case side2 => repeat (first|(with_reducible first|exact HB.out|apply bA|apply bN|apply bD|refine below_set ?_ (IsS82.ge HI399.out))|exact HB.out));rintro e w9 ⟨v401,rfl,ho0,hi,hb,hk⟩;refine ⟨_,rfl,?_⟩;have n0_:=aM (Kd.N_lower (Kd.N_mono (ok':=fun k_ => (w.heap.size ≤ k_) ∧ k_ ≠ g399) ho0 (fun k_ hk_ => ⟨(Nat.le_trans (below_size (by repeat (first|(with_reducible first|exact HB.out|apply bA|apply bN|apply bD|refine below_set ?_ (IsS82.ge HI399.out))|exact HB.out))) hk_),(IsS82.fresh (by repeat (first|(with_reducible first|exact HI399.out|apply IsS82.alloc|apply IsS82.drewN|apply IsS82.drew|apply IsS82.set_1)|exact HI399.out)) k_ hk_)⟩)) (below_size (by repeat (first|(with_reducible first|exact HB.out|apply bA|apply bN|apply bD|refine below_set ?_ (IsS82.ge HI399.out))|exact HB.out))));have n1_:=aM (hb);have n2_:=aM (hi);clear HB;clear HI399;have HO402:=n0_;have HB:=n1_;have HI399:=n2_;clear n0_ n1_ n2_;(try clear hb);(try clear hb2);(try clear hk);(try clear hi);(try clear ho0))|((with_reducible refine gate_callee (f:=47) rfl ?_);refine goesL_ (some 10) rfl rfl Try.func47 (by kernel_rfl) rfl #[.pointer (some ⟨g399,0,none⟩),.int .i64 4] rfl (by (try simp only [List.map_toArray,List.map_cons,List.map_nil]);first|done|rfl|(simp only [List.length_drop,List.length_take];rfl)) ?_;(with_reducible refine (spec_l6Rd_pick.calls k g399 t397 t403 4 t404 t405 w _ ?side1 ?side2 A4.out).mono ?_);(case side1 => repeat (first|(with_reducible first|exact HI399.out|apply IsS82.alloc|apply IsS82.drewN|apply IsS82.drew|apply IsS82.set_1)|exact HI399.out));(case side2 => repeat (first|(with_reducible first|exact HB.out|apply bA|apply bN|apply bD|refine below_set ?_ (IsS82.ge HI399.out))|exact HB.out));rintro e w10 ⟨rfl,hi,hb,hk⟩;refine ⟨_,rfl,?_⟩;have n0_:=aM (Kd.N_mono (Kd.N_keep (Kd.N_mono (ok:=fun k_ => (((w.heap.size ≤ k_)) ∧ k_ ≠ g399)) (by (with_reducible repeat (first|apply Kd.N_alloc|apply Kd.N_drewN|apply Kd.N_drew));exact HO402.out) (fun k_ hk_ => (⟨hk_,hk_.2⟩ : _ ∧ k_ ≠ g399))) hk (fun _ h => h.2)) (fun _ h => h.1));have n1_:=aM (hb);have n2_:=aM (hi);clear HO402;clear HB;clear HI399;have HO402:=n0_;have HB:=n1_;have HI399:=n2_;clear n0_ n1_ n2_;(try clear hb);(try clear hb2);(try clear hk);(try clear hi))|((with_reducible refine gate_callee (f:=32) rfl ?_);refine goesL_ (some 14) rfl rfl Try.func32 (by kernel_rfl) rfl #[.pointer (some ⟨g399,0,none⟩)] rfl (by (try simp only [List.map_toArray,List.map_cons,List.map_nil]);first|done|rfl|(simp only [List.length_drop,List.length_take];rfl)) ?_;(with_reducible refine (spec_l71Vote.calls k g399 t397 t405 t406 t407 t410 w _ ?side1 ?side2 A6.out).mono ?_);(case side1 => repeat (first|(with_reducible first|exact HI399.out|apply IsS82.alloc|apply IsS82.drewN|apply IsS82.drew|apply IsS82.set_1)|exact HI399.out));(case side2 => repeat (first|(with_reducible first|exact HB.out|apply bA|apply bN|apply bD|refine below_set ?_ (IsS82.ge HI399.out))|exact HB.out));rintro e w11 ⟨v408,rfl,ho0,hi,hb,hk⟩;refine ⟨_,rfl,?_⟩;have n0_:=aM (Kd.N_mono (Kd.N_told (Kd.N_oldK (Kd.N_mono (ok:=fun k_ => (((w.heap.size ≤ k_)) ∧ k_ ≠ g399)) (by (with_reducible repeat (first|apply Kd.N_alloc|apply Kd.N_drewN|apply Kd.N_drew));exact HO402.out) (fun k_ hk_ => (⟨hk_,hk_.2⟩ : _ ∧ k_ ≠ g399))) hk) (Kd.R_base ho0)) (fun _ h_ => h_.1));have n1_:=aM (Kd.R_lower (Kd.R_newM (M:=fun k_ => (w.heap.size ≤ k_)) ho0 (below_size (by repeat (first|(with_reducible first|exact HB.out|apply bA|apply bN|apply bD|refine below_set ?_ (IsS82.ge HI399.out))|exact HB.out))) (fun k_ h_ => h_)) (below_size (by repeat (first|(with_reducible first|exact HB.out|apply bA|apply bN|apply bD|refine below_set ?_ (IsS82.ge HI399.out))|exact HB.out))));have n2_:=aM (hb);have n3_:=aM (hi);clear HO402;clear HB;clear HI399;have HO402:=n0_;have HO409:=n1_;have HB:=n2_;have HI399:=n3_;clear n0_ n1_ n2_ n3_;(try clear hb);(try clear hb2);(try clear hk);(try clear hi);(try clear ho0);obtain ⟨Ao13,co13,eo13⟩:=Kd.R_slice HO409.out;subst eo13)|((with_reducible refine gate_builtin (b:=.append) (xs:=#[.tmp 12,.tmp 15]) rfl ?_);at_builtin;refine Kd.N_append k25 (w0:=w) w.heap.size rfl (.tmp 12) (.tmp 15) 37 25 (.agg #[(.int .i64 0),(.slice none 0 0)]) 32 rfl Try.underlying37 info25 rfl (by decide) (by omega) v401 t400 (⟨t406,t407⟩ : S25) [.int .i64 t406,.slice Ao13 t407.length co13] (fun k_ => (w.heap.size ≤ k_) ∧ k_ ≠ g399) (fun k_ => ((fun k_ => (w.heap.size ≤ k_) ∧ k_ ≠ g399)) k_ ∧ some k_ ≠ (v401 : Value).ownBlock) rfl rfl ?aP (fun _ hk => hk) ?aF ?aO ?aB ?aS ?aL ?_;(case aP => exact (k25_mkF _ _ (⟨t406,t407⟩ : S25) (Kd.R_reads' (Kd.R_mono (ok':=(fun k_ => ((fun k_ => (w.heap.size ≤ k_) ∧ k_ ≠ g399)) k_ ∧ some k_ ≠ (v401 : Value).ownBlock)) (IsS82.apart HI399.out (Kd.R_apart' (HO409.out) (Kd.N_typed HO402.out) (by decide)) (by decide)) (fun k_ hk => ⟨⟨hk.1.1.1,hk.2⟩,hk.1.2⟩))).2.1 (Kd.R_F (Kd.R_mono (ok':=(fun k_ => ((fun k_ => (w.heap.size ≤ k_) ∧ k_ ≠ g399)) k_ ∧ some k_ ≠ (v401 : Value).ownBlock)) (IsS82.apart HI399.out (Kd.R_apart' (HO409.out) (Kd.N_typed HO402.out) (by decide)) (by decide)) (fun k_ hk => ⟨⟨hk.1.1.1,hk.2⟩,hk.1.2⟩)))));(case aB => exact (by repeat (first|(with_reducible first|exact HB.out|apply bA|apply bN|apply bD|refine below_set ?_ (IsS82.ge HI399.out))|exact HB.out)));(case aF => exact (fun k_ hk => ⟨(Nat.le_trans (below_size (by repeat (first|(with_reducible first|exact HB.out|apply bA|apply bN|apply bD|refine below_set ?_ (IsS82.ge HI399.out))|exact HB.out))) hk),IsS82.fresh (by repeat (first|(with_reducible first|exact HI399.out|apply IsS82.alloc|apply IsS82.drewN|apply IsS82.drew|apply IsS82.set_1)|exact HI399.out)) k_ hk⟩));(case aO => exact (by (with_reducible repeat (first|apply Kd.N_alloc|apply Kd.N_drewN|apply Kd.N_drew));exact Kd.N_mono HO402.out (fun _ hk => ⟨hk.1.1,hk.1.2⟩)));(case aS => exact (below_size (by repeat (first|(with_reducible first|exact HB.out|apply bA|apply bN|apply bD|refine below_set ?_ (IsS82.ge HI399.out))|exact HB.out))));(case aL => have:=LMc7.out;omega);intro v412 w12 ho hb hg hat;rw [← Ny411.out] at ho;have n0_:=aM (IsS82.grown (by repeat (first|(with_reducible first|exact HI399.out|apply IsS82.alloc|apply IsS82.drewN|apply IsS82.drew|apply IsS82.set_1)|exact HI399.out)) hg (IsS82.own_neN HI399.out HO402.out (by decide)));have n1_:=aM (hb);have n2_:=aM (ho);clear HI399;clear HB;clear HO402;clear HO409;have HI399:=n0_;have HB:=n1_;have HO413:=n2_;clear n0_ n1_ n2_;clear ho hb hg hat))
  go_ret
  exact ⟨_,by first|rfl|(simp only [i64_w,i32_w];done)|(simp only [i64_w,i32_w];rfl)|(simp [errW_none,errW_some] <;> rfl)|(simp [*,errW_none,errW_some] <;> rfl),by (with_reducible repeat (first|apply Kd.N_alloc|apply Kd.N_drewN|apply Kd.N_drew));exact Kd.N_mono HO413.out (fun _ hk => hk.1),by repeat (first|(with_reducible first|exact HB.out|apply bA|apply bN|apply bD|refine below_set ?_ (IsS82.ge HI399.out))|exact HB.out)⟩
 ·rw [if_neg c5] at H
  have c5b0 : (t404 == 0) = false:=beq_eq_false_iff_ne.mpr c5
  have c5b1 : (t404 != 0) = true:=bne_iff_ne.mpr c5
  obtain rfl:=Option.some.inj H
  go_enter Try.func26,Try.ntmps26
  go_wp2_with (first|((with_reducible refine gate_callee (f:=33) rfl ?_);refine goesL_ (some 6) rfl rfl Try.func33 (by kernel_rfl) rfl #[.slice A0 l0.length c0] rfl (by (try simp only [List.map_toArray,List.map_cons,List.map_nil]);first|done|rfl|(simp only [List.length_drop,List.length_take];rfl)) ?_;(with_reducible refine (spec_l6Open.calls _ _ l0 t397 t398 w _ ?side1 ?side2 ?side3 A2.out).mono ?_);(case side1 => repeat (first|(with_reducible first|exact HB.out|apply bA|apply bN|apply bD)|exact HB.out));(case side2 => exact HR0.out);(case side3 => exact HC0.out);rintro e w14 ⟨g399,rfl,hi,hb,hb2⟩;refine ⟨_,rfl,?_⟩;have n0_:=aM (hb);have n1_:=aM (hi);clear HB;have HB:=n0_;have HI399:=n1_;clear n0_ n1_;(try clear hb);(try clear hb2);(try clear hk);(try clear hi))|((with_reducible refine gate_callee (f:=46) rfl ?_);refine goesL_ (some 8) rfl rfl Try.func46 (by kernel_rfl) rfl #[.pointer (some ⟨g399,0,none⟩)] rfl (by (try simp only [List.map_toArray,List.map_cons,List.map_nil]);first|done|rfl|(simp only [List.length_drop,List.length_take];rfl)) ?_;(with_reducible refine (spec_l71Spoilt.calls k g399 t397 t398 t400 t403 w _ ?side1 ?side2 A3.out).mono ?_);(case side1 => repeat (first|(with_reducible first|exact HI399.out|apply IsS82.alloc|apply IsS82.drewN|apply IsS82.drew|apply IsS82.set_1)|exact HI399.out));(case side2 => repeat (first|(with_reducible first|exact HB.out|apply bA|apply bN|apply bD|refine below_set ?_ (IsS82.ge HI399.out))|exact HB.out));rintro e w15 ⟨v401,rfl,ho0,hi,hb,hk⟩;refine ⟨_,rfl,?_⟩;have n0_:=aM (Kd.N_lower (Kd.N_mono (ok':=fun k_ => (w.heap.size ≤ k_) ∧ k_ ≠ g399) ho0 (fun k_ hk_ => ⟨(Nat.le_trans (below_size (by repeat (first|(with_reducible first|exact HB.out|apply bA|apply bN|apply bD|refine below_set ?_ (IsS82.ge HI399.out))|exact HB.out))) hk_),(IsS82.fresh (by repeat (first|(with_reducible first|exact HI399.out|apply IsS82.alloc|apply IsS82.drewN|apply IsS82.drew|apply IsS82.set_1)|exact HI399.out)) k_ hk_)⟩)) (below_size (by repeat (first|(with_reducible first|exact HB.out|apply bA|apply bN|apply bD|refine below_set ?_ (IsS82.ge HI399.out))|exact HB.out))));have n1_:=aM (hb);have n2_:=aM (hi);clear HB;clear HI399;have HO402:=n0_;have HB:=n1_;have HI399:=n2_;clear n0_ n1_ n2_;(try clear hb);(try clear hb2);(try clear hk);(try clear hi);(try clear ho0))|((with_reducible refine gate_callee (f:=47) rfl ?_);refine goesL_ (some 10) rfl rfl Try.func47 (by kernel_rfl) rfl #[.pointer (some ⟨g399,0,none⟩),.int .i64 4] rfl (by (try simp only [List.map_toArray,List.map_cons,List.map_nil]);first|done|rfl|(simp only [List.length_drop,List.length_take];rfl)) ?_;(with_reducible refine (spec_l6Rd_pick.calls k g399 t397 t403 4 t404 t405 w _ ?side1 ?side2 A4.out).mono ?_);(case side1 => repeat (first|(with_reducible first|exact HI399.out|apply IsS82.alloc|apply IsS82.drewN|apply IsS82.drew|apply IsS82.set_1)|exact HI399.out));(case side2 => repeat (first|(with_reducible first|exact HB.out|apply bA|apply bN|apply bD|refine below_set ?_ (IsS82.ge HI399.out))|exact HB.out));rintro e w16 ⟨rfl,hi,hb,hk⟩;refine ⟨_,rfl,?_⟩;have n0_:=aM (Kd.N_mono (Kd.N_keep (Kd.N_mono (ok:=fun k_ => (((w.heap.size ≤ k_)) ∧ k_ ≠ g399)) (by (with_reducible repeat (first|apply Kd.N_alloc|apply Kd.N_drewN|apply Kd.N_drew));exact HO402.out) (fun k_ hk_ => (⟨hk_,hk_.2⟩ : _ ∧ k_ ≠ g399))) hk (fun _ h => h.2)) (fun _ h => h.1));have n1_:=aM (hb);have n2_:=aM (hi);clear HO402;clear HB;clear HI399;have HO402:=n0_;have HB:=n1_;have HI399:=n2_;clear n0_ n1_ n2_;(try clear hb);(try clear hb2);(try clear hk);(try clear hi)))
  go_ret
  exact ⟨_,by first|rfl|(simp only [i64_w,i32_w];done)|(simp only [i64_w,i32_w];rfl)|(simp [errW_none,errW_some] <;> rfl)|(simp [*,errW_none,errW_some] <;> rfl),by (with_reducible repeat (first|apply Kd.N_alloc|apply Kd.N_drewN|apply Kd.N_drew));exact Kd.N_mono HO402.out (fun _ hk => hk.1),by repeat (first|(with_reducible first|exact HB.out|apply bA|apply bN|apply bD|refine below_set ?_ (IsS82.ge HI399.out))|exact HB.out)⟩

/-! ### laws_lwBack: function 27 -/
def laws_lwBack.l0 : Nat → List (S25) → List (S25) → Int → Option ((List (S25)))
 | 0,_,_,_ => none
 | k + 1,x0,x3,x4 => if x4 ≥ 0 then (if 0 ≤ x4 then (if x4 < (x0.length : Int) then (if x3.length < 4398046511104 then (laws_lwBack.l0 k x0 (x3 ++ [(⟨(rd_T25 x0 x4).f0,(rd_T25 x0 x4).f1⟩ : S25)]) (wrap64 (x4 - 1))) else (none)) else (none)) else (none)) else (some x3)
def laws_lwBack.f (k : Nat) (l0 : List (S25)) : Option ((List (S25))):=laws_lwBack.l0 k l0 (([] : List (S25))) (wrap64 ((l0.length : Int) - 1))
theorem laws_lwBack.mono_l : ∀ k,(∀ y0 y1 y2,LeO (laws_lwBack.l0 k y0 y1 y2) (laws_lwBack.l0 (k + 1) y0 y1 y2))
 | 0 => fun _ _ _ r h => by simp [laws_lwBack.l0] at h
 | k + 1 => by
  have ih0:=laws_lwBack.mono_l k
  ·intro y0 y1 y2
   unfold laws_lwBack.l0
   repeat' first
   | exact LeO.refl _
   | exact ih0 _ _ _
   | exact LeO.none _
   | refine LeO.ite ?_ ?_
   | refine LeO.bind ?_ (fun _ => ?_)
theorem laws_lwBack.mono : ∀ a0 k,LeO (laws_lwBack.f k a0) (laws_lwBack.f (k + 1) a0):=by
 intro a0 k
 have ih0:=laws_lwBack.mono_l k
 unfold laws_lwBack.f
 repeat' first
   | exact LeO.refl _
   | exact ih0 _ _ _
   | exact LeO.none _
   | refine LeO.ite ?_ ?_
   | refine LeO.bind ?_ (fun _ => ?_)
set_option maxHeartbeats 8000000 in
set_option maxRecDepth 100000 in
theorem laws_lwBack.calls (k : Nat) (P0_ : Nat → Prop) (A0 : Option Addr) (c0 : Nat) (l0 : List (S25)) (r : List (S25)) (w : World) (hs0 : Kd.V k25 25 w w.heap.size (fun k_ => P0_ k_) (.slice A0 l0.length c0) l0) (h : laws_lwBack.f k l0 = some r) :
  Calls Try.prog 27 #[.slice A0 l0.length c0] w fun e w' => ∃ v0_ : Value,e = .returned (v0_) ∧ Kd.N k25 25 w' w.heap.size (fun k_ => (P0_ k_ ∨ w.heap.size ≤ k_)) v0_ r ∧ Below w.heap.size w w':=by
 have hu25:=Try.underlying25
 have HO0:=aM (show Kd.V k25 25 w w.heap.size (fun k_ => (P0_ k_ ∨ w.heap.size ≤ k_)) (.slice A0 l0.length c0) l0 from Kd.V_mono hs0 (fun k_ hk => .inl hk))
 have HB:=aM (Below.refl w.heap.size w)
 have H : (laws_lwBack.l0 k l0 (([] : List (S25))) (wrap64 ((l0.length : Int) - 1))) = some r:=h
 clear h
 obtain ⟨y414,hy414⟩ : ∃ y_ : List (S25),y_ = (([] : List (S25))):=⟨_,rfl⟩
 replace H : (laws_lwBack.l0 k l0 y414 (wrap64 ((l0.length : Int) - 1))) = some r:=by first|(rw [hy414];with_reducible exact H)|(have H2_:=(Option.bind_some _ _).symm.trans H;rw [hy414];with_reducible exact H2_)|(have H2_:=(Option.bind_some _ _).symm.trans H;with_reducible exact H2_)|with_reducible exact H|(rw [hy414];exact H)|exact H
 have Ny414:=aM hy414
 clear hy414
 have H':=aM H
 clear H
 go_enter Try.func27,Try.ntmps27
 go_wp2_with (first|((with_reducible refine gate_dst (N:=5) rfl ?_);refine Kd.N_lit k25 _ 25 ?hg (N':=5) ?hd (xs:=([] : List (S25))) (inner:=[]) (ok:=(fun k_ => (P0_ k_ ∨ w.heap.size ≤ k_))) (okp:=(fun k_ => (P0_ k_ ∨ w.heap.size ≤ k_))) ?hr ?hp (fun _ hk => hk) ((show ∀ k_,w.heap.size ≤ k_ → (fun k_ => (P0_ k_ ∨ w.heap.size ≤ k_)) k_ from fun k_ hk => (.inr (Nat.le_trans (below_size (by repeat (first|(with_reducible first|exact HB.out|apply bA|apply bN|apply bD)|exact HB.out))) hk))) _ (Nat.le_refl _)) (Below.refl _ _) (Nat.le_refl _) (by simp) ?_;(case hd => rfl);(case hg => rfl);(case hr => first|(go_simp;done)|(go_simp;rfl));(case hp => exact (Reps.none _ _));intro v415 w2 ho3 hb hg_ hnew_;clear hg_ hnew_;(first|rw [← Ny414.out] at ho3|(simp only [Int.reduceToNat] at ho3;rw [← Ny414.out] at ho3));have n0_:=aM (Kd.V_elder' (by (with_reducible repeat (first|apply Kd.V_alloc|apply Kd.V_drewN|apply Kd.V_drew));exact HO0.out) (Kd.N_base ho3) hb);have n1_:=aM (Kd.N_lower ho3 (below_size (by repeat (first|(with_reducible first|exact HB.out|apply bA|apply bN|apply bD)|exact HB.out))));have n2_:=aM (below_step (by repeat (first|(with_reducible first|exact HB.out|apply bA|apply bN|apply bD)|exact HB.out)) hb);clear HO0;clear HB;have HO0:=n0_;have HO416:=n1_;have HB:=n2_;clear n0_ n1_ n2_;clear hb ho3))
 go_loopg [3,4] k (fun kq v3 v4 w' => ∃ (x3_1 : List (S25)) (x4_1 : Int),v4 = .int .i64 x4_1 ∧ Aside0 (laws_lwBack.l0 kq l0 x3_1 x4_1 = some r) ∧ Aside0 (kq ≤ k) ∧ Aside0 (Kd.V k25 25 w' w.heap.size (fun k_ => (P0_ k_ ∨ w.heap.size ≤ k_) ∧ some k_ ≠ (v3 : Value).ownBlock) (.slice A0 l0.length c0) l0) ∧ Aside0 (Kd.N k25 25 w' w.heap.size (fun k_ => (P0_ k_ ∨ w.heap.size ≤ k_)) v3 x3_1) ∧ Aside0 (Below w.heap.size w w'))
 case atStart => exact ⟨(y414),(wrap64 ((l0.length : Int) - 1)),(by first|rfl|(simp;done)|(simp [*];done)),H',⟨Nat.le_refl _⟩,⟨by (with_reducible repeat (first|apply Kd.V_alloc|apply Kd.V_drewN|apply Kd.V_drew));exact HO0.out⟩,⟨by (with_reducible repeat (first|apply Kd.N_alloc|apply Kd.N_drewN|apply Kd.N_drew));exact HO416.out⟩,⟨by repeat (first|(with_reducible first|exact HB.out|apply bA|apply bN|apply bD)|exact HB.out)⟩⟩
 case round =>
  clear H'
  try clear c2
  try clear p2
  obtain ⟨x3_1,x4_1,rfl,HA,HK1,HO_0,HO_3,HB⟩:=hrel
  cases gk with
  | zero => exact absurd HA.out (by simp [laws_lwBack.l0])
  | succ k1 =>
   have H:=HA.out
   clear HA
   simp only [laws_lwBack.l0] at H
   by_cases c4 : x4_1 ≥ 0
   ·rw [if_pos c4] at H
    have c4b0 : decide (0 ≤ x4_1) = true:=decide_eq_true c4
    clear c4
    by_cases c5 : 0 ≤ x4_1
    case neg => rw [if_neg c5] at H;exact absurd H (by simp)
    rw [if_pos c5] at H
    have c5b0 : decide (0 ≤ x4_1) = true:=decide_eq_true c5
    clear c5
    by_cases c6 : x4_1 < (l0.length : Int)
    case neg => rw [if_neg c6] at H;exact absurd H (by simp)
    rw [if_pos c6] at H
    have c6b0 : decide (x4_1 < (l0.length : Int)) = true:=decide_eq_true c6
    clear c6
    by_cases c7 : x3_1.length < 4398046511104
    case neg => rw [if_neg c7] at H;exact absurd H (by simp)
    rw [if_pos c7] at H
    have LMc7:=aM c7
    clear c7
    obtain ⟨y418,hy418⟩ : ∃ y_ : List (S25),y_ = (x3_1 ++ [(⟨(rd_T25 l0 x4_1).f0,(rd_T25 l0 x4_1).f1⟩ : S25)]):=⟨_,rfl⟩
    replace H : (laws_lwBack.l0 k1 l0 y418 (wrap64 (x4_1 - 1))) = some r:=by first|(rw [hy418];with_reducible exact H)|(have H2_:=(Option.bind_some _ _).symm.trans H;rw [hy418];with_reducible exact H2_)|(have H2_:=(Option.bind_some _ _).symm.trans H;with_reducible exact H2_)|with_reducible exact H|(rw [hy418];exact H)|exact H
    have Ny418:=aM hy418
    clear hy418
    have H':=aM H
    clear H
    have p417 : 0 ≤ (x4_1 : Int):=of_decide_eq_true (by first|(with_reducible assumption)|assumption)
    have q417 : x4_1 < (l0.length : Int):=of_decide_eq_true (by first|(with_reducible assumption)|assumption)
    obtain ⟨ad417,A417_1,c417_1,e417,hx417_0,hx417_1,hl417_1,hi417_1⟩:=at_T25 (Kd.V_reads' HO_0.out).2.2 x4_1 p417 q417
    cases e417
    obtain ⟨ce417,hce417,hMe417,hcc417⟩:=Kd.V_get HO_0.out z25 x4_1 p417 (by first|exact q417|exact of_decide_eq_true (by first|(with_reducible assumption)|assumption)|(have e_:=(Kd.V_reads' HO_0.out).1;omega))
    obtain ⟨ua417_1,uc417_1,rfl,ul417_1,ge417_1⟩:=k25_openF hMe417
    have hv417_1:=hcc417 1 _ rfl
    rw [add_field _ _ 1 (by omega)] at hv417_1
    replace hv417_1:=Option.some.inj (hv417_1.symm.trans hx417_1)
    injection hv417_1 with hva_ hvn_ hvc_
    rw [hva_] at ge417_1
    rw [hvc_] at ul417_1
    have HL417_1:=aM (show Kd.V k65 65 _ w.heap.size _ _ ((rd_T25 l0 x4_1).f1) from Kd.V_mk ul417_1 ge417_1)
    clear hva_ hvn_ hvc_ ge417_1 ul417_1
    clear hcc417 hce417
    have HR417_1:=aM hi417_1
    have HC417_1:=aM hl417_1
    clear hi417_1 hl417_1
    replace p417:=eq_true p417
    replace q417:=eq_true q417
    go_wp2_with (first|((with_reducible refine gate_builtin (b:=.append) (xs:=#[.tmp 13,.tmp 18]) rfl ?_);at_builtin;refine Kd.N_append k25 (w0:=w) w.heap.size rfl (.tmp 13) (.tmp 18) 37 25 (.agg #[(.int .i64 0),(.slice none 0 0)]) 32 rfl Try.underlying37 info25 rfl (by decide) (by omega) u3 x3_1 (⟨(rd_T25 l0 x4_1).f0,(rd_T25 l0 x4_1).f1⟩ : S25) [.int .i64 ((rd_T25 l0 x4_1).f0),.slice A417_1 ((rd_T25 l0 x4_1).f1).length c417_1] (fun k_ => (P0_ k_ ∨ w.heap.size ≤ k_)) (fun k_ => ((fun k_ => (P0_ k_ ∨ w.heap.size ≤ k_))) k_ ∧ some k_ ≠ (u3 : Value).ownBlock) rfl rfl ?aP (fun _ hk => hk) ?aF ?aO ?aB ?aS ?aL ?_;(case aP => exact (k25_mkF _ _ (⟨(rd_T25 l0 x4_1).f0,(rd_T25 l0 x4_1).f1⟩ : S25) (Kd.V_reads' (Kd.V_mono (ok':=(fun k_ => ((fun k_ => (P0_ k_ ∨ w.heap.size ≤ k_))) k_ ∧ some k_ ≠ (u3 : Value).ownBlock)) (HL417_1.out) (fun k_ hk => ⟨hk.1,hk.2⟩))).2.1 (Kd.V_F (Kd.V_mono (ok':=(fun k_ => ((fun k_ => (P0_ k_ ∨ w.heap.size ≤ k_))) k_ ∧ some k_ ≠ (u3 : Value).ownBlock)) (HL417_1.out) (fun k_ hk => ⟨hk.1,hk.2⟩)))));(case aB => exact (by repeat (first|(with_reducible first|exact HB.out|apply bA|apply bN|apply bD)|exact HB.out)));(case aF => exact (fun k_ hk => (.inr (Nat.le_trans (below_size (by repeat (first|(with_reducible first|exact HB.out|apply bA|apply bN|apply bD)|exact HB.out))) hk))));(case aO => exact (by (with_reducible repeat (first|apply Kd.N_alloc|apply Kd.N_drewN|apply Kd.N_drew));exact HO_3.out));(case aS => exact (below_size (by repeat (first|(with_reducible first|exact HB.out|apply bA|apply bN|apply bD)|exact HB.out))));(case aL => have:=LMc7.out;omega);intro v419 w8 ho hb hg hat;rw [← Ny418.out] at ho;have n0_:=aM (Kd.V_afterv (ok:=(fun k_ => (P0_ k_ ∨ w.heap.size ≤ k_))) (by (with_reducible repeat (first|apply Kd.V_alloc|apply Kd.V_drewN|apply Kd.V_drew));exact HO_0.out) hg hat);have n1_:=aM (Kd.V_afterv (ok:=(fun k_ => (P0_ k_ ∨ w.heap.size ≤ k_))) (by (with_reducible repeat (first|apply Kd.V_alloc|apply Kd.V_drewN|apply Kd.V_drew));exact HL417_1.out) hg hat);have n2_:=aM (hb);have n3_:=aM (ho);clear HO_0;clear HL417_1;clear HB;clear HO_3;have HO_0:=n0_;have HL417_1:=n1_;have HB:=n2_;have HO420:=n3_;clear n0_ n1_ n2_ n3_;clear ho hb hg hat))
    go_roundg k1
    case measure => have:=HK1.out;omega
    case rel => exact ⟨(y418),(wrap64 (x4_1 - 1)),(by first|rfl|(simp;done)|(simp [*];done)),H',⟨by have:=HK1.out;omega⟩,⟨by (with_reducible repeat (first|apply Kd.V_alloc|apply Kd.V_drewN|apply Kd.V_drew));exact HO_0.out⟩,⟨by (with_reducible repeat (first|apply Kd.N_alloc|apply Kd.N_drewN|apply Kd.N_drew));exact HO420.out⟩,⟨by repeat (first|(with_reducible first|exact HB.out|apply bA|apply bN|apply bD)|exact HB.out)⟩⟩
   ·rw [if_neg c4] at H
    have c4b0 : decide (0 ≤ x4_1) = false:=decide_eq_false c4
    clear c4
    obtain rfl:=Option.some.inj H
    go_wp2
    go_ret
    exact ⟨_,by first|rfl|(simp only [i64_w,i32_w];done)|(simp only [i64_w,i32_w];rfl)|(simp [errW_none,errW_some] <;> rfl)|(simp [*,errW_none,errW_some] <;> rfl),by (with_reducible repeat (first|apply Kd.N_alloc|apply Kd.N_drewN|apply Kd.N_drew));exact HO_3.out,by repeat (first|(with_reducible first|exact HB.out|apply bA|apply bN|apply bD)|exact HB.out)⟩

end Go.Proofs.Ytaccamnoacdiiaa.P
