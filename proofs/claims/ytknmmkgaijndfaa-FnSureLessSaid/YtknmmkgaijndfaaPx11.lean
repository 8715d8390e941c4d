/- The printed functions: what each Go function computes, as a Lean function, and that the Go code comes to just that. Conditions: none beyond each contract's own. -/
import Derived.Test.YtknmmkgaijndfaaPx0
import Derived.Test.YtknmmkgaijndfaaPx8
import Derived.Test.YtknmmkgaijndfaaPx9
import Derived.Test.YtknmmkgaijndfaaPx10
namespace Go.Proofs.Ytknmmkgaijndfaa.P
open Go.RowKit Go.Proofs.YtknmmkgaijndfaaW.PrintWords Go.Proofs.YtknmmkgaijndfaaW.PrintLast Go.Proofs.YtknmmkgaijndfaaW.PrintMore
attribute [local go_sem] max2_int min2_int max_two min_two max_three min_three max_four min_four   -- for this text's walks alone
set_option linter.unusedVariables false
set_option linter.unusedSimpArgs false

/-! ### spec_l71Vote: function 68 -/
mutual
def spec_l71Vote.j0 : Nat → Bool → List Int → Int → Int → List (S58) → Option (Int × (List (S58)) × Int)
 | 0,_,_,_,_,_ => none
 | k + 1,x18,x1000,x1001,x379000,x379001 => if x18 = true then ((spec_l6Rd_pick.f k x1000 x1001 3).bind fun bt381 => ((spec_l71Pay.f k x1000 bt381.2).bind fun bt383 => (spec_l71Vote.j1 k x1000 bt383.2.2.2 x379000 (([(⟨wrap64 (1 + bt381.1),(⟨bt383.1,bt383.2.1,bt383.2.2.1⟩ : S56)⟩ : S58)] : List (S58)))))) else (spec_l71Vote.j1 k x1000 x1001 x379000 x379001)
def spec_l71Vote.j1 : Nat → List Int → Int → Int → List (S58) → Option (Int × (List (S58)) × Int)
 | 0,_,_,_,_ => none
 | k + 1,x1000,x1001,x379000,x379001 => (spec_l6Rd_pick.f k x1000 x1001 16).bind fun bt390 => (if bt390.1 = 0 then ((some (([0,5] : List Int) : List Int)).bind fun y392 => ((spec_l6Rd_pick.f k x1000 bt390.2 2).bind fun bt395 => (if 0 ≤ bt395.1 then (if bt395.1 < (y392.length : Int) then (some (rd y392 bt395.1,x379001,bt395.2)) else (none)) else (none)))) else (some (x379000,x379001,bt390.2)))
end
def spec_l71Vote.f (k : Nat) (s0_0 : List Int) (s0_1 : Int) : Option (Int × (List (S58)) × Int):=(spec_l6Rd_pick.f k s0_0 s0_1 4).bind fun bt372 => ((spec_l71Off.f k s0_0 bt372.2).bind fun bt374 => (if (bt374.1.length : Int) = 0 then ((spec_l6Rd_pick.f k s0_0 bt374.2 4).bind fun bt379 => (spec_l71Vote.j0 k (decide (bt379.1 > 0)) s0_0 bt379.2 (wrap64 (1 + bt372.1)) bt374.1)) else (spec_l71Vote.j0 k false s0_0 bt374.2 (wrap64 (1 + bt372.1)) bt374.1)))
theorem spec_l71Vote.mono_l : ∀ k,(∀ y0 y1 y2 y3 y4,LeO (spec_l71Vote.j0 k y0 y1 y2 y3 y4) (spec_l71Vote.j0 (k + 1) y0 y1 y2 y3 y4)) ∧ (∀ y0 y1 y2 y3,LeO (spec_l71Vote.j1 k y0 y1 y2 y3) (spec_l71Vote.j1 (k + 1) y0 y1 y2 y3))
 | 0 => ⟨fun _ _ _ _ _ r h => by simp [spec_l71Vote.j0] at h,fun _ _ _ _ r h => by simp [spec_l71Vote.j1] at h⟩
 | k + 1 => by
  obtain ⟨ih0,ih1⟩:=spec_l71Vote.mono_l k
  refine ⟨?_,?_⟩
  ·intro y0 y1 y2 y3 y4
   unfold spec_l71Vote.j0
   repeat' first
   | exact LeO.refl _
   | exact ih0 _ _ _ _ _
   | exact ih1 _ _ _ _
   | exact spec_l6Rd_pick.mono _ _ _ _
   | exact spec_l71Off.mono _ _ _
   | exact spec_l71Pay.mono _ _ _
   | exact LeO.none _
   | refine LeO.ite ?_ ?_
   | refine LeO.bind ?_ (fun _ => ?_)
  ·intro y0 y1 y2 y3
   unfold spec_l71Vote.j1
   repeat' first
   | exact LeO.refl _
   | exact ih0 _ _ _ _ _
   | exact ih1 _ _ _ _
   | exact spec_l6Rd_pick.mono _ _ _ _
   | exact spec_l71Off.mono _ _ _
   | exact spec_l71Pay.mono _ _ _
   | exact LeO.none _
   | refine LeO.ite ?_ ?_
   | refine LeO.bind ?_ (fun _ => ?_)
theorem spec_l71Vote.mono : ∀ a0 a1 k,LeO (spec_l71Vote.f k a0 a1) (spec_l71Vote.f (k + 1) a0 a1):=by
 intro a0 a1 k
 obtain ⟨ih0,ih1⟩:=spec_l71Vote.mono_l k
 unfold spec_l71Vote.f
 repeat' first
   | exact LeO.refl _
   | exact ih0 _ _ _ _ _
   | exact ih1 _ _ _ _
   | exact spec_l6Rd_pick.mono _ _ _ _
   | exact spec_l71Off.mono _ _ _
   | exact spec_l71Pay.mono _ _ _
   | exact LeO.none _
   | refine LeO.ite ?_ ?_
   | refine LeO.bind ?_ (fun _ => ?_)
set_option maxHeartbeats 8000000 in
set_option maxRecDepth 100000 in
theorem spec_l71Vote.calls (k : Nat) (g : Nat) (s0_0 : List Int) (s0_1 : Int) (r1 : Int) (r2 : List (S58)) (r3 : Int) (w0 w : World) (hI : IsS82 w0 w g s0_0 s0_1) (hB : Below w0.heap.size w0 w) (h : spec_l71Vote.f k s0_0 s0_1 = some (r1,r2,r3)) :
  Calls Try.prog 68 #[.pointer (some ⟨g,0,none⟩)] w fun e w' => ∃ v1_ : Value,e = .returned (.agg #[.int .i64 r1,v1_]) ∧ Kd.R k58 58 w' w.heap.size (fun _ => True) v1_ r2 ∧ IsS82 w0 w' g s0_0 r3 ∧ Below w0.heap.size w0 w' ∧ KeepBut w w' g none:=by
 have hu48:=Try.underlying48
 have hu58:=Try.underlying58
 have HI0:=aM hI
 have HK:=aM (KeepBut.refl w g none)
 have HL:=aM hB.size
 clear hI
 have HW0:=aM hB.size
 have HB:=aM hB
 clear hB
 have H : ((spec_l6Rd_pick.f k s0_0 s0_1 4).bind fun bt372 => ((spec_l71Off.f k s0_0 bt372.2).bind fun bt374 => (if (bt374.1.length : Int) = 0 then ((spec_l6Rd_pick.f k s0_0 bt374.2 4).bind fun bt379 => (spec_l71Vote.j0 k (decide (bt379.1 > 0)) s0_0 bt379.2 (wrap64 (1 + bt372.1)) bt374.1)) else (spec_l71Vote.j0 k false s0_0 bt374.2 (wrap64 (1 + bt372.1)) bt374.1)))) = some (r1,r2,r3):=h
 clear h
 replace H:=Option.bind_eq_some_iff.mp H
 obtain ⟨⟨t372,t373⟩,A20,H⟩:=H
 replace H : ((spec_l71Off.f k s0_0 t373).bind fun bt374 => (if (bt374.1.length : Int) = 0 then ((spec_l6Rd_pick.f k s0_0 bt374.2 4).bind fun bt379 => (spec_l71Vote.j0 k (decide (bt379.1 > 0)) s0_0 bt379.2 (wrap64 (1 + t372)) bt374.1)) else (spec_l71Vote.j0 k false s0_0 bt374.2 (wrap64 (1 + t372)) bt374.1))) = some (r1,r2,r3):=H
 have A2:=aM A20
 clear A20
 replace H:=Option.bind_eq_some_iff.mp H
 obtain ⟨⟨t374,t377⟩,A30,H⟩:=H
 replace H : (if (t374.length : Int) = 0 then ((spec_l6Rd_pick.f k s0_0 t377 4).bind fun bt379 => (spec_l71Vote.j0 k (decide (bt379.1 > 0)) s0_0 bt379.2 (wrap64 (1 + t372)) t374)) else (spec_l71Vote.j0 k false s0_0 t377 (wrap64 (1 + t372)) t374)) = some (r1,r2,r3):=H
 have A3:=aM A30
 clear A30
 have HC4:=aM H
 clear H
 go_enter Try.func68,Try.ntmps68
 go_upto_region 2 with (first|((with_reducible refine gate_dst (N:=2) rfl ?_);refine box_event ?hg (N:=2) ?hd (cs:=#[.int .i64 0,.slice none 0 0]) (t:=48) ?hr ?_;(case hd => rfl);(case hg => rfl);(case hr => first|(go_simp;done)|(go_simp;rfl));intro gb371 hg w5 hbox hb;have n0_:=aM (IsS82.below (by repeat (first|(with_reducible first|exact HI0.out|apply IsS82.alloc|apply IsS82.drewN|apply IsS82.drew|apply IsS82.set_1)|exact HI0.out)) hb);have n1_:=aM (KeepBut.trans (by repeat (first|(with_reducible first|exact HK.out|apply KeepBut.set_|apply keep_drewN|apply keep_drew|apply keep_alloc)|exact HK.out)) (KeepBut.of_below hb g none) (.inl rfl));have n2_:=aM (below_step (by repeat (first|(with_reducible first|exact HB.out|apply bA|apply bN|apply bD|refine below_set ?_ (IsS82.ge HI0.out))|exact HB.out)) hb);have n3_:=aM (hbox);have n4_:=aM ((by rw [hg];exact (keep_size (w:=w) (g:=g) (row:=none) (by repeat (first|(with_reducible first|exact HK.out|apply KeepBut.set_|apply keep_drewN|apply keep_drew|apply keep_alloc)|exact HK.out))) : w.heap.size ≤ gb371));have n5_:=aM ((Nat.le_trans HW0.out (by rw [hg];exact (keep_size (w:=w) (g:=g) (row:=none) (by repeat (first|(with_reducible first|exact HK.out|apply KeepBut.set_|apply keep_drewN|apply keep_drew|apply keep_alloc)|exact HK.out))) : w.heap.size ≤ gb371) : w0.heap.size ≤ gb371));have n6_:=aM ((by rw [hg];exact Nat.ne_of_lt (IsS82.lt (show IsS82 w0 _ g s0_0 s0_1 from by repeat (first|(with_reducible first|exact HI0.out|apply IsS82.alloc|apply IsS82.drewN|apply IsS82.drew|apply IsS82.set_1)|exact HI0.out))) : g ≠ gb371));have n7_:=aM ((by rw [hg];exact Nat.ne_of_gt (IsS82.lt (show IsS82 w0 _ g s0_0 s0_1 from by repeat (first|(with_reducible first|exact HI0.out|apply IsS82.alloc|apply IsS82.drewN|apply IsS82.drew|apply IsS82.set_1)|exact HI0.out))) : gb371 ≠ g));clear HI0;clear HK;clear HB;have HI0:=n0_;have HK:=n1_;have HB:=n2_;have BK371:=n3_;have GW371:=n4_;have GE371:=n5_;have NB0_371:=n6_;have NB371_0:=n7_;clear n0_ n1_ n2_ n3_ n4_ n5_ n6_ n7_;clear hb hbox hg)|((with_reducible refine gate_callee (f:=59) rfl ?_);refine goesL_ (some 5) rfl rfl Try.func59 (by kernel_rfl) rfl #[.pointer (some ⟨g,0,none⟩),.int .i64 4] rfl (by (try simp only [List.map_toArray,List.map_cons,List.map_nil]);first|done|rfl|(simp only [List.length_drop,List.length_take];rfl)) ?_;(with_reducible refine (spec_l6Rd_pick.calls k g s0_0 s0_1 4 t372 t373 w0 _ ?side1 ?side2 A2.out).mono ?_);(case side1 => repeat (first|(with_reducible first|exact HI0.out|apply IsS82.alloc|apply IsS82.drewN|apply IsS82.drew|apply IsS82.set_1|refine IsS82.far ?_ NB0_371.out _)|exact HI0.out));(case side2 => repeat (first|(with_reducible first|exact HB.out|apply bA|apply bN|apply bD|refine below_set ?_ (IsS82.ge HI0.out)|refine below_set ?_ GE371.out)|exact HB.out));rintro e w6 ⟨rfl,hi,hb,hk⟩;refine ⟨_,rfl,?_⟩;have n0_:=aM (KeepBut.blk hk (g':=gb371) (o:=.cells #[.int .i64 0,.slice none 0 0] 48 (0,0)) (by (with_reducible repeat (first|refine blk_drewN ?_ _|refine blk_drew ?_|refine blk_alloc ?_ _));exact BK371.out) NB371_0.out (by simp));have n1_:=aM (KeepBut.trans (by repeat (first|(with_reducible first|exact HK.out|apply KeepBut.set_|apply keep_drewN|apply keep_drew|apply keep_alloc|refine keep_far ?_ GW371.out _)|exact HK.out)) hk (.inl rfl));have n2_:=aM (hb);have n3_:=aM (hi);clear BK371;clear HK;clear HB;clear HI0;have BK371:=n0_;have HK:=n1_;have HB:=n2_;have HI0:=n3_;clear n0_ n1_ n2_ n3_;(try clear hb);(try clear hb2);(try clear hk);(try clear hi))|((with_reducible refine gate_callee (f:=61) rfl ?_);refine goesL_ (some 8) rfl rfl Try.func61 (by kernel_rfl) rfl #[.pointer (some ⟨g,0,none⟩)] rfl (by (try simp only [List.map_toArray,List.map_cons,List.map_nil]);first|done|rfl|(simp only [List.length_drop,List.length_take];rfl)) ?_;(with_reducible refine (spec_l71Off.calls k g s0_0 t373 t374 t377 w0 _ ?side1 ?side2 A3.out).mono ?_);(case side1 => repeat (first|(with_reducible first|exact HI0.out|apply IsS82.alloc|apply IsS82.drewN|apply IsS82.drew|apply IsS82.set_1|refine IsS82.far ?_ NB0_371.out _)|exact HI0.out));(case side2 => repeat (first|(with_reducible first|exact HB.out|apply bA|apply bN|apply bD|refine below_set ?_ (IsS82.ge HI0.out)|refine below_set ?_ GE371.out)|exact HB.out));rintro e w7 ⟨v375,rfl,ho0,hi,hb,hk⟩;refine ⟨_,rfl,?_⟩;have n0_:=aM (KeepBut.blk hk (g':=gb371) (o:=.cells #[.int .i64 0,.slice none 0 0] 48 (0,0)) (by (with_reducible repeat (first|refine blk_drewN ?_ _|refine blk_drew ?_|refine blk_alloc ?_ _));exact BK371.out) NB371_0.out (by simp));have n1_:=aM (Kd.R_lower ho0 (keep_size (w:=w) (g:=g) (row:=none) (by repeat (first|(with_reducible first|exact HK.out|apply KeepBut.set_|apply keep_drewN|apply keep_drew|apply keep_alloc|refine keep_far ?_ GW371.out _)|exact HK.out))));have n2_:=aM (KeepBut.trans (by repeat (first|(with_reducible first|exact HK.out|apply KeepBut.set_|apply keep_drewN|apply keep_drew|apply keep_alloc|refine keep_far ?_ GW371.out _)|exact HK.out)) hk (.inl rfl));have n3_:=aM (hb);have n4_:=aM (hi);clear BK371;clear HK;clear HB;clear HI0;have BK371:=n0_;have HO376:=n1_;have HK:=n2_;have HB:=n3_;have HI0:=n4_;clear n0_ n1_ n2_ n3_ n4_;(try clear hb);(try clear hb2);(try clear hk);(try clear hi);(try clear ho0);obtain ⟨Ao8,co8,eo8⟩:=Kd.R_slice HO376.out;subst eo8)|((with_reducible refine gate_dst (N:=3) rfl ?_);refine box_event ?hg (N:=3) ?hd (cs:=#[.int .i64 0,.slice none 0 0]) (t:=48) ?hr ?_;(case hd => rfl);(case hg => rfl);(case hr => first|(go_simp;done)|(go_simp;rfl));intro gb378 hg w9 hbox hb;have n0_:=aM (Kd.R_below (by (with_reducible repeat (first|apply Kd.R_alloc|apply Kd.R_drewN|apply Kd.R_drew));exact HO376.out) hb);have n1_:=aM (IsS82.below (by repeat (first|(with_reducible first|exact HI0.out|apply IsS82.alloc|apply IsS82.drewN|apply IsS82.drew|apply IsS82.set_1|refine IsS82.far ?_ NB0_371.out _)|exact HI0.out)) hb);have n2_:=aM (blk_below (g:=gb371) (o:=.cells #[.int .i64 0,.slice none 0 0] 48 (0,0)) (by (with_reducible repeat (first|refine blk_drewN ?_ _|refine blk_drew ?_|refine blk_alloc ?_ _));exact BK371.out) hb);have n3_:=aM (KeepBut.trans (by repeat (first|(with_reducible first|exact HK.out|apply KeepBut.set_|apply keep_drewN|apply keep_drew|apply keep_alloc|refine keep_far ?_ GW371.out _)|exact HK.out)) (KeepBut.of_below hb g none) (.inl rfl));have n4_:=aM (below_step (by repeat (first|(with_reducible first|exact HB.out|apply bA|apply bN|apply bD|refine below_set ?_ (IsS82.ge HI0.out)|refine below_set ?_ GE371.out)|exact HB.out)) hb);have n5_:=aM (hbox);have n6_:=aM ((by rw [hg];exact (keep_size (w:=w) (g:=g) (row:=none) (by repeat (first|(with_reducible first|exact HK.out|apply KeepBut.set_|apply keep_drewN|apply keep_drew|apply keep_alloc|refine keep_far ?_ GW371.out _)|exact HK.out))) : w.heap.size ≤ gb378));have n7_:=aM ((Nat.le_trans HW0.out (by rw [hg];exact (keep_size (w:=w) (g:=g) (row:=none) (by repeat (first|(with_reducible first|exact HK.out|apply KeepBut.set_|apply keep_drewN|apply keep_drew|apply keep_alloc|refine keep_far ?_ GW371.out _)|exact HK.out))) : w.heap.size ≤ gb378) : w0.heap.size ≤ gb378));have n8_:=aM ((by rw [hg];exact Nat.ne_of_lt (blk_lt (g:=gb371) (o:=.cells #[.int .i64 0,.slice none 0 0] 48 (0,0)) (by (with_reducible repeat (first|refine blk_drewN ?_ _|refine blk_drew ?_|refine blk_alloc ?_ _));exact BK371.out)) : gb371 ≠ gb378));have n9_:=aM ((by rw [hg];exact Nat.ne_of_gt (blk_lt (g:=gb371) (o:=.cells #[.int .i64 0,.slice none 0 0] 48 (0,0)) (by (with_reducible repeat (first|refine blk_drewN ?_ _|refine blk_drew ?_|refine blk_alloc ?_ _));exact BK371.out)) : gb378 ≠ gb371));have n10_:=aM ((by rw [hg];exact Nat.ne_of_lt (IsS82.lt (show IsS82 w0 _ g s0_0 t377 from by repeat (first|(with_reducible first|exact HI0.out|apply IsS82.alloc|apply IsS82.drewN|apply IsS82.drew|apply IsS82.set_1|refine IsS82.far ?_ NB0_371.out _)|exact HI0.out))) : g ≠ gb378));have n11_:=aM ((by rw [hg];exact Nat.ne_of_gt (IsS82.lt (show IsS82 w0 _ g s0_0 t377 from by repeat (first|(with_reducible first|exact HI0.out|apply IsS82.alloc|apply IsS82.drewN|apply IsS82.drew|apply IsS82.set_1|refine IsS82.far ?_ NB0_371.out _)|exact HI0.out))) : gb378 ≠ g));clear HO376;clear HI0;clear BK371;clear HK;clear HB;have HO376:=n0_;have HI0:=n1_;have BK371:=n2_;have HK:=n3_;have HB:=n4_;have BK378:=n5_;have GW378:=n6_;have GE378:=n7_;have NB371_378:=n8_;have NB378_371:=n9_;have NB0_378:=n10_;have NB378_0:=n11_;clear n0_ n1_ n2_ n3_ n4_ n5_ n6_ n7_ n8_ n9_ n10_ n11_;clear hb hbox hg;have hnb10:=NB378_371.out;have hnc10:=NB371_378.out;have hnb11:=NB378_0.out;have hnc11:=NB0_378.out;have hcz12_0 : w9.cell? ⟨gb378,0,none⟩ = some (.int .i64 0):=(blk_cell BK378.out 0).trans rfl;have hcz12_1 : w9.cell? ⟨gb378,1,none⟩ = some (.slice none 0 0):=(blk_cell BK378.out 1).trans rfl;have hfz12_0:=blk_frozen BK378.out 0;have hfz12_1:=blk_frozen BK378.out 1))
 (try simp only [Act.put,sI,sZ,sS])
 go_cut [18] (fun v18 wc => ∃ (kq : Nat) (x18_3 : Bool) (x1001_3 : Int),v18 = .bool x18_3 ∧ Aside0 (spec_l71Vote.j0 kq x18_3 s0_0 x1001_3 (wrap64 (1 + t372)) t374 = some (r1,r2,r3)) ∧ Aside0 (kq ≤ k) ∧ Aside0 (Kd.R k58 58 wc w.heap.size (fun _ => True) (.slice Ao8 t374.length co8) t374) ∧ Aside0 (wc.heap[gb371]? = some (.cells #[.int .i64 0,(.slice none 0 0)] 48 (0,0))) ∧ Aside0 (wc.heap[gb378]? = some (.cells #[.int .i64 (wrap64 (1 + t372)),(.slice Ao8 t374.length co8)] 48 (0,0))) ∧ Aside0 (IsS82 w0 wc g s0_0 x1001_3) ∧ Aside0 (KeepBut w wc g none) ∧ Aside0 (Below w0.heap.size w0 wc))
 case first =>
  have H:=HC4.out
  clear HC4
  by_cases c13 : (t374.length : Int) = 0
  ·rw [if_pos c13] at H
   have c13b0 : ((t374.length : Int) == 0) = true:=beq_iff_eq.mpr c13
   have c13b1 : ((t374.length : Int) != 0) = false:=bne_eq_false_iff_eq.mpr c13
   clear c13
   (first|rw [c13b0]|rw [c13b1]|(simp only [i64_w,i32_w];rw [c13b0])|skip)
   replace H:=Option.bind_eq_some_iff.mp H
   obtain ⟨⟨t379,t380⟩,A140,H⟩:=H
   replace H : (spec_l71Vote.j0 k (decide (t379 > 0)) s0_0 t380 (wrap64 (1 + t372)) t374) = some (r1,r2,r3):=H
   have A14:=aM A140
   clear A140
   have H':=aM H
   clear H
   have hnb15:=NB378_371.out
   have hnc15:=NB371_378.out
   have hnb16:=NB378_0.out
   have hnc16:=NB0_378.out
   have hcz17_0 : w9.cell? ⟨gb378,0,none⟩ = some (.int .i64 0):=(blk_cell BK378.out 0).trans rfl
   have hcz17_1 : w9.cell? ⟨gb378,1,none⟩ = some (.slice none 0 0):=(blk_cell BK378.out 1).trans rfl
   have hfz17_0:=blk_frozen BK378.out 0
   have hfz17_1:=blk_frozen BK378.out 1
   go_wp2_with (first|(go_at_call 59;(with_reducible refine (spec_l6Rd_pick.calls k g s0_0 t377 4 t379 t380 w0 _ ?side1 ?side2 A14.out).mono ?_);(case side1 => repeat (first|(with_reducible first|exact HI0.out|apply IsS82.alloc|apply IsS82.drewN|apply IsS82.drew|apply IsS82.set_1|refine IsS82.far ?_ NB0_371.out _|refine IsS82.far ?_ NB0_378.out _)|exact HI0.out));(case side2 => repeat (first|(with_reducible first|exact HB.out|apply bA|apply bN|apply bD|refine below_set ?_ (IsS82.ge HI0.out)|refine below_set ?_ GE371.out|refine below_set ?_ GE378.out)|exact HB.out));rintro e w18 ⟨rfl,hi,hb,hk⟩;have n0_:=aM (KeepBut.blk hk (g':=gb371) (o:=.cells #[.int .i64 0,.slice none 0 0] 48 (0,0)) (by (with_reducible repeat (first|refine blk_drewN ?_ _|refine blk_drew ?_|refine blk_alloc ?_ _));refine blk_far ?_ NB371_378.out _;(with_reducible repeat (first|refine blk_drewN ?_ _|refine blk_drew ?_|refine blk_alloc ?_ _));refine blk_far ?_ NB371_378.out _;(with_reducible repeat (first|refine blk_drewN ?_ _|refine blk_drew ?_|refine blk_alloc ?_ _));exact BK371.out) NB371_0.out (by simp));have n1_:=aM (Kd.R_mono (Kd.R_keep (IsS82.apart (show IsS82 w0 _ g s0_0 t377 from by repeat (first|(with_reducible first|exact HI0.out|apply IsS82.alloc|apply IsS82.drewN|apply IsS82.drew|apply IsS82.set_1|refine IsS82.far ?_ NB0_371.out _|refine IsS82.far ?_ NB0_378.out _)|exact HI0.out)) (by (with_reducible repeat (first|apply Kd.R_alloc|apply Kd.R_drewN|apply Kd.R_drew));exact (Kd.R_mono (Kd.R_far (p:=⟨gb378,1,none⟩) (Kd.R_far (p:=⟨gb378,0,none⟩) (Kd.R_types HO376.out BK378.out (by decide)) (fun _ hk => hk.2) (.int .i64 (wrap64 (1 + t372)))) (fun _ hk => hk.2) (.slice Ao8 t374.length co8)) (fun _ h_ => h_.1))) (by decide)) hk (fun _ h => h.2)) (fun _ h => h.1));have n2_:=aM (KeepBut.blk hk (g':=gb378) (o:=.cells #[.int .i64 (wrap64 (1 + t372)),.slice Ao8 t374.length co8] 48 (0,0)) (by (with_reducible repeat (first|refine blk_drewN ?_ _|refine blk_drew ?_|refine blk_alloc ?_ _));refine blk_put (cs:=#[.int .i64 (wrap64 (1 + t372)),.slice none 0 0]) ?_ 1 _ rfl;(with_reducible repeat (first|refine blk_drewN ?_ _|refine blk_drew ?_|refine blk_alloc ?_ _));refine blk_put (cs:=#[.int .i64 0,.slice none 0 0]) ?_ 0 _ rfl;(with_reducible repeat (first|refine blk_drewN ?_ _|refine blk_drew ?_|refine blk_alloc ?_ _));exact BK378.out) NB378_0.out (by simp));have n3_:=aM (KeepBut.trans (by repeat (first|(with_reducible first|exact HK.out|apply KeepBut.set_|apply keep_drewN|apply keep_drew|apply keep_alloc|refine keep_far ?_ GW371.out _|refine keep_far ?_ GW378.out _)|exact HK.out)) hk (.inl rfl));have n4_:=aM (hb);have n5_:=aM (hi);clear BK371;clear HO376;clear BK378;clear HK;clear HB;clear HI0;have BK371:=n0_;have HO376:=n1_;have BK378:=n2_;have HK:=n3_;have HB:=n4_;have HI0:=n5_;clear n0_ n1_ n2_ n3_ n4_ n5_;(try clear hb);(try clear hb2);(try clear hk);(try clear hi)))
   go_meet
   case rel => exact ⟨_,(decide (t379 > 0)),(t380),(by first|rfl|(simp;done)|(simp [*];done)),H',⟨by first|omega|exact Nat.le_refl _⟩,⟨by (with_reducible repeat (first|apply Kd.R_alloc|apply Kd.R_drewN|apply Kd.R_drew));exact HO376.out⟩,⟨by (with_reducible repeat (first|refine blk_drewN ?_ _|refine blk_drew ?_|refine blk_alloc ?_ _));exact BK371.out⟩,⟨by (with_reducible repeat (first|refine blk_drewN ?_ _|refine blk_drew ?_|refine blk_alloc ?_ _));exact BK378.out⟩,⟨by repeat (first|(with_reducible first|exact HI0.out|apply IsS82.alloc|apply IsS82.drewN|apply IsS82.drew|apply IsS82.set_1|refine IsS82.far ?_ NB0_371.out _|refine IsS82.far ?_ NB0_378.out _)|exact HI0.out)⟩,⟨by repeat (first|(with_reducible first|exact HK.out|apply KeepBut.set_|apply keep_drewN|apply keep_drew|apply keep_alloc|refine keep_far ?_ GW371.out _|refine keep_far ?_ GW378.out _)|exact HK.out)⟩,⟨by repeat (first|(with_reducible first|exact HB.out|apply bA|apply bN|apply bD|refine below_set ?_ (IsS82.ge HI0.out)|refine below_set ?_ GE371.out|refine below_set ?_ GE378.out)|exact HB.out)⟩⟩
  ·rw [if_neg c13] at H
   have c13b0 : ((t374.length : Int) == 0) = false:=beq_eq_false_iff_ne.mpr c13
   have c13b1 : ((t374.length : Int) != 0) = true:=bne_iff_ne.mpr c13
   have c13b2 : ¬ (t374 = []):=fun h_ => c13 (by rw [h_];rfl)
   (first|rw [c13b0]|rw [c13b1]|(simp only [i64_w,i32_w];rw [c13b0])|skip)
   have H':=aM H
   clear H
   have hnb19:=NB378_371.out
   have hnc19:=NB371_378.out
   have hnb20:=NB378_0.out
   have hnc20:=NB0_378.out
   have hcz21_0 : w9.cell? ⟨gb378,0,none⟩ = some (.int .i64 0):=(blk_cell BK378.out 0).trans rfl
   have hcz21_1 : w9.cell? ⟨gb378,1,none⟩ = some (.slice none 0 0):=(blk_cell BK378.out 1).trans rfl
   have hfz21_0:=blk_frozen BK378.out 0
   have hfz21_1:=blk_frozen BK378.out 1
   go_wp2
   go_meet
   case rel => exact ⟨_,(false),(t377),(by first|rfl|(simp;done)|(simp [*];done)),H',⟨by first|omega|exact Nat.le_refl _⟩,⟨by (with_reducible repeat (first|apply Kd.R_alloc|apply Kd.R_drewN|apply Kd.R_drew));exact Kd.R_mono (Kd.R_far (p:=⟨gb378,1,none⟩) (Kd.R_far (p:=⟨gb378,0,none⟩) (Kd.R_types HO376.out BK378.out (by decide)) (fun _ hk => hk.2) (.int .i64 (wrap64 (1 + t372)))) (fun _ hk => hk.2) (.slice Ao8 t374.length co8)) (fun _ hk => trivial)⟩,⟨by (with_reducible repeat (first|refine blk_drewN ?_ _|refine blk_drew ?_|refine blk_alloc ?_ _));refine blk_far ?_ NB371_378.out _;(with_reducible repeat (first|refine blk_drewN ?_ _|refine blk_drew ?_|refine blk_alloc ?_ _));refine blk_far ?_ NB371_378.out _;(with_reducible repeat (first|refine blk_drewN ?_ _|refine blk_drew ?_|refine blk_alloc ?_ _));exact BK371.out⟩,⟨by (with_reducible repeat (first|refine blk_drewN ?_ _|refine blk_drew ?_|refine blk_alloc ?_ _));refine blk_put (cs:=#[.int .i64 (wrap64 (1 + t372)),.slice none 0 0]) ?_ 1 _ rfl;(with_reducible repeat (first|refine blk_drewN ?_ _|refine blk_drew ?_|refine blk_alloc ?_ _));refine blk_put (cs:=#[.int .i64 0,.slice none 0 0]) ?_ 0 _ rfl;(with_reducible repeat (first|refine blk_drewN ?_ _|refine blk_drew ?_|refine blk_alloc ?_ _));exact BK378.out⟩,⟨by repeat (first|(with_reducible first|exact HI0.out|apply IsS82.alloc|apply IsS82.drewN|apply IsS82.drew|apply IsS82.set_1|refine IsS82.far ?_ NB0_371.out _|refine IsS82.far ?_ NB0_378.out _)|exact HI0.out)⟩,⟨by repeat (first|(with_reducible first|exact HK.out|apply KeepBut.set_|apply keep_drewN|apply keep_drew|apply keep_alloc|refine keep_far ?_ GW371.out _|refine keep_far ?_ GW378.out _)|exact HK.out)⟩,⟨by repeat (first|(with_reducible first|exact HB.out|apply bA|apply bN|apply bD|refine below_set ?_ (IsS82.ge HI0.out)|refine below_set ?_ GE371.out|refine below_set ?_ GE378.out)|exact HB.out)⟩⟩
 case rest =>
  clear HC4
  try clear c1
  try clear c2
  try clear p2
  try clear c5
  try clear c6
  try clear p6
  try clear c10
  try clear c11
  try clear c13
  try clear c13b0
  try clear c13b1
  try clear c13b2
  try clear c15
  try clear c16
  try clear c19
  try clear c20
  try clear hcz12_0
  try clear hcz12_1
  try clear hcz17_0
  try clear hcz17_1
  try clear hcz21_0
  try clear hcz21_1
  try clear hfz12_0
  try clear hfz12_1
  try clear hfz17_0
  try clear hfz17_1
  try clear hfz21_0
  try clear hfz21_1
  obtain ⟨kq,x18_3,x1001_3,rfl,HA,HJ3,HO_379001,BK371,BK378,HI0,HK,HB⟩:=hcut
  cases kq with
  | zero => exact absurd HA.out (by simp [spec_l71Vote.j0])
  | succ kj3 =>
   have H:=HA.out
   clear HA
   simp only [spec_l71Vote.j0] at H
   have HC22:=aM H
   clear H
   go_upto_if 18 with (fail)
   go_cut [] (fun wc => ∃ (kq : Nat) (x1001_21 : Int) (x379001_21 : List (S58)) (u379001 : Value),Aside0 (spec_l71Vote.j1 kq s0_0 x1001_21 (wrap64 (1 + t372)) x379001_21 = some (r1,r2,r3)) ∧ Aside0 (kq ≤ kj3) ∧ Aside0 (Kd.R k58 58 wc w.heap.size (fun _ => True) u379001 x379001_21) ∧ Aside0 (wc.heap[gb371]? = some (.cells #[.int .i64 0,(.slice none 0 0)] 48 (0,0))) ∧ Aside0 (wc.heap[gb378]? = some (.cells #[.int .i64 (wrap64 (1 + t372)),u379001] 48 (0,0))) ∧ Aside0 (IsS82 w0 wc g s0_0 x1001_21) ∧ Aside0 (KeepBut w wc g none) ∧ Aside0 (Below w0.heap.size w0 wc))
   case first =>
    have H:=HC22.out
    clear HC22
    by_cases c23 : x18_3 = true
    ·subst c23
     have H1 : ((spec_l6Rd_pick.f kj3 s0_0 x1001_3 3).bind fun bt381 => ((spec_l71Pay.f kj3 s0_0 bt381.2).bind fun bt383 => (spec_l71Vote.j1 kj3 s0_0 bt383.2.2.2 (wrap64 (1 + t372)) (([(⟨wrap64 (1 + bt381.1),(⟨bt383.1,bt383.2.1,bt383.2.2.1⟩ : S56)⟩ : S58)] : List (S58)))))) = some (r1,r2,r3):=by rw [if_pos rfl] at H;exact H
     clear H
     have H:=H1
     clear H1
     replace H:=Option.bind_eq_some_iff.mp H
     obtain ⟨⟨t381,t382⟩,A240,H⟩:=H
     replace H : ((spec_l71Pay.f kj3 s0_0 t382).bind fun bt383 => (spec_l71Vote.j1 kj3 s0_0 bt383.2.2.2 (wrap64 (1 + t372)) (([(⟨wrap64 (1 + t381),(⟨bt383.1,bt383.2.1,bt383.2.2.1⟩ : S56)⟩ : S58)] : List (S58))))) = some (r1,r2,r3):=H
     have A24:=aM A240
     clear A240
     replace H:=Option.bind_eq_some_iff.mp H
     obtain ⟨⟨t383,t384,t385,t386⟩,A250,H⟩:=H
     replace H : (spec_l71Vote.j1 kj3 s0_0 t386 (wrap64 (1 + t372)) (([(⟨wrap64 (1 + t381),(⟨t383,t384,t385⟩ : S56)⟩ : S58)] : List (S58)))) = some (r1,r2,r3):=H
     have A25:=aM A250
     clear A250
     obtain ⟨y387,hy387⟩ : ∃ y_ : List (S58),y_ = (([(⟨wrap64 (1 + t381),(⟨t383,t384,t385⟩ : S56)⟩ : S58)] : List (S58))):=⟨_,rfl⟩
     replace H : (spec_l71Vote.j1 kj3 s0_0 t386 (wrap64 (1 + t372)) y387) = some (r1,r2,r3):=by first|(rw [hy387];with_reducible exact H)|(have H2_:=(Option.bind_some _ _).symm.trans H;rw [hy387];with_reducible exact H2_)|(have H2_:=(Option.bind_some _ _).symm.trans H;with_reducible exact H2_)|with_reducible exact H|(rw [hy387];exact H)|exact H
     have Ny387:=aM hy387
     clear hy387
     have H':=aM H
     clear H
     go_wp2_with (first|((with_reducible refine gate_callee (f:=59) rfl ?_);refine goesL_ (some 20) rfl rfl Try.func59 (by kernel_rfl) rfl #[.pointer (some ⟨g,0,none⟩),.int .i64 3] rfl (by (try simp only [List.map_toArray,List.map_cons,List.map_nil]);first|done|rfl|(simp only [List.length_drop,List.length_take];rfl)) ?_;(with_reducible refine (spec_l6Rd_pick.calls kj3 g s0_0 x1001_3 3 t381 t382 w0 _ ?side1 ?side2 A24.out).mono ?_);(case side1 => repeat (first|(with_reducible first|exact HI0.out|apply IsS82.alloc|apply IsS82.drewN|apply IsS82.drew|apply IsS82.set_1|refine IsS82.far ?_ NB0_371.out _|refine IsS82.far ?_ NB0_378.out _)|exact HI0.out));(case side2 => repeat (first|(with_reducible first|exact HB.out|apply bA|apply bN|apply bD|refine below_set ?_ (IsS82.ge HI0.out)|refine below_set ?_ GE371.out|refine below_set ?_ GE378.out)|exact HB.out));rintro e w26 ⟨rfl,hi,hb,hk⟩;refine ⟨_,rfl,?_⟩;have n0_:=aM (Kd.R_mono (Kd.R_keep (IsS82.apart (show IsS82 w0 _ g s0_0 x1001_3 from by repeat (first|(with_reducible first|exact HI0.out|apply IsS82.alloc|apply IsS82.drewN|apply IsS82.drew|apply IsS82.set_1|refine IsS82.far ?_ NB0_371.out _|refine IsS82.far ?_ NB0_378.out _)|exact HI0.out)) (by (with_reducible repeat (first|apply Kd.R_alloc|apply Kd.R_drewN|apply Kd.R_drew));exact HO_379001.out) (by decide)) hk (fun _ h => h.2)) (fun _ h => h.1));have n1_:=aM (KeepBut.blk hk (g':=gb371) (o:=.cells #[.int .i64 0,.slice none 0 0] 48 (0,0)) (by (with_reducible repeat (first|refine blk_drewN ?_ _|refine blk_drew ?_|refine blk_alloc ?_ _));exact BK371.out) NB371_0.out (by simp));have n2_:=aM (KeepBut.blk hk (g':=gb378) (o:=.cells #[.int .i64 (wrap64 (1 + t372)),.slice Ao8 t374.length co8] 48 (0,0)) (by (with_reducible repeat (first|refine blk_drewN ?_ _|refine blk_drew ?_|refine blk_alloc ?_ _));exact BK378.out) NB378_0.out (by simp));have n3_:=aM (KeepBut.trans (by repeat (first|(with_reducible first|exact HK.out|apply KeepBut.set_|apply keep_drewN|apply keep_drew|apply keep_alloc|refine keep_far ?_ GW371.out _|refine keep_far ?_ GW378.out _)|exact HK.out)) hk (.inl rfl));have n4_:=aM (hb);have n5_:=aM (hi);clear HO_379001;clear BK371;clear BK378;clear HK;clear HB;clear HI0;have HO_379001:=n0_;have BK371:=n1_;have BK378:=n2_;have HK:=n3_;have HB:=n4_;have HI0:=n5_;clear n0_ n1_ n2_ n3_ n4_ n5_;(try clear hb);(try clear hb2);(try clear hk);(try clear hi))|((with_reducible refine gate_callee (f:=75) rfl ?_);refine goesL_ (some 23) rfl rfl Try.func75 (by kernel_rfl) rfl #[.pointer (some ⟨g,0,none⟩)] rfl (by (try simp only [List.map_toArray,List.map_cons,List.map_nil]);first|done|rfl|(simp only [List.length_drop,List.length_take];rfl)) ?_;(with_reducible refine (spec_l71Pay.calls kj3 g s0_0 t382 t383 t384 t385 t386 w0 _ ?side1 ?side2 A25.out).mono ?_);(case side1 => repeat (first|(with_reducible first|exact HI0.out|apply IsS82.alloc|apply IsS82.drewN|apply IsS82.drew|apply IsS82.set_1|refine IsS82.far ?_ NB0_371.out _|refine IsS82.far ?_ NB0_378.out _)|exact HI0.out));(case side2 => repeat (first|(with_reducible first|exact HB.out|apply bA|apply bN|apply bD|refine below_set ?_ (IsS82.ge HI0.out)|refine below_set ?_ GE371.out|refine below_set ?_ GE378.out)|exact HB.out));rintro e w27 ⟨rfl,hi,hb,hk⟩;refine ⟨_,rfl,?_⟩;have n0_:=aM (Kd.R_mono (Kd.R_keep (IsS82.apart (show IsS82 w0 _ g s0_0 t382 from by repeat (first|(with_reducible first|exact HI0.out|apply IsS82.alloc|apply IsS82.drewN|apply IsS82.drew|apply IsS82.set_1|refine IsS82.far ?_ NB0_371.out _|refine IsS82.far ?_ NB0_378.out _)|exact HI0.out)) (by (with_reducible repeat (first|apply Kd.R_alloc|apply Kd.R_drewN|apply Kd.R_drew));exact HO_379001.out) (by decide)) hk (fun _ h => h.2)) (fun _ h => h.1));have n1_:=aM (KeepBut.blk hk (g':=gb371) (o:=.cells #[.int .i64 0,.slice none 0 0] 48 (0,0)) (by (with_reducible repeat (first|refine blk_drewN ?_ _|refine blk_drew ?_|refine blk_alloc ?_ _));exact BK371.out) NB371_0.out (by simp));have n2_:=aM (KeepBut.blk hk (g':=gb378) (o:=.cells #[.int .i64 (wrap64 (1 + t372)),.slice Ao8 t374.length co8] 48 (0,0)) (by (with_reducible repeat (first|refine blk_drewN ?_ _|refine blk_drew ?_|refine blk_alloc ?_ _));exact BK378.out) NB378_0.out (by simp));have n3_:=aM (KeepBut.trans (by repeat (first|(with_reducible first|exact HK.out|apply KeepBut.set_|apply keep_drewN|apply keep_drew|apply keep_alloc|refine keep_far ?_ GW371.out _|refine keep_far ?_ GW378.out _)|exact HK.out)) hk (.inl rfl));have n4_:=aM (hb);have n5_:=aM (hi);clear HO_379001;clear BK371;clear BK378;clear HK;clear HB;clear HI0;have HO_379001:=n0_;have BK371:=n1_;have BK378:=n2_;have HK:=n3_;have HB:=n4_;have HI0:=n5_;clear n0_ n1_ n2_ n3_ n4_ n5_;(try clear hb);(try clear hb2);(try clear hk);(try clear hi))|((with_reducible refine gate_dst (N:=25) rfl ?_);refine Kd.R_lit k58 _ 58 ?hg (N:=25) ?hd (xs:=([(⟨wrap64 (1 + t381),(⟨t383,t384,t385⟩ : S56)⟩ : S58)] : List (S58))) (inner:=[.int .i64 (wrap64 (1 + t381)),.int .i64 t383,.int .i64 t384,.int .i64 t385]) (ok:=fun _ => True) (okp:=fun _ => True) ?hr ?hp (fun _ hk => hk) trivial (Below.refl _ _) (Nat.le_refl _) (by simp) ?_;(case hd => rfl);(case hg => rfl);(case hr => first|(go_simp;done)|(go_simp;rfl));(case hp => exact (Reps.c4 (show Kd.M k58 _ _ _ (⟨wrap64 (1 + t381),(⟨t383,t384,t385⟩ : S56)⟩ : S58) [.int .i64 (wrap64 (1 + t381)),.int .i64 t383,.int .i64 t384,.int .i64 t385] from (k58_mkM _ _ _ (⟨wrap64 (1 + t381),(⟨t383,t384,t385⟩ : S56)⟩ : S58) )) (Reps.none _ _)));intro v388 w28 ho29 hb hg_ hnew_;clear hg_ hnew_;(first|rw [← Ny387.out] at ho29|(simp only [Int.reduceToNat] at ho29;rw [← Ny387.out] at ho29));have n0_:=aM (Kd.R_elder' (by (with_reducible repeat (first|apply Kd.R_alloc|apply Kd.R_drewN|apply Kd.R_drew));exact HO_379001.out) (Kd.R_base ho29) hb);have n1_:=aM (Kd.R_lower (Kd.R_new' ho29 (Kd.R_lt (by (with_reducible repeat (first|apply Kd.R_alloc|apply Kd.R_drewN|apply Kd.R_drew));exact HO_379001.out))) (keep_size (w:=w) (g:=g) (row:=none) (by repeat (first|(with_reducible first|exact HK.out|apply KeepBut.set_|apply keep_drewN|apply keep_drew|apply keep_alloc|refine keep_far ?_ GW371.out _|refine keep_far ?_ GW378.out _)|exact HK.out))));have n2_:=aM (blk_below (g:=gb371) (o:=.cells #[.int .i64 0,.slice none 0 0] 48 (0,0)) (by (with_reducible repeat (first|refine blk_drewN ?_ _|refine blk_drew ?_|refine blk_alloc ?_ _));exact BK371.out) hb);have n3_:=aM (blk_below (g:=gb378) (o:=.cells #[.int .i64 (wrap64 (1 + t372)),.slice Ao8 t374.length co8] 48 (0,0)) (by (with_reducible repeat (first|refine blk_drewN ?_ _|refine blk_drew ?_|refine blk_alloc ?_ _));exact BK378.out) hb);have n4_:=aM (IsS82.below (by repeat (first|(with_reducible first|exact HI0.out|apply IsS82.alloc|apply IsS82.drewN|apply IsS82.drew|apply IsS82.set_1|refine IsS82.far ?_ NB0_371.out _|refine IsS82.far ?_ NB0_378.out _)|exact HI0.out)) hb);have n5_:=aM (KeepBut.trans (by repeat (first|(with_reducible first|exact HK.out|apply KeepBut.set_|apply keep_drewN|apply keep_drew|apply keep_alloc|refine keep_far ?_ GW371.out _|refine keep_far ?_ GW378.out _)|exact HK.out)) (KeepBut.of_below hb g none) (.inl rfl));have n6_:=aM (below_step (by repeat (first|(with_reducible first|exact HB.out|apply bA|apply bN|apply bD|refine below_set ?_ (IsS82.ge HI0.out)|refine below_set ?_ GE371.out|refine below_set ?_ GE378.out)|exact HB.out)) hb);clear HO_379001;clear BK371;clear BK378;clear HI0;clear HK;clear HB;have HO_379001:=n0_;have HO389:=n1_;have BK371:=n2_;have BK378:=n3_;have HI0:=n4_;have HK:=n5_;have HB:=n6_;clear n0_ n1_ n2_ n3_ n4_ n5_ n6_;clear hb ho29;obtain ⟨Ao30,co30,eo30⟩:=Kd.R_slice HO389.out;subst eo30;have hnb31:=NB378_371.out;have hnc31:=NB371_378.out;have hnb32:=NB378_0.out;have hnc32:=NB0_378.out;have hcz33_0 : w28.cell? ⟨gb378,0,none⟩ = some (.int .i64 (wrap64 (1 + t372))):=(blk_cell BK378.out 0).trans rfl;have hcz33_1 : w28.cell? ⟨gb378,1,none⟩ = some (.slice Ao8 t374.length co8):=(blk_cell BK378.out 1).trans rfl;have hfz33_0:=blk_frozen BK378.out 0;have hfz33_1:=blk_frozen BK378.out 1))
     go_meet
     case rel => exact ⟨_,(t386),(y387),(.slice Ao30 y387.length co30),H',⟨by have:=HJ3.out;first|omega|exact Nat.le_refl _⟩,⟨by (with_reducible repeat (first|apply Kd.R_alloc|apply Kd.R_drewN|apply Kd.R_drew));exact Kd.R_mono (Kd.R_far (p:=⟨gb378,1,none⟩) (Kd.R_types HO389.out BK378.out (by decide)) (fun _ hk => hk.2) (.slice Ao30 y387.length co30)) (fun _ hk => trivial)⟩,⟨by (with_reducible repeat (first|refine blk_drewN ?_ _|refine blk_drew ?_|refine blk_alloc ?_ _));refine blk_far ?_ NB371_378.out _;(with_reducible repeat (first|refine blk_drewN ?_ _|refine blk_drew ?_|refine blk_alloc ?_ _));exact BK371.out⟩,⟨by (with_reducible repeat (first|refine blk_drewN ?_ _|refine blk_drew ?_|refine blk_alloc ?_ _));refine blk_put (cs:=#[.int .i64 (wrap64 (1 + t372)),.slice Ao8 t374.length co8]) ?_ 1 _ rfl;(with_reducible repeat (first|refine blk_drewN ?_ _|refine blk_drew ?_|refine blk_alloc ?_ _));exact BK378.out⟩,⟨by repeat (first|(with_reducible first|exact HI0.out|apply IsS82.alloc|apply IsS82.drewN|apply IsS82.drew|apply IsS82.set_1|refine IsS82.far ?_ NB0_371.out _|refine IsS82.far ?_ NB0_378.out _)|exact HI0.out)⟩,⟨by repeat (first|(with_reducible first|exact HK.out|apply KeepBut.set_|apply keep_drewN|apply keep_drew|apply keep_alloc|refine keep_far ?_ GW371.out _|refine keep_far ?_ GW378.out _)|exact HK.out)⟩,⟨by repeat (first|(with_reducible first|exact HB.out|apply bA|apply bN|apply bD|refine below_set ?_ (IsS82.ge HI0.out)|refine below_set ?_ GE371.out|refine below_set ?_ GE378.out)|exact HB.out)⟩⟩
    ·replace c23:=Bool.eq_false_iff.mpr c23
     subst c23
     have H1 : (spec_l71Vote.j1 kj3 s0_0 x1001_3 (wrap64 (1 + t372)) t374) = some (r1,r2,r3):=by rw [if_neg (show ¬ (false = true) by decide)] at H;exact H
     clear H
     have H:=H1
     clear H1
     have H':=aM H
     clear H
     go_wp2
     go_meet
     case rel => exact ⟨_,(x1001_3),(t374),(.slice Ao8 t374.length co8),H',⟨by have:=HJ3.out;first|omega|exact Nat.le_refl _⟩,⟨by (with_reducible repeat (first|apply Kd.R_alloc|apply Kd.R_drewN|apply Kd.R_drew));exact HO_379001.out⟩,⟨by (with_reducible repeat (first|refine blk_drewN ?_ _|refine blk_drew ?_|refine blk_alloc ?_ _));exact BK371.out⟩,⟨by (with_reducible repeat (first|refine blk_drewN ?_ _|refine blk_drew ?_|refine blk_alloc ?_ _));exact BK378.out⟩,⟨by repeat (first|(with_reducible first|exact HI0.out|apply IsS82.alloc|apply IsS82.drewN|apply IsS82.drew|apply IsS82.set_1|refine IsS82.far ?_ NB0_371.out _|refine IsS82.far ?_ NB0_378.out _)|exact HI0.out)⟩,⟨by repeat (first|(with_reducible first|exact HK.out|apply KeepBut.set_|apply keep_drewN|apply keep_drew|apply keep_alloc|refine keep_far ?_ GW371.out _|refine keep_far ?_ GW378.out _)|exact HK.out)⟩,⟨by repeat (first|(with_reducible first|exact HB.out|apply bA|apply bN|apply bD|refine below_set ?_ (IsS82.ge HI0.out)|refine below_set ?_ GE371.out|refine below_set ?_ GE378.out)|exact HB.out)⟩⟩
   case rest =>
    clear HC22
    try clear c1
    try clear c2
    try clear p2
    try clear c3
    try clear c4
    try clear c5
    try clear c6
    try clear p6
    try clear c7
    try clear c10
    try clear c11
    try clear c13
    try clear c13b0
    try clear c13b1
    try clear c13b2
    try clear c15
    try clear c16
    try clear c19
    try clear c20
    try clear c23
    try clear c31
    try clear c32
    try clear hcz12_0
    try clear hcz12_1
    try clear hcz17_0
    try clear hcz17_1
    try clear hcz21_0
    try clear hcz21_1
    try clear hcz33_0
    try clear hcz33_1
    try clear hfz12_0
    try clear hfz12_1
    try clear hfz17_0
    try clear hfz17_1
    try clear hfz21_0
    try clear hfz21_1
    try clear hfz33_0
    try clear hfz33_1
    try clear p2
    try clear p6
    obtain ⟨kq,x1001_21,x379001_21,u379001,HA,HJ21,HO_379001,BK371,BK378,HI0,HK,HB⟩:=hcut
    cases kq with
    | zero => exact absurd HA.out (by simp [spec_l71Vote.j1])
    | succ kj21 =>
     have H:=HA.out
     clear HA
     simp only [spec_l71Vote.j1] at H
     replace H:=Option.bind_eq_some_iff.mp H
     obtain ⟨⟨t390,t391⟩,A340,H⟩:=H
     replace H : (if t390 = 0 then ((some (([0,5] : List Int) : List Int)).bind fun y392 => ((spec_l6Rd_pick.f kj21 s0_0 t391 2).bind fun bt395 => (if 0 ≤ bt395.1 then (if bt395.1 < (y392.length : Int) then (some (rd y392 bt395.1,x379001_21,bt395.2)) else (none)) else (none)))) else (some ((wrap64 (1 + t372)),x379001_21,t391))) = some (r1,r2,r3):=H
     have A34:=aM A340
     clear A340
     by_cases c35 : t390 = 0
     ·rw [if_pos c35] at H
      have c35b0 : (t390 == 0) = true:=beq_iff_eq.mpr c35
      have c35b1 : (t390 != 0) = false:=bne_eq_false_iff_eq.mpr c35
      clear c35
      obtain ⟨y392,hy392⟩ : ∃ y_ : List Int,y_ = (([0,5] : List Int)):=⟨_,rfl⟩
      replace H : ((spec_l6Rd_pick.f kj21 s0_0 t391 2).bind fun bt395 => (if 0 ≤ bt395.1 then (if bt395.1 < (y392.length : Int) then (some (rd y392 bt395.1,x379001_21,bt395.2)) else (none)) else (none))) = some (r1,r2,r3):=by first|(rw [hy392];with_reducible exact H)|(have H2_:=(Option.bind_some _ _).symm.trans H;rw [hy392];with_reducible exact H2_)|(have H2_:=(Option.bind_some _ _).symm.trans H;with_reducible exact H2_)|with_reducible exact H|(rw [hy392];exact H)|exact H
      have Ny392:=aM hy392
      clear hy392
      replace H:=Option.bind_eq_some_iff.mp H
      obtain ⟨⟨t395,t396⟩,A360,H⟩:=H
      replace H : (if 0 ≤ t395 then (if t395 < (y392.length : Int) then (some (rd y392 t395,x379001_21,t396)) else (none)) else (none)) = some (r1,r2,r3):=H
      have A36:=aM A360
      clear A360
      by_cases c37 : 0 ≤ t395
      case neg => rw [if_neg c37] at H;exact absurd H (by simp)
      rw [if_pos c37] at H
      have c37b0 : decide (0 ≤ t395) = true:=decide_eq_true c37
      clear c37
      by_cases c38 : t395 < (y392.length : Int)
      case neg => rw [if_neg c38] at H;exact absurd H (by simp)
      rw [if_pos c38] at H
      have c38b0 : decide (t395 < (y392.length : Int)) = true:=decide_eq_true c38
      clear c38
      simp only [Option.some.injEq,Prod.mk.injEq] at H
      obtain ⟨rfl,rfl,rfl⟩:=H
      go_wp2_with (first|((with_reducible refine gate_callee (f:=59) rfl ?_);refine goesL_ (some 28) rfl rfl Try.func59 (by kernel_rfl) rfl #[.pointer (some ⟨g,0,none⟩),.int .i64 16] rfl (by (try simp only [List.map_toArray,List.map_cons,List.map_nil]);first|done|rfl|(simp only [List.length_drop,List.length_take];rfl)) ?_;(with_reducible refine (spec_l6Rd_pick.calls kj21 g s0_0 x1001_21 16 t390 t391 w0 _ ?side1 ?side2 A34.out).mono ?_);(case side1 => repeat (first|(with_reducible first|exact HI0.out|apply IsS82.alloc|apply IsS82.drewN|apply IsS82.drew|apply IsS82.set_1|refine IsS82.far ?_ NB0_371.out _|refine IsS82.far ?_ NB0_378.out _)|exact HI0.out));(case side2 => repeat (first|(with_reducible first|exact HB.out|apply bA|apply bN|apply bD|refine below_set ?_ (IsS82.ge HI0.out)|refine below_set ?_ GE371.out|refine below_set ?_ GE378.out)|exact HB.out));rintro e w39 ⟨rfl,hi,hb,hk⟩;refine ⟨_,rfl,?_⟩;have n0_:=aM (Kd.R_mono (Kd.R_keep (IsS82.apart (show IsS82 w0 _ g s0_0 x1001_21 from by repeat (first|(with_reducible first|exact HI0.out|apply IsS82.alloc|apply IsS82.drewN|apply IsS82.drew|apply IsS82.set_1|refine IsS82.far ?_ NB0_371.out _|refine IsS82.far ?_ NB0_378.out _)|exact HI0.out)) (by (with_reducible repeat (first|apply Kd.R_alloc|apply Kd.R_drewN|apply Kd.R_drew));exact HO_379001.out) (by decide)) hk (fun _ h => h.2)) (fun _ h => h.1));have n1_:=aM (KeepBut.blk hk (g':=gb371) (o:=.cells #[.int .i64 0,.slice none 0 0] 48 (0,0)) (by (with_reducible repeat (first|refine blk_drewN ?_ _|refine blk_drew ?_|refine blk_alloc ?_ _));exact BK371.out) NB371_0.out (by simp));have n2_:=aM (KeepBut.blk hk (g':=gb378) (o:=.cells #[.int .i64 (wrap64 (1 + t372)),u379001] 48 (0,0)) (by (with_reducible repeat (first|refine blk_drewN ?_ _|refine blk_drew ?_|refine blk_alloc ?_ _));exact BK378.out) NB378_0.out (by simp));have n3_:=aM (KeepBut.trans (by repeat (first|(with_reducible first|exact HK.out|apply KeepBut.set_|apply keep_drewN|apply keep_drew|apply keep_alloc|refine keep_far ?_ GW371.out _|refine keep_far ?_ GW378.out _)|exact HK.out)) hk (.inl rfl));have n4_:=aM (hb);have n5_:=aM (hi);clear HO_379001;clear BK371;clear BK378;clear HK;clear HB;clear HI0;have HO_379001:=n0_;have BK371:=n1_;have BK378:=n2_;have HK:=n3_;have HB:=n4_;have HI0:=n5_;clear n0_ n1_ n2_ n3_ n4_ n5_;(try clear hb);(try clear hb2);(try clear hk);(try clear hi))|((with_reducible refine gate_dst (N:=30) rfl ?_);refine Kd.R_lit (Kd.int .i64) _ 3 ?hg (N:=30) ?hd (xs:=([0,5] : List Int)) (inner:=[.int .i64 0,.int .i64 5]) (ok:=fun _ => True) (okp:=fun _ => True) ?hr ?hp (fun _ hk => hk) trivial (Below.refl _ _) (Nat.le_refl _) (by simp) ?_;(case hd => rfl);(case hg => rfl);(case hr => first|(go_simp;done)|(go_simp;rfl));(case hp => exact (Reps.one (show Kd.M (Kd.int .i64) _ _ _ 0 [.int .i64 0] from rfl) (Reps.one (show Kd.M (Kd.int .i64) _ _ _ 5 [.int .i64 5] from rfl) (Reps.none _ _))));intro v393 w40 ho41 hb hg_ hnew_;clear hg_ hnew_;(first|rw [← Ny392.out] at ho41|(simp only [Int.reduceToNat] at ho41;rw [← Ny392.out] at ho41));have n0_:=aM (Kd.R_below (by (with_reducible repeat (first|apply Kd.R_alloc|apply Kd.R_drewN|apply Kd.R_drew));exact HO_379001.out) hb);have n1_:=aM (Kd.R_lower ho41 (keep_size (w:=w) (g:=g) (row:=none) (by repeat (first|(with_reducible first|exact HK.out|apply KeepBut.set_|apply keep_drewN|apply keep_drew|apply keep_alloc|refine keep_far ?_ GW371.out _|refine keep_far ?_ GW378.out _)|exact HK.out))));have n2_:=aM (blk_below (g:=gb371) (o:=.cells #[.int .i64 0,.slice none 0 0] 48 (0,0)) (by (with_reducible repeat (first|refine blk_drewN ?_ _|refine blk_drew ?_|refine blk_alloc ?_ _));exact BK371.out) hb);have n3_:=aM (blk_below (g:=gb378) (o:=.cells #[.int .i64 (wrap64 (1 + t372)),u379001] 48 (0,0)) (by (with_reducible repeat (first|refine blk_drewN ?_ _|refine blk_drew ?_|refine blk_alloc ?_ _));exact BK378.out) hb);have n4_:=aM (IsS82.below (by repeat (first|(with_reducible first|exact HI0.out|apply IsS82.alloc|apply IsS82.drewN|apply IsS82.drew|apply IsS82.set_1|refine IsS82.far ?_ NB0_371.out _|refine IsS82.far ?_ NB0_378.out _)|exact HI0.out)) hb);have n5_:=aM (KeepBut.trans (by repeat (first|(with_reducible first|exact HK.out|apply KeepBut.set_|apply keep_drewN|apply keep_drew|apply keep_alloc|refine keep_far ?_ GW371.out _|refine keep_far ?_ GW378.out _)|exact HK.out)) (KeepBut.of_below hb g none) (.inl rfl));have n6_:=aM (below_step (by repeat (first|(with_reducible first|exact HB.out|apply bA|apply bN|apply bD|refine below_set ?_ (IsS82.ge HI0.out)|refine below_set ?_ GE371.out|refine below_set ?_ GE378.out)|exact HB.out)) hb);clear HO_379001;clear BK371;clear BK378;clear HI0;clear HK;clear HB;have HO_379001:=n0_;have HO394:=n1_;have BK371:=n2_;have BK378:=n3_;have HI0:=n4_;have HK:=n5_;have HB:=n6_;clear n0_ n1_ n2_ n3_ n4_ n5_ n6_;clear hb ho41)|((with_reducible refine gate_callee (f:=59) rfl ?_);refine goesL_ (some 32) rfl rfl Try.func59 (by kernel_rfl) rfl #[.pointer (some ⟨g,0,none⟩),.int .i64 2] rfl (by (try simp only [List.map_toArray,List.map_cons,List.map_nil]);first|done|rfl|(simp only [List.length_drop,List.length_take];rfl)) ?_;(with_reducible refine (spec_l6Rd_pick.calls kj21 g s0_0 t391 2 t395 t396 w0 _ ?side1 ?side2 A36.out).mono ?_);(case side1 => repeat (first|(with_reducible first|exact HI0.out|apply IsS82.alloc|apply IsS82.drewN|apply IsS82.drew|apply IsS82.set_1|refine IsS82.far ?_ NB0_371.out _|refine IsS82.far ?_ NB0_378.out _)|exact HI0.out));(case side2 => repeat (first|(with_reducible first|exact HB.out|apply bA|apply bN|apply bD|refine below_set ?_ (IsS82.ge HI0.out)|refine below_set ?_ GE371.out|refine below_set ?_ GE378.out)|exact HB.out));rintro e w42 ⟨rfl,hi,hb,hk⟩;refine ⟨_,rfl,?_⟩;have n0_:=aM (Kd.R_mono (Kd.R_keep (IsS82.apart (show IsS82 w0 _ g s0_0 t391 from by repeat (first|(with_reducible first|exact HI0.out|apply IsS82.alloc|apply IsS82.drewN|apply IsS82.drew|apply IsS82.set_1|refine IsS82.far ?_ NB0_371.out _|refine IsS82.far ?_ NB0_378.out _)|exact HI0.out)) (by (with_reducible repeat (first|apply Kd.R_alloc|apply Kd.R_drewN|apply Kd.R_drew));exact HO_379001.out) (by decide)) hk (fun _ h => h.2)) (fun _ h => h.1));have n1_:=aM (KeepBut.blk hk (g':=gb371) (o:=.cells #[.int .i64 0,.slice none 0 0] 48 (0,0)) (by (with_reducible repeat (first|refine blk_drewN ?_ _|refine blk_drew ?_|refine blk_alloc ?_ _));exact BK371.out) NB371_0.out (by simp));have n2_:=aM (KeepBut.blk hk (g':=gb378) (o:=.cells #[.int .i64 (wrap64 (1 + t372)),u379001] 48 (0,0)) (by (with_reducible repeat (first|refine blk_drewN ?_ _|refine blk_drew ?_|refine blk_alloc ?_ _));exact BK378.out) NB378_0.out (by simp));have n3_:=aM (Kd.R_mono (Kd.R_keep (IsS82.apart (show IsS82 w0 _ g s0_0 t391 from by repeat (first|(with_reducible first|exact HI0.out|apply IsS82.alloc|apply IsS82.drewN|apply IsS82.drew|apply IsS82.set_1|refine IsS82.far ?_ NB0_371.out _|refine IsS82.far ?_ NB0_378.out _)|exact HI0.out)) (by (with_reducible repeat (first|apply Kd.R_alloc|apply Kd.R_drewN|apply Kd.R_drew));exact HO394.out) (by decide)) hk (fun _ h => h.2)) (fun _ h => h.1));have n4_:=aM (KeepBut.trans (by repeat (first|(with_reducible first|exact HK.out|apply KeepBut.set_|apply keep_drewN|apply keep_drew|apply keep_alloc|refine keep_far ?_ GW371.out _|refine keep_far ?_ GW378.out _)|exact HK.out)) hk (.inl rfl));have n5_:=aM (hb);have n6_:=aM (hi);clear HO_379001;clear BK371;clear BK378;clear HO394;clear HK;clear HB;clear HI0;have HO_379001:=n0_;have BK371:=n1_;have BK378:=n2_;have HO394:=n3_;have HK:=n4_;have HB:=n5_;have HI0:=n6_;clear n0_ n1_ n2_ n3_ n4_ n5_ n6_;(try clear hb);(try clear hb2);(try clear hk);(try clear hi);obtain ⟨Ao43,co43,eo43⟩:=Kd.R_slice HO394.out;subst eo43;have p397 : 0 ≤ (t395 : Int):=of_decide_eq_true (by first|(with_reducible assumption)|assumption);have q397 : t395 < (y392.length : Int):=of_decide_eq_true (by first|(with_reducible assumption)|assumption);obtain ⟨ad397,e397,hx397_0⟩:=Kd.at_int (Kd.R_reads' HO394.out).2.2 t395 p397 q397;cases e397;replace p397:=eq_true p397;replace q397:=eq_true q397;have hnb44:=NB378_371.out;have hnc44:=NB371_378.out;have hnb45:=NB378_0.out;have hnc45:=NB0_378.out;have hcz46_0 : w42.cell? ⟨gb378,0,none⟩ = some (.int .i64 (wrap64 (1 + t372))):=(blk_cell BK378.out 0).trans rfl;have hcz46_1 : w42.cell? ⟨gb378,1,none⟩ = some (u379001):=(blk_cell BK378.out 1).trans rfl;have hfz46_0:=blk_frozen BK378.out 0;have hfz46_1:=blk_frozen BK378.out 1;have hnb47:=NB371_0.out;have hnc47:=NB0_371.out;have hcz48_0 : w42.cell? ⟨gb371,0,none⟩ = some (.int .i64 0):=(blk_cell BK371.out 0).trans rfl;have hcz48_1 : w42.cell? ⟨gb371,1,none⟩ = some (.slice none 0 0):=(blk_cell BK371.out 1).trans rfl;have hfz48_0:=blk_frozen BK371.out 0;have hfz48_1:=blk_frozen BK371.out 1;obtain ⟨Ao49,co49,eo49⟩:=Kd.R_slice HO_379001.out;subst eo49))
      refine bodyPost_ret (results_cell_row rfl _ _ gb371 48 #[.int .i64 (rd y392 t395),.slice Ao49 x379001_21.length co49] (0,0) _ rfl (by (with_reducible repeat (first|refine blk_drewN ?_ _|refine blk_drew ?_|refine blk_alloc ?_ _));refine blk_put (cs:=#[.int .i64 (rd y392 t395),.slice none 0 0]) ?_ 1 _ rfl;(with_reducible repeat (first|refine blk_drewN ?_ _|refine blk_drew ?_|refine blk_alloc ?_ _));refine blk_put (cs:=#[.int .i64 0,.slice none 0 0]) ?_ 0 _ rfl;(with_reducible repeat (first|refine blk_drewN ?_ _|refine blk_drew ?_|refine blk_alloc ?_ _));refine blk_far ?_ NB371_378.out _;(with_reducible repeat (first|refine blk_drewN ?_ _|refine blk_drew ?_|refine blk_alloc ?_ _));exact BK371.out) Try.underlying48 rfl (by kernel_rfl)) rfl ?_
      exact ⟨_,by first|rfl|(simp only [i64_w,i32_w];done)|(simp only [i64_w,i32_w];rfl)|(simp [errW_none,errW_some] <;> rfl)|(simp [*,errW_none,errW_some] <;> rfl),by (with_reducible repeat (first|apply Kd.R_alloc|apply Kd.R_drewN|apply Kd.R_drew));exact Kd.R_mono (Kd.R_far (p:=⟨gb371,1,none⟩) (Kd.R_far (p:=⟨gb371,0,none⟩) (Kd.R_far (p:=⟨gb378,0,none⟩) (Kd.R_types (Kd.R_types HO_379001.out BK378.out (by decide)) BK371.out (by decide)) (fun _ hk => hk.1.2) (.int .i64 (rd y392 t395))) (fun _ hk => hk.2) (.int .i64 (rd y392 t395))) (fun _ hk => hk.2) (.slice Ao49 x379001_21.length co49)) (fun _ hk => trivial),by repeat (first|(with_reducible first|exact HI0.out|apply IsS82.alloc|apply IsS82.drewN|apply IsS82.drew|apply IsS82.set_1|refine IsS82.far ?_ NB0_371.out _|refine IsS82.far ?_ NB0_378.out _)|exact HI0.out),by repeat (first|(with_reducible first|exact HB.out|apply bA|apply bN|apply bD|refine below_set ?_ (IsS82.ge HI0.out)|refine below_set ?_ GE371.out|refine below_set ?_ GE378.out)|exact HB.out),by repeat (first|(with_reducible first|exact HK.out|apply KeepBut.set_|apply keep_drewN|apply keep_drew|apply keep_alloc|refine keep_far ?_ GW371.out _|refine keep_far ?_ GW378.out _)|exact HK.out)⟩
     ·rw [if_neg c35] at H
      have c35b0 : (t390 == 0) = false:=beq_eq_false_iff_ne.mpr c35
      have c35b1 : (t390 != 0) = true:=bne_iff_ne.mpr c35
      simp only [Option.some.injEq,Prod.mk.injEq] at H
      obtain ⟨rfl,rfl,rfl⟩:=H
      go_wp2_with (first|((with_reducible refine gate_callee (f:=59) rfl ?_);refine goesL_ (some 28) rfl rfl Try.func59 (by kernel_rfl) rfl #[.pointer (some ⟨g,0,none⟩),.int .i64 16] rfl (by (try simp only [List.map_toArray,List.map_cons,List.map_nil]);first|done|rfl|(simp only [List.length_drop,List.length_take];rfl)) ?_;(with_reducible refine (spec_l6Rd_pick.calls kj21 g s0_0 x1001_21 16 t390 t391 w0 _ ?side1 ?side2 A34.out).mono ?_);(case side1 => repeat (first|(with_reducible first|exact HI0.out|apply IsS82.alloc|apply IsS82.drewN|apply IsS82.drew|apply IsS82.set_1|refine IsS82.far ?_ NB0_371.out _|refine IsS82.far ?_ NB0_378.out _)|exact HI0.out));(case side2 => repeat (first|(with_reducible first|exact HB.out|apply bA|apply bN|apply bD|refine below_set ?_ (IsS82.ge HI0.out)|refine below_set ?_ GE371.out|refine below_set ?_ GE378.out)|exact HB.out));rintro e w50 ⟨rfl,hi,hb,hk⟩;refine ⟨_,rfl,?_⟩;have n0_:=aM (Kd.R_mono (Kd.R_keep (IsS82.apart (show IsS82 w0 _ g s0_0 x1001_21 from by repeat (first|(with_reducible first|exact HI0.out|apply IsS82.alloc|apply IsS82.drewN|apply IsS82.drew|apply IsS82.set_1|refine IsS82.far ?_ NB0_371.out _|refine IsS82.far ?_ NB0_378.out _)|exact HI0.out)) (by (with_reducible repeat (first|apply Kd.R_alloc|apply Kd.R_drewN|apply Kd.R_drew));exact HO_379001.out) (by decide)) hk (fun _ h => h.2)) (fun _ h => h.1));have n1_:=aM (KeepBut.blk hk (g':=gb371) (o:=.cells #[.int .i64 0,.slice none 0 0] 48 (0,0)) (by (with_reducible repeat (first|refine blk_drewN ?_ _|refine blk_drew ?_|refine blk_alloc ?_ _));exact BK371.out) NB371_0.out (by simp));have n2_:=aM (KeepBut.blk hk (g':=gb378) (o:=.cells #[.int .i64 (wrap64 (1 + t372)),u379001] 48 (0,0)) (by (with_reducible repeat (first|refine blk_drewN ?_ _|refine blk_drew ?_|refine blk_alloc ?_ _));exact BK378.out) NB378_0.out (by simp));have n3_:=aM (KeepBut.trans (by repeat (first|(with_reducible first|exact HK.out|apply KeepBut.set_|apply keep_drewN|apply keep_drew|apply keep_alloc|refine keep_far ?_ GW371.out _|refine keep_far ?_ GW378.out _)|exact HK.out)) hk (.inl rfl));have n4_:=aM (hb);have n5_:=aM (hi);clear HO_379001;clear BK371;clear BK378;clear HK;clear HB;clear HI0;have HO_379001:=n0_;have BK371:=n1_;have BK378:=n2_;have HK:=n3_;have HB:=n4_;have HI0:=n5_;clear n0_ n1_ n2_ n3_ n4_ n5_;(try clear hb);(try clear hb2);(try clear hk);(try clear hi);have hnb51:=NB378_371.out;have hnc51:=NB371_378.out;have hnb52:=NB378_0.out;have hnc52:=NB0_378.out;have hcz53_0 : w50.cell? ⟨gb378,0,none⟩ = some (.int .i64 (wrap64 (1 + t372))):=(blk_cell BK378.out 0).trans rfl;have hcz53_1 : w50.cell? ⟨gb378,1,none⟩ = some (u379001):=(blk_cell BK378.out 1).trans rfl;have hfz53_0:=blk_frozen BK378.out 0;have hfz53_1:=blk_frozen BK378.out 1;have hnb54:=NB371_0.out;have hnc54:=NB0_371.out;have hcz55_0 : w50.cell? ⟨gb371,0,none⟩ = some (.int .i64 0):=(blk_cell BK371.out 0).trans rfl;have hcz55_1 : w50.cell? ⟨gb371,1,none⟩ = some (.slice none 0 0):=(blk_cell BK371.out 1).trans rfl;have hfz55_0:=blk_frozen BK371.out 0;have hfz55_1:=blk_frozen BK371.out 1;obtain ⟨Ao56,co56,eo56⟩:=Kd.R_slice HO_379001.out;subst eo56))
      refine bodyPost_ret (results_cell_row rfl _ _ gb371 48 #[.int .i64 (wrap64 (1 + t372)),.slice Ao56 x379001_21.length co56] (0,0) _ rfl (by (with_reducible repeat (first|refine blk_drewN ?_ _|refine blk_drew ?_|refine blk_alloc ?_ _));refine blk_put (cs:=#[.int .i64 (wrap64 (1 + t372)),.slice none 0 0]) ?_ 1 _ rfl;(with_reducible repeat (first|refine blk_drewN ?_ _|refine blk_drew ?_|refine blk_alloc ?_ _));refine blk_put (cs:=#[.int .i64 0,.slice none 0 0]) ?_ 0 _ rfl;(with_reducible repeat (first|refine blk_drewN ?_ _|refine blk_drew ?_|refine blk_alloc ?_ _));exact BK371.out) Try.underlying48 rfl (by kernel_rfl)) rfl ?_
      exact ⟨_,by first|rfl|(simp only [i64_w,i32_w];done)|(simp only [i64_w,i32_w];rfl)|(simp [errW_none,errW_some] <;> rfl)|(simp [*,errW_none,errW_some] <;> rfl),by (with_reducible repeat (first|apply Kd.R_alloc|apply Kd.R_drewN|apply Kd.R_drew));exact Kd.R_mono (Kd.R_far (p:=⟨gb371,1,none⟩) (Kd.R_far (p:=⟨gb371,0,none⟩) (Kd.R_types HO_379001.out BK371.out (by decide)) (fun _ hk => hk.2) (.int .i64 (wrap64 (1 + t372)))) (fun _ hk => hk.2) (.slice Ao56 x379001_21.length co56)) (fun _ hk => trivial),by repeat (first|(with_reducible first|exact HI0.out|apply IsS82.alloc|apply IsS82.drewN|apply IsS82.drew|apply IsS82.set_1|refine IsS82.far ?_ NB0_371.out _|refine IsS82.far ?_ NB0_378.out _)|exact HI0.out),by repeat (first|(with_reducible first|exact HB.out|apply bA|apply bN|apply bD|refine below_set ?_ (IsS82.ge HI0.out)|refine below_set ?_ GE371.out|refine below_set ?_ GE378.out)|exact HB.out),by repeat (first|(with_reducible first|exact HK.out|apply KeepBut.set_|apply keep_drewN|apply keep_drew|apply keep_alloc|refine keep_far ?_ GW371.out _|refine keep_far ?_ GW378.out _)|exact HK.out)⟩

/-! ### spec_l71Spoilt: function 58 -/
def spec_l71Spoilt.f (k : Nat) (s0_0 : List Int) (s0_1 : Int) : Option ((List (S48)) × Int):=(spec_l71Votes.f k s0_0 s0_1).bind fun bt398 => ((spec_l6Rd_pick.f k s0_0 bt398.2 20).bind fun bt402 => (if bt402.1 = 0 then ((spec_l71Vote.f k s0_0 bt402.2).bind fun bt404 => (if bt398.1.length < 4398046511104 then (some ((bt398.1 ++ [(⟨bt404.1,bt404.2.1⟩ : S48)]),bt404.2.2)) else (none))) else (if bt402.1 = 1 then (if (bt398.1.length : Int) > 0 then ((spec_l6Rd_pick.f k s0_0 bt402.2 (bt398.1.length : Int)).bind fun bt412 => (if 0 ≤ bt412.1 then (if bt412.1 < (bt398.1.length : Int) then (if bt398.1.length < 4398046511104 then (some ((bt398.1 ++ [(⟨(rd_T48 bt398.1 bt412.1).f0,(rd_T48 bt398.1 bt412.1).f1⟩ : S48)]),bt412.2)) else (none)) else (none)) else (none))) else (some (bt398.1,bt402.2))) else (some (bt398.1,bt402.2)))))
theorem spec_l71Spoilt.mono : ∀ a0 a1 k,LeO (spec_l71Spoilt.f k a0 a1) (spec_l71Spoilt.f (k + 1) a0 a1):=by
 intro a0 a1 k
 unfold spec_l71Spoilt.f
 repeat' first
   | exact LeO.refl _
   | exact spec_l6Rd_pick.mono _ _ _ _
   | exact spec_l71Vote.mono _ _ _
   | exact spec_l71Votes.mono _ _ _
   | exact LeO.none _
   | refine LeO.ite ?_ ?_
   | refine LeO.bind ?_ (fun _ => ?_)
set_option maxHeartbeats 8000000 in
set_option maxRecDepth 100000 in
theorem spec_l71Spoilt.calls (k : Nat) (g : Nat) (s0_0 : List Int) (s0_1 : Int) (r1 : List (S48)) (r2 : Int) (w0 w : World) (hI : IsS82 w0 w g s0_0 s0_1) (hB : Below w0.heap.size w0 w) (h : spec_l71Spoilt.f k s0_0 s0_1 = some (r1,r2)) :
  Calls Try.prog 58 #[.pointer (some ⟨g,0,none⟩)] w fun e w' => ∃ v0_ : Value,e = .returned (v0_) ∧ Kd.N k48 48 w' w.heap.size (fun k_ => (w.heap.size ≤ k_)) v0_ r1 ∧ IsS82 w0 w' g s0_0 r2 ∧ Below w0.heap.size w0 w' ∧ KeepBut w w' g none:=by
 have hu48:=Try.underlying48
 have HI0:=aM hI
 have HK:=aM (KeepBut.refl w g none)
 have HL:=aM hB.size
 clear hI
 have HW0:=aM hB.size
 have HB:=aM hB
 clear hB
 have H : ((spec_l71Votes.f k s0_0 s0_1).bind fun bt398 => ((spec_l6Rd_pick.f k s0_0 bt398.2 20).bind fun bt402 => (if bt402.1 = 0 then ((spec_l71Vote.f k s0_0 bt402.2).bind fun bt404 => (if bt398.1.length < 4398046511104 then (some ((bt398.1 ++ [(⟨bt404.1,bt404.2.1⟩ : S48)]),bt404.2.2)) else (none))) else (if bt402.1 = 1 then (if (bt398.1.length : Int) > 0 then ((spec_l6Rd_pick.f k s0_0 bt402.2 (bt398.1.length : Int)).bind fun bt412 => (if 0 ≤ bt412.1 then (if bt412.1 < (bt398.1.length : Int) then (if bt398.1.length < 4398046511104 then (some ((bt398.1 ++ [(⟨(rd_T48 bt398.1 bt412.1).f0,(rd_T48 bt398.1 bt412.1).f1⟩ : S48)]),bt412.2)) else (none)) else (none)) else (none))) else (some (bt398.1,bt402.2))) else (some (bt398.1,bt402.2)))))) = some (r1,r2):=h
 clear h
 replace H:=Option.bind_eq_some_iff.mp H
 obtain ⟨⟨t398,t401⟩,A20,H⟩:=H
 replace H : ((spec_l6Rd_pick.f k s0_0 t401 20).bind fun bt402 => (if bt402.1 = 0 then ((spec_l71Vote.f k s0_0 bt402.2).bind fun bt404 => (if t398.length < 4398046511104 then (some ((t398 ++ [(⟨bt404.1,bt404.2.1⟩ : S48)]),bt404.2.2)) else (none))) else (if bt402.1 = 1 then (if (t398.length : Int) > 0 then ((spec_l6Rd_pick.f k s0_0 bt402.2 (t398.length : Int)).bind fun bt412 => (if 0 ≤ bt412.1 then (if bt412.1 < (t398.length : Int) then (if t398.length < 4398046511104 then (some ((t398 ++ [(⟨(rd_T48 t398 bt412.1).f0,(rd_T48 t398 bt412.1).f1⟩ : S48)]),bt412.2)) else (none)) else (none)) else (none))) else (some (t398,bt402.2))) else (some (t398,bt402.2))))) = some (r1,r2):=H
 have A2:=aM A20
 clear A20
 replace H:=Option.bind_eq_some_iff.mp H
 obtain ⟨⟨t402,t403⟩,A30,H⟩:=H
 replace H : (if t402 = 0 then ((spec_l71Vote.f k s0_0 t403).bind fun bt404 => (if t398.length < 4398046511104 then (some ((t398 ++ [(⟨bt404.1,bt404.2.1⟩ : S48)]),bt404.2.2)) else (none))) else (if t402 = 1 then (if (t398.length : Int) > 0 then ((spec_l6Rd_pick.f k s0_0 t403 (t398.length : Int)).bind fun bt412 => (if 0 ≤ bt412.1 then (if bt412.1 < (t398.length : Int) then (if t398.length < 4398046511104 then (some ((t398 ++ [(⟨(rd_T48 t398 bt412.1).f0,(rd_T48 t398 bt412.1).f1⟩ : S48)]),bt412.2)) else (none)) else (none)) else (none))) else (some (t398,t403))) else (some (t398,t403)))) = some (r1,r2):=H
 have A3:=aM A30
 clear A30
 by_cases c4 : t402 = 0
 ·rw [if_pos c4] at H
  have c4b0 : (t402 == 0) = true:=beq_iff_eq.mpr c4
  have c4b1 : (t402 != 0) = false:=bne_eq_false_iff_eq.mpr c4
  clear c4
  replace H:=Option.bind_eq_some_iff.mp H
  obtain ⟨⟨t404,t405,t408⟩,A50,H⟩:=H
  replace H : (if t398.length < 4398046511104 then (some ((t398 ++ [(⟨t404,t405⟩ : S48)]),t408)) else (none)) = some (r1,r2):=H
  have A5:=aM A50
  clear A50
  by_cases c6 : t398.length < 4398046511104
  case neg => rw [if_neg c6] at H;exact absurd H (by simp)
  rw [if_pos c6] at H
  have LMc6:=aM c6
  clear c6
  obtain ⟨y409,hy409⟩ : ∃ y_ : List (S48),y_ = (t398 ++ [(⟨t404,t405⟩ : S48)]):=⟨_,rfl⟩
  replace H : (some (y409,t408)) = some (r1,r2):=by first|(rw [hy409];with_reducible exact H)|(have H2_:=(Option.bind_some _ _).symm.trans H;rw [hy409];with_reducible exact H2_)|(have H2_:=(Option.bind_some _ _).symm.trans H;with_reducible exact H2_)|with_reducible exact H|(rw [hy409];exact H)|exact H
  have Ny409:=aM hy409
  clear hy409
  simp only [Option.some.injEq,Prod.mk.injEq] at H
  obtain ⟨rfl,rfl⟩:=H
  go_enter Try.func58,Try.ntmps58
  go_wp2_with (first|((with_reducible refine gate_callee (f:=67) rfl ?_);refine goesL_ (some 5) rfl rfl Try.func67 (by kernel_rfl) rfl #[.pointer (some ⟨g,0,none⟩)] rfl (by (try simp only [List.map_toArray,List.map_cons,List.map_nil]);first|done|rfl|(simp only [List.length_drop,List.length_take];rfl)) ?_;(with_reducible refine (spec_l71Votes.calls k g s0_0 s0_1 t398 t401 w0 _ ?side1 ?side2 A2.out).mono ?_);(case side1 => repeat (first|(with_reducible first|exact HI0.out|apply IsS82.alloc|apply IsS82.drewN|apply IsS82.drew|apply IsS82.set_1)|exact HI0.out));(case side2 => repeat (first|(with_reducible first|exact HB.out|apply bA|apply bN|apply bD|refine below_set ?_ (IsS82.ge HI0.out))|exact HB.out));rintro e w7 ⟨v399,rfl,ho0,hi,hb,hk⟩;refine ⟨_,rfl,?_⟩;have n0_:=aM (Kd.N_lower (Kd.N_mono (ok':=fun k_ => (w.heap.size ≤ k_) ∧ k_ ≠ g) (Kd.R_N (Kd.R_bound ho0)) (fun k_ hk_ => ⟨(Nat.le_trans (keep_size (w:=w) (g:=g) (row:=none) (by repeat (first|(with_reducible first|exact HK.out|apply KeepBut.set_|apply keep_drewN|apply keep_drew|apply keep_alloc)|exact HK.out))) hk_.2.1),(IsS82.fresh (by repeat (first|(with_reducible first|exact HI0.out|apply IsS82.alloc|apply IsS82.drewN|apply IsS82.drew|apply IsS82.set_1)|exact HI0.out)) k_ hk_.2.1)⟩)) (keep_size (w:=w) (g:=g) (row:=none) (by repeat (first|(with_reducible first|exact HK.out|apply KeepBut.set_|apply keep_drewN|apply keep_drew|apply keep_alloc)|exact HK.out))));have n1_:=aM (KeepBut.trans (by repeat (first|(with_reducible first|exact HK.out|apply KeepBut.set_|apply keep_drewN|apply keep_drew|apply keep_alloc)|exact HK.out)) hk (.inl rfl));have n2_:=aM (hb);have n3_:=aM (hi);clear HK;clear HB;clear HI0;have HO400:=n0_;have HK:=n1_;have HB:=n2_;have HI0:=n3_;clear n0_ n1_ n2_ n3_;(try clear hb);(try clear hb2);(try clear hk);(try clear hi);(try clear ho0))|((with_reducible refine gate_callee (f:=59) rfl ?_);refine goesL_ (some 7) rfl rfl Try.func59 (by kernel_rfl) rfl #[.pointer (some ⟨g,0,none⟩),.int .i64 20] rfl (by (try simp only [List.map_toArray,List.map_cons,List.map_nil]);first|done|rfl|(simp only [List.length_drop,List.length_take];rfl)) ?_;(with_reducible refine (spec_l6Rd_pick.calls k g s0_0 t401 20 t402 t403 w0 _ ?side1 ?side2 A3.out).mono ?_);(case side1 => repeat (first|(with_reducible first|exact HI0.out|apply IsS82.alloc|apply IsS82.drewN|apply IsS82.drew|apply IsS82.set_1)|exact HI0.out));(case side2 => repeat (first|(with_reducible first|exact HB.out|apply bA|apply bN|apply bD|refine below_set ?_ (IsS82.ge HI0.out))|exact HB.out));rintro e w8 ⟨rfl,hi,hb,hk⟩;refine ⟨_,rfl,?_⟩;have n0_:=aM (Kd.N_mono (Kd.N_keep (Kd.N_mono (ok:=fun k_ => (((w.heap.size ≤ k_)) ∧ k_ ≠ g)) (by (with_reducible repeat (first|apply Kd.N_alloc|apply Kd.N_drewN|apply Kd.N_drew));exact HO400.out) (fun k_ hk_ => (⟨hk_,hk_.2⟩ : _ ∧ k_ ≠ g))) hk (fun _ h => h.2)) (fun _ h => h.1));have n1_:=aM (KeepBut.trans (by repeat (first|(with_reducible first|exact HK.out|apply KeepBut.set_|apply keep_drewN|apply keep_drew|apply keep_alloc)|exact HK.out)) hk (.inl rfl));have n2_:=aM (hb);have n3_:=aM (hi);clear HO400;clear HK;clear HB;clear HI0;have HO400:=n0_;have HK:=n1_;have HB:=n2_;have HI0:=n3_;clear n0_ n1_ n2_ n3_;(try clear hb);(try clear hb2);(try clear hk);(try clear hi))|((with_reducible refine gate_callee (f:=68) rfl ?_);refine goesL_ (some 12) rfl rfl Try.func68 (by kernel_rfl) rfl #[.pointer (some ⟨g,0,none⟩)] rfl (by (try simp only [List.map_toArray,List.map_cons,List.map_nil]);first|done|rfl|(simp only [List.length_drop,List.length_take];rfl)) ?_;(with_reducible refine (spec_l71Vote.calls k g s0_0 t403 t404 t405 t408 w0 _ ?side1 ?side2 A5.out).mono ?_);(case side1 => repeat (first|(with_reducible first|exact HI0.out|apply IsS82.alloc|apply IsS82.drewN|apply IsS82.drew|apply IsS82.set_1)|exact HI0.out));(case side2 => repeat (first|(with_reducible first|exact HB.out|apply bA|apply bN|apply bD|refine below_set ?_ (IsS82.ge HI0.out))|exact HB.out));rintro e w9 ⟨v406,rfl,ho0,hi,hb,hk⟩;refine ⟨_,rfl,?_⟩;have n0_:=aM (Kd.N_mono (Kd.N_told (Kd.N_oldK (Kd.N_mono (ok:=fun k_ => (((w.heap.size ≤ k_)) ∧ k_ ≠ g)) (by (with_reducible repeat (first|apply Kd.N_alloc|apply Kd.N_drewN|apply Kd.N_drew));exact HO400.out) (fun k_ hk_ => (⟨hk_,hk_.2⟩ : _ ∧ k_ ≠ g))) hk) (Kd.R_base ho0)) (fun _ h_ => h_.1));have n1_:=aM (Kd.R_lower (Kd.R_newM (M:=fun k_ => (w.heap.size ≤ k_)) ho0 (keep_size (w:=w) (g:=g) (row:=none) (by repeat (first|(with_reducible first|exact HK.out|apply KeepBut.set_|apply keep_drewN|apply keep_drew|apply keep_alloc)|exact HK.out))) (fun k_ h_ => h_)) (keep_size (w:=w) (g:=g) (row:=none) (by repeat (first|(with_reducible first|exact HK.out|apply KeepBut.set_|apply keep_drewN|apply keep_drew|apply keep_alloc)|exact HK.out))));have n2_:=aM (KeepBut.trans (by repeat (first|(with_reducible first|exact HK.out|apply KeepBut.set_|apply keep_drewN|apply keep_drew|apply keep_alloc)|exact HK.out)) hk (.inl rfl));have n3_:=aM (hb);have n4_:=aM (hi);clear HO400;clear HK;clear HB;clear HI0;have HO400:=n0_;have HO407:=n1_;have HK:=n2_;have HB:=n3_;have HI0:=n4_;clear n0_ n1_ n2_ n3_ n4_;(try clear hb);(try clear hb2);(try clear hk);(try clear hi);(try clear ho0);obtain ⟨Ao11,co11,eo11⟩:=Kd.R_slice HO407.out;subst eo11)|((with_reducible refine gate_builtin (b:=.append) (xs:=#[.tmp 10,.tmp 13]) rfl ?_);at_builtin;refine Kd.N_append k48 w.heap.size rfl (.tmp 10) (.tmp 13) 27 48 (.agg #[(.int .i64 0),(.slice none 0 0)]) 32 rfl Try.underlying27 info48 rfl (by decide) (by omega) v399 t398 (⟨t404,t405⟩ : S48) [.int .i64 t404,.slice Ao11 t405.length co11] (fun k_ => (w.heap.size ≤ k_) ∧ k_ ≠ g) (fun k_ => ((fun k_ => (w.heap.size ≤ k_) ∧ k_ ≠ g)) k_ ∧ some k_ ≠ (v399 : Value).ownBlock) rfl rfl ?aP (fun _ hk => hk) ?aF ?aO (Below.refl _ _) ?aS ?aL ?_;(case aP => exact (k48_mkF _ _ (⟨t404,t405⟩ : S48) (Kd.R_reads' (Kd.R_mono (ok':=(fun k_ => ((fun k_ => (w.heap.size ≤ k_) ∧ k_ ≠ g)) k_ ∧ some k_ ≠ (v399 : Value).ownBlock)) (IsS82.apart HI0.out (Kd.R_apart' (HO407.out) (Kd.N_typed HO400.out) (by decide)) (by decide)) (fun k_ hk => ⟨⟨hk.1.1.1,hk.2⟩,hk.1.2⟩))).2.1 (Kd.R_F (Kd.R_mono (ok':=(fun k_ => ((fun k_ => (w.heap.size ≤ k_) ∧ k_ ≠ g)) k_ ∧ some k_ ≠ (v399 : Value).ownBlock)) (IsS82.apart HI0.out (Kd.R_apart' (HO407.out) (Kd.N_typed HO400.out) (by decide)) (by decide)) (fun k_ hk => ⟨⟨hk.1.1.1,hk.2⟩,hk.1.2⟩)))));(case aF => exact (fun k_ hk => ⟨(Nat.le_trans (keep_size (w:=w) (g:=g) (row:=none) (by repeat (first|(with_reducible first|exact HK.out|apply KeepBut.set_|apply keep_drewN|apply keep_drew|apply keep_alloc)|exact HK.out))) hk),IsS82.fresh (by repeat (first|(with_reducible first|exact HI0.out|apply IsS82.alloc|apply IsS82.drewN|apply IsS82.drew|apply IsS82.set_1)|exact HI0.out)) k_ hk⟩));(case aO => exact (by (with_reducible repeat (first|apply Kd.N_alloc|apply Kd.N_drewN|apply Kd.N_drew));exact Kd.N_mono HO400.out (fun _ hk => ⟨hk.1.1,hk.1.2⟩)));(case aS => exact (keep_size (w:=w) (g:=g) (row:=none) (by repeat (first|(with_reducible first|exact HK.out|apply KeepBut.set_|apply keep_drewN|apply keep_drew|apply keep_alloc)|exact HK.out))));(case aL => have:=LMc6.out;omega);intro v410 w10 ho hb hg hat;rw [← Ny409.out] at ho;have n0_:=aM (IsS82.grown (by repeat (first|(with_reducible first|exact HI0.out|apply IsS82.alloc|apply IsS82.drewN|apply IsS82.drew|apply IsS82.set_1)|exact HI0.out)) hg (IsS82.own_neN HI0.out HO400.out (by decide)));have n1_:=aM (below_weaken (by repeat (first|(with_reducible first|exact HB.out|apply bA|apply bN|apply bD|refine below_set ?_ (IsS82.ge HI0.out))|exact HB.out)) HL.out hb);have n2_:=aM (KeepBut.trans (by repeat (first|(with_reducible first|exact HK.out|apply KeepBut.set_|apply keep_drewN|apply keep_drew|apply keep_alloc)|exact HK.out)) (KeepBut.of_grown hg g) (Kd.N_base2 HO400.out));have n3_:=aM (ho);clear HI0;clear HB;clear HK;clear HO400;clear HO407;have HI0:=n0_;have HB:=n1_;have HK:=n2_;have HO411:=n3_;clear n0_ n1_ n2_ n3_;clear ho hb hg hat))
  go_ret
  exact ⟨_,by first|rfl|(simp only [i64_w,i32_w];done)|(simp only [i64_w,i32_w];rfl)|(simp [errW_none,errW_some] <;> rfl)|(simp [*,errW_none,errW_some] <;> rfl),by (with_reducible repeat (first|apply Kd.N_alloc|apply Kd.N_drewN|apply Kd.N_drew));exact Kd.N_mono HO411.out (fun _ hk => hk.1),by repeat (first|(with_reducible first|exact HI0.out|apply IsS82.alloc|apply IsS82.drewN|apply IsS82.drew|apply IsS82.set_1)|exact HI0.out),by repeat (first|(with_reducible first|exact HB.out|apply bA|apply bN|apply bD|refine below_set ?_ (IsS82.ge HI0.out))|exact HB.out),by repeat (first|(with_reducible first|exact HK.out|apply KeepBut.set_|apply keep_drewN|apply keep_drew|apply keep_alloc)|exact HK.out)⟩
 ·rw [if_neg c4] at H
  have c4b0 : (t402 == 0) = false:=beq_eq_false_iff_ne.mpr c4
  have c4b1 : (t402 != 0) = true:=bne_iff_ne.mpr c4
  by_cases c12 : t402 = 1
  ·rw [if_pos c12] at H
   have c12b0 : (t402 == 1) = true:=beq_iff_eq.mpr c12
   have c12b1 : (t402 != 1) = false:=bne_eq_false_iff_eq.mpr c12
   clear c12
   by_cases c13 : (t398.length : Int) > 0
   ·rw [if_pos c13] at H
    have c13b0 : decide (0 < (t398.length : Int)) = true:=decide_eq_true c13
    have c13b1 : decide (0 < t398.length) = true:=decide_eq_true (by omega)
    clear c13
    replace H:=Option.bind_eq_some_iff.mp H
    obtain ⟨⟨t412,t413⟩,A140,H⟩:=H
    replace H : (if 0 ≤ t412 then (if t412 < (t398.length : Int) then (if t398.length < 4398046511104 then (some ((t398 ++ [(⟨(rd_T48 t398 t412).f0,(rd_T48 t398 t412).f1⟩ : S48)]),t413)) else (none)) else (none)) else (none)) = some (r1,r2):=H
    have A14:=aM A140
    clear A140
    by_cases c15 : 0 ≤ t412
    case neg => rw [if_neg c15] at H;exact absurd H (by simp)
    rw [if_pos c15] at H
    have c15b0 : decide (0 ≤ t412) = true:=decide_eq_true c15
    clear c15
    by_cases c16 : t412 < (t398.length : Int)
    case neg => rw [if_neg c16] at H;exact absurd H (by simp)
    rw [if_pos c16] at H
    have c16b0 : decide (t412 < (t398.length : Int)) = true:=decide_eq_true c16
    clear c16
    by_cases c17 : t398.length < 4398046511104
    case neg => rw [if_neg c17] at H;exact absurd H (by simp)
    rw [if_pos c17] at H
    have LMc17:=aM c17
    clear c17
    obtain ⟨y415,hy415⟩ : ∃ y_ : List (S48),y_ = (t398 ++ [(⟨(rd_T48 t398 t412).f0,(rd_T48 t398 t412).f1⟩ : S48)]):=⟨_,rfl⟩
    replace H : (some (y415,t413)) = some (r1,r2):=by first|(rw [hy415];with_reducible exact H)|(have H2_:=(Option.bind_some _ _).symm.trans H;rw [hy415];with_reducible exact H2_)|(have H2_:=(Option.bind_some _ _).symm.trans H;with_reducible exact H2_)|with_reducible exact H|(rw [hy415];exact H)|exact H
    have Ny415:=aM hy415
    clear hy415
    simp only [Option.some.injEq,Prod.mk.injEq] at H
    obtain ⟨rfl,rfl⟩:=H
    go_enter Try.func58,Try.ntmps58
    go_wp2_with (first|((with_reducible refine gate_callee (f:=67) rfl ?_);refine goesL_ (some 5) rfl rfl Try.func67 (by kernel_rfl) rfl #[.pointer (some ⟨g,0,none⟩)] rfl (by (try simp only [List.map_toArray,List.map_cons,List.map_nil]);first|done|rfl|(simp only [List.length_drop,List.length_take];rfl)) ?_;(with_reducible refine (spec_l71Votes.calls k g s0_0 s0_1 t398 t401 w0 _ ?side1 ?side2 A2.out).mono ?_);(case side1 => repeat (first|(with_reducible first|exact HI0.out|apply IsS82.alloc|apply IsS82.drewN|apply IsS82.drew|apply IsS82.set_1)|exact HI0.out));(case side2 => repeat (first|(with_reducible first|exact HB.out|apply bA|apply bN|apply bD|refine below_set ?_ (IsS82.ge HI0.out))|exact HB.out));rintro e w18 ⟨v399,rfl,ho0,hi,hb,hk⟩;refine ⟨_,rfl,?_⟩;have n0_:=aM (Kd.N_lower (Kd.N_mono (ok':=fun k_ => (w.heap.size ≤ k_) ∧ k_ ≠ g) (Kd.R_N (Kd.R_bound ho0)) (fun k_ hk_ => ⟨(Nat.le_trans (keep_size (w:=w) (g:=g) (row:=none) (by repeat (first|(with_reducible first|exact HK.out|apply KeepBut.set_|apply keep_drewN|apply keep_drew|apply keep_alloc)|exact HK.out))) hk_.2.1),(IsS82.fresh (by repeat (first|(with_reducible first|exact HI0.out|apply IsS82.alloc|apply IsS82.drewN|apply IsS82.drew|apply IsS82.set_1)|exact HI0.out)) k_ hk_.2.1)⟩)) (keep_size (w:=w) (g:=g) (row:=none) (by repeat (first|(with_reducible first|exact HK.out|apply KeepBut.set_|apply keep_drewN|apply keep_drew|apply keep_alloc)|exact HK.out))));have n1_:=aM (KeepBut.trans (by repeat (first|(with_reducible first|exact HK.out|apply KeepBut.set_|apply keep_drewN|apply keep_drew|apply keep_alloc)|exact HK.out)) hk (.inl rfl));have n2_:=aM (hb);have n3_:=aM (hi);clear HK;clear HB;clear HI0;have HO400:=n0_;have HK:=n1_;have HB:=n2_;have HI0:=n3_;clear n0_ n1_ n2_ n3_;(try clear hb);(try clear hb2);(try clear hk);(try clear hi);(try clear ho0))|((with_reducible refine gate_callee (f:=59) rfl ?_);refine goesL_ (some 7) rfl rfl Try.func59 (by kernel_rfl) rfl #[.pointer (some ⟨g,0,none⟩),.int .i64 20] rfl (by (try simp only [List.map_toArray,List.map_cons,List.map_nil]);first|done|rfl|(simp only [List.length_drop,List.length_take];rfl)) ?_;(with_reducible refine (spec_l6Rd_pick.calls k g s0_0 t401 20 t402 t403 w0 _ ?side1 ?side2 A3.out).mono ?_);(case side1 => repeat (first|(with_reducible first|exact HI0.out|apply IsS82.alloc|apply IsS82.drewN|apply IsS82.drew|apply IsS82.set_1)|exact HI0.out));(case side2 => repeat (first|(with_reducible first|exact HB.out|apply bA|apply bN|apply bD|refine below_set ?_ (IsS82.ge HI0.out))|exact HB.out));rintro e w19 ⟨rfl,hi,hb,hk⟩;refine ⟨_,rfl,?_⟩;have n0_:=aM (Kd.N_mono (Kd.N_keep (Kd.N_mono (ok:=fun k_ => (((w.heap.size ≤ k_)) ∧ k_ ≠ g)) (by (with_reducible repeat (first|apply Kd.N_alloc|apply Kd.N_drewN|apply Kd.N_drew));exact HO400.out) (fun k_ hk_ => (⟨hk_,hk_.2⟩ : _ ∧ k_ ≠ g))) hk (fun _ h => h.2)) (fun _ h => h.1));have n1_:=aM (KeepBut.trans (by repeat (first|(with_reducible first|exact HK.out|apply KeepBut.set_|apply keep_drewN|apply keep_drew|apply keep_alloc)|exact HK.out)) hk (.inl rfl));have n2_:=aM (hb);have n3_:=aM (hi);clear HO400;clear HK;clear HB;clear HI0;have HO400:=n0_;have HK:=n1_;have HB:=n2_;have HI0:=n3_;clear n0_ n1_ n2_ n3_;(try clear hb);(try clear hb2);(try clear hk);(try clear hi);obtain ⟨Ao20,co20,eo20⟩:=Kd.N_slice HO400.out;subst eo20)|((with_reducible refine gate_callee (f:=59) rfl ?_);refine goesL_ (some 25) rfl rfl Try.func59 (by kernel_rfl) rfl #[.pointer (some ⟨g,0,none⟩),.int .i64 (t398.length : Int)] rfl (by (try simp only [List.map_toArray,List.map_cons,List.map_nil]);first|done|rfl|(simp only [List.length_drop,List.length_take];rfl)) ?_;(with_reducible refine (spec_l6Rd_pick.calls k g s0_0 t403 (t398.length : Int) t412 t413 w0 _ ?side1 ?side2 A14.out).mono ?_);(case side1 => repeat (first|(with_reducible first|exact HI0.out|apply IsS82.alloc|apply IsS82.drewN|apply IsS82.drew|apply IsS82.set_1)|exact HI0.out));(case side2 => repeat (first|(with_reducible first|exact HB.out|apply bA|apply bN|apply bD|refine below_set ?_ (IsS82.ge HI0.out))|exact HB.out));rintro e w21 ⟨rfl,hi,hb,hk⟩;refine ⟨_,rfl,?_⟩;have n0_:=aM (Kd.N_mono (Kd.N_keep (Kd.N_mono (ok:=fun k_ => (((w.heap.size ≤ k_)) ∧ k_ ≠ g)) (by (with_reducible repeat (first|apply Kd.N_alloc|apply Kd.N_drewN|apply Kd.N_drew));exact HO400.out) (fun k_ hk_ => (⟨hk_,hk_.2⟩ : _ ∧ k_ ≠ g))) hk (fun _ h => h.2)) (fun _ h => h.1));have n1_:=aM (KeepBut.trans (by repeat (first|(with_reducible first|exact HK.out|apply KeepBut.set_|apply keep_drewN|apply keep_drew|apply keep_alloc)|exact HK.out)) hk (.inl rfl));have n2_:=aM (hb);have n3_:=aM (hi);clear HO400;clear HK;clear HB;clear HI0;have HO400:=n0_;have HK:=n1_;have HB:=n2_;have HI0:=n3_;clear n0_ n1_ n2_ n3_;(try clear hb);(try clear hb2);(try clear hk);(try clear hi);have p414 : 0 ≤ (t412 : Int):=of_decide_eq_true (by first|(with_reducible assumption)|assumption);have q414 : t412 < (t398.length : Int):=of_decide_eq_true (by first|(with_reducible assumption)|assumption);obtain ⟨ad414,A414_1,c414_1,e414,hx414_0,hx414_1,hl414_1,hi414_1⟩:=at_T48 (Kd.N_reads' HO400.out).2.2 t412 p414 q414;cases e414;obtain ⟨ce414,hce414,hMe414,hcc414⟩:=Kd.N_get HO400.out z48 t412 p414 (by first|exact q414|exact of_decide_eq_true (by first|(with_reducible assumption)|assumption)|(have e_:=(Kd.N_reads' HO400.out).1;omega));obtain ⟨ua414_1,uc414_1,rfl,ul414_1,ge414_1⟩:=k48_openF hMe414;have hv414_1:=hcc414 1 _ rfl;rw [add_field _ _ 1 (by omega)] at hv414_1;replace hv414_1:=Option.some.inj (hv414_1.symm.trans hx414_1);injection hv414_1 with hva_ hvn_ hvc_;rw [hva_] at ge414_1;rw [hvc_] at ul414_1;have HL414_1:=aM (show Kd.V k58 58 _ w.heap.size _ _ ((rd_T48 t398 t412).f1) from Kd.V_mk ul414_1 ge414_1);clear hva_ hvn_ hvc_ ge414_1 ul414_1;clear hcc414 hce414;have HR414_1:=aM hi414_1;have HC414_1:=aM hl414_1;clear hi414_1 hl414_1;replace p414:=eq_true p414;replace q414:=eq_true q414)|((with_reducible refine gate_builtin (b:=.append) (xs:=#[.tmp 20,.tmp 28]) rfl ?_);at_builtin;refine Kd.N_append k48 w.heap.size rfl (.tmp 20) (.tmp 28) 27 48 (.agg #[(.int .i64 0),(.slice none 0 0)]) 32 rfl Try.underlying27 info48 rfl (by decide) (by omega) (.slice (some ad414) t398.length co20) t398 (⟨(rd_T48 t398 t412).f0,(rd_T48 t398 t412).f1⟩ : S48) [.int .i64 ((rd_T48 t398 t412).f0),.slice A414_1 ((rd_T48 t398 t412).f1).length c414_1] (fun k_ => (w.heap.size ≤ k_) ∧ k_ ≠ g) (fun k_ => ((fun k_ => (w.heap.size ≤ k_) ∧ k_ ≠ g)) k_ ∧ some k_ ≠ (.slice (some ad414) t398.length co20 : Value).ownBlock) rfl rfl ?aP (fun _ hk => hk) ?aF ?aO (Below.refl _ _) ?aS ?aL ?_;(case aP => exact (k48_mkF _ _ (⟨(rd_T48 t398 t412).f0,(rd_T48 t398 t412).f1⟩ : S48) (Kd.V_reads' (Kd.V_mono (ok':=(fun k_ => ((fun k_ => (w.heap.size ≤ k_) ∧ k_ ≠ g)) k_ ∧ some k_ ≠ (.slice (some ad414) t398.length co20 : Value).ownBlock)) (HL414_1.out) (fun k_ hk => ⟨⟨hk.1.1,hk.1.2⟩,hk.2⟩))).2.1 (Kd.V_F (Kd.V_mono (ok':=(fun k_ => ((fun k_ => (w.heap.size ≤ k_) ∧ k_ ≠ g)) k_ ∧ some k_ ≠ (.slice (some ad414) t398.length co20 : Value).ownBlock)) (HL414_1.out) (fun k_ hk => ⟨⟨hk.1.1,hk.1.2⟩,hk.2⟩)))));(case aF => exact (fun k_ hk => ⟨(Nat.le_trans (keep_size (w:=w) (g:=g) (row:=none) (by repeat (first|(with_reducible first|exact HK.out|apply KeepBut.set_|apply keep_drewN|apply keep_drew|apply keep_alloc)|exact HK.out))) hk),IsS82.fresh (by repeat (first|(with_reducible first|exact HI0.out|apply IsS82.alloc|apply IsS82.drewN|apply IsS82.drew|apply IsS82.set_1)|exact HI0.out)) k_ hk⟩));(case aO => exact (by (with_reducible repeat (first|apply Kd.N_alloc|apply Kd.N_drewN|apply Kd.N_drew));exact HO400.out));(case aS => exact (keep_size (w:=w) (g:=g) (row:=none) (by repeat (first|(with_reducible first|exact HK.out|apply KeepBut.set_|apply keep_drewN|apply keep_drew|apply keep_alloc)|exact HK.out))));(case aL => have:=LMc17.out;omega);intro v416 w22 ho hb hg hat;rw [← Ny415.out] at ho;have n0_:=aM (IsS82.grown (by repeat (first|(with_reducible first|exact HI0.out|apply IsS82.alloc|apply IsS82.drewN|apply IsS82.drew|apply IsS82.set_1)|exact HI0.out)) hg (IsS82.own_neN HI0.out HO400.out (by decide)));have n1_:=aM (Kd.V_afterv (ok:=(fun k_ => (w.heap.size ≤ k_) ∧ k_ ≠ g)) (by (with_reducible repeat (first|apply Kd.V_alloc|apply Kd.V_drewN|apply Kd.V_drew));exact HL414_1.out) hg hat);have n2_:=aM (below_weaken (by repeat (first|(with_reducible first|exact HB.out|apply bA|apply bN|apply bD|refine below_set ?_ (IsS82.ge HI0.out))|exact HB.out)) HL.out hb);have n3_:=aM (KeepBut.trans (by repeat (first|(with_reducible first|exact HK.out|apply KeepBut.set_|apply keep_drewN|apply keep_drew|apply keep_alloc)|exact HK.out)) (KeepBut.of_grown hg g) (Kd.N_base2 HO400.out));have n4_:=aM (ho);clear HI0;clear HL414_1;clear HB;clear HK;clear HO400;have HI0:=n0_;have HL414_1:=n1_;have HB:=n2_;have HK:=n3_;have HO417:=n4_;clear n0_ n1_ n2_ n3_ n4_;clear ho hb hg hat))
    go_ret
    exact ⟨_,by first|rfl|(simp only [i64_w,i32_w];done)|(simp only [i64_w,i32_w];rfl)|(simp [errW_none,errW_some] <;> rfl)|(simp [*,errW_none,errW_some] <;> rfl),by (with_reducible repeat (first|apply Kd.N_alloc|apply Kd.N_drewN|apply Kd.N_drew));exact Kd.N_mono HO417.out (fun _ hk => hk.1),by repeat (first|(with_reducible first|exact HI0.out|apply IsS82.alloc|apply IsS82.drewN|apply IsS82.drew|apply IsS82.set_1)|exact HI0.out),by repeat (first|(with_reducible first|exact HB.out|apply bA|apply bN|apply bD|refine below_set ?_ (IsS82.ge HI0.out))|exact HB.out),by repeat (first|(with_reducible first|exact HK.out|apply KeepBut.set_|apply keep_drewN|apply keep_drew|apply keep_alloc)|exact HK.out)⟩
   ·rw [if_neg c13] at H
    have c13b0 : decide (0 < (t398.length : Int)) = false:=decide_eq_false c13
    have c13b1 : decide (0 < t398.length) = false:=decide_eq_false (by omega)
    clear c13
    simp only [Option.some.injEq,Prod.mk.injEq] at H
    obtain ⟨rfl,rfl⟩:=H
    go_enter Try.func58,Try.ntmps58
    go_wp2_with (first|((with_reducible refine gate_callee (f:=67) rfl ?_);refine goesL_ (some 5) rfl rfl Try.func67 (by kernel_rfl) rfl #[.pointer (some ⟨g,0,none⟩)] rfl (by (try simp only [List.map_toArray,List.map_cons,List.map_nil]);first|done|rfl|(simp only [List.length_drop,List.length_take];rfl)) ?_;(with_reducible refine (spec_l71Votes.calls k g s0_0 s0_1 t398 t401 w0 _ ?side1 ?side2 A2.out).mono ?_);(case side1 => repeat (first|(with_reducible first|exact HI0.out|apply IsS82.alloc|apply IsS82.drewN|apply IsS82.drew|apply IsS82.set_1)|exact HI0.out));(case side2 => repeat (first|(with_reducible first|exact HB.out|apply bA|apply bN|apply bD|refine below_set ?_ (IsS82.ge HI0.out))|exact HB.out));rintro e w23 ⟨v399,rfl,ho0,hi,hb,hk⟩;refine ⟨_,rfl,?_⟩;have n0_:=aM (Kd.N_lower (Kd.N_mono (ok':=fun k_ => (w.heap.size ≤ k_) ∧ k_ ≠ g) (Kd.R_N (Kd.R_bound ho0)) (fun k_ hk_ => ⟨(Nat.le_trans (keep_size (w:=w) (g:=g) (row:=none) (by repeat (first|(with_reducible first|exact HK.out|apply KeepBut.set_|apply keep_drewN|apply keep_drew|apply keep_alloc)|exact HK.out))) hk_.2.1),(IsS82.fresh (by repeat (first|(with_reducible first|exact HI0.out|apply IsS82.alloc|apply IsS82.drewN|apply IsS82.drew|apply IsS82.set_1)|exact HI0.out)) k_ hk_.2.1)⟩)) (keep_size (w:=w) (g:=g) (row:=none) (by repeat (first|(with_reducible first|exact HK.out|apply KeepBut.set_|apply keep_drewN|apply keep_drew|apply keep_alloc)|exact HK.out))));have n1_:=aM (KeepBut.trans (by repeat (first|(with_reducible first|exact HK.out|apply KeepBut.set_|apply keep_drewN|apply keep_drew|apply keep_alloc)|exact HK.out)) hk (.inl rfl));have n2_:=aM (hb);have n3_:=aM (hi);clear HK;clear HB;clear HI0;have HO400:=n0_;have HK:=n1_;have HB:=n2_;have HI0:=n3_;clear n0_ n1_ n2_ n3_;(try clear hb);(try clear hb2);(try clear hk);(try clear hi);(try clear ho0))|((with_reducible refine gate_callee (f:=59) rfl ?_);refine goesL_ (some 7) rfl rfl Try.func59 (by kernel_rfl) rfl #[.pointer (some ⟨g,0,none⟩),.int .i64 20] rfl (by (try simp only [List.map_toArray,List.map_cons,List.map_nil]);first|done|rfl|(simp only [List.length_drop,List.length_take];rfl)) ?_;(with_reducible refine (spec_l6Rd_pick.calls k g s0_0 t401 20 t402 t403 w0 _ ?side1 ?side2 A3.out).mono ?_);(case side1 => repeat (first|(with_reducible first|exact HI0.out|apply IsS82.alloc|apply IsS82.drewN|apply IsS82.drew|apply IsS82.set_1)|exact HI0.out));(case side2 => repeat (first|(with_reducible first|exact HB.out|apply bA|apply bN|apply bD|refine below_set ?_ (IsS82.ge HI0.out))|exact HB.out));rintro e w24 ⟨rfl,hi,hb,hk⟩;refine ⟨_,rfl,?_⟩;have n0_:=aM (Kd.N_mono (Kd.N_keep (Kd.N_mono (ok:=fun k_ => (((w.heap.size ≤ k_)) ∧ k_ ≠ g)) (by (with_reducible repeat (first|apply Kd.N_alloc|apply Kd.N_drewN|apply Kd.N_drew));exact HO400.out) (fun k_ hk_ => (⟨hk_,hk_.2⟩ : _ ∧ k_ ≠ g))) hk (fun _ h => h.2)) (fun _ h => h.1));have n1_:=aM (KeepBut.trans (by repeat (first|(with_reducible first|exact HK.out|apply KeepBut.set_|apply keep_drewN|apply keep_drew|apply keep_alloc)|exact HK.out)) hk (.inl rfl));have n2_:=aM (hb);have n3_:=aM (hi);clear HO400;clear HK;clear HB;clear HI0;have HO400:=n0_;have HK:=n1_;have HB:=n2_;have HI0:=n3_;clear n0_ n1_ n2_ n3_;(try clear hb);(try clear hb2);(try clear hk);(try clear hi);obtain ⟨Ao25,co25,eo25⟩:=Kd.N_slice HO400.out;subst eo25))
    go_ret
    exact ⟨_,by first|rfl|(simp only [i64_w,i32_w];done)|(simp only [i64_w,i32_w];rfl)|(simp [errW_none,errW_some] <;> rfl)|(simp [*,errW_none,errW_some] <;> rfl),by (with_reducible repeat (first|apply Kd.N_alloc|apply Kd.N_drewN|apply Kd.N_drew));exact Kd.N_mono HO400.out (fun _ hk => hk.1),by repeat (first|(with_reducible first|exact HI0.out|apply IsS82.alloc|apply IsS82.drewN|apply IsS82.drew|apply IsS82.set_1)|exact HI0.out),by repeat (first|(with_reducible first|exact HB.out|apply bA|apply bN|apply bD|refine below_set ?_ (IsS82.ge HI0.out))|exact HB.out),by repeat (first|(with_reducible first|exact HK.out|apply KeepBut.set_|apply keep_drewN|apply keep_drew|apply keep_alloc)|exact HK.out)⟩
  ·rw [if_neg c12] at H
   have c12b0 : (t402 == 1) = false:=beq_eq_false_iff_ne.mpr c12
   have c12b1 : (t402 != 1) = true:=bne_iff_ne.mpr c12
   simp only [Option.some.injEq,Prod.mk.injEq] at H
   obtain ⟨rfl,rfl⟩:=H
   go_enter Try.func58,Try.ntmps58
   go_wp2_with (first|((with_reducible refine gate_callee (f:=67) rfl ?_);refine goesL_ (some 5) rfl rfl Try.func67 (by kernel_rfl) rfl #[.pointer (some ⟨g,0,none⟩)] rfl (by (try simp only [List.map_toArray,List.map_cons,List.map_nil]);first|done|rfl|(simp only [List.length_drop,List.length_take];rfl)) ?_;(with_reducible refine (spec_l71Votes.calls k g s0_0 s0_1 t398 t401 w0 _ ?side1 ?side2 A2.out).mono ?_);(case side1 => repeat (first|(with_reducible first|exact HI0.out|apply IsS82.alloc|apply IsS82.drewN|apply IsS82.drew|apply IsS82.set_1)|exact HI0.out));(case side2 => repeat (first|(with_reducible first|exact HB.out|apply bA|apply bN|apply bD|refine below_set ?_ (IsS82.ge HI0.out))|exact HB.out));rintro e w26 ⟨v399,rfl,ho0,hi,hb,hk⟩;refine ⟨_,rfl,?_⟩;have n0_:=aM (Kd.N_lower (Kd.N_mono (ok':=fun k_ => (w.heap.size ≤ k_) ∧ k_ ≠ g) (Kd.R_N (Kd.R_bound ho0)) (fun k_ hk_ => ⟨(Nat.le_trans (keep_size (w:=w) (g:=g) (row:=none) (by repeat (first|(with_reducible first|exact HK.out|apply KeepBut.set_|apply keep_drewN|apply keep_drew|apply keep_alloc)|exact HK.out))) hk_.2.1),(IsS82.fresh (by repeat (first|(with_reducible first|exact HI0.out|apply IsS82.alloc|apply IsS82.drewN|apply IsS82.drew|apply IsS82.set_1)|exact HI0.out)) k_ hk_.2.1)⟩)) (keep_size (w:=w) (g:=g) (row:=none) (by repeat (first|(with_reducible first|exact HK.out|apply KeepBut.set_|apply keep_drewN|apply keep_drew|apply keep_alloc)|exact HK.out))));have n1_:=aM (KeepBut.trans (by repeat (first|(with_reducible first|exact HK.out|apply KeepBut.set_|apply keep_drewN|apply keep_drew|apply keep_alloc)|exact HK.out)) hk (.inl rfl));have n2_:=aM (hb);have n3_:=aM (hi);clear HK;clear HB;clear HI0;have HO400:=n0_;have HK:=n1_;have HB:=n2_;have HI0:=n3_;clear n0_ n1_ n2_ n3_;(try clear hb);(try clear hb2);(try clear hk);(try clear hi);(try clear ho0))|((with_reducible refine gate_callee (f:=59) rfl ?_);refine goesL_ (some 7) rfl rfl Try.func59 (by kernel_rfl) rfl #[.pointer (some ⟨g,0,none⟩),.int .i64 20] rfl (by (try simp only [List.map_toArray,List.map_cons,List.map_nil]);first|done|rfl|(simp only [List.length_drop,List.length_take];rfl)) ?_;(with_reducible refine (spec_l6Rd_pick.calls k g s0_0 t401 20 t402 t403 w0 _ ?side1 ?side2 A3.out).mono ?_);(case side1 => repeat (first|(with_reducible first|exact HI0.out|apply IsS82.alloc|apply IsS82.drewN|apply IsS82.drew|apply IsS82.set_1)|exact HI0.out));(case side2 => repeat (first|(with_reducible first|exact HB.out|apply bA|apply bN|apply bD|refine below_set ?_ (IsS82.ge HI0.out))|exact HB.out));rintro e w27 ⟨rfl,hi,hb,hk⟩;refine ⟨_,rfl,?_⟩;have n0_:=aM (Kd.N_mono (Kd.N_keep (Kd.N_mono (ok:=fun k_ => (((w.heap.size ≤ k_)) ∧ k_ ≠ g)) (by (with_reducible repeat (first|apply Kd.N_alloc|apply Kd.N_drewN|apply Kd.N_drew));exact HO400.out) (fun k_ hk_ => (⟨hk_,hk_.2⟩ : _ ∧ k_ ≠ g))) hk (fun _ h => h.2)) (fun _ h => h.1));have n1_:=aM (KeepBut.trans (by repeat (first|(with_reducible first|exact HK.out|apply KeepBut.set_|apply keep_drewN|apply keep_drew|apply keep_alloc)|exact HK.out)) hk (.inl rfl));have n2_:=aM (hb);have n3_:=aM (hi);clear HO400;clear HK;clear HB;clear HI0;have HO400:=n0_;have HK:=n1_;have HB:=n2_;have HI0:=n3_;clear n0_ n1_ n2_ n3_;(try clear hb);(try clear hb2);(try clear hk);(try clear hi)))
   go_ret
   exact ⟨_,by first|rfl|(simp only [i64_w,i32_w];done)|(simp only [i64_w,i32_w];rfl)|(simp [errW_none,errW_some] <;> rfl)|(simp [*,errW_none,errW_some] <;> rfl),by (with_reducible repeat (first|apply Kd.N_alloc|apply Kd.N_drewN|apply Kd.N_drew));exact Kd.N_mono HO400.out (fun _ hk => hk.1),by repeat (first|(with_reducible first|exact HI0.out|apply IsS82.alloc|apply IsS82.drewN|apply IsS82.drew|apply IsS82.set_1)|exact HI0.out),by repeat (first|(with_reducible first|exact HB.out|apply bA|apply bN|apply bD|refine below_set ?_ (IsS82.ge HI0.out))|exact HB.out),by repeat (first|(with_reducible first|exact HK.out|apply KeepBut.set_|apply keep_drewN|apply keep_drew|apply keep_alloc)|exact HK.out)⟩

/-! ### spec_l71Some: function 44 -/
def spec_l71Some.j0 : Nat → List (S48) → Bool → List Int → Int → Option ((List (S48)) × (List (S58)) × Int)
 | 0,_,_,_,_ => none
 | k + 1,x4,x14,x1000,x1001 => if x14 = true then ((spec_l6Rd_pick.f k x1000 x1001 (x4.length : Int)).bind fun bt424 => (if 0 ≤ bt424.1 then (if bt424.1 < (x4.length : Int) then ((spec_l1Copy.f ((rd_T48 x4 bt424.1).f1)).bind fun t427 => (some (x4,t427,bt424.2))) else (none)) else (none))) else ((spec_l71Off.f k x1000 x1001).bind fun bt430 => (some (x4,bt430.1,bt430.2)))
def spec_l71Some.f (k : Nat) (s0_0 : List Int) (s0_1 : Int) : Option ((List (S48)) × (List (S58)) × Int):=(spec_l71Spoilt.f k s0_0 s0_1).bind fun bt418 => (if (bt418.1.length : Int) > 0 then ((spec_l6Rd_pick.f k s0_0 bt418.2 6).bind fun bt422 => (spec_l71Some.j0 k bt418.1 (decide (bt422.1 > 0)) s0_0 bt422.2)) else (spec_l71Some.j0 k bt418.1 false s0_0 bt418.2))
theorem spec_l71Some.mono_l : ∀ k,(∀ y0 y1 y2 y3,LeO (spec_l71Some.j0 k y0 y1 y2 y3) (spec_l71Some.j0 (k + 1) y0 y1 y2 y3))
 | 0 => fun _ _ _ _ r h => by simp [spec_l71Some.j0] at h
 | k + 1 => by
  have ih0:=spec_l71Some.mono_l k
  ·intro y0 y1 y2 y3
   unfold spec_l71Some.j0
   repeat' first
   | exact LeO.refl _
   | exact ih0 _ _ _ _
   | exact spec_l6Rd_pick.mono _ _ _ _
   | exact spec_l71Off.mono _ _ _
   | exact spec_l71Spoilt.mono _ _ _
   | exact LeO.none _
   | refine LeO.ite ?_ ?_
   | refine LeO.bind ?_ (fun _ => ?_)
theorem spec_l71Some.mono : ∀ a0 a1 k,LeO (spec_l71Some.f k a0 a1) (spec_l71Some.f (k + 1) a0 a1):=by
 intro a0 a1 k
 have ih0:=spec_l71Some.mono_l k
 unfold spec_l71Some.f
 repeat' first
   | exact LeO.refl _
   | exact ih0 _ _ _ _
   | exact spec_l6Rd_pick.mono _ _ _ _
   | exact spec_l71Off.mono _ _ _
   | exact spec_l71Spoilt.mono _ _ _
   | exact LeO.none _
   | refine LeO.ite ?_ ?_
   | refine LeO.bind ?_ (fun _ => ?_)
set_option maxHeartbeats 8000000 in
set_option maxRecDepth 100000 in
theorem spec_l71Some.calls (k : Nat) (g : Nat) (s0_0 : List Int) (s0_1 : Int) (r1 : List (S48)) (r2 : List (S58)) (r3 : Int) (w0 w : World) (hI : IsS82 w0 w g s0_0 s0_1) (hB : Below w0.heap.size w0 w) (h : spec_l71Some.f k s0_0 s0_1 = some (r1,r2,r3)) :
  Calls Try.prog 44 #[.pointer (some ⟨g,0,none⟩)] w fun e w' => ∃ v0_ v1_ : Value,e = .returned (.tuple #[v0_,v1_]) ∧ Kd.N k48 48 w' w.heap.size (fun k_ => (w.heap.size ≤ k_) ∧ some k_ ≠ (v1_ : Value).ownBlock) v0_ r1 ∧ Kd.R k58 58 w' w.heap.size (fun k_ => (w.heap.size ≤ k_)) v1_ r2 ∧ IsS82 w0 w' g s0_0 r3 ∧ Below w0.heap.size w0 w' ∧ KeepBut w w' g none:=by
 have HI0:=aM hI
 have HK:=aM (KeepBut.refl w g none)
 have HL:=aM hB.size
 clear hI
 have HW0:=aM hB.size
 have HB:=aM hB
 clear hB
 have H : ((spec_l71Spoilt.f k s0_0 s0_1).bind fun bt418 => (if (bt418.1.length : Int) > 0 then ((spec_l6Rd_pick.f k s0_0 bt418.2 6).bind fun bt422 => (spec_l71Some.j0 k bt418.1 (decide (bt422.1 > 0)) s0_0 bt422.2)) else (spec_l71Some.j0 k bt418.1 false s0_0 bt418.2))) = some (r1,r2,r3):=h
 clear h
 replace H:=Option.bind_eq_some_iff.mp H
 obtain ⟨⟨t418,t421⟩,A20,H⟩:=H
 replace H : (if (t418.length : Int) > 0 then ((spec_l6Rd_pick.f k s0_0 t421 6).bind fun bt422 => (spec_l71Some.j0 k t418 (decide (bt422.1 > 0)) s0_0 bt422.2)) else (spec_l71Some.j0 k t418 false s0_0 t421)) = some (r1,r2,r3):=H
 have A2:=aM A20
 clear A20
 have HC3:=aM H
 clear H
 go_enter Try.func44,Try.ntmps44
 go_upto_region 2 with (first|((with_reducible refine gate_callee (f:=58) rfl ?_);refine goesL_ (some 6) rfl rfl Try.func58 (by kernel_rfl) rfl #[.pointer (some ⟨g,0,none⟩)] rfl (by (try simp only [List.map_toArray,List.map_cons,List.map_nil]);first|done|rfl|(simp only [List.length_drop,List.length_take];rfl)) ?_;(with_reducible refine (spec_l71Spoilt.calls k g s0_0 s0_1 t418 t421 w0 _ ?side1 ?side2 A2.out).mono ?_);(case side1 => repeat (first|(with_reducible first|exact HI0.out|apply IsS82.alloc|apply IsS82.drewN|apply IsS82.drew|apply IsS82.set_1)|exact HI0.out));(case side2 => repeat (first|(with_reducible first|exact HB.out|apply bA|apply bN|apply bD|refine below_set ?_ (IsS82.ge HI0.out))|exact HB.out));rintro e w4 ⟨v419,rfl,ho0,hi,hb,hk⟩;refine ⟨_,rfl,?_⟩;have n0_:=aM (Kd.N_lower (Kd.N_mono (ok':=fun k_ => (w.heap.size ≤ k_) ∧ k_ ≠ g) ho0 (fun k_ hk_ => ⟨(Nat.le_trans (keep_size (w:=w) (g:=g) (row:=none) (by repeat (first|(with_reducible first|exact HK.out|apply KeepBut.set_|apply keep_drewN|apply keep_drew|apply keep_alloc)|exact HK.out))) hk_),(IsS82.fresh (by repeat (first|(with_reducible first|exact HI0.out|apply IsS82.alloc|apply IsS82.drewN|apply IsS82.drew|apply IsS82.set_1)|exact HI0.out)) k_ hk_)⟩)) (keep_size (w:=w) (g:=g) (row:=none) (by repeat (first|(with_reducible first|exact HK.out|apply KeepBut.set_|apply keep_drewN|apply keep_drew|apply keep_alloc)|exact HK.out))));have n1_:=aM (KeepBut.trans (by repeat (first|(with_reducible first|exact HK.out|apply KeepBut.set_|apply keep_drewN|apply keep_drew|apply keep_alloc)|exact HK.out)) hk (.inl rfl));have n2_:=aM (hb);have n3_:=aM (hi);clear HK;clear HB;clear HI0;have HO420:=n0_;have HK:=n1_;have HB:=n2_;have HI0:=n3_;clear n0_ n1_ n2_ n3_;(try clear hb);(try clear hb2);(try clear hk);(try clear hi);(try clear ho0)))
 (try simp only [Act.put,sI,sZ,sS])
 go_cut [14] (fun v14 wc => ∃ (kq : Nat) (x14_2 : Bool) (x1001_2 : Int),v14 = .bool x14_2 ∧ Aside0 (spec_l71Some.j0 kq t418 x14_2 s0_0 x1001_2 = some (r1,r2,r3)) ∧ Aside0 (kq ≤ k) ∧ Aside0 (Kd.N k48 48 wc w.heap.size (fun k_ => (w.heap.size ≤ k_) ∧ k_ ≠ g) v419 t418) ∧ Aside0 (IsS82 w0 wc g s0_0 x1001_2) ∧ Aside0 (KeepBut w wc g none) ∧ Aside0 (Below w0.heap.size w0 wc))
 case first =>
  have H:=HC3.out
  clear HC3
  by_cases c5 : (t418.length : Int) > 0
  ·rw [if_pos c5] at H
   have c5b0 : decide (0 < (t418.length : Int)) = true:=decide_eq_true c5
   have c5b1 : decide (0 < t418.length) = true:=decide_eq_true (by omega)
   clear c5
   (first|rw [c5b0]|rw [c5b1]|(simp only [i64_w,i32_w];rw [c5b0])|skip)
   replace H:=Option.bind_eq_some_iff.mp H
   obtain ⟨⟨t422,t423⟩,A60,H⟩:=H
   replace H : (spec_l71Some.j0 k t418 (decide (t422 > 0)) s0_0 t423) = some (r1,r2,r3):=H
   have A6:=aM A60
   clear A60
   have H':=aM H
   clear H
   obtain ⟨Ao7,co7,eo7⟩:=Kd.N_slice HO420.out
   subst eo7
   go_wp2_with (first|(go_at_call 59;(with_reducible refine (spec_l6Rd_pick.calls k g s0_0 t421 6 t422 t423 w0 _ ?side1 ?side2 A6.out).mono ?_);(case side1 => repeat (first|(with_reducible first|exact HI0.out|apply IsS82.alloc|apply IsS82.drewN|apply IsS82.drew|apply IsS82.set_1)|exact HI0.out));(case side2 => repeat (first|(with_reducible first|exact HB.out|apply bA|apply bN|apply bD|refine below_set ?_ (IsS82.ge HI0.out))|exact HB.out));rintro e w8 ⟨rfl,hi,hb,hk⟩;have n0_:=aM (Kd.N_mono (Kd.N_keep (Kd.N_mono (ok:=fun k_ => (((w.heap.size ≤ k_)) ∧ k_ ≠ g)) (by (with_reducible repeat (first|apply Kd.N_alloc|apply Kd.N_drewN|apply Kd.N_drew));exact HO420.out) (fun k_ hk_ => (⟨hk_,hk_.2⟩ : _ ∧ k_ ≠ g))) hk (fun _ h => h.2)) (fun _ h => h.1));have n1_:=aM (KeepBut.trans (by repeat (first|(with_reducible first|exact HK.out|apply KeepBut.set_|apply keep_drewN|apply keep_drew|apply keep_alloc)|exact HK.out)) hk (.inl rfl));have n2_:=aM (hb);have n3_:=aM (hi);clear HO420;clear HK;clear HB;clear HI0;have HO420:=n0_;have HK:=n1_;have HB:=n2_;have HI0:=n3_;clear n0_ n1_ n2_ n3_;(try clear hb);(try clear hb2);(try clear hk);(try clear hi)))
   go_meet
   case rel => exact ⟨_,(decide (t422 > 0)),(t423),(by first|rfl|(simp;done)|(simp [*];done)),H',⟨by first|omega|exact Nat.le_refl _⟩,⟨by (with_reducible repeat (first|apply Kd.N_alloc|apply Kd.N_drewN|apply Kd.N_drew));exact HO420.out⟩,⟨by repeat (first|(with_reducible first|exact HI0.out|apply IsS82.alloc|apply IsS82.drewN|apply IsS82.drew|apply IsS82.set_1)|exact HI0.out)⟩,⟨by repeat (first|(with_reducible first|exact HK.out|apply KeepBut.set_|apply keep_drewN|apply keep_drew|apply keep_alloc)|exact HK.out)⟩,⟨by repeat (first|(with_reducible first|exact HB.out|apply bA|apply bN|apply bD|refine below_set ?_ (IsS82.ge HI0.out))|exact HB.out)⟩⟩
  ·rw [if_neg c5] at H
   have c5b0 : decide (0 < (t418.length : Int)) = false:=decide_eq_false c5
   have c5b1 : decide (0 < t418.length) = false:=decide_eq_false (by omega)
   clear c5
   (first|rw [c5b0]|rw [c5b1]|(simp only [i64_w,i32_w];rw [c5b0])|skip)
   have H':=aM H
   clear H
   obtain ⟨Ao9,co9,eo9⟩:=Kd.N_slice HO420.out
   subst eo9
   go_wp2
   go_meet
   case rel => exact ⟨_,(false),(t421),(by first|rfl|(simp;done)|(simp [*];done)),H',⟨by first|omega|exact Nat.le_refl _⟩,⟨by (with_reducible repeat (first|apply Kd.N_alloc|apply Kd.N_drewN|apply Kd.N_drew));exact HO420.out⟩,⟨by repeat (first|(with_reducible first|exact HI0.out|apply IsS82.alloc|apply IsS82.drewN|apply IsS82.drew|apply IsS82.set_1)|exact HI0.out)⟩,⟨by repeat (first|(with_reducible first|exact HK.out|apply KeepBut.set_|apply keep_drewN|apply keep_drew|apply keep_alloc)|exact HK.out)⟩,⟨by repeat (first|(with_reducible first|exact HB.out|apply bA|apply bN|apply bD|refine below_set ?_ (IsS82.ge HI0.out))|exact HB.out)⟩⟩
 case rest =>
  clear HC3
  try clear p2
  try clear c4
  try clear c5
  try clear c5b0
  try clear c5b1
  obtain ⟨kq,x14_2,x1001_2,rfl,HA,HJ2,HO_4,HI0,HK,HB⟩:=hcut
  cases kq with
  | zero => exact absurd HA.out (by simp [spec_l71Some.j0])
  | succ kj2 =>
   have H:=HA.out
   clear HA
   simp only [spec_l71Some.j0] at H
   by_cases c10 : x14_2 = true
   ·subst c10
    have H1 : ((spec_l6Rd_pick.f kj2 s0_0 x1001_2 (t418.length : Int)).bind fun bt424 => (if 0 ≤ bt424.1 then (if bt424.1 < (t418.length : Int) then ((spec_l1Copy.f ((rd_T48 t418 bt424.1).f1)).bind fun t427 => (some (t418,t427,bt424.2))) else (none)) else (none))) = some (r1,r2,r3):=by rw [if_pos rfl] at H;exact H
    clear H
    have H:=H1
    clear H1
    replace H:=Option.bind_eq_some_iff.mp H
    obtain ⟨⟨t424,t425⟩,A110,H⟩:=H
    replace H : (if 0 ≤ t424 then (if t424 < (t418.length : Int) then ((spec_l1Copy.f ((rd_T48 t418 t424).f1)).bind fun t427 => (some (t418,t427,t425))) else (none)) else (none)) = some (r1,r2,r3):=H
    have A11:=aM A110
    clear A110
    by_cases c12 : 0 ≤ t424
    case neg => rw [if_neg c12] at H;exact absurd H (by simp)
    rw [if_pos c12] at H
    have c12b0 : decide (0 ≤ t424) = true:=decide_eq_true c12
    clear c12
    by_cases c13 : t424 < (t418.length : Int)
    case neg => rw [if_neg c13] at H;exact absurd H (by simp)
    rw [if_pos c13] at H
    have c13b0 : decide (t424 < (t418.length : Int)) = true:=decide_eq_true c13
    clear c13
    replace H:=Option.bind_eq_some_iff.mp H
    obtain ⟨t427,A140,H⟩:=H
    replace H : (some (t418,t427,t425)) = some (r1,r2,r3):=H
    have A14:=aM A140
    clear A140
    simp only [Option.some.injEq,Prod.mk.injEq] at H
    obtain ⟨rfl,rfl,rfl⟩:=H
    obtain ⟨Ao15,co15,eo15⟩:=Kd.N_slice HO_4.out
    subst eo15
    go_wp2_with (first|((with_reducible refine gate_callee (f:=59) rfl ?_);refine goesL_ (some 20) rfl rfl Try.func59 (by kernel_rfl) rfl #[.pointer (some ⟨g,0,none⟩),.int .i64 (t418.length : Int)] rfl (by (try simp only [List.map_toArray,List.map_cons,List.map_nil]);first|done|rfl|(simp only [List.length_drop,List.length_take];rfl)) ?_;(with_reducible refine (spec_l6Rd_pick.calls kj2 g s0_0 x1001_2 (t418.length : Int) t424 t425 w0 _ ?side1 ?side2 A11.out).mono ?_);(case side1 => repeat (first|(with_reducible first|exact HI0.out|apply IsS82.alloc|apply IsS82.drewN|apply IsS82.drew|apply IsS82.set_1)|exact HI0.out));(case side2 => repeat (first|(with_reducible first|exact HB.out|apply bA|apply bN|apply bD|refine below_set ?_ (IsS82.ge HI0.out))|exact HB.out));rintro e w16 ⟨rfl,hi,hb,hk⟩;refine ⟨_,rfl,?_⟩;have n0_:=aM (Kd.N_mono (Kd.N_keep (Kd.N_mono (ok:=fun k_ => (((w.heap.size ≤ k_)) ∧ k_ ≠ g)) (by (with_reducible repeat (first|apply Kd.N_alloc|apply Kd.N_drewN|apply Kd.N_drew));exact HO_4.out) (fun k_ hk_ => (⟨hk_,hk_.2⟩ : _ ∧ k_ ≠ g))) hk (fun _ h => h.2)) (fun _ h => h.1));have n1_:=aM (KeepBut.trans (by repeat (first|(with_reducible first|exact HK.out|apply KeepBut.set_|apply keep_drewN|apply keep_drew|apply keep_alloc)|exact HK.out)) hk (.inl rfl));have n2_:=aM (hb);have n3_:=aM (hi);clear HO_4;clear HK;clear HB;clear HI0;have HO_4:=n0_;have HK:=n1_;have HB:=n2_;have HI0:=n3_;clear n0_ n1_ n2_ n3_;(try clear hb);(try clear hb2);(try clear hk);(try clear hi);have p426 : 0 ≤ (t424 : Int):=of_decide_eq_true (by first|(with_reducible assumption)|assumption);have q426 : t424 < (t418.length : Int):=of_decide_eq_true (by first|(with_reducible assumption)|assumption);obtain ⟨ad426,A426_1,c426_1,e426,hx426_0,hx426_1,hl426_1,hi426_1⟩:=at_T48 (Kd.N_reads' HO_4.out).2.2 t424 p426 q426;cases e426;obtain ⟨ce426,hce426,hMe426,hcc426⟩:=Kd.N_get HO_4.out z48 t424 p426 (by first|exact q426|exact of_decide_eq_true (by first|(with_reducible assumption)|assumption)|(have e_:=(Kd.N_reads' HO_4.out).1;omega));obtain ⟨ua426_1,uc426_1,rfl,ul426_1,ge426_1⟩:=k48_openF hMe426;have hv426_1:=hcc426 1 _ rfl;rw [add_field _ _ 1 (by omega)] at hv426_1;replace hv426_1:=Option.some.inj (hv426_1.symm.trans hx426_1);injection hv426_1 with hva_ hvn_ hvc_;rw [hva_] at ge426_1;rw [hvc_] at ul426_1;have HL426_1:=aM (show Kd.V k58 58 _ w.heap.size _ _ ((rd_T48 t418 t424).f1) from Kd.V_mk ul426_1 ge426_1);clear hva_ hvn_ hvc_ ge426_1 ul426_1;clear hcc426 hce426;have HR426_1:=aM hi426_1;have HC426_1:=aM hl426_1;clear hi426_1 hl426_1;replace p426:=eq_true p426;replace q426:=eq_true q426)|((with_reducible refine gate_callee (f:=60) rfl ?_);refine goesL_ (some 24) rfl rfl Try.func60 (by kernel_rfl) rfl #[.slice A426_1 ((rd_T48 t418 t424).f1).length c426_1] rfl (by (try simp only [List.map_toArray,List.map_cons,List.map_nil]);first|done|rfl|(simp only [List.length_drop,List.length_take];rfl)) ?_;(with_reducible refine (spec_l1Copy.calls _ _ ((rd_T48 t418 t424).f1) t427 _ ?side1 ?side2 A14.out).mono ?_);(case side1 => repeat (first|exact (by repeat (first|(with_reducible exact HR426_1.out)|(with_reducible refine Kd.C_alloc ?_ _)|(with_reducible refine Kd.C_drewN ?_ _)|(with_reducible refine Kd.C_drew ?_)|exact HR426_1.out))|(with_reducible refine Kd.C_alloc ?_ _)|(with_reducible refine Kd.C_drewN ?_ _)|(with_reducible refine Kd.C_drew ?_)));(case side2 => exact HC426_1.out);rintro e w17 ⟨v428,rfl,ho0,hb⟩;refine ⟨_,rfl,?_⟩;have n0_:=aM (Kd.N_elder' (by (with_reducible repeat (first|apply Kd.N_alloc|apply Kd.N_drewN|apply Kd.N_drew));exact HO_4.out) (Kd.R_base ho0) hb);have n1_:=aM (Kd.V_elder' (by (with_reducible repeat (first|apply Kd.V_alloc|apply Kd.V_drewN|apply Kd.V_drew));exact HL426_1.out) (Kd.R_base ho0) hb);have n2_:=aM (Kd.R_lower (Kd.R_newM (M:=fun k_ => (w.heap.size ≤ k_)) ho0 (keep_size (w:=w) (g:=g) (row:=none) (by repeat (first|(with_reducible first|exact HK.out|apply KeepBut.set_|apply keep_drewN|apply keep_drew|apply keep_alloc)|exact HK.out))) (fun k_ h_ => h_)) (keep_size (w:=w) (g:=g) (row:=none) (by repeat (first|(with_reducible first|exact HK.out|apply KeepBut.set_|apply keep_drewN|apply keep_drew|apply keep_alloc)|exact HK.out))));have n3_:=aM (IsS82.below (by repeat (first|(with_reducible first|exact HI0.out|apply IsS82.alloc|apply IsS82.drewN|apply IsS82.drew|apply IsS82.set_1)|exact HI0.out)) hb);have n4_:=aM (Kd.C_below (by repeat (first|(with_reducible exact HR426_1.out)|(with_reducible refine Kd.C_alloc ?_ _)|(with_reducible refine Kd.C_drewN ?_ _)|(with_reducible refine Kd.C_drew ?_)|exact HR426_1.out)) hb);have n5_:=aM (KeepBut.trans (by repeat (first|(with_reducible first|exact HK.out|apply KeepBut.set_|apply keep_drewN|apply keep_drew|apply keep_alloc)|exact HK.out)) (KeepBut.of_below hb g none) (.inl rfl));have n6_:=aM (below_step (by repeat (first|(with_reducible first|exact HB.out|apply bA|apply bN|apply bD|refine below_set ?_ (IsS82.ge HI0.out))|exact HB.out)) hb);clear HO_4;clear HL426_1;clear HI0;clear HR426_1;clear HK;clear HB;have HO_4:=n0_;have HL426_1:=n1_;have HO429:=n2_;have HI0:=n3_;have HR426_1:=n4_;have HK:=n5_;have HB:=n6_;clear n0_ n1_ n2_ n3_ n4_ n5_ n6_;(try clear hb);(try clear hb2);(try clear hk);(try clear hi);(try clear ho0)))
    go_ret2
    exact ⟨_,_,by first|rfl|(simp only [i64_w,i32_w];done)|(simp only [i64_w,i32_w];rfl)|(simp [errW_none,errW_some] <;> rfl)|(simp [*,errW_none,errW_some] <;> rfl),by (with_reducible repeat (first|apply Kd.N_alloc|apply Kd.N_drewN|apply Kd.N_drew));exact Kd.N_mono HO_4.out (fun _ hk => ⟨hk.1.1,hk.2⟩),by (with_reducible repeat (first|apply Kd.R_alloc|apply Kd.R_drewN|apply Kd.R_drew));exact Kd.R_mono HO429.out (fun _ hk => hk.1),by repeat (first|(with_reducible first|exact HI0.out|apply IsS82.alloc|apply IsS82.drewN|apply IsS82.drew|apply IsS82.set_1)|exact HI0.out),by repeat (first|(with_reducible first|exact HB.out|apply bA|apply bN|apply bD|refine below_set ?_ (IsS82.ge HI0.out))|exact HB.out),by repeat (first|(with_reducible first|exact HK.out|apply KeepBut.set_|apply keep_drewN|apply keep_drew|apply keep_alloc)|exact HK.out)⟩
   ·replace c10:=Bool.eq_false_iff.mpr c10
    subst c10
    have H1 : ((spec_l71Off.f kj2 s0_0 x1001_2).bind fun bt430 => (some (t418,bt430.1,bt430.2))) = some (r1,r2,r3):=by rw [if_neg (show ¬ (false = true) by decide)] at H;exact H
    clear H
    have H:=H1
    clear H1
    replace H:=Option.bind_eq_some_iff.mp H
    obtain ⟨⟨t430,t433⟩,A180,H⟩:=H
    replace H : (some (t418,t430,t433)) = some (r1,r2,r3):=H
    have A18:=aM A180
    clear A180
    simp only [Option.some.injEq,Prod.mk.injEq] at H
    obtain ⟨rfl,rfl,rfl⟩:=H
    go_wp2_with (first|((with_reducible refine gate_callee (f:=61) rfl ?_);refine goesL_ (some 27) rfl rfl Try.func61 (by kernel_rfl) rfl #[.pointer (some ⟨g,0,none⟩)] rfl (by (try simp only [List.map_toArray,List.map_cons,List.map_nil]);first|done|rfl|(simp only [List.length_drop,List.length_take];rfl)) ?_;(with_reducible refine (spec_l71Off.calls kj2 g s0_0 x1001_2 t430 t433 w0 _ ?side1 ?side2 A18.out).mono ?_);(case side1 => repeat (first|(with_reducible first|exact HI0.out|apply IsS82.alloc|apply IsS82.drewN|apply IsS82.drew|apply IsS82.set_1)|exact HI0.out));(case side2 => repeat (first|(with_reducible first|exact HB.out|apply bA|apply bN|apply bD|refine below_set ?_ (IsS82.ge HI0.out))|exact HB.out));rintro e w19 ⟨v431,rfl,ho0,hi,hb,hk⟩;refine ⟨_,rfl,?_⟩;have n0_:=aM (Kd.N_mono (Kd.N_told (Kd.N_oldK (Kd.N_mono (ok:=fun k_ => (((w.heap.size ≤ k_)) ∧ k_ ≠ g)) (by (with_reducible repeat (first|apply Kd.N_alloc|apply Kd.N_drewN|apply Kd.N_drew));exact HO_4.out) (fun k_ hk_ => (⟨hk_,hk_.2⟩ : _ ∧ k_ ≠ g))) hk) (Kd.R_base ho0)) (fun _ h_ => h_.1));have n1_:=aM (Kd.R_lower (Kd.R_newM (M:=fun k_ => (w.heap.size ≤ k_)) ho0 (keep_size (w:=w) (g:=g) (row:=none) (by repeat (first|(with_reducible first|exact HK.out|apply KeepBut.set_|apply keep_drewN|apply keep_drew|apply keep_alloc)|exact HK.out))) (fun k_ h_ => h_)) (keep_size (w:=w) (g:=g) (row:=none) (by repeat (first|(with_reducible first|exact HK.out|apply KeepBut.set_|apply keep_drewN|apply keep_drew|apply keep_alloc)|exact HK.out))));have n2_:=aM (KeepBut.trans (by repeat (first|(with_reducible first|exact HK.out|apply KeepBut.set_|apply keep_drewN|apply keep_drew|apply keep_alloc)|exact HK.out)) hk (.inl rfl));have n3_:=aM (hb);have n4_:=aM (hi);clear HO_4;clear HK;clear HB;clear HI0;have HO_4:=n0_;have HO432:=n1_;have HK:=n2_;have HB:=n3_;have HI0:=n4_;clear n0_ n1_ n2_ n3_ n4_;(try clear hb);(try clear hb2);(try clear hk);(try clear hi);(try clear ho0)))
    go_ret2
    exact ⟨_,_,by first|rfl|(simp only [i64_w,i32_w];done)|(simp only [i64_w,i32_w];rfl)|(simp [errW_none,errW_some] <;> rfl)|(simp [*,errW_none,errW_some] <;> rfl),by (with_reducible repeat (first|apply Kd.N_alloc|apply Kd.N_drewN|apply Kd.N_drew));exact Kd.N_mono HO_4.out (fun _ hk => ⟨hk.1.1,hk.2⟩),by (with_reducible repeat (first|apply Kd.R_alloc|apply Kd.R_drewN|apply Kd.R_drew));exact Kd.R_mono HO432.out (fun _ hk => hk.1),by repeat (first|(with_reducible first|exact HI0.out|apply IsS82.alloc|apply IsS82.drewN|apply IsS82.drew|apply IsS82.set_1)|exact HI0.out),by repeat (first|(with_reducible first|exact HB.out|apply bA|apply bN|apply bD|refine below_set ?_ (IsS82.ge HI0.out))|exact HB.out),by repeat (first|(with_reducible first|exact HK.out|apply KeepBut.set_|apply keep_drewN|apply keep_drew|apply keep_alloc)|exact HK.out)⟩

/-! ### spec_l6Open: function 45 -/
def spec_l6Open.f (l0 : List Int) : Option (List Int × Int):=if (l0.length : Int) > 2000 then (if 2000 ≤ (l0.length : Int) then (some (l0.take 2000,0)) else (none)) else (some (l0,0))
set_option maxHeartbeats 8000000 in
set_option maxRecDepth 100000 in
theorem spec_l6Open.calls (A0 : Option Addr) (c0 : Nat) (l0 : List Int) (r1 : List Int) (r2 : Int) (w0 w : World) (hB : Below w0.heap.size w0 w) (hr0 : Kd.C (Kd.int .u8) w0 A0 l0.length l0) (hc0 : l0.length ≤ c0) (h : spec_l6Open.f l0 = some (r1,r2)) :
  Calls Try.prog 45 #[.slice A0 l0.length c0] w fun e w' => ∃ g_ : Nat,e = .returned (.pointer (some ⟨g_,0,none⟩)) ∧ IsS82 w0 w' g_ r1 r2 ∧ Below w0.heap.size w0 w' ∧ Below w.heap.size w w':=by
 have hu82:=Try.underlying82
 have HR0:=aM hr0
 have HC0:=aM hc0
 clear hr0 hc0
 have HBW:=aM (Below.refl w.heap.size w)
 have HW0:=aM hB.size
 have HB:=aM hB
 clear hB
 have H : (if (l0.length : Int) > 2000 then (if 2000 ≤ (l0.length : Int) then (some (l0.take 2000,0)) else (none)) else (some (l0,0))) = some (r1,r2):=h
 clear h
 by_cases c2 : (l0.length : Int) > 2000
 ·rw [if_pos c2] at H
  have c2b0 : decide (2000 < (l0.length : Int)) = true:=decide_eq_true c2
  have c2b1 : decide (2000 < l0.length) = true:=decide_eq_true (by omega)
  clear c2
  by_cases c3 : 2000 ≤ (l0.length : Int)
  case neg => rw [if_neg c3] at H;exact absurd H (by simp)
  rw [if_pos c3] at H
  have c3b0:=eq_true c3
  have c3b1 : decide (2000 ≤ (l0.length : Int)) = true:=decide_eq_true c3
  clear c3
  simp only [Option.some.injEq,Prod.mk.injEq] at H
  obtain ⟨rfl,rfl⟩:=H
  obtain ⟨i04,hi04,_,hsz4,_⟩:=info_parts info5
  obtain ⟨hcut4,hA4,hC4⟩:=print_take_of (P:=Try.prog) (Value.int .u8) 0 40 5 .i64 Try.underlying40 hi04 hsz4 A0 c0 l0 2000 (by omega) (of_decide_eq_true (by first|(with_reducible assumption)|assumption)) HC0.out
  have HR434:=aM (Kd.C_of_reads (h1:=fun _ => rfl) (hA4 _ (Kd.reads_of_C HR0.out)))
  have HC434:=aM hC4
  clear hA4 hC4 hi04 hsz4
  go_enter Try.func45,Try.ntmps45
  go_wp2_with (first|((with_reducible refine gate_dst (N:=10) rfl ?_);refine box_event ?hg (N:=10) ?hd (cs:=#[.slice A0 (l0.take 2000).length c0,.int .i64 0]) (t:=82) ?hr ?_;(case hd => rfl);(case hg => rfl);(case hr => first|(go_simp;done)|(go_simp;rfl));intro gb435 hg w5 hbox hb;have n0_:=aM (below_step HBW.out hb);have n1_:=aM (below_step (by repeat (first|(with_reducible first|exact HB.out|apply bA|apply bN|apply bD)|exact HB.out)) hb);have n2_:=aM (hbox);have n3_:=aM ((by rw [hg];exact (below_size (by repeat (first|(with_reducible first|exact HBW.out|apply bA|apply bN|apply bD)|exact HBW.out))) : w.heap.size ≤ gb435));have n4_:=aM ((Nat.le_trans HW0.out (by rw [hg];exact (below_size (by repeat (first|(with_reducible first|exact HBW.out|apply bA|apply bN|apply bD)|exact HBW.out))) : w.heap.size ≤ gb435) : w0.heap.size ≤ gb435));clear HBW;clear HB;have HBW:=n0_;have HB:=n1_;have BK435:=n2_;have GW435:=n3_;have GE435:=n4_;clear n0_ n1_ n2_ n3_ n4_;clear hb hbox hg))
  go_ret
  exact ⟨_,rfl,(show IsS82 w0 _ gb435 (l0.take 2000) 0 from ⟨_,_,by (with_reducible repeat (first|refine blk_drewN ?_ _|refine blk_drew ?_|refine blk_alloc ?_ _));exact BK435.out,GE435.out,HR434.out⟩),by repeat (first|(with_reducible first|exact HB.out|apply bA|apply bN|apply bD|refine below_set ?_ GE435.out)|exact HB.out),by repeat (first|(with_reducible first|exact HBW.out|apply bA|apply bN|apply bD|refine below_set ?_ GW435.out)|exact HBW.out)⟩
 ·rw [if_neg c2] at H
  have c2b0 : decide (2000 < (l0.length : Int)) = false:=decide_eq_false c2
  have c2b1 : decide (2000 < l0.length) = false:=decide_eq_false (by omega)
  clear c2
  simp only [Option.some.injEq,Prod.mk.injEq] at H
  obtain ⟨rfl,rfl⟩:=H
  go_enter Try.func45,Try.ntmps45
  go_wp2_with (first|((with_reducible refine gate_dst (N:=10) rfl ?_);refine box_event ?hg (N:=10) ?hd (cs:=#[.slice A0 l0.length c0,.int .i64 0]) (t:=82) ?hr ?_;(case hd => rfl);(case hg => rfl);(case hr => first|(go_simp;done)|(go_simp;rfl));intro gb436 hg w6 hbox hb;have n0_:=aM (below_step HBW.out hb);have n1_:=aM (below_step (by repeat (first|(with_reducible first|exact HB.out|apply bA|apply bN|apply bD)|exact HB.out)) hb);have n2_:=aM (hbox);have n3_:=aM ((by rw [hg];exact (below_size (by repeat (first|(with_reducible first|exact HBW.out|apply bA|apply bN|apply bD)|exact HBW.out))) : w.heap.size ≤ gb436));have n4_:=aM ((Nat.le_trans HW0.out (by rw [hg];exact (below_size (by repeat (first|(with_reducible first|exact HBW.out|apply bA|apply bN|apply bD)|exact HBW.out))) : w.heap.size ≤ gb436) : w0.heap.size ≤ gb436));clear HBW;clear HB;have HBW:=n0_;have HB:=n1_;have BK436:=n2_;have GW436:=n3_;have GE436:=n4_;clear n0_ n1_ n2_ n3_ n4_;clear hb hbox hg))
  go_ret
  exact ⟨_,rfl,(show IsS82 w0 _ gb436 l0 0 from ⟨_,_,by (with_reducible repeat (first|refine blk_drewN ?_ _|refine blk_drew ?_|refine blk_alloc ?_ _));exact BK436.out,GE436.out,HR0.out⟩),by repeat (first|(with_reducible first|exact HB.out|apply bA|apply bN|apply bD|refine below_set ?_ GE436.out)|exact HB.out),by repeat (first|(with_reducible first|exact HBW.out|apply bA|apply bN|apply bD|refine below_set ?_ GW436.out)|exact HBW.out)⟩

/-! ### spec_DrawTreeSure: function 25 -/
def spec_DrawTreeSure.f (k : Nat) (l0 : List Int) : Option ((List (S48)) × (List (S58))):=(spec_l6Open.f l0).bind fun bt437 => ((spec_l71Some.f k bt437.1 bt437.2).bind fun bt440 => (some (bt440.1,bt440.2.1)))
theorem spec_DrawTreeSure.mono : ∀ a0 k,LeO (spec_DrawTreeSure.f k a0) (spec_DrawTreeSure.f (k + 1) a0):=by
 intro a0 k
 unfold spec_DrawTreeSure.f
 repeat' first
   | exact LeO.refl _
   | exact spec_l71Some.mono _ _ _
   | exact LeO.none _
   | refine LeO.ite ?_ ?_
   | refine LeO.bind ?_ (fun _ => ?_)
set_option maxHeartbeats 8000000 in
set_option maxRecDepth 100000 in
theorem spec_DrawTreeSure.calls (k : Nat) (A0 : Option Addr) (c0 : Nat) (l0 : List Int) (r1 : List (S48)) (r2 : List (S58)) (w : World) (hr0 : Kd.C (Kd.int .u8) w A0 l0.length l0) (hc0 : l0.length ≤ c0) (h : spec_DrawTreeSure.f k l0 = some (r1,r2)) :
  Calls Try.prog 25 #[.slice A0 l0.length c0] w fun e w' => ∃ v0_ v1_ : Value,e = .returned (.tuple #[v0_,v1_]) ∧ Kd.N k48 48 w' w.heap.size (fun k_ => (w.heap.size ≤ k_) ∧ some k_ ≠ (v1_ : Value).ownBlock) v0_ r1 ∧ Kd.R k58 58 w' w.heap.size (fun k_ => (w.heap.size ≤ k_)) v1_ r2 ∧ Below w.heap.size w w':=by
 have HR0:=aM hr0
 have HC0:=aM hc0
 clear hr0 hc0
 have HB:=aM (Below.refl w.heap.size w)
 have H : ((spec_l6Open.f l0).bind fun bt437 => ((spec_l71Some.f k bt437.1 bt437.2).bind fun bt440 => (some (bt440.1,bt440.2.1)))) = some (r1,r2):=h
 clear h
 replace H:=Option.bind_eq_some_iff.mp H
 obtain ⟨⟨t437,t438⟩,A20,H⟩:=H
 replace H : ((spec_l71Some.f k t437 t438).bind fun bt440 => (some (bt440.1,bt440.2.1))) = some (r1,r2):=H
 have A2:=aM A20
 clear A20
 replace H:=Option.bind_eq_some_iff.mp H
 obtain ⟨⟨t440,t443,t446⟩,A30,H⟩:=H
 replace H : (some (t440,t443)) = some (r1,r2):=H
 have A3:=aM A30
 clear A30
 simp only [Option.some.injEq,Prod.mk.injEq] at H
 obtain ⟨rfl,rfl⟩:=H
 go_enter Try.func25,Try.ntmps25
 go_wp2_with (first|((with_reducible refine gate_callee (f:=45) rfl ?_);refine goesL_ (some 5) rfl rfl Try.func45 (by kernel_rfl) rfl #[.slice A0 l0.length c0] rfl (by (try simp only [List.map_toArray,List.map_cons,List.map_nil]);first|done|rfl|(simp only [List.length_drop,List.length_take];rfl)) ?_;(with_reducible refine (spec_l6Open.calls _ _ l0 t437 t438 w _ ?side1 ?side2 ?side3 A2.out).mono ?_);(case side1 => repeat (first|(with_reducible first|exact HB.out|apply bA|apply bN|apply bD)|exact HB.out));(case side2 => exact HR0.out);(case side3 => exact HC0.out);rintro e w4 ⟨g439,rfl,hi,hb,hb2⟩;refine ⟨_,rfl,?_⟩;have n0_:=aM (hb);have n1_:=aM (hi);clear HB;have HB:=n0_;have HI439:=n1_;clear n0_ n1_;(try clear hb);(try clear hb2);(try clear hk);(try clear hi))|((with_reducible refine gate_callee (f:=44) rfl ?_);refine goesL_ (some 6) rfl rfl Try.func44 (by kernel_rfl) rfl #[.pointer (some ⟨g439,0,none⟩)] rfl (by (try simp only [List.map_toArray,List.map_cons,List.map_nil]);first|done|rfl|(simp only [List.length_drop,List.length_take];rfl)) ?_;(with_reducible refine (spec_l71Some.calls k g439 t437 t438 t440 t443 t446 w _ ?side1 ?side2 A3.out).mono ?_);(case side1 => repeat (first|(with_reducible first|exact HI439.out|apply IsS82.alloc|apply IsS82.drewN|apply IsS82.drew|apply IsS82.set_1)|exact HI439.out));(case side2 => repeat (first|(with_reducible first|exact HB.out|apply bA|apply bN|apply bD|refine below_set ?_ (IsS82.ge HI439.out))|exact HB.out));rintro e w5 ⟨v441,v444,rfl,ho0,ho1,hi,hb,hk⟩;refine ⟨_,rfl,?_⟩;have n0_:=aM (Kd.N_lower (Kd.N_mono (ok':=fun k_ => (w.heap.size ≤ k_) ∧ some k_ ≠ (v444 : Value).ownBlock ∧ k_ ≠ g439) ho0 (fun k_ hk_ => ⟨(Nat.le_trans (below_size (by repeat (first|(with_reducible first|exact HB.out|apply bA|apply bN|apply bD|refine below_set ?_ (IsS82.ge HI439.out))|exact HB.out))) hk_.1),hk_.2,(IsS82.fresh (by repeat (first|(with_reducible first|exact HI439.out|apply IsS82.alloc|apply IsS82.drewN|apply IsS82.drew|apply IsS82.set_1)|exact HI439.out)) k_ hk_.1)⟩)) (below_size (by repeat (first|(with_reducible first|exact HB.out|apply bA|apply bN|apply bD|refine below_set ?_ (IsS82.ge HI439.out))|exact HB.out))));have n1_:=aM (Kd.R_lower (Kd.R_newM (M:=fun k_ => (w.heap.size ≤ k_)) (Kd.R_mono (ok':=fun k_ => True) ho1 (fun _ hk_ => trivial)) (below_size (by repeat (first|(with_reducible first|exact HB.out|apply bA|apply bN|apply bD|refine below_set ?_ (IsS82.ge HI439.out))|exact HB.out))) (fun k_ h_ => h_)) (below_size (by repeat (first|(with_reducible first|exact HB.out|apply bA|apply bN|apply bD|refine below_set ?_ (IsS82.ge HI439.out))|exact HB.out))));have n2_:=aM (hb);have n3_:=aM (hi);clear HB;clear HI439;have HO442:=n0_;have HO445:=n1_;have HB:=n2_;have HI439:=n3_;clear n0_ n1_ n2_ n3_;(try clear hb);(try clear hb2);(try clear hk);(try clear hi);(try clear ho0);(try clear ho1)))
 go_ret2
 exact ⟨_,_,by first|rfl|(simp only [i64_w,i32_w];done)|(simp only [i64_w,i32_w];rfl)|(simp [errW_none,errW_some] <;> rfl)|(simp [*,errW_none,errW_some] <;> rfl),by (with_reducible repeat (first|apply Kd.N_alloc|apply Kd.N_drewN|apply Kd.N_drew));exact Kd.N_mono HO442.out (fun _ hk => ⟨hk.1,hk.2.1⟩),by (with_reducible repeat (first|apply Kd.R_alloc|apply Kd.R_drewN|apply Kd.R_drew));exact Kd.R_mono HO445.out (fun _ hk => hk.1),by repeat (first|(with_reducible first|exact HB.out|apply bA|apply bN|apply bD|refine below_set ?_ (IsS82.ge HI439.out))|exact HB.out)⟩

end Go.Proofs.Ytknmmkgaijndfaa.P
