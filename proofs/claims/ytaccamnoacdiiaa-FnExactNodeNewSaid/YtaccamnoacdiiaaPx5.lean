/- The printed functions: what each Go function computes, as a Lean function, and that the Go code comes to just that. Conditions: none beyond each contract's own. -/
import Derived.Test.YtaccamnoacdiiaaPx0
import Derived.Test.YtaccamnoacdiiaaPx2
import Derived.Test.YtaccamnoacdiiaaPx3
import Derived.Test.YtaccamnoacdiiaaPx4
namespace Go.Proofs.Ytaccamnoacdiiaa.P
open Go.RowKit Go.Proofs.YtaccamnoacdiiaaW.PrintWords Go.Proofs.YtaccamnoacdiiaaW.PrintLast Go.Proofs.YtaccamnoacdiiaaW.PrintMore
attribute [local go_sem] max2_int min2_int max_two min_two max_three min_three max_four min_four   -- for this text's walks alone
set_option linter.unusedVariables false
set_option linter.unusedSimpArgs false

/-! ### laws_FnExactNodeNew: function 5 -/
mutual
def laws_FnExactNodeNew.j0 : Nat → Int → Bool → Bool → Int → Int → Int → List (S25) → Int → Int → Int → List (S25) → Option (Bool)
 | 0,_,_,_,_,_,_,_,_,_,_,_ => none
 | k + 1,x0,x4,x29,x156000,x156001,x156002,x156003,x164000,x164001,x164002,x164003 => if x29 = true then (some false) else ((laws_markNode.f x164000 x164001 x164002 x164003 1).bind fun t165 => ((laws_heldNode.f k x164000 x164001 x164002 x164003 1).bind fun t166 => (if t166 < 0 then (some false) else (if t166 = t165 then ((impl_NodeNew.f x0).bind fun bt167 => ((laws_eqNode.f k bt167.1 bt167.2.1 bt167.2.2.1 bt167.2.2.2.1 x156000 x156001 x156002 x156003).bind fun t175 => (if t175 = true then (laws_FnExactNodeNew.j1 k t165 (bt167.2.2.2.2 != x4) x164000 x164001 x164002 x164003) else (laws_FnExactNodeNew.j1 k t165 true x164000 x164001 x164002 x164003)))) else (some false)))))
def laws_FnExactNodeNew.j1 : Nat → Int → Bool → Int → Int → Int → List (S25) → Option (Bool)
 | 0,_,_,_,_,_,_ => none
 | k + 1,x7,x54,x164000,x164001,x164002,x164003 => if x54 = true then (some false) else ((laws_heldNode.f k x164000 x164001 x164002 x164003 1).bind fun t176 => (if t176 < 0 then (some false) else (if t176 = x7 then (some true) else (some false))))
end
def laws_FnExactNodeNew.f (k : Nat) (a0 : Int) : Option (Bool):=(spec_NodeNew.f a0).bind fun bt148 => ((impl_NodeNew.f a0).bind fun bt156 => ((laws_eqNode.f k bt156.1 bt156.2.1 bt156.2.2.1 bt156.2.2.2.1 bt148.1 bt148.2.1 bt148.2.2.1 bt148.2.2.2.1).bind fun t164 => (if t164 = true then (laws_FnExactNodeNew.j0 k a0 bt148.2.2.2.2 (bt156.2.2.2.2 != bt148.2.2.2.2) bt148.1 bt148.2.1 bt148.2.2.1 bt148.2.2.2.1 bt156.1 bt156.2.1 bt156.2.2.1 bt156.2.2.2.1) else (laws_FnExactNodeNew.j0 k a0 bt148.2.2.2.2 true bt148.1 bt148.2.1 bt148.2.2.1 bt148.2.2.2.1 bt156.1 bt156.2.1 bt156.2.2.1 bt156.2.2.2.1))))
theorem laws_FnExactNodeNew.mono_l : ∀ k,(∀ y0 y1 y2 y3 y4 y5 y6 y7 y8 y9 y10,LeO (laws_FnExactNodeNew.j0 k y0 y1 y2 y3 y4 y5 y6 y7 y8 y9 y10) (laws_FnExactNodeNew.j0 (k + 1) y0 y1 y2 y3 y4 y5 y6 y7 y8 y9 y10)) ∧ (∀ y0 y1 y2 y3 y4 y5,LeO (laws_FnExactNodeNew.j1 k y0 y1 y2 y3 y4 y5) (laws_FnExactNodeNew.j1 (k + 1) y0 y1 y2 y3 y4 y5))
 | 0 => ⟨fun _ _ _ _ _ _ _ _ _ _ _ r h => by simp [laws_FnExactNodeNew.j0] at h,fun _ _ _ _ _ _ r h => by simp [laws_FnExactNodeNew.j1] at h⟩
 | k + 1 => by
  obtain ⟨ih0,ih1⟩:=laws_FnExactNodeNew.mono_l k
  refine ⟨?_,?_⟩
  ·intro y0 y1 y2 y3 y4 y5 y6 y7 y8 y9 y10
   unfold laws_FnExactNodeNew.j0
   repeat' first
   | (with_reducible exact ih0 _ _ _ _ _ _ _ _ _ _ _)
   | (with_reducible exact ih1 _ _ _ _ _ _)
   | (with_reducible exact laws_eqNode.mono _ _ _ _ _ _ _ _ _)
   | (with_reducible exact laws_heldNode.mono _ _ _ _ _ _)
   | (with_reducible exact LeO.refl _)
   | (with_reducible exact LeO.none _)
   | (with_reducible refine LeO.ite ?_ ?_)
   | (with_reducible refine LeO.bind ?_ (fun _ => ?_))
   | exact ih0 _ _ _ _ _ _ _ _ _ _ _
   | exact ih1 _ _ _ _ _ _
   | exact laws_eqNode.mono _ _ _ _ _ _ _ _ _
   | exact laws_heldNode.mono _ _ _ _ _ _
   | exact LeO.none _
   | refine LeO.ite ?_ ?_
   | refine LeO.bind ?_ (fun _ => ?_)
  ·intro y0 y1 y2 y3 y4 y5
   unfold laws_FnExactNodeNew.j1
   repeat' first
   | (with_reducible exact ih0 _ _ _ _ _ _ _ _ _ _ _)
   | (with_reducible exact ih1 _ _ _ _ _ _)
   | (with_reducible exact laws_eqNode.mono _ _ _ _ _ _ _ _ _)
   | (with_reducible exact laws_heldNode.mono _ _ _ _ _ _)
   | (with_reducible exact LeO.refl _)
   | (with_reducible exact LeO.none _)
   | (with_reducible refine LeO.ite ?_ ?_)
   | (with_reducible refine LeO.bind ?_ (fun _ => ?_))
   | exact ih0 _ _ _ _ _ _ _ _ _ _ _
   | exact ih1 _ _ _ _ _ _
   | exact laws_eqNode.mono _ _ _ _ _ _ _ _ _
   | exact laws_heldNode.mono _ _ _ _ _ _
   | exact LeO.none _
   | refine LeO.ite ?_ ?_
   | refine LeO.bind ?_ (fun _ => ?_)
theorem laws_FnExactNodeNew.mono : ∀ a0 k,LeO (laws_FnExactNodeNew.f k a0) (laws_FnExactNodeNew.f (k + 1) a0):=by
 intro a0 k
 obtain ⟨ih0,ih1⟩:=laws_FnExactNodeNew.mono_l k
 unfold laws_FnExactNodeNew.f
 repeat' first
   | (with_reducible exact ih0 _ _ _ _ _ _ _ _ _ _ _)
   | (with_reducible exact ih1 _ _ _ _ _ _)
   | (with_reducible exact laws_eqNode.mono _ _ _ _ _ _ _ _ _)
   | (with_reducible exact laws_heldNode.mono _ _ _ _ _ _)
   | (with_reducible exact LeO.refl _)
   | (with_reducible exact LeO.none _)
   | (with_reducible refine LeO.ite ?_ ?_)
   | (with_reducible refine LeO.bind ?_ (fun _ => ?_))
   | exact ih0 _ _ _ _ _ _ _ _ _ _ _
   | exact ih1 _ _ _ _ _ _
   | exact laws_eqNode.mono _ _ _ _ _ _ _ _ _
   | exact laws_heldNode.mono _ _ _ _ _ _
   | exact LeO.none _
   | refine LeO.ite ?_ ?_
   | refine LeO.bind ?_ (fun _ => ?_)
set_option maxHeartbeats 8000000 in
set_option maxRecDepth 100000 in
theorem laws_FnExactNodeNew.calls (k : Nat) (a0 : Int) (r : Bool) (w : World) (h : laws_FnExactNodeNew.f k a0 = some r) :
  Calls Try.prog 5 #[.int .i64 a0] w fun e w' => e = .returned (.bool r) ∧ Below w.heap.size w w':=by
 have hu39:=Try.underlying39
 have HB:=aM (Below.refl w.heap.size w)
 have H : ((spec_NodeNew.f a0).bind fun bt148 => ((impl_NodeNew.f a0).bind fun bt156 => ((laws_eqNode.f k bt156.1 bt156.2.1 bt156.2.2.1 bt156.2.2.2.1 bt148.1 bt148.2.1 bt148.2.2.1 bt148.2.2.2.1).bind fun t164 => (if t164 = true then (laws_FnExactNodeNew.j0 k a0 bt148.2.2.2.2 (bt156.2.2.2.2 != bt148.2.2.2.2) bt148.1 bt148.2.1 bt148.2.2.1 bt148.2.2.2.1 bt156.1 bt156.2.1 bt156.2.2.1 bt156.2.2.2.1) else (laws_FnExactNodeNew.j0 k a0 bt148.2.2.2.2 true bt148.1 bt148.2.1 bt148.2.2.1 bt148.2.2.2.1 bt156.1 bt156.2.1 bt156.2.2.1 bt156.2.2.2.1))))) = some r:=h
 clear h
 replace H:=Option.bind_eq_some_iff.mp H
 obtain ⟨⟨t148,t149,t150,t151,t154⟩,A20,H⟩:=H
 replace H : ((impl_NodeNew.f a0).bind fun bt156 => ((laws_eqNode.f k bt156.1 bt156.2.1 bt156.2.2.1 bt156.2.2.2.1 t148 t149 t150 t151).bind fun t164 => (if t164 = true then (laws_FnExactNodeNew.j0 k a0 t154 (bt156.2.2.2.2 != t154) t148 t149 t150 t151 bt156.1 bt156.2.1 bt156.2.2.1 bt156.2.2.2.1) else (laws_FnExactNodeNew.j0 k a0 t154 true t148 t149 t150 t151 bt156.1 bt156.2.1 bt156.2.2.1 bt156.2.2.2.1)))) = some r:=H
 have A2:=aM A20
 clear A20
 replace H:=Option.bind_eq_some_iff.mp H
 obtain ⟨⟨t156,t157,t158,t159,t162⟩,A30,H⟩:=H
 replace H : ((laws_eqNode.f k t156 t157 t158 t159 t148 t149 t150 t151).bind fun t164 => (if t164 = true then (laws_FnExactNodeNew.j0 k a0 t154 (t162 != t154) t148 t149 t150 t151 t156 t157 t158 t159) else (laws_FnExactNodeNew.j0 k a0 t154 true t148 t149 t150 t151 t156 t157 t158 t159))) = some r:=H
 have A3:=aM A30
 clear A30
 have HC4:=aM H
 clear H
 go_enter Try.func5,Try.ntmps5
 go_upto_region 3 with (first|((with_reducible refine gate_callee (f:=16) rfl ?_);refine goesL_ (some 13) rfl rfl Try.func16 (by kernel_rfl) rfl #[.int .i64 a0] rfl (by (try simp only [List.map_toArray,List.map_cons,List.map_nil]);first|done|rfl|(simp only [List.length_drop,List.length_take];rfl)) ?_;(with_reducible refine (spec_NodeNew.calls a0 t148 t149 t150 t151 t154 _ A2.out).mono ?_);rintro e w5 ⟨v152,rfl,ho0,hb⟩;refine ⟨_,rfl,?_⟩;have n0_:=aM (Kd.R_lower ho0 (below_size (by repeat (first|(with_reducible first|exact HB.out|apply bA|apply bN|apply bD)|exact HB.out))));have n1_:=aM (below_step (by repeat (first|(with_reducible first|exact HB.out|apply bA|apply bN|apply bD)|exact HB.out)) hb);clear HB;have HO153:=n0_;have HB:=n1_;clear n0_ n1_;(try clear hb);(try clear hb2);(try clear hk);(try clear hi);(try clear ho0))|((with_reducible refine gate_dst (N:=3) rfl ?_);refine box_event ?hg (N:=3) ?hd (cs:=#[.int .i64 0,.int .i64 0,.int .i64 0,.slice none 0 0]) (t:=39) ?hr ?_;(case hd => rfl);(case hg => rfl);(case hr => first|(go_simp;done)|(go_simp;rfl));intro gb155 hg w6 hbox hb;have n0_:=aM (Kd.R_below (by (with_reducible repeat (first|apply Kd.R_alloc|apply Kd.R_drewN|apply Kd.R_drew));exact HO153.out) hb);have n1_:=aM (below_step (by repeat (first|(with_reducible first|exact HB.out|apply bA|apply bN|apply bD)|exact HB.out)) hb);have n2_:=aM (hbox);have n3_:=aM ((by rw [hg];exact (below_size (by repeat (first|(with_reducible first|exact HB.out|apply bA|apply bN|apply bD)|exact HB.out))) : w.heap.size ≤ gb155));have n4_:=aM ((by rw [hg];exact (below_size (by repeat (first|(with_reducible first|exact HB.out|apply bA|apply bN|apply bD)|exact HB.out))) : w.heap.size ≤ gb155));clear HO153;clear HB;have HO153:=n0_;have HB:=n1_;have BK155:=n2_;have GW155:=n3_;have GE155:=n4_;clear n0_ n1_ n2_ n3_ n4_;clear hb hbox hg;have hcz7_0 : w6.cell? ⟨gb155,0,none⟩ = some (.int .i64 0):=(blk_cell BK155.out 0).trans rfl;have hcz7_1 : w6.cell? ⟨gb155,1,none⟩ = some (.int .i64 0):=(blk_cell BK155.out 1).trans rfl;have hcz7_2 : w6.cell? ⟨gb155,2,none⟩ = some (.int .i64 0):=(blk_cell BK155.out 2).trans rfl;have hcz7_3 : w6.cell? ⟨gb155,3,none⟩ = some (.slice none 0 0):=(blk_cell BK155.out 3).trans rfl;have hfz7_0:=blk_frozen BK155.out 0;have hfz7_1:=blk_frozen BK155.out 1;have hfz7_2:=blk_frozen BK155.out 2;have hfz7_3:=blk_frozen BK155.out 3;obtain ⟨Ao8,co8,eo8⟩:=Kd.R_slice HO153.out;subst eo8)|((with_reducible refine gate_callee (f:=17) rfl ?_);refine goesL_ (some 18) rfl rfl Try.func17 (by kernel_rfl) rfl #[.int .i64 a0] rfl (by (try simp only [List.map_toArray,List.map_cons,List.map_nil]);first|done|rfl|(simp only [List.length_drop,List.length_take];rfl)) ?_;(with_reducible refine (impl_NodeNew.calls a0 t156 t157 t158 t159 t162 _ A3.out).mono ?_);rintro e w9 ⟨v160,rfl,ho0,hb⟩;refine ⟨_,rfl,?_⟩;have n0_:=aM (Kd.R_elder' (by (with_reducible repeat (first|apply Kd.R_alloc|apply Kd.R_drewN|apply Kd.R_drew));exact (Kd.R_mono (Kd.R_far (p:=⟨gb155,3,none⟩) (Kd.R_far (p:=⟨gb155,2,none⟩) (Kd.R_far (p:=⟨gb155,1,none⟩) (Kd.R_far (p:=⟨gb155,0,none⟩) (Kd.R_types HO153.out BK155.out (by decide)) (fun _ hk => hk.2) (.int .i64 t148)) (fun _ hk => hk.2) (.int .i64 t149)) (fun _ hk => hk.2) (.int .i64 t150)) (fun _ hk => hk.2) (.slice Ao8 t151.length co8)) (fun _ h_ => h_.1))) (Kd.R_base ho0) hb);have n1_:=aM (Kd.R_lower (Kd.R_new' ho0 (Kd.R_lt (by (with_reducible repeat (first|apply Kd.R_alloc|apply Kd.R_drewN|apply Kd.R_drew));exact (Kd.R_mono (Kd.R_far (p:=⟨gb155,3,none⟩) (Kd.R_far (p:=⟨gb155,2,none⟩) (Kd.R_far (p:=⟨gb155,1,none⟩) (Kd.R_far (p:=⟨gb155,0,none⟩) (Kd.R_types HO153.out BK155.out (by decide)) (fun _ hk => hk.2) (.int .i64 t148)) (fun _ hk => hk.2) (.int .i64 t149)) (fun _ hk => hk.2) (.int .i64 t150)) (fun _ hk => hk.2) (.slice Ao8 t151.length co8)) (fun _ h_ => h_.1))))) (below_size (by repeat (first|(with_reducible first|exact HB.out|apply bA|apply bN|apply bD|refine below_set ?_ GE155.out)|exact HB.out))));have n2_:=aM (blk_below (g:=gb155) (o:=.cells #[.int .i64 t148,.int .i64 t149,.int .i64 t150,.slice Ao8 t151.length co8] 39 (0,0)) (by (with_reducible repeat (first|refine blk_drewN ?_ _|refine blk_drew ?_|refine blk_alloc ?_ _));refine blk_put (cs:=#[.int .i64 t148,.int .i64 t149,.int .i64 t150,.slice none 0 0]) ?_ 3 _ rfl;(with_reducible repeat (first|refine blk_drewN ?_ _|refine blk_drew ?_|refine blk_alloc ?_ _));refine blk_put (cs:=#[.int .i64 t148,.int .i64 t149,.int .i64 0,.slice none 0 0]) ?_ 2 _ rfl;(with_reducible repeat (first|refine blk_drewN ?_ _|refine blk_drew ?_|refine blk_alloc ?_ _));refine blk_put (cs:=#[.int .i64 t148,.int .i64 0,.int .i64 0,.slice none 0 0]) ?_ 1 _ rfl;(with_reducible repeat (first|refine blk_drewN ?_ _|refine blk_drew ?_|refine blk_alloc ?_ _));refine blk_put (cs:=#[.int .i64 0,.int .i64 0,.int .i64 0,.slice none 0 0]) ?_ 0 _ rfl;(with_reducible repeat (first|refine blk_drewN ?_ _|refine blk_drew ?_|refine blk_alloc ?_ _));exact BK155.out) hb);have n3_:=aM (below_step (by repeat (first|(with_reducible first|exact HB.out|apply bA|apply bN|apply bD|refine below_set ?_ GE155.out)|exact HB.out)) hb);clear HO153;clear BK155;clear HB;have HO153:=n0_;have HO161:=n1_;have BK155:=n2_;have HB:=n3_;clear n0_ n1_ n2_ n3_;(try clear hb);(try clear hb2);(try clear hk);(try clear hi);(try clear ho0))|((with_reducible refine gate_dst (N:=5) rfl ?_);refine box_event ?hg (N:=5) ?hd (cs:=#[.int .i64 0,.int .i64 0,.int .i64 0,.slice none 0 0]) (t:=39) ?hr ?_;(case hd => rfl);(case hg => rfl);(case hr => first|(go_simp;done)|(go_simp;rfl));intro gb163 hg w10 hbox hb;have n0_:=aM (Kd.R_below (by (with_reducible repeat (first|apply Kd.R_alloc|apply Kd.R_drewN|apply Kd.R_drew));exact HO153.out) hb);have n1_:=aM (Kd.R_below (by (with_reducible repeat (first|apply Kd.R_alloc|apply Kd.R_drewN|apply Kd.R_drew));exact HO161.out) hb);have n2_:=aM (blk_below (g:=gb155) (o:=.cells #[.int .i64 t148,.int .i64 t149,.int .i64 t150,.slice Ao8 t151.length co8] 39 (0,0)) (by (with_reducible repeat (first|refine blk_drewN ?_ _|refine blk_drew ?_|refine blk_alloc ?_ _));exact BK155.out) hb);have n3_:=aM (below_step (by repeat (first|(with_reducible first|exact HB.out|apply bA|apply bN|apply bD|refine below_set ?_ GE155.out)|exact HB.out)) hb);have n4_:=aM (hbox);have n5_:=aM ((by rw [hg];exact (below_size (by repeat (first|(with_reducible first|exact HB.out|apply bA|apply bN|apply bD|refine below_set ?_ GE155.out)|exact HB.out))) : w.heap.size ≤ gb163));have n6_:=aM ((by rw [hg];exact (below_size (by repeat (first|(with_reducible first|exact HB.out|apply bA|apply bN|apply bD|refine below_set ?_ GE155.out)|exact HB.out))) : w.heap.size ≤ gb163));have n7_:=aM ((by rw [hg];exact Nat.ne_of_lt (blk_lt (g:=gb155) (o:=.cells #[.int .i64 t148,.int .i64 t149,.int .i64 t150,.slice Ao8 t151.length co8] 39 (0,0)) (by (with_reducible repeat (first|refine blk_drewN ?_ _|refine blk_drew ?_|refine blk_alloc ?_ _));exact BK155.out)) : gb155 ≠ gb163));have n8_:=aM ((by rw [hg];exact Nat.ne_of_gt (blk_lt (g:=gb155) (o:=.cells #[.int .i64 t148,.int .i64 t149,.int .i64 t150,.slice Ao8 t151.length co8] 39 (0,0)) (by (with_reducible repeat (first|refine blk_drewN ?_ _|refine blk_drew ?_|refine blk_alloc ?_ _));exact BK155.out)) : gb163 ≠ gb155));clear HO153;clear HO161;clear BK155;clear HB;have HO153:=n0_;have HO161:=n1_;have BK155:=n2_;have HB:=n3_;have BK163:=n4_;have GW163:=n5_;have GE163:=n6_;have NB155_163:=n7_;have NB163_155:=n8_;clear n0_ n1_ n2_ n3_ n4_ n5_ n6_ n7_ n8_;clear hb hbox hg;have hnb11:=NB163_155.out;have hnc11:=NB155_163.out;have hcz12_0 : w10.cell? ⟨gb163,0,none⟩ = some (.int .i64 0):=(blk_cell BK163.out 0).trans rfl;have hcz12_1 : w10.cell? ⟨gb163,1,none⟩ = some (.int .i64 0):=(blk_cell BK163.out 1).trans rfl;have hcz12_2 : w10.cell? ⟨gb163,2,none⟩ = some (.int .i64 0):=(blk_cell BK163.out 2).trans rfl;have hcz12_3 : w10.cell? ⟨gb163,3,none⟩ = some (.slice none 0 0):=(blk_cell BK163.out 3).trans rfl;have hfz12_0:=blk_frozen BK163.out 0;have hfz12_1:=blk_frozen BK163.out 1;have hfz12_2:=blk_frozen BK163.out 2;have hfz12_3:=blk_frozen BK163.out 3;obtain ⟨Ao13,co13,eo13⟩:=Kd.R_slice HO161.out;subst eo13))
 (try simp only [Act.put,sI,sZ,sS])
 go_cut [29] (fun v29 wc => ∃ (kq : Nat) (x29_3 : Bool),v29 = .bool x29_3 ∧ Aside0 (laws_FnExactNodeNew.j0 kq a0 t154 x29_3 t148 t149 t150 t151 t156 t157 t158 t159 = some r) ∧ Aside0 (kq ≤ k) ∧ Aside0 (Kd.R k25 25 wc w.heap.size (fun k_ => some k_ ≠ ((.slice Ao13 t159.length co13) : Value).ownBlock) (.slice Ao8 t151.length co8) t151) ∧ Aside0 (Kd.R k25 25 wc w.heap.size (fun k_ => some k_ ≠ ((.slice Ao8 t151.length co8) : Value).ownBlock) (.slice Ao13 t159.length co13) t159) ∧ Aside0 (wc.heap[gb155]? = some (.cells #[.int .i64 t148,.int .i64 t149,.int .i64 t150,(.slice Ao8 t151.length co8)] 39 (0,0))) ∧ Aside0 (wc.heap[gb163]? = some (.cells #[.int .i64 t156,.int .i64 t157,.int .i64 t158,(.slice Ao13 t159.length co13)] 39 (0,0))) ∧ Aside0 (Below w.heap.size w wc))
 case first =>
  have H:=HC4.out
  clear HC4
  replace H:=Option.bind_eq_some_iff.mp H
  obtain ⟨t164,A140,H⟩:=H
  replace H : (if t164 = true then (laws_FnExactNodeNew.j0 k a0 t154 (t162 != t154) t148 t149 t150 t151 t156 t157 t158 t159) else (laws_FnExactNodeNew.j0 k a0 t154 true t148 t149 t150 t151 t156 t157 t158 t159)) = some r:=H
  have A14:=aM A140
  clear A140
  by_cases c15 : t164 = true
  ·subst c15
   have H1 : (laws_FnExactNodeNew.j0 k a0 t154 (t162 != t154) t148 t149 t150 t151 t156 t157 t158 t159) = some r:=by rw [if_pos rfl] at H;exact H
   clear H
   have H:=H1
   clear H1
   have H':=aM H
   clear H
   have hnb16:=NB163_155.out
   have hnc16:=NB155_163.out
   have hcz17_0 : w10.cell? ⟨gb163,0,none⟩ = some (.int .i64 0):=(blk_cell BK163.out 0).trans rfl
   have hcz17_1 : w10.cell? ⟨gb163,1,none⟩ = some (.int .i64 0):=(blk_cell BK163.out 1).trans rfl
   have hcz17_2 : w10.cell? ⟨gb163,2,none⟩ = some (.int .i64 0):=(blk_cell BK163.out 2).trans rfl
   have hcz17_3 : w10.cell? ⟨gb163,3,none⟩ = some (.slice none 0 0):=(blk_cell BK163.out 3).trans rfl
   have hfz17_0:=blk_frozen BK163.out 0
   have hfz17_1:=blk_frozen BK163.out 1
   have hfz17_2:=blk_frozen BK163.out 2
   have hfz17_3:=blk_frozen BK163.out 3
   have hcz18_0 : w10.cell? ⟨gb155,0,none⟩ = some (.int .i64 t148):=(blk_cell BK155.out 0).trans rfl
   have hcz18_1 : w10.cell? ⟨gb155,1,none⟩ = some (.int .i64 t149):=(blk_cell BK155.out 1).trans rfl
   have hcz18_2 : w10.cell? ⟨gb155,2,none⟩ = some (.int .i64 t150):=(blk_cell BK155.out 2).trans rfl
   have hcz18_3 : w10.cell? ⟨gb155,3,none⟩ = some (.slice Ao8 t151.length co8):=(blk_cell BK155.out 3).trans rfl
   have hfz18_0:=blk_frozen BK155.out 0
   have hfz18_1:=blk_frozen BK155.out 1
   have hfz18_2:=blk_frozen BK155.out 2
   have hfz18_3:=blk_frozen BK155.out 3
   go_wp2_with (first|((with_reducible refine gate_callee (f:=18) rfl ?_);refine goesL_ (some 23) rfl rfl Try.func18 (by kernel_rfl) rfl #[.agg #[.int .i64 t156,.int .i64 t157,.int .i64 t158,.slice Ao13 t159.length co13],.agg #[.int .i64 t148,.int .i64 t149,.int .i64 t150,.slice Ao8 t151.length co8]] rfl (by (try simp only [List.map_toArray,List.map_cons,List.map_nil]);first|done|rfl|(simp only [List.length_drop,List.length_take];rfl)) ?_;(with_reducible refine (laws_eqNode.calls k t156 t157 t158 _ _ t159 t148 t149 t150 _ _ t151 true _ ?side1 ?side2 ?side3 ?side4 A14.out).mono ?_);(case side1 => refine (Kd.R_reads' (e:=25) (base:=w.heap.size) (ok:=fun k_ => (True ∧ some k_ ≠ (.slice Ao8 t151.length co8 : Value).ownBlock)) (n:=t159.length) (c:=co13) ?_).2.2;exact (by (with_reducible repeat (first|apply Kd.R_alloc|apply Kd.R_drewN|apply Kd.R_drew));exact (Kd.R_mono (Kd.R_far (p:=⟨gb163,3,none⟩) (Kd.R_far (p:=⟨gb163,2,none⟩) (Kd.R_far (p:=⟨gb163,1,none⟩) (Kd.R_far (p:=⟨gb163,0,none⟩) (Kd.R_types HO161.out BK163.out (by decide)) (fun _ hk => hk.2) (.int .i64 t156)) (fun _ hk => hk.2) (.int .i64 t157)) (fun _ hk => hk.2) (.int .i64 t158)) (fun _ hk => hk.2) (.slice Ao13 t159.length co13)) (fun _ h_ => h_.1))));(case side2 => exact (Kd.R_reads' HO161.out).2.1);(case side3 => refine (Kd.R_reads' (e:=25) (base:=w.heap.size) (ok:=fun k_ => (True ∧ some k_ ≠ (.slice Ao13 t159.length co13 : Value).ownBlock)) (n:=t151.length) (c:=co8) ?_).2.2;exact (by (with_reducible repeat (first|apply Kd.R_alloc|apply Kd.R_drewN|apply Kd.R_drew));exact (Kd.R_mono (Kd.R_far (p:=⟨gb163,3,none⟩) (Kd.R_far (p:=⟨gb163,2,none⟩) (Kd.R_far (p:=⟨gb163,1,none⟩) (Kd.R_far (p:=⟨gb163,0,none⟩) (Kd.R_types HO153.out BK163.out (by decide)) (fun _ hk => hk.2) (.int .i64 t156)) (fun _ hk => hk.2) (.int .i64 t157)) (fun _ hk => hk.2) (.int .i64 t158)) (fun _ hk => hk.2) (.slice Ao13 t159.length co13)) (fun _ h_ => h_.1))));(case side4 => exact (Kd.R_reads' HO153.out).2.1);rintro e w19 ⟨rfl,hb⟩;refine ⟨_,rfl,?_⟩;have n0_:=aM (Kd.R_below (by (with_reducible repeat (first|apply Kd.R_alloc|apply Kd.R_drewN|apply Kd.R_drew));exact (Kd.R_mono (Kd.R_far (p:=⟨gb163,3,none⟩) (Kd.R_far (p:=⟨gb163,2,none⟩) (Kd.R_far (p:=⟨gb163,1,none⟩) (Kd.R_far (p:=⟨gb163,0,none⟩) (Kd.R_types HO153.out BK163.out (by decide)) (fun _ hk => hk.2) (.int .i64 t156)) (fun _ hk => hk.2) (.int .i64 t157)) (fun _ hk => hk.2) (.int .i64 t158)) (fun _ hk => hk.2) (.slice Ao13 t159.length co13)) (fun _ h_ => h_.1))) hb);have n1_:=aM (Kd.R_below (by (with_reducible repeat (first|apply Kd.R_alloc|apply Kd.R_drewN|apply Kd.R_drew));exact (Kd.R_mono (Kd.R_far (p:=⟨gb163,3,none⟩) (Kd.R_far (p:=⟨gb163,2,none⟩) (Kd.R_far (p:=⟨gb163,1,none⟩) (Kd.R_far (p:=⟨gb163,0,none⟩) (Kd.R_types HO161.out BK163.out (by decide)) (fun _ hk => hk.2) (.int .i64 t156)) (fun _ hk => hk.2) (.int .i64 t157)) (fun _ hk => hk.2) (.int .i64 t158)) (fun _ hk => hk.2) (.slice Ao13 t159.length co13)) (fun _ h_ => h_.1))) hb);have n2_:=aM (blk_below (g:=gb155) (o:=.cells #[.int .i64 t148,.int .i64 t149,.int .i64 t150,.slice Ao8 t151.length co8] 39 (0,0)) (by (with_reducible repeat (first|refine blk_drewN ?_ _|refine blk_drew ?_|refine blk_alloc ?_ _));refine blk_far ?_ NB155_163.out _;(with_reducible repeat (first|refine blk_drewN ?_ _|refine blk_drew ?_|refine blk_alloc ?_ _));refine blk_far ?_ NB155_163.out _;(with_reducible repeat (first|refine blk_drewN ?_ _|refine blk_drew ?_|refine blk_alloc ?_ _));refine blk_far ?_ NB155_163.out _;(with_reducible repeat (first|refine blk_drewN ?_ _|refine blk_drew ?_|refine blk_alloc ?_ _));refine blk_far ?_ NB155_163.out _;(with_reducible repeat (first|refine blk_drewN ?_ _|refine blk_drew ?_|refine blk_alloc ?_ _));exact BK155.out) hb);have n3_:=aM (blk_below (g:=gb163) (o:=.cells #[.int .i64 t156,.int .i64 t157,.int .i64 t158,.slice Ao13 t159.length co13] 39 (0,0)) (by (with_reducible repeat (first|refine blk_drewN ?_ _|refine blk_drew ?_|refine blk_alloc ?_ _));refine blk_put (cs:=#[.int .i64 t156,.int .i64 t157,.int .i64 t158,.slice none 0 0]) ?_ 3 _ rfl;(with_reducible repeat (first|refine blk_drewN ?_ _|refine blk_drew ?_|refine blk_alloc ?_ _));refine blk_put (cs:=#[.int .i64 t156,.int .i64 t157,.int .i64 0,.slice none 0 0]) ?_ 2 _ rfl;(with_reducible repeat (first|refine blk_drewN ?_ _|refine blk_drew ?_|refine blk_alloc ?_ _));refine blk_put (cs:=#[.int .i64 t156,.int .i64 0,.int .i64 0,.slice none 0 0]) ?_ 1 _ rfl;(with_reducible repeat (first|refine blk_drewN ?_ _|refine blk_drew ?_|refine blk_alloc ?_ _));refine blk_put (cs:=#[.int .i64 0,.int .i64 0,.int .i64 0,.slice none 0 0]) ?_ 0 _ rfl;(with_reducible repeat (first|refine blk_drewN ?_ _|refine blk_drew ?_|refine blk_alloc ?_ _));exact BK163.out) hb);have n4_:=aM (below_step (by repeat (first|(with_reducible first|exact HB.out|apply bA|apply bN|apply bD|refine below_set ?_ GE155.out|refine below_set ?_ GE163.out)|exact HB.out)) hb);clear HO153;clear HO161;clear BK155;clear BK163;clear HB;have HO153:=n0_;have HO161:=n1_;have BK155:=n2_;have BK163:=n3_;have HB:=n4_;clear n0_ n1_ n2_ n3_ n4_;(try clear hb);(try clear hb2);(try clear hk);(try clear hi)))
   go_meet
   case rel => exact ⟨_,((t162 != t154)),(by first|rfl|(simp;done)|(simp [*];done)),H',⟨by first|omega|exact Nat.le_refl _⟩,⟨by (with_reducible repeat (first|apply Kd.R_alloc|apply Kd.R_drewN|apply Kd.R_drew));exact Kd.R_mono HO153.out (fun _ hk => hk.2)⟩,⟨by (with_reducible repeat (first|apply Kd.R_alloc|apply Kd.R_drewN|apply Kd.R_drew));exact Kd.R_mono HO161.out (fun _ hk => hk.2)⟩,⟨by (with_reducible repeat (first|refine blk_drewN ?_ _|refine blk_drew ?_|refine blk_alloc ?_ _));exact BK155.out⟩,⟨by (with_reducible repeat (first|refine blk_drewN ?_ _|refine blk_drew ?_|refine blk_alloc ?_ _));exact BK163.out⟩,⟨by repeat (first|(with_reducible first|exact HB.out|apply bA|apply bN|apply bD|refine below_set ?_ GE155.out|refine below_set ?_ GE163.out)|exact HB.out)⟩⟩
  ·replace c15:=Bool.eq_false_iff.mpr c15
   subst c15
   have H1 : (laws_FnExactNodeNew.j0 k a0 t154 true t148 t149 t150 t151 t156 t157 t158 t159) = some r:=by rw [if_neg (show ¬ (false = true) by decide)] at H;exact H
   clear H
   have H:=H1
   clear H1
   have H':=aM H
   clear H
   have hnb20:=NB163_155.out
   have hnc20:=NB155_163.out
   have hcz21_0 : w10.cell? ⟨gb163,0,none⟩ = some (.int .i64 0):=(blk_cell BK163.out 0).trans rfl
   have hcz21_1 : w10.cell? ⟨gb163,1,none⟩ = some (.int .i64 0):=(blk_cell BK163.out 1).trans rfl
   have hcz21_2 : w10.cell? ⟨gb163,2,none⟩ = some (.int .i64 0):=(blk_cell BK163.out 2).trans rfl
   have hcz21_3 : w10.cell? ⟨gb163,3,none⟩ = some (.slice none 0 0):=(blk_cell BK163.out 3).trans rfl
   have hfz21_0:=blk_frozen BK163.out 0
   have hfz21_1:=blk_frozen BK163.out 1
   have hfz21_2:=blk_frozen BK163.out 2
   have hfz21_3:=blk_frozen BK163.out 3
   have hcz22_0 : w10.cell? ⟨gb155,0,none⟩ = some (.int .i64 t148):=(blk_cell BK155.out 0).trans rfl
   have hcz22_1 : w10.cell? ⟨gb155,1,none⟩ = some (.int .i64 t149):=(blk_cell BK155.out 1).trans rfl
   have hcz22_2 : w10.cell? ⟨gb155,2,none⟩ = some (.int .i64 t150):=(blk_cell BK155.out 2).trans rfl
   have hcz22_3 : w10.cell? ⟨gb155,3,none⟩ = some (.slice Ao8 t151.length co8):=(blk_cell BK155.out 3).trans rfl
   have hfz22_0:=blk_frozen BK155.out 0
   have hfz22_1:=blk_frozen BK155.out 1
   have hfz22_2:=blk_frozen BK155.out 2
   have hfz22_3:=blk_frozen BK155.out 3
   go_wp2_with (first|((with_reducible refine gate_callee (f:=18) rfl ?_);refine goesL_ (some 23) rfl rfl Try.func18 (by kernel_rfl) rfl #[.agg #[.int .i64 t156,.int .i64 t157,.int .i64 t158,.slice Ao13 t159.length co13],.agg #[.int .i64 t148,.int .i64 t149,.int .i64 t150,.slice Ao8 t151.length co8]] rfl (by (try simp only [List.map_toArray,List.map_cons,List.map_nil]);first|done|rfl|(simp only [List.length_drop,List.length_take];rfl)) ?_;(with_reducible refine (laws_eqNode.calls k t156 t157 t158 _ _ t159 t148 t149 t150 _ _ t151 false _ ?side1 ?side2 ?side3 ?side4 A14.out).mono ?_);(case side1 => refine (Kd.R_reads' (e:=25) (base:=w.heap.size) (ok:=fun k_ => (True ∧ some k_ ≠ (.slice Ao8 t151.length co8 : Value).ownBlock)) (n:=t159.length) (c:=co13) ?_).2.2;exact (by (with_reducible repeat (first|apply Kd.R_alloc|apply Kd.R_drewN|apply Kd.R_drew));exact (Kd.R_mono (Kd.R_far (p:=⟨gb163,3,none⟩) (Kd.R_far (p:=⟨gb163,2,none⟩) (Kd.R_far (p:=⟨gb163,1,none⟩) (Kd.R_far (p:=⟨gb163,0,none⟩) (Kd.R_types HO161.out BK163.out (by decide)) (fun _ hk => hk.2) (.int .i64 t156)) (fun _ hk => hk.2) (.int .i64 t157)) (fun _ hk => hk.2) (.int .i64 t158)) (fun _ hk => hk.2) (.slice Ao13 t159.length co13)) (fun _ h_ => h_.1))));(case side2 => exact (Kd.R_reads' HO161.out).2.1);(case side3 => refine (Kd.R_reads' (e:=25) (base:=w.heap.size) (ok:=fun k_ => (True ∧ some k_ ≠ (.slice Ao13 t159.length co13 : Value).ownBlock)) (n:=t151.length) (c:=co8) ?_).2.2;exact (by (with_reducible repeat (first|apply Kd.R_alloc|apply Kd.R_drewN|apply Kd.R_drew));exact (Kd.R_mono (Kd.R_far (p:=⟨gb163,3,none⟩) (Kd.R_far (p:=⟨gb163,2,none⟩) (Kd.R_far (p:=⟨gb163,1,none⟩) (Kd.R_far (p:=⟨gb163,0,none⟩) (Kd.R_types HO153.out BK163.out (by decide)) (fun _ hk => hk.2) (.int .i64 t156)) (fun _ hk => hk.2) (.int .i64 t157)) (fun _ hk => hk.2) (.int .i64 t158)) (fun _ hk => hk.2) (.slice Ao13 t159.length co13)) (fun _ h_ => h_.1))));(case side4 => exact (Kd.R_reads' HO153.out).2.1);rintro e w23 ⟨rfl,hb⟩;refine ⟨_,rfl,?_⟩;have n0_:=aM (Kd.R_below (by (with_reducible repeat (first|apply Kd.R_alloc|apply Kd.R_drewN|apply Kd.R_drew));exact (Kd.R_mono (Kd.R_far (p:=⟨gb163,3,none⟩) (Kd.R_far (p:=⟨gb163,2,none⟩) (Kd.R_far (p:=⟨gb163,1,none⟩) (Kd.R_far (p:=⟨gb163,0,none⟩) (Kd.R_types HO153.out BK163.out (by decide)) (fun _ hk => hk.2) (.int .i64 t156)) (fun _ hk => hk.2) (.int .i64 t157)) (fun _ hk => hk.2) (.int .i64 t158)) (fun _ hk => hk.2) (.slice Ao13 t159.length co13)) (fun _ h_ => h_.1))) hb);have n1_:=aM (Kd.R_below (by (with_reducible repeat (first|apply Kd.R_alloc|apply Kd.R_drewN|apply Kd.R_drew));exact (Kd.R_mono (Kd.R_far (p:=⟨gb163,3,none⟩) (Kd.R_far (p:=⟨gb163,2,none⟩) (Kd.R_far (p:=⟨gb163,1,none⟩) (Kd.R_far (p:=⟨gb163,0,none⟩) (Kd.R_types HO161.out BK163.out (by decide)) (fun _ hk => hk.2) (.int .i64 t156)) (fun _ hk => hk.2) (.int .i64 t157)) (fun _ hk => hk.2) (.int .i64 t158)) (fun _ hk => hk.2) (.slice Ao13 t159.length co13)) (fun _ h_ => h_.1))) hb);have n2_:=aM (blk_below (g:=gb155) (o:=.cells #[.int .i64 t148,.int .i64 t149,.int .i64 t150,.slice Ao8 t151.length co8] 39 (0,0)) (by (with_reducible repeat (first|refine blk_drewN ?_ _|refine blk_drew ?_|refine blk_alloc ?_ _));refine blk_far ?_ NB155_163.out _;(with_reducible repeat (first|refine blk_drewN ?_ _|refine blk_drew ?_|refine blk_alloc ?_ _));refine blk_far ?_ NB155_163.out _;(with_reducible repeat (first|refine blk_drewN ?_ _|refine blk_drew ?_|refine blk_alloc ?_ _));refine blk_far ?_ NB155_163.out _;(with_reducible repeat (first|refine blk_drewN ?_ _|refine blk_drew ?_|refine blk_alloc ?_ _));refine blk_far ?_ NB155_163.out _;(with_reducible repeat (first|refine blk_drewN ?_ _|refine blk_drew ?_|refine blk_alloc ?_ _));exact BK155.out) hb);have n3_:=aM (blk_below (g:=gb163) (o:=.cells #[.int .i64 t156,.int .i64 t157,.int .i64 t158,.slice Ao13 t159.length co13] 39 (0,0)) (by (with_reducible repeat (first|refine blk_drewN ?_ _|refine blk_drew ?_|refine blk_alloc ?_ _));refine blk_put (cs:=#[.int .i64 t156,.int .i64 t157,.int .i64 t158,.slice none 0 0]) ?_ 3 _ rfl;(with_reducible repeat (first|refine blk_drewN ?_ _|refine blk_drew ?_|refine blk_alloc ?_ _));refine blk_put (cs:=#[.int .i64 t156,.int .i64 t157,.int .i64 0,.slice none 0 0]) ?_ 2 _ rfl;(with_reducible repeat (first|refine blk_drewN ?_ _|refine blk_drew ?_|refine blk_alloc ?_ _));refine blk_put (cs:=#[.int .i64 t156,.int .i64 0,.int .i64 0,.slice none 0 0]) ?_ 1 _ rfl;(with_reducible repeat (first|refine blk_drewN ?_ _|refine blk_drew ?_|refine blk_alloc ?_ _));refine blk_put (cs:=#[.int .i64 0,.int .i64 0,.int .i64 0,.slice none 0 0]) ?_ 0 _ rfl;(with_reducible repeat (first|refine blk_drewN ?_ _|refine blk_drew ?_|refine blk_alloc ?_ _));exact BK163.out) hb);have n4_:=aM (below_step (by repeat (first|(with_reducible first|exact HB.out|apply bA|apply bN|apply bD|refine below_set ?_ GE155.out|refine below_set ?_ GE163.out)|exact HB.out)) hb);clear HO153;clear HO161;clear BK155;clear BK163;clear HB;have HO153:=n0_;have HO161:=n1_;have BK155:=n2_;have BK163:=n3_;have HB:=n4_;clear n0_ n1_ n2_ n3_ n4_;(try clear hb);(try clear hb2);(try clear hk);(try clear hi)))
   go_meet
   case rel => exact ⟨_,(true),(by first|rfl|(simp;done)|(simp [*];done)),H',⟨by first|omega|exact Nat.le_refl _⟩,⟨by (with_reducible repeat (first|apply Kd.R_alloc|apply Kd.R_drewN|apply Kd.R_drew));exact Kd.R_mono HO153.out (fun _ hk => hk.2)⟩,⟨by (with_reducible repeat (first|apply Kd.R_alloc|apply Kd.R_drewN|apply Kd.R_drew));exact Kd.R_mono HO161.out (fun _ hk => hk.2)⟩,⟨by (with_reducible repeat (first|refine blk_drewN ?_ _|refine blk_drew ?_|refine blk_alloc ?_ _));exact BK155.out⟩,⟨by (with_reducible repeat (first|refine blk_drewN ?_ _|refine blk_drew ?_|refine blk_alloc ?_ _));exact BK163.out⟩,⟨by repeat (first|(with_reducible first|exact HB.out|apply bA|apply bN|apply bD|refine below_set ?_ GE155.out|refine below_set ?_ GE163.out)|exact HB.out)⟩⟩
 case rest =>
  clear HC4
  try clear c1
  try clear c2
  try clear p2
  try clear c5
  try clear c11
  try clear c15
  try clear c16
  try clear c17
  try clear c18
  try clear c20
  try clear hcz12_0
  try clear hcz12_1
  try clear hcz12_2
  try clear hcz12_3
  try clear hcz17_0
  try clear hcz17_1
  try clear hcz17_2
  try clear hcz17_3
  try clear hcz18_0
  try clear hcz18_1
  try clear hcz18_2
  try clear hcz18_3
  try clear hcz21_0
  try clear hcz21_1
  try clear hcz21_2
  try clear hcz21_3
  try clear hcz22_0
  try clear hcz22_1
  try clear hcz22_2
  try clear hcz22_3
  try clear hcz7_0
  try clear hcz7_1
  try clear hcz7_2
  try clear hcz7_3
  try clear hfz12_0
  try clear hfz12_1
  try clear hfz12_2
  try clear hfz12_3
  try clear hfz17_0
  try clear hfz17_1
  try clear hfz17_2
  try clear hfz17_3
  try clear hfz18_0
  try clear hfz18_1
  try clear hfz18_2
  try clear hfz18_3
  try clear hfz21_0
  try clear hfz21_1
  try clear hfz21_2
  try clear hfz21_3
  try clear hfz22_0
  try clear hfz22_1
  try clear hfz22_2
  try clear hfz22_3
  try clear hfz7_0
  try clear hfz7_1
  try clear hfz7_2
  try clear hfz7_3
  obtain ⟨kq,x29_3,rfl,HA,HJ3,HO_156003,HO_164003,BK155,BK163,HB⟩:=hcut
  cases kq with
  | zero => exact absurd HA.out (by simp [laws_FnExactNodeNew.j0])
  | succ kj3 =>
   have H:=HA.out
   clear HA
   simp only [laws_FnExactNodeNew.j0] at H
   by_cases c24 : x29_3 = true
   ·subst c24
    have H1 : (some false) = some r:=by rw [if_pos rfl] at H;exact H
    clear H
    have H:=H1
    clear H1
    obtain rfl:=Option.some.inj H
    go_wp2
    go_ret
    exact ⟨by first|rfl|(simp only [i64_w,i32_w];done)|(simp only [i64_w,i32_w];rfl)|(simp [errW_none,errW_some] <;> rfl)|(simp [*,errW_none,errW_some] <;> rfl),by repeat (first|(with_reducible first|exact HB.out|apply bA|apply bN|apply bD|refine below_set ?_ GE155.out|refine below_set ?_ GE163.out)|exact HB.out)⟩
   ·replace c24:=Bool.eq_false_iff.mpr c24
    subst c24
    have H1 : ((laws_markNode.f t156 t157 t158 t159 1).bind fun t165 => ((laws_heldNode.f kj3 t156 t157 t158 t159 1).bind fun t166 => (if t166 < 0 then (some false) else (if t166 = t165 then ((impl_NodeNew.f a0).bind fun bt167 => ((laws_eqNode.f kj3 bt167.1 bt167.2.1 bt167.2.2.1 bt167.2.2.2.1 t148 t149 t150 t151).bind fun t175 => (if t175 = true then (laws_FnExactNodeNew.j1 kj3 t165 (bt167.2.2.2.2 != t154) t156 t157 t158 t159) else (laws_FnExactNodeNew.j1 kj3 t165 true t156 t157 t158 t159)))) else (some false))))) = some r:=by rw [if_neg (show ¬ (false = true) by decide)] at H;exact H
    clear H
    have H:=H1
    clear H1
    replace H:=Option.bind_eq_some_iff.mp H
    obtain ⟨t165,A250,H⟩:=H
    replace H : ((laws_heldNode.f kj3 t156 t157 t158 t159 1).bind fun t166 => (if t166 < 0 then (some false) else (if t166 = t165 then ((impl_NodeNew.f a0).bind fun bt167 => ((laws_eqNode.f kj3 bt167.1 bt167.2.1 bt167.2.2.1 bt167.2.2.2.1 t148 t149 t150 t151).bind fun t175 => (if t175 = true then (laws_FnExactNodeNew.j1 kj3 t165 (bt167.2.2.2.2 != t154) t156 t157 t158 t159) else (laws_FnExactNodeNew.j1 kj3 t165 true t156 t157 t158 t159)))) else (some false)))) = some r:=H
    have A25:=aM A250
    clear A250
    replace H:=Option.bind_eq_some_iff.mp H
    obtain ⟨t166,A260,H⟩:=H
    replace H : (if t166 < 0 then (some false) else (if t166 = t165 then ((impl_NodeNew.f a0).bind fun bt167 => ((laws_eqNode.f kj3 bt167.1 bt167.2.1 bt167.2.2.1 bt167.2.2.2.1 t148 t149 t150 t151).bind fun t175 => (if t175 = true then (laws_FnExactNodeNew.j1 kj3 t165 (bt167.2.2.2.2 != t154) t156 t157 t158 t159) else (laws_FnExactNodeNew.j1 kj3 t165 true t156 t157 t158 t159)))) else (some false))) = some r:=H
    have A26:=aM A260
    clear A260
    by_cases c27 : t166 < 0
    ·rw [if_pos c27] at H
     have c27b0 : decide (t166 < 0) = true:=decide_eq_true c27
     clear c27
     obtain rfl:=Option.some.inj H
     have hnb28:=NB163_155.out
     have hnc28:=NB155_163.out
     have hcz29_0 : wc.cell? ⟨gb163,0,none⟩ = some (.int .i64 t156):=(blk_cell BK163.out 0).trans rfl
     have hcz29_1 : wc.cell? ⟨gb163,1,none⟩ = some (.int .i64 t157):=(blk_cell BK163.out 1).trans rfl
     have hcz29_2 : wc.cell? ⟨gb163,2,none⟩ = some (.int .i64 t158):=(blk_cell BK163.out 2).trans rfl
     have hcz29_3 : wc.cell? ⟨gb163,3,none⟩ = some (.slice Ao13 t159.length co13):=(blk_cell BK163.out 3).trans rfl
     have hfz29_0:=blk_frozen BK163.out 0
     have hfz29_1:=blk_frozen BK163.out 1
     have hfz29_2:=blk_frozen BK163.out 2
     have hfz29_3:=blk_frozen BK163.out 3
     go_wp2_with (first|((with_reducible refine gate_callee (f:=19) rfl ?_);refine goesL_ (some 32) rfl rfl Try.func19 (by kernel_rfl) rfl #[.agg #[.int .i64 t156,.int .i64 t157,.int .i64 t158,.slice Ao13 t159.length co13],.int .i64 1] rfl (by (try simp only [List.map_toArray,List.map_cons,List.map_nil]);first|done|rfl|(simp only [List.length_drop,List.length_take];rfl)) ?_;(with_reducible refine (laws_markNode.calls t156 t157 t158 _ _ t159 1 t165 _ ?side1 ?side2 A25.out).mono ?_);(case side1 => repeat (first|exact (Kd.R_reads' HO_164003.out).2.2|(with_reducible refine Kd.C_alloc ?_ _)|(with_reducible refine Kd.C_drewN ?_ _)|(with_reducible refine Kd.C_drew ?_)));(case side2 => exact (Kd.R_reads' HO_164003.out).2.1);rintro e w30 ⟨rfl,hb⟩;refine ⟨_,rfl,?_⟩;have n0_:=aM (Kd.R_below (by (with_reducible repeat (first|apply Kd.R_alloc|apply Kd.R_drewN|apply Kd.R_drew));exact HO_156003.out) hb);have n1_:=aM (Kd.R_below (by (with_reducible repeat (first|apply Kd.R_alloc|apply Kd.R_drewN|apply Kd.R_drew));exact HO_164003.out) hb);have n2_:=aM (blk_below (g:=gb155) (o:=.cells #[.int .i64 t148,.int .i64 t149,.int .i64 t150,.slice Ao8 t151.length co8] 39 (0,0)) (by (with_reducible repeat (first|refine blk_drewN ?_ _|refine blk_drew ?_|refine blk_alloc ?_ _));exact BK155.out) hb);have n3_:=aM (blk_below (g:=gb163) (o:=.cells #[.int .i64 t156,.int .i64 t157,.int .i64 t158,.slice Ao13 t159.length co13] 39 (0,0)) (by (with_reducible repeat (first|refine blk_drewN ?_ _|refine blk_drew ?_|refine blk_alloc ?_ _));exact BK163.out) hb);have n4_:=aM (below_step (by repeat (first|(with_reducible first|exact HB.out|apply bA|apply bN|apply bD|refine below_set ?_ GE155.out|refine below_set ?_ GE163.out)|exact HB.out)) hb);clear HO_156003;clear HO_164003;clear BK155;clear BK163;clear HB;have HO_156003:=n0_;have HO_164003:=n1_;have BK155:=n2_;have BK163:=n3_;have HB:=n4_;clear n0_ n1_ n2_ n3_ n4_;(try clear hb);(try clear hb2);(try clear hk);(try clear hi);have hcz31_0 : w30.cell? ⟨gb163,0,none⟩ = some (.int .i64 t156):=(blk_cell BK163.out 0).trans rfl;have hcz31_1 : w30.cell? ⟨gb163,1,none⟩ = some (.int .i64 t157):=(blk_cell BK163.out 1).trans rfl;have hcz31_2 : w30.cell? ⟨gb163,2,none⟩ = some (.int .i64 t158):=(blk_cell BK163.out 2).trans rfl;have hcz31_3 : w30.cell? ⟨gb163,3,none⟩ = some (.slice Ao13 t159.length co13):=(blk_cell BK163.out 3).trans rfl;have hfz31_0:=blk_frozen BK163.out 0;have hfz31_1:=blk_frozen BK163.out 1;have hfz31_2:=blk_frozen BK163.out 2;have hfz31_3:=blk_frozen BK163.out 3)|((with_reducible refine gate_callee (f:=20) rfl ?_);refine goesL_ (some 35) rfl rfl Try.func20 (by kernel_rfl) rfl #[.agg #[.int .i64 t156,.int .i64 t157,.int .i64 t158,.slice Ao13 t159.length co13],.int .i64 1] rfl (by (try simp only [List.map_toArray,List.map_cons,List.map_nil]);first|done|rfl|(simp only [List.length_drop,List.length_take];rfl)) ?_;(with_reducible refine (laws_heldNode.calls kj3 t156 t157 t158 _ _ t159 1 t166 _ ?side1 ?side2 A26.out).mono ?_);(case side1 => repeat (first|exact (Kd.R_reads' HO_164003.out).2.2|(with_reducible refine Kd.C_alloc ?_ _)|(with_reducible refine Kd.C_drewN ?_ _)|(with_reducible refine Kd.C_drew ?_)));(case side2 => exact (Kd.R_reads' HO_164003.out).2.1);rintro e w32 ⟨rfl,hb⟩;refine ⟨_,rfl,?_⟩;have n0_:=aM (Kd.R_below (by (with_reducible repeat (first|apply Kd.R_alloc|apply Kd.R_drewN|apply Kd.R_drew));exact HO_156003.out) hb);have n1_:=aM (Kd.R_below (by (with_reducible repeat (first|apply Kd.R_alloc|apply Kd.R_drewN|apply Kd.R_drew));exact HO_164003.out) hb);have n2_:=aM (blk_below (g:=gb155) (o:=.cells #[.int .i64 t148,.int .i64 t149,.int .i64 t150,.slice Ao8 t151.length co8] 39 (0,0)) (by (with_reducible repeat (first|refine blk_drewN ?_ _|refine blk_drew ?_|refine blk_alloc ?_ _));exact BK155.out) hb);have n3_:=aM (blk_below (g:=gb163) (o:=.cells #[.int .i64 t156,.int .i64 t157,.int .i64 t158,.slice Ao13 t159.length co13] 39 (0,0)) (by (with_reducible repeat (first|refine blk_drewN ?_ _|refine blk_drew ?_|refine blk_alloc ?_ _));exact BK163.out) hb);have n4_:=aM (below_step (by repeat (first|(with_reducible first|exact HB.out|apply bA|apply bN|apply bD|refine below_set ?_ GE155.out|refine below_set ?_ GE163.out)|exact HB.out)) hb);clear HO_156003;clear HO_164003;clear BK155;clear BK163;clear HB;have HO_156003:=n0_;have HO_164003:=n1_;have BK155:=n2_;have BK163:=n3_;have HB:=n4_;clear n0_ n1_ n2_ n3_ n4_;(try clear hb);(try clear hb2);(try clear hk);(try clear hi)))
     go_ret
     exact ⟨by first|rfl|(simp only [i64_w,i32_w];done)|(simp only [i64_w,i32_w];rfl)|(simp [errW_none,errW_some] <;> rfl)|(simp [*,errW_none,errW_some] <;> rfl),by repeat (first|(with_reducible first|exact HB.out|apply bA|apply bN|apply bD|refine below_set ?_ GE155.out|refine below_set ?_ GE163.out)|exact HB.out)⟩
    ·rw [if_neg c27] at H
     have c27b0 : decide (t166 < 0) = false:=decide_eq_false c27
     clear c27
     by_cases c33 : t166 = t165
     ·rw [if_pos c33] at H
      have c33b0 : (t166 == t165) = true:=beq_iff_eq.mpr c33
      have c33b1 : (t166 != t165) = false:=bne_eq_false_iff_eq.mpr c33
      clear c33
      replace H:=Option.bind_eq_some_iff.mp H
      obtain ⟨⟨t167,t168,t169,t170,t173⟩,A340,H⟩:=H
      replace H : ((laws_eqNode.f kj3 t167 t168 t169 t170 t148 t149 t150 t151).bind fun t175 => (if t175 = true then (laws_FnExactNodeNew.j1 kj3 t165 (t173 != t154) t156 t157 t158 t159) else (laws_FnExactNodeNew.j1 kj3 t165 true t156 t157 t158 t159))) = some r:=H
      have A34:=aM A340
      clear A340
      have HC35:=aM H
      clear H
      have hnb36:=NB163_155.out
      have hnc36:=NB155_163.out
      have hcz37_0 : wc.cell? ⟨gb163,0,none⟩ = some (.int .i64 t156):=(blk_cell BK163.out 0).trans rfl
      have hcz37_1 : wc.cell? ⟨gb163,1,none⟩ = some (.int .i64 t157):=(blk_cell BK163.out 1).trans rfl
      have hcz37_2 : wc.cell? ⟨gb163,2,none⟩ = some (.int .i64 t158):=(blk_cell BK163.out 2).trans rfl
      have hcz37_3 : wc.cell? ⟨gb163,3,none⟩ = some (.slice Ao13 t159.length co13):=(blk_cell BK163.out 3).trans rfl
      have hfz37_0:=blk_frozen BK163.out 0
      have hfz37_1:=blk_frozen BK163.out 1
      have hfz37_2:=blk_frozen BK163.out 2
      have hfz37_3:=blk_frozen BK163.out 3
      go_upto_region 14 with (first|((with_reducible refine gate_callee (f:=19) rfl ?_);refine goesL_ (some 32) rfl rfl Try.func19 (by kernel_rfl) rfl #[.agg #[.int .i64 t156,.int .i64 t157,.int .i64 t158,.slice Ao13 t159.length co13],.int .i64 1] rfl (by (try simp only [List.map_toArray,List.map_cons,List.map_nil]);first|done|rfl|(simp only [List.length_drop,List.length_take];rfl)) ?_;(with_reducible refine (laws_markNode.calls t156 t157 t158 _ _ t159 1 t165 _ ?side1 ?side2 A25.out).mono ?_);(case side1 => repeat (first|exact (Kd.R_reads' HO_164003.out).2.2|(with_reducible refine Kd.C_alloc ?_ _)|(with_reducible refine Kd.C_drewN ?_ _)|(with_reducible refine Kd.C_drew ?_)));(case side2 => exact (Kd.R_reads' HO_164003.out).2.1);rintro e w38 ⟨rfl,hb⟩;refine ⟨_,rfl,?_⟩;have n0_:=aM (Kd.R_below (by (with_reducible repeat (first|apply Kd.R_alloc|apply Kd.R_drewN|apply Kd.R_drew));exact HO_156003.out) hb);have n1_:=aM (Kd.R_below (by (with_reducible repeat (first|apply Kd.R_alloc|apply Kd.R_drewN|apply Kd.R_drew));exact HO_164003.out) hb);have n2_:=aM (blk_below (g:=gb155) (o:=.cells #[.int .i64 t148,.int .i64 t149,.int .i64 t150,.slice Ao8 t151.length co8] 39 (0,0)) (by (with_reducible repeat (first|refine blk_drewN ?_ _|refine blk_drew ?_|refine blk_alloc ?_ _));exact BK155.out) hb);have n3_:=aM (blk_below (g:=gb163) (o:=.cells #[.int .i64 t156,.int .i64 t157,.int .i64 t158,.slice Ao13 t159.length co13] 39 (0,0)) (by (with_reducible repeat (first|refine blk_drewN ?_ _|refine blk_drew ?_|refine blk_alloc ?_ _));exact BK163.out) hb);have n4_:=aM (below_step (by repeat (first|(with_reducible first|exact HB.out|apply bA|apply bN|apply bD|refine below_set ?_ GE155.out|refine below_set ?_ GE163.out)|exact HB.out)) hb);clear HO_156003;clear HO_164003;clear BK155;clear BK163;clear HB;have HO_156003:=n0_;have HO_164003:=n1_;have BK155:=n2_;have BK163:=n3_;have HB:=n4_;clear n0_ n1_ n2_ n3_ n4_;(try clear hb);(try clear hb2);(try clear hk);(try clear hi);have hcz39_0 : w38.cell? ⟨gb163,0,none⟩ = some (.int .i64 t156):=(blk_cell BK163.out 0).trans rfl;have hcz39_1 : w38.cell? ⟨gb163,1,none⟩ = some (.int .i64 t157):=(blk_cell BK163.out 1).trans rfl;have hcz39_2 : w38.cell? ⟨gb163,2,none⟩ = some (.int .i64 t158):=(blk_cell BK163.out 2).trans rfl;have hcz39_3 : w38.cell? ⟨gb163,3,none⟩ = some (.slice Ao13 t159.length co13):=(blk_cell BK163.out 3).trans rfl;have hfz39_0:=blk_frozen BK163.out 0;have hfz39_1:=blk_frozen BK163.out 1;have hfz39_2:=blk_frozen BK163.out 2;have hfz39_3:=blk_frozen BK163.out 3)|((with_reducible refine gate_callee (f:=20) rfl ?_);refine goesL_ (some 35) rfl rfl Try.func20 (by kernel_rfl) rfl #[.agg #[.int .i64 t156,.int .i64 t157,.int .i64 t158,.slice Ao13 t159.length co13],.int .i64 1] rfl (by (try simp only [List.map_toArray,List.map_cons,List.map_nil]);first|done|rfl|(simp only [List.length_drop,List.length_take];rfl)) ?_;(with_reducible refine (laws_heldNode.calls kj3 t156 t157 t158 _ _ t159 1 t166 _ ?side1 ?side2 A26.out).mono ?_);(case side1 => repeat (first|exact (Kd.R_reads' HO_164003.out).2.2|(with_reducible refine Kd.C_alloc ?_ _)|(with_reducible refine Kd.C_drewN ?_ _)|(with_reducible refine Kd.C_drew ?_)));(case side2 => exact (Kd.R_reads' HO_164003.out).2.1);rintro e w40 ⟨rfl,hb⟩;refine ⟨_,rfl,?_⟩;have n0_:=aM (Kd.R_below (by (with_reducible repeat (first|apply Kd.R_alloc|apply Kd.R_drewN|apply Kd.R_drew));exact HO_156003.out) hb);have n1_:=aM (Kd.R_below (by (with_reducible repeat (first|apply Kd.R_alloc|apply Kd.R_drewN|apply Kd.R_drew));exact HO_164003.out) hb);have n2_:=aM (blk_below (g:=gb155) (o:=.cells #[.int .i64 t148,.int .i64 t149,.int .i64 t150,.slice Ao8 t151.length co8] 39 (0,0)) (by (with_reducible repeat (first|refine blk_drewN ?_ _|refine blk_drew ?_|refine blk_alloc ?_ _));exact BK155.out) hb);have n3_:=aM (blk_below (g:=gb163) (o:=.cells #[.int .i64 t156,.int .i64 t157,.int .i64 t158,.slice Ao13 t159.length co13] 39 (0,0)) (by (with_reducible repeat (first|refine blk_drewN ?_ _|refine blk_drew ?_|refine blk_alloc ?_ _));exact BK163.out) hb);have n4_:=aM (below_step (by repeat (first|(with_reducible first|exact HB.out|apply bA|apply bN|apply bD|refine below_set ?_ GE155.out|refine below_set ?_ GE163.out)|exact HB.out)) hb);clear HO_156003;clear HO_164003;clear BK155;clear BK163;clear HB;have HO_156003:=n0_;have HO_164003:=n1_;have BK155:=n2_;have BK163:=n3_;have HB:=n4_;clear n0_ n1_ n2_ n3_ n4_;(try clear hb);(try clear hb2);(try clear hk);(try clear hi))|((with_reducible refine gate_callee (f:=17) rfl ?_);refine goesL_ (some 43) rfl rfl Try.func17 (by kernel_rfl) rfl #[.int .i64 a0] rfl (by (try simp only [List.map_toArray,List.map_cons,List.map_nil]);first|done|rfl|(simp only [List.length_drop,List.length_take];rfl)) ?_;(with_reducible refine (impl_NodeNew.calls a0 t167 t168 t169 t170 t173 _ A34.out).mono ?_);rintro e w41 ⟨v171,rfl,ho0,hb⟩;refine ⟨_,rfl,?_⟩;have n0_:=aM (Kd.R_elder' (by (with_reducible repeat (first|apply Kd.R_alloc|apply Kd.R_drewN|apply Kd.R_drew));exact HO_156003.out) (Kd.R_base ho0) hb);have n1_:=aM (Kd.R_elder' (by (with_reducible repeat (first|apply Kd.R_alloc|apply Kd.R_drewN|apply Kd.R_drew));exact HO_164003.out) (Kd.R_base ho0) hb);have n2_:=aM (Kd.R_lower (Kd.R_new' (Kd.R_new' ho0 (Kd.R_lt (by (with_reducible repeat (first|apply Kd.R_alloc|apply Kd.R_drewN|apply Kd.R_drew));exact HO_156003.out))) (Kd.R_lt (by (with_reducible repeat (first|apply Kd.R_alloc|apply Kd.R_drewN|apply Kd.R_drew));exact HO_164003.out))) (below_size (by repeat (first|(with_reducible first|exact HB.out|apply bA|apply bN|apply bD|refine below_set ?_ GE155.out|refine below_set ?_ GE163.out)|exact HB.out))));have n3_:=aM (blk_below (g:=gb155) (o:=.cells #[.int .i64 t148,.int .i64 t149,.int .i64 t150,.slice Ao8 t151.length co8] 39 (0,0)) (by (with_reducible repeat (first|refine blk_drewN ?_ _|refine blk_drew ?_|refine blk_alloc ?_ _));exact BK155.out) hb);have n4_:=aM (blk_below (g:=gb163) (o:=.cells #[.int .i64 t156,.int .i64 t157,.int .i64 t158,.slice Ao13 t159.length co13] 39 (0,0)) (by (with_reducible repeat (first|refine blk_drewN ?_ _|refine blk_drew ?_|refine blk_alloc ?_ _));exact BK163.out) hb);have n5_:=aM (below_step (by repeat (first|(with_reducible first|exact HB.out|apply bA|apply bN|apply bD|refine below_set ?_ GE155.out|refine below_set ?_ GE163.out)|exact HB.out)) hb);clear HO_156003;clear HO_164003;clear BK155;clear BK163;clear HB;have HO_156003:=n0_;have HO_164003:=n1_;have HO172:=n2_;have BK155:=n3_;have BK163:=n4_;have HB:=n5_;clear n0_ n1_ n2_ n3_ n4_ n5_;(try clear hb);(try clear hb2);(try clear hk);(try clear hi);(try clear ho0))|((with_reducible refine gate_dst (N:=9) rfl ?_);refine box_event ?hg (N:=9) ?hd (cs:=#[.int .i64 0,.int .i64 0,.int .i64 0,.slice none 0 0]) (t:=39) ?hr ?_;(case hd => rfl);(case hg => rfl);(case hr => first|(go_simp;done)|(go_simp;rfl));intro gb174 hg w42 hbox hb;have n0_:=aM (Kd.R_below (by (with_reducible repeat (first|apply Kd.R_alloc|apply Kd.R_drewN|apply Kd.R_drew));exact HO_156003.out) hb);have n1_:=aM (Kd.R_below (by (with_reducible repeat (first|apply Kd.R_alloc|apply Kd.R_drewN|apply Kd.R_drew));exact HO_164003.out) hb);have n2_:=aM (Kd.R_below (by (with_reducible repeat (first|apply Kd.R_alloc|apply Kd.R_drewN|apply Kd.R_drew));exact HO172.out) hb);have n3_:=aM (blk_below (g:=gb155) (o:=.cells #[.int .i64 t148,.int .i64 t149,.int .i64 t150,.slice Ao8 t151.length co8] 39 (0,0)) (by (with_reducible repeat (first|refine blk_drewN ?_ _|refine blk_drew ?_|refine blk_alloc ?_ _));exact BK155.out) hb);have n4_:=aM (blk_below (g:=gb163) (o:=.cells #[.int .i64 t156,.int .i64 t157,.int .i64 t158,.slice Ao13 t159.length co13] 39 (0,0)) (by (with_reducible repeat (first|refine blk_drewN ?_ _|refine blk_drew ?_|refine blk_alloc ?_ _));exact BK163.out) hb);have n5_:=aM (below_step (by repeat (first|(with_reducible first|exact HB.out|apply bA|apply bN|apply bD|refine below_set ?_ GE155.out|refine below_set ?_ GE163.out)|exact HB.out)) hb);have n6_:=aM (hbox);have n7_:=aM ((by rw [hg];exact (below_size (by repeat (first|(with_reducible first|exact HB.out|apply bA|apply bN|apply bD|refine below_set ?_ GE155.out|refine below_set ?_ GE163.out)|exact HB.out))) : w.heap.size ≤ gb174));have n8_:=aM ((by rw [hg];exact (below_size (by repeat (first|(with_reducible first|exact HB.out|apply bA|apply bN|apply bD|refine below_set ?_ GE155.out|refine below_set ?_ GE163.out)|exact HB.out))) : w.heap.size ≤ gb174));have n9_:=aM ((by rw [hg];exact Nat.ne_of_lt (blk_lt (g:=gb155) (o:=.cells #[.int .i64 t148,.int .i64 t149,.int .i64 t150,.slice Ao8 t151.length co8] 39 (0,0)) (by (with_reducible repeat (first|refine blk_drewN ?_ _|refine blk_drew ?_|refine blk_alloc ?_ _));exact BK155.out)) : gb155 ≠ gb174));have n10_:=aM ((by rw [hg];exact Nat.ne_of_gt (blk_lt (g:=gb155) (o:=.cells #[.int .i64 t148,.int .i64 t149,.int .i64 t150,.slice Ao8 t151.length co8] 39 (0,0)) (by (with_reducible repeat (first|refine blk_drewN ?_ _|refine blk_drew ?_|refine blk_alloc ?_ _));exact BK155.out)) : gb174 ≠ gb155));have n11_:=aM ((by rw [hg];exact Nat.ne_of_lt (blk_lt (g:=gb163) (o:=.cells #[.int .i64 t156,.int .i64 t157,.int .i64 t158,.slice Ao13 t159.length co13] 39 (0,0)) (by (with_reducible repeat (first|refine blk_drewN ?_ _|refine blk_drew ?_|refine blk_alloc ?_ _));exact BK163.out)) : gb163 ≠ gb174));have n12_:=aM ((by rw [hg];exact Nat.ne_of_gt (blk_lt (g:=gb163) (o:=.cells #[.int .i64 t156,.int .i64 t157,.int .i64 t158,.slice Ao13 t159.length co13] 39 (0,0)) (by (with_reducible repeat (first|refine blk_drewN ?_ _|refine blk_drew ?_|refine blk_alloc ?_ _));exact BK163.out)) : gb174 ≠ gb163));clear HO_156003;clear HO_164003;clear HO172;clear BK155;clear BK163;clear HB;have HO_156003:=n0_;have HO_164003:=n1_;have HO172:=n2_;have BK155:=n3_;have BK163:=n4_;have HB:=n5_;have BK174:=n6_;have GW174:=n7_;have GE174:=n8_;have NB155_174:=n9_;have NB174_155:=n10_;have NB163_174:=n11_;have NB174_163:=n12_;clear n0_ n1_ n2_ n3_ n4_ n5_ n6_ n7_ n8_ n9_ n10_ n11_ n12_;clear hb hbox hg;have hnb43:=NB174_155.out;have hnc43:=NB155_174.out;have hnb44:=NB174_163.out;have hnc44:=NB163_174.out;have hcz45_0 : w42.cell? ⟨gb174,0,none⟩ = some (.int .i64 0):=(blk_cell BK174.out 0).trans rfl;have hcz45_1 : w42.cell? ⟨gb174,1,none⟩ = some (.int .i64 0):=(blk_cell BK174.out 1).trans rfl;have hcz45_2 : w42.cell? ⟨gb174,2,none⟩ = some (.int .i64 0):=(blk_cell BK174.out 2).trans rfl;have hcz45_3 : w42.cell? ⟨gb174,3,none⟩ = some (.slice none 0 0):=(blk_cell BK174.out 3).trans rfl;have hfz45_0:=blk_frozen BK174.out 0;have hfz45_1:=blk_frozen BK174.out 1;have hfz45_2:=blk_frozen BK174.out 2;have hfz45_3:=blk_frozen BK174.out 3;obtain ⟨Ao46,co46,eo46⟩:=Kd.R_slice HO172.out;subst eo46))
      (try simp only [Act.put,sI,sZ,sS])
      go_cut [54] (fun v54 wc => ∃ (kq : Nat) (x54_34 : Bool),v54 = .bool x54_34 ∧ Aside0 (laws_FnExactNodeNew.j1 kq t165 x54_34 t156 t157 t158 t159 = some r) ∧ Aside0 (kq ≤ kj3) ∧ Aside0 (Kd.R k25 25 wc w.heap.size (fun k_ => some k_ ≠ ((.slice Ao13 t159.length co13) : Value).ownBlock ∧ some k_ ≠ ((.slice Ao46 t170.length co46) : Value).ownBlock) (.slice Ao8 t151.length co8) t151) ∧ Aside0 (Kd.R k25 25 wc w.heap.size (fun k_ => some k_ ≠ ((.slice Ao8 t151.length co8) : Value).ownBlock ∧ some k_ ≠ ((.slice Ao46 t170.length co46) : Value).ownBlock) (.slice Ao13 t159.length co13) t159) ∧ Aside0 (Kd.R k25 25 wc w.heap.size (fun k_ => some k_ ≠ ((.slice Ao8 t151.length co8) : Value).ownBlock ∧ some k_ ≠ ((.slice Ao13 t159.length co13) : Value).ownBlock) (.slice Ao46 t170.length co46) t170) ∧ Aside0 (wc.heap[gb155]? = some (.cells #[.int .i64 t148,.int .i64 t149,.int .i64 t150,(.slice Ao8 t151.length co8)] 39 (0,0))) ∧ Aside0 (wc.heap[gb163]? = some (.cells #[.int .i64 t156,.int .i64 t157,.int .i64 t158,(.slice Ao13 t159.length co13)] 39 (0,0))) ∧ Aside0 (wc.heap[gb174]? = some (.cells #[.int .i64 t167,.int .i64 t168,.int .i64 t169,(.slice Ao46 t170.length co46)] 39 (0,0))) ∧ Aside0 (Below w.heap.size w wc))
      case first =>
       have H:=HC35.out
       clear HC35
       replace H:=Option.bind_eq_some_iff.mp H
       obtain ⟨t175,A470,H⟩:=H
       replace H : (if t175 = true then (laws_FnExactNodeNew.j1 kj3 t165 (t173 != t154) t156 t157 t158 t159) else (laws_FnExactNodeNew.j1 kj3 t165 true t156 t157 t158 t159)) = some r:=H
       have A47:=aM A470
       clear A470
       by_cases c48 : t175 = true
       ·subst c48
        have H1 : (laws_FnExactNodeNew.j1 kj3 t165 (t173 != t154) t156 t157 t158 t159) = some r:=by rw [if_pos rfl] at H;exact H
        clear H
        have H:=H1
        clear H1
        have H':=aM H
        clear H
        have hnb49:=NB174_155.out
        have hnc49:=NB155_174.out
        have hnb50:=NB174_163.out
        have hnc50:=NB163_174.out
        have hcz51_0 : w42.cell? ⟨gb174,0,none⟩ = some (.int .i64 0):=(blk_cell BK174.out 0).trans rfl
        have hcz51_1 : w42.cell? ⟨gb174,1,none⟩ = some (.int .i64 0):=(blk_cell BK174.out 1).trans rfl
        have hcz51_2 : w42.cell? ⟨gb174,2,none⟩ = some (.int .i64 0):=(blk_cell BK174.out 2).trans rfl
        have hcz51_3 : w42.cell? ⟨gb174,3,none⟩ = some (.slice none 0 0):=(blk_cell BK174.out 3).trans rfl
        have hfz51_0:=blk_frozen BK174.out 0
        have hfz51_1:=blk_frozen BK174.out 1
        have hfz51_2:=blk_frozen BK174.out 2
        have hfz51_3:=blk_frozen BK174.out 3
        have hnb52:=NB155_163.out
        have hnc52:=NB163_155.out
        have hcz53_0 : w42.cell? ⟨gb155,0,none⟩ = some (.int .i64 t148):=(blk_cell BK155.out 0).trans rfl
        have hcz53_1 : w42.cell? ⟨gb155,1,none⟩ = some (.int .i64 t149):=(blk_cell BK155.out 1).trans rfl
        have hcz53_2 : w42.cell? ⟨gb155,2,none⟩ = some (.int .i64 t150):=(blk_cell BK155.out 2).trans rfl
        have hcz53_3 : w42.cell? ⟨gb155,3,none⟩ = some (.slice Ao8 t151.length co8):=(blk_cell BK155.out 3).trans rfl
        have hfz53_0:=blk_frozen BK155.out 0
        have hfz53_1:=blk_frozen BK155.out 1
        have hfz53_2:=blk_frozen BK155.out 2
        have hfz53_3:=blk_frozen BK155.out 3
        go_wp2_with (first|((with_reducible refine gate_callee (f:=18) rfl ?_);refine goesL_ (some 48) rfl rfl Try.func18 (by kernel_rfl) rfl #[.agg #[.int .i64 t167,.int .i64 t168,.int .i64 t169,.slice Ao46 t170.length co46],.agg #[.int .i64 t148,.int .i64 t149,.int .i64 t150,.slice Ao8 t151.length co8]] rfl (by (try simp only [List.map_toArray,List.map_cons,List.map_nil]);first|done|rfl|(simp only [List.length_drop,List.length_take];rfl)) ?_;(with_reducible refine (laws_eqNode.calls kj3 t167 t168 t169 _ _ t170 t148 t149 t150 _ _ t151 true _ ?side1 ?side2 ?side3 ?side4 A47.out).mono ?_);(case side1 => refine (Kd.R_reads' (e:=25) (base:=w.heap.size) (ok:=fun k_ => ((True ∧ some k_ ≠ (.slice Ao8 t151.length co8 : Value).ownBlock) ∧ some k_ ≠ (.slice Ao13 t159.length co13 : Value).ownBlock)) (n:=t170.length) (c:=co46) ?_).2.2;exact (by (with_reducible repeat (first|apply Kd.R_alloc|apply Kd.R_drewN|apply Kd.R_drew));exact (Kd.R_mono (Kd.R_far (p:=⟨gb174,3,none⟩) (Kd.R_far (p:=⟨gb174,2,none⟩) (Kd.R_far (p:=⟨gb174,1,none⟩) (Kd.R_far (p:=⟨gb174,0,none⟩) (Kd.R_types HO172.out BK174.out (by decide)) (fun _ hk => hk.2) (.int .i64 t167)) (fun _ hk => hk.2) (.int .i64 t168)) (fun _ hk => hk.2) (.int .i64 t169)) (fun _ hk => hk.2) (.slice Ao46 t170.length co46)) (fun _ h_ => h_.1))));(case side2 => exact (Kd.R_reads' HO172.out).2.1);(case side3 => refine (Kd.R_reads' (e:=25) (base:=w.heap.size) (ok:=fun k_ => (some k_ ≠ (.slice Ao13 t159.length co13 : Value).ownBlock ∧ some k_ ≠ (.slice Ao46 t170.length co46 : Value).ownBlock)) (n:=t151.length) (c:=co8) ?_).2.2;exact (by (with_reducible repeat (first|apply Kd.R_alloc|apply Kd.R_drewN|apply Kd.R_drew));exact (Kd.R_mono (Kd.R_far (p:=⟨gb174,3,none⟩) (Kd.R_far (p:=⟨gb174,2,none⟩) (Kd.R_far (p:=⟨gb174,1,none⟩) (Kd.R_far (p:=⟨gb174,0,none⟩) (Kd.R_types HO_156003.out BK174.out (by decide)) (fun _ hk => hk.2) (.int .i64 t167)) (fun _ hk => hk.2) (.int .i64 t168)) (fun _ hk => hk.2) (.int .i64 t169)) (fun _ hk => hk.2) (.slice Ao46 t170.length co46)) (fun _ h_ => h_.1))));(case side4 => exact (Kd.R_reads' HO_156003.out).2.1);rintro e w54 ⟨rfl,hb⟩;refine ⟨_,rfl,?_⟩;have n0_:=aM (Kd.R_below (by (with_reducible repeat (first|apply Kd.R_alloc|apply Kd.R_drewN|apply Kd.R_drew));exact (Kd.R_mono (Kd.R_far (p:=⟨gb174,3,none⟩) (Kd.R_far (p:=⟨gb174,2,none⟩) (Kd.R_far (p:=⟨gb174,1,none⟩) (Kd.R_far (p:=⟨gb174,0,none⟩) (Kd.R_types HO_156003.out BK174.out (by decide)) (fun _ hk => hk.2) (.int .i64 t167)) (fun _ hk => hk.2) (.int .i64 t168)) (fun _ hk => hk.2) (.int .i64 t169)) (fun _ hk => hk.2) (.slice Ao46 t170.length co46)) (fun _ h_ => h_.1))) hb);have n1_:=aM (Kd.R_below (by (with_reducible repeat (first|apply Kd.R_alloc|apply Kd.R_drewN|apply Kd.R_drew));exact (Kd.R_mono (Kd.R_far (p:=⟨gb174,3,none⟩) (Kd.R_far (p:=⟨gb174,2,none⟩) (Kd.R_far (p:=⟨gb174,1,none⟩) (Kd.R_far (p:=⟨gb174,0,none⟩) (Kd.R_types HO_164003.out BK174.out (by decide)) (fun _ hk => hk.2) (.int .i64 t167)) (fun _ hk => hk.2) (.int .i64 t168)) (fun _ hk => hk.2) (.int .i64 t169)) (fun _ hk => hk.2) (.slice Ao46 t170.length co46)) (fun _ h_ => h_.1))) hb);have n2_:=aM (Kd.R_below (by (with_reducible repeat (first|apply Kd.R_alloc|apply Kd.R_drewN|apply Kd.R_drew));exact (Kd.R_mono (Kd.R_far (p:=⟨gb174,3,none⟩) (Kd.R_far (p:=⟨gb174,2,none⟩) (Kd.R_far (p:=⟨gb174,1,none⟩) (Kd.R_far (p:=⟨gb174,0,none⟩) (Kd.R_types HO172.out BK174.out (by decide)) (fun _ hk => hk.2) (.int .i64 t167)) (fun _ hk => hk.2) (.int .i64 t168)) (fun _ hk => hk.2) (.int .i64 t169)) (fun _ hk => hk.2) (.slice Ao46 t170.length co46)) (fun _ h_ => h_.1))) hb);have n3_:=aM (blk_below (g:=gb155) (o:=.cells #[.int .i64 t148,.int .i64 t149,.int .i64 t150,.slice Ao8 t151.length co8] 39 (0,0)) (by (with_reducible repeat (first|refine blk_drewN ?_ _|refine blk_drew ?_|refine blk_alloc ?_ _));refine blk_far ?_ NB155_174.out _;(with_reducible repeat (first|refine blk_drewN ?_ _|refine blk_drew ?_|refine blk_alloc ?_ _));refine blk_far ?_ NB155_174.out _;(with_reducible repeat (first|refine blk_drewN ?_ _|refine blk_drew ?_|refine blk_alloc ?_ _));refine blk_far ?_ NB155_174.out _;(with_reducible repeat (first|refine blk_drewN ?_ _|refine blk_drew ?_|refine blk_alloc ?_ _));refine blk_far ?_ NB155_174.out _;(with_reducible repeat (first|refine blk_drewN ?_ _|refine blk_drew ?_|refine blk_alloc ?_ _));exact BK155.out) hb);have n4_:=aM (blk_below (g:=gb163) (o:=.cells #[.int .i64 t156,.int .i64 t157,.int .i64 t158,.slice Ao13 t159.length co13] 39 (0,0)) (by (with_reducible repeat (first|refine blk_drewN ?_ _|refine blk_drew ?_|refine blk_alloc ?_ _));refine blk_far ?_ NB163_174.out _;(with_reducible repeat (first|refine blk_drewN ?_ _|refine blk_drew ?_|refine blk_alloc ?_ _));refine blk_far ?_ NB163_174.out _;(with_reducible repeat (first|refine blk_drewN ?_ _|refine blk_drew ?_|refine blk_alloc ?_ _));refine blk_far ?_ NB163_174.out _;(with_reducible repeat (first|refine blk_drewN ?_ _|refine blk_drew ?_|refine blk_alloc ?_ _));refine blk_far ?_ NB163_174.out _;(with_reducible repeat (first|refine blk_drewN ?_ _|refine blk_drew ?_|refine blk_alloc ?_ _));exact BK163.out) hb);have n5_:=aM (blk_below (g:=gb174) (o:=.cells #[.int .i64 t167,.int .i64 t168,.int .i64 t169,.slice Ao46 t170.length co46] 39 (0,0)) (by (with_reducible repeat (first|refine blk_drewN ?_ _|refine blk_drew ?_|refine blk_alloc ?_ _));refine blk_put (cs:=#[.int .i64 t167,.int .i64 t168,.int .i64 t169,.slice none 0 0]) ?_ 3 _ rfl;(with_reducible repeat (first|refine blk_drewN ?_ _|refine blk_drew ?_|refine blk_alloc ?_ _));refine blk_put (cs:=#[.int .i64 t167,.int .i64 t168,.int .i64 0,.slice none 0 0]) ?_ 2 _ rfl;(with_reducible repeat (first|refine blk_drewN ?_ _|refine blk_drew ?_|refine blk_alloc ?_ _));refine blk_put (cs:=#[.int .i64 t167,.int .i64 0,.int .i64 0,.slice none 0 0]) ?_ 1 _ rfl;(with_reducible repeat (first|refine blk_drewN ?_ _|refine blk_drew ?_|refine blk_alloc ?_ _));refine blk_put (cs:=#[.int .i64 0,.int .i64 0,.int .i64 0,.slice none 0 0]) ?_ 0 _ rfl;(with_reducible repeat (first|refine blk_drewN ?_ _|refine blk_drew ?_|refine blk_alloc ?_ _));exact BK174.out) hb);have n6_:=aM (below_step (by repeat (first|(with_reducible first|exact HB.out|apply bA|apply bN|apply bD|refine below_set ?_ GE155.out|refine below_set ?_ GE163.out|refine below_set ?_ GE174.out)|exact HB.out)) hb);clear HO_156003;clear HO_164003;clear HO172;clear BK155;clear BK163;clear BK174;clear HB;have HO_156003:=n0_;have HO_164003:=n1_;have HO172:=n2_;have BK155:=n3_;have BK163:=n4_;have BK174:=n5_;have HB:=n6_;clear n0_ n1_ n2_ n3_ n4_ n5_ n6_;(try clear hb);(try clear hb2);(try clear hk);(try clear hi)))
        go_meet
        case rel => exact ⟨_,((t173 != t154)),(by first|rfl|(simp;done)|(simp [*];done)),H',⟨by have:=HJ3.out;first|omega|exact Nat.le_refl _⟩,⟨by (with_reducible repeat (first|apply Kd.R_alloc|apply Kd.R_drewN|apply Kd.R_drew));exact HO_156003.out⟩,⟨by (with_reducible repeat (first|apply Kd.R_alloc|apply Kd.R_drewN|apply Kd.R_drew));exact HO_164003.out⟩,⟨by (with_reducible repeat (first|apply Kd.R_alloc|apply Kd.R_drewN|apply Kd.R_drew));exact Kd.R_mono HO172.out (fun _ hk => ⟨hk.1.2,hk.2⟩)⟩,⟨by (with_reducible repeat (first|refine blk_drewN ?_ _|refine blk_drew ?_|refine blk_alloc ?_ _));exact BK155.out⟩,⟨by (with_reducible repeat (first|refine blk_drewN ?_ _|refine blk_drew ?_|refine blk_alloc ?_ _));exact BK163.out⟩,⟨by (with_reducible repeat (first|refine blk_drewN ?_ _|refine blk_drew ?_|refine blk_alloc ?_ _));exact BK174.out⟩,⟨by repeat (first|(with_reducible first|exact HB.out|apply bA|apply bN|apply bD|refine below_set ?_ GE155.out|refine below_set ?_ GE163.out|refine below_set ?_ GE174.out)|exact HB.out)⟩⟩
       ·replace c48:=Bool.eq_false_iff.mpr c48
        subst c48
        have H1 : (laws_FnExactNodeNew.j1 kj3 t165 true t156 t157 t158 t159) = some r:=by rw [if_neg (show ¬ (false = true) by decide)] at H;exact H
        clear H
        have H:=H1
        clear H1
        have H':=aM H
        clear H
        have hnb55:=NB174_155.out
        have hnc55:=NB155_174.out
        have hnb56:=NB174_163.out
        have hnc56:=NB163_174.out
        have hcz57_0 : w42.cell? ⟨gb174,0,none⟩ = some (.int .i64 0):=(blk_cell BK174.out 0).trans rfl
        have hcz57_1 : w42.cell? ⟨gb174,1,none⟩ = some (.int .i64 0):=(blk_cell BK174.out 1).trans rfl
        have hcz57_2 : w42.cell? ⟨gb174,2,none⟩ = some (.int .i64 0):=(blk_cell BK174.out 2).trans rfl
        have hcz57_3 : w42.cell? ⟨gb174,3,none⟩ = some (.slice none 0 0):=(blk_cell BK174.out 3).trans rfl
        have hfz57_0:=blk_frozen BK174.out 0
        have hfz57_1:=blk_frozen BK174.out 1
        have hfz57_2:=blk_frozen BK174.out 2
        have hfz57_3:=blk_frozen BK174.out 3
        have hnb58:=NB155_163.out
        have hnc58:=NB163_155.out
        have hcz59_0 : w42.cell? ⟨gb155,0,none⟩ = some (.int .i64 t148):=(blk_cell BK155.out 0).trans rfl
        have hcz59_1 : w42.cell? ⟨gb155,1,none⟩ = some (.int .i64 t149):=(blk_cell BK155.out 1).trans rfl
        have hcz59_2 : w42.cell? ⟨gb155,2,none⟩ = some (.int .i64 t150):=(blk_cell BK155.out 2).trans rfl
        have hcz59_3 : w42.cell? ⟨gb155,3,none⟩ = some (.slice Ao8 t151.length co8):=(blk_cell BK155.out 3).trans rfl
        have hfz59_0:=blk_frozen BK155.out 0
        have hfz59_1:=blk_frozen BK155.out 1
        have hfz59_2:=blk_frozen BK155.out 2
        have hfz59_3:=blk_frozen BK155.out 3
        go_wp2_with (first|((with_reducible refine gate_callee (f:=18) rfl ?_);refine goesL_ (some 48) rfl rfl Try.func18 (by kernel_rfl) rfl #[.agg #[.int .i64 t167,.int .i64 t168,.int .i64 t169,.slice Ao46 t170.length co46],.agg #[.int .i64 t148,.int .i64 t149,.int .i64 t150,.slice Ao8 t151.length co8]] rfl (by (try simp only [List.map_toArray,List.map_cons,List.map_nil]);first|done|rfl|(simp only [List.length_drop,List.length_take];rfl)) ?_;(with_reducible refine (laws_eqNode.calls kj3 t167 t168 t169 _ _ t170 t148 t149 t150 _ _ t151 false _ ?side1 ?side2 ?side3 ?side4 A47.out).mono ?_);(case side1 => refine (Kd.R_reads' (e:=25) (base:=w.heap.size) (ok:=fun k_ => ((True ∧ some k_ ≠ (.slice Ao8 t151.length co8 : Value).ownBlock) ∧ some k_ ≠ (.slice Ao13 t159.length co13 : Value).ownBlock)) (n:=t170.length) (c:=co46) ?_).2.2;exact (by (with_reducible repeat (first|apply Kd.R_alloc|apply Kd.R_drewN|apply Kd.R_drew));exact (Kd.R_mono (Kd.R_far (p:=⟨gb174,3,none⟩) (Kd.R_far (p:=⟨gb174,2,none⟩) (Kd.R_far (p:=⟨gb174,1,none⟩) (Kd.R_far (p:=⟨gb174,0,none⟩) (Kd.R_types HO172.out BK174.out (by decide)) (fun _ hk => hk.2) (.int .i64 t167)) (fun _ hk => hk.2) (.int .i64 t168)) (fun _ hk => hk.2) (.int .i64 t169)) (fun _ hk => hk.2) (.slice Ao46 t170.length co46)) (fun _ h_ => h_.1))));(case side2 => exact (Kd.R_reads' HO172.out).2.1);(case side3 => refine (Kd.R_reads' (e:=25) (base:=w.heap.size) (ok:=fun k_ => (some k_ ≠ (.slice Ao13 t159.length co13 : Value).ownBlock ∧ some k_ ≠ (.slice Ao46 t170.length co46 : Value).ownBlock)) (n:=t151.length) (c:=co8) ?_).2.2;exact (by (with_reducible repeat (first|apply Kd.R_alloc|apply Kd.R_drewN|apply Kd.R_drew));exact (Kd.R_mono (Kd.R_far (p:=⟨gb174,3,none⟩) (Kd.R_far (p:=⟨gb174,2,none⟩) (Kd.R_far (p:=⟨gb174,1,none⟩) (Kd.R_far (p:=⟨gb174,0,none⟩) (Kd.R_types HO_156003.out BK174.out (by decide)) (fun _ hk => hk.2) (.int .i64 t167)) (fun _ hk => hk.2) (.int .i64 t168)) (fun _ hk => hk.2) (.int .i64 t169)) (fun _ hk => hk.2) (.slice Ao46 t170.length co46)) (fun _ h_ => h_.1))));(case side4 => exact (Kd.R_reads' HO_156003.out).2.1);rintro e w60 ⟨rfl,hb⟩;refine ⟨_,rfl,?_⟩;have n0_:=aM (Kd.R_below (by (with_reducible repeat (first|apply Kd.R_alloc|apply Kd.R_drewN|apply Kd.R_drew));exact (Kd.R_mono (Kd.R_far (p:=⟨gb174,3,none⟩) (Kd.R_far (p:=⟨gb174,2,none⟩) (Kd.R_far (p:=⟨gb174,1,none⟩) (Kd.R_far (p:=⟨gb174,0,none⟩) (Kd.R_types HO_156003.out BK174.out (by decide)) (fun _ hk => hk.2) (.int .i64 t167)) (fun _ hk => hk.2) (.int .i64 t168)) (fun _ hk => hk.2) (.int .i64 t169)) (fun _ hk => hk.2) (.slice Ao46 t170.length co46)) (fun _ h_ => h_.1))) hb);have n1_:=aM (Kd.R_below (by (with_reducible repeat (first|apply Kd.R_alloc|apply Kd.R_drewN|apply Kd.R_drew));exact (Kd.R_mono (Kd.R_far (p:=⟨gb174,3,none⟩) (Kd.R_far (p:=⟨gb174,2,none⟩) (Kd.R_far (p:=⟨gb174,1,none⟩) (Kd.R_far (p:=⟨gb174,0,none⟩) (Kd.R_types HO_164003.out BK174.out (by decide)) (fun _ hk => hk.2) (.int .i64 t167)) (fun _ hk => hk.2) (.int .i64 t168)) (fun _ hk => hk.2) (.int .i64 t169)) (fun _ hk => hk.2) (.slice Ao46 t170.length co46)) (fun _ h_ => h_.1))) hb);have n2_:=aM (Kd.R_below (by (with_reducible repeat (first|apply Kd.R_alloc|apply Kd.R_drewN|apply Kd.R_drew));exact (Kd.R_mono (Kd.R_far (p:=⟨gb174,3,none⟩) (Kd.R_far (p:=⟨gb174,2,none⟩) (Kd.R_far (p:=⟨gb174,1,none⟩) (Kd.R_far (p:=⟨gb174,0,none⟩) (Kd.R_types HO172.out BK174.out (by decide)) (fun _ hk => hk.2) (.int .i64 t167)) (fun _ hk => hk.2) (.int .i64 t168)) (fun _ hk => hk.2) (.int .i64 t169)) (fun _ hk => hk.2) (.slice Ao46 t170.length co46)) (fun _ h_ => h_.1))) hb);have n3_:=aM (blk_below (g:=gb155) (o:=.cells #[.int .i64 t148,.int .i64 t149,.int .i64 t150,.slice Ao8 t151.length co8] 39 (0,0)) (by (with_reducible repeat (first|refine blk_drewN ?_ _|refine blk_drew ?_|refine blk_alloc ?_ _));refine blk_far ?_ NB155_174.out _;(with_reducible repeat (first|refine blk_drewN ?_ _|refine blk_drew ?_|refine blk_alloc ?_ _));refine blk_far ?_ NB155_174.out _;(with_reducible repeat (first|refine blk_drewN ?_ _|refine blk_drew ?_|refine blk_alloc ?_ _));refine blk_far ?_ NB155_174.out _;(with_reducible repeat (first|refine blk_drewN ?_ _|refine blk_drew ?_|refine blk_alloc ?_ _));refine blk_far ?_ NB155_174.out _;(with_reducible repeat (first|refine blk_drewN ?_ _|refine blk_drew ?_|refine blk_alloc ?_ _));exact BK155.out) hb);have n4_:=aM (blk_below (g:=gb163) (o:=.cells #[.int .i64 t156,.int .i64 t157,.int .i64 t158,.slice Ao13 t159.length co13] 39 (0,0)) (by (with_reducible repeat (first|refine blk_drewN ?_ _|refine blk_drew ?_|refine blk_alloc ?_ _));refine blk_far ?_ NB163_174.out _;(with_reducible repeat (first|refine blk_drewN ?_ _|refine blk_drew ?_|refine blk_alloc ?_ _));refine blk_far ?_ NB163_174.out _;(with_reducible repeat (first|refine blk_drewN ?_ _|refine blk_drew ?_|refine blk_alloc ?_ _));refine blk_far ?_ NB163_174.out _;(with_reducible repeat (first|refine blk_drewN ?_ _|refine blk_drew ?_|refine blk_alloc ?_ _));refine blk_far ?_ NB163_174.out _;(with_reducible repeat (first|refine blk_drewN ?_ _|refine blk_drew ?_|refine blk_alloc ?_ _));exact BK163.out) hb);have n5_:=aM (blk_below (g:=gb174) (o:=.cells #[.int .i64 t167,.int .i64 t168,.int .i64 t169,.slice Ao46 t170.length co46] 39 (0,0)) (by (with_reducible repeat (first|refine blk_drewN ?_ _|refine blk_drew ?_|refine blk_alloc ?_ _));refine blk_put (cs:=#[.int .i64 t167,.int .i64 t168,.int .i64 t169,.slice none 0 0]) ?_ 3 _ rfl;(with_reducible repeat (first|refine blk_drewN ?_ _|refine blk_drew ?_|refine blk_alloc ?_ _));refine blk_put (cs:=#[.int .i64 t167,.int .i64 t168,.int .i64 0,.slice none 0 0]) ?_ 2 _ rfl;(with_reducible repeat (first|refine blk_drewN ?_ _|refine blk_drew ?_|refine blk_alloc ?_ _));refine blk_put (cs:=#[.int .i64 t167,.int .i64 0,.int .i64 0,.slice none 0 0]) ?_ 1 _ rfl;(with_reducible repeat (first|refine blk_drewN ?_ _|refine blk_drew ?_|refine blk_alloc ?_ _));refine blk_put (cs:=#[.int .i64 0,.int .i64 0,.int .i64 0,.slice none 0 0]) ?_ 0 _ rfl;(with_reducible repeat (first|refine blk_drewN ?_ _|refine blk_drew ?_|refine blk_alloc ?_ _));exact BK174.out) hb);have n6_:=aM (below_step (by repeat (first|(with_reducible first|exact HB.out|apply bA|apply bN|apply bD|refine below_set ?_ GE155.out|refine below_set ?_ GE163.out|refine below_set ?_ GE174.out)|exact HB.out)) hb);clear HO_156003;clear HO_164003;clear HO172;clear BK155;clear BK163;clear BK174;clear HB;have HO_156003:=n0_;have HO_164003:=n1_;have HO172:=n2_;have BK155:=n3_;have BK163:=n4_;have BK174:=n5_;have HB:=n6_;clear n0_ n1_ n2_ n3_ n4_ n5_ n6_;(try clear hb);(try clear hb2);(try clear hk);(try clear hi)))
        go_meet
        case rel => exact ⟨_,(true),(by first|rfl|(simp;done)|(simp [*];done)),H',⟨by have:=HJ3.out;first|omega|exact Nat.le_refl _⟩,⟨by (with_reducible repeat (first|apply Kd.R_alloc|apply Kd.R_drewN|apply Kd.R_drew));exact HO_156003.out⟩,⟨by (with_reducible repeat (first|apply Kd.R_alloc|apply Kd.R_drewN|apply Kd.R_drew));exact HO_164003.out⟩,⟨by (with_reducible repeat (first|apply Kd.R_alloc|apply Kd.R_drewN|apply Kd.R_drew));exact Kd.R_mono HO172.out (fun _ hk => ⟨hk.1.2,hk.2⟩)⟩,⟨by (with_reducible repeat (first|refine blk_drewN ?_ _|refine blk_drew ?_|refine blk_alloc ?_ _));exact BK155.out⟩,⟨by (with_reducible repeat (first|refine blk_drewN ?_ _|refine blk_drew ?_|refine blk_alloc ?_ _));exact BK163.out⟩,⟨by (with_reducible repeat (first|refine blk_drewN ?_ _|refine blk_drew ?_|refine blk_alloc ?_ _));exact BK174.out⟩,⟨by repeat (first|(with_reducible first|exact HB.out|apply bA|apply bN|apply bD|refine below_set ?_ GE155.out|refine below_set ?_ GE163.out|refine below_set ?_ GE174.out)|exact HB.out)⟩⟩
      case rest =>
       clear HC35
       try clear c1
       try clear c2
       try clear p2
       try clear c3
       try clear c4
       try clear c5
       try clear c11
       try clear c15
       try clear c16
       try clear c17
       try clear c18
       try clear c19
       try clear c20
       try clear c24
       try clear c27
       try clear c27b0
       try clear c28
       try clear c33
       try clear c33b0
       try clear c33b1
       try clear c36
       try clear c43
       try clear c44
       try clear c48
       try clear c49
       try clear c50
       try clear c52
       try clear c55
       try clear c56
       try clear c58
       try clear hcz12_0
       try clear hcz12_1
       try clear hcz12_2
       try clear hcz12_3
       try clear hcz17_0
       try clear hcz17_1
       try clear hcz17_2
       try clear hcz17_3
       try clear hcz18_0
       try clear hcz18_1
       try clear hcz18_2
       try clear hcz18_3
       try clear hcz21_0
       try clear hcz21_1
       try clear hcz21_2
       try clear hcz21_3
       try clear hcz22_0
       try clear hcz22_1
       try clear hcz22_2
       try clear hcz22_3
       try clear hcz29_0
       try clear hcz29_1
       try clear hcz29_2
       try clear hcz29_3
       try clear hcz31_0
       try clear hcz31_1
       try clear hcz31_2
       try clear hcz31_3
       try clear hcz37_0
       try clear hcz37_1
       try clear hcz37_2
       try clear hcz37_3
       try clear hcz39_0
       try clear hcz39_1
       try clear hcz39_2
       try clear hcz39_3
       try clear hcz45_0
       try clear hcz45_1
       try clear hcz45_2
       try clear hcz45_3
       try clear hcz51_0
       try clear hcz51_1
       try clear hcz51_2
       try clear hcz51_3
       try clear hcz53_0
       try clear hcz53_1
       try clear hcz53_2
       try clear hcz53_3
       try clear hcz57_0
       try clear hcz57_1
       try clear hcz57_2
       try clear hcz57_3
       try clear hcz59_0
       try clear hcz59_1
       try clear hcz59_2
       try clear hcz59_3
       try clear hcz7_0
       try clear hcz7_1
       try clear hcz7_2
       try clear hcz7_3
       try clear hfz12_0
       try clear hfz12_1
       try clear hfz12_2
       try clear hfz12_3
       try clear hfz17_0
       try clear hfz17_1
       try clear hfz17_2
       try clear hfz17_3
       try clear hfz18_0
       try clear hfz18_1
       try clear hfz18_2
       try clear hfz18_3
       try clear hfz21_0
       try clear hfz21_1
       try clear hfz21_2
       try clear hfz21_3
       try clear hfz22_0
       try clear hfz22_1
       try clear hfz22_2
       try clear hfz22_3
       try clear hfz29_0
       try clear hfz29_1
       try clear hfz29_2
       try clear hfz29_3
       try clear hfz31_0
       try clear hfz31_1
       try clear hfz31_2
       try clear hfz31_3
       try clear hfz37_0
       try clear hfz37_1
       try clear hfz37_2
       try clear hfz37_3
       try clear hfz39_0
       try clear hfz39_1
       try clear hfz39_2
       try clear hfz39_3
       try clear hfz45_0
       try clear hfz45_1
       try clear hfz45_2
       try clear hfz45_3
       try clear hfz51_0
       try clear hfz51_1
       try clear hfz51_2
       try clear hfz51_3
       try clear hfz53_0
       try clear hfz53_1
       try clear hfz53_2
       try clear hfz53_3
       try clear hfz57_0
       try clear hfz57_1
       try clear hfz57_2
       try clear hfz57_3
       try clear hfz59_0
       try clear hfz59_1
       try clear hfz59_2
       try clear hfz59_3
       try clear hfz7_0
       try clear hfz7_1
       try clear hfz7_2
       try clear hfz7_3
       try clear p2
       obtain ⟨kq,x54_34,rfl,HA,HJ34,HO_156003,HO_164003,HO_175003,BK155,BK163,BK174,HB⟩:=hcut
       cases kq with
       | zero => exact absurd HA.out (by simp [laws_FnExactNodeNew.j1])
       | succ kj34 =>
        have H:=HA.out
        clear HA
        simp only [laws_FnExactNodeNew.j1] at H
        by_cases c61 : x54_34 = true
        ·subst c61
         have H1 : (some false) = some r:=by rw [if_pos rfl] at H;exact H
         clear H
         have H:=H1
         clear H1
         obtain rfl:=Option.some.inj H
         go_wp2
         go_ret
         exact ⟨by first|rfl|(simp only [i64_w,i32_w];done)|(simp only [i64_w,i32_w];rfl)|(simp [errW_none,errW_some] <;> rfl)|(simp [*,errW_none,errW_some] <;> rfl),by repeat (first|(with_reducible first|exact HB.out|apply bA|apply bN|apply bD|refine below_set ?_ GE155.out|refine below_set ?_ GE163.out|refine below_set ?_ GE174.out)|exact HB.out)⟩
        ·replace c61:=Bool.eq_false_iff.mpr c61
         subst c61
         have H1 : ((laws_heldNode.f kj34 t156 t157 t158 t159 1).bind fun t176 => (if t176 < 0 then (some false) else (if t176 = t165 then (some true) else (some false)))) = some r:=by rw [if_neg (show ¬ (false = true) by decide)] at H;exact H
         clear H
         have H:=H1
         clear H1
         replace H:=Option.bind_eq_some_iff.mp H
         obtain ⟨t176,A620,H⟩:=H
         replace H : (if t176 < 0 then (some false) else (if t176 = t165 then (some true) else (some false))) = some r:=H
         have A62:=aM A620
         clear A620
         by_cases c63 : t176 < 0
         ·rw [if_pos c63] at H
          have c63b0 : decide (t176 < 0) = true:=decide_eq_true c63
          clear c63
          obtain rfl:=Option.some.inj H
          have hnb64:=NB163_155.out
          have hnc64:=NB155_163.out
          have hnb65:=NB163_174.out
          have hnc65:=NB174_163.out
          have hcz66_0 : wc.cell? ⟨gb163,0,none⟩ = some (.int .i64 t156):=(blk_cell BK163.out 0).trans rfl
          have hcz66_1 : wc.cell? ⟨gb163,1,none⟩ = some (.int .i64 t157):=(blk_cell BK163.out 1).trans rfl
          have hcz66_2 : wc.cell? ⟨gb163,2,none⟩ = some (.int .i64 t158):=(blk_cell BK163.out 2).trans rfl
          have hcz66_3 : wc.cell? ⟨gb163,3,none⟩ = some (.slice Ao13 t159.length co13):=(blk_cell BK163.out 3).trans rfl
          have hfz66_0:=blk_frozen BK163.out 0
          have hfz66_1:=blk_frozen BK163.out 1
          have hfz66_2:=blk_frozen BK163.out 2
          have hfz66_3:=blk_frozen BK163.out 3
          go_wp2_with (first|((with_reducible refine gate_callee (f:=20) rfl ?_);refine goesL_ (some 57) rfl rfl Try.func20 (by kernel_rfl) rfl #[.agg #[.int .i64 t156,.int .i64 t157,.int .i64 t158,.slice Ao13 t159.length co13],.int .i64 1] rfl (by (try simp only [List.map_toArray,List.map_cons,List.map_nil]);first|done|rfl|(simp only [List.length_drop,List.length_take];rfl)) ?_;(with_reducible refine (laws_heldNode.calls kj34 t156 t157 t158 _ _ t159 1 t176 _ ?side1 ?side2 A62.out).mono ?_);(case side1 => repeat (first|exact (Kd.R_reads' HO_164003.out).2.2|(with_reducible refine Kd.C_alloc ?_ _)|(with_reducible refine Kd.C_drewN ?_ _)|(with_reducible refine Kd.C_drew ?_)));(case side2 => exact (Kd.R_reads' HO_164003.out).2.1);rintro e w67 ⟨rfl,hb⟩;refine ⟨_,rfl,?_⟩;have n0_:=aM (Kd.R_below (by (with_reducible repeat (first|apply Kd.R_alloc|apply Kd.R_drewN|apply Kd.R_drew));exact HO_156003.out) hb);have n1_:=aM (Kd.R_below (by (with_reducible repeat (first|apply Kd.R_alloc|apply Kd.R_drewN|apply Kd.R_drew));exact HO_164003.out) hb);have n2_:=aM (Kd.R_below (by (with_reducible repeat (first|apply Kd.R_alloc|apply Kd.R_drewN|apply Kd.R_drew));exact HO_175003.out) hb);have n3_:=aM (blk_below (g:=gb155) (o:=.cells #[.int .i64 t148,.int .i64 t149,.int .i64 t150,.slice Ao8 t151.length co8] 39 (0,0)) (by (with_reducible repeat (first|refine blk_drewN ?_ _|refine blk_drew ?_|refine blk_alloc ?_ _));exact BK155.out) hb);have n4_:=aM (blk_below (g:=gb163) (o:=.cells #[.int .i64 t156,.int .i64 t157,.int .i64 t158,.slice Ao13 t159.length co13] 39 (0,0)) (by (with_reducible repeat (first|refine blk_drewN ?_ _|refine blk_drew ?_|refine blk_alloc ?_ _));exact BK163.out) hb);have n5_:=aM (blk_below (g:=gb174) (o:=.cells #[.int .i64 t167,.int .i64 t168,.int .i64 t169,.slice Ao46 t170.length co46] 39 (0,0)) (by (with_reducible repeat (first|refine blk_drewN ?_ _|refine blk_drew ?_|refine blk_alloc ?_ _));exact BK174.out) hb);have n6_:=aM (below_step (by repeat (first|(with_reducible first|exact HB.out|apply bA|apply bN|apply bD|refine below_set ?_ GE155.out|refine below_set ?_ GE163.out|refine below_set ?_ GE174.out)|exact HB.out)) hb);clear HO_156003;clear HO_164003;clear HO_175003;clear BK155;clear BK163;clear BK174;clear HB;have HO_156003:=n0_;have HO_164003:=n1_;have HO_175003:=n2_;have BK155:=n3_;have BK163:=n4_;have BK174:=n5_;have HB:=n6_;clear n0_ n1_ n2_ n3_ n4_ n5_ n6_;(try clear hb);(try clear hb2);(try clear hk);(try clear hi)))
          go_ret
          exact ⟨by first|rfl|(simp only [i64_w,i32_w];done)|(simp only [i64_w,i32_w];rfl)|(simp [errW_none,errW_some] <;> rfl)|(simp [*,errW_none,errW_some] <;> rfl),by repeat (first|(with_reducible first|exact HB.out|apply bA|apply bN|apply bD|refine below_set ?_ GE155.out|refine below_set ?_ GE163.out|refine below_set ?_ GE174.out)|exact HB.out)⟩
         ·rw [if_neg c63] at H
          have c63b0 : decide (t176 < 0) = false:=decide_eq_false c63
          clear c63
          by_cases c68 : t176 = t165
          ·rw [if_pos c68] at H
           have c68b0 : (t176 == t165) = true:=beq_iff_eq.mpr c68
           have c68b1 : (t176 != t165) = false:=bne_eq_false_iff_eq.mpr c68
           clear c68
           obtain rfl:=Option.some.inj H
           have hnb69:=NB163_155.out
           have hnc69:=NB155_163.out
           have hnb70:=NB163_174.out
           have hnc70:=NB174_163.out
           have hcz71_0 : wc.cell? ⟨gb163,0,none⟩ = some (.int .i64 t156):=(blk_cell BK163.out 0).trans rfl
           have hcz71_1 : wc.cell? ⟨gb163,1,none⟩ = some (.int .i64 t157):=(blk_cell BK163.out 1).trans rfl
           have hcz71_2 : wc.cell? ⟨gb163,2,none⟩ = some (.int .i64 t158):=(blk_cell BK163.out 2).trans rfl
           have hcz71_3 : wc.cell? ⟨gb163,3,none⟩ = some (.slice Ao13 t159.length co13):=(blk_cell BK163.out 3).trans rfl
           have hfz71_0:=blk_frozen BK163.out 0
           have hfz71_1:=blk_frozen BK163.out 1
           have hfz71_2:=blk_frozen BK163.out 2
           have hfz71_3:=blk_frozen BK163.out 3
           go_wp2_with (first|((with_reducible refine gate_callee (f:=20) rfl ?_);refine goesL_ (some 57) rfl rfl Try.func20 (by kernel_rfl) rfl #[.agg #[.int .i64 t156,.int .i64 t157,.int .i64 t158,.slice Ao13 t159.length co13],.int .i64 1] rfl (by (try simp only [List.map_toArray,List.map_cons,List.map_nil]);first|done|rfl|(simp only [List.length_drop,List.length_take];rfl)) ?_;(with_reducible refine (laws_heldNode.calls kj34 t156 t157 t158 _ _ t159 1 t176 _ ?side1 ?side2 A62.out).mono ?_);(case side1 => repeat (first|exact (Kd.R_reads' HO_164003.out).2.2|(with_reducible refine Kd.C_alloc ?_ _)|(with_reducible refine Kd.C_drewN ?_ _)|(with_reducible refine Kd.C_drew ?_)));(case side2 => exact (Kd.R_reads' HO_164003.out).2.1);rintro e w72 ⟨rfl,hb⟩;refine ⟨_,rfl,?_⟩;have n0_:=aM (Kd.R_below (by (with_reducible repeat (first|apply Kd.R_alloc|apply Kd.R_drewN|apply Kd.R_drew));exact HO_156003.out) hb);have n1_:=aM (Kd.R_below (by (with_reducible repeat (first|apply Kd.R_alloc|apply Kd.R_drewN|apply Kd.R_drew));exact HO_164003.out) hb);have n2_:=aM (Kd.R_below (by (with_reducible repeat (first|apply Kd.R_alloc|apply Kd.R_drewN|apply Kd.R_drew));exact HO_175003.out) hb);have n3_:=aM (blk_below (g:=gb155) (o:=.cells #[.int .i64 t148,.int .i64 t149,.int .i64 t150,.slice Ao8 t151.length co8] 39 (0,0)) (by (with_reducible repeat (first|refine blk_drewN ?_ _|refine blk_drew ?_|refine blk_alloc ?_ _));exact BK155.out) hb);have n4_:=aM (blk_below (g:=gb163) (o:=.cells #[.int .i64 t156,.int .i64 t157,.int .i64 t158,.slice Ao13 t159.length co13] 39 (0,0)) (by (with_reducible repeat (first|refine blk_drewN ?_ _|refine blk_drew ?_|refine blk_alloc ?_ _));exact BK163.out) hb);have n5_:=aM (blk_below (g:=gb174) (o:=.cells #[.int .i64 t167,.int .i64 t168,.int .i64 t169,.slice Ao46 t170.length co46] 39 (0,0)) (by (with_reducible repeat (first|refine blk_drewN ?_ _|refine blk_drew ?_|refine blk_alloc ?_ _));exact BK174.out) hb);have n6_:=aM (below_step (by repeat (first|(with_reducible first|exact HB.out|apply bA|apply bN|apply bD|refine below_set ?_ GE155.out|refine below_set ?_ GE163.out|refine below_set ?_ GE174.out)|exact HB.out)) hb);clear HO_156003;clear HO_164003;clear HO_175003;clear BK155;clear BK163;clear BK174;clear HB;have HO_156003:=n0_;have HO_164003:=n1_;have HO_175003:=n2_;have BK155:=n3_;have BK163:=n4_;have BK174:=n5_;have HB:=n6_;clear n0_ n1_ n2_ n3_ n4_ n5_ n6_;(try clear hb);(try clear hb2);(try clear hk);(try clear hi)))
           go_ret
           exact ⟨by first|rfl|(simp only [i64_w,i32_w];done)|(simp only [i64_w,i32_w];rfl)|(simp [errW_none,errW_some] <;> rfl)|(simp [*,errW_none,errW_some] <;> rfl),by repeat (first|(with_reducible first|exact HB.out|apply bA|apply bN|apply bD|refine below_set ?_ GE155.out|refine below_set ?_ GE163.out|refine below_set ?_ GE174.out)|exact HB.out)⟩
          ·rw [if_neg c68] at H
           have c68b0 : (t176 == t165) = false:=beq_eq_false_iff_ne.mpr c68
           have c68b1 : (t176 != t165) = true:=bne_iff_ne.mpr c68
           obtain rfl:=Option.some.inj H
           have hnb73:=NB163_155.out
           have hnc73:=NB155_163.out
           have hnb74:=NB163_174.out
           have hnc74:=NB174_163.out
           have hcz75_0 : wc.cell? ⟨gb163,0,none⟩ = some (.int .i64 t156):=(blk_cell BK163.out 0).trans rfl
           have hcz75_1 : wc.cell? ⟨gb163,1,none⟩ = some (.int .i64 t157):=(blk_cell BK163.out 1).trans rfl
           have hcz75_2 : wc.cell? ⟨gb163,2,none⟩ = some (.int .i64 t158):=(blk_cell BK163.out 2).trans rfl
           have hcz75_3 : wc.cell? ⟨gb163,3,none⟩ = some (.slice Ao13 t159.length co13):=(blk_cell BK163.out 3).trans rfl
           have hfz75_0:=blk_frozen BK163.out 0
           have hfz75_1:=blk_frozen BK163.out 1
           have hfz75_2:=blk_frozen BK163.out 2
           have hfz75_3:=blk_frozen BK163.out 3
           go_wp2_with (first|((with_reducible refine gate_callee (f:=20) rfl ?_);refine goesL_ (some 57) rfl rfl Try.func20 (by kernel_rfl) rfl #[.agg #[.int .i64 t156,.int .i64 t157,.int .i64 t158,.slice Ao13 t159.length co13],.int .i64 1] rfl (by (try simp only [List.map_toArray,List.map_cons,List.map_nil]);first|done|rfl|(simp only [List.length_drop,List.length_take];rfl)) ?_;(with_reducible refine (laws_heldNode.calls kj34 t156 t157 t158 _ _ t159 1 t176 _ ?side1 ?side2 A62.out).mono ?_);(case side1 => repeat (first|exact (Kd.R_reads' HO_164003.out).2.2|(with_reducible refine Kd.C_alloc ?_ _)|(with_reducible refine Kd.C_drewN ?_ _)|(with_reducible refine Kd.C_drew ?_)));(case side2 => exact (Kd.R_reads' HO_164003.out).2.1);rintro e w76 ⟨rfl,hb⟩;refine ⟨_,rfl,?_⟩;have n0_:=aM (Kd.R_below (by (with_reducible repeat (first|apply Kd.R_alloc|apply Kd.R_drewN|apply Kd.R_drew));exact HO_156003.out) hb);have n1_:=aM (Kd.R_below (by (with_reducible repeat (first|apply Kd.R_alloc|apply Kd.R_drewN|apply Kd.R_drew));exact HO_164003.out) hb);have n2_:=aM (Kd.R_below (by (with_reducible repeat (first|apply Kd.R_alloc|apply Kd.R_drewN|apply Kd.R_drew));exact HO_175003.out) hb);have n3_:=aM (blk_below (g:=gb155) (o:=.cells #[.int .i64 t148,.int .i64 t149,.int .i64 t150,.slice Ao8 t151.length co8] 39 (0,0)) (by (with_reducible repeat (first|refine blk_drewN ?_ _|refine blk_drew ?_|refine blk_alloc ?_ _));exact BK155.out) hb);have n4_:=aM (blk_below (g:=gb163) (o:=.cells #[.int .i64 t156,.int .i64 t157,.int .i64 t158,.slice Ao13 t159.length co13] 39 (0,0)) (by (with_reducible repeat (first|refine blk_drewN ?_ _|refine blk_drew ?_|refine blk_alloc ?_ _));exact BK163.out) hb);have n5_:=aM (blk_below (g:=gb174) (o:=.cells #[.int .i64 t167,.int .i64 t168,.int .i64 t169,.slice Ao46 t170.length co46] 39 (0,0)) (by (with_reducible repeat (first|refine blk_drewN ?_ _|refine blk_drew ?_|refine blk_alloc ?_ _));exact BK174.out) hb);have n6_:=aM (below_step (by repeat (first|(with_reducible first|exact HB.out|apply bA|apply bN|apply bD|refine below_set ?_ GE155.out|refine below_set ?_ GE163.out|refine below_set ?_ GE174.out)|exact HB.out)) hb);clear HO_156003;clear HO_164003;clear HO_175003;clear BK155;clear BK163;clear BK174;clear HB;have HO_156003:=n0_;have HO_164003:=n1_;have HO_175003:=n2_;have BK155:=n3_;have BK163:=n4_;have BK174:=n5_;have HB:=n6_;clear n0_ n1_ n2_ n3_ n4_ n5_ n6_;(try clear hb);(try clear hb2);(try clear hk);(try clear hi)))
           go_ret
           exact ⟨by first|rfl|(simp only [i64_w,i32_w];done)|(simp only [i64_w,i32_w];rfl)|(simp [errW_none,errW_some] <;> rfl)|(simp [*,errW_none,errW_some] <;> rfl),by repeat (first|(with_reducible first|exact HB.out|apply bA|apply bN|apply bD|refine below_set ?_ GE155.out|refine below_set ?_ GE163.out|refine below_set ?_ GE174.out)|exact HB.out)⟩
     ·rw [if_neg c33] at H
      have c33b0 : (t166 == t165) = false:=beq_eq_false_iff_ne.mpr c33
      have c33b1 : (t166 != t165) = true:=bne_iff_ne.mpr c33
      obtain rfl:=Option.some.inj H
      have hnb77:=NB163_155.out
      have hnc77:=NB155_163.out
      have hcz78_0 : wc.cell? ⟨gb163,0,none⟩ = some (.int .i64 t156):=(blk_cell BK163.out 0).trans rfl
      have hcz78_1 : wc.cell? ⟨gb163,1,none⟩ = some (.int .i64 t157):=(blk_cell BK163.out 1).trans rfl
      have hcz78_2 : wc.cell? ⟨gb163,2,none⟩ = some (.int .i64 t158):=(blk_cell BK163.out 2).trans rfl
      have hcz78_3 : wc.cell? ⟨gb163,3,none⟩ = some (.slice Ao13 t159.length co13):=(blk_cell BK163.out 3).trans rfl
      have hfz78_0:=blk_frozen BK163.out 0
      have hfz78_1:=blk_frozen BK163.out 1
      have hfz78_2:=blk_frozen BK163.out 2
      have hfz78_3:=blk_frozen BK163.out 3
      go_wp2_with (first|((with_reducible refine gate_callee (f:=19) rfl ?_);refine goesL_ (some 32) rfl rfl Try.func19 (by kernel_rfl) rfl #[.agg #[.int .i64 t156,.int .i64 t157,.int .i64 t158,.slice Ao13 t159.length co13],.int .i64 1] rfl (by (try simp only [List.map_toArray,List.map_cons,List.map_nil]);first|done|rfl|(simp only [List.length_drop,List.length_take];rfl)) ?_;(with_reducible refine (laws_markNode.calls t156 t157 t158 _ _ t159 1 t165 _ ?side1 ?side2 A25.out).mono ?_);(case side1 => repeat (first|exact (Kd.R_reads' HO_164003.out).2.2|(with_reducible refine Kd.C_alloc ?_ _)|(with_reducible refine Kd.C_drewN ?_ _)|(with_reducible refine Kd.C_drew ?_)));(case side2 => exact (Kd.R_reads' HO_164003.out).2.1);rintro e w79 ⟨rfl,hb⟩;refine ⟨_,rfl,?_⟩;have n0_:=aM (Kd.R_below (by (with_reducible repeat (first|apply Kd.R_alloc|apply Kd.R_drewN|apply Kd.R_drew));exact HO_156003.out) hb);have n1_:=aM (Kd.R_below (by (with_reducible repeat (first|apply Kd.R_alloc|apply Kd.R_drewN|apply Kd.R_drew));exact HO_164003.out) hb);have n2_:=aM (blk_below (g:=gb155) (o:=.cells #[.int .i64 t148,.int .i64 t149,.int .i64 t150,.slice Ao8 t151.length co8] 39 (0,0)) (by (with_reducible repeat (first|refine blk_drewN ?_ _|refine blk_drew ?_|refine blk_alloc ?_ _));exact BK155.out) hb);have n3_:=aM (blk_below (g:=gb163) (o:=.cells #[.int .i64 t156,.int .i64 t157,.int .i64 t158,.slice Ao13 t159.length co13] 39 (0,0)) (by (with_reducible repeat (first|refine blk_drewN ?_ _|refine blk_drew ?_|refine blk_alloc ?_ _));exact BK163.out) hb);have n4_:=aM (below_step (by repeat (first|(with_reducible first|exact HB.out|apply bA|apply bN|apply bD|refine below_set ?_ GE155.out|refine below_set ?_ GE163.out)|exact HB.out)) hb);clear HO_156003;clear HO_164003;clear BK155;clear BK163;clear HB;have HO_156003:=n0_;have HO_164003:=n1_;have BK155:=n2_;have BK163:=n3_;have HB:=n4_;clear n0_ n1_ n2_ n3_ n4_;(try clear hb);(try clear hb2);(try clear hk);(try clear hi);have hcz80_0 : w79.cell? ⟨gb163,0,none⟩ = some (.int .i64 t156):=(blk_cell BK163.out 0).trans rfl;have hcz80_1 : w79.cell? ⟨gb163,1,none⟩ = some (.int .i64 t157):=(blk_cell BK163.out 1).trans rfl;have hcz80_2 : w79.cell? ⟨gb163,2,none⟩ = some (.int .i64 t158):=(blk_cell BK163.out 2).trans rfl;have hcz80_3 : w79.cell? ⟨gb163,3,none⟩ = some (.slice Ao13 t159.length co13):=(blk_cell BK163.out 3).trans rfl;have hfz80_0:=blk_frozen BK163.out 0;have hfz80_1:=blk_frozen BK163.out 1;have hfz80_2:=blk_frozen BK163.out 2;have hfz80_3:=blk_frozen BK163.out 3)|((with_reducible refine gate_callee (f:=20) rfl ?_);refine goesL_ (some 35) rfl rfl Try.func20 (by kernel_rfl) rfl #[.agg #[.int .i64 t156,.int .i64 t157,.int .i64 t158,.slice Ao13 t159.length co13],.int .i64 1] rfl (by (try simp only [List.map_toArray,List.map_cons,List.map_nil]);first|done|rfl|(simp only [List.length_drop,List.length_take];rfl)) ?_;(with_reducible refine (laws_heldNode.calls kj3 t156 t157 t158 _ _ t159 1 t166 _ ?side1 ?side2 A26.out).mono ?_);(case side1 => repeat (first|exact (Kd.R_reads' HO_164003.out).2.2|(with_reducible refine Kd.C_alloc ?_ _)|(with_reducible refine Kd.C_drewN ?_ _)|(with_reducible refine Kd.C_drew ?_)));(case side2 => exact (Kd.R_reads' HO_164003.out).2.1);rintro e w81 ⟨rfl,hb⟩;refine ⟨_,rfl,?_⟩;have n0_:=aM (Kd.R_below (by (with_reducible repeat (first|apply Kd.R_alloc|apply Kd.R_drewN|apply Kd.R_drew));exact HO_156003.out) hb);have n1_:=aM (Kd.R_below (by (with_reducible repeat (first|apply Kd.R_alloc|apply Kd.R_drewN|apply Kd.R_drew));exact HO_164003.out) hb);have n2_:=aM (blk_below (g:=gb155) (o:=.cells #[.int .i64 t148,.int .i64 t149,.int .i64 t150,.slice Ao8 t151.length co8] 39 (0,0)) (by (with_reducible repeat (first|refine blk_drewN ?_ _|refine blk_drew ?_|refine blk_alloc ?_ _));exact BK155.out) hb);have n3_:=aM (blk_below (g:=gb163) (o:=.cells #[.int .i64 t156,.int .i64 t157,.int .i64 t158,.slice Ao13 t159.length co13] 39 (0,0)) (by (with_reducible repeat (first|refine blk_drewN ?_ _|refine blk_drew ?_|refine blk_alloc ?_ _));exact BK163.out) hb);have n4_:=aM (below_step (by repeat (first|(with_reducible first|exact HB.out|apply bA|apply bN|apply bD|refine below_set ?_ GE155.out|refine below_set ?_ GE163.out)|exact HB.out)) hb);clear HO_156003;clear HO_164003;clear BK155;clear BK163;clear HB;have HO_156003:=n0_;have HO_164003:=n1_;have BK155:=n2_;have BK163:=n3_;have HB:=n4_;clear n0_ n1_ n2_ n3_ n4_;(try clear hb);(try clear hb2);(try clear hk);(try clear hi)))
      go_ret
      exact ⟨by first|rfl|(simp only [i64_w,i32_w];done)|(simp only [i64_w,i32_w];rfl)|(simp [errW_none,errW_some] <;> rfl)|(simp [*,errW_none,errW_some] <;> rfl),by repeat (first|(with_reducible first|exact HB.out|apply bA|apply bN|apply bD|refine below_set ?_ GE155.out|refine below_set ?_ GE163.out)|exact HB.out)⟩

/-- What is left to prove of laws_FnExactNodeNew. -/
def laws_FnExactNodeNew.Pure : Prop:=∀ (a0 : Int),(Lit.int .i64 a0).wf = true → ∃ k,laws_FnExactNodeNew.f k a0 = some true

end Go.Proofs.Ytaccamnoacdiiaa.P
