/- The printed functions: what each Go function computes, as a Lean function, and that the Go code comes to just that. Conditions: none beyond each contract's own. -/
import Derived.Test.YtlcfalecbpnhbaaPx0
import Derived.Test.YtlcfalecbpnhbaaPx8
namespace Go.Proofs.Ytlcfalecbpnhbaa.P
open Go.RowKit Go.Proofs.YtlcfalecbpnhbaaW.PrintWords Go.Proofs.YtlcfalecbpnhbaaW.PrintLast Go.Proofs.YtlcfalecbpnhbaaW.PrintMore
attribute [local go_sem] max2_int min2_int max_two min_two max_three min_three max_four min_four   -- for this text's walks alone
set_option linter.unusedVariables false
set_option linter.unusedSimpArgs false

/-! ### spec_l1Copy: function 48 -/
def spec_l1Copy.f (l0 : List (S40)) : Option ((List (S40))):=(some (([] : List (S40)) : List (S40))).bind fun y178 => (if y178.length + l0.length < 4398046511104 then (some (y178 ++ l0)) else (none))
set_option maxHeartbeats 8000000 in
set_option maxRecDepth 100000 in
theorem spec_l1Copy.calls (A0 : Option Addr) (c0 : Nat) (l0 : List (S40)) (r : List (S40)) (w : World) (hr0 : Kd.C k40 w A0 l0.length l0) (hc0 : l0.length ≤ c0) (h : spec_l1Copy.f l0 = some r) :
  Calls Try.prog 48 #[.slice A0 l0.length c0] w fun e w' => ∃ v0_ : Value,e = .returned (v0_) ∧ Kd.R k40 40 w' w.heap.size (fun _ => True) v0_ r ∧ Below w.heap.size w w':=by
 have HR0:=aM hr0
 have HC0:=aM hc0
 clear hr0 hc0
 have HB:=aM (Below.refl w.heap.size w)
 have H : ((some (([] : List (S40)) : List (S40))).bind fun y178 => (if y178.length + l0.length < 4398046511104 then (some (y178 ++ l0)) else (none))) = some r:=h
 clear h
 obtain ⟨y178,hy178⟩ : ∃ y_ : List (S40),y_ = (([] : List (S40))):=⟨_,rfl⟩
 replace H : (if y178.length + l0.length < 4398046511104 then (some (y178 ++ l0)) else (none)) = some r:=by first|(rw [hy178];with_reducible exact H)|(have H2_:=(Option.bind_some _ _).symm.trans H;rw [hy178];with_reducible exact H2_)|(have H2_:=(Option.bind_some _ _).symm.trans H;with_reducible exact H2_)|with_reducible exact H|(rw [hy178];exact H)|exact H
 have Ny178:=aM hy178
 clear hy178
 by_cases c2 : y178.length + l0.length < 4398046511104
 case neg => rw [if_neg c2] at H;exact absurd H Q51
 rw [if_pos c2] at H
 have LMc2:=aM c2
 clear c2
 obtain ⟨y181,hy181⟩ : ∃ y_ : List (S40),y_ = (y178 ++ l0):=⟨_,rfl⟩
 replace H : (some y181) = some r:=by first|(rw [hy181];with_reducible exact H)|(have H2_:=(Option.bind_some _ _).symm.trans H;rw [hy181];with_reducible exact H2_)|(have H2_:=(Option.bind_some _ _).symm.trans H;with_reducible exact H2_)|with_reducible exact H|(rw [hy181];exact H)|exact H
 have Ny181:=aM hy181
 clear hy181
 obtain rfl:=Option.some.inj H
 go_enter Try.func48,Try.ntmps48
 go_wp2_with (first|((with_reducible refine gate_dst (N:=3) rfl ?_);refine Kd.R_lit k40 _ 40 ?hg (N:=3) ?hd (xs:=([] : List (S40))) (inner:=[]) (ok:=fun _ => True) (okp:=fun _ => True) ?hr ?hp (fun _ hk => hk) trivial (Below.refl _ _) (Nat.le_refl _) Q51 ?_;(case hd => rfl);(case hg => rfl);(case hr => exact Q16);(case hp => exact (Reps.none _ _));intro v179 w3 ho4 hb hg_ hnew_;clear hg_ hnew_;(first|rw [← Ny178.out] at ho4|(simp only [Int.reduceToNat] at ho4;rw [← Ny178.out] at ho4));have n0_:=aM (Kd.R_lower ho4 (below_size Q3));have n1_:=aM (below_step Q3 hb);clear HB;have HO180:=n0_;have HB:=n1_;clear n0_ n1_;clear hb ho4)|((with_reducible refine gate_builtin (b:=.append) (xs:=#[.tmp 3,.tmp 4]) rfl ?_);at_builtin;refine Kd.R_append_rows k40 (w0:=w) w.heap.size rfl (.tmp 3) (.tmp 4) 28 40 (.agg #[(.int .i64 0),(.int .i64 0),(.int .i64 0),(.int .i64 0)]) 32 rfl Try.underlying28 info40 rfl Q36 Q17 v179 y178 l0 _ _ _ (fun _ => True) (fun _ => False) rfl rfl ?aO ?aR (fun _ _ h => h) (fun _ h => h.elim) ?aF ?aB ?aS ?aL ?_;(case aR => exact Q19);(case aB => exact Q3);(case aF => exact (fun _ _ => trivial));(case aO => exact (qR HO180));(case aS => exact (below_size Q3));(case aL => have:=LMc2.out;omega);intro v182 w5 ho hb hg hat;rw [← Ny181.out] at ho;have n0_:=aM (hb);have n1_:=aM (ho);clear HB;clear HO180;have HB:=n0_;have HO183:=n1_;clear n0_ n1_;clear ho hb hg hat))
 go_ret
 exact ⟨_,Q6,qR HO183,Q3⟩

/-! ### spec_l3VoteCopy: function 57 -/
def spec_l3VoteCopy.f (a0_0 : Int) (l0_1 : List (S40)) : Option (Int × (List (S40))):=(spec_l1Copy.f l0_1).bind fun t186 => (some (a0_0,t186))
set_option maxHeartbeats 8000000 in
set_option maxRecDepth 100000 in
theorem spec_l3VoteCopy.calls (a0_0 : Int) (A0_1 : Option Addr) (c0_1 : Nat) (l0_1 : List (S40)) (r1 : Int) (r2 : List (S40)) (w : World) (hr0_1 : Kd.C k40 w A0_1 l0_1.length l0_1) (hc0_1 : l0_1.length ≤ c0_1) (h : spec_l3VoteCopy.f a0_0 l0_1 = some (r1,r2)) :
  Calls Try.prog 57 #[.agg #[.int .i64 a0_0,.slice A0_1 l0_1.length c0_1]] w fun e w' => ∃ v1_ : Value,e = .returned (.agg #[.int .i64 r1,v1_]) ∧ Kd.R k40 40 w' w.heap.size (fun _ => True) v1_ r2 ∧ Below w.heap.size w w':=by
 have hu82:=Try.underlying82
 have HR0_1:=aM hr0_1
 have HC0_1:=aM hc0_1
 clear hr0_1 hc0_1
 have HB:=aM (Below.refl w.heap.size w)
 have H : ((spec_l1Copy.f l0_1).bind fun t186 => (some (a0_0,t186))) = some (r1,r2):=h
 clear h
 replace H:=Option.bind_eq_some_iff.mp H
 obtain ⟨t186,A20,H⟩:=H
 replace H : (some (a0_0,t186)) = some (r1,r2):=H
 have A2:=aM A20
 clear A20
 simp only [Option.some.injEq,Prod.mk.injEq] at H
 obtain ⟨rfl,rfl⟩:=H
 go_enter Try.func57,Try.ntmps57
 go_wp2_with (first|((with_reducible refine gate_dst (N:=1) rfl ?_);refine box_event ?hg (N:=1) ?hd (cs:=#[.int .i64 a0_0,.slice A0_1 l0_1.length c0_1]) (t:=82) ?hr ?_;(case hd => rfl);(case hg => rfl);(case hr => exact Q16);intro gb184 hg w3 hbox hb;have n0_:=aM (below_step Q3 hb);have n1_:=aM (hbox);have n2_:=aM ((Q37 : w.heap.size ≤ gb184));have n3_:=aM ((Q37 : w.heap.size ≤ gb184));clear HB;have HB:=n0_;have BK184:=n1_;have GW184:=n2_;have GE184:=n3_;clear n0_ n1_ n2_ n3_;clear hb hbox hg)|((with_reducible refine gate_dst (N:=2) rfl ?_);refine box_event ?hg (N:=2) ?hd (cs:=#[.int .i64 0,.slice none 0 0]) (t:=82) ?hr ?_;(case hd => rfl);(case hg => rfl);(case hr => exact Q16);intro gb185 hg w4 hbox hb;have n0_:=aM (blk_below (g:=gb184) (o:=.cells #[.int .i64 a0_0,.slice A0_1 l0_1.length c0_1] 82 (0,0)) (qk BK184) hb);have n1_:=aM (below_step Q102 hb);have n2_:=aM (hbox);have n3_:=aM ((by rw [hg];exact (below_size Q102) : w.heap.size ≤ gb185));have n4_:=aM ((by rw [hg];exact (below_size Q102) : w.heap.size ≤ gb185));have n5_:=aM ((by rw [hg];exact Nat.ne_of_lt (blk_lt (g:=gb184) (o:=.cells #[.int .i64 a0_0,.slice A0_1 l0_1.length c0_1] 82 (0,0)) (qk BK184)) : gb184 ≠ gb185));have n6_:=aM ((by rw [hg];exact Nat.ne_of_gt (blk_lt (g:=gb184) (o:=.cells #[.int .i64 a0_0,.slice A0_1 l0_1.length c0_1] 82 (0,0)) (qk BK184)) : gb185 ≠ gb184));clear BK184;clear HB;have BK184:=n0_;have HB:=n1_;have BK185:=n2_;have GW185:=n3_;have GE185:=n4_;have NB184_185:=n5_;have NB185_184:=n6_;clear n0_ n1_ n2_ n3_ n4_ n5_ n6_;clear hb hbox hg;have hnb5:=NB184_185.out;have hnc5:=NB185_184.out;have hcz6_0 : w4.cell? ⟨gb184,0,none⟩ = some (.int .i64 a0_0):=(blk_cell BK184.out 0).trans rfl;have hcz6_1 : w4.cell? ⟨gb184,1,none⟩ = some (.slice A0_1 l0_1.length c0_1):=(blk_cell BK184.out 1).trans rfl;have hfz6_0:=blk_frozen BK184.out 0;have hfz6_1:=blk_frozen BK184.out 1)|((with_reducible refine gate_callee (f:=48) rfl ?_);refine goesL_ (some 5) rfl rfl Try.func48 Q14 rfl #[.slice A0_1 l0_1.length c0_1] rfl Q1 ?_;(with_reducible refine (spec_l1Copy.calls _ _ l0_1 t186 _ ?side1 ?side2 A2.out).mono ?_);(case side1 => repeat (first|exact (Kd.C_below HR0_1.out HB.out)|(with_reducible refine Kd.C_alloc ?_ _)|(with_reducible refine Kd.C_drewN ?_ _)|(with_reducible refine Kd.C_drew ?_)));(case side2 => exact HC0_1.out);rintro e w7 ⟨v187,rfl,ho0,hb⟩;refine ⟨_,rfl,?_⟩;have n0_:=aM (Kd.R_lower ho0 (below_size Q91));have n1_:=aM (blk_below (g:=gb184) (o:=.cells #[.int .i64 a0_0,.slice A0_1 l0_1.length c0_1] 82 (0,0)) (qk BK184) hb);have n2_:=aM (blk_below (g:=gb185) (o:=.cells #[.int .i64 0,.slice none 0 0] 82 (0,0)) (qk BK185) hb);have n3_:=aM (below_step Q91 hb);clear BK184;clear BK185;clear HB;have HO188:=n0_;have BK184:=n1_;have BK185:=n2_;have HB:=n3_;clear n0_ n1_ n2_ n3_;(try clear hb);(try clear hb2);(try clear hk);(try clear hi);(try clear ho0);obtain ⟨Ao8,co8,eo8⟩:=Kd.R_slice HO188.out;subst eo8;have hcz9_0 : w7.cell? ⟨gb184,0,none⟩ = some (.int .i64 a0_0):=(blk_cell BK184.out 0).trans rfl;have hcz9_1 : w7.cell? ⟨gb184,1,none⟩ = some (.slice A0_1 l0_1.length c0_1):=(blk_cell BK184.out 1).trans rfl;have hfz9_0:=blk_frozen BK184.out 0;have hfz9_1:=blk_frozen BK184.out 1;have hcz10_0 : w7.cell? ⟨gb185,0,none⟩ = some (.int .i64 0):=(blk_cell BK185.out 0).trans rfl;have hcz10_1 : w7.cell? ⟨gb185,1,none⟩ = some (.slice none 0 0):=(blk_cell BK185.out 1).trans rfl;have hfz10_0:=blk_frozen BK185.out 0;have hfz10_1:=blk_frozen BK185.out 1))
 refine bodyPost_ret (results_cell_row rfl _ _ gb185 82 #[.int .i64 a0_0,.slice Ao8 t186.length co8] (0,0) _ rfl (by (with_reducible repeat (first|refine blk_drewN ?_ _|refine blk_drew ?_|refine blk_alloc ?_ _));refine blk_put (cs:=#[.int .i64 a0_0,.slice none 0 0]) ?_ 1 _ rfl;(with_reducible repeat (first|refine blk_drewN ?_ _|refine blk_drew ?_|refine blk_alloc ?_ _));refine blk_put (cs:=#[.int .i64 0,.slice none 0 0]) ?_ 0 _ rfl;(with_reducible repeat (first|refine blk_drewN ?_ _|refine blk_drew ?_|refine blk_alloc ?_ _));refine blk_far ?_ NB185_184.out _;(with_reducible repeat (first|refine blk_drewN ?_ _|refine blk_drew ?_|refine blk_alloc ?_ _));exact BK185.out) Try.underlying82 rfl Q14) rfl ?_
 exact ⟨_,Q6,by (with_reducible repeat (first|apply Kd.R_alloc|apply Kd.R_drewN|apply Kd.R_drew));exact Kd.R_mono (Kd.R_far (p:=⟨gb185,1,none⟩) (Kd.R_far (p:=⟨gb185,0,none⟩) (Kd.R_far (p:=⟨gb184,1,none⟩) (Kd.R_types (Kd.R_types HO188.out BK184.out Q36) BK185.out Q36) (fun _ hk => hk.1.2) (.slice Ao8 t186.length co8)) (fun _ hk => hk.2) (.int .i64 a0_0)) (fun _ hk => hk.2) (.slice Ao8 t186.length co8)) (fun _ hk => trivial),Q91⟩

/-! ### spec_l3Add: function 46 -/
def spec_l3Add.f (k : Nat) (l0 : List (S82)) (a1_0 : Int) (l1_1 : List (S40)) : Option ((List (S82)) × Bool):=(spec_l3Has.f k l0 a1_0 l1_1).bind fun t190 => (if t190 = true then (some (l0,false)) else ((spec_l3VoteCopy.f a1_0 l1_1).bind fun bt191 => (if l0.length < 4398046511104 then (some ((l0 ++ [(⟨bt191.1,bt191.2⟩ : S82)]),true)) else (none))))
theorem spec_l3Add.mono : ∀ a0 a1 a2 k,LeO (spec_l3Add.f k a0 a1 a2) (spec_l3Add.f (k + 1) a0 a1 a2):=by
 intro a0 a1 a2 k
 unfold spec_l3Add.f
 repeat' first
   | exact LeO.refl _
   | exact spec_l3Has.mono _ _ _ _
   | exact LeO.none _
   | refine LeO.ite ?_ ?_
   | refine LeO.bind ?_ (fun _ => ?_)
set_option maxHeartbeats 8000000 in
set_option maxRecDepth 100000 in
theorem spec_l3Add.calls (k : Nat) (P0_ : Nat → Prop) (u9000_ : Value) (l0 : List (S82)) (a1_0 : Int) (A1_1 : Option Addr) (c1_1 : Nat) (l1_1 : List (S40)) (r1 : List (S82)) (r2 : Bool) (w0 w : World) (hB : Below w0.heap.size w0 w) (ho0 : Kd.R k82 82 w w0.heap.size P0_ u9000_ l0) (hr1_1 : ∀ W_,Kept w W_ (fun k_ => P0_ k_) → Kd.C k40 W_ A1_1 l1_1.length l1_1) (hc1_1 : l1_1.length ≤ c1_1) (h : spec_l3Add.f k l0 a1_0 l1_1 = some (r1,r2)) :
  Calls Try.prog 46 #[u9000_,.agg #[.int .i64 a1_0,.slice A1_1 l1_1.length c1_1]] w fun e w' => ∃ v0_ : Value,e = .returned (.tuple #[v0_,.bool r2]) ∧ Kd.R k82 82 w' w0.heap.size (fun k_ => (P0_ k_ ∨ w.heap.size ≤ k_)) v0_ r1 ∧ Below w0.heap.size w0 w' ∧ Kept w w' (fun k_ => P0_ k_):=by
 have hu82:=Try.underlying82
 have HO0:=aM (show Kd.R k82 82 w w0.heap.size (fun k_ => (P0_ k_ ∨ w.heap.size ≤ k_)) u9000_ l0 from Kd.R_mono ho0 (fun k_ hk => (.inl hk)))
 have HR1_1:=aM hr1_1
 have HC1_1:=aM hc1_1
 clear hr1_1 hc1_1
 have HK:=aM (Kept.refl w (fun k_ => P0_ k_))
 have HW0:=aM hB.size
 have HB:=aM hB
 clear hB
 have H : ((spec_l3Has.f k l0 a1_0 l1_1).bind fun t190 => (if t190 = true then (some (l0,false)) else ((spec_l3VoteCopy.f a1_0 l1_1).bind fun bt191 => (if l0.length < 4398046511104 then (some ((l0 ++ [(⟨bt191.1,bt191.2⟩ : S82)]),true)) else (none))))) = some (r1,r2):=h
 clear h
 replace H:=Option.bind_eq_some_iff.mp H
 obtain ⟨t190,A30,H⟩:=H
 replace H : (if t190 = true then (some (l0,false)) else ((spec_l3VoteCopy.f a1_0 l1_1).bind fun bt191 => (if l0.length < 4398046511104 then (some ((l0 ++ [(⟨bt191.1,bt191.2⟩ : S82)]),true)) else (none)))) = some (r1,r2):=H
 have A3:=aM A30
 clear A30
 by_cases c4 : t190 = true
 ·subst c4
  have H1 : (some (l0,false)) = some (r1,r2):=by rw [if_pos rfl] at H;exact H
  clear H
  have H:=H1
  clear H1
  simp only [Option.some.injEq,Prod.mk.injEq] at H
  obtain ⟨rfl,rfl⟩:=H
  go_enter Try.func46,Try.ntmps46
  go_wp2_with (first|((with_reducible refine gate_dst (N:=3) rfl ?_);refine box_event ?hg (N:=3) ?hd (cs:=#[.int .i64 a1_0,.slice A1_1 l1_1.length c1_1]) (t:=82) ?hr ?_;(case hd => rfl);(case hg => rfl);(case hr => exact Q16);intro gb189 hg w5 hbox hb;have n0_:=aM (Kd.R_below (Kd.R_elderB (qR HO0) gb189 (Nat.le_of_eq hg.symm)) hb);have n1_:=aM (Kept.below (S:=(fun k_ => P0_ k_)) Q83 hb);have n2_:=aM (below_step Q3 hb);have n3_:=aM (hbox);have n4_:=aM ((by rw [hg];exact (by first|exact HK.out.1|exact (show Kept w _ (fun k_ => P0_ k_) from Q83).1) : w.heap.size ≤ gb189));have n5_:=aM ((Q37 : w0.heap.size ≤ gb189));clear HO0;clear HK;clear HB;have HO0:=n0_;have HK:=n1_;have HB:=n2_;have BK189:=n3_;have GW189:=n4_;have GE189:=n5_;clear n0_ n1_ n2_ n3_ n4_ n5_;clear hb hbox hg;have hcz6_0 : w5.cell? ⟨gb189,0,none⟩ = some (.int .i64 a1_0):=(blk_cell BK189.out 0).trans rfl;have hcz6_1 : w5.cell? ⟨gb189,1,none⟩ = some (.slice A1_1 l1_1.length c1_1):=(blk_cell BK189.out 1).trans rfl;have hfz6_0:=blk_frozen BK189.out 0;have hfz6_1:=blk_frozen BK189.out 1;obtain ⟨Ao7,co7,eo7⟩:=Kd.R_slice HO0.out;subst eo7)|((with_reducible refine gate_callee (f:=56) rfl ?_);refine goesL_ (some 8) rfl rfl Try.func56 Q14 rfl #[.slice Ao7 l0.length co7,.agg #[.int .i64 a1_0,.slice A1_1 l1_1.length c1_1]] rfl Q1 ?_;(with_reducible refine (spec_l3Has.calls k _ _ l0 a1_0 _ _ l1_1 true _ ?side1 ?side2 ?side3 ?side4 A3.out).mono ?_);(case side1 => exact Q128);(case side2 => exact (Kd.R_reads' HO0.out).2.1);(case side3 => exact Kd.C_kept_now HR1_1.out Q33);(case side4 => exact HC1_1.out);rintro e w8 ⟨rfl,hb⟩;refine ⟨_,rfl,?_⟩;have n0_:=aM (Kd.R_below (qR HO0) hb);have n1_:=aM (blk_below (g:=gb189) (o:=.cells #[.int .i64 a1_0,.slice A1_1 l1_1.length c1_1] 82 (0,0)) (qk BK189) hb);have n2_:=aM (Kept.below (S:=(fun k_ => P0_ k_)) Q33 hb);have n3_:=aM (below_step Q47 hb);clear HO0;clear BK189;clear HK;clear HB;have HO0:=n0_;have BK189:=n1_;have HK:=n2_;have HB:=n3_;clear n0_ n1_ n2_ n3_;(try clear hb);(try clear hb2);(try clear hk);(try clear hi)))
  go_ret2
  exact ⟨_,Q6,by (with_reducible repeat (first|apply Kd.R_alloc|apply Kd.R_drewN|apply Kd.R_drew));exact Kd.R_mono HO0.out (fun _ hk => hk.1),Q47,Q33⟩
 ·replace c4:=Bool.eq_false_iff.mpr c4
  subst c4
  have H1 : ((spec_l3VoteCopy.f a1_0 l1_1).bind fun bt191 => (if l0.length < 4398046511104 then (some ((l0 ++ [(⟨bt191.1,bt191.2⟩ : S82)]),true)) else (none))) = some (r1,r2):=by rw [if_neg (show ¬ (false = true) by decide)] at H;exact H
  clear H
  have H:=H1
  clear H1
  replace H:=Option.bind_eq_some_iff.mp H
  obtain ⟨⟨t191,t192⟩,A90,H⟩:=H
  replace H : (if l0.length < 4398046511104 then (some ((l0 ++ [(⟨t191,t192⟩ : S82)]),true)) else (none)) = some (r1,r2):=H
  have A9:=aM A90
  clear A90
  by_cases c10 : l0.length < 4398046511104
  case neg => rw [if_neg c10] at H;exact absurd H Q51
  rw [if_pos c10] at H
  have LMc10:=aM c10
  clear c10
  obtain ⟨y195,hy195⟩ : ∃ y_ : List (S82),y_ = (l0 ++ [(⟨t191,t192⟩ : S82)]):=⟨_,rfl⟩
  replace H : (some (y195,true)) = some (r1,r2):=by first|(rw [hy195];with_reducible exact H)|(have H2_:=(Option.bind_some _ _).symm.trans H;rw [hy195];with_reducible exact H2_)|(have H2_:=(Option.bind_some _ _).symm.trans H;with_reducible exact H2_)|with_reducible exact H|(rw [hy195];exact H)|exact H
  have Ny195:=aM hy195
  clear hy195
  simp only [Option.some.injEq,Prod.mk.injEq] at H
  obtain ⟨rfl,rfl⟩:=H
  go_enter Try.func46,Try.ntmps46
  go_wp2_with (first|((with_reducible refine gate_dst (N:=3) rfl ?_);refine box_event ?hg (N:=3) ?hd (cs:=#[.int .i64 a1_0,.slice A1_1 l1_1.length c1_1]) (t:=82) ?hr ?_;(case hd => rfl);(case hg => rfl);(case hr => exact Q16);intro gb189 hg w11 hbox hb;have n0_:=aM (Kd.R_below (Kd.R_elderB (qR HO0) gb189 (Nat.le_of_eq hg.symm)) hb);have n1_:=aM (Kept.below (S:=(fun k_ => P0_ k_)) Q83 hb);have n2_:=aM (below_step Q3 hb);have n3_:=aM (hbox);have n4_:=aM ((by rw [hg];exact (by first|exact HK.out.1|exact (show Kept w _ (fun k_ => P0_ k_) from Q83).1) : w.heap.size ≤ gb189));have n5_:=aM ((Q37 : w0.heap.size ≤ gb189));clear HO0;clear HK;clear HB;have HO0:=n0_;have HK:=n1_;have HB:=n2_;have BK189:=n3_;have GW189:=n4_;have GE189:=n5_;clear n0_ n1_ n2_ n3_ n4_ n5_;clear hb hbox hg;have hcz12_0 : w11.cell? ⟨gb189,0,none⟩ = some (.int .i64 a1_0):=(blk_cell BK189.out 0).trans rfl;have hcz12_1 : w11.cell? ⟨gb189,1,none⟩ = some (.slice A1_1 l1_1.length c1_1):=(blk_cell BK189.out 1).trans rfl;have hfz12_0:=blk_frozen BK189.out 0;have hfz12_1:=blk_frozen BK189.out 1;obtain ⟨Ao13,co13,eo13⟩:=Kd.R_slice HO0.out;subst eo13)|((with_reducible refine gate_callee (f:=56) rfl ?_);refine goesL_ (some 8) rfl rfl Try.func56 Q14 rfl #[.slice Ao13 l0.length co13,.agg #[.int .i64 a1_0,.slice A1_1 l1_1.length c1_1]] rfl Q1 ?_;(with_reducible refine (spec_l3Has.calls k _ _ l0 a1_0 _ _ l1_1 false _ ?side1 ?side2 ?side3 ?side4 A3.out).mono ?_);(case side1 => exact Q128);(case side2 => exact (Kd.R_reads' HO0.out).2.1);(case side3 => exact Kd.C_kept_now HR1_1.out Q33);(case side4 => exact HC1_1.out);rintro e w14 ⟨rfl,hb⟩;refine ⟨_,rfl,?_⟩;have n0_:=aM (Kd.R_below (qR HO0) hb);have n1_:=aM (blk_below (g:=gb189) (o:=.cells #[.int .i64 a1_0,.slice A1_1 l1_1.length c1_1] 82 (0,0)) (qk BK189) hb);have n2_:=aM (Kept.below (S:=(fun k_ => P0_ k_)) Q33 hb);have n3_:=aM (below_step Q47 hb);clear HO0;clear BK189;clear HK;clear HB;have HO0:=n0_;have BK189:=n1_;have HK:=n2_;have HB:=n3_;clear n0_ n1_ n2_ n3_;(try clear hb);(try clear hb2);(try clear hk);(try clear hi);have hcz15_0 : w14.cell? ⟨gb189,0,none⟩ = some (.int .i64 a1_0):=(blk_cell BK189.out 0).trans rfl;have hcz15_1 : w14.cell? ⟨gb189,1,none⟩ = some (.slice A1_1 l1_1.length c1_1):=(blk_cell BK189.out 1).trans rfl;have hfz15_0:=blk_frozen BK189.out 0;have hfz15_1:=blk_frozen BK189.out 1)|((with_reducible refine gate_callee (f:=57) rfl ?_);refine goesL_ (some 12) rfl rfl Try.func57 Q14 rfl #[.agg #[.int .i64 a1_0,.slice A1_1 l1_1.length c1_1]] rfl Q1 ?_;(with_reducible refine (spec_l3VoteCopy.calls a1_0 _ _ l1_1 t191 t192 _ ?side1 ?side2 A9.out).mono ?_);(case side1 => exact Kd.C_kept_now HR1_1.out Q33);(case side2 => exact HC1_1.out);rintro e w16 ⟨v193,rfl,ho0,hb⟩;refine ⟨_,rfl,?_⟩;have n0_:=aM (Kd.R_elder' (qR HO0) (Kd.R_base ho0) hb);have n1_:=aM (Kd.R_lower (Kd.R_newM (M:=fun k_ => (P0_ k_ ∨ w.heap.size ≤ k_)) ho0 (by first|exact HK.out.1|exact (show Kept w _ (fun k_ => P0_ k_) from Q33).1) (fun k_ h_ => .inr h_)) (below_size Q47));have n2_:=aM (blk_below (g:=gb189) (o:=.cells #[.int .i64 a1_0,.slice A1_1 l1_1.length c1_1] 82 (0,0)) (qk BK189) hb);have n3_:=aM (Kept.below (S:=(fun k_ => P0_ k_)) Q33 hb);have n4_:=aM (below_step Q47 hb);clear HO0;clear BK189;clear HK;clear HB;have HO0:=n0_;have HO194:=n1_;have BK189:=n2_;have HK:=n3_;have HB:=n4_;clear n0_ n1_ n2_ n3_ n4_;(try clear hb);(try clear hb2);(try clear hk);(try clear hi);(try clear ho0);obtain ⟨Ao18,co18,eo18⟩:=Kd.R_slice HO194.out;subst eo18)|((with_reducible refine gate_builtin (b:=.append) (xs:=#[.tmp 10,.tmp 13]) rfl ?_);at_builtin;refine Kd.R_append k82 (w0:=w0) w0.heap.size rfl (.tmp 10) (.tmp 13) 53 82 (.agg #[(.int .i64 0),(.slice none 0 0)]) 32 rfl Try.underlying53 info82 rfl Q36 Q17 (.slice Ao13 l0.length co13) l0 (⟨t191,t192⟩ : S82) [.int .i64 t191,.slice Ao18 t192.length co18] (fun k_ => (P0_ k_ ∨ w.heap.size ≤ k_) ∧ k_ ≠ gb189) (fun k_ => ((fun k_ => (P0_ k_ ∨ w.heap.size ≤ k_) ∧ k_ ≠ gb189)) k_ ∧ some k_ ≠ (.slice Ao13 l0.length co13 : Value).ownBlock) rfl rfl ?aP (fun _ hk => hk) ?aF ?aO ?aB ?aS ?aL ?_;(case aP => exact k82_mkM _ _ _ (⟨t191,t192⟩ : S82) (Kd.R_mono (Kd.R_types (Kd.R_apart' (HO194.out) (Kd.R_typed HO0.out) Q36) BK189.out Q36) (fun k_ hk => ⟨⟨hk.1.1.1,hk.2⟩,hk.1.2⟩)));(case aB => exact Q47);(case aF => exact (fun k_ hk => ⟨(.inr (Nat.le_trans (by first|exact HK.out.1|exact (show Kept w _ (fun k_ => P0_ k_) from Q33).1) hk)),Kd.freshB (g:=gb189) (o:=.cells #[.int .i64 a1_0,.slice A1_1 l1_1.length c1_1] 82 (0,0)) (qk BK189) k_ hk⟩));(case aO => exact (by (with_reducible repeat (first|apply Kd.R_alloc|apply Kd.R_drewN|apply Kd.R_drew));exact Kd.R_mono HO0.out (fun _ hk => ⟨hk.1.1,hk.1.2⟩)));(case aS => exact (below_size Q47));(case aL => have:=LMc10.out;omega);intro v196 w17 ho hb hg hat;rw [← Ny195.out] at ho;have n0_:=aM (blk_grown (g:=gb189) (o:=.cells #[.int .i64 a1_0,.slice A1_1 l1_1.length c1_1] 82 (0,0)) (qk BK189) hg (Kd.R_away HO0.out (fun _ hk => hk.1.2)));have n1_:=aM (hb);have n2_:=aM (Kept.of_grown (S:=(fun k_ => P0_ k_)) hg Q33 (fun k_ e_ => (HO0.out.1 k_ e_).1.1));have n3_:=aM (ho);clear BK189;clear HB;clear HK;clear HO0;clear HO194;have BK189:=n0_;have HB:=n1_;have HK:=n2_;have HO197:=n3_;clear n0_ n1_ n2_ n3_;clear ho hb hg hat))
  go_ret2
  exact ⟨_,Q6,by (with_reducible repeat (first|apply Kd.R_alloc|apply Kd.R_drewN|apply Kd.R_drew));exact Kd.R_mono HO197.out (fun _ hk => hk.1),Q47,Q33⟩

/-! ### spec_l71AnyPay: function 55 -/
def spec_l71AnyPay.f (k : Nat) (s0_0 : List Int) (s0_1 : Int) : Option (Int × Int × Int × Int):=(spec_l71Pay.f k s0_0 s0_1).bind fun bt199 => ((spec_l6Rd_pick.f k s0_0 bt199.2.2.2 12).bind fun bt204 => (if bt204.1 = 0 then (some (bt199.1,bt199.1,bt199.2.2.1,bt204.2)) else (if bt204.1 = 1 then ((some (([0,10] : List Int) : List Int)).bind fun y206 => ((spec_l6Rd_pick.f k s0_0 bt204.2 2).bind fun bt209 => (if 0 ≤ bt209.1 then (if bt209.1 < (y206.length : Int) then (some (bt199.1,bt199.2.1,rd y206 bt209.1,bt209.2)) else (none)) else (none)))) else (if bt204.1 = 2 then ((some (([0,4] : List Int) : List Int)).bind fun y212 => ((spec_l6Rd_pick.f k s0_0 bt204.2 2).bind fun bt215 => (if 0 ≤ bt215.1 then (if bt215.1 < (y212.length : Int) then (some (rd y212 bt215.1,bt199.2.1,bt199.2.2.1,bt215.2)) else (none)) else (none)))) else (some (bt199.1,bt199.2.1,bt199.2.2.1,bt204.2))))))
theorem spec_l71AnyPay.mono : ∀ a0 a1 k,LeO (spec_l71AnyPay.f k a0 a1) (spec_l71AnyPay.f (k + 1) a0 a1):=by
 intro a0 a1 k
 unfold spec_l71AnyPay.f
 repeat' first
   | exact LeO.refl _
   | exact spec_l6Rd_pick.mono _ _ _ _
   | exact spec_l71Pay.mono _ _ _
   | exact LeO.none _
   | refine LeO.ite ?_ ?_
   | refine LeO.bind ?_ (fun _ => ?_)
set_option maxHeartbeats 8000000 in
set_option maxRecDepth 100000 in
theorem spec_l71AnyPay.calls (k : Nat) (g : Nat) (s0_0 : List Int) (s0_1 : Int) (r1 : Int) (r2 : Int) (r3 : Int) (r4 : Int) (w0 w : World) (hI : IsS76 w0 w g s0_0 s0_1) (hB : Below w0.heap.size w0 w) (h : spec_l71AnyPay.f k s0_0 s0_1 = some (r1,r2,r3,r4)) :
  Calls Try.prog 55 #[.pointer (some ⟨g,0,none⟩)] w fun e w' => e = .returned (.agg #[.int .i64 r1,.int .i64 r2,.int .i64 r3]) ∧ IsS76 w0 w' g s0_0 r4 ∧ Below w0.heap.size w0 w' ∧ KeepBut w w' g none:=by
 have hu38:=Try.underlying38
 have HI0:=aM hI
 have HK:=aM (KeepBut.refl w g none)
 have HL:=aM hB.size
 clear hI
 have HW0:=aM hB.size
 have HB:=aM hB
 clear hB
 have H : ((spec_l71Pay.f k s0_0 s0_1).bind fun bt199 => ((spec_l6Rd_pick.f k s0_0 bt199.2.2.2 12).bind fun bt204 => (if bt204.1 = 0 then (some (bt199.1,bt199.1,bt199.2.2.1,bt204.2)) else (if bt204.1 = 1 then ((some (([0,10] : List Int) : List Int)).bind fun y206 => ((spec_l6Rd_pick.f k s0_0 bt204.2 2).bind fun bt209 => (if 0 ≤ bt209.1 then (if bt209.1 < (y206.length : Int) then (some (bt199.1,bt199.2.1,rd y206 bt209.1,bt209.2)) else (none)) else (none)))) else (if bt204.1 = 2 then ((some (([0,4] : List Int) : List Int)).bind fun y212 => ((spec_l6Rd_pick.f k s0_0 bt204.2 2).bind fun bt215 => (if 0 ≤ bt215.1 then (if bt215.1 < (y212.length : Int) then (some (rd y212 bt215.1,bt199.2.1,bt199.2.2.1,bt215.2)) else (none)) else (none)))) else (some (bt199.1,bt199.2.1,bt199.2.2.1,bt204.2))))))) = some (r1,r2,r3,r4):=h
 clear h
 replace H:=Option.bind_eq_some_iff.mp H
 obtain ⟨⟨t199,t200,t201,t202⟩,A20,H⟩:=H
 replace H : ((spec_l6Rd_pick.f k s0_0 t202 12).bind fun bt204 => (if bt204.1 = 0 then (some (t199,t199,t201,bt204.2)) else (if bt204.1 = 1 then ((some (([0,10] : List Int) : List Int)).bind fun y206 => ((spec_l6Rd_pick.f k s0_0 bt204.2 2).bind fun bt209 => (if 0 ≤ bt209.1 then (if bt209.1 < (y206.length : Int) then (some (t199,t200,rd y206 bt209.1,bt209.2)) else (none)) else (none)))) else (if bt204.1 = 2 then ((some (([0,4] : List Int) : List Int)).bind fun y212 => ((spec_l6Rd_pick.f k s0_0 bt204.2 2).bind fun bt215 => (if 0 ≤ bt215.1 then (if bt215.1 < (y212.length : Int) then (some (rd y212 bt215.1,t200,t201,bt215.2)) else (none)) else (none)))) else (some (t199,t200,t201,bt204.2)))))) = some (r1,r2,r3,r4):=H
 have A2:=aM A20
 clear A20
 replace H:=Option.bind_eq_some_iff.mp H
 obtain ⟨⟨t204,t205⟩,A30,H⟩:=H
 replace H : (if t204 = 0 then (some (t199,t199,t201,t205)) else (if t204 = 1 then ((some (([0,10] : List Int) : List Int)).bind fun y206 => ((spec_l6Rd_pick.f k s0_0 t205 2).bind fun bt209 => (if 0 ≤ bt209.1 then (if bt209.1 < (y206.length : Int) then (some (t199,t200,rd y206 bt209.1,bt209.2)) else (none)) else (none)))) else (if t204 = 2 then ((some (([0,4] : List Int) : List Int)).bind fun y212 => ((spec_l6Rd_pick.f k s0_0 t205 2).bind fun bt215 => (if 0 ≤ bt215.1 then (if bt215.1 < (y212.length : Int) then (some (rd y212 bt215.1,t200,t201,bt215.2)) else (none)) else (none)))) else (some (t199,t200,t201,t205))))) = some (r1,r2,r3,r4):=H
 have A3:=aM A30
 clear A30
 by_cases c4 : t204 = 0
 ·rw [if_pos c4] at H
  have c4b0 : (t204 == 0) = true:=beq_iff_eq.mpr c4
  have c4b1 : (t204 != 0) = false:=bne_eq_false_iff_eq.mpr c4
  clear c4
  simp only [Option.some.injEq,Prod.mk.injEq] at H
  obtain ⟨rfl,rfl,rfl,rfl⟩:=H
  go_enter Try.func55,Try.ntmps55
  go_wp2_with (first|((with_reducible refine gate_dst (N:=2) rfl ?_);refine box_event ?hg (N:=2) ?hd (cs:=#[.int .i64 0,.int .i64 0,.int .i64 0]) (t:=38) ?hr ?_;(case hd => rfl);(case hg => rfl);(case hr => exact Q16);intro gb198 hg w5 hbox hb;have n0_:=aM (IsS76.below Q0 hb);have n1_:=aM (KeepBut.trans Q2 (KeepBut.of_below hb g none) (.inl rfl));have n2_:=aM (below_step Q4 hb);have n3_:=aM (hbox);have n4_:=aM ((Q58 : w.heap.size ≤ gb198));have n5_:=aM ((Nat.le_trans HW0.out (Q58 : w.heap.size ≤ gb198) : w0.heap.size ≤ gb198));have n6_:=aM ((Q72 : g ≠ gb198));have n7_:=aM ((Q73 : gb198 ≠ g));clear HI0;clear HK;clear HB;have HI0:=n0_;have HK:=n1_;have HB:=n2_;have BK198:=n3_;have GW198:=n4_;have GE198:=n5_;have NB0_198:=n6_;have NB198_0:=n7_;clear n0_ n1_ n2_ n3_ n4_ n5_ n6_ n7_;clear hb hbox hg)|((with_reducible refine gate_callee (f:=49) rfl ?_);refine goesL_ (some 5) rfl rfl Try.func49 Q14 rfl #[.pointer (some ⟨g,0,none⟩)] rfl Q1 ?_;(with_reducible refine (spec_l71Pay.calls k g s0_0 s0_1 t199 t200 t201 t202 w0 _ ?side1 ?side2 A2.out).mono ?_);(case side1 => exact Q22);(case side2 => exact Q39);rintro e w6 ⟨rfl,hi,hb,hk⟩;refine ⟨_,rfl,?_⟩;have n0_:=aM (KeepBut.blk hk (g':=gb198) (o:=.cells #[.int .i64 0,.int .i64 0,.int .i64 0] 38 (0,0)) (qk BK198) NB198_0.out Q51);have n1_:=aM (KeepBut.trans Q24 hk (.inl rfl));have n2_:=aM (hb);have n3_:=aM (hi);clear BK198;clear HK;clear HB;clear HI0;have BK198:=n0_;have HK:=n1_;have HB:=n2_;have HI0:=n3_;clear n0_ n1_ n2_ n3_;(try clear hb);(try clear hb2);(try clear hk);(try clear hi))|((with_reducible refine gate_dst (N:=3) rfl ?_);refine box_event ?hg (N:=3) ?hd (cs:=#[.int .i64 0,.int .i64 0,.int .i64 0]) (t:=38) ?hr ?_;(case hd => rfl);(case hg => rfl);(case hr => exact Q16);intro gb203 hg w7 hbox hb;have n0_:=aM (IsS76.below Q22 hb);have n1_:=aM (blk_below (g:=gb198) (o:=.cells #[.int .i64 0,.int .i64 0,.int .i64 0] 38 (0,0)) (qk BK198) hb);have n2_:=aM (KeepBut.trans Q24 (KeepBut.of_below hb g none) (.inl rfl));have n3_:=aM (below_step Q39 hb);have n4_:=aM (hbox);have n5_:=aM ((Q71 : w.heap.size ≤ gb203));have n6_:=aM ((Nat.le_trans HW0.out (Q71 : w.heap.size ≤ gb203) : w0.heap.size ≤ gb203));have n7_:=aM ((Q81 : gb198 ≠ gb203));have n8_:=aM ((Q82 : gb203 ≠ gb198));have n9_:=aM ((Q106 : g ≠ gb203));have n10_:=aM ((Q107 : gb203 ≠ g));clear HI0;clear BK198;clear HK;clear HB;have HI0:=n0_;have BK198:=n1_;have HK:=n2_;have HB:=n3_;have BK203:=n4_;have GW203:=n5_;have GE203:=n6_;have NB198_203:=n7_;have NB203_198:=n8_;have NB0_203:=n9_;have NB203_0:=n10_;clear n0_ n1_ n2_ n3_ n4_ n5_ n6_ n7_ n8_ n9_ n10_;clear hb hbox hg;have hnb8:=NB203_198.out;have hnc8:=NB198_203.out;have hnb9:=NB203_0.out;have hnc9:=NB0_203.out;have hcz10_0 : w7.cell? ⟨gb203,0,none⟩ = some (.int .i64 0):=(blk_cell BK203.out 0).trans rfl;have hcz10_1 : w7.cell? ⟨gb203,1,none⟩ = some (.int .i64 0):=(blk_cell BK203.out 1).trans rfl;have hcz10_2 : w7.cell? ⟨gb203,2,none⟩ = some (.int .i64 0):=(blk_cell BK203.out 2).trans rfl;have hfz10_0:=blk_frozen BK203.out 0;have hfz10_1:=blk_frozen BK203.out 1;have hfz10_2:=blk_frozen BK203.out 2)|((with_reducible refine gate_callee (f:=40) rfl ?_);refine goesL_ (some 7) rfl rfl Try.func40 Q14 rfl #[.pointer (some ⟨g,0,none⟩),.int .i64 12] rfl Q1 ?_;(with_reducible refine (spec_l6Rd_pick.calls k g s0_0 t202 12 t204 t205 w0 _ ?side1 ?side2 A3.out).mono ?_);(case side1 => exact Q21);(case side2 => exact Q28);rintro e w11 ⟨rfl,hi,hb,hk⟩;refine ⟨_,rfl,?_⟩;have n0_:=aM (KeepBut.blk hk (g':=gb198) (o:=.cells #[.int .i64 0,.int .i64 0,.int .i64 0] 38 (0,0)) Q34 NB198_0.out Q51);have n1_:=aM (KeepBut.blk hk (g':=gb203) (o:=.cells #[.int .i64 t199,.int .i64 t200,.int .i64 t201] 38 (0,0)) Q30 NB203_0.out Q51);have n2_:=aM (KeepBut.trans Q23 hk (.inl rfl));have n3_:=aM (hb);have n4_:=aM (hi);clear BK198;clear BK203;clear HK;clear HB;clear HI0;have BK198:=n0_;have BK203:=n1_;have HK:=n2_;have HB:=n3_;have HI0:=n4_;clear n0_ n1_ n2_ n3_ n4_;(try clear hb);(try clear hb2);(try clear hk);(try clear hi);have hcz12_0 : w11.cell? ⟨gb203,0,none⟩ = some (.int .i64 t199):=(blk_cell BK203.out 0).trans rfl;have hcz12_1 : w11.cell? ⟨gb203,1,none⟩ = some (.int .i64 t200):=(blk_cell BK203.out 1).trans rfl;have hcz12_2 : w11.cell? ⟨gb203,2,none⟩ = some (.int .i64 t201):=(blk_cell BK203.out 2).trans rfl;have hfz12_0:=blk_frozen BK203.out 0;have hfz12_1:=blk_frozen BK203.out 1;have hfz12_2:=blk_frozen BK203.out 2;have hnb13:=NB198_0.out;have hnc13:=NB0_198.out;have hcz14_0 : w11.cell? ⟨gb198,0,none⟩ = some (.int .i64 0):=(blk_cell BK198.out 0).trans rfl;have hcz14_1 : w11.cell? ⟨gb198,1,none⟩ = some (.int .i64 0):=(blk_cell BK198.out 1).trans rfl;have hcz14_2 : w11.cell? ⟨gb198,2,none⟩ = some (.int .i64 0):=(blk_cell BK198.out 2).trans rfl;have hfz14_0:=blk_frozen BK198.out 0;have hfz14_1:=blk_frozen BK198.out 1;have hfz14_2:=blk_frozen BK198.out 2))
  refine bodyPost_ret (results_cell_row rfl _ _ gb198 38 #[.int .i64 t199,.int .i64 t199,.int .i64 t201] (0,0) _ rfl (by (with_reducible repeat (first|refine blk_drewN ?_ _|refine blk_drew ?_|refine blk_alloc ?_ _));refine blk_put (cs:=#[.int .i64 t199,.int .i64 t199,.int .i64 0]) ?_ 2 _ rfl;(with_reducible repeat (first|refine blk_drewN ?_ _|refine blk_drew ?_|refine blk_alloc ?_ _));refine blk_put (cs:=#[.int .i64 t199,.int .i64 0,.int .i64 0]) ?_ 1 _ rfl;(with_reducible repeat (first|refine blk_drewN ?_ _|refine blk_drew ?_|refine blk_alloc ?_ _));refine blk_put (cs:=#[.int .i64 0,.int .i64 0,.int .i64 0]) ?_ 0 _ rfl;(with_reducible repeat (first|refine blk_drewN ?_ _|refine blk_drew ?_|refine blk_alloc ?_ _));refine blk_far ?_ NB198_203.out _;(with_reducible repeat (first|refine blk_drewN ?_ _|refine blk_drew ?_|refine blk_alloc ?_ _));exact BK198.out) Try.underlying38 rfl Q14) rfl ?_
  exact ⟨Q6,Q21,Q28,Q23⟩
 ·rw [if_neg c4] at H
  have c4b0 : (t204 == 0) = false:=beq_eq_false_iff_ne.mpr c4
  have c4b1 : (t204 != 0) = true:=bne_iff_ne.mpr c4
  by_cases c15 : t204 = 1
  ·rw [if_pos c15] at H
   have c15b0 : (t204 == 1) = true:=beq_iff_eq.mpr c15
   have c15b1 : (t204 != 1) = false:=bne_eq_false_iff_eq.mpr c15
   clear c15
   obtain ⟨y206,hy206⟩ : ∃ y_ : List Int,y_ = (([0,10] : List Int)):=⟨_,rfl⟩
   replace H : ((spec_l6Rd_pick.f k s0_0 t205 2).bind fun bt209 => (if 0 ≤ bt209.1 then (if bt209.1 < (y206.length : Int) then (some (t199,t200,rd y206 bt209.1,bt209.2)) else (none)) else (none))) = some (r1,r2,r3,r4):=by first|(rw [hy206];with_reducible exact H)|(have H2_:=(Option.bind_some _ _).symm.trans H;rw [hy206];with_reducible exact H2_)|(have H2_:=(Option.bind_some _ _).symm.trans H;with_reducible exact H2_)|with_reducible exact H|(rw [hy206];exact H)|exact H
   have Ny206:=aM hy206
   clear hy206
   replace H:=Option.bind_eq_some_iff.mp H
   obtain ⟨⟨t209,t210⟩,A160,H⟩:=H
   replace H : (if 0 ≤ t209 then (if t209 < (y206.length : Int) then (some (t199,t200,rd y206 t209,t210)) else (none)) else (none)) = some (r1,r2,r3,r4):=H
   have A16:=aM A160
   clear A160
   by_cases c17 : 0 ≤ t209
   case neg => rw [if_neg c17] at H;exact absurd H Q51
   rw [if_pos c17] at H
   have c17b0 : decide (0 ≤ t209) = true:=decide_eq_true c17
   clear c17
   by_cases c18 : t209 < (y206.length : Int)
   case neg => rw [if_neg c18] at H;exact absurd H Q51
   rw [if_pos c18] at H
   have c18b0 : decide (t209 < (y206.length : Int)) = true:=decide_eq_true c18
   clear c18
   simp only [Option.some.injEq,Prod.mk.injEq] at H
   obtain ⟨rfl,rfl,rfl,rfl⟩:=H
   go_enter Try.func55,Try.ntmps55
   go_wp2_with (first|((with_reducible refine gate_dst (N:=2) rfl ?_);refine box_event ?hg (N:=2) ?hd (cs:=#[.int .i64 0,.int .i64 0,.int .i64 0]) (t:=38) ?hr ?_;(case hd => rfl);(case hg => rfl);(case hr => exact Q16);intro gb198 hg w19 hbox hb;have n0_:=aM (IsS76.below Q0 hb);have n1_:=aM (KeepBut.trans Q2 (KeepBut.of_below hb g none) (.inl rfl));have n2_:=aM (below_step Q4 hb);have n3_:=aM (hbox);have n4_:=aM ((Q58 : w.heap.size ≤ gb198));have n5_:=aM ((Nat.le_trans HW0.out (Q58 : w.heap.size ≤ gb198) : w0.heap.size ≤ gb198));have n6_:=aM ((Q72 : g ≠ gb198));have n7_:=aM ((Q73 : gb198 ≠ g));clear HI0;clear HK;clear HB;have HI0:=n0_;have HK:=n1_;have HB:=n2_;have BK198:=n3_;have GW198:=n4_;have GE198:=n5_;have NB0_198:=n6_;have NB198_0:=n7_;clear n0_ n1_ n2_ n3_ n4_ n5_ n6_ n7_;clear hb hbox hg)|((with_reducible refine gate_callee (f:=49) rfl ?_);refine goesL_ (some 5) rfl rfl Try.func49 Q14 rfl #[.pointer (some ⟨g,0,none⟩)] rfl Q1 ?_;(with_reducible refine (spec_l71Pay.calls k g s0_0 s0_1 t199 t200 t201 t202 w0 _ ?side1 ?side2 A2.out).mono ?_);(case side1 => exact Q22);(case side2 => exact Q39);rintro e w20 ⟨rfl,hi,hb,hk⟩;refine ⟨_,rfl,?_⟩;have n0_:=aM (KeepBut.blk hk (g':=gb198) (o:=.cells #[.int .i64 0,.int .i64 0,.int .i64 0] 38 (0,0)) (qk BK198) NB198_0.out Q51);have n1_:=aM (KeepBut.trans Q24 hk (.inl rfl));have n2_:=aM (hb);have n3_:=aM (hi);clear BK198;clear HK;clear HB;clear HI0;have BK198:=n0_;have HK:=n1_;have HB:=n2_;have HI0:=n3_;clear n0_ n1_ n2_ n3_;(try clear hb);(try clear hb2);(try clear hk);(try clear hi))|((with_reducible refine gate_dst (N:=3) rfl ?_);refine box_event ?hg (N:=3) ?hd (cs:=#[.int .i64 0,.int .i64 0,.int .i64 0]) (t:=38) ?hr ?_;(case hd => rfl);(case hg => rfl);(case hr => exact Q16);intro gb203 hg w21 hbox hb;have n0_:=aM (IsS76.below Q22 hb);have n1_:=aM (blk_below (g:=gb198) (o:=.cells #[.int .i64 0,.int .i64 0,.int .i64 0] 38 (0,0)) (qk BK198) hb);have n2_:=aM (KeepBut.trans Q24 (KeepBut.of_below hb g none) (.inl rfl));have n3_:=aM (below_step Q39 hb);have n4_:=aM (hbox);have n5_:=aM ((Q71 : w.heap.size ≤ gb203));have n6_:=aM ((Nat.le_trans HW0.out (Q71 : w.heap.size ≤ gb203) : w0.heap.size ≤ gb203));have n7_:=aM ((Q81 : gb198 ≠ gb203));have n8_:=aM ((Q82 : gb203 ≠ gb198));have n9_:=aM ((Q106 : g ≠ gb203));have n10_:=aM ((Q107 : gb203 ≠ g));clear HI0;clear BK198;clear HK;clear HB;have HI0:=n0_;have BK198:=n1_;have HK:=n2_;have HB:=n3_;have BK203:=n4_;have GW203:=n5_;have GE203:=n6_;have NB198_203:=n7_;have NB203_198:=n8_;have NB0_203:=n9_;have NB203_0:=n10_;clear n0_ n1_ n2_ n3_ n4_ n5_ n6_ n7_ n8_ n9_ n10_;clear hb hbox hg;have hnb22:=NB203_198.out;have hnc22:=NB198_203.out;have hnb23:=NB203_0.out;have hnc23:=NB0_203.out;have hcz24_0 : w21.cell? ⟨gb203,0,none⟩ = some (.int .i64 0):=(blk_cell BK203.out 0).trans rfl;have hcz24_1 : w21.cell? ⟨gb203,1,none⟩ = some (.int .i64 0):=(blk_cell BK203.out 1).trans rfl;have hcz24_2 : w21.cell? ⟨gb203,2,none⟩ = some (.int .i64 0):=(blk_cell BK203.out 2).trans rfl;have hfz24_0:=blk_frozen BK203.out 0;have hfz24_1:=blk_frozen BK203.out 1;have hfz24_2:=blk_frozen BK203.out 2)|((with_reducible refine gate_callee (f:=40) rfl ?_);refine goesL_ (some 7) rfl rfl Try.func40 Q14 rfl #[.pointer (some ⟨g,0,none⟩),.int .i64 12] rfl Q1 ?_;(with_reducible refine (spec_l6Rd_pick.calls k g s0_0 t202 12 t204 t205 w0 _ ?side1 ?side2 A3.out).mono ?_);(case side1 => exact Q21);(case side2 => exact Q28);rintro e w25 ⟨rfl,hi,hb,hk⟩;refine ⟨_,rfl,?_⟩;have n0_:=aM (KeepBut.blk hk (g':=gb198) (o:=.cells #[.int .i64 0,.int .i64 0,.int .i64 0] 38 (0,0)) Q34 NB198_0.out Q51);have n1_:=aM (KeepBut.blk hk (g':=gb203) (o:=.cells #[.int .i64 t199,.int .i64 t200,.int .i64 t201] 38 (0,0)) Q30 NB203_0.out Q51);have n2_:=aM (KeepBut.trans Q23 hk (.inl rfl));have n3_:=aM (hb);have n4_:=aM (hi);clear BK198;clear BK203;clear HK;clear HB;clear HI0;have BK198:=n0_;have BK203:=n1_;have HK:=n2_;have HB:=n3_;have HI0:=n4_;clear n0_ n1_ n2_ n3_ n4_;(try clear hb);(try clear hb2);(try clear hk);(try clear hi))|((with_reducible refine gate_dst (N:=15) rfl ?_);refine Kd.R_lit (Kd.int .i64) _ 3 ?hg (N:=15) ?hd (xs:=([0,10] : List Int)) (inner:=[.int .i64 0,.int .i64 10]) (ok:=fun _ => True) (okp:=fun _ => True) ?hr ?hp (fun _ hk => hk) trivial (Below.refl _ _) (Nat.le_refl _) Q51 ?_;(case hd => rfl);(case hg => rfl);(case hr => exact Q16);(case hp => exact (Reps.one (show Kd.M (Kd.int .i64) _ _ _ 0 [.int .i64 0] from rfl) (Reps.one (show Kd.M (Kd.int .i64) _ _ _ 10 [.int .i64 10] from rfl) (Reps.none _ _))));intro v207 w26 ho27 hb hg_ hnew_;clear hg_ hnew_;(first|rw [← Ny206.out] at ho27|(simp only [Int.reduceToNat] at ho27;rw [← Ny206.out] at ho27));have n0_:=aM (Kd.R_lower ho27 (keep_size (w:=w) (g:=g) (row:=none) Q23));have n1_:=aM (IsS76.below Q21 hb);have n2_:=aM (blk_below (g:=gb198) (o:=.cells #[.int .i64 0,.int .i64 0,.int .i64 0] 38 (0,0)) (qk BK198) hb);have n3_:=aM (blk_below (g:=gb203) (o:=.cells #[.int .i64 t199,.int .i64 t200,.int .i64 t201] 38 (0,0)) (qk BK203) hb);have n4_:=aM (KeepBut.trans Q23 (KeepBut.of_below hb g none) (.inl rfl));have n5_:=aM (below_step Q28 hb);clear HI0;clear BK198;clear BK203;clear HK;clear HB;have HO208:=n0_;have HI0:=n1_;have BK198:=n2_;have BK203:=n3_;have HK:=n4_;have HB:=n5_;clear n0_ n1_ n2_ n3_ n4_ n5_;clear hb ho27)|((with_reducible refine gate_callee (f:=40) rfl ?_);refine goesL_ (some 17) rfl rfl Try.func40 Q14 rfl #[.pointer (some ⟨g,0,none⟩),.int .i64 2] rfl Q1 ?_;(with_reducible refine (spec_l6Rd_pick.calls k g s0_0 t205 2 t209 t210 w0 _ ?side1 ?side2 A16.out).mono ?_);(case side1 => exact Q21);(case side2 => exact Q28);rintro e w28 ⟨rfl,hi,hb,hk⟩;refine ⟨_,rfl,?_⟩;have n0_:=aM (KeepBut.blk hk (g':=gb198) (o:=.cells #[.int .i64 0,.int .i64 0,.int .i64 0] 38 (0,0)) (qk BK198) NB198_0.out Q51);have n1_:=aM (KeepBut.blk hk (g':=gb203) (o:=.cells #[.int .i64 t199,.int .i64 t200,.int .i64 t201] 38 (0,0)) (qk BK203) NB203_0.out Q51);have n2_:=aM (Kd.R_mono (Kd.R_keep (IsS76.apart (show IsS76 w0 _ g s0_0 t205 from Q21) (qR HO208) Q36) hk (fun _ h => h.2)) (fun _ h => h.1));have n3_:=aM (KeepBut.trans Q23 hk (.inl rfl));have n4_:=aM (hb);have n5_:=aM (hi);clear BK198;clear BK203;clear HO208;clear HK;clear HB;clear HI0;have BK198:=n0_;have BK203:=n1_;have HO208:=n2_;have HK:=n3_;have HB:=n4_;have HI0:=n5_;clear n0_ n1_ n2_ n3_ n4_ n5_;(try clear hb);(try clear hb2);(try clear hk);(try clear hi);obtain ⟨Ao29,co29,eo29⟩:=Kd.R_slice HO208.out;subst eo29;have p211 : 0 ≤ (t209 : Int):=of_decide_eq_true Q5;have q211 : t209 < (y206.length : Int):=of_decide_eq_true Q5;obtain ⟨ad211,e211,hx211_0⟩:=Kd.at_int (Kd.R_reads' HO208.out).2.2 t209 p211 q211;cases e211;replace p211:=eq_true p211;replace q211:=eq_true q211;have hcz30_0 : w28.cell? ⟨gb203,0,none⟩ = some (.int .i64 t199):=(blk_cell BK203.out 0).trans rfl;have hcz30_1 : w28.cell? ⟨gb203,1,none⟩ = some (.int .i64 t200):=(blk_cell BK203.out 1).trans rfl;have hcz30_2 : w28.cell? ⟨gb203,2,none⟩ = some (.int .i64 t201):=(blk_cell BK203.out 2).trans rfl;have hfz30_0:=blk_frozen BK203.out 0;have hfz30_1:=blk_frozen BK203.out 1;have hfz30_2:=blk_frozen BK203.out 2;have hnb31:=NB198_0.out;have hnc31:=NB0_198.out;have hcz32_0 : w28.cell? ⟨gb198,0,none⟩ = some (.int .i64 0):=(blk_cell BK198.out 0).trans rfl;have hcz32_1 : w28.cell? ⟨gb198,1,none⟩ = some (.int .i64 0):=(blk_cell BK198.out 1).trans rfl;have hcz32_2 : w28.cell? ⟨gb198,2,none⟩ = some (.int .i64 0):=(blk_cell BK198.out 2).trans rfl;have hfz32_0:=blk_frozen BK198.out 0;have hfz32_1:=blk_frozen BK198.out 1;have hfz32_2:=blk_frozen BK198.out 2))
   refine bodyPost_ret (results_cell_row rfl _ _ gb198 38 #[.int .i64 t199,.int .i64 t200,.int .i64 (rd y206 t209)] (0,0) _ rfl (by (with_reducible repeat (first|refine blk_drewN ?_ _|refine blk_drew ?_|refine blk_alloc ?_ _));refine blk_put (cs:=#[.int .i64 t199,.int .i64 t200,.int .i64 0]) ?_ 2 _ rfl;(with_reducible repeat (first|refine blk_drewN ?_ _|refine blk_drew ?_|refine blk_alloc ?_ _));refine blk_put (cs:=#[.int .i64 t199,.int .i64 0,.int .i64 0]) ?_ 1 _ rfl;(with_reducible repeat (first|refine blk_drewN ?_ _|refine blk_drew ?_|refine blk_alloc ?_ _));refine blk_put (cs:=#[.int .i64 0,.int .i64 0,.int .i64 0]) ?_ 0 _ rfl;(with_reducible repeat (first|refine blk_drewN ?_ _|refine blk_drew ?_|refine blk_alloc ?_ _));refine blk_far ?_ NB198_203.out _;(with_reducible repeat (first|refine blk_drewN ?_ _|refine blk_drew ?_|refine blk_alloc ?_ _));exact BK198.out) Try.underlying38 rfl Q14) rfl ?_
   exact ⟨Q6,Q21,Q28,Q23⟩
  ·rw [if_neg c15] at H
   have c15b0 : (t204 == 1) = false:=beq_eq_false_iff_ne.mpr c15
   have c15b1 : (t204 != 1) = true:=bne_iff_ne.mpr c15
   by_cases c33 : t204 = 2
   ·rw [if_pos c33] at H
    have c33b0 : (t204 == 2) = true:=beq_iff_eq.mpr c33
    have c33b1 : (t204 != 2) = false:=bne_eq_false_iff_eq.mpr c33
    clear c33
    obtain ⟨y212,hy212⟩ : ∃ y_ : List Int,y_ = (([0,4] : List Int)):=⟨_,rfl⟩
    replace H : ((spec_l6Rd_pick.f k s0_0 t205 2).bind fun bt215 => (if 0 ≤ bt215.1 then (if bt215.1 < (y212.length : Int) then (some (rd y212 bt215.1,t200,t201,bt215.2)) else (none)) else (none))) = some (r1,r2,r3,r4):=by first|(rw [hy212];with_reducible exact H)|(have H2_:=(Option.bind_some _ _).symm.trans H;rw [hy212];with_reducible exact H2_)|(have H2_:=(Option.bind_some _ _).symm.trans H;with_reducible exact H2_)|with_reducible exact H|(rw [hy212];exact H)|exact H
    have Ny212:=aM hy212
    clear hy212
    replace H:=Option.bind_eq_some_iff.mp H
    obtain ⟨⟨t215,t216⟩,A340,H⟩:=H
    replace H : (if 0 ≤ t215 then (if t215 < (y212.length : Int) then (some (rd y212 t215,t200,t201,t216)) else (none)) else (none)) = some (r1,r2,r3,r4):=H
    have A34:=aM A340
    clear A340
    by_cases c35 : 0 ≤ t215
    case neg => rw [if_neg c35] at H;exact absurd H Q51
    rw [if_pos c35] at H
    have c35b0 : decide (0 ≤ t215) = true:=decide_eq_true c35
    clear c35
    by_cases c36 : t215 < (y212.length : Int)
    case neg => rw [if_neg c36] at H;exact absurd H Q51
    rw [if_pos c36] at H
    have c36b0 : decide (t215 < (y212.length : Int)) = true:=decide_eq_true c36
    clear c36
    simp only [Option.some.injEq,Prod.mk.injEq] at H
    obtain ⟨rfl,rfl,rfl,rfl⟩:=H
    go_enter Try.func55,Try.ntmps55
    go_wp2_with (first|((with_reducible refine gate_dst (N:=2) rfl ?_);refine box_event ?hg (N:=2) ?hd (cs:=#[.int .i64 0,.int .i64 0,.int .i64 0]) (t:=38) ?hr ?_;(case hd => rfl);(case hg => rfl);(case hr => exact Q16);intro gb198 hg w37 hbox hb;have n0_:=aM (IsS76.below Q0 hb);have n1_:=aM (KeepBut.trans Q2 (KeepBut.of_below hb g none) (.inl rfl));have n2_:=aM (below_step Q4 hb);have n3_:=aM (hbox);have n4_:=aM ((Q58 : w.heap.size ≤ gb198));have n5_:=aM ((Nat.le_trans HW0.out (Q58 : w.heap.size ≤ gb198) : w0.heap.size ≤ gb198));have n6_:=aM ((Q72 : g ≠ gb198));have n7_:=aM ((Q73 : gb198 ≠ g));clear HI0;clear HK;clear HB;have HI0:=n0_;have HK:=n1_;have HB:=n2_;have BK198:=n3_;have GW198:=n4_;have GE198:=n5_;have NB0_198:=n6_;have NB198_0:=n7_;clear n0_ n1_ n2_ n3_ n4_ n5_ n6_ n7_;clear hb hbox hg)|((with_reducible refine gate_callee (f:=49) rfl ?_);refine goesL_ (some 5) rfl rfl Try.func49 Q14 rfl #[.pointer (some ⟨g,0,none⟩)] rfl Q1 ?_;(with_reducible refine (spec_l71Pay.calls k g s0_0 s0_1 t199 t200 t201 t202 w0 _ ?side1 ?side2 A2.out).mono ?_);(case side1 => exact Q22);(case side2 => exact Q39);rintro e w38 ⟨rfl,hi,hb,hk⟩;refine ⟨_,rfl,?_⟩;have n0_:=aM (KeepBut.blk hk (g':=gb198) (o:=.cells #[.int .i64 0,.int .i64 0,.int .i64 0] 38 (0,0)) (qk BK198) NB198_0.out Q51);have n1_:=aM (KeepBut.trans Q24 hk (.inl rfl));have n2_:=aM (hb);have n3_:=aM (hi);clear BK198;clear HK;clear HB;clear HI0;have BK198:=n0_;have HK:=n1_;have HB:=n2_;have HI0:=n3_;clear n0_ n1_ n2_ n3_;(try clear hb);(try clear hb2);(try clear hk);(try clear hi))|((with_reducible refine gate_dst (N:=3) rfl ?_);refine box_event ?hg (N:=3) ?hd (cs:=#[.int .i64 0,.int .i64 0,.int .i64 0]) (t:=38) ?hr ?_;(case hd => rfl);(case hg => rfl);(case hr => exact Q16);intro gb203 hg w39 hbox hb;have n0_:=aM (IsS76.below Q22 hb);have n1_:=aM (blk_below (g:=gb198) (o:=.cells #[.int .i64 0,.int .i64 0,.int .i64 0] 38 (0,0)) (qk BK198) hb);have n2_:=aM (KeepBut.trans Q24 (KeepBut.of_below hb g none) (.inl rfl));have n3_:=aM (below_step Q39 hb);have n4_:=aM (hbox);have n5_:=aM ((Q71 : w.heap.size ≤ gb203));have n6_:=aM ((Nat.le_trans HW0.out (Q71 : w.heap.size ≤ gb203) : w0.heap.size ≤ gb203));have n7_:=aM ((Q81 : gb198 ≠ gb203));have n8_:=aM ((Q82 : gb203 ≠ gb198));have n9_:=aM ((Q106 : g ≠ gb203));have n10_:=aM ((Q107 : gb203 ≠ g));clear HI0;clear BK198;clear HK;clear HB;have HI0:=n0_;have BK198:=n1_;have HK:=n2_;have HB:=n3_;have BK203:=n4_;have GW203:=n5_;have GE203:=n6_;have NB198_203:=n7_;have NB203_198:=n8_;have NB0_203:=n9_;have NB203_0:=n10_;clear n0_ n1_ n2_ n3_ n4_ n5_ n6_ n7_ n8_ n9_ n10_;clear hb hbox hg;have hnb40:=NB203_198.out;have hnc40:=NB198_203.out;have hnb41:=NB203_0.out;have hnc41:=NB0_203.out;have hcz42_0 : w39.cell? ⟨gb203,0,none⟩ = some (.int .i64 0):=(blk_cell BK203.out 0).trans rfl;have hcz42_1 : w39.cell? ⟨gb203,1,none⟩ = some (.int .i64 0):=(blk_cell BK203.out 1).trans rfl;have hcz42_2 : w39.cell? ⟨gb203,2,none⟩ = some (.int .i64 0):=(blk_cell BK203.out 2).trans rfl;have hfz42_0:=blk_frozen BK203.out 0;have hfz42_1:=blk_frozen BK203.out 1;have hfz42_2:=blk_frozen BK203.out 2)|((with_reducible refine gate_callee (f:=40) rfl ?_);refine goesL_ (some 7) rfl rfl Try.func40 Q14 rfl #[.pointer (some ⟨g,0,none⟩),.int .i64 12] rfl Q1 ?_;(with_reducible refine (spec_l6Rd_pick.calls k g s0_0 t202 12 t204 t205 w0 _ ?side1 ?side2 A3.out).mono ?_);(case side1 => exact Q21);(case side2 => exact Q28);rintro e w43 ⟨rfl,hi,hb,hk⟩;refine ⟨_,rfl,?_⟩;have n0_:=aM (KeepBut.blk hk (g':=gb198) (o:=.cells #[.int .i64 0,.int .i64 0,.int .i64 0] 38 (0,0)) Q34 NB198_0.out Q51);have n1_:=aM (KeepBut.blk hk (g':=gb203) (o:=.cells #[.int .i64 t199,.int .i64 t200,.int .i64 t201] 38 (0,0)) Q30 NB203_0.out Q51);have n2_:=aM (KeepBut.trans Q23 hk (.inl rfl));have n3_:=aM (hb);have n4_:=aM (hi);clear BK198;clear BK203;clear HK;clear HB;clear HI0;have BK198:=n0_;have BK203:=n1_;have HK:=n2_;have HB:=n3_;have HI0:=n4_;clear n0_ n1_ n2_ n3_ n4_;(try clear hb);(try clear hb2);(try clear hk);(try clear hi))|((with_reducible refine gate_dst (N:=23) rfl ?_);refine Kd.R_lit (Kd.int .i64) _ 3 ?hg (N:=23) ?hd (xs:=([0,4] : List Int)) (inner:=[.int .i64 0,.int .i64 4]) (ok:=fun _ => True) (okp:=fun _ => True) ?hr ?hp (fun _ hk => hk) trivial (Below.refl _ _) (Nat.le_refl _) Q51 ?_;(case hd => rfl);(case hg => rfl);(case hr => exact Q16);(case hp => exact (Reps.one (show Kd.M (Kd.int .i64) _ _ _ 0 [.int .i64 0] from rfl) (Reps.one (show Kd.M (Kd.int .i64) _ _ _ 4 [.int .i64 4] from rfl) (Reps.none _ _))));intro v213 w44 ho45 hb hg_ hnew_;clear hg_ hnew_;(first|rw [← Ny212.out] at ho45|(simp only [Int.reduceToNat] at ho45;rw [← Ny212.out] at ho45));have n0_:=aM (Kd.R_lower ho45 (keep_size (w:=w) (g:=g) (row:=none) Q23));have n1_:=aM (IsS76.below Q21 hb);have n2_:=aM (blk_below (g:=gb198) (o:=.cells #[.int .i64 0,.int .i64 0,.int .i64 0] 38 (0,0)) (qk BK198) hb);have n3_:=aM (blk_below (g:=gb203) (o:=.cells #[.int .i64 t199,.int .i64 t200,.int .i64 t201] 38 (0,0)) (qk BK203) hb);have n4_:=aM (KeepBut.trans Q23 (KeepBut.of_below hb g none) (.inl rfl));have n5_:=aM (below_step Q28 hb);clear HI0;clear BK198;clear BK203;clear HK;clear HB;have HO214:=n0_;have HI0:=n1_;have BK198:=n2_;have BK203:=n3_;have HK:=n4_;have HB:=n5_;clear n0_ n1_ n2_ n3_ n4_ n5_;clear hb ho45)|((with_reducible refine gate_callee (f:=40) rfl ?_);refine goesL_ (some 25) rfl rfl Try.func40 Q14 rfl #[.pointer (some ⟨g,0,none⟩),.int .i64 2] rfl Q1 ?_;(with_reducible refine (spec_l6Rd_pick.calls k g s0_0 t205 2 t215 t216 w0 _ ?side1 ?side2 A34.out).mono ?_);(case side1 => exact Q21);(case side2 => exact Q28);rintro e w46 ⟨rfl,hi,hb,hk⟩;refine ⟨_,rfl,?_⟩;have n0_:=aM (KeepBut.blk hk (g':=gb198) (o:=.cells #[.int .i64 0,.int .i64 0,.int .i64 0] 38 (0,0)) (qk BK198) NB198_0.out Q51);have n1_:=aM (KeepBut.blk hk (g':=gb203) (o:=.cells #[.int .i64 t199,.int .i64 t200,.int .i64 t201] 38 (0,0)) (qk BK203) NB203_0.out Q51);have n2_:=aM (Kd.R_mono (Kd.R_keep (IsS76.apart (show IsS76 w0 _ g s0_0 t205 from Q21) (qR HO214) Q36) hk (fun _ h => h.2)) (fun _ h => h.1));have n3_:=aM (KeepBut.trans Q23 hk (.inl rfl));have n4_:=aM (hb);have n5_:=aM (hi);clear BK198;clear BK203;clear HO214;clear HK;clear HB;clear HI0;have BK198:=n0_;have BK203:=n1_;have HO214:=n2_;have HK:=n3_;have HB:=n4_;have HI0:=n5_;clear n0_ n1_ n2_ n3_ n4_ n5_;(try clear hb);(try clear hb2);(try clear hk);(try clear hi);obtain ⟨Ao47,co47,eo47⟩:=Kd.R_slice HO214.out;subst eo47;have p217 : 0 ≤ (t215 : Int):=of_decide_eq_true Q5;have q217 : t215 < (y212.length : Int):=of_decide_eq_true Q5;obtain ⟨ad217,e217,hx217_0⟩:=Kd.at_int (Kd.R_reads' HO214.out).2.2 t215 p217 q217;cases e217;replace p217:=eq_true p217;replace q217:=eq_true q217;have hcz48_0 : w46.cell? ⟨gb203,0,none⟩ = some (.int .i64 t199):=(blk_cell BK203.out 0).trans rfl;have hcz48_1 : w46.cell? ⟨gb203,1,none⟩ = some (.int .i64 t200):=(blk_cell BK203.out 1).trans rfl;have hcz48_2 : w46.cell? ⟨gb203,2,none⟩ = some (.int .i64 t201):=(blk_cell BK203.out 2).trans rfl;have hfz48_0:=blk_frozen BK203.out 0;have hfz48_1:=blk_frozen BK203.out 1;have hfz48_2:=blk_frozen BK203.out 2;have hnb49:=NB198_0.out;have hnc49:=NB0_198.out;have hcz50_0 : w46.cell? ⟨gb198,0,none⟩ = some (.int .i64 0):=(blk_cell BK198.out 0).trans rfl;have hcz50_1 : w46.cell? ⟨gb198,1,none⟩ = some (.int .i64 0):=(blk_cell BK198.out 1).trans rfl;have hcz50_2 : w46.cell? ⟨gb198,2,none⟩ = some (.int .i64 0):=(blk_cell BK198.out 2).trans rfl;have hfz50_0:=blk_frozen BK198.out 0;have hfz50_1:=blk_frozen BK198.out 1;have hfz50_2:=blk_frozen BK198.out 2))
    refine bodyPost_ret (results_cell_row rfl _ _ gb198 38 #[.int .i64 (rd y212 t215),.int .i64 t200,.int .i64 t201] (0,0) _ rfl (by (with_reducible repeat (first|refine blk_drewN ?_ _|refine blk_drew ?_|refine blk_alloc ?_ _));refine blk_put (cs:=#[.int .i64 (rd y212 t215),.int .i64 t200,.int .i64 0]) ?_ 2 _ rfl;(with_reducible repeat (first|refine blk_drewN ?_ _|refine blk_drew ?_|refine blk_alloc ?_ _));refine blk_put (cs:=#[.int .i64 (rd y212 t215),.int .i64 0,.int .i64 0]) ?_ 1 _ rfl;(with_reducible repeat (first|refine blk_drewN ?_ _|refine blk_drew ?_|refine blk_alloc ?_ _));refine blk_put (cs:=#[.int .i64 0,.int .i64 0,.int .i64 0]) ?_ 0 _ rfl;(with_reducible repeat (first|refine blk_drewN ?_ _|refine blk_drew ?_|refine blk_alloc ?_ _));refine blk_far ?_ NB198_203.out _;(with_reducible repeat (first|refine blk_drewN ?_ _|refine blk_drew ?_|refine blk_alloc ?_ _));exact BK198.out) Try.underlying38 rfl Q14) rfl ?_
    exact ⟨Q6,Q21,Q28,Q23⟩
   ·rw [if_neg c33] at H
    have c33b0 : (t204 == 2) = false:=beq_eq_false_iff_ne.mpr c33
    have c33b1 : (t204 != 2) = true:=bne_iff_ne.mpr c33
    simp only [Option.some.injEq,Prod.mk.injEq] at H
    obtain ⟨rfl,rfl,rfl,rfl⟩:=H
    go_enter Try.func55,Try.ntmps55
    go_wp2_with (first|((with_reducible refine gate_dst (N:=2) rfl ?_);refine box_event ?hg (N:=2) ?hd (cs:=#[.int .i64 0,.int .i64 0,.int .i64 0]) (t:=38) ?hr ?_;(case hd => rfl);(case hg => rfl);(case hr => exact Q16);intro gb198 hg w51 hbox hb;have n0_:=aM (IsS76.below Q0 hb);have n1_:=aM (KeepBut.trans Q2 (KeepBut.of_below hb g none) (.inl rfl));have n2_:=aM (below_step Q4 hb);have n3_:=aM (hbox);have n4_:=aM ((Q58 : w.heap.size ≤ gb198));have n5_:=aM ((Nat.le_trans HW0.out (Q58 : w.heap.size ≤ gb198) : w0.heap.size ≤ gb198));have n6_:=aM ((Q72 : g ≠ gb198));have n7_:=aM ((Q73 : gb198 ≠ g));clear HI0;clear HK;clear HB;have HI0:=n0_;have HK:=n1_;have HB:=n2_;have BK198:=n3_;have GW198:=n4_;have GE198:=n5_;have NB0_198:=n6_;have NB198_0:=n7_;clear n0_ n1_ n2_ n3_ n4_ n5_ n6_ n7_;clear hb hbox hg)|((with_reducible refine gate_callee (f:=49) rfl ?_);refine goesL_ (some 5) rfl rfl Try.func49 Q14 rfl #[.pointer (some ⟨g,0,none⟩)] rfl Q1 ?_;(with_reducible refine (spec_l71Pay.calls k g s0_0 s0_1 t199 t200 t201 t202 w0 _ ?side1 ?side2 A2.out).mono ?_);(case side1 => exact Q22);(case side2 => exact Q39);rintro e w52 ⟨rfl,hi,hb,hk⟩;refine ⟨_,rfl,?_⟩;have n0_:=aM (KeepBut.blk hk (g':=gb198) (o:=.cells #[.int .i64 0,.int .i64 0,.int .i64 0] 38 (0,0)) (qk BK198) NB198_0.out Q51);have n1_:=aM (KeepBut.trans Q24 hk (.inl rfl));have n2_:=aM (hb);have n3_:=aM (hi);clear BK198;clear HK;clear HB;clear HI0;have BK198:=n0_;have HK:=n1_;have HB:=n2_;have HI0:=n3_;clear n0_ n1_ n2_ n3_;(try clear hb);(try clear hb2);(try clear hk);(try clear hi))|((with_reducible refine gate_dst (N:=3) rfl ?_);refine box_event ?hg (N:=3) ?hd (cs:=#[.int .i64 0,.int .i64 0,.int .i64 0]) (t:=38) ?hr ?_;(case hd => rfl);(case hg => rfl);(case hr => exact Q16);intro gb203 hg w53 hbox hb;have n0_:=aM (IsS76.below Q22 hb);have n1_:=aM (blk_below (g:=gb198) (o:=.cells #[.int .i64 0,.int .i64 0,.int .i64 0] 38 (0,0)) (qk BK198) hb);have n2_:=aM (KeepBut.trans Q24 (KeepBut.of_below hb g none) (.inl rfl));have n3_:=aM (below_step Q39 hb);have n4_:=aM (hbox);have n5_:=aM ((Q71 : w.heap.size ≤ gb203));have n6_:=aM ((Nat.le_trans HW0.out (Q71 : w.heap.size ≤ gb203) : w0.heap.size ≤ gb203));have n7_:=aM ((Q81 : gb198 ≠ gb203));have n8_:=aM ((Q82 : gb203 ≠ gb198));have n9_:=aM ((Q106 : g ≠ gb203));have n10_:=aM ((Q107 : gb203 ≠ g));clear HI0;clear BK198;clear HK;clear HB;have HI0:=n0_;have BK198:=n1_;have HK:=n2_;have HB:=n3_;have BK203:=n4_;have GW203:=n5_;have GE203:=n6_;have NB198_203:=n7_;have NB203_198:=n8_;have NB0_203:=n9_;have NB203_0:=n10_;clear n0_ n1_ n2_ n3_ n4_ n5_ n6_ n7_ n8_ n9_ n10_;clear hb hbox hg;have hnb54:=NB203_198.out;have hnc54:=NB198_203.out;have hnb55:=NB203_0.out;have hnc55:=NB0_203.out;have hcz56_0 : w53.cell? ⟨gb203,0,none⟩ = some (.int .i64 0):=(blk_cell BK203.out 0).trans rfl;have hcz56_1 : w53.cell? ⟨gb203,1,none⟩ = some (.int .i64 0):=(blk_cell BK203.out 1).trans rfl;have hcz56_2 : w53.cell? ⟨gb203,2,none⟩ = some (.int .i64 0):=(blk_cell BK203.out 2).trans rfl;have hfz56_0:=blk_frozen BK203.out 0;have hfz56_1:=blk_frozen BK203.out 1;have hfz56_2:=blk_frozen BK203.out 2)|((with_reducible refine gate_callee (f:=40) rfl ?_);refine goesL_ (some 7) rfl rfl Try.func40 Q14 rfl #[.pointer (some ⟨g,0,none⟩),.int .i64 12] rfl Q1 ?_;(with_reducible refine (spec_l6Rd_pick.calls k g s0_0 t202 12 t204 t205 w0 _ ?side1 ?side2 A3.out).mono ?_);(case side1 => exact Q21);(case side2 => exact Q28);rintro e w57 ⟨rfl,hi,hb,hk⟩;refine ⟨_,rfl,?_⟩;have n0_:=aM (KeepBut.blk hk (g':=gb198) (o:=.cells #[.int .i64 0,.int .i64 0,.int .i64 0] 38 (0,0)) Q34 NB198_0.out Q51);have n1_:=aM (KeepBut.blk hk (g':=gb203) (o:=.cells #[.int .i64 t199,.int .i64 t200,.int .i64 t201] 38 (0,0)) Q30 NB203_0.out Q51);have n2_:=aM (KeepBut.trans Q23 hk (.inl rfl));have n3_:=aM (hb);have n4_:=aM (hi);clear BK198;clear BK203;clear HK;clear HB;clear HI0;have BK198:=n0_;have BK203:=n1_;have HK:=n2_;have HB:=n3_;have HI0:=n4_;clear n0_ n1_ n2_ n3_ n4_;(try clear hb);(try clear hb2);(try clear hk);(try clear hi);have hcz58_0 : w57.cell? ⟨gb203,0,none⟩ = some (.int .i64 t199):=(blk_cell BK203.out 0).trans rfl;have hcz58_1 : w57.cell? ⟨gb203,1,none⟩ = some (.int .i64 t200):=(blk_cell BK203.out 1).trans rfl;have hcz58_2 : w57.cell? ⟨gb203,2,none⟩ = some (.int .i64 t201):=(blk_cell BK203.out 2).trans rfl;have hfz58_0:=blk_frozen BK203.out 0;have hfz58_1:=blk_frozen BK203.out 1;have hfz58_2:=blk_frozen BK203.out 2;have hnb59:=NB198_0.out;have hnc59:=NB0_198.out;have hcz60_0 : w57.cell? ⟨gb198,0,none⟩ = some (.int .i64 0):=(blk_cell BK198.out 0).trans rfl;have hcz60_1 : w57.cell? ⟨gb198,1,none⟩ = some (.int .i64 0):=(blk_cell BK198.out 1).trans rfl;have hcz60_2 : w57.cell? ⟨gb198,2,none⟩ = some (.int .i64 0):=(blk_cell BK198.out 2).trans rfl;have hfz60_0:=blk_frozen BK198.out 0;have hfz60_1:=blk_frozen BK198.out 1;have hfz60_2:=blk_frozen BK198.out 2))
    refine bodyPost_ret (results_cell_row rfl _ _ gb198 38 #[.int .i64 t199,.int .i64 t200,.int .i64 t201] (0,0) _ rfl (by (with_reducible repeat (first|refine blk_drewN ?_ _|refine blk_drew ?_|refine blk_alloc ?_ _));refine blk_put (cs:=#[.int .i64 t199,.int .i64 t200,.int .i64 0]) ?_ 2 _ rfl;(with_reducible repeat (first|refine blk_drewN ?_ _|refine blk_drew ?_|refine blk_alloc ?_ _));refine blk_put (cs:=#[.int .i64 t199,.int .i64 0,.int .i64 0]) ?_ 1 _ rfl;(with_reducible repeat (first|refine blk_drewN ?_ _|refine blk_drew ?_|refine blk_alloc ?_ _));refine blk_put (cs:=#[.int .i64 0,.int .i64 0,.int .i64 0]) ?_ 0 _ rfl;(with_reducible repeat (first|refine blk_drewN ?_ _|refine blk_drew ?_|refine blk_alloc ?_ _));exact BK198.out) Try.underlying38 rfl Q14) rfl ?_
    exact ⟨Q6,Q21,Q28,Q23⟩

/-! ### spec_l71Off: function 41 -/
def spec_l71Off.f (k : Nat) (s0_0 : List Int) (s0_1 : Int) : Option ((List (S40)) × Int):=(spec_l71Chain.f k s0_0 s0_1).bind fun bt218 => ((spec_l6Rd_pick.f k s0_0 bt218.2 16).bind fun bt222 => (if bt222.1 = 0 then ((spec_l6Rd_pick.f k s0_0 bt222.2 4).bind fun bt224 => ((spec_l71AnyPay.f k s0_0 bt224.2).bind fun bt226 => (if bt218.1.length < 4398046511104 then (some ((bt218.1 ++ [(⟨bt224.1,(⟨bt226.1,bt226.2.1,bt226.2.2.1⟩ : S38)⟩ : S40)]),bt226.2.2.2)) else (none)))) else (if bt222.1 = 1 then (if (bt218.1.length : Int) > 0 then ((spec_l6Rd_pick.f k s0_0 bt222.2 (bt218.1.length : Int)).bind fun bt233 => ((some (([0,30,31] : List Int) : List Int)).bind fun y235 => ((spec_l6Rd_pick.f k s0_0 bt233.2 3).bind fun bt238 => (if 0 ≤ bt238.1 then (if bt238.1 < (y235.length : Int) then (if 0 ≤ bt233.1 then (if bt233.1 < (bt218.1.length : Int) then (some ((bt218.1.set (bt233.1 : Int).toNat (⟨rd y235 bt238.1,(⟨(rd_T40 bt218.1 bt233.1).f1.f0,(rd_T40 bt218.1 bt233.1).f1.f1,(rd_T40 bt218.1 bt233.1).f1.f2⟩ : S38)⟩ : S40)),bt238.2)) else (none)) else (none)) else (none)) else (none))))) else (some (bt218.1,bt222.2))) else (if bt222.1 = 2 then (if (bt218.1.length : Int) > 0 then ((spec_l6Rd_pick.f k s0_0 bt222.2 (bt218.1.length : Int)).bind fun bt242 => ((spec_l71AnyPay.f k s0_0 bt242.2).bind fun bt244 => (if 0 ≤ bt242.1 then (if bt242.1 < (bt218.1.length : Int) then (some ((bt218.1.set (bt242.1 : Int).toNat (⟨(rd_T40 bt218.1 bt242.1).f0,(⟨bt244.1,bt244.2.1,bt244.2.2.1⟩ : S38)⟩ : S40)),bt244.2.2.2)) else (none)) else (none)))) else (some (bt218.1,bt222.2))) else (some (bt218.1,bt222.2))))))
theorem spec_l71Off.mono : ∀ a0 a1 k,LeO (spec_l71Off.f k a0 a1) (spec_l71Off.f (k + 1) a0 a1):=by
 intro a0 a1 k
 unfold spec_l71Off.f
 repeat' first
   | exact LeO.refl _
   | exact spec_l6Rd_pick.mono _ _ _ _
   | exact spec_l71AnyPay.mono _ _ _
   | exact spec_l71Chain.mono _ _ _
   | exact LeO.none _
   | refine LeO.ite ?_ ?_
   | refine LeO.bind ?_ (fun _ => ?_)
set_option maxHeartbeats 8000000 in
set_option maxRecDepth 100000 in
theorem spec_l71Off.calls (k : Nat) (g : Nat) (s0_0 : List Int) (s0_1 : Int) (r1 : List (S40)) (r2 : Int) (w0 w : World) (hI : IsS76 w0 w g s0_0 s0_1) (hB : Below w0.heap.size w0 w) (h : spec_l71Off.f k s0_0 s0_1 = some (r1,r2)) :
  Calls Try.prog 41 #[.pointer (some ⟨g,0,none⟩)] w fun e w' => ∃ v0_ : Value,e = .returned (v0_) ∧ Kd.R k40 40 w' w.heap.size (fun _ => True) v0_ r1 ∧ IsS76 w0 w' g s0_0 r2 ∧ Below w0.heap.size w0 w' ∧ KeepBut w w' g none:=by
 have hu40:=Try.underlying40
 have hu38:=Try.underlying38
 have HI0:=aM hI
 have HK:=aM (KeepBut.refl w g none)
 have HL:=aM hB.size
 clear hI
 have HW0:=aM hB.size
 have HB:=aM hB
 clear hB
 have H : ((spec_l71Chain.f k s0_0 s0_1).bind fun bt218 => ((spec_l6Rd_pick.f k s0_0 bt218.2 16).bind fun bt222 => (if bt222.1 = 0 then ((spec_l6Rd_pick.f k s0_0 bt222.2 4).bind fun bt224 => ((spec_l71AnyPay.f k s0_0 bt224.2).bind fun bt226 => (if bt218.1.length < 4398046511104 then (some ((bt218.1 ++ [(⟨bt224.1,(⟨bt226.1,bt226.2.1,bt226.2.2.1⟩ : S38)⟩ : S40)]),bt226.2.2.2)) else (none)))) else (if bt222.1 = 1 then (if (bt218.1.length : Int) > 0 then ((spec_l6Rd_pick.f k s0_0 bt222.2 (bt218.1.length : Int)).bind fun bt233 => ((some (([0,30,31] : List Int) : List Int)).bind fun y235 => ((spec_l6Rd_pick.f k s0_0 bt233.2 3).bind fun bt238 => (if 0 ≤ bt238.1 then (if bt238.1 < (y235.length : Int) then (if 0 ≤ bt233.1 then (if bt233.1 < (bt218.1.length : Int) then (some ((bt218.1.set (bt233.1 : Int).toNat (⟨rd y235 bt238.1,(⟨(rd_T40 bt218.1 bt233.1).f1.f0,(rd_T40 bt218.1 bt233.1).f1.f1,(rd_T40 bt218.1 bt233.1).f1.f2⟩ : S38)⟩ : S40)),bt238.2)) else (none)) else (none)) else (none)) else (none))))) else (some (bt218.1,bt222.2))) else (if bt222.1 = 2 then (if (bt218.1.length : Int) > 0 then ((spec_l6Rd_pick.f k s0_0 bt222.2 (bt218.1.length : Int)).bind fun bt242 => ((spec_l71AnyPay.f k s0_0 bt242.2).bind fun bt244 => (if 0 ≤ bt242.1 then (if bt242.1 < (bt218.1.length : Int) then (some ((bt218.1.set (bt242.1 : Int).toNat (⟨(rd_T40 bt218.1 bt242.1).f0,(⟨bt244.1,bt244.2.1,bt244.2.2.1⟩ : S38)⟩ : S40)),bt244.2.2.2)) else (none)) else (none)))) else (some (bt218.1,bt222.2))) else (some (bt218.1,bt222.2))))))) = some (r1,r2):=h
 clear h
 replace H:=Option.bind_eq_some_iff.mp H
 obtain ⟨⟨t218,t221⟩,A20,H⟩:=H
 replace H : ((spec_l6Rd_pick.f k s0_0 t221 16).bind fun bt222 => (if bt222.1 = 0 then ((spec_l6Rd_pick.f k s0_0 bt222.2 4).bind fun bt224 => ((spec_l71AnyPay.f k s0_0 bt224.2).bind fun bt226 => (if t218.length < 4398046511104 then (some ((t218 ++ [(⟨bt224.1,(⟨bt226.1,bt226.2.1,bt226.2.2.1⟩ : S38)⟩ : S40)]),bt226.2.2.2)) else (none)))) else (if bt222.1 = 1 then (if (t218.length : Int) > 0 then ((spec_l6Rd_pick.f k s0_0 bt222.2 (t218.length : Int)).bind fun bt233 => ((some (([0,30,31] : List Int) : List Int)).bind fun y235 => ((spec_l6Rd_pick.f k s0_0 bt233.2 3).bind fun bt238 => (if 0 ≤ bt238.1 then (if bt238.1 < (y235.length : Int) then (if 0 ≤ bt233.1 then (if bt233.1 < (t218.length : Int) then (some ((t218.set (bt233.1 : Int).toNat (⟨rd y235 bt238.1,(⟨(rd_T40 t218 bt233.1).f1.f0,(rd_T40 t218 bt233.1).f1.f1,(rd_T40 t218 bt233.1).f1.f2⟩ : S38)⟩ : S40)),bt238.2)) else (none)) else (none)) else (none)) else (none))))) else (some (t218,bt222.2))) else (if bt222.1 = 2 then (if (t218.length : Int) > 0 then ((spec_l6Rd_pick.f k s0_0 bt222.2 (t218.length : Int)).bind fun bt242 => ((spec_l71AnyPay.f k s0_0 bt242.2).bind fun bt244 => (if 0 ≤ bt242.1 then (if bt242.1 < (t218.length : Int) then (some ((t218.set (bt242.1 : Int).toNat (⟨(rd_T40 t218 bt242.1).f0,(⟨bt244.1,bt244.2.1,bt244.2.2.1⟩ : S38)⟩ : S40)),bt244.2.2.2)) else (none)) else (none)))) else (some (t218,bt222.2))) else (some (t218,bt222.2)))))) = some (r1,r2):=H
 have A2:=aM A20
 clear A20
 replace H:=Option.bind_eq_some_iff.mp H
 obtain ⟨⟨t222,t223⟩,A30,H⟩:=H
 replace H : (if t222 = 0 then ((spec_l6Rd_pick.f k s0_0 t223 4).bind fun bt224 => ((spec_l71AnyPay.f k s0_0 bt224.2).bind fun bt226 => (if t218.length < 4398046511104 then (some ((t218 ++ [(⟨bt224.1,(⟨bt226.1,bt226.2.1,bt226.2.2.1⟩ : S38)⟩ : S40)]),bt226.2.2.2)) else (none)))) else (if t222 = 1 then (if (t218.length : Int) > 0 then ((spec_l6Rd_pick.f k s0_0 t223 (t218.length : Int)).bind fun bt233 => ((some (([0,30,31] : List Int) : List Int)).bind fun y235 => ((spec_l6Rd_pick.f k s0_0 bt233.2 3).bind fun bt238 => (if 0 ≤ bt238.1 then (if bt238.1 < (y235.length : Int) then (if 0 ≤ bt233.1 then (if bt233.1 < (t218.length : Int) then (some ((t218.set (bt233.1 : Int).toNat (⟨rd y235 bt238.1,(⟨(rd_T40 t218 bt233.1).f1.f0,(rd_T40 t218 bt233.1).f1.f1,(rd_T40 t218 bt233.1).f1.f2⟩ : S38)⟩ : S40)),bt238.2)) else (none)) else (none)) else (none)) else (none))))) else (some (t218,t223))) else (if t222 = 2 then (if (t218.length : Int) > 0 then ((spec_l6Rd_pick.f k s0_0 t223 (t218.length : Int)).bind fun bt242 => ((spec_l71AnyPay.f k s0_0 bt242.2).bind fun bt244 => (if 0 ≤ bt242.1 then (if bt242.1 < (t218.length : Int) then (some ((t218.set (bt242.1 : Int).toNat (⟨(rd_T40 t218 bt242.1).f0,(⟨bt244.1,bt244.2.1,bt244.2.2.1⟩ : S38)⟩ : S40)),bt244.2.2.2)) else (none)) else (none)))) else (some (t218,t223))) else (some (t218,t223))))) = some (r1,r2):=H
 have A3:=aM A30
 clear A30
 by_cases c4 : t222 = 0
 ·rw [if_pos c4] at H
  have c4b0 : (t222 == 0) = true:=beq_iff_eq.mpr c4
  have c4b1 : (t222 != 0) = false:=bne_eq_false_iff_eq.mpr c4
  clear c4
  replace H:=Option.bind_eq_some_iff.mp H
  obtain ⟨⟨t224,t225⟩,A50,H⟩:=H
  replace H : ((spec_l71AnyPay.f k s0_0 t225).bind fun bt226 => (if t218.length < 4398046511104 then (some ((t218 ++ [(⟨t224,(⟨bt226.1,bt226.2.1,bt226.2.2.1⟩ : S38)⟩ : S40)]),bt226.2.2.2)) else (none))) = some (r1,r2):=H
  have A5:=aM A50
  clear A50
  replace H:=Option.bind_eq_some_iff.mp H
  obtain ⟨⟨t226,t227,t228,t229⟩,A60,H⟩:=H
  replace H : (if t218.length < 4398046511104 then (some ((t218 ++ [(⟨t224,(⟨t226,t227,t228⟩ : S38)⟩ : S40)]),t229)) else (none)) = some (r1,r2):=H
  have A6:=aM A60
  clear A60
  by_cases c7 : t218.length < 4398046511104
  case neg => rw [if_neg c7] at H;exact absurd H Q51
  rw [if_pos c7] at H
  have LMc7:=aM c7
  clear c7
  obtain ⟨y230,hy230⟩ : ∃ y_ : List (S40),y_ = (t218 ++ [(⟨t224,(⟨t226,t227,t228⟩ : S38)⟩ : S40)]):=⟨_,rfl⟩
  replace H : (some (y230,t229)) = some (r1,r2):=by first|(rw [hy230];with_reducible exact H)|(have H2_:=(Option.bind_some _ _).symm.trans H;rw [hy230];with_reducible exact H2_)|(have H2_:=(Option.bind_some _ _).symm.trans H;with_reducible exact H2_)|with_reducible exact H|(rw [hy230];exact H)|exact H
  have Ny230:=aM hy230
  clear hy230
  simp only [Option.some.injEq,Prod.mk.injEq] at H
  obtain ⟨rfl,rfl⟩:=H
  go_enter Try.func41,Try.ntmps41
  go_wp2_with (first|((with_reducible refine gate_callee (f:=45) rfl ?_);refine goesL_ (some 5) rfl rfl Try.func45 Q14 rfl #[.pointer (some ⟨g,0,none⟩)] rfl Q1 ?_;(with_reducible refine (spec_l71Chain.calls k g s0_0 s0_1 t218 t221 w0 _ ?side1 ?side2 A2.out).mono ?_);(case side1 => exact Q0);(case side2 => exact Q4);rintro e w8 ⟨v219,rfl,ho0,hi,hb,hk⟩;refine ⟨_,rfl,?_⟩;have n0_:=aM (Kd.R_lower ho0 (keep_size (w:=w) (g:=g) (row:=none) Q2));have n1_:=aM (KeepBut.trans Q2 hk (.inl rfl));have n2_:=aM (hb);have n3_:=aM (hi);clear HK;clear HB;clear HI0;have HO220:=n0_;have HK:=n1_;have HB:=n2_;have HI0:=n3_;clear n0_ n1_ n2_ n3_;(try clear hb);(try clear hb2);(try clear hk);(try clear hi);(try clear ho0))|((with_reducible refine gate_callee (f:=40) rfl ?_);refine goesL_ (some 7) rfl rfl Try.func40 Q14 rfl #[.pointer (some ⟨g,0,none⟩),.int .i64 16] rfl Q1 ?_;(with_reducible refine (spec_l6Rd_pick.calls k g s0_0 t221 16 t222 t223 w0 _ ?side1 ?side2 A3.out).mono ?_);(case side1 => exact Q0);(case side2 => exact Q4);rintro e w9 ⟨rfl,hi,hb,hk⟩;refine ⟨_,rfl,?_⟩;have n0_:=aM (Kd.R_mono (Kd.R_keep (IsS76.apart (show IsS76 w0 _ g s0_0 t221 from Q0) (qR HO220) Q36) hk (fun _ h => h.2)) (fun _ h => h.1));have n1_:=aM (KeepBut.trans Q2 hk (.inl rfl));have n2_:=aM (hb);have n3_:=aM (hi);clear HO220;clear HK;clear HB;clear HI0;have HO220:=n0_;have HK:=n1_;have HB:=n2_;have HI0:=n3_;clear n0_ n1_ n2_ n3_;(try clear hb);(try clear hb2);(try clear hk);(try clear hi))|((with_reducible refine gate_callee (f:=40) rfl ?_);refine goesL_ (some 12) rfl rfl Try.func40 Q14 rfl #[.pointer (some ⟨g,0,none⟩),.int .i64 4] rfl Q1 ?_;(with_reducible refine (spec_l6Rd_pick.calls k g s0_0 t223 4 t224 t225 w0 _ ?side1 ?side2 A5.out).mono ?_);(case side1 => exact Q0);(case side2 => exact Q4);rintro e w10 ⟨rfl,hi,hb,hk⟩;refine ⟨_,rfl,?_⟩;have n0_:=aM (Kd.R_mono (Kd.R_keep (IsS76.apart (show IsS76 w0 _ g s0_0 t223 from Q0) (qR HO220) Q36) hk (fun _ h => h.2)) (fun _ h => h.1));have n1_:=aM (KeepBut.trans Q2 hk (.inl rfl));have n2_:=aM (hb);have n3_:=aM (hi);clear HO220;clear HK;clear HB;clear HI0;have HO220:=n0_;have HK:=n1_;have HB:=n2_;have HI0:=n3_;clear n0_ n1_ n2_ n3_;(try clear hb);(try clear hb2);(try clear hk);(try clear hi))|((with_reducible refine gate_callee (f:=55) rfl ?_);refine goesL_ (some 14) rfl rfl Try.func55 Q14 rfl #[.pointer (some ⟨g,0,none⟩)] rfl Q1 ?_;(with_reducible refine (spec_l71AnyPay.calls k g s0_0 t225 t226 t227 t228 t229 w0 _ ?side1 ?side2 A6.out).mono ?_);(case side1 => exact Q0);(case side2 => exact Q4);rintro e w11 ⟨rfl,hi,hb,hk⟩;refine ⟨_,rfl,?_⟩;have n0_:=aM (Kd.R_mono (Kd.R_keep (IsS76.apart (show IsS76 w0 _ g s0_0 t225 from Q0) (qR HO220) Q36) hk (fun _ h => h.2)) (fun _ h => h.1));have n1_:=aM (KeepBut.trans Q2 hk (.inl rfl));have n2_:=aM (hb);have n3_:=aM (hi);clear HO220;clear HK;clear HB;clear HI0;have HO220:=n0_;have HK:=n1_;have HB:=n2_;have HI0:=n3_;clear n0_ n1_ n2_ n3_;(try clear hb);(try clear hb2);(try clear hk);(try clear hi))|((with_reducible refine gate_builtin (b:=.append) (xs:=#[.tmp 10,.tmp 16]) rfl ?_);at_builtin;refine Kd.R_append k40 w.heap.size rfl (.tmp 10) (.tmp 16) 28 40 (.agg #[(.int .i64 0),(.int .i64 0),(.int .i64 0),(.int .i64 0)]) 32 rfl Try.underlying28 info40 rfl Q36 Q17 v219 t218 (⟨t224,(⟨t226,t227,t228⟩ : S38)⟩ : S40) [.int .i64 t224,.int .i64 t226,.int .i64 t227,.int .i64 t228] (fun _ => True) (fun _ => False) rfl rfl ?aP (fun _ hk => hk.elim) ?aF ?aO (Below.refl _ _) ?aS ?aL ?_;(case aP => exact k40_mkM _ _ _ (⟨t224,(⟨t226,t227,t228⟩ : S38)⟩ : S40));(case aF => exact (fun _ _ => trivial));(case aO => exact (qR HO220));(case aS => exact (keep_size (w:=w) (g:=g) (row:=none) Q2));(case aL => have:=LMc7.out;omega);intro v231 w12 ho hb hg hat;rw [← Ny230.out] at ho;have n0_:=aM (IsS76.grown Q0 hg (IsS76.own_ne HI0.out HO220.out Q36));have n1_:=aM (below_weaken Q4 HL.out hb);have n2_:=aM (KeepBut.trans Q2 (KeepBut.of_grown hg g) (Kd.R_base2 HO220.out));have n3_:=aM (ho);clear HI0;clear HB;clear HK;clear HO220;have HI0:=n0_;have HB:=n1_;have HK:=n2_;have HO232:=n3_;clear n0_ n1_ n2_ n3_;clear ho hb hg hat))
  go_ret
  exact ⟨_,Q6,qR HO232,Q0,Q4,Q2⟩
 ·rw [if_neg c4] at H
  have c4b0 : (t222 == 0) = false:=beq_eq_false_iff_ne.mpr c4
  have c4b1 : (t222 != 0) = true:=bne_iff_ne.mpr c4
  by_cases c13 : t222 = 1
  ·rw [if_pos c13] at H
   have c13b0 : (t222 == 1) = true:=beq_iff_eq.mpr c13
   have c13b1 : (t222 != 1) = false:=bne_eq_false_iff_eq.mpr c13
   clear c13
   by_cases c14 : (t218.length : Int) > 0
   ·rw [if_pos c14] at H
    have c14b0 : decide (0 < (t218.length : Int)) = true:=decide_eq_true c14
    have c14b1 : decide (0 < t218.length) = true:=decide_eq_true Q17
    clear c14
    replace H:=Option.bind_eq_some_iff.mp H
    obtain ⟨⟨t233,t234⟩,A150,H⟩:=H
    replace H : ((some (([0,30,31] : List Int) : List Int)).bind fun y235 => ((spec_l6Rd_pick.f k s0_0 t234 3).bind fun bt238 => (if 0 ≤ bt238.1 then (if bt238.1 < (y235.length : Int) then (if 0 ≤ t233 then (if t233 < (t218.length : Int) then (some ((t218.set (t233 : Int).toNat (⟨rd y235 bt238.1,(⟨(rd_T40 t218 t233).f1.f0,(rd_T40 t218 t233).f1.f1,(rd_T40 t218 t233).f1.f2⟩ : S38)⟩ : S40)),bt238.2)) else (none)) else (none)) else (none)) else (none)))) = some (r1,r2):=H
    have A15:=aM A150
    clear A150
    obtain ⟨y235,hy235⟩ : ∃ y_ : List Int,y_ = (([0,30,31] : List Int)):=⟨_,rfl⟩
    replace H : ((spec_l6Rd_pick.f k s0_0 t234 3).bind fun bt238 => (if 0 ≤ bt238.1 then (if bt238.1 < (y235.length : Int) then (if 0 ≤ t233 then (if t233 < (t218.length : Int) then (some ((t218.set (t233 : Int).toNat (⟨rd y235 bt238.1,(⟨(rd_T40 t218 t233).f1.f0,(rd_T40 t218 t233).f1.f1,(rd_T40 t218 t233).f1.f2⟩ : S38)⟩ : S40)),bt238.2)) else (none)) else (none)) else (none)) else (none))) = some (r1,r2):=by first|(rw [hy235];with_reducible exact H)|(have H2_:=(Option.bind_some _ _).symm.trans H;rw [hy235];with_reducible exact H2_)|(have H2_:=(Option.bind_some _ _).symm.trans H;with_reducible exact H2_)|with_reducible exact H|(rw [hy235];exact H)|exact H
    have Ny235:=aM hy235
    clear hy235
    replace H:=Option.bind_eq_some_iff.mp H
    obtain ⟨⟨t238,t239⟩,A160,H⟩:=H
    replace H : (if 0 ≤ t238 then (if t238 < (y235.length : Int) then (if 0 ≤ t233 then (if t233 < (t218.length : Int) then (some ((t218.set (t233 : Int).toNat (⟨rd y235 t238,(⟨(rd_T40 t218 t233).f1.f0,(rd_T40 t218 t233).f1.f1,(rd_T40 t218 t233).f1.f2⟩ : S38)⟩ : S40)),t239)) else (none)) else (none)) else (none)) else (none)) = some (r1,r2):=H
    have A16:=aM A160
    clear A160
    by_cases c17 : 0 ≤ t238
    case neg => rw [if_neg c17] at H;exact absurd H Q51
    rw [if_pos c17] at H
    have c17b0 : decide (0 ≤ t238) = true:=decide_eq_true c17
    clear c17
    by_cases c18 : t238 < (y235.length : Int)
    case neg => rw [if_neg c18] at H;exact absurd H Q51
    rw [if_pos c18] at H
    have c18b0 : decide (t238 < (y235.length : Int)) = true:=decide_eq_true c18
    clear c18
    by_cases c19 : 0 ≤ t233
    case neg => rw [if_neg c19] at H;exact absurd H Q51
    rw [if_pos c19] at H
    have c19b0 : decide (0 ≤ t233) = true:=decide_eq_true c19
    clear c19
    by_cases c20 : t233 < (t218.length : Int)
    case neg => rw [if_neg c20] at H;exact absurd H Q51
    rw [if_pos c20] at H
    have c20b0 : decide (t233 < (t218.length : Int)) = true:=decide_eq_true c20
    clear c20
    obtain ⟨y241,hy241⟩ : ∃ y_ : List (S40),y_ = (t218.set (t233 : Int).toNat (⟨rd y235 t238,(⟨(rd_T40 t218 t233).f1.f0,(rd_T40 t218 t233).f1.f1,(rd_T40 t218 t233).f1.f2⟩ : S38)⟩ : S40)):=⟨_,rfl⟩
    replace H : (some (y241,t239)) = some (r1,r2):=by first|(rw [hy241];with_reducible exact H)|(have H2_:=(Option.bind_some _ _).symm.trans H;rw [hy241];with_reducible exact H2_)|(have H2_:=(Option.bind_some _ _).symm.trans H;with_reducible exact H2_)|with_reducible exact H|(rw [hy241];exact H)|exact H
    have Ny241:=aM hy241
    clear hy241
    simp only [Option.some.injEq,Prod.mk.injEq] at H
    obtain ⟨rfl,rfl⟩:=H
    go_enter Try.func41,Try.ntmps41
    go_wp2_with (first|((with_reducible refine gate_callee (f:=45) rfl ?_);refine goesL_ (some 5) rfl rfl Try.func45 Q14 rfl #[.pointer (some ⟨g,0,none⟩)] rfl Q1 ?_;(with_reducible refine (spec_l71Chain.calls k g s0_0 s0_1 t218 t221 w0 _ ?side1 ?side2 A2.out).mono ?_);(case side1 => exact Q0);(case side2 => exact Q4);rintro e w22 ⟨v219,rfl,ho0,hi,hb,hk⟩;refine ⟨_,rfl,?_⟩;have n0_:=aM (Kd.R_lower ho0 (keep_size (w:=w) (g:=g) (row:=none) Q2));have n1_:=aM (KeepBut.trans Q2 hk (.inl rfl));have n2_:=aM (hb);have n3_:=aM (hi);clear HK;clear HB;clear HI0;have HO220:=n0_;have HK:=n1_;have HB:=n2_;have HI0:=n3_;clear n0_ n1_ n2_ n3_;(try clear hb);(try clear hb2);(try clear hk);(try clear hi);(try clear ho0))|((with_reducible refine gate_callee (f:=40) rfl ?_);refine goesL_ (some 7) rfl rfl Try.func40 Q14 rfl #[.pointer (some ⟨g,0,none⟩),.int .i64 16] rfl Q1 ?_;(with_reducible refine (spec_l6Rd_pick.calls k g s0_0 t221 16 t222 t223 w0 _ ?side1 ?side2 A3.out).mono ?_);(case side1 => exact Q0);(case side2 => exact Q4);rintro e w23 ⟨rfl,hi,hb,hk⟩;refine ⟨_,rfl,?_⟩;have n0_:=aM (Kd.R_mono (Kd.R_keep (IsS76.apart (show IsS76 w0 _ g s0_0 t221 from Q0) (qR HO220) Q36) hk (fun _ h => h.2)) (fun _ h => h.1));have n1_:=aM (KeepBut.trans Q2 hk (.inl rfl));have n2_:=aM (hb);have n3_:=aM (hi);clear HO220;clear HK;clear HB;clear HI0;have HO220:=n0_;have HK:=n1_;have HB:=n2_;have HI0:=n3_;clear n0_ n1_ n2_ n3_;(try clear hb);(try clear hb2);(try clear hk);(try clear hi);obtain ⟨Ao24,co24,eo24⟩:=Kd.R_slice HO220.out;subst eo24)|((with_reducible refine gate_callee (f:=40) rfl ?_);refine goesL_ (some 27) rfl rfl Try.func40 Q14 rfl #[.pointer (some ⟨g,0,none⟩),.int .i64 (t218.length : Int)] rfl Q1 ?_;(with_reducible refine (spec_l6Rd_pick.calls k g s0_0 t223 (t218.length : Int) t233 t234 w0 _ ?side1 ?side2 A15.out).mono ?_);(case side1 => exact Q0);(case side2 => exact Q4);rintro e w25 ⟨rfl,hi,hb,hk⟩;refine ⟨_,rfl,?_⟩;have n0_:=aM (Kd.R_mono (Kd.R_keep (IsS76.apart (show IsS76 w0 _ g s0_0 t223 from Q0) (qR HO220) Q36) hk (fun _ h => h.2)) (fun _ h => h.1));have n1_:=aM (KeepBut.trans Q2 hk (.inl rfl));have n2_:=aM (hb);have n3_:=aM (hi);clear HO220;clear HK;clear HB;clear HI0;have HO220:=n0_;have HK:=n1_;have HB:=n2_;have HI0:=n3_;clear n0_ n1_ n2_ n3_;(try clear hb);(try clear hb2);(try clear hk);(try clear hi))|((with_reducible refine gate_dst (N:=28) rfl ?_);refine Kd.R_lit (Kd.int .i64) _ 3 ?hg (N:=28) ?hd (xs:=([0,30,31] : List Int)) (inner:=[.int .i64 0,.int .i64 30,.int .i64 31]) (ok:=fun _ => True) (okp:=fun _ => True) ?hr ?hp (fun _ hk => hk) trivial (Below.refl _ _) (Nat.le_refl _) Q51 ?_;(case hd => rfl);(case hg => rfl);(case hr => exact Q16);(case hp => exact (Reps.one (show Kd.M (Kd.int .i64) _ _ _ 0 [.int .i64 0] from rfl) (Reps.one (show Kd.M (Kd.int .i64) _ _ _ 30 [.int .i64 30] from rfl) (Reps.one (show Kd.M (Kd.int .i64) _ _ _ 31 [.int .i64 31] from rfl) (Reps.none _ _)))));intro v236 w26 ho27 hb hg_ hnew_;clear hg_ hnew_;(first|rw [← Ny235.out] at ho27|(simp only [Int.reduceToNat] at ho27;rw [← Ny235.out] at ho27));have n0_:=aM (Kd.R_below (qR HO220) hb);have n1_:=aM (Kd.R_lower ho27 (keep_size (w:=w) (g:=g) (row:=none) Q2));have n2_:=aM (IsS76.below Q0 hb);have n3_:=aM (KeepBut.trans Q2 (KeepBut.of_below hb g none) (.inl rfl));have n4_:=aM (below_step Q4 hb);clear HO220;clear HI0;clear HK;clear HB;have HO220:=n0_;have HO237:=n1_;have HI0:=n2_;have HK:=n3_;have HB:=n4_;clear n0_ n1_ n2_ n3_ n4_;clear hb ho27)|((with_reducible refine gate_callee (f:=40) rfl ?_);refine goesL_ (some 30) rfl rfl Try.func40 Q14 rfl #[.pointer (some ⟨g,0,none⟩),.int .i64 3] rfl Q1 ?_;(with_reducible refine (spec_l6Rd_pick.calls k g s0_0 t234 3 t238 t239 w0 _ ?side1 ?side2 A16.out).mono ?_);(case side1 => exact Q0);(case side2 => exact Q4);rintro e w28 ⟨rfl,hi,hb,hk⟩;refine ⟨_,rfl,?_⟩;have n0_:=aM (Kd.R_mono (Kd.R_keep (IsS76.apart (show IsS76 w0 _ g s0_0 t234 from Q0) (qR HO220) Q36) hk (fun _ h => h.2)) (fun _ h => h.1));have n1_:=aM (Kd.R_mono (Kd.R_keep (IsS76.apart (show IsS76 w0 _ g s0_0 t234 from Q0) (qR HO237) Q36) hk (fun _ h => h.2)) (fun _ h => h.1));have n2_:=aM (KeepBut.trans Q2 hk (.inl rfl));have n3_:=aM (hb);have n4_:=aM (hi);clear HO220;clear HO237;clear HK;clear HB;clear HI0;have HO220:=n0_;have HO237:=n1_;have HK:=n2_;have HB:=n3_;have HI0:=n4_;clear n0_ n1_ n2_ n3_ n4_;(try clear hb);(try clear hb2);(try clear hk);(try clear hi);obtain ⟨Ao29,co29,eo29⟩:=Kd.R_slice HO237.out;subst eo29;have p240 : 0 ≤ (t238 : Int):=of_decide_eq_true Q5;have q240 : t238 < (y235.length : Int):=of_decide_eq_true Q5;obtain ⟨ad240,e240,hx240_0⟩:=Kd.at_int (Kd.R_reads' HO237.out).2.2 t238 p240 q240;cases e240;replace p240:=eq_true p240;replace q240:=eq_true q240;have p21 : 0 ≤ (t233 : Int):=of_decide_eq_true Q5;have q21 : (t233 : Int) < ((t218.length : Int) : Int):=of_decide_eq_true Q5;obtain ⟨go21,co21,eo21,gb21,gl21,cl21,HG21⟩:=Kd.R_form HO220.out Q17;(first|cases eo21|(injection eo21 with ea_ en_ ec_;(first|subst ea_|(injection ea_ with ea_;subst ea_));subst ec_;clear en_));have GB21:=aM gb21;have GG21:=aM HG21;clear gb21 gl21 HG21;obtain ⟨ce21,hcl21,hM21,hcc21,hfr21⟩:=Kd.R_elem HO220.out z40 (t233 : Int) p21 q21;obtain rfl:=k40_openM hM21;have hx21_0 : w28.cell? ⟨go21,(t233 : Int).toNat * 4,none⟩ = some (.int .i64 ((rd_T40 t218 t233).f0)):=hcc21 0 _ rfl;have hx21_1 : w28.cell? ⟨go21,(t233 : Int).toNat * 4 + 1,none⟩ = some (.int .i64 ((rd_T40 t218 t233).f1.f0)):=hcc21 1 _ rfl;have hx21_2 : w28.cell? ⟨go21,(t233 : Int).toNat * 4 + 2,none⟩ = some (.int .i64 ((rd_T40 t218 t233).f1.f1)):=hcc21 2 _ rfl;have hx21_3 : w28.cell? ⟨go21,(t233 : Int).toNat * 4 + 3,none⟩ = some (.int .i64 ((rd_T40 t218 t233).f1.f2)):=hcc21 3 _ rfl;have hf21_0 : w28.frozen? ⟨go21,(t233 : Int).toNat * 4,none⟩ = false:=hfr21 0;have hf21_1 : w28.frozen? ⟨go21,(t233 : Int).toNat * 4 + 1,none⟩ = false:=hfr21 1;have hf21_2 : w28.frozen? ⟨go21,(t233 : Int).toNat * 4 + 2,none⟩ = false:=hfr21 2;have hf21_3 : w28.frozen? ⟨go21,(t233 : Int).toNat * 4 + 3,none⟩ = false:=hfr21 3;clear hcl21 hcc21 hfr21 hM21;replace p21:=eq_true p21;replace q21:=eq_true q21;have HX30:=aM (show Kd.R k40 40 w28 w.heap.size (fun _ => True) (.slice (some ⟨go21,0,none⟩) t218.length co24) t218 from (qR HO220));obtain ⟨ce30,hcl30,hM30,hcc30,hfr30⟩:=Kd.R_elem HX30.out z40 (t233 : Int) (of_decide_eq_true Q5) Q139;obtain rfl:=k40_openM hM30;have HP30:=Kd.R_seg HX30.out (t233 : Int) (of_decide_eq_true Q5) Q139 (seg:=[.int .i64 (rd y235 t238)]) (j:=0) hcl30 hcc30 (show 1 ≤ 4 from Q36) (x':=(⟨rd y235 t238,(⟨(rd_T40 t218 t233).f1.f0,(rd_T40 t218 t233).f1.f1,(rd_T40 t218 t233).f1.f2⟩ : S38)⟩ : S40)) (k40_mkM _ _ _ (⟨rd y235 t238,(⟨(rd_T40 t218 t233).f1.f0,(rd_T40 t218 t233).f1.f1,(rd_T40 t218 t233).f1.f2⟩ : S38)⟩ : S40) ) (fun _ hk => hk);have hx30_0:=hcc30 0 _ rfl;(try simp only [show (k40).sz = 4 from rfl,Nat.mul_one,Nat.add_zero] at hx30_0);have hf30_0:=hfr30 0;(try simp only [show (k40).sz = 4 from rfl,Nat.mul_one,Nat.add_zero] at hf30_0);clear hcl30 hcc30 hfr30 hM30)|((with_reducible refine gate_store (t:=3) (p:=34) rfl ?_);refine store_event (t:=3) (p:=34) (v:=?vo_w31) (w1:=(w28.setCell ⟨go21,(t233 : Int).toNat * 4,none⟩ (.int .i64 (rd y235 t238)))) ?hg ?ho ?hn ?hr ?_;(case ho => rfl);(case hg => rfl);(case hn => rfl);(case hr => exact Q16);intro w31 hw;have hg : w28.grownBy w31 (some go21):=(by rw [hw];exact HP30.2);have hp_ : Kd.R k40 40 w31 w.heap.size (fun _ => True) (.slice (some ⟨go21,0,none⟩) t218.length co24) y241:=(by rw [hw,Ny241.out];exact HP30.1);clear HP30;have n0_:=aM (IsS76.grown Q0 hg (IsS76.own_ne HI0.out HO220.out Q36));have n1_:=aM (hp_);have n2_:=aM (Kd.R_over' (v:=(.slice (some ⟨go21,0,none⟩) t218.length co24)) (qR HO237) (Kd.R_typed HO220.out) Q36 hg);have n3_:=aM ((by rw [hw];exact below_set (HB.out) (Nat.le_trans HL.out GB21.out) : Below w0.heap.size w0 w31));have n4_:=aM (KeepBut.trans Q2 (KeepBut.of_grown hg g) (Kd.R_base2 HO220.out));clear HI0;clear HO220;clear HO237;clear HB;clear HK;have HI0:=n0_;have HO220:=n1_;have HO237:=n2_;have HB:=n3_;have HK:=n4_;clear n0_ n1_ n2_ n3_ n4_;clear hg hw hp_))
    go_ret
    exact ⟨_,Q6,qR HO220,Q0,Q4,Q2⟩
   ·rw [if_neg c14] at H
    have c14b0 : decide (0 < (t218.length : Int)) = false:=decide_eq_false c14
    have c14b1 : decide (0 < t218.length) = false:=decide_eq_false Q17
    clear c14
    simp only [Option.some.injEq,Prod.mk.injEq] at H
    obtain ⟨rfl,rfl⟩:=H
    go_enter Try.func41,Try.ntmps41
    go_wp2_with (first|((with_reducible refine gate_callee (f:=45) rfl ?_);refine goesL_ (some 5) rfl rfl Try.func45 Q14 rfl #[.pointer (some ⟨g,0,none⟩)] rfl Q1 ?_;(with_reducible refine (spec_l71Chain.calls k g s0_0 s0_1 t218 t221 w0 _ ?side1 ?side2 A2.out).mono ?_);(case side1 => exact Q0);(case side2 => exact Q4);rintro e w32 ⟨v219,rfl,ho0,hi,hb,hk⟩;refine ⟨_,rfl,?_⟩;have n0_:=aM (Kd.R_lower ho0 (keep_size (w:=w) (g:=g) (row:=none) Q2));have n1_:=aM (KeepBut.trans Q2 hk (.inl rfl));have n2_:=aM (hb);have n3_:=aM (hi);clear HK;clear HB;clear HI0;have HO220:=n0_;have HK:=n1_;have HB:=n2_;have HI0:=n3_;clear n0_ n1_ n2_ n3_;(try clear hb);(try clear hb2);(try clear hk);(try clear hi);(try clear ho0))|((with_reducible refine gate_callee (f:=40) rfl ?_);refine goesL_ (some 7) rfl rfl Try.func40 Q14 rfl #[.pointer (some ⟨g,0,none⟩),.int .i64 16] rfl Q1 ?_;(with_reducible refine (spec_l6Rd_pick.calls k g s0_0 t221 16 t222 t223 w0 _ ?side1 ?side2 A3.out).mono ?_);(case side1 => exact Q0);(case side2 => exact Q4);rintro e w33 ⟨rfl,hi,hb,hk⟩;refine ⟨_,rfl,?_⟩;have n0_:=aM (Kd.R_mono (Kd.R_keep (IsS76.apart (show IsS76 w0 _ g s0_0 t221 from Q0) (qR HO220) Q36) hk (fun _ h => h.2)) (fun _ h => h.1));have n1_:=aM (KeepBut.trans Q2 hk (.inl rfl));have n2_:=aM (hb);have n3_:=aM (hi);clear HO220;clear HK;clear HB;clear HI0;have HO220:=n0_;have HK:=n1_;have HB:=n2_;have HI0:=n3_;clear n0_ n1_ n2_ n3_;(try clear hb);(try clear hb2);(try clear hk);(try clear hi);obtain ⟨Ao34,co34,eo34⟩:=Kd.R_slice HO220.out;subst eo34))
    go_ret
    exact ⟨_,Q6,qR HO220,Q0,Q4,Q2⟩
  ·rw [if_neg c13] at H
   have c13b0 : (t222 == 1) = false:=beq_eq_false_iff_ne.mpr c13
   have c13b1 : (t222 != 1) = true:=bne_iff_ne.mpr c13
   by_cases c35 : t222 = 2
   ·rw [if_pos c35] at H
    have c35b0 : (t222 == 2) = true:=beq_iff_eq.mpr c35
    have c35b1 : (t222 != 2) = false:=bne_eq_false_iff_eq.mpr c35
    clear c35
    by_cases c36 : (t218.length : Int) > 0
    ·rw [if_pos c36] at H
     have c36b0 : decide (0 < (t218.length : Int)) = true:=decide_eq_true c36
     have c36b1 : decide (0 < t218.length) = true:=decide_eq_true Q17
     clear c36
     replace H:=Option.bind_eq_some_iff.mp H
     obtain ⟨⟨t242,t243⟩,A370,H⟩:=H
     replace H : ((spec_l71AnyPay.f k s0_0 t243).bind fun bt244 => (if 0 ≤ t242 then (if t242 < (t218.length : Int) then (some ((t218.set (t242 : Int).toNat (⟨(rd_T40 t218 t242).f0,(⟨bt244.1,bt244.2.1,bt244.2.2.1⟩ : S38)⟩ : S40)),bt244.2.2.2)) else (none)) else (none))) = some (r1,r2):=H
     have A37:=aM A370
     clear A370
     replace H:=Option.bind_eq_some_iff.mp H
     obtain ⟨⟨t244,t245,t246,t247⟩,A380,H⟩:=H
     replace H : (if 0 ≤ t242 then (if t242 < (t218.length : Int) then (some ((t218.set (t242 : Int).toNat (⟨(rd_T40 t218 t242).f0,(⟨t244,t245,t246⟩ : S38)⟩ : S40)),t247)) else (none)) else (none)) = some (r1,r2):=H
     have A38:=aM A380
     clear A380
     by_cases c39 : 0 ≤ t242
     case neg => rw [if_neg c39] at H;exact absurd H Q51
     rw [if_pos c39] at H
     have c39b0 : decide (0 ≤ t242) = true:=decide_eq_true c39
     clear c39
     by_cases c40 : t242 < (t218.length : Int)
     case neg => rw [if_neg c40] at H;exact absurd H Q51
     rw [if_pos c40] at H
     have c40b0 : decide (t242 < (t218.length : Int)) = true:=decide_eq_true c40
     clear c40
     obtain ⟨y248,hy248⟩ : ∃ y_ : List (S40),y_ = (t218.set (t242 : Int).toNat (⟨(rd_T40 t218 t242).f0,(⟨t244,t245,t246⟩ : S38)⟩ : S40)):=⟨_,rfl⟩
     replace H : (some (y248,t247)) = some (r1,r2):=by first|(rw [hy248];with_reducible exact H)|(have H2_:=(Option.bind_some _ _).symm.trans H;rw [hy248];with_reducible exact H2_)|(have H2_:=(Option.bind_some _ _).symm.trans H;with_reducible exact H2_)|with_reducible exact H|(rw [hy248];exact H)|exact H
     have Ny248:=aM hy248
     clear hy248
     simp only [Option.some.injEq,Prod.mk.injEq] at H
     obtain ⟨rfl,rfl⟩:=H
     go_enter Try.func41,Try.ntmps41
     go_wp2_with (first|((with_reducible refine gate_callee (f:=45) rfl ?_);refine goesL_ (some 5) rfl rfl Try.func45 Q14 rfl #[.pointer (some ⟨g,0,none⟩)] rfl Q1 ?_;(with_reducible refine (spec_l71Chain.calls k g s0_0 s0_1 t218 t221 w0 _ ?side1 ?side2 A2.out).mono ?_);(case side1 => exact Q0);(case side2 => exact Q4);rintro e w42 ⟨v219,rfl,ho0,hi,hb,hk⟩;refine ⟨_,rfl,?_⟩;have n0_:=aM (Kd.R_lower ho0 (keep_size (w:=w) (g:=g) (row:=none) Q2));have n1_:=aM (KeepBut.trans Q2 hk (.inl rfl));have n2_:=aM (hb);have n3_:=aM (hi);clear HK;clear HB;clear HI0;have HO220:=n0_;have HK:=n1_;have HB:=n2_;have HI0:=n3_;clear n0_ n1_ n2_ n3_;(try clear hb);(try clear hb2);(try clear hk);(try clear hi);(try clear ho0))|((with_reducible refine gate_callee (f:=40) rfl ?_);refine goesL_ (some 7) rfl rfl Try.func40 Q14 rfl #[.pointer (some ⟨g,0,none⟩),.int .i64 16] rfl Q1 ?_;(with_reducible refine (spec_l6Rd_pick.calls k g s0_0 t221 16 t222 t223 w0 _ ?side1 ?side2 A3.out).mono ?_);(case side1 => exact Q0);(case side2 => exact Q4);rintro e w43 ⟨rfl,hi,hb,hk⟩;refine ⟨_,rfl,?_⟩;have n0_:=aM (Kd.R_mono (Kd.R_keep (IsS76.apart (show IsS76 w0 _ g s0_0 t221 from Q0) (qR HO220) Q36) hk (fun _ h => h.2)) (fun _ h => h.1));have n1_:=aM (KeepBut.trans Q2 hk (.inl rfl));have n2_:=aM (hb);have n3_:=aM (hi);clear HO220;clear HK;clear HB;clear HI0;have HO220:=n0_;have HK:=n1_;have HB:=n2_;have HI0:=n3_;clear n0_ n1_ n2_ n3_;(try clear hb);(try clear hb2);(try clear hk);(try clear hi);obtain ⟨Ao44,co44,eo44⟩:=Kd.R_slice HO220.out;subst eo44)|((with_reducible refine gate_callee (f:=40) rfl ?_);refine goesL_ (some 44) rfl rfl Try.func40 Q14 rfl #[.pointer (some ⟨g,0,none⟩),.int .i64 (t218.length : Int)] rfl Q1 ?_;(with_reducible refine (spec_l6Rd_pick.calls k g s0_0 t223 (t218.length : Int) t242 t243 w0 _ ?side1 ?side2 A37.out).mono ?_);(case side1 => exact Q0);(case side2 => exact Q4);rintro e w45 ⟨rfl,hi,hb,hk⟩;refine ⟨_,rfl,?_⟩;have n0_:=aM (Kd.R_mono (Kd.R_keep (IsS76.apart (show IsS76 w0 _ g s0_0 t223 from Q0) (qR HO220) Q36) hk (fun _ h => h.2)) (fun _ h => h.1));have n1_:=aM (KeepBut.trans Q2 hk (.inl rfl));have n2_:=aM (hb);have n3_:=aM (hi);clear HO220;clear HK;clear HB;clear HI0;have HO220:=n0_;have HK:=n1_;have HB:=n2_;have HI0:=n3_;clear n0_ n1_ n2_ n3_;(try clear hb);(try clear hb2);(try clear hk);(try clear hi))|((with_reducible refine gate_callee (f:=55) rfl ?_);refine goesL_ (some 46) rfl rfl Try.func55 Q14 rfl #[.pointer (some ⟨g,0,none⟩)] rfl Q1 ?_;(with_reducible refine (spec_l71AnyPay.calls k g s0_0 t243 t244 t245 t246 t247 w0 _ ?side1 ?side2 A38.out).mono ?_);(case side1 => exact Q0);(case side2 => exact Q4);rintro e w46 ⟨rfl,hi,hb,hk⟩;refine ⟨_,rfl,?_⟩;have n0_:=aM (Kd.R_mono (Kd.R_keep (IsS76.apart (show IsS76 w0 _ g s0_0 t243 from Q0) (qR HO220) Q36) hk (fun _ h => h.2)) (fun _ h => h.1));have n1_:=aM (KeepBut.trans Q2 hk (.inl rfl));have n2_:=aM (hb);have n3_:=aM (hi);clear HO220;clear HK;clear HB;clear HI0;have HO220:=n0_;have HK:=n1_;have HB:=n2_;have HI0:=n3_;clear n0_ n1_ n2_ n3_;(try clear hb);(try clear hb2);(try clear hk);(try clear hi);have p41 : 0 ≤ (t242 : Int):=of_decide_eq_true Q5;have q41 : (t242 : Int) < ((t218.length : Int) : Int):=of_decide_eq_true Q5;obtain ⟨go41,co41,eo41,gb41,gl41,cl41,HG41⟩:=Kd.R_form HO220.out Q17;(first|cases eo41|(injection eo41 with ea_ en_ ec_;(first|subst ea_|(injection ea_ with ea_;subst ea_));subst ec_;clear en_));have GB41:=aM gb41;have GG41:=aM HG41;clear gb41 gl41 HG41;obtain ⟨ce41,hcl41,hM41,hcc41,hfr41⟩:=Kd.R_elem HO220.out z40 (t242 : Int) p41 q41;obtain rfl:=k40_openM hM41;have hx41_0 : w46.cell? ⟨go41,(t242 : Int).toNat * 4,none⟩ = some (.int .i64 ((rd_T40 t218 t242).f0)):=hcc41 0 _ rfl;have hx41_1 : w46.cell? ⟨go41,(t242 : Int).toNat * 4 + 1,none⟩ = some (.int .i64 ((rd_T40 t218 t242).f1.f0)):=hcc41 1 _ rfl;have hx41_2 : w46.cell? ⟨go41,(t242 : Int).toNat * 4 + 2,none⟩ = some (.int .i64 ((rd_T40 t218 t242).f1.f1)):=hcc41 2 _ rfl;have hx41_3 : w46.cell? ⟨go41,(t242 : Int).toNat * 4 + 3,none⟩ = some (.int .i64 ((rd_T40 t218 t242).f1.f2)):=hcc41 3 _ rfl;have hf41_0 : w46.frozen? ⟨go41,(t242 : Int).toNat * 4,none⟩ = false:=hfr41 0;have hf41_1 : w46.frozen? ⟨go41,(t242 : Int).toNat * 4 + 1,none⟩ = false:=hfr41 1;have hf41_2 : w46.frozen? ⟨go41,(t242 : Int).toNat * 4 + 2,none⟩ = false:=hfr41 2;have hf41_3 : w46.frozen? ⟨go41,(t242 : Int).toNat * 4 + 3,none⟩ = false:=hfr41 3;clear hcl41 hcc41 hfr41 hM41;replace p41:=eq_true p41;replace q41:=eq_true q41;have HX47:=aM (show Kd.R k40 40 w46 w.heap.size (fun _ => True) (.slice (some ⟨go41,0,none⟩) t218.length co44) t218 from (qR HO220));obtain ⟨ce47,hcl47,hM47,hcc47,hfr47⟩:=Kd.R_elem HX47.out z40 (t242 : Int) (of_decide_eq_true Q5) Q138;obtain rfl:=k40_openM hM47;have HP47:=Kd.R_seg HX47.out (t242 : Int) (of_decide_eq_true Q5) Q138 (seg:=[.int .i64 t244,.int .i64 t245,.int .i64 t246]) (j:=1) hcl47 hcc47 (show 4 ≤ 4 from Q36) (x':=(⟨(rd_T40 t218 t242).f0,(⟨t244,t245,t246⟩ : S38)⟩ : S40)) (k40_mkM _ _ _ (⟨(rd_T40 t218 t242).f0,(⟨t244,t245,t246⟩ : S38)⟩ : S40) ) (fun _ hk => hk);have hx47_1:=hcc47 1 _ rfl;(try simp only [show (k40).sz = 4 from rfl,Nat.mul_one,Nat.add_zero] at hx47_1);have hf47_1:=hfr47 1;(try simp only [show (k40).sz = 4 from rfl,Nat.mul_one,Nat.add_zero] at hf47_1);have hx47_2:=hcc47 2 _ rfl;(try simp only [show (k40).sz = 4 from rfl,Nat.mul_one,Nat.add_zero] at hx47_2);have hf47_2:=hfr47 2;(try simp only [show (k40).sz = 4 from rfl,Nat.mul_one,Nat.add_zero] at hf47_2);have hx47_3:=hcc47 3 _ rfl;(try simp only [show (k40).sz = 4 from rfl,Nat.mul_one,Nat.add_zero] at hx47_3);have hf47_3:=hfr47 3;(try simp only [show (k40).sz = 4 from rfl,Nat.mul_one,Nat.add_zero] at hf47_3);clear hcl47 hcc47 hfr47 hM47)|((with_reducible refine gate_store (t:=38) (p:=48) rfl ?_);refine store_event (t:=38) (p:=48) (v:=?vo_w48) (w1:=(((w46.setCell ⟨go41,(t242 : Int).toNat * 4 + 1,none⟩ (.int .i64 t244)).setCell ⟨go41,(t242 : Int).toNat * 4 + 2,none⟩ (.int .i64 t245)).setCell ⟨go41,(t242 : Int).toNat * 4 + 3,none⟩ (.int .i64 t246))) ?hg ?ho ?hn ?hr ?_;(case ho => rfl);(case hg => rfl);(case hn => rfl);(case hr => exact Q16);intro w48 hw;have hg : w46.grownBy w48 (some go41):=(by rw [hw];exact HP47.2);have hp_ : Kd.R k40 40 w48 w.heap.size (fun _ => True) (.slice (some ⟨go41,0,none⟩) t218.length co44) y248:=(by rw [hw,Ny248.out];exact HP47.1);clear HP47;have n0_:=aM (IsS76.grown Q0 hg (IsS76.own_ne HI0.out HO220.out Q36));have n1_:=aM (hp_);have n2_:=aM ((by rw [hw];exact below_set (below_set (below_set (HB.out) (Nat.le_trans HL.out GB41.out)) (Nat.le_trans HL.out GB41.out)) (Nat.le_trans HL.out GB41.out) : Below w0.heap.size w0 w48));have n3_:=aM (KeepBut.trans Q2 (KeepBut.of_grown hg g) (Kd.R_base2 HO220.out));clear HI0;clear HO220;clear HB;clear HK;have HI0:=n0_;have HO220:=n1_;have HB:=n2_;have HK:=n3_;clear n0_ n1_ n2_ n3_;clear hg hw hp_))
     go_ret
     exact ⟨_,Q6,qR HO220,Q0,Q4,Q2⟩
    ·rw [if_neg c36] at H
     have c36b0 : decide (0 < (t218.length : Int)) = false:=decide_eq_false c36
     have c36b1 : decide (0 < t218.length) = false:=decide_eq_false Q17
     clear c36
     simp only [Option.some.injEq,Prod.mk.injEq] at H
     obtain ⟨rfl,rfl⟩:=H
     go_enter Try.func41,Try.ntmps41
     go_wp2_with (first|((with_reducible refine gate_callee (f:=45) rfl ?_);refine goesL_ (some 5) rfl rfl Try.func45 Q14 rfl #[.pointer (some ⟨g,0,none⟩)] rfl Q1 ?_;(with_reducible refine (spec_l71Chain.calls k g s0_0 s0_1 t218 t221 w0 _ ?side1 ?side2 A2.out).mono ?_);(case side1 => exact Q0);(case side2 => exact Q4);rintro e w49 ⟨v219,rfl,ho0,hi,hb,hk⟩;refine ⟨_,rfl,?_⟩;have n0_:=aM (Kd.R_lower ho0 (keep_size (w:=w) (g:=g) (row:=none) Q2));have n1_:=aM (KeepBut.trans Q2 hk (.inl rfl));have n2_:=aM (hb);have n3_:=aM (hi);clear HK;clear HB;clear HI0;have HO220:=n0_;have HK:=n1_;have HB:=n2_;have HI0:=n3_;clear n0_ n1_ n2_ n3_;(try clear hb);(try clear hb2);(try clear hk);(try clear hi);(try clear ho0))|((with_reducible refine gate_callee (f:=40) rfl ?_);refine goesL_ (some 7) rfl rfl Try.func40 Q14 rfl #[.pointer (some ⟨g,0,none⟩),.int .i64 16] rfl Q1 ?_;(with_reducible refine (spec_l6Rd_pick.calls k g s0_0 t221 16 t222 t223 w0 _ ?side1 ?side2 A3.out).mono ?_);(case side1 => exact Q0);(case side2 => exact Q4);rintro e w50 ⟨rfl,hi,hb,hk⟩;refine ⟨_,rfl,?_⟩;have n0_:=aM (Kd.R_mono (Kd.R_keep (IsS76.apart (show IsS76 w0 _ g s0_0 t221 from Q0) (qR HO220) Q36) hk (fun _ h => h.2)) (fun _ h => h.1));have n1_:=aM (KeepBut.trans Q2 hk (.inl rfl));have n2_:=aM (hb);have n3_:=aM (hi);clear HO220;clear HK;clear HB;clear HI0;have HO220:=n0_;have HK:=n1_;have HB:=n2_;have HI0:=n3_;clear n0_ n1_ n2_ n3_;(try clear hb);(try clear hb2);(try clear hk);(try clear hi);obtain ⟨Ao51,co51,eo51⟩:=Kd.R_slice HO220.out;subst eo51))
     go_ret
     exact ⟨_,Q6,qR HO220,Q0,Q4,Q2⟩
   ·rw [if_neg c35] at H
    have c35b0 : (t222 == 2) = false:=beq_eq_false_iff_ne.mpr c35
    have c35b1 : (t222 != 2) = true:=bne_iff_ne.mpr c35
    simp only [Option.some.injEq,Prod.mk.injEq] at H
    obtain ⟨rfl,rfl⟩:=H
    go_enter Try.func41,Try.ntmps41
    go_wp2_with (first|((with_reducible refine gate_callee (f:=45) rfl ?_);refine goesL_ (some 5) rfl rfl Try.func45 Q14 rfl #[.pointer (some ⟨g,0,none⟩)] rfl Q1 ?_;(with_reducible refine (spec_l71Chain.calls k g s0_0 s0_1 t218 t221 w0 _ ?side1 ?side2 A2.out).mono ?_);(case side1 => exact Q0);(case side2 => exact Q4);rintro e w52 ⟨v219,rfl,ho0,hi,hb,hk⟩;refine ⟨_,rfl,?_⟩;have n0_:=aM (Kd.R_lower ho0 (keep_size (w:=w) (g:=g) (row:=none) Q2));have n1_:=aM (KeepBut.trans Q2 hk (.inl rfl));have n2_:=aM (hb);have n3_:=aM (hi);clear HK;clear HB;clear HI0;have HO220:=n0_;have HK:=n1_;have HB:=n2_;have HI0:=n3_;clear n0_ n1_ n2_ n3_;(try clear hb);(try clear hb2);(try clear hk);(try clear hi);(try clear ho0))|((with_reducible refine gate_callee (f:=40) rfl ?_);refine goesL_ (some 7) rfl rfl Try.func40 Q14 rfl #[.pointer (some ⟨g,0,none⟩),.int .i64 16] rfl Q1 ?_;(with_reducible refine (spec_l6Rd_pick.calls k g s0_0 t221 16 t222 t223 w0 _ ?side1 ?side2 A3.out).mono ?_);(case side1 => exact Q0);(case side2 => exact Q4);rintro e w53 ⟨rfl,hi,hb,hk⟩;refine ⟨_,rfl,?_⟩;have n0_:=aM (Kd.R_mono (Kd.R_keep (IsS76.apart (show IsS76 w0 _ g s0_0 t221 from Q0) (qR HO220) Q36) hk (fun _ h => h.2)) (fun _ h => h.1));have n1_:=aM (KeepBut.trans Q2 hk (.inl rfl));have n2_:=aM (hb);have n3_:=aM (hi);clear HO220;clear HK;clear HB;clear HI0;have HO220:=n0_;have HK:=n1_;have HB:=n2_;have HI0:=n3_;clear n0_ n1_ n2_ n3_;(try clear hb);(try clear hb2);(try clear hk);(try clear hi)))
    go_ret
    exact ⟨_,Q6,qR HO220,Q0,Q4,Q2⟩

/-! ### spec_l71Two: function 47 -/
def spec_l71Two.l0 : Nat → List (S40) → List (S40) → Int → List Int → Int → Option ((List (S40)) × (List (S40)) × Int)
 | 0,_,_,_,_,_ => none
 | k + 1,x4,x5,x6,x1000,x1001 => if x6 > 0 then (if (x5.length : Int) > 0 then (if 0 ≤ (wrap64 ((x5.length : Int) - 1)) then (if (wrap64 ((x5.length : Int) - 1)) < (x5.length : Int) then ((spec_l6Rd_pick.f k x1000 x1001 2).bind fun bt276 => ((spec_l71Pay.f k x1000 bt276.2).bind fun bt278 => (if x5.length < 4398046511104 then (spec_l71Two.l0 k x4 (x5 ++ [(⟨wrap64 ((wrap64 (((rd_T40 x5 (wrap64 ((x5.length : Int) - 1))).f0) + 1)) + bt276.1),(⟨bt278.1,bt278.2.1,bt278.2.2.1⟩ : S38)⟩ : S40)]) (wrap64 (x6 - 1)) x1000 bt278.2.2.2) else (none)))) else (none)) else (none)) else ((spec_l6Rd_pick.f k x1000 x1001 2).bind fun bt285 => ((spec_l71Pay.f k x1000 bt285.2).bind fun bt287 => (if x5.length < 4398046511104 then (spec_l71Two.l0 k x4 (x5 ++ [(⟨wrap64 (1 + bt285.1),(⟨bt287.1,bt287.2.1,bt287.2.2.1⟩ : S38)⟩ : S40)]) (wrap64 (x6 - 1)) x1000 bt287.2.2.2) else (none))))) else ((spec_l6Rd_pick.f k x1000 x1001 2).bind fun bt273 => (if bt273.1 = 0 then (some (x5,x4,bt273.2)) else (some (x4,x5,bt273.2))))
def spec_l71Two.f (k : Nat) (s0_0 : List Int) (s0_1 : Int) : Option ((List (S40)) × (List (S40)) × Int):=(spec_l71Off.f k s0_0 s0_1).bind fun bt249 => ((spec_l71Off.f k s0_0 bt249.2).bind fun bt253 => ((spec_l6Rd_pick.f k s0_0 bt253.2 4).bind fun bt257 => (if bt257.1 > 0 then ((some (([] : List (S40)) : List (S40))).bind fun y259 => ((spec_l6Rd_pick.f k s0_0 bt257.2 (wrap64 ((bt249.1.length : Int) + 1))).bind fun bt262 => (if 0 ≤ bt262.1 then (if bt262.1 ≤ (bt249.1.length : Int) then ((some (bt249.1.take (bt262.1 : Int).toNat : List (S40))).bind fun y264 => (if y259.length + y264.length < 4398046511104 then ((spec_l6Rd_pick.f k s0_0 bt262.2 3).bind fun bt271 => (spec_l71Two.l0 k bt249.1 (y259 ++ y264) bt271.1 s0_0 bt271.2)) else (none))) else (none)) else (none)))) else ((spec_l6Rd_pick.f k s0_0 bt257.2 2).bind fun bt294 => (if bt294.1 = 0 then (some (bt253.1,bt249.1,bt294.2)) else (some (bt249.1,bt253.1,bt294.2)))))))
theorem spec_l71Two.mono_l : ∀ k,(∀ y0 y1 y2 y3 y4,LeO (spec_l71Two.l0 k y0 y1 y2 y3 y4) (spec_l71Two.l0 (k + 1) y0 y1 y2 y3 y4))
 | 0 => fun _ _ _ _ _ r h => by simp [spec_l71Two.l0] at h
 | k + 1 => by
  have ih0:=spec_l71Two.mono_l k
  ·intro y0 y1 y2 y3 y4
   unfold spec_l71Two.l0
   repeat' first
   | exact LeO.refl _
   | exact ih0 _ _ _ _ _
   | exact spec_l6Rd_pick.mono _ _ _ _
   | exact spec_l71Off.mono _ _ _
   | exact spec_l71Pay.mono _ _ _
   | exact LeO.none _
   | refine LeO.ite ?_ ?_
   | refine LeO.bind ?_ (fun _ => ?_)
theorem spec_l71Two.mono : ∀ a0 a1 k,LeO (spec_l71Two.f k a0 a1) (spec_l71Two.f (k + 1) a0 a1):=by
 intro a0 a1 k
 have ih0:=spec_l71Two.mono_l k
 unfold spec_l71Two.f
 repeat' first
   | exact LeO.refl _
   | exact ih0 _ _ _ _ _
   | exact spec_l6Rd_pick.mono _ _ _ _
   | exact spec_l71Off.mono _ _ _
   | exact spec_l71Pay.mono _ _ _
   | exact LeO.none _
   | refine LeO.ite ?_ ?_
   | refine LeO.bind ?_ (fun _ => ?_)
set_option maxHeartbeats 8000000 in
set_option maxRecDepth 100000 in
theorem spec_l71Two.calls (k : Nat) (g : Nat) (s0_0 : List Int) (s0_1 : Int) (r1 : List (S40)) (r2 : List (S40)) (r3 : Int) (w0 w : World) (hI : IsS76 w0 w g s0_0 s0_1) (hB : Below w0.heap.size w0 w) (h : spec_l71Two.f k s0_0 s0_1 = some (r1,r2,r3)) :
  Calls Try.prog 47 #[.pointer (some ⟨g,0,none⟩)] w fun e w' => ∃ v0_ v1_ : Value,e = .returned (.tuple #[v0_,v1_]) ∧ Kd.R k40 40 w' w.heap.size (fun k_ => some k_ ≠ (v1_ : Value).ownBlock) v0_ r1 ∧ Kd.R k40 40 w' w.heap.size (fun k_ => some k_ ≠ (v0_ : Value).ownBlock) v1_ r2 ∧ IsS76 w0 w' g s0_0 r3 ∧ Below w0.heap.size w0 w' ∧ KeepBut w w' g none:=by
 have hu40:=Try.underlying40
 have HI0:=aM hI
 have HK:=aM (KeepBut.refl w g none)
 have HL:=aM hB.size
 clear hI
 have HW0:=aM hB.size
 have HB:=aM hB
 clear hB
 have H : ((spec_l71Off.f k s0_0 s0_1).bind fun bt249 => ((spec_l71Off.f k s0_0 bt249.2).bind fun bt253 => ((spec_l6Rd_pick.f k s0_0 bt253.2 4).bind fun bt257 => (if bt257.1 > 0 then ((some (([] : List (S40)) : List (S40))).bind fun y259 => ((spec_l6Rd_pick.f k s0_0 bt257.2 (wrap64 ((bt249.1.length : Int) + 1))).bind fun bt262 => (if 0 ≤ bt262.1 then (if bt262.1 ≤ (bt249.1.length : Int) then ((some (bt249.1.take (bt262.1 : Int).toNat : List (S40))).bind fun y264 => (if y259.length + y264.length < 4398046511104 then ((spec_l6Rd_pick.f k s0_0 bt262.2 3).bind fun bt271 => (spec_l71Two.l0 k bt249.1 (y259 ++ y264) bt271.1 s0_0 bt271.2)) else (none))) else (none)) else (none)))) else ((spec_l6Rd_pick.f k s0_0 bt257.2 2).bind fun bt294 => (if bt294.1 = 0 then (some (bt253.1,bt249.1,bt294.2)) else (some (bt249.1,bt253.1,bt294.2)))))))) = some (r1,r2,r3):=h
 clear h
 replace H:=Option.bind_eq_some_iff.mp H
 obtain ⟨⟨t249,t252⟩,A20,H⟩:=H
 replace H : ((spec_l71Off.f k s0_0 t252).bind fun bt253 => ((spec_l6Rd_pick.f k s0_0 bt253.2 4).bind fun bt257 => (if bt257.1 > 0 then ((some (([] : List (S40)) : List (S40))).bind fun y259 => ((spec_l6Rd_pick.f k s0_0 bt257.2 (wrap64 ((t249.length : Int) + 1))).bind fun bt262 => (if 0 ≤ bt262.1 then (if bt262.1 ≤ (t249.length : Int) then ((some (t249.take (bt262.1 : Int).toNat : List (S40))).bind fun y264 => (if y259.length + y264.length < 4398046511104 then ((spec_l6Rd_pick.f k s0_0 bt262.2 3).bind fun bt271 => (spec_l71Two.l0 k t249 (y259 ++ y264) bt271.1 s0_0 bt271.2)) else (none))) else (none)) else (none)))) else ((spec_l6Rd_pick.f k s0_0 bt257.2 2).bind fun bt294 => (if bt294.1 = 0 then (some (bt253.1,t249,bt294.2)) else (some (t249,bt253.1,bt294.2))))))) = some (r1,r2,r3):=H
 have A2:=aM A20
 clear A20
 replace H:=Option.bind_eq_some_iff.mp H
 obtain ⟨⟨t253,t256⟩,A30,H⟩:=H
 replace H : ((spec_l6Rd_pick.f k s0_0 t256 4).bind fun bt257 => (if bt257.1 > 0 then ((some (([] : List (S40)) : List (S40))).bind fun y259 => ((spec_l6Rd_pick.f k s0_0 bt257.2 (wrap64 ((t249.length : Int) + 1))).bind fun bt262 => (if 0 ≤ bt262.1 then (if bt262.1 ≤ (t249.length : Int) then ((some (t249.take (bt262.1 : Int).toNat : List (S40))).bind fun y264 => (if y259.length + y264.length < 4398046511104 then ((spec_l6Rd_pick.f k s0_0 bt262.2 3).bind fun bt271 => (spec_l71Two.l0 k t249 (y259 ++ y264) bt271.1 s0_0 bt271.2)) else (none))) else (none)) else (none)))) else ((spec_l6Rd_pick.f k s0_0 bt257.2 2).bind fun bt294 => (if bt294.1 = 0 then (some (t253,t249,bt294.2)) else (some (t249,t253,bt294.2)))))) = some (r1,r2,r3):=H
 have A3:=aM A30
 clear A30
 replace H:=Option.bind_eq_some_iff.mp H
 obtain ⟨⟨t257,t258⟩,A40,H⟩:=H
 replace H : (if t257 > 0 then ((some (([] : List (S40)) : List (S40))).bind fun y259 => ((spec_l6Rd_pick.f k s0_0 t258 (wrap64 ((t249.length : Int) + 1))).bind fun bt262 => (if 0 ≤ bt262.1 then (if bt262.1 ≤ (t249.length : Int) then ((some (t249.take (bt262.1 : Int).toNat : List (S40))).bind fun y264 => (if y259.length + y264.length < 4398046511104 then ((spec_l6Rd_pick.f k s0_0 bt262.2 3).bind fun bt271 => (spec_l71Two.l0 k t249 (y259 ++ y264) bt271.1 s0_0 bt271.2)) else (none))) else (none)) else (none)))) else ((spec_l6Rd_pick.f k s0_0 t258 2).bind fun bt294 => (if bt294.1 = 0 then (some (t253,t249,bt294.2)) else (some (t249,t253,bt294.2))))) = some (r1,r2,r3):=H
 have A4:=aM A40
 clear A40
 by_cases c5 : t257 > 0
 ·rw [if_pos c5] at H
  have c5b0 : decide (0 < t257) = true:=decide_eq_true c5
  clear c5
  obtain ⟨y259,hy259⟩ : ∃ y_ : List (S40),y_ = (([] : List (S40))):=⟨_,rfl⟩
  replace H : ((spec_l6Rd_pick.f k s0_0 t258 (wrap64 ((t249.length : Int) + 1))).bind fun bt262 => (if 0 ≤ bt262.1 then (if bt262.1 ≤ (t249.length : Int) then ((some (t249.take (bt262.1 : Int).toNat : List (S40))).bind fun y264 => (if y259.length + y264.length < 4398046511104 then ((spec_l6Rd_pick.f k s0_0 bt262.2 3).bind fun bt271 => (spec_l71Two.l0 k t249 (y259 ++ y264) bt271.1 s0_0 bt271.2)) else (none))) else (none)) else (none))) = some (r1,r2,r3):=by first|(rw [hy259];with_reducible exact H)|(have H2_:=(Option.bind_some _ _).symm.trans H;rw [hy259];with_reducible exact H2_)|(have H2_:=(Option.bind_some _ _).symm.trans H;with_reducible exact H2_)|with_reducible exact H|(rw [hy259];exact H)|exact H
  have Ny259:=aM hy259
  clear hy259
  replace H:=Option.bind_eq_some_iff.mp H
  obtain ⟨⟨t262,t263⟩,A60,H⟩:=H
  replace H : (if 0 ≤ t262 then (if t262 ≤ (t249.length : Int) then ((some (t249.take (t262 : Int).toNat : List (S40))).bind fun y264 => (if y259.length + y264.length < 4398046511104 then ((spec_l6Rd_pick.f k s0_0 t263 3).bind fun bt271 => (spec_l71Two.l0 k t249 (y259 ++ y264) bt271.1 s0_0 bt271.2)) else (none))) else (none)) else (none)) = some (r1,r2,r3):=H
  have A6:=aM A60
  clear A60
  by_cases c7 : 0 ≤ t262
  case neg => rw [if_neg c7] at H;exact absurd H Q51
  rw [if_pos c7] at H
  have c7b0:=eq_true c7
  have c7b1 : decide (0 ≤ t262) = true:=decide_eq_true c7
  clear c7
  by_cases c8 : t262 ≤ (t249.length : Int)
  case neg => rw [if_neg c8] at H;exact absurd H Q51
  rw [if_pos c8] at H
  have c8b0:=eq_true c8
  have c8b1 : decide (t262 ≤ (t249.length : Int)) = true:=decide_eq_true c8
  clear c8
  obtain ⟨y264,hy264⟩ : ∃ y_ : List (S40),y_ = (t249.take (t262 : Int).toNat):=⟨_,rfl⟩
  replace H : (if y259.length + y264.length < 4398046511104 then ((spec_l6Rd_pick.f k s0_0 t263 3).bind fun bt271 => (spec_l71Two.l0 k t249 (y259 ++ y264) bt271.1 s0_0 bt271.2)) else (none)) = some (r1,r2,r3):=by first|(rw [hy264];with_reducible exact H)|(have H2_:=(Option.bind_some _ _).symm.trans H;rw [hy264];with_reducible exact H2_)|(have H2_:=(Option.bind_some _ _).symm.trans H;with_reducible exact H2_)|with_reducible exact H|(rw [hy264];exact H)|exact H
  have Ny264:=aM hy264
  clear hy264
  by_cases c9 : y259.length + y264.length < 4398046511104
  case neg => rw [if_neg c9] at H;exact absurd H Q51
  rw [if_pos c9] at H
  have LMc9:=aM c9
  clear c9
  obtain ⟨y268,hy268⟩ : ∃ y_ : List (S40),y_ = (y259 ++ y264):=⟨_,rfl⟩
  replace H : ((spec_l6Rd_pick.f k s0_0 t263 3).bind fun bt271 => (spec_l71Two.l0 k t249 y268 bt271.1 s0_0 bt271.2)) = some (r1,r2,r3):=by first|(rw [hy268];with_reducible exact H)|(have H2_:=(Option.bind_some _ _).symm.trans H;rw [hy268];with_reducible exact H2_)|(have H2_:=(Option.bind_some _ _).symm.trans H;with_reducible exact H2_)|with_reducible exact H|(rw [hy268];exact H)|exact H
  have Ny268:=aM hy268
  clear hy268
  replace H:=Option.bind_eq_some_iff.mp H
  obtain ⟨⟨t271,t272⟩,A100,H⟩:=H
  replace H : (spec_l71Two.l0 k t249 y268 t271 s0_0 t272) = some (r1,r2,r3):=H
  have A10:=aM A100
  clear A100
  have H':=aM H
  clear H
  go_enter Try.func47,Try.ntmps47
  go_wp2_with (first|((with_reducible refine gate_callee (f:=41) rfl ?_);refine goesL_ (some 9) rfl rfl Try.func41 Q14 rfl #[.pointer (some ⟨g,0,none⟩)] rfl Q1 ?_;(with_reducible refine (spec_l71Off.calls k g s0_0 s0_1 t249 t252 w0 _ ?side1 ?side2 A2.out).mono ?_);(case side1 => exact Q0);(case side2 => exact Q4);rintro e w11 ⟨v250,rfl,ho0,hi,hb,hk⟩;refine ⟨_,rfl,?_⟩;have n0_:=aM (Kd.R_lower ho0 (keep_size (w:=w) (g:=g) (row:=none) Q2));have n1_:=aM (KeepBut.trans Q2 hk (.inl rfl));have n2_:=aM (hb);have n3_:=aM (hi);clear HK;clear HB;clear HI0;have HO251:=n0_;have HK:=n1_;have HB:=n2_;have HI0:=n3_;clear n0_ n1_ n2_ n3_;(try clear hb);(try clear hb2);(try clear hk);(try clear hi);(try clear ho0))|((with_reducible refine gate_callee (f:=41) rfl ?_);refine goesL_ (some 11) rfl rfl Try.func41 Q14 rfl #[.pointer (some ⟨g,0,none⟩)] rfl Q1 ?_;(with_reducible refine (spec_l71Off.calls k g s0_0 t252 t253 t256 w0 _ ?side1 ?side2 A3.out).mono ?_);(case side1 => exact Q0);(case side2 => exact Q4);rintro e w12 ⟨v254,rfl,ho0,hi,hb,hk⟩;refine ⟨_,rfl,?_⟩;have n0_:=aM (Kd.R_mono (Kd.R_told (Kd.R_oldK (IsS76.apart (show IsS76 w0 _ g s0_0 t252 from Q0) (qR HO251) Q36) hk) (Kd.R_base ho0)) (fun _ h_ => h_.1));have n1_:=aM (Kd.R_lower (Kd.R_new' ho0 (Kd.R_lt (qR HO251))) (keep_size (w:=w) (g:=g) (row:=none) Q2));have n2_:=aM (KeepBut.trans Q2 hk (.inl rfl));have n3_:=aM (hb);have n4_:=aM (hi);clear HO251;clear HK;clear HB;clear HI0;have HO251:=n0_;have HO255:=n1_;have HK:=n2_;have HB:=n3_;have HI0:=n4_;clear n0_ n1_ n2_ n3_ n4_;(try clear hb);(try clear hb2);(try clear hk);(try clear hi);(try clear ho0))|((with_reducible refine gate_callee (f:=40) rfl ?_);refine goesL_ (some 13) rfl rfl Try.func40 Q14 rfl #[.pointer (some ⟨g,0,none⟩),.int .i64 4] rfl Q1 ?_;(with_reducible refine (spec_l6Rd_pick.calls k g s0_0 t256 4 t257 t258 w0 _ ?side1 ?side2 A4.out).mono ?_);(case side1 => exact Q0);(case side2 => exact Q4);rintro e w13 ⟨rfl,hi,hb,hk⟩;refine ⟨_,rfl,?_⟩;have n0_:=aM (Kd.R_mono (Kd.R_keep (IsS76.apart (show IsS76 w0 _ g s0_0 t256 from Q0) (qR HO251) Q36) hk (fun _ h => h.2)) (fun _ h => h.1));have n1_:=aM (Kd.R_mono (Kd.R_keep (IsS76.apart (show IsS76 w0 _ g s0_0 t256 from Q0) (qR HO255) Q36) hk (fun _ h => h.2)) (fun _ h => h.1));have n2_:=aM (KeepBut.trans Q2 hk (.inl rfl));have n3_:=aM (hb);have n4_:=aM (hi);clear HO251;clear HO255;clear HK;clear HB;clear HI0;have HO251:=n0_;have HO255:=n1_;have HK:=n2_;have HB:=n3_;have HI0:=n4_;clear n0_ n1_ n2_ n3_ n4_;(try clear hb);(try clear hb2);(try clear hk);(try clear hi))|((with_reducible refine gate_dst (N:=15) rfl ?_);refine Kd.R_lit k40 _ 40 ?hg (N:=15) ?hd (xs:=([] : List (S40))) (inner:=[]) (ok:=fun _ => True) (okp:=fun _ => True) ?hr ?hp (fun _ hk => hk) trivial (Below.refl _ _) (Nat.le_refl _) Q51 ?_;(case hd => rfl);(case hg => rfl);(case hr => exact Q16);(case hp => exact (Reps.none _ _));intro v260 w14 ho15 hb hg_ hnew_;clear hg_ hnew_;(first|rw [← Ny259.out] at ho15|(simp only [Int.reduceToNat] at ho15;rw [← Ny259.out] at ho15));have n0_:=aM (Kd.R_elder' (qR HO251) (Kd.R_base ho15) hb);have n1_:=aM (Kd.R_elder' (qR HO255) (Kd.R_base ho15) hb);have n2_:=aM (Kd.R_lower (Kd.R_new' (Kd.R_new' ho15 (Kd.R_lt (qR HO251))) (Kd.R_lt (qR HO255))) (keep_size (w:=w) (g:=g) (row:=none) Q2));have n3_:=aM (IsS76.below Q0 hb);have n4_:=aM (KeepBut.trans Q2 (KeepBut.of_below hb g none) (.inl rfl));have n5_:=aM (below_step Q4 hb);clear HO251;clear HO255;clear HI0;clear HK;clear HB;have HO251:=n0_;have HO255:=n1_;have HO261:=n2_;have HI0:=n3_;have HK:=n4_;have HB:=n5_;clear n0_ n1_ n2_ n3_ n4_ n5_;clear hb ho15;obtain ⟨Ao16,co16,eo16⟩:=Kd.R_slice HO251.out;subst eo16)|((with_reducible refine gate_callee (f:=40) rfl ?_);refine goesL_ (some 21) rfl rfl Try.func40 Q14 rfl #[.pointer (some ⟨g,0,none⟩),.int .i64 (wrap64 ((t249.length : Int) + 1))] rfl Q1 ?_;(with_reducible refine (spec_l6Rd_pick.calls k g s0_0 t258 (wrap64 ((t249.length : Int) + 1)) t262 t263 w0 _ ?side1 ?side2 A6.out).mono ?_);(case side1 => exact Q0);(case side2 => exact Q4);rintro e w17 ⟨rfl,hi,hb,hk⟩;refine ⟨_,rfl,?_⟩;have n0_:=aM (Kd.R_mono (Kd.R_keep (IsS76.apart (show IsS76 w0 _ g s0_0 t258 from Q0) (qR HO251) Q36) hk (fun _ h => h.2)) (fun _ h => h.1));have n1_:=aM (Kd.R_mono (Kd.R_keep (IsS76.apart (show IsS76 w0 _ g s0_0 t258 from Q0) (qR HO255) Q36) hk (fun _ h => h.2)) (fun _ h => h.1));have n2_:=aM (Kd.R_mono (Kd.R_keep (IsS76.apart (show IsS76 w0 _ g s0_0 t258 from Q0) (qR HO261) Q36) hk (fun _ h => h.2)) (fun _ h => h.1));have n3_:=aM (KeepBut.trans Q2 hk (.inl rfl));have n4_:=aM (hb);have n5_:=aM (hi);clear HO251;clear HO255;clear HO261;clear HK;clear HB;clear HI0;have HO251:=n0_;have HO255:=n1_;have HO261:=n2_;have HK:=n3_;have HB:=n4_;have HI0:=n5_;clear n0_ n1_ n2_ n3_ n4_ n5_;(try clear hb);(try clear hb2);(try clear hk);(try clear hi);have q18 : (t262 : Int) ≤ ((t249.length : Int) : Int):=of_decide_eq_true Q5;obtain ⟨i018,hi018,_,hsz18,_⟩:=info_parts info40;have hroom18 : t249.length ≤ co16:=(Kd.R_reads' HO251.out).2.1;have hC18 : Kd.C k40 _ Ao16 t249.length t249:=(Kd.R_reads' HO251.out).2.2;have hcut18:=cut_to (P:=Try.prog) 28 40 .i64 Try.underlying28 hi018 Ao16 t249.length co16 t262 (of_decide_eq_true Q5) q18 hroom18;have hr18:=Kd.C_take (m:=(t262 : Int).toNat) hC18 Q17;have hy18 : y264.length = (t262 : Int).toNat:=(by rw [Ny264.out,List.length_take];omega);rw [← Ny264.out] at hr18;rw [← hy18] at hcut18;have HR267:=aM hr18;have HC267:=aM (show y264.length ≤ co16 from Q17);clear hr18 hC18 hroom18 hi018 hsz18;have KY18:=aM hy18;clear hy18;have KL18:=aM (show (t262 : Int).toNat ≤ t249.length from Q17);replace q18:=eq_true q18)|((with_reducible refine gate_builtin (b:=.append) (xs:=#[.tmp 15,.tmp 22]) rfl ?_);at_builtin;refine Kd.R_append_rows k40 w.heap.size rfl (.tmp 15) (.tmp 22) 28 40 (.agg #[(.int .i64 0),(.int .i64 0),(.int .i64 0),(.int .i64 0)]) 32 rfl Try.underlying28 info40 rfl Q36 Q17 v260 y259 y264 _ _ _ (fun k_ => some k_ ≠ (.slice Ao16 t249.length co16 : Value).ownBlock ∧ some k_ ≠ (v254 : Value).ownBlock) (fun _ => False) rfl rfl ?aO ?aR (fun _ _ h => h) (fun _ h => h.elim) ?aF (Below.refl _ _) ?aS ?aL ?_;(case aR => repeat (first|exact (by repeat (first|(with_reducible exact HR267.out)|(with_reducible refine Kd.C_alloc ?_ _)|(with_reducible refine Kd.C_drewN ?_ _)|(with_reducible refine Kd.C_drew ?_)|exact HR267.out))|(with_reducible refine Kd.C_alloc ?_ _)|(with_reducible refine Kd.C_drewN ?_ _)|(with_reducible refine Kd.C_drew ?_)));(case aF => exact (fun k_ hk => ⟨Kd.fresh' (Kd.R_lt (qR HO251)) k_ hk,Kd.fresh' (Kd.R_lt (qR HO255)) k_ hk⟩));(case aO => exact (by (with_reducible repeat (first|apply Kd.R_alloc|apply Kd.R_drewN|apply Kd.R_drew));exact Kd.R_mono HO261.out (fun _ hk => ⟨hk.1.2,hk.2⟩)));(case aS => exact (keep_size (w:=w) (g:=g) (row:=none) Q2));(case aL => have:=LMc9.out;omega);intro v269 w19 ho hb hg hat;rw [← Ny268.out] at ho;have n0_:=aM (IsS76.grown Q0 hg (IsS76.own_ne HI0.out HO261.out Q36));have n1_:=aM (Kd.R_after (ok:=(fun k_ => some k_ ≠ (v254 : Value).ownBlock)) Q145 hg hat);have n2_:=aM (Kd.R_after (ok:=(fun k_ => some k_ ≠ (.slice Ao16 t249.length co16 : Value).ownBlock)) (by (with_reducible repeat (first|apply Kd.R_alloc|apply Kd.R_drewN|apply Kd.R_drew));exact Kd.R_mono HO255.out (fun _ hk => ⟨hk.1.2,hk.2⟩)) hg hat);have n3_:=aM (below_weaken Q4 HL.out hb);have n4_:=aM (KeepBut.trans Q2 (KeepBut.of_grown hg g) (Kd.R_base2 HO261.out));have n5_:=aM ((show Kd.C k40 w19 Ao16 y264.length y264 from by rw [Ny264.out];exact Kd.C_take (m:=(t262 : Int).toNat) ((Kd.R_reads' (Kd.R_after (ok:=(fun k_ => some k_ ≠ (v254 : Value).ownBlock)) Q145 hg hat)).2.2) KL18.out));have n6_:=aM (ho);clear HI0;clear HO251;clear HO255;clear HB;clear HK;clear HR267;clear HO261;have HI0:=n0_;have HO251:=n1_;have HO255:=n2_;have HB:=n3_;have HK:=n4_;have HR267:=n5_;have HO270:=n6_;clear n0_ n1_ n2_ n3_ n4_ n5_ n6_;clear ho hb hg hat)|((with_reducible refine gate_callee (f:=40) rfl ?_);refine goesL_ (some 25) rfl rfl Try.func40 Q14 rfl #[.pointer (some ⟨g,0,none⟩),.int .i64 3] rfl Q1 ?_;(with_reducible refine (spec_l6Rd_pick.calls k g s0_0 t263 3 t271 t272 w0 _ ?side1 ?side2 A10.out).mono ?_);(case side1 => exact Q0);(case side2 => exact Q4);rintro e w20 ⟨rfl,hi,hb,hk⟩;refine ⟨_,rfl,?_⟩;have n0_:=aM (Kd.R_mono (Kd.R_keep (IsS76.apart (show IsS76 w0 _ g s0_0 t263 from Q0) (qR HO251) Q36) hk (fun _ h => h.2)) (fun _ h => h.1));have n1_:=aM (Kd.R_mono (Kd.R_keep (IsS76.apart (show IsS76 w0 _ g s0_0 t263 from Q0) (qR HO255) Q36) hk (fun _ h => h.2)) (fun _ h => h.1));have n2_:=aM (Kd.R_mono (Kd.R_keep (IsS76.apart (show IsS76 w0 _ g s0_0 t263 from Q0) (qR HO270) Q36) hk (fun _ h => h.2)) (fun _ h => h.1));have n3_:=aM (KeepBut.trans Q2 hk (.inl rfl));have n4_:=aM (hb);have n5_:=aM (hi);clear HO251;clear HO255;clear HO270;clear HK;clear HB;clear HI0;have HO251:=n0_;have HO255:=n1_;have HO270:=n2_;have HK:=n3_;have HB:=n4_;have HI0:=n5_;clear n0_ n1_ n2_ n3_ n4_ n5_;(try clear hb);(try clear hb2);(try clear hk);(try clear hi)))
  go_loopg [5,6] k (fun kq v5 v6 w' => ∃ (x5_1 : List (S40)) (x6_1 : Int) (x1001_1 : Int),v6 = .int .i64 x6_1 ∧ Aside0 (spec_l71Two.l0 kq t249 x5_1 x6_1 s0_0 x1001_1 = some (r1,r2,r3)) ∧ Aside0 (kq ≤ k) ∧ Aside0 (Kd.R k40 40 w' w.heap.size (fun k_ => some k_ ≠ (v5 : Value).ownBlock) (.slice Ao16 t249.length co16) t249) ∧ Aside0 (Kd.R k40 40 w' w.heap.size (fun k_ => some k_ ≠ ((.slice Ao16 t249.length co16) : Value).ownBlock) v5 x5_1) ∧ Aside0 (IsS76 w0 w' g s0_0 x1001_1) ∧ Aside0 (KeepBut w w' g none) ∧ Aside0 (Below w0.heap.size w0 w'))
  case atStart => exact ⟨(y268),(t271),(t272),Q11,H',⟨Nat.le_refl _⟩,⟨Q100⟩,⟨by (with_reducible repeat (first|apply Kd.R_alloc|apply Kd.R_drewN|apply Kd.R_drew));exact Kd.R_mono HO270.out (fun _ hk => hk.1)⟩,⟨Q0⟩,⟨Q2⟩,⟨Q4⟩⟩
  case round =>
   clear H'
   try clear q1
   try clear p2
   try clear c4
   try clear c5
   try clear c5b0
   try clear p6
   try clear c7
   try clear c7b0
   try clear c7b1
   try clear c8
   try clear c8b0
   try clear c8b1
   try clear c9
   try clear q18
   try clear q18
   obtain ⟨x5_1,x6_1,x1001_1,rfl,HA,HK1,HO_4,HO_5,HI0,HK,HB⟩:=hrel
   cases gk with
   | zero => exact absurd HA.out (by simp [spec_l71Two.l0])
   | succ k1 =>
    have H:=HA.out
    clear HA
    simp only [spec_l71Two.l0] at H
    by_cases c21 : x6_1 > 0
    ·rw [if_pos c21] at H
     have c21b0 : decide (0 < x6_1) = true:=decide_eq_true c21
     clear c21
     by_cases c22 : (x5_1.length : Int) > 0
     ·rw [if_pos c22] at H
      have c22b0 : decide (0 < (x5_1.length : Int)) = true:=decide_eq_true c22
      have c22b1 : decide (0 < x5_1.length) = true:=decide_eq_true Q17
      clear c22
      obtain ⟨ji23,hji23⟩ : ∃ j_ : Int,(wrap64 ((x5_1.length : Int) - 1)) = j_:=⟨_,rfl⟩
      replace H : (if 0 ≤ (ji23) then (if (ji23) < (x5_1.length : Int) then ((spec_l6Rd_pick.f k1 s0_0 x1001_1 2).bind fun bt276 => ((spec_l71Pay.f k1 s0_0 bt276.2).bind fun bt278 => (if x5_1.length < 4398046511104 then (spec_l71Two.l0 k1 t249 (x5_1 ++ [(⟨wrap64 ((wrap64 (((rd_T40 x5_1 (ji23)).f0) + 1)) + bt276.1),(⟨bt278.1,bt278.2.1,bt278.2.2.1⟩ : S38)⟩ : S40)]) (wrap64 (x6_1 - 1)) s0_0 bt278.2.2.2) else (none)))) else (none)) else (none)) = some (r1,r2,r3):=by first|(rw [hji23] at H;exact H)|(simp only [hji23] at H ⊢;exact H)
      have hji23w : (IntKind.i64.wrap ((x5_1.length : Int) - 1)) = ji23:=(i64_w _).trans hji23
      by_cases c24 : 0 ≤ (ji23)
      case neg => rw [if_neg c24] at H;exact absurd H Q51
      rw [if_pos c24] at H
      have c24b0 : decide (0 ≤ (ji23)) = true:=decide_eq_true c24
      clear c24
      by_cases c25 : (ji23) < (x5_1.length : Int)
      case neg => rw [if_neg c25] at H;exact absurd H Q51
      rw [if_pos c25] at H
      have c25b0 : decide ((ji23) < (x5_1.length : Int)) = true:=decide_eq_true c25
      clear c25
      replace H:=Option.bind_eq_some_iff.mp H
      obtain ⟨⟨t276,t277⟩,A260,H⟩:=H
      replace H : ((spec_l71Pay.f k1 s0_0 t277).bind fun bt278 => (if x5_1.length < 4398046511104 then (spec_l71Two.l0 k1 t249 (x5_1 ++ [(⟨wrap64 ((wrap64 (((rd_T40 x5_1 (ji23)).f0) + 1)) + t276),(⟨bt278.1,bt278.2.1,bt278.2.2.1⟩ : S38)⟩ : S40)]) (wrap64 (x6_1 - 1)) s0_0 bt278.2.2.2) else (none))) = some (r1,r2,r3):=H
      have A26:=aM A260
      clear A260
      replace H:=Option.bind_eq_some_iff.mp H
      obtain ⟨⟨t278,t279,t280,t281⟩,A270,H⟩:=H
      replace H : (if x5_1.length < 4398046511104 then (spec_l71Two.l0 k1 t249 (x5_1 ++ [(⟨wrap64 ((wrap64 (((rd_T40 x5_1 (ji23)).f0) + 1)) + t276),(⟨t278,t279,t280⟩ : S38)⟩ : S40)]) (wrap64 (x6_1 - 1)) s0_0 t281) else (none)) = some (r1,r2,r3):=H
      have A27:=aM A270
      clear A270
      by_cases c28 : x5_1.length < 4398046511104
      case neg => rw [if_neg c28] at H;exact absurd H Q51
      rw [if_pos c28] at H
      have LMc28:=aM c28
      clear c28
      obtain ⟨y282,hy282⟩ : ∃ y_ : List (S40),y_ = (x5_1 ++ [(⟨wrap64 ((wrap64 (((rd_T40 x5_1 (ji23)).f0) + 1)) + t276),(⟨t278,t279,t280⟩ : S38)⟩ : S40)]):=⟨_,rfl⟩
      replace H : (spec_l71Two.l0 k1 t249 y282 (wrap64 (x6_1 - 1)) s0_0 t281) = some (r1,r2,r3):=by first|(rw [hy282];with_reducible exact H)|(have H2_:=(Option.bind_some _ _).symm.trans H;rw [hy282];with_reducible exact H2_)|(have H2_:=(Option.bind_some _ _).symm.trans H;with_reducible exact H2_)|with_reducible exact H|(rw [hy282];exact H)|exact H
      have Ny282:=aM hy282
      clear hy282
      have H':=aM H
      clear H
      obtain ⟨Ao29,co29,eo29⟩:=Kd.R_slice HO_5.out
      subst eo29
      have p275 : 0 ≤ ((ji23) : Int):=of_decide_eq_true Q5
      have q275 : (ji23) < (x5_1.length : Int):=of_decide_eq_true Q5
      obtain ⟨ad275,e275,hx275_0,hx275_1,hx275_2,hx275_3⟩:=at_T40 (Kd.R_reads' HO_5.out).2.2 (ji23) p275 q275
      cases e275
      replace p275:=eq_true p275
      replace q275:=eq_true q275
      go_wp2_with (first|((with_reducible refine gate_callee (f:=40) rfl ?_);refine goesL_ (some 44) rfl rfl Try.func40 Q14 rfl #[.pointer (some ⟨g,0,none⟩),.int .i64 2] rfl Q1 ?_;(with_reducible refine (spec_l6Rd_pick.calls k1 g s0_0 x1001_1 2 t276 t277 w0 _ ?side1 ?side2 A26.out).mono ?_);(case side1 => exact Q0);(case side2 => exact Q4);rintro e w30 ⟨rfl,hi,hb,hk⟩;refine ⟨_,rfl,?_⟩;have n0_:=aM (Kd.R_mono (Kd.R_keep (IsS76.apart (show IsS76 w0 _ g s0_0 x1001_1 from Q0) (qR HO_4) Q36) hk (fun _ h => h.2)) (fun _ h => h.1));have n1_:=aM (Kd.R_mono (Kd.R_keep (IsS76.apart (show IsS76 w0 _ g s0_0 x1001_1 from Q0) (qR HO_5) Q36) hk (fun _ h => h.2)) (fun _ h => h.1));have n2_:=aM (KeepBut.trans Q2 hk (.inl rfl));have n3_:=aM (hb);have n4_:=aM (hi);clear HO_4;clear HO_5;clear HK;clear HB;clear HI0;have HO_4:=n0_;have HO_5:=n1_;have HK:=n2_;have HB:=n3_;have HI0:=n4_;clear n0_ n1_ n2_ n3_ n4_;(try clear hb);(try clear hb2);(try clear hk);(try clear hi))|((with_reducible refine gate_callee (f:=49) rfl ?_);refine goesL_ (some 47) rfl rfl Try.func49 Q14 rfl #[.pointer (some ⟨g,0,none⟩)] rfl Q1 ?_;(with_reducible refine (spec_l71Pay.calls k1 g s0_0 t277 t278 t279 t280 t281 w0 _ ?side1 ?side2 A27.out).mono ?_);(case side1 => exact Q0);(case side2 => exact Q4);rintro e w31 ⟨rfl,hi,hb,hk⟩;refine ⟨_,rfl,?_⟩;have n0_:=aM (Kd.R_mono (Kd.R_keep (IsS76.apart (show IsS76 w0 _ g s0_0 t277 from Q0) (qR HO_4) Q36) hk (fun _ h => h.2)) (fun _ h => h.1));have n1_:=aM (Kd.R_mono (Kd.R_keep (IsS76.apart (show IsS76 w0 _ g s0_0 t277 from Q0) (qR HO_5) Q36) hk (fun _ h => h.2)) (fun _ h => h.1));have n2_:=aM (KeepBut.trans Q2 hk (.inl rfl));have n3_:=aM (hb);have n4_:=aM (hi);clear HO_4;clear HO_5;clear HK;clear HB;clear HI0;have HO_4:=n0_;have HO_5:=n1_;have HK:=n2_;have HB:=n3_;have HI0:=n4_;clear n0_ n1_ n2_ n3_ n4_;(try clear hb);(try clear hb2);(try clear hk);(try clear hi))|((with_reducible refine gate_builtin (b:=.append) (xs:=#[.tmp 40,.tmp 49]) rfl ?_);at_builtin;refine Kd.R_append k40 w.heap.size rfl (.tmp 40) (.tmp 49) 28 40 (.agg #[(.int .i64 0),(.int .i64 0),(.int .i64 0),(.int .i64 0)]) 32 rfl Try.underlying28 info40 rfl Q36 Q17 (.slice (some ad275) x5_1.length co29) x5_1 (⟨wrap64 ((wrap64 (((rd_T40 x5_1 (ji23)).f0) + 1)) + t276),(⟨t278,t279,t280⟩ : S38)⟩ : S40) [.int .i64 (wrap64 ((wrap64 (((rd_T40 x5_1 (ji23)).f0) + 1)) + t276)),.int .i64 t278,.int .i64 t279,.int .i64 t280] (fun k_ => some k_ ≠ (.slice Ao16 t249.length co16 : Value).ownBlock) (fun _ => False) rfl rfl ?aP (fun _ hk => hk.elim) ?aF ?aO (Below.refl _ _) ?aS ?aL ?_;(case aP => exact k40_mkM _ _ _ (⟨wrap64 ((wrap64 (((rd_T40 x5_1 (ji23)).f0) + 1)) + t276),(⟨t278,t279,t280⟩ : S38)⟩ : S40));(case aF => exact (fun k_ hk => Kd.fresh' (Kd.R_lt (qR HO_4)) k_ hk));(case aO => exact (qR HO_5));(case aS => exact (keep_size (w:=w) (g:=g) (row:=none) Q2));(case aL => have:=LMc28.out;omega);intro v283 w32 ho hb hg hat;rw [← Ny282.out] at ho;have n0_:=aM (Kd.R_after (ok:=(fun _ => True)) Q147 hg hat);have n1_:=aM (IsS76.grown Q0 hg (IsS76.own_ne HI0.out HO_5.out Q36));have n2_:=aM (below_weaken Q4 HL.out hb);have n3_:=aM (KeepBut.trans Q2 (KeepBut.of_grown hg g) (Kd.R_base2 HO_5.out));have n4_:=aM (ho);clear HO_4;clear HI0;clear HB;clear HK;clear HO_5;have HO_4:=n0_;have HI0:=n1_;have HB:=n2_;have HK:=n3_;have HO284:=n4_;clear n0_ n1_ n2_ n3_ n4_;clear ho hb hg hat))
      go_roundg k1
      case measure => have:=HK1.out;omega
      case rel => exact ⟨(y282),(wrap64 (x6_1 - 1)),(t281),Q11,H',⟨Q60⟩,⟨Q74⟩,⟨qR HO284⟩,⟨Q0⟩,⟨Q2⟩,⟨Q4⟩⟩
     ·rw [if_neg c22] at H
      have c22b0 : decide (0 < (x5_1.length : Int)) = false:=decide_eq_false c22
      have c22b1 : decide (0 < x5_1.length) = false:=decide_eq_false Q17
      clear c22
      replace H:=Option.bind_eq_some_iff.mp H
      obtain ⟨⟨t285,t286⟩,A330,H⟩:=H
      replace H : ((spec_l71Pay.f k1 s0_0 t286).bind fun bt287 => (if x5_1.length < 4398046511104 then (spec_l71Two.l0 k1 t249 (x5_1 ++ [(⟨wrap64 (1 + t285),(⟨bt287.1,bt287.2.1,bt287.2.2.1⟩ : S38)⟩ : S40)]) (wrap64 (x6_1 - 1)) s0_0 bt287.2.2.2) else (none))) = some (r1,r2,r3):=H
      have A33:=aM A330
      clear A330
      replace H:=Option.bind_eq_some_iff.mp H
      obtain ⟨⟨t287,t288,t289,t290⟩,A340,H⟩:=H
      replace H : (if x5_1.length < 4398046511104 then (spec_l71Two.l0 k1 t249 (x5_1 ++ [(⟨wrap64 (1 + t285),(⟨t287,t288,t289⟩ : S38)⟩ : S40)]) (wrap64 (x6_1 - 1)) s0_0 t290) else (none)) = some (r1,r2,r3):=H
      have A34:=aM A340
      clear A340
      by_cases c35 : x5_1.length < 4398046511104
      case neg => rw [if_neg c35] at H;exact absurd H Q51
      rw [if_pos c35] at H
      have LMc35:=aM c35
      clear c35
      obtain ⟨y291,hy291⟩ : ∃ y_ : List (S40),y_ = (x5_1 ++ [(⟨wrap64 (1 + t285),(⟨t287,t288,t289⟩ : S38)⟩ : S40)]):=⟨_,rfl⟩
      replace H : (spec_l71Two.l0 k1 t249 y291 (wrap64 (x6_1 - 1)) s0_0 t290) = some (r1,r2,r3):=by first|(rw [hy291];with_reducible exact H)|(have H2_:=(Option.bind_some _ _).symm.trans H;rw [hy291];with_reducible exact H2_)|(have H2_:=(Option.bind_some _ _).symm.trans H;with_reducible exact H2_)|with_reducible exact H|(rw [hy291];exact H)|exact H
      have Ny291:=aM hy291
      clear hy291
      have H':=aM H
      clear H
      obtain ⟨Ao36,co36,eo36⟩:=Kd.R_slice HO_5.out
      subst eo36
      go_wp2_with (first|((with_reducible refine gate_callee (f:=40) rfl ?_);refine goesL_ (some 44) rfl rfl Try.func40 Q14 rfl #[.pointer (some ⟨g,0,none⟩),.int .i64 2] rfl Q1 ?_;(with_reducible refine (spec_l6Rd_pick.calls k1 g s0_0 x1001_1 2 t285 t286 w0 _ ?side1 ?side2 A33.out).mono ?_);(case side1 => exact Q0);(case side2 => exact Q4);rintro e w37 ⟨rfl,hi,hb,hk⟩;refine ⟨_,rfl,?_⟩;have n0_:=aM (Kd.R_mono (Kd.R_keep (IsS76.apart (show IsS76 w0 _ g s0_0 x1001_1 from Q0) (qR HO_4) Q36) hk (fun _ h => h.2)) (fun _ h => h.1));have n1_:=aM (Kd.R_mono (Kd.R_keep (IsS76.apart (show IsS76 w0 _ g s0_0 x1001_1 from Q0) (qR HO_5) Q36) hk (fun _ h => h.2)) (fun _ h => h.1));have n2_:=aM (KeepBut.trans Q2 hk (.inl rfl));have n3_:=aM (hb);have n4_:=aM (hi);clear HO_4;clear HO_5;clear HK;clear HB;clear HI0;have HO_4:=n0_;have HO_5:=n1_;have HK:=n2_;have HB:=n3_;have HI0:=n4_;clear n0_ n1_ n2_ n3_ n4_;(try clear hb);(try clear hb2);(try clear hk);(try clear hi))|((with_reducible refine gate_callee (f:=49) rfl ?_);refine goesL_ (some 47) rfl rfl Try.func49 Q14 rfl #[.pointer (some ⟨g,0,none⟩)] rfl Q1 ?_;(with_reducible refine (spec_l71Pay.calls k1 g s0_0 t286 t287 t288 t289 t290 w0 _ ?side1 ?side2 A34.out).mono ?_);(case side1 => exact Q0);(case side2 => exact Q4);rintro e w38 ⟨rfl,hi,hb,hk⟩;refine ⟨_,rfl,?_⟩;have n0_:=aM (Kd.R_mono (Kd.R_keep (IsS76.apart (show IsS76 w0 _ g s0_0 t286 from Q0) (qR HO_4) Q36) hk (fun _ h => h.2)) (fun _ h => h.1));have n1_:=aM (Kd.R_mono (Kd.R_keep (IsS76.apart (show IsS76 w0 _ g s0_0 t286 from Q0) (qR HO_5) Q36) hk (fun _ h => h.2)) (fun _ h => h.1));have n2_:=aM (KeepBut.trans Q2 hk (.inl rfl));have n3_:=aM (hb);have n4_:=aM (hi);clear HO_4;clear HO_5;clear HK;clear HB;clear HI0;have HO_4:=n0_;have HO_5:=n1_;have HK:=n2_;have HB:=n3_;have HI0:=n4_;clear n0_ n1_ n2_ n3_ n4_;(try clear hb);(try clear hb2);(try clear hk);(try clear hi))|((with_reducible refine gate_builtin (b:=.append) (xs:=#[.tmp 40,.tmp 49]) rfl ?_);at_builtin;refine Kd.R_append k40 w.heap.size rfl (.tmp 40) (.tmp 49) 28 40 (.agg #[(.int .i64 0),(.int .i64 0),(.int .i64 0),(.int .i64 0)]) 32 rfl Try.underlying28 info40 rfl Q36 Q17 (.slice Ao36 x5_1.length co36) x5_1 (⟨wrap64 (1 + t285),(⟨t287,t288,t289⟩ : S38)⟩ : S40) [.int .i64 (wrap64 (1 + t285)),.int .i64 t287,.int .i64 t288,.int .i64 t289] (fun k_ => some k_ ≠ (.slice Ao16 t249.length co16 : Value).ownBlock) (fun _ => False) rfl rfl ?aP (fun _ hk => hk.elim) ?aF ?aO (Below.refl _ _) ?aS ?aL ?_;(case aP => exact k40_mkM _ _ _ (⟨wrap64 (1 + t285),(⟨t287,t288,t289⟩ : S38)⟩ : S40));(case aF => exact (fun k_ hk => Kd.fresh' (Kd.R_lt (qR HO_4)) k_ hk));(case aO => exact (qR HO_5));(case aS => exact (keep_size (w:=w) (g:=g) (row:=none) Q2));(case aL => have:=LMc35.out;omega);intro v292 w39 ho hb hg hat;rw [← Ny291.out] at ho;have n0_:=aM (Kd.R_after (ok:=(fun _ => True)) Q147 hg hat);have n1_:=aM (IsS76.grown Q0 hg (IsS76.own_ne HI0.out HO_5.out Q36));have n2_:=aM (below_weaken Q4 HL.out hb);have n3_:=aM (KeepBut.trans Q2 (KeepBut.of_grown hg g) (Kd.R_base2 HO_5.out));have n4_:=aM (ho);clear HO_4;clear HI0;clear HB;clear HK;clear HO_5;have HO_4:=n0_;have HI0:=n1_;have HB:=n2_;have HK:=n3_;have HO293:=n4_;clear n0_ n1_ n2_ n3_ n4_;clear ho hb hg hat))
      go_roundg k1
      case measure => have:=HK1.out;omega
      case rel => exact ⟨(y291),(wrap64 (x6_1 - 1)),(t290),Q11,H',⟨Q60⟩,⟨Q74⟩,⟨qR HO293⟩,⟨Q0⟩,⟨Q2⟩,⟨Q4⟩⟩
    ·rw [if_neg c21] at H
     have c21b0 : decide (0 < x6_1) = false:=decide_eq_false c21
     clear c21
     replace H:=Option.bind_eq_some_iff.mp H
     obtain ⟨⟨t273,t274⟩,A400,H⟩:=H
     replace H : (if t273 = 0 then (some (x5_1,t249,t274)) else (some (t249,x5_1,t274))) = some (r1,r2,r3):=H
     have A40:=aM A400
     clear A400
     by_cases c41 : t273 = 0
     ·rw [if_pos c41] at H
      have c41b0 : (t273 == 0) = true:=beq_iff_eq.mpr c41
      have c41b1 : (t273 != 0) = false:=bne_eq_false_iff_eq.mpr c41
      clear c41
      simp only [Option.some.injEq,Prod.mk.injEq] at H
      obtain ⟨rfl,rfl,rfl⟩:=H
      go_wp2_with (first|((with_reducible refine gate_callee (f:=40) rfl ?_);refine goesL_ (some 52) rfl rfl Try.func40 Q14 rfl #[.pointer (some ⟨g,0,none⟩),.int .i64 2] rfl Q1 ?_;(with_reducible refine (spec_l6Rd_pick.calls k1 g s0_0 x1001_1 2 t273 t274 w0 _ ?side1 ?side2 A40.out).mono ?_);(case side1 => exact Q0);(case side2 => exact Q4);rintro e w42 ⟨rfl,hi,hb,hk⟩;refine ⟨_,rfl,?_⟩;have n0_:=aM (Kd.R_mono (Kd.R_keep (IsS76.apart (show IsS76 w0 _ g s0_0 x1001_1 from Q0) (qR HO_4) Q36) hk (fun _ h => h.2)) (fun _ h => h.1));have n1_:=aM (Kd.R_mono (Kd.R_keep (IsS76.apart (show IsS76 w0 _ g s0_0 x1001_1 from Q0) (qR HO_5) Q36) hk (fun _ h => h.2)) (fun _ h => h.1));have n2_:=aM (KeepBut.trans Q2 hk (.inl rfl));have n3_:=aM (hb);have n4_:=aM (hi);clear HO_4;clear HO_5;clear HK;clear HB;clear HI0;have HO_4:=n0_;have HO_5:=n1_;have HK:=n2_;have HB:=n3_;have HI0:=n4_;clear n0_ n1_ n2_ n3_ n4_;(try clear hb);(try clear hb2);(try clear hk);(try clear hi)))
      go_ret2
      exact ⟨_,_,Q6,qR HO_5,qR HO_4,Q0,Q4,Q2⟩
     ·rw [if_neg c41] at H
      have c41b0 : (t273 == 0) = false:=beq_eq_false_iff_ne.mpr c41
      have c41b1 : (t273 != 0) = true:=bne_iff_ne.mpr c41
      simp only [Option.some.injEq,Prod.mk.injEq] at H
      obtain ⟨rfl,rfl,rfl⟩:=H
      go_wp2_with (first|((with_reducible refine gate_callee (f:=40) rfl ?_);refine goesL_ (some 52) rfl rfl Try.func40 Q14 rfl #[.pointer (some ⟨g,0,none⟩),.int .i64 2] rfl Q1 ?_;(with_reducible refine (spec_l6Rd_pick.calls k1 g s0_0 x1001_1 2 t273 t274 w0 _ ?side1 ?side2 A40.out).mono ?_);(case side1 => exact Q0);(case side2 => exact Q4);rintro e w43 ⟨rfl,hi,hb,hk⟩;refine ⟨_,rfl,?_⟩;have n0_:=aM (Kd.R_mono (Kd.R_keep (IsS76.apart (show IsS76 w0 _ g s0_0 x1001_1 from Q0) (qR HO_4) Q36) hk (fun _ h => h.2)) (fun _ h => h.1));have n1_:=aM (Kd.R_mono (Kd.R_keep (IsS76.apart (show IsS76 w0 _ g s0_0 x1001_1 from Q0) (qR HO_5) Q36) hk (fun _ h => h.2)) (fun _ h => h.1));have n2_:=aM (KeepBut.trans Q2 hk (.inl rfl));have n3_:=aM (hb);have n4_:=aM (hi);clear HO_4;clear HO_5;clear HK;clear HB;clear HI0;have HO_4:=n0_;have HO_5:=n1_;have HK:=n2_;have HB:=n3_;have HI0:=n4_;clear n0_ n1_ n2_ n3_ n4_;(try clear hb);(try clear hb2);(try clear hk);(try clear hi)))
      go_ret2
      exact ⟨_,_,Q6,qR HO_4,qR HO_5,Q0,Q4,Q2⟩
 ·rw [if_neg c5] at H
  have c5b0 : decide (0 < t257) = false:=decide_eq_false c5
  clear c5
  replace H:=Option.bind_eq_some_iff.mp H
  obtain ⟨⟨t294,t295⟩,A440,H⟩:=H
  replace H : (if t294 = 0 then (some (t253,t249,t295)) else (some (t249,t253,t295))) = some (r1,r2,r3):=H
  have A44:=aM A440
  clear A440
  by_cases c45 : t294 = 0
  ·rw [if_pos c45] at H
   have c45b0 : (t294 == 0) = true:=beq_iff_eq.mpr c45
   have c45b1 : (t294 != 0) = false:=bne_eq_false_iff_eq.mpr c45
   clear c45
   simp only [Option.some.injEq,Prod.mk.injEq] at H
   obtain ⟨rfl,rfl,rfl⟩:=H
   go_enter Try.func47,Try.ntmps47
   go_wp2_with (first|((with_reducible refine gate_callee (f:=41) rfl ?_);refine goesL_ (some 9) rfl rfl Try.func41 Q14 rfl #[.pointer (some ⟨g,0,none⟩)] rfl Q1 ?_;(with_reducible refine (spec_l71Off.calls k g s0_0 s0_1 t249 t252 w0 _ ?side1 ?side2 A2.out).mono ?_);(case side1 => exact Q0);(case side2 => exact Q4);rintro e w46 ⟨v250,rfl,ho0,hi,hb,hk⟩;refine ⟨_,rfl,?_⟩;have n0_:=aM (Kd.R_lower ho0 (keep_size (w:=w) (g:=g) (row:=none) Q2));have n1_:=aM (KeepBut.trans Q2 hk (.inl rfl));have n2_:=aM (hb);have n3_:=aM (hi);clear HK;clear HB;clear HI0;have HO251:=n0_;have HK:=n1_;have HB:=n2_;have HI0:=n3_;clear n0_ n1_ n2_ n3_;(try clear hb);(try clear hb2);(try clear hk);(try clear hi);(try clear ho0))|((with_reducible refine gate_callee (f:=41) rfl ?_);refine goesL_ (some 11) rfl rfl Try.func41 Q14 rfl #[.pointer (some ⟨g,0,none⟩)] rfl Q1 ?_;(with_reducible refine (spec_l71Off.calls k g s0_0 t252 t253 t256 w0 _ ?side1 ?side2 A3.out).mono ?_);(case side1 => exact Q0);(case side2 => exact Q4);rintro e w47 ⟨v254,rfl,ho0,hi,hb,hk⟩;refine ⟨_,rfl,?_⟩;have n0_:=aM (Kd.R_mono (Kd.R_told (Kd.R_oldK (IsS76.apart (show IsS76 w0 _ g s0_0 t252 from Q0) (qR HO251) Q36) hk) (Kd.R_base ho0)) (fun _ h_ => h_.1));have n1_:=aM (Kd.R_lower (Kd.R_new' ho0 (Kd.R_lt (qR HO251))) (keep_size (w:=w) (g:=g) (row:=none) Q2));have n2_:=aM (KeepBut.trans Q2 hk (.inl rfl));have n3_:=aM (hb);have n4_:=aM (hi);clear HO251;clear HK;clear HB;clear HI0;have HO251:=n0_;have HO255:=n1_;have HK:=n2_;have HB:=n3_;have HI0:=n4_;clear n0_ n1_ n2_ n3_ n4_;(try clear hb);(try clear hb2);(try clear hk);(try clear hi);(try clear ho0))|((with_reducible refine gate_callee (f:=40) rfl ?_);refine goesL_ (some 13) rfl rfl Try.func40 Q14 rfl #[.pointer (some ⟨g,0,none⟩),.int .i64 4] rfl Q1 ?_;(with_reducible refine (spec_l6Rd_pick.calls k g s0_0 t256 4 t257 t258 w0 _ ?side1 ?side2 A4.out).mono ?_);(case side1 => exact Q0);(case side2 => exact Q4);rintro e w48 ⟨rfl,hi,hb,hk⟩;refine ⟨_,rfl,?_⟩;have n0_:=aM (Kd.R_mono (Kd.R_keep (IsS76.apart (show IsS76 w0 _ g s0_0 t256 from Q0) (qR HO251) Q36) hk (fun _ h => h.2)) (fun _ h => h.1));have n1_:=aM (Kd.R_mono (Kd.R_keep (IsS76.apart (show IsS76 w0 _ g s0_0 t256 from Q0) (qR HO255) Q36) hk (fun _ h => h.2)) (fun _ h => h.1));have n2_:=aM (KeepBut.trans Q2 hk (.inl rfl));have n3_:=aM (hb);have n4_:=aM (hi);clear HO251;clear HO255;clear HK;clear HB;clear HI0;have HO251:=n0_;have HO255:=n1_;have HK:=n2_;have HB:=n3_;have HI0:=n4_;clear n0_ n1_ n2_ n3_ n4_;(try clear hb);(try clear hb2);(try clear hk);(try clear hi))|((with_reducible refine gate_callee (f:=40) rfl ?_);refine goesL_ (some 52) rfl rfl Try.func40 Q14 rfl #[.pointer (some ⟨g,0,none⟩),.int .i64 2] rfl Q1 ?_;(with_reducible refine (spec_l6Rd_pick.calls k g s0_0 t258 2 t294 t295 w0 _ ?side1 ?side2 A44.out).mono ?_);(case side1 => exact Q0);(case side2 => exact Q4);rintro e w49 ⟨rfl,hi,hb,hk⟩;refine ⟨_,rfl,?_⟩;have n0_:=aM (Kd.R_mono (Kd.R_keep (IsS76.apart (show IsS76 w0 _ g s0_0 t258 from Q0) (qR HO251) Q36) hk (fun _ h => h.2)) (fun _ h => h.1));have n1_:=aM (Kd.R_mono (Kd.R_keep (IsS76.apart (show IsS76 w0 _ g s0_0 t258 from Q0) (qR HO255) Q36) hk (fun _ h => h.2)) (fun _ h => h.1));have n2_:=aM (KeepBut.trans Q2 hk (.inl rfl));have n3_:=aM (hb);have n4_:=aM (hi);clear HO251;clear HO255;clear HK;clear HB;clear HI0;have HO251:=n0_;have HO255:=n1_;have HK:=n2_;have HB:=n3_;have HI0:=n4_;clear n0_ n1_ n2_ n3_ n4_;(try clear hb);(try clear hb2);(try clear hk);(try clear hi)))
   go_ret2
   exact ⟨_,_,Q6,Q153,Q100,Q0,Q4,Q2⟩
  ·rw [if_neg c45] at H
   have c45b0 : (t294 == 0) = false:=beq_eq_false_iff_ne.mpr c45
   have c45b1 : (t294 != 0) = true:=bne_iff_ne.mpr c45
   simp only [Option.some.injEq,Prod.mk.injEq] at H
   obtain ⟨rfl,rfl,rfl⟩:=H
   go_enter Try.func47,Try.ntmps47
   go_wp2_with (first|((with_reducible refine gate_callee (f:=41) rfl ?_);refine goesL_ (some 9) rfl rfl Try.func41 Q14 rfl #[.pointer (some ⟨g,0,none⟩)] rfl Q1 ?_;(with_reducible refine (spec_l71Off.calls k g s0_0 s0_1 t249 t252 w0 _ ?side1 ?side2 A2.out).mono ?_);(case side1 => exact Q0);(case side2 => exact Q4);rintro e w50 ⟨v250,rfl,ho0,hi,hb,hk⟩;refine ⟨_,rfl,?_⟩;have n0_:=aM (Kd.R_lower ho0 (keep_size (w:=w) (g:=g) (row:=none) Q2));have n1_:=aM (KeepBut.trans Q2 hk (.inl rfl));have n2_:=aM (hb);have n3_:=aM (hi);clear HK;clear HB;clear HI0;have HO251:=n0_;have HK:=n1_;have HB:=n2_;have HI0:=n3_;clear n0_ n1_ n2_ n3_;(try clear hb);(try clear hb2);(try clear hk);(try clear hi);(try clear ho0))|((with_reducible refine gate_callee (f:=41) rfl ?_);refine goesL_ (some 11) rfl rfl Try.func41 Q14 rfl #[.pointer (some ⟨g,0,none⟩)] rfl Q1 ?_;(with_reducible refine (spec_l71Off.calls k g s0_0 t252 t253 t256 w0 _ ?side1 ?side2 A3.out).mono ?_);(case side1 => exact Q0);(case side2 => exact Q4);rintro e w51 ⟨v254,rfl,ho0,hi,hb,hk⟩;refine ⟨_,rfl,?_⟩;have n0_:=aM (Kd.R_mono (Kd.R_told (Kd.R_oldK (IsS76.apart (show IsS76 w0 _ g s0_0 t252 from Q0) (qR HO251) Q36) hk) (Kd.R_base ho0)) (fun _ h_ => h_.1));have n1_:=aM (Kd.R_lower (Kd.R_new' ho0 (Kd.R_lt (qR HO251))) (keep_size (w:=w) (g:=g) (row:=none) Q2));have n2_:=aM (KeepBut.trans Q2 hk (.inl rfl));have n3_:=aM (hb);have n4_:=aM (hi);clear HO251;clear HK;clear HB;clear HI0;have HO251:=n0_;have HO255:=n1_;have HK:=n2_;have HB:=n3_;have HI0:=n4_;clear n0_ n1_ n2_ n3_ n4_;(try clear hb);(try clear hb2);(try clear hk);(try clear hi);(try clear ho0))|((with_reducible refine gate_callee (f:=40) rfl ?_);refine goesL_ (some 13) rfl rfl Try.func40 Q14 rfl #[.pointer (some ⟨g,0,none⟩),.int .i64 4] rfl Q1 ?_;(with_reducible refine (spec_l6Rd_pick.calls k g s0_0 t256 4 t257 t258 w0 _ ?side1 ?side2 A4.out).mono ?_);(case side1 => exact Q0);(case side2 => exact Q4);rintro e w52 ⟨rfl,hi,hb,hk⟩;refine ⟨_,rfl,?_⟩;have n0_:=aM (Kd.R_mono (Kd.R_keep (IsS76.apart (show IsS76 w0 _ g s0_0 t256 from Q0) (qR HO251) Q36) hk (fun _ h => h.2)) (fun _ h => h.1));have n1_:=aM (Kd.R_mono (Kd.R_keep (IsS76.apart (show IsS76 w0 _ g s0_0 t256 from Q0) (qR HO255) Q36) hk (fun _ h => h.2)) (fun _ h => h.1));have n2_:=aM (KeepBut.trans Q2 hk (.inl rfl));have n3_:=aM (hb);have n4_:=aM (hi);clear HO251;clear HO255;clear HK;clear HB;clear HI0;have HO251:=n0_;have HO255:=n1_;have HK:=n2_;have HB:=n3_;have HI0:=n4_;clear n0_ n1_ n2_ n3_ n4_;(try clear hb);(try clear hb2);(try clear hk);(try clear hi))|((with_reducible refine gate_callee (f:=40) rfl ?_);refine goesL_ (some 52) rfl rfl Try.func40 Q14 rfl #[.pointer (some ⟨g,0,none⟩),.int .i64 2] rfl Q1 ?_;(with_reducible refine (spec_l6Rd_pick.calls k g s0_0 t258 2 t294 t295 w0 _ ?side1 ?side2 A44.out).mono ?_);(case side1 => exact Q0);(case side2 => exact Q4);rintro e w53 ⟨rfl,hi,hb,hk⟩;refine ⟨_,rfl,?_⟩;have n0_:=aM (Kd.R_mono (Kd.R_keep (IsS76.apart (show IsS76 w0 _ g s0_0 t258 from Q0) (qR HO251) Q36) hk (fun _ h => h.2)) (fun _ h => h.1));have n1_:=aM (Kd.R_mono (Kd.R_keep (IsS76.apart (show IsS76 w0 _ g s0_0 t258 from Q0) (qR HO255) Q36) hk (fun _ h => h.2)) (fun _ h => h.1));have n2_:=aM (KeepBut.trans Q2 hk (.inl rfl));have n3_:=aM (hb);have n4_:=aM (hi);clear HO251;clear HO255;clear HK;clear HB;clear HI0;have HO251:=n0_;have HO255:=n1_;have HK:=n2_;have HB:=n3_;have HI0:=n4_;clear n0_ n1_ n2_ n3_ n4_;(try clear hb);(try clear hb2);(try clear hk);(try clear hi)))
   go_ret2
   exact ⟨_,_,Q6,Q100,Q153,Q0,Q4,Q2⟩

end Go.Proofs.Ytlcfalecbpnhbaa.P
