/- The printed functions: what each Go function computes, as a Lean function, and that the Go code comes to just that. Conditions: none beyond each contract's own. -/
import Derived.Test.YtlcfalecbpnhbaaPx0
import Derived.Test.YtlcfalecbpnhbaaPx2
import Derived.Test.YtlcfalecbpnhbaaPx3
import Derived.Test.YtlcfalecbpnhbaaPx8
namespace Go.Proofs.Ytlcfalecbpnhbaa.P
open Go.RowKit Go.Proofs.YtlcfalecbpnhbaaW.PrintWords Go.Proofs.YtlcfalecbpnhbaaW.PrintLast Go.Proofs.YtlcfalecbpnhbaaW.PrintMore
attribute [local go_sem] max2_int min2_int max_two min_two max_three min_three max_four min_four   -- for this text's walks alone
set_option linter.unusedVariables false
set_option linter.unusedSimpArgs false

/-! ### spec_l3Vote: function 58 -/
def spec_l3Vote.f (k : Nat) (a0_0 : Int) (l0_1 : List (S40)) : Option (Bool):=(spec_l6In.f a0_0 1 4).bind fun t344 => (if t344 = true then ((spec_ChainOk.f k l0_1).bind fun t345 => (if t345 = true then (some (decide ((l0_1.length : Int) > 0))) else (some false))) else (some false))
theorem spec_l3Vote.mono : ∀ a0 a1 k,LeO (spec_l3Vote.f k a0 a1) (spec_l3Vote.f (k + 1) a0 a1):=by
 intro a0 a1 k
 unfold spec_l3Vote.f
 repeat' first
   | exact LeO.refl _
   | exact spec_ChainOk.mono _ _
   | exact LeO.none _
   | refine LeO.ite ?_ ?_
   | refine LeO.bind ?_ (fun _ => ?_)
set_option maxHeartbeats 8000000 in
set_option maxRecDepth 100000 in
theorem spec_l3Vote.calls (k : Nat) (a0_0 : Int) (A0_1 : Option Addr) (c0_1 : Nat) (l0_1 : List (S40)) (r : Bool) (w : World) (hr0_1 : Kd.C k40 w A0_1 l0_1.length l0_1) (hc0_1 : l0_1.length ≤ c0_1) (h : spec_l3Vote.f k a0_0 l0_1 = some r) :
  Calls Try.prog 58 #[.agg #[.int .i64 a0_0,.slice A0_1 l0_1.length c0_1]] w fun e w' => e = .returned (.bool r) ∧ Below w.heap.size w w':=by
 have hu82:=Try.underlying82
 have HR0_1:=aM hr0_1
 have HC0_1:=aM hc0_1
 clear hr0_1 hc0_1
 have HB:=aM (Below.refl w.heap.size w)
 have H : ((spec_l6In.f a0_0 1 4).bind fun t344 => (if t344 = true then ((spec_ChainOk.f k l0_1).bind fun t345 => (if t345 = true then (some (decide ((l0_1.length : Int) > 0))) else (some false))) else (some false))) = some r:=h
 clear h
 replace H:=Option.bind_eq_some_iff.mp H
 obtain ⟨t344,A20,H⟩:=H
 replace H : (if t344 = true then ((spec_ChainOk.f k l0_1).bind fun t345 => (if t345 = true then (some (decide ((l0_1.length : Int) > 0))) else (some false))) else (some false)) = some r:=H
 have A2:=aM A20
 clear A20
 by_cases c3 : t344 = true
 ·subst c3
  have H1 : ((spec_ChainOk.f k l0_1).bind fun t345 => (if t345 = true then (some (decide ((l0_1.length : Int) > 0))) else (some false))) = some r:=by rw [if_pos rfl] at H;exact H
  clear H
  have H:=H1
  clear H1
  replace H:=Option.bind_eq_some_iff.mp H
  obtain ⟨t345,A40,H⟩:=H
  replace H : (if t345 = true then (some (decide ((l0_1.length : Int) > 0))) else (some false)) = some r:=H
  have A4:=aM A40
  clear A40
  by_cases c5 : t345 = true
  ·subst c5
   have H1 : (some (decide ((l0_1.length : Int) > 0))) = some r:=by rw [if_pos rfl] at H;exact H
   clear H
   have H:=H1
   clear H1
   obtain rfl:=Option.some.inj H
   go_enter Try.func58,Try.ntmps58
   go_wp2_with (first|((with_reducible refine gate_dst (N:=1) rfl ?_);(try (refine gate_guard Q70 ?_;dsimp only));refine box_event ?hg (N:=1) ?hd (cs:=#[.int .i64 a0_0,.slice A0_1 l0_1.length c0_1]) (t:=82) ?hr ?_;(case hd => rfl);(case hg => rfl);(case hr => exact Q16);intro gb343 hg w6 hbox hb;have n0_:=aM (below_step Q3 hb);have n1_:=aM (hbox);have n2_:=aM ((Q37 : w.heap.size ≤ gb343));have n3_:=aM ((Q37 : w.heap.size ≤ gb343));clear HB;have HB:=n0_;have BK343:=n1_;have GW343:=n2_;have GE343:=n3_;clear n0_ n1_ n2_ n3_;clear hb hbox hg;have hcz7_0 : w6.cell? ⟨gb343,0,none⟩ = some (.int .i64 a0_0):=(blk_cell BK343.out 0).trans rfl;have hcz7_1 : w6.cell? ⟨gb343,1,none⟩ = some (.slice A0_1 l0_1.length c0_1):=(blk_cell BK343.out 1).trans rfl;have hfz7_0:=blk_frozen BK343.out 0;have hfz7_1:=blk_frozen BK343.out 1)|((with_reducible refine gate_callee (f:=28) rfl ?_);refine goesL_ (some 5) rfl rfl Try.func28 Q14 rfl #[.int .i64 a0_0,.int .i64 1,.int .i64 4] rfl Q1 ?_;(with_reducible refine (spec_l6In.calls a0_0 1 4 true _ A2.out).mono ?_);rintro e w' ⟨rfl,⟨nd,rfl⟩⟩;refine ⟨_,rfl,?_⟩)|(go_at_call 14;(with_reducible refine (spec_ChainOk.calls k _ _ l0_1 true _ ?side1 ?side2 A4.out).mono ?_);(case side1 => exact Q123);(case side2 => exact HC0_1.out);rintro e w8 ⟨rfl,hb⟩;have n0_:=aM (blk_below (g:=gb343) (o:=.cells #[.int .i64 a0_0,.slice A0_1 l0_1.length c0_1] 82 (0,0)) (qk BK343) hb);have n1_:=aM (below_step Q54 hb);clear BK343;clear HB;have BK343:=n0_;have HB:=n1_;clear n0_ n1_;(try clear hb);(try clear hb2);(try clear hk);(try clear hi);have hcz9_0 : w8.cell? ⟨gb343,0,none⟩ = some (.int .i64 a0_0):=(blk_cell BK343.out 0).trans rfl;have hcz9_1 : w8.cell? ⟨gb343,1,none⟩ = some (.slice A0_1 l0_1.length c0_1):=(blk_cell BK343.out 1).trans rfl;have hfz9_0:=blk_frozen BK343.out 0;have hfz9_1:=blk_frozen BK343.out 1))
   go_ret
   exact ⟨Q6,Q54⟩
  ·replace c5:=Bool.eq_false_iff.mpr c5
   subst c5
   have H1 : (some false) = some r:=by rw [if_neg (show ¬ (false = true) by decide)] at H;exact H
   clear H
   have H:=H1
   clear H1
   obtain rfl:=Option.some.inj H
   go_enter Try.func58,Try.ntmps58
   go_wp2_with (first|((with_reducible refine gate_dst (N:=1) rfl ?_);(try (refine gate_guard Q70 ?_;dsimp only));refine box_event ?hg (N:=1) ?hd (cs:=#[.int .i64 a0_0,.slice A0_1 l0_1.length c0_1]) (t:=82) ?hr ?_;(case hd => rfl);(case hg => rfl);(case hr => exact Q16);intro gb343 hg w10 hbox hb;have n0_:=aM (below_step Q3 hb);have n1_:=aM (hbox);have n2_:=aM ((Q37 : w.heap.size ≤ gb343));have n3_:=aM ((Q37 : w.heap.size ≤ gb343));clear HB;have HB:=n0_;have BK343:=n1_;have GW343:=n2_;have GE343:=n3_;clear n0_ n1_ n2_ n3_;clear hb hbox hg;have hcz11_0 : w10.cell? ⟨gb343,0,none⟩ = some (.int .i64 a0_0):=(blk_cell BK343.out 0).trans rfl;have hcz11_1 : w10.cell? ⟨gb343,1,none⟩ = some (.slice A0_1 l0_1.length c0_1):=(blk_cell BK343.out 1).trans rfl;have hfz11_0:=blk_frozen BK343.out 0;have hfz11_1:=blk_frozen BK343.out 1)|((with_reducible refine gate_callee (f:=28) rfl ?_);refine goesL_ (some 5) rfl rfl Try.func28 Q14 rfl #[.int .i64 a0_0,.int .i64 1,.int .i64 4] rfl Q1 ?_;(with_reducible refine (spec_l6In.calls a0_0 1 4 true _ A2.out).mono ?_);rintro e w' ⟨rfl,⟨nd,rfl⟩⟩;refine ⟨_,rfl,?_⟩)|(go_at_call 14;(with_reducible refine (spec_ChainOk.calls k _ _ l0_1 false _ ?side1 ?side2 A4.out).mono ?_);(case side1 => exact Q123);(case side2 => exact HC0_1.out);rintro e w12 ⟨rfl,hb⟩;have n0_:=aM (blk_below (g:=gb343) (o:=.cells #[.int .i64 a0_0,.slice A0_1 l0_1.length c0_1] 82 (0,0)) (qk BK343) hb);have n1_:=aM (below_step Q54 hb);clear BK343;clear HB;have BK343:=n0_;have HB:=n1_;clear n0_ n1_;(try clear hb);(try clear hb2);(try clear hk);(try clear hi)))
   go_ret
   exact ⟨Q6,Q54⟩
 ·replace c3:=Bool.eq_false_iff.mpr c3
  subst c3
  have H1 : (some false) = some r:=by rw [if_neg (show ¬ (false = true) by decide)] at H;exact H
  clear H
  have H:=H1
  clear H1
  obtain rfl:=Option.some.inj H
  go_enter Try.func58,Try.ntmps58
  go_wp2_with (first|((with_reducible refine gate_dst (N:=1) rfl ?_);(try (refine gate_guard Q70 ?_;dsimp only));refine box_event ?hg (N:=1) ?hd (cs:=#[.int .i64 a0_0,.slice A0_1 l0_1.length c0_1]) (t:=82) ?hr ?_;(case hd => rfl);(case hg => rfl);(case hr => exact Q16);intro gb343 hg w13 hbox hb;have n0_:=aM (below_step Q3 hb);have n1_:=aM (hbox);have n2_:=aM ((Q37 : w.heap.size ≤ gb343));have n3_:=aM ((Q37 : w.heap.size ≤ gb343));clear HB;have HB:=n0_;have BK343:=n1_;have GW343:=n2_;have GE343:=n3_;clear n0_ n1_ n2_ n3_;clear hb hbox hg;have hcz14_0 : w13.cell? ⟨gb343,0,none⟩ = some (.int .i64 a0_0):=(blk_cell BK343.out 0).trans rfl;have hcz14_1 : w13.cell? ⟨gb343,1,none⟩ = some (.slice A0_1 l0_1.length c0_1):=(blk_cell BK343.out 1).trans rfl;have hfz14_0:=blk_frozen BK343.out 0;have hfz14_1:=blk_frozen BK343.out 1)|((with_reducible refine gate_callee (f:=28) rfl ?_);refine goesL_ (some 5) rfl rfl Try.func28 Q14 rfl #[.int .i64 a0_0,.int .i64 1,.int .i64 4] rfl Q1 ?_;(with_reducible refine (spec_l6In.calls a0_0 1 4 false _ A2.out).mono ?_);rintro e w' ⟨rfl,⟨nd,rfl⟩⟩;refine ⟨_,rfl,?_⟩))
  go_ret
  exact ⟨Q6,Q54⟩

/-! ### spec_VotesOk: function 50 -/
def spec_VotesOk.l0 : Nat → List (S82) → Int → Option (Bool)
 | 0,_,_ => none
 | k + 1,x0,x3 => if x3 < (x0.length : Int) then (if 0 ≤ x3 then ((spec_l3Vote.f k ((rd_T82 x0 x3).f0) ((rd_T82 x0 x3).f1)).bind fun t347 => (if t347 = true then (if x3 ≤ (x0.length : Int) then ((spec_l3Has.f k (x0.take (x3 : Int).toNat) ((rd_T82 x0 x3).f0) ((rd_T82 x0 x3).f1)).bind fun t353 => (if t353 = true then (some false) else (spec_VotesOk.l0 k x0 (wrap64 (x3 + 1))))) else (none)) else (some false))) else (none)) else (some true)
def spec_VotesOk.f (k : Nat) (l0 : List (S82)) : Option (Bool):=spec_VotesOk.l0 k l0 0
theorem spec_VotesOk.mono_l : ∀ k,(∀ y0 y1,LeO (spec_VotesOk.l0 k y0 y1) (spec_VotesOk.l0 (k + 1) y0 y1))
 | 0 => fun _ _ r h => by simp [spec_VotesOk.l0] at h
 | k + 1 => by
  have ih0:=spec_VotesOk.mono_l k
  ·intro y0 y1
   unfold spec_VotesOk.l0
   repeat' first
   | exact LeO.refl _
   | exact ih0 _ _
   | exact spec_l3Has.mono _ _ _ _
   | exact spec_l3Vote.mono _ _ _
   | exact LeO.none _
   | refine LeO.ite ?_ ?_
   | refine LeO.bind ?_ (fun _ => ?_)
theorem spec_VotesOk.mono : ∀ a0 k,LeO (spec_VotesOk.f k a0) (spec_VotesOk.f (k + 1) a0):=by
 intro a0 k
 have ih0:=spec_VotesOk.mono_l k
 unfold spec_VotesOk.f
 repeat' first
   | exact LeO.refl _
   | exact ih0 _ _
   | exact spec_l3Has.mono _ _ _ _
   | exact spec_l3Vote.mono _ _ _
   | exact LeO.none _
   | refine LeO.ite ?_ ?_
   | refine LeO.bind ?_ (fun _ => ?_)
def spec_VotesOk.T4 : Bool × List (List Nat × List Nat):=(true,[([],[]),([],[]),([0,1],[0,1]),([2],[2]),([3],[3]),([4],[4]),([5,4],[5]),([6],[6]),([6],[6]),([7,8,6],[6,7,8]),([6],[6]),([6],[6]),([10,11,6],[6,10,11]),([12,6],[6,12]),([9,13,6,6],[6,9,13]),([6,14],[6,14])])
def spec_VotesOk.B4 : List Nat:=[0,0,3,7,15,31,63,127,127,511,127,127,3199,7295,16383,32767]
theorem spec_VotesOk.tab4 : rtab .any (opsOf Try.f50 4) = spec_VotesOk.T4:=by kernel_rfl
theorem spec_VotesOk.bits4 : waitsOk spec_VotesOk.T4.2 spec_VotesOk.B4 = true:=by kernel_rfl
set_option maxHeartbeats 8000000 in
set_option maxRecDepth 100000 in
theorem spec_VotesOk.calls (k : Nat) (A0 : Option Addr) (c0 : Nat) (l0 : List (S82)) (r : Bool) (w : World) (hr0 : Kd.C k82 w A0 l0.length l0) (hc0 : l0.length ≤ c0) (h : spec_VotesOk.f k l0 = some r) :
  Calls Try.prog 50 #[.slice A0 l0.length c0] w fun e w' => e = .returned (.bool r) ∧ Below w.heap.size w w':=by
 have hu82:=Try.underlying82
 have HR0:=aM hr0
 have HC0:=aM hc0
 clear hr0 hc0
 have HB:=aM (Below.refl w.heap.size w)
 have H : (spec_VotesOk.l0 k l0 0) = some r:=h
 clear h
 have H':=aM H
 clear H
 go_enter Try.func50,Try.ntmps50
 go_wp2
 go_loopg [3] k (fun kq v3 w' => ∃ (x3_1 : Int),v3 = .int .i64 x3_1 ∧ Aside0 (spec_VotesOk.l0 kq l0 x3_1 = some r) ∧ Aside0 (kq ≤ k) ∧ Aside0 (Below w.heap.size w w'))
 case atStart => exact ⟨(0),Q11,H',⟨Nat.le_refl _⟩,⟨Q3⟩⟩
 case round =>
  clear H'
  obtain ⟨x3_1,rfl,HA,HK1,HB⟩:=hrel
  cases gk with
  | zero => exact absurd HA.out (by simp [spec_VotesOk.l0])
  | succ k1 =>
   have H:=HA.out
   clear HA
   simp only [spec_VotesOk.l0] at H
   by_cases c2 : x3_1 < (l0.length : Int)
   ·rw [if_pos c2] at H
    have c2b0 : decide (x3_1 < (l0.length : Int)) = true:=decide_eq_true c2
    clear c2
    by_cases c3 : 0 ≤ x3_1
    case neg => rw [if_neg c3] at H;exact absurd H Q51
    rw [if_pos c3] at H
    have c3b0 : decide (0 ≤ x3_1) = true:=decide_eq_true c3
    clear c3
    replace H:=Option.bind_eq_some_iff.mp H
    obtain ⟨t347,A40,H⟩:=H
    replace H : (if t347 = true then (if x3_1 ≤ (l0.length : Int) then ((spec_l3Has.f k1 (l0.take (x3_1 : Int).toNat) ((rd_T82 l0 x3_1).f0) ((rd_T82 l0 x3_1).f1)).bind fun t353 => (if t353 = true then (some false) else (spec_VotesOk.l0 k1 l0 (wrap64 (x3_1 + 1))))) else (none)) else (some false)) = some r:=H
    have A4:=aM A40
    clear A40
    by_cases c5 : t347 = true
    ·subst c5
     have H1 : (if x3_1 ≤ (l0.length : Int) then ((spec_l3Has.f k1 (l0.take (x3_1 : Int).toNat) ((rd_T82 l0 x3_1).f0) ((rd_T82 l0 x3_1).f1)).bind fun t353 => (if t353 = true then (some false) else (spec_VotesOk.l0 k1 l0 (wrap64 (x3_1 + 1))))) else (none)) = some r:=by rw [if_pos rfl] at H;exact H
     clear H
     have H:=H1
     clear H1
     have c6b0:=eq_true (of_decide_eq_true Q5 : 0 ≤ x3_1)
     by_cases c7 : x3_1 ≤ (l0.length : Int)
     case neg => rw [if_neg c7] at H;exact absurd H Q51
     rw [if_pos c7] at H
     have c7b0:=eq_true c7
     have c7b1 : decide (x3_1 ≤ (l0.length : Int)) = true:=decide_eq_true c7
     clear c7
     obtain ⟨y348,hy348⟩ : ∃ y_ : List (S82),y_ = (l0.take (x3_1 : Int).toNat):=⟨_,rfl⟩
     replace H : ((spec_l3Has.f k1 y348 ((rd_T82 l0 x3_1).f0) ((rd_T82 l0 x3_1).f1)).bind fun t353 => (if t353 = true then (some false) else (spec_VotesOk.l0 k1 l0 (wrap64 (x3_1 + 1))))) = some r:=by first|(rw [hy348];with_reducible exact H)|(have H2_:=(Option.bind_some _ _).symm.trans H;rw [hy348];with_reducible exact H2_)|(have H2_:=(Option.bind_some _ _).symm.trans H;with_reducible exact H2_)|with_reducible exact H|(rw [hy348];exact H)|exact H
     have Ny348:=aM hy348
     clear hy348
     replace H:=Option.bind_eq_some_iff.mp H
     obtain ⟨t353,A80,H⟩:=H
     replace H : (if t353 = true then (some false) else (spec_VotesOk.l0 k1 l0 (wrap64 (x3_1 + 1)))) = some r:=H
     have A8:=aM A80
     clear A80
     by_cases c9 : t353 = true
     ·subst c9
      have H1 : (some false) = some r:=by rw [if_pos rfl] at H;exact H
      clear H
      have H:=H1
      clear H1
      obtain rfl:=Option.some.inj H
      try go_wp2
      have n0_:=aM (bD HB.out)
      clear HB
      have HB:=n0_
      clear n0_
      have p346 : 0 ≤ (x3_1 : Int):=of_decide_eq_true Q5
      have q346 : x3_1 < (l0.length : Int):=of_decide_eq_true Q5
      obtain ⟨ad346,A346_1,c346_1,e346,hx346_0,hx346_1,hl346_1,hi346_1⟩:=at_T82 HR0.out x3_1 p346 q346
      have hw346_1:=hx346_1
      have hw346_0:=hx346_0
      cases e346
      replace hx346_0:=(HB.out.cell (bL w hx346_0)).trans hx346_0
      replace hx346_1:=(HB.out.cell (bL w hx346_1)).trans hx346_1
      have HR346_1:=aM hi346_1
      have HC346_1:=aM hl346_1
      clear hi346_1 hl346_1
      replace p346:=eq_true p346
      replace q346:=eq_true q346
      have p352 : 0 ≤ (x3_1 : Int):=of_decide_eq_true Q5
      have q352 : x3_1 < (l0.length : Int):=of_decide_eq_true Q5
      obtain ⟨ad352,A352_1,c352_1,e352,hx352_0,hx352_1,hl352_1,hi352_1⟩:=at_T82 HR0.out x3_1 p352 q352
      have hw352_1:=hx352_1
      have hw352_0:=hx352_0
      obtain rfl : ad346 = ad352:=(by injection e352)
      replace hx352_0:=(HB.out.cell (bL w hx352_0)).trans hx352_0
      replace hx352_1:=(HB.out.cell (bL w hx352_1)).trans hx352_1
      have ea_:=Option.some.inj (hx346_1.symm.trans hx352_1)
      injection ea_ with ea_ en_ ec_
      subst ea_
      subst ec_
      clear en_
      have HR352_1:=aM hi352_1
      have HC352_1:=aM hl352_1
      clear hi352_1 hl352_1
      replace p352:=eq_true p352
      replace q352:=eq_true q352
      refine start_ (n:=16) (S:=fun w' => w'.cell? (ad346.add ((x3_1).toNat * 2)) = some (.int .i64 ((rd_T82 l0 x3_1).f0)) ∧ w'.cell? ⟨(ad346.add ((x3_1).toNat * 2)).block,(ad346.add ((x3_1).toNat * 2)).off + 1,none⟩ = some (.slice A346_1 ((rd_T82 l0 x3_1).f1).length c346_1) ∧ w'.cell? (ad346.add ((x3_1).toNat * 2)) = some (.int .i64 ((rd_T82 l0 x3_1).f0)) ∧ w'.cell? ⟨(ad346.add ((x3_1).toNat * 2)).block,(ad346.add ((x3_1).toNat * 2)).off + 1,none⟩ = some (.slice A346_1 ((rd_T82 l0 x3_1).f1).length c346_1)) (ds:=[]) #[bF,bF,bF,bF,bF,bF,bF,bF,bF,bF,bF,bF,bF,bF,bF,bF] Q14 rfl rfl ⟨((HB.out.cell (bL w hw346_0)).trans hw346_0),((HB.out.cell (bL w hw346_1)).trans hw346_1),((HB.out.cell (bL w hw352_0)).trans hw352_0),((HB.out.cell (bL w hw352_1)).trans hw352_1)⟩ (fun hHeld => ?_);refine with_tabW spec_VotesOk.tab4 spec_VotesOk.bits4 (fun HT_ HW_ => ?_)
      generalize wr.drew = w10 at HB HR346_1 HR352_1 hx346_0 hx346_1 hx352_0 hx352_1 hHeld ⊢
      refine pS HT_ 0 10 ?_
      refine pS HT_ 1 11 ?_
      refine pS HT_ 2 12 ?_
      refine take_ (i:=3) (N:=some 13) (v:=?_) (a':=?_) #[bT,bT,bT,bT,bF,bF,bF,bF,bF,bF,bF,bF,bF,bF,bF,bF] rfl rfl (take_ofW HT_.out HW_.out Q14) (fun _ _ _ h => h) (Or.inl ⟨Q70,?_⟩) hHeld ?_ ?_
      rotate_left
      ·rintro w' ⟨s0,s1,s2,s3⟩
       (try simp only [Int.toNat_natCast] at s0 s1 s2 s3)
       go_simp
       with_reducible rfl
      rotate_left
      ·simp only [Act.put,sI,sZ,sS,i64_w,i32_w]
       rfl
      refine one_ (i:=4) (N:=some 14) #[bT,bT,bT,bT,bT,bF,bF,bF,bF,bF,bF,bF,bF,bF,bF,bF] rfl rfl (one_of HT_.out Q14) Q36 (fun K hK => ?_)
      refine goes_ Try.func58 Q14 rfl #[.agg #[.int .i64 ((rd_T82 l0 x3_1).f0),.slice A346_1 ((rd_T82 l0 x3_1).f1).length c346_1]] Q70 rfl rfl Q1 ?_
      with_reducible refine (spec_l3Vote.calls k1 ((rd_T82 l0 x3_1).f0) _ _ ((rd_T82 l0 x3_1).f1) true _ ?side1 ?side2 A4.out).mono ?_
      (case side1 => exact Q85)
      (case side2 => exact HC346_1.out)
      rintro e w11 ⟨rfl,hb⟩
      refine ⟨_,rfl,?_⟩
      have n0_:=aM (below_step Q3 hb)
      clear HB
      have HB:=n0_
      clear n0_
      (try clear hb)
      (try clear hb2)
      (try clear hk)
      (try clear hi)
      have q12 : (x3_1 : Int) ≤ ((l0.length : Int) : Int):=of_decide_eq_true Q5
      obtain ⟨i012,hi012,_,hsz12,_⟩:=info_parts info82
      have hroom12 : l0.length ≤ c0:=HC0.out
      have hC12 : Kd.C k82 _ (some ad346) l0.length l0:=HR0.out
      have hcut12:=cut_to (P:=Try.prog) 53 82 .i64 Try.underlying53 hi012 (some ad346) l0.length c0 x3_1 (of_decide_eq_true Q5) q12 hroom12
      have hr12:=Kd.C_take (m:=(x3_1 : Int).toNat) hC12 Q17
      have hy12 : y348.length = (x3_1 : Int).toNat:=(by rw [Ny348.out,List.length_take];omega)
      rw [← Ny348.out] at hr12
      rw [← hy12] at hcut12
      have HR351:=aM hr12
      have HC351:=aM (show y348.length ≤ c0 from Q17)
      clear hr12 hC12 hroom12 hi012 hsz12
      have KY12:=aM hy12
      clear hy12
      replace q12:=eq_true q12
      refine hK.out _ _ ⟨((HB.out.cell (bL w hw346_0)).trans hw346_0),((HB.out.cell (bL w hw346_1)).trans hw346_1),((HB.out.cell (bL w hw352_0)).trans hw352_0),((HB.out.cell (bL w hw352_1)).trans hw352_1)⟩ (fun hHeld => ?_)
      clear hK K
      refine norm_ (a':=?_) ?_ ?_
      rotate_left
      ·show Act.put _ (some 14) _ = _
       simp only [Act.put,sI,sZ,sS,i64_w,i32_w]
       rfl
      refine pS HT_ 5 15 ?_
      refine pS HT_ 6 16 ?_
      refine pS HT_ 7 17 ?_
      refine pS HT_ 8 18 ?_
      refine pS HT_ 9 19 ?_
      refine pS HT_ 10 20 ?_
      refine pS HT_ 11 21 ?_
      refine pS HT_ 12 22 ?_
      refine take_ (i:=13) (N:=some 23) (v:=?_) (a':=?_) #[bT,bT,bT,bT,bT,bT,bT,bT,bT,bT,bT,bT,bT,bT,bF,bF] rfl rfl (take_ofW HT_.out HW_.out Q14) (fun _ _ _ h => h) (Or.inl ⟨Q70,?_⟩) hHeld ?_ ?_
      rotate_left
      ·rintro w' ⟨s0,s1,s2,s3⟩
       (try simp only [Int.toNat_natCast] at s0 s1 s2 s3)
       go_simp
       with_reducible rfl
      rotate_left
      ·simp only [Act.put,sI,sZ,sS,i64_w,i32_w]
       rfl
      refine one_ (i:=14) (N:=some 24) #[bT,bT,bT,bT,bT,bT,bT,bT,bT,bT,bT,bT,bT,bT,bT,bF] rfl rfl (one_of HT_.out Q14) Q36 (fun K hK => ?_)
      refine goes_ Try.func56 Q14 rfl #[.slice (some ad346) y348.length c0,.agg #[.int .i64 ((rd_T82 l0 x3_1).f0),.slice A346_1 ((rd_T82 l0 x3_1).f1).length c346_1]] Q70 rfl rfl Q1 ?_
      with_reducible refine (spec_l3Has.calls k1 _ _ y348 ((rd_T82 l0 x3_1).f0) _ _ ((rd_T82 l0 x3_1).f1) true _ ?side1 ?side2 ?side3 ?side4 A8.out).mono ?_
      (case side1 => exact Q122)
      (case side2 => exact HC351.out)
      (case side3 => exact Q121)
      (case side4 => exact HC352_1.out)
      rintro e w13 ⟨rfl,hb⟩
      refine ⟨_,rfl,?_⟩
      have n0_:=aM (below_step Q3 hb)
      clear HB
      have HB:=n0_
      clear n0_
      (try clear hb)
      (try clear hb2)
      (try clear hk)
      (try clear hi)
      refine hK.out _ _ ⟨((HB.out.cell (bL w hw346_0)).trans hw346_0),((HB.out.cell (bL w hw346_1)).trans hw346_1),((HB.out.cell (bL w hw352_0)).trans hw352_0),((HB.out.cell (bL w hw352_1)).trans hw352_1)⟩ (fun hHeld => ?_)
      clear hK K
      refine norm_ (a':=?_) ?_ ?_
      rotate_left
      ·show Act.put _ (some 24) _ = _
       simp only [Act.put,sI,sZ,sS,i64_w,i32_w]
       rfl
      refine pS HT_ 15 25 ?_
      refine done_ (done_of HT_.out Q14) ?_
      try go_wp2
      go_ret
      exact ⟨Q6,Q3⟩
     ·replace c9:=Bool.eq_false_iff.mpr c9
      subst c9
      have H1 : (spec_VotesOk.l0 k1 l0 (wrap64 (x3_1 + 1))) = some r:=by rw [if_neg (show ¬ (false = true) by decide)] at H;exact H
      clear H
      have H:=H1
      clear H1
      have H':=aM H
      clear H
      try go_wp2
      have n0_:=aM (bD HB.out)
      clear HB
      have HB:=n0_
      clear n0_
      have p346 : 0 ≤ (x3_1 : Int):=of_decide_eq_true Q5
      have q346 : x3_1 < (l0.length : Int):=of_decide_eq_true Q5
      obtain ⟨ad346,A346_1,c346_1,e346,hx346_0,hx346_1,hl346_1,hi346_1⟩:=at_T82 HR0.out x3_1 p346 q346
      have hw346_1:=hx346_1
      have hw346_0:=hx346_0
      cases e346
      replace hx346_0:=(HB.out.cell (bL w hx346_0)).trans hx346_0
      replace hx346_1:=(HB.out.cell (bL w hx346_1)).trans hx346_1
      have HR346_1:=aM hi346_1
      have HC346_1:=aM hl346_1
      clear hi346_1 hl346_1
      replace p346:=eq_true p346
      replace q346:=eq_true q346
      have p352 : 0 ≤ (x3_1 : Int):=of_decide_eq_true Q5
      have q352 : x3_1 < (l0.length : Int):=of_decide_eq_true Q5
      obtain ⟨ad352,A352_1,c352_1,e352,hx352_0,hx352_1,hl352_1,hi352_1⟩:=at_T82 HR0.out x3_1 p352 q352
      have hw352_1:=hx352_1
      have hw352_0:=hx352_0
      obtain rfl : ad346 = ad352:=(by injection e352)
      replace hx352_0:=(HB.out.cell (bL w hx352_0)).trans hx352_0
      replace hx352_1:=(HB.out.cell (bL w hx352_1)).trans hx352_1
      have ea_:=Option.some.inj (hx346_1.symm.trans hx352_1)
      injection ea_ with ea_ en_ ec_
      subst ea_
      subst ec_
      clear en_
      have HR352_1:=aM hi352_1
      have HC352_1:=aM hl352_1
      clear hi352_1 hl352_1
      replace p352:=eq_true p352
      replace q352:=eq_true q352
      refine start_ (n:=16) (S:=fun w' => w'.cell? (ad346.add ((x3_1).toNat * 2)) = some (.int .i64 ((rd_T82 l0 x3_1).f0)) ∧ w'.cell? ⟨(ad346.add ((x3_1).toNat * 2)).block,(ad346.add ((x3_1).toNat * 2)).off + 1,none⟩ = some (.slice A346_1 ((rd_T82 l0 x3_1).f1).length c346_1) ∧ w'.cell? (ad346.add ((x3_1).toNat * 2)) = some (.int .i64 ((rd_T82 l0 x3_1).f0)) ∧ w'.cell? ⟨(ad346.add ((x3_1).toNat * 2)).block,(ad346.add ((x3_1).toNat * 2)).off + 1,none⟩ = some (.slice A346_1 ((rd_T82 l0 x3_1).f1).length c346_1)) (ds:=[]) #[bF,bF,bF,bF,bF,bF,bF,bF,bF,bF,bF,bF,bF,bF,bF,bF] Q14 rfl rfl ⟨((HB.out.cell (bL w hw346_0)).trans hw346_0),((HB.out.cell (bL w hw346_1)).trans hw346_1),((HB.out.cell (bL w hw352_0)).trans hw352_0),((HB.out.cell (bL w hw352_1)).trans hw352_1)⟩ (fun hHeld => ?_);refine with_tabW spec_VotesOk.tab4 spec_VotesOk.bits4 (fun HT_ HW_ => ?_)
      generalize wr.drew = w14 at HB HR346_1 HR352_1 hx346_0 hx346_1 hx352_0 hx352_1 hHeld ⊢
      refine pS HT_ 0 10 ?_
      refine pS HT_ 1 11 ?_
      refine pS HT_ 2 12 ?_
      refine take_ (i:=3) (N:=some 13) (v:=?_) (a':=?_) #[bT,bT,bT,bT,bF,bF,bF,bF,bF,bF,bF,bF,bF,bF,bF,bF] rfl rfl (take_ofW HT_.out HW_.out Q14) (fun _ _ _ h => h) (Or.inl ⟨Q70,?_⟩) hHeld ?_ ?_
      rotate_left
      ·rintro w' ⟨s0,s1,s2,s3⟩
       (try simp only [Int.toNat_natCast] at s0 s1 s2 s3)
       go_simp
       with_reducible rfl
      rotate_left
      ·simp only [Act.put,sI,sZ,sS,i64_w,i32_w]
       rfl
      refine one_ (i:=4) (N:=some 14) #[bT,bT,bT,bT,bT,bF,bF,bF,bF,bF,bF,bF,bF,bF,bF,bF] rfl rfl (one_of HT_.out Q14) Q36 (fun K hK => ?_)
      refine goes_ Try.func58 Q14 rfl #[.agg #[.int .i64 ((rd_T82 l0 x3_1).f0),.slice A346_1 ((rd_T82 l0 x3_1).f1).length c346_1]] Q70 rfl rfl Q1 ?_
      with_reducible refine (spec_l3Vote.calls k1 ((rd_T82 l0 x3_1).f0) _ _ ((rd_T82 l0 x3_1).f1) true _ ?side1 ?side2 A4.out).mono ?_
      (case side1 => exact Q85)
      (case side2 => exact HC346_1.out)
      rintro e w15 ⟨rfl,hb⟩
      refine ⟨_,rfl,?_⟩
      have n0_:=aM (below_step Q3 hb)
      clear HB
      have HB:=n0_
      clear n0_
      (try clear hb)
      (try clear hb2)
      (try clear hk)
      (try clear hi)
      have q16 : (x3_1 : Int) ≤ ((l0.length : Int) : Int):=of_decide_eq_true Q5
      obtain ⟨i016,hi016,_,hsz16,_⟩:=info_parts info82
      have hroom16 : l0.length ≤ c0:=HC0.out
      have hC16 : Kd.C k82 _ (some ad346) l0.length l0:=HR0.out
      have hcut16:=cut_to (P:=Try.prog) 53 82 .i64 Try.underlying53 hi016 (some ad346) l0.length c0 x3_1 (of_decide_eq_true Q5) q16 hroom16
      have hr16:=Kd.C_take (m:=(x3_1 : Int).toNat) hC16 Q17
      have hy16 : y348.length = (x3_1 : Int).toNat:=(by rw [Ny348.out,List.length_take];omega)
      rw [← Ny348.out] at hr16
      rw [← hy16] at hcut16
      have HR351:=aM hr16
      have HC351:=aM (show y348.length ≤ c0 from Q17)
      clear hr16 hC16 hroom16 hi016 hsz16
      have KY16:=aM hy16
      clear hy16
      replace q16:=eq_true q16
      refine hK.out _ _ ⟨((HB.out.cell (bL w hw346_0)).trans hw346_0),((HB.out.cell (bL w hw346_1)).trans hw346_1),((HB.out.cell (bL w hw352_0)).trans hw352_0),((HB.out.cell (bL w hw352_1)).trans hw352_1)⟩ (fun hHeld => ?_)
      clear hK K
      refine norm_ (a':=?_) ?_ ?_
      rotate_left
      ·show Act.put _ (some 14) _ = _
       simp only [Act.put,sI,sZ,sS,i64_w,i32_w]
       rfl
      refine pS HT_ 5 15 ?_
      refine pS HT_ 6 16 ?_
      refine pS HT_ 7 17 ?_
      refine pS HT_ 8 18 ?_
      refine pS HT_ 9 19 ?_
      refine pS HT_ 10 20 ?_
      refine pS HT_ 11 21 ?_
      refine pS HT_ 12 22 ?_
      refine take_ (i:=13) (N:=some 23) (v:=?_) (a':=?_) #[bT,bT,bT,bT,bT,bT,bT,bT,bT,bT,bT,bT,bT,bT,bF,bF] rfl rfl (take_ofW HT_.out HW_.out Q14) (fun _ _ _ h => h) (Or.inl ⟨Q70,?_⟩) hHeld ?_ ?_
      rotate_left
      ·rintro w' ⟨s0,s1,s2,s3⟩
       (try simp only [Int.toNat_natCast] at s0 s1 s2 s3)
       go_simp
       with_reducible rfl
      rotate_left
      ·simp only [Act.put,sI,sZ,sS,i64_w,i32_w]
       rfl
      refine one_ (i:=14) (N:=some 24) #[bT,bT,bT,bT,bT,bT,bT,bT,bT,bT,bT,bT,bT,bT,bT,bF] rfl rfl (one_of HT_.out Q14) Q36 (fun K hK => ?_)
      refine goes_ Try.func56 Q14 rfl #[.slice (some ad346) y348.length c0,.agg #[.int .i64 ((rd_T82 l0 x3_1).f0),.slice A346_1 ((rd_T82 l0 x3_1).f1).length c346_1]] Q70 rfl rfl Q1 ?_
      with_reducible refine (spec_l3Has.calls k1 _ _ y348 ((rd_T82 l0 x3_1).f0) _ _ ((rd_T82 l0 x3_1).f1) false _ ?side1 ?side2 ?side3 ?side4 A8.out).mono ?_
      (case side1 => exact Q122)
      (case side2 => exact HC351.out)
      (case side3 => exact Q121)
      (case side4 => exact HC352_1.out)
      rintro e w17 ⟨rfl,hb⟩
      refine ⟨_,rfl,?_⟩
      have n0_:=aM (below_step Q3 hb)
      clear HB
      have HB:=n0_
      clear n0_
      (try clear hb)
      (try clear hb2)
      (try clear hk)
      (try clear hi)
      refine hK.out _ _ ⟨((HB.out.cell (bL w hw346_0)).trans hw346_0),((HB.out.cell (bL w hw346_1)).trans hw346_1),((HB.out.cell (bL w hw352_0)).trans hw352_0),((HB.out.cell (bL w hw352_1)).trans hw352_1)⟩ (fun hHeld => ?_)
      clear hK K
      refine norm_ (a':=?_) ?_ ?_
      rotate_left
      ·show Act.put _ (some 24) _ = _
       simp only [Act.put,sI,sZ,sS,i64_w,i32_w]
       rfl
      refine pS HT_ 15 25 ?_
      refine done_ (done_of HT_.out Q14) ?_
      try go_wp2
      go_roundg k1
      case measure => have:=HK1.out;omega
      case rel => exact ⟨(wrap64 (x3_1 + 1)),Q11,H',⟨Q60⟩,⟨Q3⟩⟩
    ·replace c5:=Bool.eq_false_iff.mpr c5
     subst c5
     have H1 : (some false) = some r:=by rw [if_neg (show ¬ (false = true) by decide)] at H;exact H
     clear H
     have H:=H1
     clear H1
     obtain rfl:=Option.some.inj H
     try go_wp2
     have n0_:=aM (bD HB.out)
     clear HB
     have HB:=n0_
     clear n0_
     have p346 : 0 ≤ (x3_1 : Int):=of_decide_eq_true Q5
     have q346 : x3_1 < (l0.length : Int):=of_decide_eq_true Q5
     obtain ⟨ad346,A346_1,c346_1,e346,hx346_0,hx346_1,hl346_1,hi346_1⟩:=at_T82 HR0.out x3_1 p346 q346
     have hw346_1:=hx346_1
     have hw346_0:=hx346_0
     cases e346
     replace hx346_0:=(HB.out.cell (bL w hx346_0)).trans hx346_0
     replace hx346_1:=(HB.out.cell (bL w hx346_1)).trans hx346_1
     have HR346_1:=aM hi346_1
     have HC346_1:=aM hl346_1
     clear hi346_1 hl346_1
     replace p346:=eq_true p346
     replace q346:=eq_true q346
     refine start_ (n:=16) (S:=fun w' => w'.cell? (ad346.add ((x3_1).toNat * 2)) = some (.int .i64 ((rd_T82 l0 x3_1).f0)) ∧ w'.cell? ⟨(ad346.add ((x3_1).toNat * 2)).block,(ad346.add ((x3_1).toNat * 2)).off + 1,none⟩ = some (.slice A346_1 ((rd_T82 l0 x3_1).f1).length c346_1)) (ds:=[]) #[bF,bF,bF,bF,bF,bF,bF,bF,bF,bF,bF,bF,bF,bF,bF,bF] Q14 rfl rfl ⟨((HB.out.cell (bL w hw346_0)).trans hw346_0),((HB.out.cell (bL w hw346_1)).trans hw346_1)⟩ (fun hHeld => ?_);refine with_tabW spec_VotesOk.tab4 spec_VotesOk.bits4 (fun HT_ HW_ => ?_)
     generalize wr.drew = w18 at HB HR346_1 hx346_0 hx346_1 hHeld ⊢
     refine pS HT_ 0 10 ?_
     refine pS HT_ 1 11 ?_
     refine pS HT_ 2 12 ?_
     refine take_ (i:=3) (N:=some 13) (v:=?_) (a':=?_) #[bT,bT,bT,bT,bF,bF,bF,bF,bF,bF,bF,bF,bF,bF,bF,bF] rfl rfl (take_ofW HT_.out HW_.out Q14) (fun _ _ _ h => h) (Or.inl ⟨Q70,?_⟩) hHeld ?_ ?_
     rotate_left
     ·rintro w' ⟨s0,s1⟩
      (try simp only [Int.toNat_natCast] at s0 s1)
      go_simp
      with_reducible rfl
     rotate_left
     ·simp only [Act.put,sI,sZ,sS,i64_w,i32_w]
      rfl
     refine one_ (i:=4) (N:=some 14) #[bT,bT,bT,bT,bT,bF,bF,bF,bF,bF,bF,bF,bF,bF,bF,bF] rfl rfl (one_of HT_.out Q14) Q36 (fun K hK => ?_)
     refine goes_ Try.func58 Q14 rfl #[.agg #[.int .i64 ((rd_T82 l0 x3_1).f0),.slice A346_1 ((rd_T82 l0 x3_1).f1).length c346_1]] Q70 rfl rfl Q1 ?_
     with_reducible refine (spec_l3Vote.calls k1 ((rd_T82 l0 x3_1).f0) _ _ ((rd_T82 l0 x3_1).f1) false _ ?side1 ?side2 A4.out).mono ?_
     (case side1 => exact Q85)
     (case side2 => exact HC346_1.out)
     rintro e w19 ⟨rfl,hb⟩
     refine ⟨_,rfl,?_⟩
     have n0_:=aM (below_step Q3 hb)
     clear HB
     have HB:=n0_
     clear n0_
     (try clear hb)
     (try clear hb2)
     (try clear hk)
     (try clear hi)
     refine hK.out _ _ ⟨((HB.out.cell (bL w hw346_0)).trans hw346_0),((HB.out.cell (bL w hw346_1)).trans hw346_1)⟩ (fun hHeld => ?_)
     clear hK K
     refine norm_ (a':=?_) ?_ ?_
     rotate_left
     ·show Act.put _ (some 14) _ = _
      simp only [Act.put,sI,sZ,sS,i64_w,i32_w]
      rfl
     refine pS HT_ 5 15 ?_
     refine pS HT_ 6 16 ?_
     refine pU HT_ 7 17 ?_
     refine pU HT_ 8 18 ?_
     refine pU HT_ 9 19 ?_
     refine pU HT_ 10 20 ?_
     refine pU HT_ 11 21 ?_
     refine pU HT_ 12 22 ?_
     refine pU HT_ 13 23 ?_
     refine pU HT_ 14 24 ?_
     refine pS HT_ 15 25 ?_
     refine done_ (done_of HT_.out Q14) ?_
     try go_wp2
     go_ret
     exact ⟨Q6,Q3⟩
   ·rw [if_neg c2] at H
    have c2b0 : decide (x3_1 < (l0.length : Int)) = false:=decide_eq_false c2
    clear c2
    obtain rfl:=Option.some.inj H
    go_wp2
    go_ret
    exact ⟨Q6,Q3⟩

end Go.Proofs.Ytlcfalecbpnhbaa.P
