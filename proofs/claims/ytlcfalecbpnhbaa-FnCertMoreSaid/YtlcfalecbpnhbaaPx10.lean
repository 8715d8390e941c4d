/- The printed functions: what each Go function computes, as a Lean function, and that the Go code comes to just that. Conditions: none beyond each contract's own. -/
import Derived.Test.YtlcfalecbpnhbaaPx0
import Derived.Test.YtlcfalecbpnhbaaPx3
import Derived.Test.YtlcfalecbpnhbaaPx8
import Derived.Test.YtlcfalecbpnhbaaPx9
namespace Go.Proofs.Ytlcfalecbpnhbaa.P
open Go.RowKit Go.Proofs.YtlcfalecbpnhbaaW.PrintWords Go.Proofs.YtlcfalecbpnhbaaW.PrintLast Go.Proofs.YtlcfalecbpnhbaaW.PrintMore
attribute [local go_sem] max2_int min2_int max_two min_two max_three min_three max_four min_four   -- for this text's walks alone
set_option linter.unusedVariables false
set_option linter.unusedSimpArgs false

/-! ### spec_l71Votes: function 38 -/
theorem k82_raise {w : World} {b b' : Nat} {ok : Nat → Prop} {x : S82} {cs : List Value} (hb : ∀ k,ok k → b' ≤ k) (h : k82.M w b ok x cs) : k82.M w b' ok x cs:=by
 obtain ⟨v1,rfl,g1⟩:=k82_openM h
 exact k82_mkM _ _ _ _ (Kd.R_raise (b:=b) (b':=b') (fun _ _ _ _ h => h) g1 (fun k e => hb k (g1.1 k e)))
mutual
def spec_l71Votes.l0 : Nat → List (S82) → List (S40) → Int → List Int → Int → Option ((List (S82)) × Int)
 | 0,_,_,_,_,_ => none
 | k + 1,x3,x4,x5,x1000,x1001 => if x5 > 0 then (spec_l71Votes.l1 k x3 x4 x5 1 x1000 x1001) else (some (x3,x1001))
def spec_l71Votes.l1 : Nat → List (S82) → List (S40) → Int → Int → List Int → Int → Option ((List (S82)) × Int)
 | 0,_,_,_,_,_,_ => none
 | k + 1,x3,x4,x5,x6,x1000,x1001 => if x6 ≤ (x4.length : Int) then (spec_l71Votes.l2 k x3 x4 x5 x6 1 x1000 x1001) else ((spec_l71Two.f k x1000 x1001).bind fun bt315 => (if (x4.length : Int) > 0 then ((spec_l6Rd_pick.f k x1000 bt315.2.2 2).bind fun bt322 => (spec_l71Votes.j3 k x3 x4 x5 bt315.2.1 (bt322.1 == 0) x1000 bt322.2)) else (spec_l71Votes.j3 k x3 x4 x5 bt315.2.1 false x1000 bt315.2.2)))
def spec_l71Votes.l2 : Nat → List (S82) → List (S40) → Int → Int → Int → List Int → Int → Option ((List (S82)) × Int)
 | 0,_,_,_,_,_,_,_ => none
 | k + 1,x3,x4,x5,x6,x7,x1000,x1001 => if x7 ≤ 4 then ((spec_l6Rd_pick.f k x1000 x1001 9).bind fun bt305 => (if bt305.1 > 0 then (if 0 ≤ x6 then (if x6 ≤ (x4.length : Int) then ((spec_l3Add.f k x3 x7 (x4.take (x6 : Int).toNat)).bind fun bt311 => (spec_l71Votes.l2 k bt311.1 x4 x5 x6 (wrap64 (x7 + 1)) x1000 bt305.2)) else (none)) else (none)) else (spec_l71Votes.l2 k x3 x4 x5 x6 (wrap64 (x7 + 1)) x1000 bt305.2))) else (spec_l71Votes.l1 k x3 x4 x5 (wrap64 (x6 + 1)) x1000 x1001)
def spec_l71Votes.j3 : Nat → List (S82) → List (S40) → Int → List (S40) → Bool → List Int → Int → Option ((List (S82)) × Int)
 | 0,_,_,_,_,_,_,_ => none
 | k + 1,x3,x4,x5,x9,x55,x1000,x1001 => if x55 = true then ((spec_l6Rd_pick.f k x1000 x1001 (x4.length : Int)).bind fun bt324 => (if 0 ≤ bt324.1 then (if bt324.1 ≤ (x4.length : Int) then ((spec_l1Copy.f (x4.take (bt324.1 : Int).toNat)).bind fun t330 => (if 0 ≤ (wrap64 ((x4.length : Int) - 1)) then (if (wrap64 ((x4.length : Int) - 1)) < (x4.length : Int) then ((spec_l71Pay.f k x1000 bt324.2).bind fun bt334 => (if t330.length < 4398046511104 then ((some (t330 ++ [(⟨wrap64 (((rd_T40 x4 (wrap64 ((x4.length : Int) - 1))).f0) + 1),(⟨bt334.1,bt334.2.1,bt334.2.2.1⟩ : S38)⟩ : S40)] : List (S40))).bind fun y338 => ((spec_ChainOk.f k y338).bind fun t341 => (if t341 = true then (spec_l71Votes.l0 k x3 y338 (wrap64 (x5 - 1)) x1000 bt334.2.2.2) else (spec_l71Votes.l0 k x3 x4 (wrap64 (x5 - 1)) x1000 bt334.2.2.2)))) else (none))) else (none)) else (none))) else (none)) else (none))) else ((spec_ChainOk.f k x9).bind fun t342 => (if t342 = true then (spec_l71Votes.l0 k x3 x9 (wrap64 (x5 - 1)) x1000 x1001) else (spec_l71Votes.l0 k x3 x4 (wrap64 (x5 - 1)) x1000 x1001)))
end
def spec_l71Votes.f (k : Nat) (s0_0 : List Int) (s0_1 : Int) : Option ((List (S82)) × Int):=(spec_l71Chain.f k s0_0 s0_1).bind fun bt299 => ((spec_l6Rd_pick.f k s0_0 bt299.2 3).bind fun bt303 => (spec_l71Votes.l0 k (([] : List (S82))) bt299.1 (wrap64 (1 + bt303.1)) s0_0 bt303.2))
theorem spec_l71Votes.mono_l : ∀ k,(∀ y0 y1 y2 y3 y4,LeO (spec_l71Votes.l0 k y0 y1 y2 y3 y4) (spec_l71Votes.l0 (k + 1) y0 y1 y2 y3 y4)) ∧ (∀ y0 y1 y2 y3 y4 y5,LeO (spec_l71Votes.l1 k y0 y1 y2 y3 y4 y5) (spec_l71Votes.l1 (k + 1) y0 y1 y2 y3 y4 y5)) ∧ (∀ y0 y1 y2 y3 y4 y5 y6,LeO (spec_l71Votes.l2 k y0 y1 y2 y3 y4 y5 y6) (spec_l71Votes.l2 (k + 1) y0 y1 y2 y3 y4 y5 y6)) ∧ (∀ y0 y1 y2 y3 y4 y5 y6,LeO (spec_l71Votes.j3 k y0 y1 y2 y3 y4 y5 y6) (spec_l71Votes.j3 (k + 1) y0 y1 y2 y3 y4 y5 y6))
 | 0 => ⟨fun _ _ _ _ _ r h => by simp [spec_l71Votes.l0] at h,fun _ _ _ _ _ _ r h => by simp [spec_l71Votes.l1] at h,fun _ _ _ _ _ _ _ r h => by simp [spec_l71Votes.l2] at h,fun _ _ _ _ _ _ _ r h => by simp [spec_l71Votes.j3] at h⟩
 | k + 1 => by
  obtain ⟨ih0,ih1,ih2,ih3⟩:=spec_l71Votes.mono_l k
  refine ⟨?_,?_,?_,?_⟩
  ·intro y0 y1 y2 y3 y4
   unfold spec_l71Votes.l0
   repeat' first
   | exact LeO.refl _
   | exact ih0 _ _ _ _ _
   | exact ih1 _ _ _ _ _ _
   | exact ih2 _ _ _ _ _ _ _
   | exact ih3 _ _ _ _ _ _ _
   | exact spec_ChainOk.mono _ _
   | exact spec_l3Add.mono _ _ _ _
   | exact spec_l6Rd_pick.mono _ _ _ _
   | exact spec_l71Chain.mono _ _ _
   | exact spec_l71Pay.mono _ _ _
   | exact spec_l71Two.mono _ _ _
   | exact LeO.none _
   | refine LeO.ite ?_ ?_
   | refine LeO.bind ?_ (fun _ => ?_)
  ·intro y0 y1 y2 y3 y4 y5
   unfold spec_l71Votes.l1
   repeat' first
   | exact LeO.refl _
   | exact ih0 _ _ _ _ _
   | exact ih1 _ _ _ _ _ _
   | exact ih2 _ _ _ _ _ _ _
   | exact ih3 _ _ _ _ _ _ _
   | exact spec_ChainOk.mono _ _
   | exact spec_l3Add.mono _ _ _ _
   | exact spec_l6Rd_pick.mono _ _ _ _
   | exact spec_l71Chain.mono _ _ _
   | exact spec_l71Pay.mono _ _ _
   | exact spec_l71Two.mono _ _ _
   | exact LeO.none _
   | refine LeO.ite ?_ ?_
   | refine LeO.bind ?_ (fun _ => ?_)
  ·intro y0 y1 y2 y3 y4 y5 y6
   unfold spec_l71Votes.l2
   repeat' first
   | exact LeO.refl _
   | exact ih0 _ _ _ _ _
   | exact ih1 _ _ _ _ _ _
   | exact ih2 _ _ _ _ _ _ _
   | exact ih3 _ _ _ _ _ _ _
   | exact spec_ChainOk.mono _ _
   | exact spec_l3Add.mono _ _ _ _
   | exact spec_l6Rd_pick.mono _ _ _ _
   | exact spec_l71Chain.mono _ _ _
   | exact spec_l71Pay.mono _ _ _
   | exact spec_l71Two.mono _ _ _
   | exact LeO.none _
   | refine LeO.ite ?_ ?_
   | refine LeO.bind ?_ (fun _ => ?_)
  ·intro y0 y1 y2 y3 y4 y5 y6
   unfold spec_l71Votes.j3
   repeat' first
   | exact LeO.refl _
   | exact ih0 _ _ _ _ _
   | exact ih1 _ _ _ _ _ _
   | exact ih2 _ _ _ _ _ _ _
   | exact ih3 _ _ _ _ _ _ _
   | exact spec_ChainOk.mono _ _
   | exact spec_l3Add.mono _ _ _ _
   | exact spec_l6Rd_pick.mono _ _ _ _
   | exact spec_l71Chain.mono _ _ _
   | exact spec_l71Pay.mono _ _ _
   | exact spec_l71Two.mono _ _ _
   | exact LeO.none _
   | refine LeO.ite ?_ ?_
   | refine LeO.bind ?_ (fun _ => ?_)
theorem spec_l71Votes.mono : ∀ a0 a1 k,LeO (spec_l71Votes.f k a0 a1) (spec_l71Votes.f (k + 1) a0 a1):=by
 intro a0 a1 k
 obtain ⟨ih0,ih1,ih2,ih3⟩:=spec_l71Votes.mono_l k
 unfold spec_l71Votes.f
 repeat' first
   | exact LeO.refl _
   | exact ih0 _ _ _ _ _
   | exact ih1 _ _ _ _ _ _
   | exact ih2 _ _ _ _ _ _ _
   | exact ih3 _ _ _ _ _ _ _
   | exact spec_ChainOk.mono _ _
   | exact spec_l3Add.mono _ _ _ _
   | exact spec_l6Rd_pick.mono _ _ _ _
   | exact spec_l71Chain.mono _ _ _
   | exact spec_l71Pay.mono _ _ _
   | exact spec_l71Two.mono _ _ _
   | exact LeO.none _
   | refine LeO.ite ?_ ?_
   | refine LeO.bind ?_ (fun _ => ?_)
def spec_l71Votes.T16 : Bool × List (List Nat × List Nat):=(true,[([],[]),([],[]),([],[]),([2],[2]),([1,3],[1,3]),([0,4],[0,4]),([5,4],[5]),([],[]),([],[]),([8],[8]),([9],[9]),([7,10],[7,10]),([11],[11]),([12],[12]),([13],[13]),([],[]),([15,6],[15]),([14,16],[14,16]),([17],[17]),([6,18,16],[6,18]),([19,19,0,1,2,3,4,5,6,7,8,9,10,11,12,13,14,15,16,17,18,19],[19])])
def spec_l71Votes.B16 : List Nat:=[0,0,0,4,14,31,63,0,0,256,768,1920,3968,8064,16256,0,32895,131071,262143,524287,1048575]
theorem spec_l71Votes.tab16 : rtab .any (opsOf Try.f38 16) = spec_l71Votes.T16:=by kernel_rfl
theorem spec_l71Votes.bits16 : waitsOk spec_l71Votes.T16.2 spec_l71Votes.B16 = true:=by kernel_rfl
set_option maxHeartbeats 8000000 in
set_option maxRecDepth 100000 in
theorem spec_l71Votes.calls (k : Nat) (g : Nat) (s0_0 : List Int) (s0_1 : Int) (r1 : List (S82)) (r2 : Int) (w0 w : World) (hI : IsS76 w0 w g s0_0 s0_1) (hB : Below w0.heap.size w0 w) (h : spec_l71Votes.f k s0_0 s0_1 = some (r1,r2)) :
  Calls Try.prog 38 #[.pointer (some ⟨g,0,none⟩)] w fun e w' => ∃ v0_ : Value,e = .returned (v0_) ∧ Kd.R k82 82 w' w.heap.size (fun _ => True) v0_ r1 ∧ IsS76 w0 w' g s0_0 r2 ∧ Below w0.heap.size w0 w' ∧ KeepBut w w' g none:=by
 have hu82:=Try.underlying82
 have hu40:=Try.underlying40
 have HI0:=aM hI
 have HK:=aM (KeepBut.refl w g none)
 have HL:=aM hB.size
 clear hI
 have HW0:=aM hB.size
 have HB:=aM hB
 clear hB
 have H : ((spec_l71Chain.f k s0_0 s0_1).bind fun bt299 => ((spec_l6Rd_pick.f k s0_0 bt299.2 3).bind fun bt303 => (spec_l71Votes.l0 k (([] : List (S82))) bt299.1 (wrap64 (1 + bt303.1)) s0_0 bt303.2))) = some (r1,r2):=h
 clear h
 obtain ⟨y296,hy296⟩ : ∃ y_ : List (S82),y_ = (([] : List (S82))):=⟨_,rfl⟩
 replace H : ((spec_l71Chain.f k s0_0 s0_1).bind fun bt299 => ((spec_l6Rd_pick.f k s0_0 bt299.2 3).bind fun bt303 => (spec_l71Votes.l0 k y296 bt299.1 (wrap64 (1 + bt303.1)) s0_0 bt303.2))) = some (r1,r2):=by first|(rw [hy296];with_reducible exact H)|(have H2_:=(Option.bind_some _ _).symm.trans H;rw [hy296];with_reducible exact H2_)|(have H2_:=(Option.bind_some _ _).symm.trans H;with_reducible exact H2_)|with_reducible exact H|(rw [hy296];exact H)|exact H
 have Ny296:=aM hy296
 clear hy296
 replace H:=Option.bind_eq_some_iff.mp H
 obtain ⟨⟨t299,t302⟩,A20,H⟩:=H
 replace H : ((spec_l6Rd_pick.f k s0_0 t302 3).bind fun bt303 => (spec_l71Votes.l0 k y296 t299 (wrap64 (1 + bt303.1)) s0_0 bt303.2)) = some (r1,r2):=H
 have A2:=aM A20
 clear A20
 replace H:=Option.bind_eq_some_iff.mp H
 obtain ⟨⟨t303,t304⟩,A30,H⟩:=H
 replace H : (spec_l71Votes.l0 k y296 t299 (wrap64 (1 + t303)) s0_0 t304) = some (r1,r2):=H
 have A3:=aM A30
 clear A30
 have H':=aM H
 clear H
 go_enter Try.func38,Try.ntmps38
 go_wp2_with (first|((with_reducible refine gate_dst (N:=10) rfl ?_);refine Kd.R_lit k82 _ 82 ?hg (N:=10) ?hd (xs:=([] : List (S82))) (inner:=[]) (ok:=fun _ => True) (okp:=fun _ => True) ?hr ?hp (fun _ hk => hk) trivial (Below.refl _ _) (Nat.le_refl _) Q51 ?_;(case hd => rfl);(case hg => rfl);(case hr => exact Q16);(case hp => exact (Reps.none _ _));intro v297 w4 ho5 hb hg_ hnew_;clear hg_ hnew_;(first|rw [← Ny296.out] at ho5|(simp only [Int.reduceToNat] at ho5;rw [← Ny296.out] at ho5));have n0_:=aM (Kd.R_lower ho5 (keep_size (w:=w) (g:=g) (row:=none) Q2));have n1_:=aM (IsS76.below Q0 hb);have n2_:=aM (KeepBut.trans Q2 (KeepBut.of_below hb g none) (.inl rfl));have n3_:=aM (below_step Q4 hb);clear HI0;clear HK;clear HB;have HO298:=n0_;have HI0:=n1_;have HK:=n2_;have HB:=n3_;clear n0_ n1_ n2_ n3_;clear hb ho5)|((with_reducible refine gate_callee (f:=45) rfl ?_);refine goesL_ (some 12) rfl rfl Try.func45 Q14 rfl #[.pointer (some ⟨g,0,none⟩)] rfl Q1 ?_;(with_reducible refine (spec_l71Chain.calls k g s0_0 s0_1 t299 t302 w0 _ ?side1 ?side2 A2.out).mono ?_);(case side1 => exact Q0);(case side2 => exact Q4);rintro e w6 ⟨v300,rfl,ho0,hi,hb,hk⟩;refine ⟨_,rfl,?_⟩;have n0_:=aM (Kd.R_mono (Kd.R_told (Kd.R_oldK (IsS76.apart (show IsS76 w0 _ g s0_0 s0_1 from Q0) (qR HO298) Q36) hk) (Kd.R_base ho0)) (fun _ h_ => h_.1));have n1_:=aM (Kd.R_lower ho0 (keep_size (w:=w) (g:=g) (row:=none) Q2));have n2_:=aM (KeepBut.trans Q2 hk (.inl rfl));have n3_:=aM (hb);have n4_:=aM (hi);clear HO298;clear HK;clear HB;clear HI0;have HO298:=n0_;have HO301:=n1_;have HK:=n2_;have HB:=n3_;have HI0:=n4_;clear n0_ n1_ n2_ n3_ n4_;(try clear hb);(try clear hb2);(try clear hk);(try clear hi);(try clear ho0))|((with_reducible refine gate_callee (f:=40) rfl ?_);refine goesL_ (some 14) rfl rfl Try.func40 Q14 rfl #[.pointer (some ⟨g,0,none⟩),.int .i64 3] rfl Q1 ?_;(with_reducible refine (spec_l6Rd_pick.calls k g s0_0 t302 3 t303 t304 w0 _ ?side1 ?side2 A3.out).mono ?_);(case side1 => exact Q0);(case side2 => exact Q4);rintro e w7 ⟨rfl,hi,hb,hk⟩;refine ⟨_,rfl,?_⟩;have n0_:=aM (Kd.R_mono (Kd.R_keep (IsS76.apart (show IsS76 w0 _ g s0_0 t302 from Q0) (qR HO298) Q36) hk (fun _ h => h.2)) (fun _ h => h.1));have n1_:=aM (Kd.R_mono (Kd.R_keep (IsS76.apart (show IsS76 w0 _ g s0_0 t302 from Q0) (qR HO301) Q36) hk (fun _ h => h.2)) (fun _ h => h.1));have n2_:=aM (KeepBut.trans Q2 hk (.inl rfl));have n3_:=aM (hb);have n4_:=aM (hi);clear HO298;clear HO301;clear HK;clear HB;clear HI0;have HO298:=n0_;have HO301:=n1_;have HK:=n2_;have HB:=n3_;have HI0:=n4_;clear n0_ n1_ n2_ n3_ n4_;(try clear hb);(try clear hb2);(try clear hk);(try clear hi)))
 go_loopg [3,4,5] k (fun kq v3 v4 v5 w' => ∃ (x3_1 : List (S82)) (x4_1 : List (S40)) (x5_1 : Int) (x1001_1 : Int),v5 = .int .i64 x5_1 ∧ Aside0 (spec_l71Votes.l0 kq x3_1 x4_1 x5_1 s0_0 x1001_1 = some (r1,r2)) ∧ Aside0 (kq ≤ k) ∧ Aside0 (Kd.R k82 82 w' w.heap.size (fun k_ => some k_ ≠ (v4 : Value).ownBlock) v3 x3_1) ∧ Aside0 (Kd.R k40 40 w' w.heap.size (fun _ => True) v4 x4_1) ∧ Aside0 (IsS76 w0 w' g s0_0 x1001_1) ∧ Aside0 (KeepBut w w' g none) ∧ Aside0 (Below w0.heap.size w0 w'))
 case atStart => exact ⟨(y296),(t299),(wrap64 (1 + t303)),(t304),Q11,H',⟨Nat.le_refl _⟩,⟨by (with_reducible repeat (first|apply Kd.R_alloc|apply Kd.R_drewN|apply Kd.R_drew));exact Kd.R_mono HO298.out (fun _ hk => hk.2)⟩,⟨qR HO301⟩,⟨Q0⟩,⟨Q2⟩,⟨Q4⟩⟩
 case round =>
  clear H'
  try clear p2
  try clear c3
  try clear c4
  try clear p6
  obtain ⟨x3_1,x4_1,x5_1,x1001_1,rfl,HA,HK1,HO_3,HO_4,HI0,HK,HB⟩:=hrel
  cases gk with
  | zero => exact absurd HA.out (by simp [spec_l71Votes.l0])
  | succ k1 =>
   have H:=HA.out
   clear HA
   simp only [spec_l71Votes.l0] at H
   by_cases c8 : x5_1 > 0
   ·rw [if_pos c8] at H
    have c8b0 : decide (0 < x5_1) = true:=decide_eq_true c8
    clear c8
    have H':=aM H
    clear H
    go_wp2
    go_loopg [3,6] k1 (fun kq v3 v6 w' => ∃ (x3_2 : List (S82)) (x6_2 : Int) (x1001_2 : Int),v6 = .int .i64 x6_2 ∧ Aside0 (spec_l71Votes.l1 kq x3_2 x4_1 x5_1 x6_2 s0_0 x1001_2 = some (r1,r2)) ∧ Aside0 (kq ≤ k1) ∧ Aside0 (Kd.R k82 82 w' w.heap.size (fun k_ => some k_ ≠ (u4 : Value).ownBlock) v3 x3_2) ∧ Aside0 (Kd.R k40 40 w' w.heap.size (fun _ => True) u4 x4_1) ∧ Aside0 (IsS76 w0 w' g s0_0 x1001_2) ∧ Aside0 (KeepBut w w' g none) ∧ Aside0 (Below w0.heap.size w0 w'))
    case atStart => exact ⟨(x3_1),(1),(x1001_1),Q11,H',⟨Nat.le_refl _⟩,⟨qR HO_3⟩,⟨qR HO_4⟩,⟨Q0⟩,⟨Q2⟩,⟨Q4⟩⟩
    case round =>
     clear H'
     try clear p2
     try clear c3
     try clear c4
     try clear p6
     try clear c8
     try clear c8b0
     try clear p2
     try clear p6
     obtain ⟨x3_2,x6_2,x1001_2,rfl,HA,HK2,HO_3,HO_4,HI0,HK,HB⟩:=hrel
     cases gk with
     | zero => exact absurd HA.out (by simp [spec_l71Votes.l1])
     | succ k2 =>
      have H:=HA.out
      clear HA
      simp only [spec_l71Votes.l1] at H
      by_cases c9 : x6_2 ≤ (x4_1.length : Int)
      ·rw [if_pos c9] at H
       have c9b0 : decide (x6_2 ≤ (x4_1.length : Int)) = true:=decide_eq_true c9
       clear c9
       have H':=aM H
       clear H
       obtain ⟨Ao10,co10,eo10⟩:=Kd.R_slice HO_4.out
       subst eo10
       go_wp2
       go_loopg [3,7] k2 (fun kq v3 v7 w' => ∃ (x3_3 : List (S82)) (x7_3 : Int) (x1001_3 : Int),v7 = .int .i64 x7_3 ∧ Aside0 (spec_l71Votes.l2 kq x3_3 x4_1 x5_1 x6_2 x7_3 s0_0 x1001_3 = some (r1,r2)) ∧ Aside0 (kq ≤ k2) ∧ Aside0 (Kd.R k82 82 w' w.heap.size (fun k_ => some k_ ≠ ((.slice Ao10 x4_1.length co10) : Value).ownBlock) v3 x3_3) ∧ Aside0 (Kd.R k40 40 w' w.heap.size (fun _ => True) (.slice Ao10 x4_1.length co10) x4_1) ∧ Aside0 (IsS76 w0 w' g s0_0 x1001_3) ∧ Aside0 (KeepBut w w' g none) ∧ Aside0 (Below w0.heap.size w0 w'))
       case atStart => exact ⟨(x3_2),(1),(x1001_2),Q11,H',⟨Nat.le_refl _⟩,⟨qR HO_3⟩,⟨qR HO_4⟩,⟨Q0⟩,⟨Q2⟩,⟨Q4⟩⟩
       case round =>
        clear H'
        try clear p2
        try clear c3
        try clear c4
        try clear p6
        try clear c8
        try clear c8b0
        try clear c9
        try clear c9b0
        try clear p2
        try clear p6
        obtain ⟨x3_3,x7_3,x1001_3,rfl,HA,HK3,HO_3,HO_4,HI0,HK,HB⟩:=hrel
        cases gk with
        | zero => exact absurd HA.out (by simp [spec_l71Votes.l2])
        | succ k3 =>
         have H:=HA.out
         clear HA
         simp only [spec_l71Votes.l2] at H
         by_cases c11 : x7_3 ≤ 4
         ·rw [if_pos c11] at H
          have c11b0 : decide (x7_3 ≤ 4) = true:=decide_eq_true c11
          clear c11
          replace H:=Option.bind_eq_some_iff.mp H
          obtain ⟨⟨t305,t306⟩,A120,H⟩:=H
          replace H : (if t305 > 0 then (if 0 ≤ x6_2 then (if x6_2 ≤ (x4_1.length : Int) then ((spec_l3Add.f k3 x3_3 x7_3 (x4_1.take (x6_2 : Int).toNat)).bind fun bt311 => (spec_l71Votes.l2 k3 bt311.1 x4_1 x5_1 x6_2 (wrap64 (x7_3 + 1)) s0_0 t306)) else (none)) else (none)) else (spec_l71Votes.l2 k3 x3_3 x4_1 x5_1 x6_2 (wrap64 (x7_3 + 1)) s0_0 t306)) = some (r1,r2):=H
          have A12:=aM A120
          clear A120
          by_cases c13 : t305 > 0
          ·rw [if_pos c13] at H
           have c13b0 : decide (0 < t305) = true:=decide_eq_true c13
           clear c13
           by_cases c14 : 0 ≤ x6_2
           case neg => rw [if_neg c14] at H;exact absurd H Q51
           rw [if_pos c14] at H
           have c14b0:=eq_true c14
           have c14b1 : decide (0 ≤ x6_2) = true:=decide_eq_true c14
           clear c14
           by_cases c15 : x6_2 ≤ (x4_1.length : Int)
           case neg => rw [if_neg c15] at H;exact absurd H Q51
           rw [if_pos c15] at H
           have c15b0:=eq_true c15
           have c15b1 : decide (x6_2 ≤ (x4_1.length : Int)) = true:=decide_eq_true c15
           clear c15
           obtain ⟨y307,hy307⟩ : ∃ y_ : List (S40),y_ = (x4_1.take (x6_2 : Int).toNat):=⟨_,rfl⟩
           replace H : ((spec_l3Add.f k3 x3_3 x7_3 y307).bind fun bt311 => (spec_l71Votes.l2 k3 bt311.1 x4_1 x5_1 x6_2 (wrap64 (x7_3 + 1)) s0_0 t306)) = some (r1,r2):=by first|(rw [hy307];with_reducible exact H)|(have H2_:=(Option.bind_some _ _).symm.trans H;rw [hy307];with_reducible exact H2_)|(have H2_:=(Option.bind_some _ _).symm.trans H;with_reducible exact H2_)|with_reducible exact H|(rw [hy307];exact H)|exact H
           have Ny307:=aM hy307
           clear hy307
           replace H:=Option.bind_eq_some_iff.mp H
           obtain ⟨⟨t311,t314⟩,A160,H⟩:=H
           replace H : (spec_l71Votes.l2 k3 t311 x4_1 x5_1 x6_2 (wrap64 (x7_3 + 1)) s0_0 t306) = some (r1,r2):=H
           have A16:=aM A160
           clear A160
           have H':=aM H
           clear H
           go_wp2_with (first|((with_reducible refine gate_callee (f:=40) rfl ?_);refine goesL_ (some 31) rfl rfl Try.func40 Q14 rfl #[.pointer (some ⟨g,0,none⟩),.int .i64 9] rfl Q1 ?_;(with_reducible refine (spec_l6Rd_pick.calls k3 g s0_0 x1001_3 9 t305 t306 w0 _ ?side1 ?side2 A12.out).mono ?_);(case side1 => exact Q0);(case side2 => exact Q4);rintro e w17 ⟨rfl,hi,hb,hk⟩;refine ⟨_,rfl,?_⟩;have n0_:=aM (Kd.R_mono (Kd.R_keep (IsS76.apart (show IsS76 w0 _ g s0_0 x1001_3 from Q0) (qR HO_3) Q36) hk (fun _ h => h.2)) (fun _ h => h.1));have n1_:=aM (Kd.R_mono (Kd.R_keep (IsS76.apart (show IsS76 w0 _ g s0_0 x1001_3 from Q0) (qR HO_4) Q36) hk (fun _ h => h.2)) (fun _ h => h.1));have n2_:=aM (KeepBut.trans Q2 hk (.inl rfl));have n3_:=aM (hb);have n4_:=aM (hi);clear HO_3;clear HO_4;clear HK;clear HB;clear HI0;have HO_3:=n0_;have HO_4:=n1_;have HK:=n2_;have HB:=n3_;have HI0:=n4_;clear n0_ n1_ n2_ n3_ n4_;(try clear hb);(try clear hb2);(try clear hk);(try clear hi);have q18 : (x6_2 : Int) ≤ ((x4_1.length : Int) : Int):=of_decide_eq_true Q5;obtain ⟨i018,hi018,_,hsz18,_⟩:=info_parts info40;have hroom18 : x4_1.length ≤ co10:=(Kd.R_reads' HO_4.out).2.1;have hC18 : Kd.C k40 _ Ao10 x4_1.length x4_1:=(Kd.R_reads' HO_4.out).2.2;have hcut18:=cut_to (P:=Try.prog) 28 40 .i64 Try.underlying28 hi018 Ao10 x4_1.length co10 x6_2 (of_decide_eq_true Q5) q18 hroom18;have hr18:=Kd.C_take (m:=(x6_2 : Int).toNat) hC18 Q17;have hy18 : y307.length = (x6_2 : Int).toNat:=(by rw [Ny307.out,List.length_take];omega);rw [← Ny307.out] at hr18;rw [← hy18] at hcut18;have HR310:=aM hr18;have HC310:=aM (show y307.length ≤ co10 from Q17);clear hr18 hC18 hroom18 hi018 hsz18;have KY18:=aM hy18;clear hy18;have KL18:=aM (show (x6_2 : Int).toNat ≤ x4_1.length from Q17);replace q18:=eq_true q18;obtain ⟨Ao19,co19,eo19⟩:=Kd.R_slice HO_3.out;subst eo19)|((with_reducible refine gate_callee (f:=46) rfl ?_);refine goesL_ (some 40) rfl rfl Try.func46 Q14 rfl #[.slice Ao19 x3_3.length co19,.agg #[.int .i64 x7_3,.slice Ao10 y307.length co10]] rfl Q1 ?_;(with_reducible refine (spec_l3Add.calls k3 _ (.slice Ao19 x3_3.length co19) x3_3 x7_3 _ _ y307 t311 t314 w0 _ ?side1 (Kd.R_lower (Kd.R_bound (IsS76.apart HI0.out HO_3.out Q36)) HL.out) ?side3 ?side4 A16.out).mono ?_);(case side1 => exact Q4);(case side3 => exact fun W_ hK_ => (show Kd.C k40 W_ Ao10 y307.length y307 from by rw [Ny307.out];exact Kd.C_take (m:=(x6_2 : Int).toNat) (Kd.C_kept_own ((Kd.R_tight rfl HO_4.out)) (fun k_ hk_ hs_ => hs_.1.1 hk_) W_ hK_) KL18.out));(case side4 => exact HC310.out);rintro e w20 ⟨v312,rfl,ho0,hb,hkp⟩;refine ⟨_,rfl,?_⟩;have n0_:=aM (Kd.R_mono (ok':=fun k_ => True) (Kd.R_keptB ((Kd.R_tight rfl HO_4.out)) hkp (fun k_ hk_ hs_ => hs_.1.1 hk_)) (fun k_ hk_ => trivial));have n1_:=aM (IsS76.kept Q0 hkp (fun hs_ => hs_.1.2 rfl));have n2_:=aM (Kd.R_mono (ok':=fun k_ => some k_ ≠ (.slice Ao10 x4_1.length co10 : Value).ownBlock) (R_raise2 (d:=k82) (b:=w0.heap.size) (b':=w.heap.size) (fun _ _ _ _ hb_ h_ => k82_raise hb_ h_) ho0 (fun k_ hk_ => Or.elim hk_ (fun hs_ => hs_.2.1) (fun hn_ => Nat.le_trans (keep_size (w:=w) (g:=g) (row:=none) Q2) hn_))) (fun k_ hk_ => Or.elim hk_ (fun hs_ => hs_.1.1) (fun hn_ => (Kd.fresh' (Kd.R_lt (qR HO_4)) k_ hn_))));have n3_:=aM (Kept.keepG Q2 hkp (fun k_ hs_ => .inr hs_.2.1));have n4_:=aM (hb);clear HO_4;clear HI0;clear HK;clear HB;clear HO_3;have HO_4:=n0_;have HI0:=n1_;have HO313:=n2_;have HK:=n3_;have HB:=n4_;clear n0_ n1_ n2_ n3_ n4_;(try clear hb);(try clear hkp);(try clear ho0)))
           go_roundg k3
           case measure => have:=HK1.out;have:=HK2.out;have:=HK3.out;omega
           case rel => exact ⟨(t311),(wrap64 (x7_3 + 1)),(t306),Q11,H',⟨by have:=HK1.out;have:=HK2.out;have:=HK3.out;omega⟩,⟨qR HO313⟩,⟨qR HO_4⟩,⟨Q0⟩,⟨Q2⟩,⟨Q4⟩⟩
          ·rw [if_neg c13] at H
           have c13b0 : decide (0 < t305) = false:=decide_eq_false c13
           clear c13
           have H':=aM H
           clear H
           go_wp2_with (first|((with_reducible refine gate_callee (f:=40) rfl ?_);refine goesL_ (some 31) rfl rfl Try.func40 Q14 rfl #[.pointer (some ⟨g,0,none⟩),.int .i64 9] rfl Q1 ?_;(with_reducible refine (spec_l6Rd_pick.calls k3 g s0_0 x1001_3 9 t305 t306 w0 _ ?side1 ?side2 A12.out).mono ?_);(case side1 => exact Q0);(case side2 => exact Q4);rintro e w21 ⟨rfl,hi,hb,hk⟩;refine ⟨_,rfl,?_⟩;have n0_:=aM (Kd.R_mono (Kd.R_keep (IsS76.apart (show IsS76 w0 _ g s0_0 x1001_3 from Q0) (qR HO_3) Q36) hk (fun _ h => h.2)) (fun _ h => h.1));have n1_:=aM (Kd.R_mono (Kd.R_keep (IsS76.apart (show IsS76 w0 _ g s0_0 x1001_3 from Q0) (qR HO_4) Q36) hk (fun _ h => h.2)) (fun _ h => h.1));have n2_:=aM (KeepBut.trans Q2 hk (.inl rfl));have n3_:=aM (hb);have n4_:=aM (hi);clear HO_3;clear HO_4;clear HK;clear HB;clear HI0;have HO_3:=n0_;have HO_4:=n1_;have HK:=n2_;have HB:=n3_;have HI0:=n4_;clear n0_ n1_ n2_ n3_ n4_;(try clear hb);(try clear hb2);(try clear hk);(try clear hi)))
           go_roundg k3
           case measure => have:=HK1.out;have:=HK2.out;have:=HK3.out;omega
           case rel => exact ⟨(x3_3),(wrap64 (x7_3 + 1)),(t306),Q11,H',⟨by have:=HK1.out;have:=HK2.out;have:=HK3.out;omega⟩,⟨qR HO_3⟩,⟨qR HO_4⟩,⟨Q0⟩,⟨Q2⟩,⟨Q4⟩⟩
         ·rw [if_neg c11] at H
          have c11b0 : decide (x7_3 ≤ 4) = false:=decide_eq_false c11
          clear c11
          have H':=aM H
          clear H
          go_wp2
          go_roundg k3
          case measure => have:=HK1.out;have:=HK2.out;have:=HK3.out;omega
          case rel => exact ⟨(x3_3),(wrap64 (x6_2 + 1)),(x1001_3),Q11,H',⟨by have:=HK1.out;have:=HK2.out;have:=HK3.out;omega⟩,⟨qR HO_3⟩,⟨qR HO_4⟩,⟨Q0⟩,⟨Q2⟩,⟨Q4⟩⟩
      ·rw [if_neg c9] at H
       have c9b0 : decide (x6_2 ≤ (x4_1.length : Int)) = false:=decide_eq_false c9
       clear c9
       replace H:=Option.bind_eq_some_iff.mp H
       obtain ⟨⟨t315,t318,t321⟩,A220,H⟩:=H
       replace H : (if (x4_1.length : Int) > 0 then ((spec_l6Rd_pick.f k2 s0_0 t321 2).bind fun bt322 => (spec_l71Votes.j3 k2 x3_2 x4_1 x5_1 t318 (bt322.1 == 0) s0_0 bt322.2)) else (spec_l71Votes.j3 k2 x3_2 x4_1 x5_1 t318 false s0_0 t321)) = some (r1,r2):=H
       have A22:=aM A220
       clear A220
       have HC23:=aM H
       clear H
       obtain ⟨Ao24,co24,eo24⟩:=Kd.R_slice HO_4.out
       subst eo24
       go_upto_region 15 with (first|((with_reducible refine gate_callee (f:=47) rfl ?_);refine goesL_ (some 45) rfl rfl Try.func47 Q14 rfl #[.pointer (some ⟨g,0,none⟩)] rfl Q1 ?_;(with_reducible refine (spec_l71Two.calls k2 g s0_0 x1001_2 t315 t318 t321 w0 _ ?side1 ?side2 A22.out).mono ?_);(case side1 => exact Q0);(case side2 => exact Q4);rintro e w25 ⟨v316,v319,rfl,ho0,ho1,hi,hb,hk⟩;refine ⟨_,rfl,?_⟩;have n0_:=aM (Kd.R_mono (Kd.R_told (Kd.R_told (Kd.R_oldK (IsS76.apart (show IsS76 w0 _ g s0_0 x1001_2 from Q0) (qR HO_3) Q36) hk) (Kd.R_base ho0)) (Kd.R_base ho1)) (fun _ h_ => h_.1));have n1_:=aM (Kd.R_mono (Kd.R_told (Kd.R_told (Kd.R_oldK (IsS76.apart (show IsS76 w0 _ g s0_0 x1001_2 from Q0) (qR HO_4) Q36) hk) (Kd.R_base ho0)) (Kd.R_base ho1)) (fun _ h_ => h_.1));have n2_:=aM (Kd.R_lower (Kd.R_new' ho0 (Kd.R_lt (qR HO_4))) (keep_size (w:=w) (g:=g) (row:=none) Q2));have n3_:=aM (Kd.R_lower (Kd.R_new' ho1 (Kd.R_lt (qR HO_4))) (keep_size (w:=w) (g:=g) (row:=none) Q2));have n4_:=aM (KeepBut.trans Q2 hk (.inl rfl));have n5_:=aM (hb);have n6_:=aM (hi);clear HO_3;clear HO_4;clear HK;clear HB;clear HI0;have HO_3:=n0_;have HO_4:=n1_;have HO317:=n2_;have HO320:=n3_;have HK:=n4_;have HB:=n5_;have HI0:=n6_;clear n0_ n1_ n2_ n3_ n4_ n5_ n6_;(try clear hb);(try clear hb2);(try clear hk);(try clear hi);(try clear ho0);(try clear ho1)))
       (try simp only [Act.put,sI,sZ,sS])
       go_cut [55] (fun v55 wc => ∃ (kq : Nat) (x55_22 : Bool) (x1001_22 : Int),v55 = .bool x55_22 ∧ Aside0 (spec_l71Votes.j3 kq x3_2 x4_1 x5_1 t318 x55_22 s0_0 x1001_22 = some (r1,r2)) ∧ Aside0 (kq ≤ k2) ∧ Aside0 (Kd.R k82 82 wc w.heap.size (fun k_ => some k_ ≠ ((.slice Ao24 x4_1.length co24) : Value).ownBlock ∧ some k_ ≠ (v319 : Value).ownBlock) u3 x3_2) ∧ Aside0 (Kd.R k40 40 wc w.heap.size (fun k_ => some k_ ≠ (v319 : Value).ownBlock) (.slice Ao24 x4_1.length co24) x4_1) ∧ Aside0 (Kd.R k40 40 wc w.heap.size (fun k_ => some k_ ≠ ((.slice Ao24 x4_1.length co24) : Value).ownBlock) v319 t318) ∧ Aside0 (IsS76 w0 wc g s0_0 x1001_22) ∧ Aside0 (KeepBut w wc g none) ∧ Aside0 (Below w0.heap.size w0 wc))
       case first =>
        have H:=HC23.out
        clear HC23
        by_cases c26 : (x4_1.length : Int) > 0
        ·rw [if_pos c26] at H
         have c26b0 : decide (0 < (x4_1.length : Int)) = true:=decide_eq_true c26
         have c26b1 : decide (0 < x4_1.length) = true:=decide_eq_true Q17
         clear c26
         (first|rw [c26b0]|rw [c26b1]|(simp only [i64_w,i32_w];rw [c26b0])|skip)
         replace H:=Option.bind_eq_some_iff.mp H
         obtain ⟨⟨t322,t323⟩,A270,H⟩:=H
         replace H : (spec_l71Votes.j3 k2 x3_2 x4_1 x5_1 t318 (t322 == 0) s0_0 t323) = some (r1,r2):=H
         have A27:=aM A270
         clear A270
         have H':=aM H
         clear H
         go_wp2_with (first|(go_at_call 40;(with_reducible refine (spec_l6Rd_pick.calls k2 g s0_0 t321 2 t322 t323 w0 _ ?side1 ?side2 A27.out).mono ?_);(case side1 => exact Q0);(case side2 => exact Q4);rintro e w28 ⟨rfl,hi,hb,hk⟩;have n0_:=aM (Kd.R_mono (Kd.R_keep (IsS76.apart (show IsS76 w0 _ g s0_0 t321 from Q0) (qR HO_3) Q36) hk (fun _ h => h.2)) (fun _ h => h.1));have n1_:=aM (Kd.R_mono (Kd.R_keep (IsS76.apart (show IsS76 w0 _ g s0_0 t321 from Q0) (qR HO_4) Q36) hk (fun _ h => h.2)) (fun _ h => h.1));have n2_:=aM (Kd.R_mono (Kd.R_keep (IsS76.apart (show IsS76 w0 _ g s0_0 t321 from Q0) (qR HO317) Q36) hk (fun _ h => h.2)) (fun _ h => h.1));have n3_:=aM (Kd.R_mono (Kd.R_keep (IsS76.apart (show IsS76 w0 _ g s0_0 t321 from Q0) (qR HO320) Q36) hk (fun _ h => h.2)) (fun _ h => h.1));have n4_:=aM (KeepBut.trans Q2 hk (.inl rfl));have n5_:=aM (hb);have n6_:=aM (hi);clear HO_3;clear HO_4;clear HO317;clear HO320;clear HK;clear HB;clear HI0;have HO_3:=n0_;have HO_4:=n1_;have HO317:=n2_;have HO320:=n3_;have HK:=n4_;have HB:=n5_;have HI0:=n6_;clear n0_ n1_ n2_ n3_ n4_ n5_ n6_;(try clear hb);(try clear hb2);(try clear hk);(try clear hi)))
         go_meet
         case rel => exact ⟨_,((t322 == 0)),(t323),Q11,H',⟨by have:=HK1.out;have:=HK2.out;first|omega|exact Nat.le_refl _⟩,⟨Q146⟩,⟨Q74⟩,⟨Q152⟩,⟨Q0⟩,⟨Q2⟩,⟨Q4⟩⟩
        ·rw [if_neg c26] at H
         have c26b0 : decide (0 < (x4_1.length : Int)) = false:=decide_eq_false c26
         have c26b1 : decide (0 < x4_1.length) = false:=decide_eq_false Q17
         clear c26
         (first|rw [c26b0]|rw [c26b1]|(simp only [i64_w,i32_w];rw [c26b0])|skip)
         have H':=aM H
         clear H
         go_wp2
         go_meet
         case rel => exact ⟨_,(false),(t321),Q11,H',⟨by have:=HK1.out;have:=HK2.out;first|omega|exact Nat.le_refl _⟩,⟨Q146⟩,⟨Q74⟩,⟨Q152⟩,⟨Q0⟩,⟨Q2⟩,⟨Q4⟩⟩
       case rest =>
        clear HC23
        try clear c1
        try clear q1
        try clear c2
        try clear p2
        try clear c3
        try clear c4
        try clear p6
        try clear c8
        try clear c8b0
        try clear c9
        try clear c9b0
        try clear c11
        try clear c11b0
        try clear c13
        try clear c13b0
        try clear c14
        try clear c14b0
        try clear c14b1
        try clear c15
        try clear c15b0
        try clear c15b1
        try clear q18
        try clear c26
        try clear c26b0
        try clear c26b1
        try clear p2
        try clear p6
        try clear q18
        obtain ⟨kq,x55_22,x1001_22,rfl,HA,HJ22,HO_3,HO_4,HO_9,HI0,HK,HB⟩:=hcut
        cases kq with
        | zero => exact absurd HA.out (by simp [spec_l71Votes.j3])
        | succ kj22 =>
         have H:=HA.out
         clear HA
         simp only [spec_l71Votes.j3] at H
         by_cases c29 : x55_22 = true
         ·subst c29
          have H1 : ((spec_l6Rd_pick.f kj22 s0_0 x1001_22 (x4_1.length : Int)).bind fun bt324 => (if 0 ≤ bt324.1 then (if bt324.1 ≤ (x4_1.length : Int) then ((spec_l1Copy.f (x4_1.take (bt324.1 : Int).toNat)).bind fun t330 => (if 0 ≤ (wrap64 ((x4_1.length : Int) - 1)) then (if (wrap64 ((x4_1.length : Int) - 1)) < (x4_1.length : Int) then ((spec_l71Pay.f kj22 s0_0 bt324.2).bind fun bt334 => (if t330.length < 4398046511104 then ((some (t330 ++ [(⟨wrap64 (((rd_T40 x4_1 (wrap64 ((x4_1.length : Int) - 1))).f0) + 1),(⟨bt334.1,bt334.2.1,bt334.2.2.1⟩ : S38)⟩ : S40)] : List (S40))).bind fun y338 => ((spec_ChainOk.f kj22 y338).bind fun t341 => (if t341 = true then (spec_l71Votes.l0 kj22 x3_2 y338 (wrap64 (x5_1 - 1)) s0_0 bt334.2.2.2) else (spec_l71Votes.l0 kj22 x3_2 x4_1 (wrap64 (x5_1 - 1)) s0_0 bt334.2.2.2)))) else (none))) else (none)) else (none))) else (none)) else (none))) = some (r1,r2):=by rw [if_pos rfl] at H;exact H
          clear H
          have H:=H1
          clear H1
          replace H:=Option.bind_eq_some_iff.mp H
          obtain ⟨⟨t324,t325⟩,A300,H⟩:=H
          replace H : (if 0 ≤ t324 then (if t324 ≤ (x4_1.length : Int) then ((spec_l1Copy.f (x4_1.take (t324 : Int).toNat)).bind fun t330 => (if 0 ≤ (wrap64 ((x4_1.length : Int) - 1)) then (if (wrap64 ((x4_1.length : Int) - 1)) < (x4_1.length : Int) then ((spec_l71Pay.f kj22 s0_0 t325).bind fun bt334 => (if t330.length < 4398046511104 then ((some (t330 ++ [(⟨wrap64 (((rd_T40 x4_1 (wrap64 ((x4_1.length : Int) - 1))).f0) + 1),(⟨bt334.1,bt334.2.1,bt334.2.2.1⟩ : S38)⟩ : S40)] : List (S40))).bind fun y338 => ((spec_ChainOk.f kj22 y338).bind fun t341 => (if t341 = true then (spec_l71Votes.l0 kj22 x3_2 y338 (wrap64 (x5_1 - 1)) s0_0 bt334.2.2.2) else (spec_l71Votes.l0 kj22 x3_2 x4_1 (wrap64 (x5_1 - 1)) s0_0 bt334.2.2.2)))) else (none))) else (none)) else (none))) else (none)) else (none)) = some (r1,r2):=H
          have A30:=aM A300
          clear A300
          by_cases c31 : 0 ≤ t324
          case neg => rw [if_neg c31] at H;exact absurd H Q51
          rw [if_pos c31] at H
          have c31b0:=eq_true c31
          have c31b1 : decide (0 ≤ t324) = true:=decide_eq_true c31
          clear c31
          by_cases c32 : t324 ≤ (x4_1.length : Int)
          case neg => rw [if_neg c32] at H;exact absurd H Q51
          rw [if_pos c32] at H
          have c32b0:=eq_true c32
          have c32b1 : decide (t324 ≤ (x4_1.length : Int)) = true:=decide_eq_true c32
          clear c32
          obtain ⟨y326,hy326⟩ : ∃ y_ : List (S40),y_ = (x4_1.take (t324 : Int).toNat):=⟨_,rfl⟩
          replace H : ((spec_l1Copy.f y326).bind fun t330 => (if 0 ≤ (wrap64 ((x4_1.length : Int) - 1)) then (if (wrap64 ((x4_1.length : Int) - 1)) < (x4_1.length : Int) then ((spec_l71Pay.f kj22 s0_0 t325).bind fun bt334 => (if t330.length < 4398046511104 then ((some (t330 ++ [(⟨wrap64 (((rd_T40 x4_1 (wrap64 ((x4_1.length : Int) - 1))).f0) + 1),(⟨bt334.1,bt334.2.1,bt334.2.2.1⟩ : S38)⟩ : S40)] : List (S40))).bind fun y338 => ((spec_ChainOk.f kj22 y338).bind fun t341 => (if t341 = true then (spec_l71Votes.l0 kj22 x3_2 y338 (wrap64 (x5_1 - 1)) s0_0 bt334.2.2.2) else (spec_l71Votes.l0 kj22 x3_2 x4_1 (wrap64 (x5_1 - 1)) s0_0 bt334.2.2.2)))) else (none))) else (none)) else (none))) = some (r1,r2):=by first|(rw [hy326];with_reducible exact H)|(have H2_:=(Option.bind_some _ _).symm.trans H;rw [hy326];with_reducible exact H2_)|(have H2_:=(Option.bind_some _ _).symm.trans H;with_reducible exact H2_)|with_reducible exact H|(rw [hy326];exact H)|exact H
          have Ny326:=aM hy326
          clear hy326
          replace H:=Option.bind_eq_some_iff.mp H
          obtain ⟨t330,A330,H⟩:=H
          replace H : (if 0 ≤ (wrap64 ((x4_1.length : Int) - 1)) then (if (wrap64 ((x4_1.length : Int) - 1)) < (x4_1.length : Int) then ((spec_l71Pay.f kj22 s0_0 t325).bind fun bt334 => (if t330.length < 4398046511104 then ((some (t330 ++ [(⟨wrap64 (((rd_T40 x4_1 (wrap64 ((x4_1.length : Int) - 1))).f0) + 1),(⟨bt334.1,bt334.2.1,bt334.2.2.1⟩ : S38)⟩ : S40)] : List (S40))).bind fun y338 => ((spec_ChainOk.f kj22 y338).bind fun t341 => (if t341 = true then (spec_l71Votes.l0 kj22 x3_2 y338 (wrap64 (x5_1 - 1)) s0_0 bt334.2.2.2) else (spec_l71Votes.l0 kj22 x3_2 x4_1 (wrap64 (x5_1 - 1)) s0_0 bt334.2.2.2)))) else (none))) else (none)) else (none)) = some (r1,r2):=H
          have A33:=aM A330
          clear A330
          obtain ⟨ji34,hji34⟩ : ∃ j_ : Int,(wrap64 ((x4_1.length : Int) - 1)) = j_:=⟨_,rfl⟩
          replace H : (if 0 ≤ (ji34) then (if (ji34) < (x4_1.length : Int) then ((spec_l71Pay.f kj22 s0_0 t325).bind fun bt334 => (if t330.length < 4398046511104 then ((some (t330 ++ [(⟨wrap64 (((rd_T40 x4_1 (ji34)).f0) + 1),(⟨bt334.1,bt334.2.1,bt334.2.2.1⟩ : S38)⟩ : S40)] : List (S40))).bind fun y338 => ((spec_ChainOk.f kj22 y338).bind fun t341 => (if t341 = true then (spec_l71Votes.l0 kj22 x3_2 y338 (wrap64 (x5_1 - 1)) s0_0 bt334.2.2.2) else (spec_l71Votes.l0 kj22 x3_2 x4_1 (wrap64 (x5_1 - 1)) s0_0 bt334.2.2.2)))) else (none))) else (none)) else (none)) = some (r1,r2):=by first|(rw [hji34] at H;exact H)|(simp only [hji34] at H ⊢;exact H)
          (try rw [hji34] at A30)
          (try rw [hji34] at A33)
          have hji34w : (IntKind.i64.wrap ((x4_1.length : Int) - 1)) = ji34:=(i64_w _).trans hji34
          by_cases c35 : 0 ≤ (ji34)
          case neg => rw [if_neg c35] at H;exact absurd H Q51
          rw [if_pos c35] at H
          have c35b0 : decide (0 ≤ (ji34)) = true:=decide_eq_true c35
          clear c35
          by_cases c36 : (ji34) < (x4_1.length : Int)
          case neg => rw [if_neg c36] at H;exact absurd H Q51
          rw [if_pos c36] at H
          have c36b0 : decide ((ji34) < (x4_1.length : Int)) = true:=decide_eq_true c36
          clear c36
          replace H:=Option.bind_eq_some_iff.mp H
          obtain ⟨⟨t334,t335,t336,t337⟩,A370,H⟩:=H
          replace H : (if t330.length < 4398046511104 then ((some (t330 ++ [(⟨wrap64 (((rd_T40 x4_1 (ji34)).f0) + 1),(⟨t334,t335,t336⟩ : S38)⟩ : S40)] : List (S40))).bind fun y338 => ((spec_ChainOk.f kj22 y338).bind fun t341 => (if t341 = true then (spec_l71Votes.l0 kj22 x3_2 y338 (wrap64 (x5_1 - 1)) s0_0 t337) else (spec_l71Votes.l0 kj22 x3_2 x4_1 (wrap64 (x5_1 - 1)) s0_0 t337)))) else (none)) = some (r1,r2):=H
          have A37:=aM A370
          clear A370
          by_cases c38 : t330.length < 4398046511104
          case neg => rw [if_neg c38] at H;exact absurd H Q51
          rw [if_pos c38] at H
          have LMc38:=aM c38
          clear c38
          obtain ⟨y338,hy338⟩ : ∃ y_ : List (S40),y_ = (t330 ++ [(⟨wrap64 (((rd_T40 x4_1 (ji34)).f0) + 1),(⟨t334,t335,t336⟩ : S38)⟩ : S40)]):=⟨_,rfl⟩
          replace H : ((spec_ChainOk.f kj22 y338).bind fun t341 => (if t341 = true then (spec_l71Votes.l0 kj22 x3_2 y338 (wrap64 (x5_1 - 1)) s0_0 t337) else (spec_l71Votes.l0 kj22 x3_2 x4_1 (wrap64 (x5_1 - 1)) s0_0 t337))) = some (r1,r2):=by first|(rw [hy338];with_reducible exact H)|(have H2_:=(Option.bind_some _ _).symm.trans H;rw [hy338];with_reducible exact H2_)|(have H2_:=(Option.bind_some _ _).symm.trans H;with_reducible exact H2_)|with_reducible exact H|(rw [hy338];exact H)|exact H
          have Ny338:=aM hy338
          clear hy338
          replace H:=Option.bind_eq_some_iff.mp H
          obtain ⟨t341,A390,H⟩:=H
          replace H : (if t341 = true then (spec_l71Votes.l0 kj22 x3_2 y338 (wrap64 (x5_1 - 1)) s0_0 t337) else (spec_l71Votes.l0 kj22 x3_2 x4_1 (wrap64 (x5_1 - 1)) s0_0 t337)) = some (r1,r2):=H
          have A39:=aM A390
          clear A390
          by_cases c40 : t341 = true
          ·subst c40
           have H1 : (spec_l71Votes.l0 kj22 x3_2 y338 (wrap64 (x5_1 - 1)) s0_0 t337) = some (r1,r2):=by rw [if_pos rfl] at H;exact H
           clear H
           have H:=H1
           clear H1
           have H':=aM H
           clear H
           try go_wp2
           have n0_:=aM (Kd.R_drew HO_3.out)
           have n1_:=aM (Kd.R_drew HO_4.out)
           have n2_:=aM (Kd.R_drew HO_9.out)
           have n3_:=aM (IsS76.drew HI0.out)
           have n4_:=aM (keep_drew HK.out)
           have n5_:=aM (bD HB.out)
           clear HO_3
           clear HO_4
           clear HO_9
           clear HI0
           clear HK
           clear HB
           have HO_3:=n0_
           have HO_4:=n1_
           have HO_9:=n2_
           have HI0:=n3_
           have HK:=n4_
           have HB:=n5_
           clear n0_ n1_ n2_ n3_ n4_ n5_
           have p333 : 0 ≤ ((ji34) : Int):=of_decide_eq_true Q5
           have q333 : (ji34) < (x4_1.length : Int):=of_decide_eq_true Q5
           obtain ⟨ad333,e333,hx333_0,hx333_1,hx333_2,hx333_3⟩:=at_T40 (Kd.R_reads' HO_4.out).2.2 (ji34) p333 q333
           cases e333
           replace p333:=eq_true p333
           replace q333:=eq_true q333
           refine start_ (n:=21) (S:=fun w' => w'.cell? (ad333.add (((ji34)).toNat * 4)) = some (.int .i64 ((rd_T40 x4_1 (ji34)).f0)) ∧ w'.cell? ⟨(ad333.add (((ji34)).toNat * 4)).block,(ad333.add (((ji34)).toNat * 4)).off + 1,none⟩ = some (.int .i64 ((rd_T40 x4_1 (ji34)).f1.f0)) ∧ w'.cell? ⟨(ad333.add (((ji34)).toNat * 4)).block,(ad333.add (((ji34)).toNat * 4)).off + 2,none⟩ = some (.int .i64 ((rd_T40 x4_1 (ji34)).f1.f1)) ∧ w'.cell? ⟨(ad333.add (((ji34)).toNat * 4)).block,(ad333.add (((ji34)).toNat * 4)).off + 3,none⟩ = some (.int .i64 ((rd_T40 x4_1 (ji34)).f1.f2))) (ds:=[18]) #[bF,bF,bF,bF,bF,bF,bF,bF,bF,bF,bF,bF,bF,bF,bF,bF,bF,bF,bF,bF,bF] Q14 rfl rfl ⟨hx333_0,hx333_1,hx333_2,hx333_3⟩ (fun hHeld => ?_);refine with_tabW spec_l71Votes.tab16 spec_l71Votes.bits16 (fun HT_ HW_ => ?_)
           generalize wc.drew = w41 at HO_3 HO_4 HO_9 HI0 HK HB hx333_0 hx333_1 hx333_2 hx333_3 hHeld ⊢
           refine pS HT_ 0 56 ?_
           refine pS HT_ 1 57 ?_
           refine pS HT_ 2 58 ?_
           refine pS HT_ 3 59 ?_
           refine pS HT_ 7 63 ?_
           refine pS HT_ 8 64 ?_
           refine pS HT_ 9 65 ?_
           refine pS HT_ 10 66 ?_
           refine pS HT_ 11 67 ?_
           refine pS HT_ 12 68 ?_
           refine pS HT_ 15 71 ?_
           refine take_ (i:=13) (N:=some 69) (v:=?_) (a':=?_) #[bT,bT,bT,bT,bF,bF,bF,bT,bT,bT,bT,bT,bT,bT,bF,bT,bF,bF,bF,bF,bF] rfl rfl (take_ofW HT_.out HW_.out Q14) (fun _ _ _ h => h) (Or.inl ⟨Q70,?_⟩) hHeld ?_ ?_
           rotate_left
           ·rintro w' ⟨s0,s1,s2,s3⟩
            (try simp only [Int.toNat_natCast] at s0 s1 s2 s3)
            go_simp
            with_reducible rfl
           rotate_left
           ·simp only [Act.put,sI,sZ,sS,i64_w,i32_w]
            rfl
           refine pS HT_ 14 70 ?_
           refine one_ (i:=4) (N:=some 60) #[bT,bT,bT,bT,bT,bF,bF,bT,bT,bT,bT,bT,bT,bT,bT,bT,bF,bF,bF,bF,bF] rfl rfl (one_of HT_.out Q14) Q36 (fun K hK => ?_)
           refine goes_ Try.func40 Q14 rfl #[.pointer (some ⟨g,0,none⟩),.int .i64 (x4_1.length : Int)] Q70 rfl rfl Q1 ?_
           with_reducible refine (spec_l6Rd_pick.calls kj22 g s0_0 x1001_22 (x4_1.length : Int) t324 t325 w0 _ ?side1 ?side2 A30.out).mono ?_
           (case side1 => exact Q0)
           (case side2 => exact Q4)
           rintro e w42 ⟨rfl,hi,hb,hk⟩
           have HS0_:=keep_cell hk (hHeld.1) Q12
           have HS1_:=keep_cell hk (hHeld.2.1) Q12
           have HS2_:=keep_cell hk (hHeld.2.2.1) Q12
           have HS3_:=keep_cell hk (hHeld.2.2.2) Q12
           refine ⟨_,rfl,?_⟩
           have n0_:=aM (Kd.R_mono (Kd.R_keep (IsS76.apart (show IsS76 w0 _ g s0_0 x1001_22 from Q0) (qR HO_3) Q36) hk (fun _ h => h.2)) (fun _ h => h.1))
           have n1_:=aM (Kd.R_mono (Kd.R_keep (IsS76.apart (show IsS76 w0 _ g s0_0 x1001_22 from Q0) (qR HO_4) Q36) hk (fun _ h => h.2)) (fun _ h => h.1))
           have n2_:=aM (Kd.R_mono (Kd.R_keep (IsS76.apart (show IsS76 w0 _ g s0_0 x1001_22 from Q0) (qR HO_9) Q36) hk (fun _ h => h.2)) (fun _ h => h.1))
           have n3_:=aM (KeepBut.trans Q2 hk (.inl rfl))
           have n4_:=aM (hb)
           have n5_:=aM (hi)
           clear HO_3
           clear HO_4
           clear HO_9
           clear HK
           clear HB
           clear HI0
           have HO_3:=n0_
           have HO_4:=n1_
           have HO_9:=n2_
           have HK:=n3_
           have HB:=n4_
           have HI0:=n5_
           clear n0_ n1_ n2_ n3_ n4_ n5_
           (try clear hb)
           (try clear hb2)
           (try clear hk)
           (try clear hi)
           have q43 : (t324 : Int) ≤ ((x4_1.length : Int) : Int):=of_decide_eq_true Q5
           obtain ⟨i043,hi043,_,hsz43,_⟩:=info_parts info40
           have hroom43 : x4_1.length ≤ co24:=(Kd.R_reads' HO_4.out).2.1
           have hC43 : Kd.C k40 _ (some ad333) x4_1.length x4_1:=(Kd.R_reads' HO_4.out).2.2
           have hcut43:=cut_to (P:=Try.prog) 28 40 .i64 Try.underlying28 hi043 (some ad333) x4_1.length co24 t324 (of_decide_eq_true Q5) q43 hroom43
           have hr43:=Kd.C_take (m:=(t324 : Int).toNat) hC43 Q17
           have hy43 : y326.length = (t324 : Int).toNat:=(by rw [Ny326.out,List.length_take];omega)
           rw [← Ny326.out] at hr43
           rw [← hy43] at hcut43
           have HR329:=aM hr43
           have HC329:=aM (show y326.length ≤ co24 from Q17)
           clear hr43 hC43 hroom43 hi043 hsz43
           have KY43:=aM hy43
           clear hy43
           have KL43:=aM (show (t324 : Int).toNat ≤ x4_1.length from Q17)
           replace q43:=eq_true q43
           refine hK.out _ _ ⟨HS0_,HS1_,HS2_,HS3_⟩ (fun hHeld => ?_)
           clear hK K
           refine norm_ (a':=?_) ?_ ?_
           rotate_left
           ·show Act.put _ (some 60) _ = _
            simp only [Act.put,sI,sZ,sS,i64_w,i32_w]
            rfl
           refine pS HT_ 5 61 ?_
           refine one_ (i:=6) (N:=some 62) #[bT,bT,bT,bT,bT,bT,bT,bT,bT,bT,bT,bT,bT,bT,bT,bT,bF,bF,bF,bF,bF] rfl rfl (one_of HT_.out Q14) Q36 (fun K hK => ?_)
           refine goes_ Try.func48 Q14 rfl #[.slice (some ad333) y326.length co24] Q70 rfl rfl Q1 ?_
           with_reducible refine (spec_l1Copy.calls _ _ y326 t330 _ ?side1 ?side2 A33.out).mono ?_
           (case side1 => exact Q143)
           (case side2 => exact HC329.out)
           rintro e w44 ⟨v331,rfl,ho0,hb⟩
           have HS0_:=(hb.cell (World.block_lt_of_cell? _ _ (hHeld.1))).trans (hHeld.1)
           have HS1_:=(hb.cell (World.block_lt_of_cell? _ _ (hHeld.2.1))).trans (hHeld.2.1)
           have HS2_:=(hb.cell (World.block_lt_of_cell? _ _ (hHeld.2.2.1))).trans (hHeld.2.2.1)
           have HS3_:=(hb.cell (World.block_lt_of_cell? _ _ (hHeld.2.2.2))).trans (hHeld.2.2.2)
           refine ⟨_,rfl,?_⟩
           have n0_:=aM (Kd.R_elder' (qR HO_3) (Kd.R_base ho0) hb)
           have n1_:=aM (Kd.R_elder' (qR HO_4) (Kd.R_base ho0) hb)
           have n2_:=aM (Kd.R_elder' (qR HO_9) (Kd.R_base ho0) hb)
           have n3_:=aM (Kd.R_lower (Kd.R_new' (Kd.R_new' ho0 (Kd.R_lt (qR HO_4))) (Kd.R_lt (qR HO_9))) (keep_size (w:=w) (g:=g) (row:=none) Q2))
           have n4_:=aM (IsS76.below Q0 hb)
           have n5_:=aM (Kd.C_below Q59 hb)
           have n6_:=aM (KeepBut.trans Q2 (KeepBut.of_below hb g none) (.inl rfl))
           have n7_:=aM (below_step Q4 hb)
           clear HO_3
           clear HO_4
           clear HO_9
           clear HI0
           clear HR329
           clear HK
           clear HB
           have HO_3:=n0_
           have HO_4:=n1_
           have HO_9:=n2_
           have HO332:=n3_
           have HI0:=n4_
           have HR329:=n5_
           have HK:=n6_
           have HB:=n7_
           clear n0_ n1_ n2_ n3_ n4_ n5_ n6_ n7_
           (try clear hb)
           (try clear hb2)
           (try clear hk)
           (try clear hi)
           (try clear ho0)
           refine hK.out _ _ ⟨HS0_,HS1_,HS2_,HS3_⟩ (fun hHeld => ?_)
           clear hK K
           refine norm_ (a':=?_) ?_ ?_
           rotate_left
           ·show Act.put _ (some 62) _ = _
            simp only [Act.put,sI,sZ,sS,i64_w,i32_w]
            rfl
           refine one_ (i:=16) (N:=some 72) #[bT,bT,bT,bT,bT,bT,bT,bT,bT,bT,bT,bT,bT,bT,bT,bT,bT,bF,bF,bF,bF] rfl rfl (one_of HT_.out Q14) Q36 (fun K hK => ?_)
           refine goes_ Try.func49 Q14 rfl #[.pointer (some ⟨g,0,none⟩)] Q70 rfl rfl Q1 ?_
           with_reducible refine (spec_l71Pay.calls kj22 g s0_0 t325 t334 t335 t336 t337 w0 _ ?side1 ?side2 A37.out).mono ?_
           (case side1 => exact Q0)
           (case side2 => exact Q4)
           rintro e w45 ⟨rfl,hi,hb,hk⟩
           have HS0_:=keep_cell hk (hHeld.1) Q12
           have HS1_:=keep_cell hk (hHeld.2.1) Q12
           have HS2_:=keep_cell hk (hHeld.2.2.1) Q12
           have HS3_:=keep_cell hk (hHeld.2.2.2) Q12
           refine ⟨_,rfl,?_⟩
           have n0_:=aM (Kd.R_mono (Kd.R_keep (IsS76.apart (show IsS76 w0 _ g s0_0 t325 from Q0) (qR HO_3) Q36) hk (fun _ h => h.2)) (fun _ h => h.1))
           have n1_:=aM (Kd.R_mono (Kd.R_keep (IsS76.apart (show IsS76 w0 _ g s0_0 t325 from Q0) (qR HO_4) Q36) hk (fun _ h => h.2)) (fun _ h => h.1))
           have n2_:=aM (Kd.R_mono (Kd.R_keep (IsS76.apart (show IsS76 w0 _ g s0_0 t325 from Q0) (qR HO_9) Q36) hk (fun _ h => h.2)) (fun _ h => h.1))
           have n3_:=aM (Kd.R_mono (Kd.R_keep (IsS76.apart (show IsS76 w0 _ g s0_0 t325 from Q0) (qR HO332) Q36) hk (fun _ h => h.2)) (fun _ h => h.1))
           have n4_:=aM (KeepBut.trans Q2 hk (.inl rfl))
           have n5_:=aM (hb)
           have n6_:=aM (hi)
           clear HO_3
           clear HO_4
           clear HO_9
           clear HO332
           clear HK
           clear HB
           clear HI0
           have HO_3:=n0_
           have HO_4:=n1_
           have HO_9:=n2_
           have HO332:=n3_
           have HK:=n4_
           have HB:=n5_
           have HI0:=n6_
           clear n0_ n1_ n2_ n3_ n4_ n5_ n6_
           (try clear hb)
           (try clear hb2)
           (try clear hk)
           (try clear hi)
           refine hK.out _ _ ⟨HS0_,HS1_,HS2_,HS3_⟩ (fun hHeld => ?_)
           clear hK K
           refine norm_ (a':=?_) ?_ ?_
           rotate_left
           ·show Act.put _ (some 72) _ = _
            simp only [Act.put,sI,sZ,sS,i64_w,i32_w]
            rfl
           refine pS HT_ 17 73 ?_
           refine last_ (i:=18) (N:=some 74) #[bT,bT,bT,bT,bT,bT,bT,bT,bT,bT,bT,bT,bT,bT,bT,bT,bT,bT,bT,bF,bF] rfl rfl (one_of HT_.out Q14) Q36 (fun K hK => ?_)
           refine value_ (w1:=?_) (v:=?_) Q70 rfl ?_ ?_
           rotate_left 2
           ·go_simp
            constructor
            ·rfl
            ·rfl
           refine hK.out _ _ ?_
           clear hK K
           refine norm_ (a':=?_) ?_ ?_
           rotate_left
           ·show Act.put _ (some 74) _ = _
            simp only [Act.put,sI,sZ,sS,i64_w,i32_w]
            rfl
           refine one_ (i:=19) (N:=some 75) #[bT,bT,bT,bT,bT,bT,bT,bT,bT,bT,bT,bT,bT,bT,bT,bT,bT,bT,bT,bT,bF] rfl rfl (one_of HT_.out Q14) Q36 (fun K hK => ?_)
           refine Kd.R_append_step k40 w.heap.size Q70 (.tmp 62) (.tmp 74) 28 40 (.agg #[(.int .i64 0),(.int .i64 0),(.int .i64 0),(.int .i64 0)]) 32 rfl Try.underlying28 info40 rfl Q36 Q17 v331 t330 (⟨wrap64 (((rd_T40 x4_1 (ji34)).f0) + 1),(⟨t334,t335,t336⟩ : S38)⟩ : S40) [.int .i64 (wrap64 (((rd_T40 x4_1 (ji34)).f0) + 1)),.int .i64 t334,.int .i64 t335,.int .i64 t336] (fun k_ => some k_ ≠ (.slice (some ad333) x4_1.length co24 : Value).ownBlock ∧ some k_ ≠ (v319 : Value).ownBlock) (fun _ => False) rfl rfl ?aP (fun _ hk => hk.elim) ?aF ?aO (Below.refl _ _) ?aS ?aL ?_
           (case aP => exact k40_mkM _ _ _ (⟨wrap64 (((rd_T40 x4_1 (ji34)).f0) + 1),(⟨t334,t335,t336⟩ : S38)⟩ : S40))
           (case aF => exact (fun k_ hk => ⟨Kd.fresh' (Kd.R_lt (qR HO_4)) k_ hk,Kd.fresh' (Kd.R_lt (qR HO_9)) k_ hk⟩))
           (case aO => exact Q144)
           (case aS => exact (keep_size (w:=w) (g:=g) (row:=none) Q2))
           (case aL => have:=LMc38.out;omega)
           intro v339 w46 ho hb hg hat
           have HS0_:=cell_grown hg (hHeld.1) (cell_ne_row (fun e_ => ((HO332.out.1 _ e_.symm).1.2) rfl))
           have HS1_:=cell_grown hg (hHeld.2.1) (cell_ne_row (fun e_ => ((HO332.out.1 _ e_.symm).1.2) rfl))
           have HS2_:=cell_grown hg (hHeld.2.2.1) (cell_ne_row (fun e_ => ((HO332.out.1 _ e_.symm).1.2) rfl))
           have HS3_:=cell_grown hg (hHeld.2.2.2) (cell_ne_row (fun e_ => ((HO332.out.1 _ e_.symm).1.2) rfl))
           have hHN0_:=True.intro
           rw [← Ny338.out] at ho
           have n0_:=aM (Kd.R_after (ok:=(fun k_ => some k_ ≠ (.slice (some ad333) x4_1.length co24 : Value).ownBlock ∧ some k_ ≠ (v319 : Value).ownBlock)) (qR HO_3) hg hat)
           have n1_:=aM (Kd.R_after (ok:=(fun k_ => some k_ ≠ (v319 : Value).ownBlock)) (qR HO_4) hg hat)
           have n2_:=aM (Kd.R_after (ok:=(fun k_ => some k_ ≠ (.slice (some ad333) x4_1.length co24 : Value).ownBlock)) (qR HO_9) hg hat)
           have n3_:=aM (IsS76.grown Q0 hg (IsS76.own_ne HI0.out HO332.out Q36))
           have n4_:=aM (below_weaken Q4 HL.out hb)
           have n5_:=aM (KeepBut.trans Q2 (KeepBut.of_grown hg g) (Kd.R_base2 HO332.out))
           have n6_:=aM (ho)
           clear HO_3
           clear HO_4
           clear HO_9
           clear HI0
           clear HB
           clear HK
           clear HO332
           have HO_3:=n0_
           have HO_4:=n1_
           have HO_9:=n2_
           have HI0:=n3_
           have HB:=n4_
           have HK:=n5_
           have HO340:=n6_
           clear n0_ n1_ n2_ n3_ n4_ n5_ n6_
           clear ho hb hg hat
           refine hK.out _ _ ⟨HS0_,HS1_,HS2_,HS3_⟩ (fun hHeld => ?_)
           clear hK K
           refine norm_ (a':=?_) ?_ ?_
           rotate_left
           ·show Act.put _ (some 75) _ = _
            simp only [Act.put,sI,sZ,sS,i64_w,i32_w]
            rfl
           refine pS HT_ 20 9 ?_
           refine done_ (done_of HT_.out Q14) ?_
           obtain ⟨Ao47,co47,eo47⟩:=Kd.R_slice HO340.out
           subst eo47
           try go_wp2_with (first|((with_reducible refine gate_callee (f:=14) rfl ?_);refine goesL_ (some 77) rfl rfl Try.func14 Q14 rfl #[.slice Ao47 y338.length co47] rfl Q1 ?_;(with_reducible refine (spec_ChainOk.calls kj22 _ _ y338 true _ ?side1 ?side2 A39.out).mono ?_);(case side1 => exact Q125);(case side2 => exact (Kd.R_reads' HO340.out).2.1);rintro e w48 ⟨rfl,hb⟩;refine ⟨_,rfl,?_⟩;have n0_:=aM (Kd.R_below (qR HO_3) hb);have n1_:=aM (Kd.R_below (qR HO_4) hb);have n2_:=aM (Kd.R_below (qR HO_9) hb);have n3_:=aM (Kd.R_below (qR HO340) hb);have n4_:=aM (IsS76.below Q0 hb);have n5_:=aM (KeepBut.trans Q2 (KeepBut.of_below hb g none) (.inl rfl));have n6_:=aM (below_step Q4 hb);clear HO_3;clear HO_4;clear HO_9;clear HO340;clear HI0;clear HK;clear HB;have HO_3:=n0_;have HO_4:=n1_;have HO_9:=n2_;have HO340:=n3_;have HI0:=n4_;have HK:=n5_;have HB:=n6_;clear n0_ n1_ n2_ n3_ n4_ n5_ n6_;(try clear hb);(try clear hb2);(try clear hk);(try clear hi)))
           go_roundg kj22
           case measure => have:=HK1.out;have:=HK2.out;have:=HJ22.out;omega
           case rel => exact ⟨(x3_2),(y338),(wrap64 (x5_1 - 1)),(t337),Q11,H',⟨Q141⟩,⟨Q154⟩,⟨by (with_reducible repeat (first|apply Kd.R_alloc|apply Kd.R_drewN|apply Kd.R_drew));exact Kd.R_mono HO340.out (fun _ hk => trivial)⟩,⟨Q0⟩,⟨Q2⟩,⟨Q4⟩⟩
          ·replace c40:=Bool.eq_false_iff.mpr c40
           subst c40
           have H1 : (spec_l71Votes.l0 kj22 x3_2 x4_1 (wrap64 (x5_1 - 1)) s0_0 t337) = some (r1,r2):=by rw [if_neg (show ¬ (false = true) by decide)] at H;exact H
           clear H
           have H:=H1
           clear H1
           have H':=aM H
           clear H
           try go_wp2
           have n0_:=aM (Kd.R_drew HO_3.out)
           have n1_:=aM (Kd.R_drew HO_4.out)
           have n2_:=aM (Kd.R_drew HO_9.out)
           have n3_:=aM (IsS76.drew HI0.out)
           have n4_:=aM (keep_drew HK.out)
           have n5_:=aM (bD HB.out)
           clear HO_3
           clear HO_4
           clear HO_9
           clear HI0
           clear HK
           clear HB
           have HO_3:=n0_
           have HO_4:=n1_
           have HO_9:=n2_
           have HI0:=n3_
           have HK:=n4_
           have HB:=n5_
           clear n0_ n1_ n2_ n3_ n4_ n5_
           have p333 : 0 ≤ ((ji34) : Int):=of_decide_eq_true Q5
           have q333 : (ji34) < (x4_1.length : Int):=of_decide_eq_true Q5
           obtain ⟨ad333,e333,hx333_0,hx333_1,hx333_2,hx333_3⟩:=at_T40 (Kd.R_reads' HO_4.out).2.2 (ji34) p333 q333
           cases e333
           replace p333:=eq_true p333
           replace q333:=eq_true q333
           refine start_ (n:=21) (S:=fun w' => w'.cell? (ad333.add (((ji34)).toNat * 4)) = some (.int .i64 ((rd_T40 x4_1 (ji34)).f0)) ∧ w'.cell? ⟨(ad333.add (((ji34)).toNat * 4)).block,(ad333.add (((ji34)).toNat * 4)).off + 1,none⟩ = some (.int .i64 ((rd_T40 x4_1 (ji34)).f1.f0)) ∧ w'.cell? ⟨(ad333.add (((ji34)).toNat * 4)).block,(ad333.add (((ji34)).toNat * 4)).off + 2,none⟩ = some (.int .i64 ((rd_T40 x4_1 (ji34)).f1.f1)) ∧ w'.cell? ⟨(ad333.add (((ji34)).toNat * 4)).block,(ad333.add (((ji34)).toNat * 4)).off + 3,none⟩ = some (.int .i64 ((rd_T40 x4_1 (ji34)).f1.f2))) (ds:=[18]) #[bF,bF,bF,bF,bF,bF,bF,bF,bF,bF,bF,bF,bF,bF,bF,bF,bF,bF,bF,bF,bF] Q14 rfl rfl ⟨hx333_0,hx333_1,hx333_2,hx333_3⟩ (fun hHeld => ?_);refine with_tabW spec_l71Votes.tab16 spec_l71Votes.bits16 (fun HT_ HW_ => ?_)
           generalize wc.drew = w49 at HO_3 HO_4 HO_9 HI0 HK HB hx333_0 hx333_1 hx333_2 hx333_3 hHeld ⊢
           refine pS HT_ 0 56 ?_
           refine pS HT_ 1 57 ?_
           refine pS HT_ 2 58 ?_
           refine pS HT_ 3 59 ?_
           refine pS HT_ 7 63 ?_
           refine pS HT_ 8 64 ?_
           refine pS HT_ 9 65 ?_
           refine pS HT_ 10 66 ?_
           refine pS HT_ 11 67 ?_
           refine pS HT_ 12 68 ?_
           refine pS HT_ 15 71 ?_
           refine take_ (i:=13) (N:=some 69) (v:=?_) (a':=?_) #[bT,bT,bT,bT,bF,bF,bF,bT,bT,bT,bT,bT,bT,bT,bF,bT,bF,bF,bF,bF,bF] rfl rfl (take_ofW HT_.out HW_.out Q14) (fun _ _ _ h => h) (Or.inl ⟨Q70,?_⟩) hHeld ?_ ?_
           rotate_left
           ·rintro w' ⟨s0,s1,s2,s3⟩
            (try simp only [Int.toNat_natCast] at s0 s1 s2 s3)
            go_simp
            with_reducible rfl
           rotate_left
           ·simp only [Act.put,sI,sZ,sS,i64_w,i32_w]
            rfl
           refine pS HT_ 14 70 ?_
           refine one_ (i:=4) (N:=some 60) #[bT,bT,bT,bT,bT,bF,bF,bT,bT,bT,bT,bT,bT,bT,bT,bT,bF,bF,bF,bF,bF] rfl rfl (one_of HT_.out Q14) Q36 (fun K hK => ?_)
           refine goes_ Try.func40 Q14 rfl #[.pointer (some ⟨g,0,none⟩),.int .i64 (x4_1.length : Int)] Q70 rfl rfl Q1 ?_
           with_reducible refine (spec_l6Rd_pick.calls kj22 g s0_0 x1001_22 (x4_1.length : Int) t324 t325 w0 _ ?side1 ?side2 A30.out).mono ?_
           (case side1 => exact Q0)
           (case side2 => exact Q4)
           rintro e w50 ⟨rfl,hi,hb,hk⟩
           have HS0_:=keep_cell hk (hHeld.1) Q12
           have HS1_:=keep_cell hk (hHeld.2.1) Q12
           have HS2_:=keep_cell hk (hHeld.2.2.1) Q12
           have HS3_:=keep_cell hk (hHeld.2.2.2) Q12
           refine ⟨_,rfl,?_⟩
           have n0_:=aM (Kd.R_mono (Kd.R_keep (IsS76.apart (show IsS76 w0 _ g s0_0 x1001_22 from Q0) (qR HO_3) Q36) hk (fun _ h => h.2)) (fun _ h => h.1))
           have n1_:=aM (Kd.R_mono (Kd.R_keep (IsS76.apart (show IsS76 w0 _ g s0_0 x1001_22 from Q0) (qR HO_4) Q36) hk (fun _ h => h.2)) (fun _ h => h.1))
           have n2_:=aM (Kd.R_mono (Kd.R_keep (IsS76.apart (show IsS76 w0 _ g s0_0 x1001_22 from Q0) (qR HO_9) Q36) hk (fun _ h => h.2)) (fun _ h => h.1))
           have n3_:=aM (KeepBut.trans Q2 hk (.inl rfl))
           have n4_:=aM (hb)
           have n5_:=aM (hi)
           clear HO_3
           clear HO_4
           clear HO_9
           clear HK
           clear HB
           clear HI0
           have HO_3:=n0_
           have HO_4:=n1_
           have HO_9:=n2_
           have HK:=n3_
           have HB:=n4_
           have HI0:=n5_
           clear n0_ n1_ n2_ n3_ n4_ n5_
           (try clear hb)
           (try clear hb2)
           (try clear hk)
           (try clear hi)
           have q51 : (t324 : Int) ≤ ((x4_1.length : Int) : Int):=of_decide_eq_true Q5
           obtain ⟨i051,hi051,_,hsz51,_⟩:=info_parts info40
           have hroom51 : x4_1.length ≤ co24:=(Kd.R_reads' HO_4.out).2.1
           have hC51 : Kd.C k40 _ (some ad333) x4_1.length x4_1:=(Kd.R_reads' HO_4.out).2.2
           have hcut51:=cut_to (P:=Try.prog) 28 40 .i64 Try.underlying28 hi051 (some ad333) x4_1.length co24 t324 (of_decide_eq_true Q5) q51 hroom51
           have hr51:=Kd.C_take (m:=(t324 : Int).toNat) hC51 Q17
           have hy51 : y326.length = (t324 : Int).toNat:=(by rw [Ny326.out,List.length_take];omega)
           rw [← Ny326.out] at hr51
           rw [← hy51] at hcut51
           have HR329:=aM hr51
           have HC329:=aM (show y326.length ≤ co24 from Q17)
           clear hr51 hC51 hroom51 hi051 hsz51
           have KY51:=aM hy51
           clear hy51
           have KL51:=aM (show (t324 : Int).toNat ≤ x4_1.length from Q17)
           replace q51:=eq_true q51
           refine hK.out _ _ ⟨HS0_,HS1_,HS2_,HS3_⟩ (fun hHeld => ?_)
           clear hK K
           refine norm_ (a':=?_) ?_ ?_
           rotate_left
           ·show Act.put _ (some 60) _ = _
            simp only [Act.put,sI,sZ,sS,i64_w,i32_w]
            rfl
           refine pS HT_ 5 61 ?_
           refine one_ (i:=6) (N:=some 62) #[bT,bT,bT,bT,bT,bT,bT,bT,bT,bT,bT,bT,bT,bT,bT,bT,bF,bF,bF,bF,bF] rfl rfl (one_of HT_.out Q14) Q36 (fun K hK => ?_)
           refine goes_ Try.func48 Q14 rfl #[.slice (some ad333) y326.length co24] Q70 rfl rfl Q1 ?_
           with_reducible refine (spec_l1Copy.calls _ _ y326 t330 _ ?side1 ?side2 A33.out).mono ?_
           (case side1 => exact Q143)
           (case side2 => exact HC329.out)
           rintro e w52 ⟨v331,rfl,ho0,hb⟩
           have HS0_:=(hb.cell (World.block_lt_of_cell? _ _ (hHeld.1))).trans (hHeld.1)
           have HS1_:=(hb.cell (World.block_lt_of_cell? _ _ (hHeld.2.1))).trans (hHeld.2.1)
           have HS2_:=(hb.cell (World.block_lt_of_cell? _ _ (hHeld.2.2.1))).trans (hHeld.2.2.1)
           have HS3_:=(hb.cell (World.block_lt_of_cell? _ _ (hHeld.2.2.2))).trans (hHeld.2.2.2)
           refine ⟨_,rfl,?_⟩
           have n0_:=aM (Kd.R_elder' (qR HO_3) (Kd.R_base ho0) hb)
           have n1_:=aM (Kd.R_elder' (qR HO_4) (Kd.R_base ho0) hb)
           have n2_:=aM (Kd.R_elder' (qR HO_9) (Kd.R_base ho0) hb)
           have n3_:=aM (Kd.R_lower (Kd.R_new' (Kd.R_new' ho0 (Kd.R_lt (qR HO_4))) (Kd.R_lt (qR HO_9))) (keep_size (w:=w) (g:=g) (row:=none) Q2))
           have n4_:=aM (IsS76.below Q0 hb)
           have n5_:=aM (Kd.C_below Q59 hb)
           have n6_:=aM (KeepBut.trans Q2 (KeepBut.of_below hb g none) (.inl rfl))
           have n7_:=aM (below_step Q4 hb)
           clear HO_3
           clear HO_4
           clear HO_9
           clear HI0
           clear HR329
           clear HK
           clear HB
           have HO_3:=n0_
           have HO_4:=n1_
           have HO_9:=n2_
           have HO332:=n3_
           have HI0:=n4_
           have HR329:=n5_
           have HK:=n6_
           have HB:=n7_
           clear n0_ n1_ n2_ n3_ n4_ n5_ n6_ n7_
           (try clear hb)
           (try clear hb2)
           (try clear hk)
           (try clear hi)
           (try clear ho0)
           refine hK.out _ _ ⟨HS0_,HS1_,HS2_,HS3_⟩ (fun hHeld => ?_)
           clear hK K
           refine norm_ (a':=?_) ?_ ?_
           rotate_left
           ·show Act.put _ (some 62) _ = _
            simp only [Act.put,sI,sZ,sS,i64_w,i32_w]
            rfl
           refine one_ (i:=16) (N:=some 72) #[bT,bT,bT,bT,bT,bT,bT,bT,bT,bT,bT,bT,bT,bT,bT,bT,bT,bF,bF,bF,bF] rfl rfl (one_of HT_.out Q14) Q36 (fun K hK => ?_)
           refine goes_ Try.func49 Q14 rfl #[.pointer (some ⟨g,0,none⟩)] Q70 rfl rfl Q1 ?_
           with_reducible refine (spec_l71Pay.calls kj22 g s0_0 t325 t334 t335 t336 t337 w0 _ ?side1 ?side2 A37.out).mono ?_
           (case side1 => exact Q0)
           (case side2 => exact Q4)
           rintro e w53 ⟨rfl,hi,hb,hk⟩
           have HS0_:=keep_cell hk (hHeld.1) Q12
           have HS1_:=keep_cell hk (hHeld.2.1) Q12
           have HS2_:=keep_cell hk (hHeld.2.2.1) Q12
           have HS3_:=keep_cell hk (hHeld.2.2.2) Q12
           refine ⟨_,rfl,?_⟩
           have n0_:=aM (Kd.R_mono (Kd.R_keep (IsS76.apart (show IsS76 w0 _ g s0_0 t325 from Q0) (qR HO_3) Q36) hk (fun _ h => h.2)) (fun _ h => h.1))
           have n1_:=aM (Kd.R_mono (Kd.R_keep (IsS76.apart (show IsS76 w0 _ g s0_0 t325 from Q0) (qR HO_4) Q36) hk (fun _ h => h.2)) (fun _ h => h.1))
           have n2_:=aM (Kd.R_mono (Kd.R_keep (IsS76.apart (show IsS76 w0 _ g s0_0 t325 from Q0) (qR HO_9) Q36) hk (fun _ h => h.2)) (fun _ h => h.1))
           have n3_:=aM (Kd.R_mono (Kd.R_keep (IsS76.apart (show IsS76 w0 _ g s0_0 t325 from Q0) (qR HO332) Q36) hk (fun _ h => h.2)) (fun _ h => h.1))
           have n4_:=aM (KeepBut.trans Q2 hk (.inl rfl))
           have n5_:=aM (hb)
           have n6_:=aM (hi)
           clear HO_3
           clear HO_4
           clear HO_9
           clear HO332
           clear HK
           clear HB
           clear HI0
           have HO_3:=n0_
           have HO_4:=n1_
           have HO_9:=n2_
           have HO332:=n3_
           have HK:=n4_
           have HB:=n5_
           have HI0:=n6_
           clear n0_ n1_ n2_ n3_ n4_ n5_ n6_
           (try clear hb)
           (try clear hb2)
           (try clear hk)
           (try clear hi)
           refine hK.out _ _ ⟨HS0_,HS1_,HS2_,HS3_⟩ (fun hHeld => ?_)
           clear hK K
           refine norm_ (a':=?_) ?_ ?_
           rotate_left
           ·show Act.put _ (some 72) _ = _
            simp only [Act.put,sI,sZ,sS,i64_w,i32_w]
            rfl
           refine pS HT_ 17 73 ?_
           refine last_ (i:=18) (N:=some 74) #[bT,bT,bT,bT,bT,bT,bT,bT,bT,bT,bT,bT,bT,bT,bT,bT,bT,bT,bT,bF,bF] rfl rfl (one_of HT_.out Q14) Q36 (fun K hK => ?_)
           refine value_ (w1:=?_) (v:=?_) Q70 rfl ?_ ?_
           rotate_left 2
           ·go_simp
            constructor
            ·rfl
            ·rfl
           refine hK.out _ _ ?_
           clear hK K
           refine norm_ (a':=?_) ?_ ?_
           rotate_left
           ·show Act.put _ (some 74) _ = _
            simp only [Act.put,sI,sZ,sS,i64_w,i32_w]
            rfl
           refine one_ (i:=19) (N:=some 75) #[bT,bT,bT,bT,bT,bT,bT,bT,bT,bT,bT,bT,bT,bT,bT,bT,bT,bT,bT,bT,bF] rfl rfl (one_of HT_.out Q14) Q36 (fun K hK => ?_)
           refine Kd.R_append_step k40 w.heap.size Q70 (.tmp 62) (.tmp 74) 28 40 (.agg #[(.int .i64 0),(.int .i64 0),(.int .i64 0),(.int .i64 0)]) 32 rfl Try.underlying28 info40 rfl Q36 Q17 v331 t330 (⟨wrap64 (((rd_T40 x4_1 (ji34)).f0) + 1),(⟨t334,t335,t336⟩ : S38)⟩ : S40) [.int .i64 (wrap64 (((rd_T40 x4_1 (ji34)).f0) + 1)),.int .i64 t334,.int .i64 t335,.int .i64 t336] (fun k_ => some k_ ≠ (.slice (some ad333) x4_1.length co24 : Value).ownBlock ∧ some k_ ≠ (v319 : Value).ownBlock) (fun _ => False) rfl rfl ?aP (fun _ hk => hk.elim) ?aF ?aO (Below.refl _ _) ?aS ?aL ?_
           (case aP => exact k40_mkM _ _ _ (⟨wrap64 (((rd_T40 x4_1 (ji34)).f0) + 1),(⟨t334,t335,t336⟩ : S38)⟩ : S40))
           (case aF => exact (fun k_ hk => ⟨Kd.fresh' (Kd.R_lt (qR HO_4)) k_ hk,Kd.fresh' (Kd.R_lt (qR HO_9)) k_ hk⟩))
           (case aO => exact Q144)
           (case aS => exact (keep_size (w:=w) (g:=g) (row:=none) Q2))
           (case aL => have:=LMc38.out;omega)
           intro v339 w54 ho hb hg hat
           have HS0_:=cell_grown hg (hHeld.1) (cell_ne_row (fun e_ => ((HO332.out.1 _ e_.symm).1.2) rfl))
           have HS1_:=cell_grown hg (hHeld.2.1) (cell_ne_row (fun e_ => ((HO332.out.1 _ e_.symm).1.2) rfl))
           have HS2_:=cell_grown hg (hHeld.2.2.1) (cell_ne_row (fun e_ => ((HO332.out.1 _ e_.symm).1.2) rfl))
           have HS3_:=cell_grown hg (hHeld.2.2.2) (cell_ne_row (fun e_ => ((HO332.out.1 _ e_.symm).1.2) rfl))
           have hHN1_:=True.intro
           rw [← Ny338.out] at ho
           have n0_:=aM (Kd.R_after (ok:=(fun k_ => some k_ ≠ (.slice (some ad333) x4_1.length co24 : Value).ownBlock ∧ some k_ ≠ (v319 : Value).ownBlock)) (qR HO_3) hg hat)
           have n1_:=aM (Kd.R_after (ok:=(fun k_ => some k_ ≠ (v319 : Value).ownBlock)) (qR HO_4) hg hat)
           have n2_:=aM (Kd.R_after (ok:=(fun k_ => some k_ ≠ (.slice (some ad333) x4_1.length co24 : Value).ownBlock)) (qR HO_9) hg hat)
           have n3_:=aM (IsS76.grown Q0 hg (IsS76.own_ne HI0.out HO332.out Q36))
           have n4_:=aM (below_weaken Q4 HL.out hb)
           have n5_:=aM (KeepBut.trans Q2 (KeepBut.of_grown hg g) (Kd.R_base2 HO332.out))
           have n6_:=aM (ho)
           clear HO_3
           clear HO_4
           clear HO_9
           clear HI0
           clear HB
           clear HK
           clear HO332
           have HO_3:=n0_
           have HO_4:=n1_
           have HO_9:=n2_
           have HI0:=n3_
           have HB:=n4_
           have HK:=n5_
           have HO340:=n6_
           clear n0_ n1_ n2_ n3_ n4_ n5_ n6_
           clear ho hb hg hat
           refine hK.out _ _ ⟨HS0_,HS1_,HS2_,HS3_⟩ (fun hHeld => ?_)
           clear hK K
           refine norm_ (a':=?_) ?_ ?_
           rotate_left
           ·show Act.put _ (some 75) _ = _
            simp only [Act.put,sI,sZ,sS,i64_w,i32_w]
            rfl
           refine pS HT_ 20 9 ?_
           refine done_ (done_of HT_.out Q14) ?_
           obtain ⟨Ao55,co55,eo55⟩:=Kd.R_slice HO340.out
           subst eo55
           try go_wp2_with (first|((with_reducible refine gate_callee (f:=14) rfl ?_);refine goesL_ (some 77) rfl rfl Try.func14 Q14 rfl #[.slice Ao55 y338.length co55] rfl Q1 ?_;(with_reducible refine (spec_ChainOk.calls kj22 _ _ y338 false _ ?side1 ?side2 A39.out).mono ?_);(case side1 => exact Q125);(case side2 => exact (Kd.R_reads' HO340.out).2.1);rintro e w56 ⟨rfl,hb⟩;refine ⟨_,rfl,?_⟩;have n0_:=aM (Kd.R_below (qR HO_3) hb);have n1_:=aM (Kd.R_below (qR HO_4) hb);have n2_:=aM (Kd.R_below (qR HO_9) hb);have n3_:=aM (Kd.R_below (qR HO340) hb);have n4_:=aM (IsS76.below Q0 hb);have n5_:=aM (KeepBut.trans Q2 (KeepBut.of_below hb g none) (.inl rfl));have n6_:=aM (below_step Q4 hb);clear HO_3;clear HO_4;clear HO_9;clear HO340;clear HI0;clear HK;clear HB;have HO_3:=n0_;have HO_4:=n1_;have HO_9:=n2_;have HO340:=n3_;have HI0:=n4_;have HK:=n5_;have HB:=n6_;clear n0_ n1_ n2_ n3_ n4_ n5_ n6_;(try clear hb);(try clear hb2);(try clear hk);(try clear hi)))
           go_roundg kj22
           case measure => have:=HK1.out;have:=HK2.out;have:=HJ22.out;omega
           case rel => exact ⟨(x3_2),(x4_1),(wrap64 (x5_1 - 1)),(t337),Q11,H',⟨Q141⟩,⟨by (with_reducible repeat (first|apply Kd.R_alloc|apply Kd.R_drewN|apply Kd.R_drew));exact Kd.R_mono HO_3.out (fun _ hk => hk.1.1)⟩,⟨Q150⟩,⟨Q0⟩,⟨Q2⟩,⟨Q4⟩⟩
         ·replace c29:=Bool.eq_false_iff.mpr c29
          subst c29
          have H1 : ((spec_ChainOk.f kj22 t318).bind fun t342 => (if t342 = true then (spec_l71Votes.l0 kj22 x3_2 t318 (wrap64 (x5_1 - 1)) s0_0 x1001_22) else (spec_l71Votes.l0 kj22 x3_2 x4_1 (wrap64 (x5_1 - 1)) s0_0 x1001_22))) = some (r1,r2):=by rw [if_neg (show ¬ (false = true) by decide)] at H;exact H
          clear H
          have H:=H1
          clear H1
          replace H:=Option.bind_eq_some_iff.mp H
          obtain ⟨t342,A570,H⟩:=H
          replace H : (if t342 = true then (spec_l71Votes.l0 kj22 x3_2 t318 (wrap64 (x5_1 - 1)) s0_0 x1001_22) else (spec_l71Votes.l0 kj22 x3_2 x4_1 (wrap64 (x5_1 - 1)) s0_0 x1001_22)) = some (r1,r2):=H
          have A57:=aM A570
          clear A570
          by_cases c58 : t342 = true
          ·subst c58
           have H1 : (spec_l71Votes.l0 kj22 x3_2 t318 (wrap64 (x5_1 - 1)) s0_0 x1001_22) = some (r1,r2):=by rw [if_pos rfl] at H;exact H
           clear H
           have H:=H1
           clear H1
           have H':=aM H
           clear H
           obtain ⟨Ao59,co59,eo59⟩:=Kd.R_slice HO_9.out
           subst eo59
           go_wp2_with (first|((with_reducible refine gate_callee (f:=14) rfl ?_);refine goesL_ (some 77) rfl rfl Try.func14 Q14 rfl #[.slice Ao59 t318.length co59] rfl Q1 ?_;(with_reducible refine (spec_ChainOk.calls kj22 _ _ t318 true _ ?side1 ?side2 A57.out).mono ?_);(case side1 => exact Q127);(case side2 => exact (Kd.R_reads' HO_9.out).2.1);rintro e w60 ⟨rfl,hb⟩;refine ⟨_,rfl,?_⟩;have n0_:=aM (Kd.R_below (qR HO_3) hb);have n1_:=aM (Kd.R_below (qR HO_4) hb);have n2_:=aM (Kd.R_below (qR HO_9) hb);have n3_:=aM (IsS76.below Q0 hb);have n4_:=aM (KeepBut.trans Q2 (KeepBut.of_below hb g none) (.inl rfl));have n5_:=aM (below_step Q4 hb);clear HO_3;clear HO_4;clear HO_9;clear HI0;clear HK;clear HB;have HO_3:=n0_;have HO_4:=n1_;have HO_9:=n2_;have HI0:=n3_;have HK:=n4_;have HB:=n5_;clear n0_ n1_ n2_ n3_ n4_ n5_;(try clear hb);(try clear hb2);(try clear hk);(try clear hi)))
           go_roundg kj22
           case measure => have:=HK1.out;have:=HK2.out;have:=HJ22.out;omega
           case rel => exact ⟨(x3_2),(t318),(wrap64 (x5_1 - 1)),(x1001_22),Q11,H',⟨Q141⟩,⟨Q154⟩,⟨by (with_reducible repeat (first|apply Kd.R_alloc|apply Kd.R_drewN|apply Kd.R_drew));exact Kd.R_mono HO_9.out (fun _ hk => trivial)⟩,⟨Q0⟩,⟨Q2⟩,⟨Q4⟩⟩
          ·replace c58:=Bool.eq_false_iff.mpr c58
           subst c58
           have H1 : (spec_l71Votes.l0 kj22 x3_2 x4_1 (wrap64 (x5_1 - 1)) s0_0 x1001_22) = some (r1,r2):=by rw [if_neg (show ¬ (false = true) by decide)] at H;exact H
           clear H
           have H:=H1
           clear H1
           have H':=aM H
           clear H
           obtain ⟨Ao61,co61,eo61⟩:=Kd.R_slice HO_9.out
           subst eo61
           go_wp2_with (first|((with_reducible refine gate_callee (f:=14) rfl ?_);refine goesL_ (some 77) rfl rfl Try.func14 Q14 rfl #[.slice Ao61 t318.length co61] rfl Q1 ?_;(with_reducible refine (spec_ChainOk.calls kj22 _ _ t318 false _ ?side1 ?side2 A57.out).mono ?_);(case side1 => exact Q127);(case side2 => exact (Kd.R_reads' HO_9.out).2.1);rintro e w62 ⟨rfl,hb⟩;refine ⟨_,rfl,?_⟩;have n0_:=aM (Kd.R_below (qR HO_3) hb);have n1_:=aM (Kd.R_below (qR HO_4) hb);have n2_:=aM (Kd.R_below (qR HO_9) hb);have n3_:=aM (IsS76.below Q0 hb);have n4_:=aM (KeepBut.trans Q2 (KeepBut.of_below hb g none) (.inl rfl));have n5_:=aM (below_step Q4 hb);clear HO_3;clear HO_4;clear HO_9;clear HI0;clear HK;clear HB;have HO_3:=n0_;have HO_4:=n1_;have HO_9:=n2_;have HI0:=n3_;have HK:=n4_;have HB:=n5_;clear n0_ n1_ n2_ n3_ n4_ n5_;(try clear hb);(try clear hb2);(try clear hk);(try clear hi)))
           go_roundg kj22
           case measure => have:=HK1.out;have:=HK2.out;have:=HJ22.out;omega
           case rel => exact ⟨(x3_2),(x4_1),(wrap64 (x5_1 - 1)),(x1001_22),Q11,H',⟨Q141⟩,⟨by (with_reducible repeat (first|apply Kd.R_alloc|apply Kd.R_drewN|apply Kd.R_drew));exact Kd.R_mono HO_3.out (fun _ hk => hk.1)⟩,⟨Q150⟩,⟨Q0⟩,⟨Q2⟩,⟨Q4⟩⟩
   ·rw [if_neg c8] at H
    have c8b0 : decide (0 < x5_1) = false:=decide_eq_false c8
    clear c8
    simp only [Option.some.injEq,Prod.mk.injEq] at H
    obtain ⟨rfl,rfl⟩:=H
    go_wp2
    go_ret
    exact ⟨_,Q6,by (with_reducible repeat (first|apply Kd.R_alloc|apply Kd.R_drewN|apply Kd.R_drew));exact Kd.R_mono HO_3.out (fun _ hk => trivial),Q0,Q4,Q2⟩

end Go.Proofs.Ytlcfalecbpnhbaa.P
