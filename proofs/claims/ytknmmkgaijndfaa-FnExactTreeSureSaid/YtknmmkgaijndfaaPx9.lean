/- The printed functions: what each Go function computes, as a Lean function, and that the Go code comes to just that. Conditions: none beyond each contract's own. -/
import Derived.Test.YtknmmkgaijndfaaPx0
import Derived.Test.YtknmmkgaijndfaaPx7
import Derived.Test.YtknmmkgaijndfaaPx8
namespace Go.Proofs.Ytknmmkgaijndfaa.P
open Go.RowKit Go.Proofs.YtknmmkgaijndfaaW.PrintWords Go.Proofs.YtknmmkgaijndfaaW.PrintLast Go.Proofs.YtknmmkgaijndfaaW.PrintMore
attribute [local go_sem] max2_int min2_int max_two min_two max_three min_three max_four min_four   -- for this text's walks alone
set_option linter.unusedVariables false
set_option linter.unusedSimpArgs false

/-! ### impl_votes_voters: function 43 -/
section
variable {P : Program} {ops : Array Oper} {rest : List Oper} {o : Oper} {a : Act} {Q : Exit → Act → World → Prop} {α : Type}
/-- make([]T, 0, c): a row of no element, with room for c. -/
theorem R_makecap (d : Kd α) {w0 W : World} (base e : Nat) (hgd : o.guard = none) {N : Tmp} (hd : o.dst = some N) (t : TypeId) (x y : Operand) (ho : o.op = .makeSlice t x y) (n : Int) (c : Nat) (hn : n = 0) (hx : a.eval x = .int .i64 n) (hy : a.eval y = .int .i64 (c : Int))
  (ht : P.underlying t = some (.slice e)) (z : Value) (bytes : Nat) (hinfo : (P.info? e).map (fun i => (i.zero,i.size,i.bytes)) = some (some z,d.sz,bytes)) {ok : Nat → Prop} (hfresh : ok W.heap.size) (hl : bytes * c ≤ 281474976710656) (hc : c ≤ 9223372036854775807) (HB : Below base w0 W) (hbase : base ≤ W.heap.size)
  (h : ∀ v1 w1,d.R e w1 base ok v1 ([] : List α) → Below base w0 w1 → W.grownBy w1 none → (∃ b,v1.ownBlock = some b ∧ W.heap.size ≤ b) → wpList P ops Q rest (a.put o.dst v1) w1) : wpList P ops Q (o :: rest) a W:=by
 obtain ⟨i0,hi,hzz⟩:=Option.map_eq_some_iff.1 hinfo
 simp only [Prod.mk.injEq] at hzz
 obtain ⟨hz0,hz1,hz2⟩:=hzz
 subst hn
 have h63' : (c : Int) ≤ 9223372036854775807:=by omega
 have hb' : (i0.bytes : Int) * (c : Int) ≤ 281474976710656:=by
  have h : ((i0.bytes * c : Nat) : Int) ≤ 281474976710656:=by rw [hz2];omega
  rwa [Int.natCast_mul] at h
 have hr:=run_make (P:=P) W t e i0 z ht hi hz0 .i64 .i64 0 (c : Int) (Int.le_refl _) (by omega) hb' h63'
 simp only [Int.toNat_zero,Int.toNat_natCast] at hr
 have hown:=World.ownsRow_made (e:=e) (size:=i0.size) W (madeCells z.cells (c * i0.size)) c hbase (by simpa [maxLen] using hc) (size_madeCells _ _)
 rw [hz1] at hr hown
 refine Kd.event_run hgd (by simp [execOp,ho,hx,hy,hr]) (h _ _ ⟨fun k hk => ?_,[],hown,Reps.none _ _⟩ (HB.alloc hbase _) (World.grownBy_alloc W _ none) ⟨W.heap.size,by simp [Value.ownBlock],Nat.le_refl _⟩)
 have : W.heap.size = k:=by simpa [Value.ownBlock] using hk
 subst this
 exact hfresh
end
def impl_votes_voters.l0 : Nat → List (S48) → List (S58) → List Int → Int → Option (List Int)
 | 0,_,_,_,_ => none
 | k + 1,x0,x1,x5,x6 => if x6 ≤ 4 then ((impl_votes_has.f k x0 x6 x1).bind fun t169 => (if t169 = true then (if x5.length < 17592186044416 then (impl_votes_voters.l0 k x0 x1 (x5 ++ [x6]) (wrap64 (x6 + 1))) else (none)) else (impl_votes_voters.l0 k x0 x1 x5 (wrap64 (x6 + 1))))) else (some x5)
def impl_votes_voters.f (k : Nat) (l0 : List (S48)) (l1 : List (S58)) : Option (List Int):=impl_votes_voters.l0 k l0 l1 ([] : List Int) 1
theorem impl_votes_voters.mono_l : ∀ k,(∀ y0 y1 y2 y3,LeO (impl_votes_voters.l0 k y0 y1 y2 y3) (impl_votes_voters.l0 (k + 1) y0 y1 y2 y3))
 | 0 => fun _ _ _ _ r h => by simp [impl_votes_voters.l0] at h
 | k + 1 => by
  have ih0:=impl_votes_voters.mono_l k
  ·intro y0 y1 y2 y3
   unfold impl_votes_voters.l0
   repeat' first
   | exact LeO.refl _
   | exact ih0 _ _ _ _
   | exact impl_votes_has.mono _ _ _ _
   | exact LeO.none _
   | refine LeO.ite ?_ ?_
   | refine LeO.bind ?_ (fun _ => ?_)
theorem impl_votes_voters.mono : ∀ a0 a1 k,LeO (impl_votes_voters.f k a0 a1) (impl_votes_voters.f (k + 1) a0 a1):=by
 intro a0 a1 k
 have ih0:=impl_votes_voters.mono_l k
 unfold impl_votes_voters.f
 repeat' first
   | exact LeO.refl _
   | exact ih0 _ _ _ _
   | exact impl_votes_has.mono _ _ _ _
   | exact LeO.none _
   | refine LeO.ite ?_ ?_
   | refine LeO.bind ?_ (fun _ => ?_)
set_option maxHeartbeats 8000000 in
set_option maxRecDepth 100000 in
theorem impl_votes_voters.callsX (k : Nat) (A0 : Option Addr) (c0 : Nat) (l0 : List (S48)) (A1 : Option Addr) (c1 : Nat) (l1 : List (S58)) (r : List Int) (w : World) (hr0 : Kd.C k48 w A0 l0.length l0) (hc0 : l0.length ≤ c0) (hr1 : Kd.C k58 w A1 l1.length l1) (hc1 : l1.length ≤ c1) (h : impl_votes_voters.f k l0 l1 = some r) :
  Calls Try.prog 43 #[.slice A0 l0.length c0,.slice A1 l1.length c1] w fun e w' => ∃ (A : Option Addr) (c : Nat),e = .returned (.slice A r.length r.length) ∧ Kd.R (Kd.int .i64) 3 w' w.heap.size (fun _ => True) (.slice A r.length c) r ∧ Below w.heap.size w w':=by
 have hu48:=Try.underlying48
 have HR0:=aM hr0
 have HC0:=aM hc0
 clear hr0 hc0
 have HR1:=aM hr1
 have HC1:=aM hc1
 clear hr1 hc1
 have HB:=aM (Below.refl w.heap.size w)
 have H : (impl_votes_voters.l0 k l0 l1 ([] : List Int) 1) = some r:=h
 clear h
 obtain ⟨y166,hy166⟩ : ∃ y_ : List Int,y_ = ([] : List Int):=⟨_,rfl⟩
 replace H : (impl_votes_voters.l0 k l0 l1 y166 1) = some r:=by first|(rw [hy166];with_reducible exact H)|(have H2_:=(Option.bind_some _ _).symm.trans H;rw [hy166];with_reducible exact H2_)|(have H2_:=(Option.bind_some _ _).symm.trans H;with_reducible exact H2_)|with_reducible exact H|(rw [hy166];exact H)|exact H
 have Ny166:=aM hy166
 clear hy166
 have H':=aM H
 clear H
 go_enter Try.func43,Try.ntmps43
 go_wp2_with (first|((with_reducible refine gate_dst (N:=7) rfl ?_);refine R_makecap (Kd.int .i64) _ 3 rfl (N:=7) rfl 34 _ _ rfl _ 4 rfl rfl rfl Try.underlying34 (.int .i64 0) 8 info3 (ok:=fun _ => True) trivial (by omega) (by omega) (Below.refl _ _) (Nat.le_refl _) ?_;intro v167 w3 ho4 hb hg_ hnew_;clear hg_ hnew_;(first|rw [← Ny166.out] at ho4|(simp only [Int.reduceToNat] at ho4;rw [← Ny166.out] at ho4));have n0_:=aM (Kd.R_lower ho4 (below_size (by repeat (first|(with_reducible first|exact HB.out|apply bA|apply bN|apply bD)|exact HB.out))));have n1_:=aM (below_step (by repeat (first|(with_reducible first|exact HB.out|apply bA|apply bN|apply bD)|exact HB.out)) hb);clear HB;have HO168:=n0_;have HB:=n1_;clear n0_ n1_;clear hb ho4))
 go_loopg [5,6] k (fun kq v5 v6 w' => ∃ (x5_1 : List Int) (x6_1 : Int),v6 = .int .i64 x6_1 ∧ Aside0 (impl_votes_voters.l0 kq l0 l1 x5_1 x6_1 = some r) ∧ Aside0 (kq ≤ k) ∧ Aside0 (Kd.R (Kd.int .i64) 3 w' w.heap.size (fun _ => True) v5 x5_1) ∧ Aside0 (Below w.heap.size w w'))
 case atStart => exact ⟨(y166),(1),(by first|rfl|(simp;done)|(simp [*];done)),H',⟨Nat.le_refl _⟩,⟨by (with_reducible repeat (first|apply Kd.R_alloc|apply Kd.R_drewN|apply Kd.R_drew));exact HO168.out⟩,⟨by repeat (first|(with_reducible first|exact HB.out|apply bA|apply bN|apply bD)|exact HB.out)⟩⟩
 case round =>
  clear H'
  try clear c1
  try clear p2
  try clear c4
  obtain ⟨x5_1,x6_1,rfl,HA,HK1,HO_5,HB⟩:=hrel
  cases gk with
  | zero => exact absurd HA.out (by simp [impl_votes_voters.l0])
  | succ k1 =>
   have H:=HA.out
   clear HA
   simp only [impl_votes_voters.l0] at H
   by_cases c5 : x6_1 ≤ 4
   ·rw [if_pos c5] at H
    have c5b0 : decide (x6_1 ≤ 4) = true:=decide_eq_true c5
    clear c5
    replace H:=Option.bind_eq_some_iff.mp H
    obtain ⟨t169,A60,H⟩:=H
    replace H : (if t169 = true then (if x5_1.length < 17592186044416 then (impl_votes_voters.l0 k1 l0 l1 (x5_1 ++ [x6_1]) (wrap64 (x6_1 + 1))) else (none)) else (impl_votes_voters.l0 k1 l0 l1 x5_1 (wrap64 (x6_1 + 1)))) = some r:=H
    have A6:=aM A60
    clear A60
    by_cases c7 : t169 = true
    ·subst c7
     have H1 : (if x5_1.length < 17592186044416 then (impl_votes_voters.l0 k1 l0 l1 (x5_1 ++ [x6_1]) (wrap64 (x6_1 + 1))) else (none)) = some r:=by rw [if_pos rfl] at H;exact H
     clear H
     have H:=H1
     clear H1
     by_cases c8 : x5_1.length < 17592186044416
     case neg => rw [if_neg c8] at H;exact absurd H (by simp)
     rw [if_pos c8] at H
     have LMc8:=aM c8
     clear c8
     obtain ⟨y170,hy170⟩ : ∃ y_ : List Int,y_ = (x5_1 ++ [x6_1]):=⟨_,rfl⟩
     replace H : (impl_votes_voters.l0 k1 l0 l1 y170 (wrap64 (x6_1 + 1))) = some r:=by first|(rw [hy170];with_reducible exact H)|(have H2_:=(Option.bind_some _ _).symm.trans H;rw [hy170];with_reducible exact H2_)|(have H2_:=(Option.bind_some _ _).symm.trans H;with_reducible exact H2_)|with_reducible exact H|(rw [hy170];exact H)|exact H
     have Ny170:=aM hy170
     clear hy170
     have H':=aM H
     clear H
     go_wp2_with (first|((with_reducible refine gate_callee (f:=53) rfl ?_);refine goesL_ (some 16) rfl rfl Try.func53 (by kernel_rfl) rfl #[.slice A0 l0.length c0,.agg #[.int .i64 x6_1,.slice A1 l1.length c1]] rfl (by (try simp only [List.map_toArray,List.map_cons,List.map_nil]);first|done|rfl|(simp only [List.length_drop,List.length_take];rfl)) ?_;(with_reducible refine (impl_votes_has.calls k1 _ _ l0 x6_1 _ _ l1 true _ ?side1 ?side2 ?side3 ?side4 A6.out).mono ?_);(case side1 => repeat (first|exact (Kd.C_below HR0.out HB.out)|(with_reducible refine Kd.C_alloc ?_ _)|(with_reducible refine Kd.C_drewN ?_ _)|(with_reducible refine Kd.C_drew ?_)));(case side2 => exact HC0.out);(case side3 => repeat (first|exact (Kd.C_below HR1.out HB.out)|(with_reducible refine Kd.C_alloc ?_ _)|(with_reducible refine Kd.C_drewN ?_ _)|(with_reducible refine Kd.C_drew ?_)));(case side4 => exact HC1.out);rintro e w9 ⟨rfl,hb⟩;refine ⟨_,rfl,?_⟩;have n0_:=aM (Kd.R_below (by (with_reducible repeat (first|apply Kd.R_alloc|apply Kd.R_drewN|apply Kd.R_drew));exact HO_5.out) hb);have n1_:=aM (below_step (by repeat (first|(with_reducible first|exact HB.out|apply bA|apply bN|apply bD)|exact HB.out)) hb);clear HO_5;clear HB;have HO_5:=n0_;have HB:=n1_;clear n0_ n1_;(try clear hb);(try clear hb2);(try clear hk);(try clear hi))|((with_reducible refine gate_builtin (b:=.append) (xs:=#[.tmp 17,.tmp 19]) rfl ?_);at_builtin;refine Kd.R_append (Kd.int .i64) (w0:=w) w.heap.size rfl (.tmp 17) (.tmp 19) 34 3 (.int .i64 0) 8 rfl Try.underlying34 info3 rfl (by decide) (by omega) u5 x5_1 x6_1 [.int .i64 x6_1] (fun _ => True) (fun _ => False) rfl rfl ?aP (fun _ hk => hk.elim) ?aF ?aO ?aB ?aS ?aL ?_;(case aP => exact rfl);(case aB => exact (by repeat (first|(with_reducible first|exact HB.out|apply bA|apply bN|apply bD)|exact HB.out)));(case aF => exact (fun _ _ => trivial));(case aO => exact (by (with_reducible repeat (first|apply Kd.R_alloc|apply Kd.R_drewN|apply Kd.R_drew));exact HO_5.out));(case aS => exact (below_size (by repeat (first|(with_reducible first|exact HB.out|apply bA|apply bN|apply bD)|exact HB.out))));(case aL => have:=LMc8.out;omega);intro v171 w10 ho hb hg hat;rw [← Ny170.out] at ho;have n0_:=aM (hb);have n1_:=aM (ho);clear HB;clear HO_5;have HB:=n0_;have HO172:=n1_;clear n0_ n1_;clear ho hb hg hat))
     go_roundg k1
     case measure => have:=HK1.out;omega
     case rel => exact ⟨(y170),(wrap64 (x6_1 + 1)),(by first|rfl|(simp;done)|(simp [*];done)),H',⟨by have:=HK1.out;omega⟩,⟨by (with_reducible repeat (first|apply Kd.R_alloc|apply Kd.R_drewN|apply Kd.R_drew));exact HO172.out⟩,⟨by repeat (first|(with_reducible first|exact HB.out|apply bA|apply bN|apply bD)|exact HB.out)⟩⟩
    ·replace c7:=Bool.eq_false_iff.mpr c7
     subst c7
     have H1 : (impl_votes_voters.l0 k1 l0 l1 x5_1 (wrap64 (x6_1 + 1))) = some r:=by rw [if_neg (show ¬ (false = true) by decide)] at H;exact H
     clear H
     have H:=H1
     clear H1
     have H':=aM H
     clear H
     go_wp2_with (first|((with_reducible refine gate_callee (f:=53) rfl ?_);refine goesL_ (some 16) rfl rfl Try.func53 (by kernel_rfl) rfl #[.slice A0 l0.length c0,.agg #[.int .i64 x6_1,.slice A1 l1.length c1]] rfl (by (try simp only [List.map_toArray,List.map_cons,List.map_nil]);first|done|rfl|(simp only [List.length_drop,List.length_take];rfl)) ?_;(with_reducible refine (impl_votes_has.calls k1 _ _ l0 x6_1 _ _ l1 false _ ?side1 ?side2 ?side3 ?side4 A6.out).mono ?_);(case side1 => repeat (first|exact (Kd.C_below HR0.out HB.out)|(with_reducible refine Kd.C_alloc ?_ _)|(with_reducible refine Kd.C_drewN ?_ _)|(with_reducible refine Kd.C_drew ?_)));(case side2 => exact HC0.out);(case side3 => repeat (first|exact (Kd.C_below HR1.out HB.out)|(with_reducible refine Kd.C_alloc ?_ _)|(with_reducible refine Kd.C_drewN ?_ _)|(with_reducible refine Kd.C_drew ?_)));(case side4 => exact HC1.out);rintro e w11 ⟨rfl,hb⟩;refine ⟨_,rfl,?_⟩;have n0_:=aM (Kd.R_below (by (with_reducible repeat (first|apply Kd.R_alloc|apply Kd.R_drewN|apply Kd.R_drew));exact HO_5.out) hb);have n1_:=aM (below_step (by repeat (first|(with_reducible first|exact HB.out|apply bA|apply bN|apply bD)|exact HB.out)) hb);clear HO_5;clear HB;have HO_5:=n0_;have HB:=n1_;clear n0_ n1_;(try clear hb);(try clear hb2);(try clear hk);(try clear hi)))
     go_roundg k1
     case measure => have:=HK1.out;omega
     case rel => exact ⟨(x5_1),(wrap64 (x6_1 + 1)),(by first|rfl|(simp;done)|(simp [*];done)),H',⟨by have:=HK1.out;omega⟩,⟨by (with_reducible repeat (first|apply Kd.R_alloc|apply Kd.R_drewN|apply Kd.R_drew));exact HO_5.out⟩,⟨by repeat (first|(with_reducible first|exact HB.out|apply bA|apply bN|apply bD)|exact HB.out)⟩⟩
   ·rw [if_neg c5] at H
    have c5b0 : decide (x6_1 ≤ 4) = false:=decide_eq_false c5
    clear c5
    obtain rfl:=Option.some.inj H
    obtain ⟨Ao12,co12,eo12⟩:=Kd.R_slice HO_5.out
    subst eo12
    have hcap12:=row_cap HO_5.out rfl
    have hlen12:=(Kd.R_reads' HO_5.out).2.1
    go_wp2
    go_ret
    exact ⟨Ao12,rfl,⟨co12,HO_5.out⟩,by repeat (first|(with_reducible first|exact HB.out|apply bA|apply bN|apply bD)|exact HB.out)⟩
theorem impl_votes_voters.calls (k : Nat) (A0 : Option Addr) (c0 : Nat) (l0 : List (S48)) (A1 : Option Addr) (c1 : Nat) (l1 : List (S58)) (r : List Int) (w : World) (hr0 : Kd.C k48 w A0 l0.length l0) (hc0 : l0.length ≤ c0) (hr1 : Kd.C k58 w A1 l1.length l1) (hc1 : l1.length ≤ c1) (h : impl_votes_voters.f k l0 l1 = some r) :
  Calls Try.prog 43 #[.slice A0 l0.length c0,.slice A1 l1.length c1] w fun e w' => ∃ v0_ : Value,e = .returned (v0_) ∧ Kd.V (Kd.int .i64) 3 w' w.heap.size (fun k_ => (w.heap.size ≤ k_)) v0_ r ∧ Below w.heap.size w w':=by
 refine (impl_votes_voters.callsX k A0 c0 l0 A1 c1 l1 r w hr0 hc0 hr1 hc1 h).mono ?_
 rintro e w' ⟨A,c,rfl,ho,hb⟩
 exact ⟨_,rfl,Kd.V_mk (Nat.le_refl _) (Kd.F_mono (Kd.R_F (Kd.R_bound ho)) (fun k hk => hk.2.1)),hb⟩

/-! ### impl_votes_sure: function 39 -/
def impl_votes_sure.l0 : Nat → List (S48) → List (S58) → Int → Option (Bool)
 | 0,_,_,_ => none
 | k + 1,x0,x1,x5 => if x5 ≤ (x1.length : Int) then (if 0 ≤ x5 then ((impl_votes_voters.f k x0 (x1.take (x5 : Int).toNat)).bind fun t207 => (if (t207.length : Int) < 3 then (some false) else (impl_votes_sure.l0 k x0 x1 (wrap64 (x5 + 1))))) else (none)) else (some true)
def impl_votes_sure.f (k : Nat) (l0 : List (S48)) (l1 : List (S58)) : Option (Bool):=impl_votes_sure.l0 k l0 l1 1
theorem impl_votes_sure.mono_l : ∀ k,(∀ y0 y1 y2,LeO (impl_votes_sure.l0 k y0 y1 y2) (impl_votes_sure.l0 (k + 1) y0 y1 y2))
 | 0 => fun _ _ _ r h => by simp [impl_votes_sure.l0] at h
 | k + 1 => by
  have ih0:=impl_votes_sure.mono_l k
  ·intro y0 y1 y2
   unfold impl_votes_sure.l0
   repeat' first
   | exact LeO.refl _
   | exact ih0 _ _ _
   | exact impl_votes_voters.mono _ _ _
   | exact LeO.none _
   | refine LeO.ite ?_ ?_
   | refine LeO.bind ?_ (fun _ => ?_)
theorem impl_votes_sure.mono : ∀ a0 a1 k,LeO (impl_votes_sure.f k a0 a1) (impl_votes_sure.f (k + 1) a0 a1):=by
 intro a0 a1 k
 have ih0:=impl_votes_sure.mono_l k
 unfold impl_votes_sure.f
 repeat' first
   | exact LeO.refl _
   | exact ih0 _ _ _
   | exact impl_votes_voters.mono _ _ _
   | exact LeO.none _
   | refine LeO.ite ?_ ?_
   | refine LeO.bind ?_ (fun _ => ?_)
set_option maxHeartbeats 8000000 in
set_option maxRecDepth 100000 in
theorem impl_votes_sure.calls (k : Nat) (A0 : Option Addr) (c0 : Nat) (l0 : List (S48)) (A1 : Option Addr) (c1 : Nat) (l1 : List (S58)) (r : Bool) (w : World) (hr0 : Kd.C k48 w A0 l0.length l0) (hc0 : l0.length ≤ c0) (hr1 : Kd.C k58 w A1 l1.length l1) (hc1 : l1.length ≤ c1) (h : impl_votes_sure.f k l0 l1 = some r) :
  Calls Try.prog 39 #[.slice A0 l0.length c0,.slice A1 l1.length c1] w fun e w' => e = .returned (.bool r) ∧ Below w.heap.size w w':=by
 have HR0:=aM hr0
 have HC0:=aM hc0
 clear hr0 hc0
 have HR1:=aM hr1
 have HC1:=aM hc1
 clear hr1 hc1
 have HB:=aM (Below.refl w.heap.size w)
 have H : (impl_votes_sure.l0 k l0 l1 1) = some r:=h
 clear h
 have H':=aM H
 clear H
 go_enter Try.func39,Try.ntmps39
 go_wp2
 go_loopg [5] k (fun kq v5 w' => ∃ (x5_1 : Int),v5 = .int .i64 x5_1 ∧ Aside0 (impl_votes_sure.l0 kq l0 l1 x5_1 = some r) ∧ Aside0 (kq ≤ k) ∧ Aside0 (Below w.heap.size w w'))
 case atStart => exact ⟨(1),(by first|rfl|(simp;done)|(simp [*];done)),H',⟨Nat.le_refl _⟩,⟨by repeat (first|(with_reducible first|exact HB.out|apply bA|apply bN|apply bD)|exact HB.out)⟩⟩
 case round =>
  clear H'
  try clear c1
  try clear p2
  obtain ⟨x5_1,rfl,HA,HK1,HB⟩:=hrel
  cases gk with
  | zero => exact absurd HA.out (by simp [impl_votes_sure.l0])
  | succ k1 =>
   have H:=HA.out
   clear HA
   simp only [impl_votes_sure.l0] at H
   by_cases c3 : x5_1 ≤ (l1.length : Int)
   ·rw [if_pos c3] at H
    have c3b0 : decide (x5_1 ≤ (l1.length : Int)) = true:=decide_eq_true c3
    clear c3
    by_cases c4 : 0 ≤ x5_1
    case neg => rw [if_neg c4] at H;exact absurd H (by simp)
    rw [if_pos c4] at H
    have c4b0:=eq_true c4
    have c4b1 : decide (0 ≤ x5_1) = true:=decide_eq_true c4
    clear c4
    have c5b0:=eq_true (of_decide_eq_true (by first|(with_reducible assumption)|assumption) : x5_1 ≤ (l1.length : Int))
    obtain ⟨y203,hy203⟩ : ∃ y_ : List (S58),y_ = (l1.take (x5_1 : Int).toNat):=⟨_,rfl⟩
    replace H : ((impl_votes_voters.f k1 l0 y203).bind fun t207 => (if (t207.length : Int) < 3 then (some false) else (impl_votes_sure.l0 k1 l0 l1 (wrap64 (x5_1 + 1))))) = some r:=by first|(rw [hy203];with_reducible exact H)|(have H2_:=(Option.bind_some _ _).symm.trans H;rw [hy203];with_reducible exact H2_)|(have H2_:=(Option.bind_some _ _).symm.trans H;with_reducible exact H2_)|with_reducible exact H|(rw [hy203];exact H)|exact H
    have Ny203:=aM hy203
    clear hy203
    replace H:=Option.bind_eq_some_iff.mp H
    obtain ⟨t207,A60,H⟩:=H
    replace H : (if (t207.length : Int) < 3 then (some false) else (impl_votes_sure.l0 k1 l0 l1 (wrap64 (x5_1 + 1)))) = some r:=H
    have A6:=aM A60
    clear A60
    by_cases c7 : (t207.length : Int) < 3
    ·rw [if_pos c7] at H
     have c7b0 : decide ((t207.length : Int) < 3) = true:=decide_eq_true c7
     have c7b1 : decide (t207.length < 3) = true:=decide_eq_true (by omega)
     clear c7
     obtain rfl:=Option.some.inj H
     have q8 : (x5_1 : Int) ≤ ((l1.length : Int) : Int):=of_decide_eq_true (by first|(with_reducible assumption)|assumption)
     obtain ⟨i08,hi08,_,hsz8,_⟩:=info_parts info58
     have hroom8 : l1.length ≤ c1:=HC1.out
     have hC8 : Kd.C k58 _ A1 l1.length l1:=HR1.out
     have hcut8:=cut_to (P:=Try.prog) 29 58 .i64 Try.underlying29 hi08 A1 l1.length c1 x5_1 (of_decide_eq_true (by first|(with_reducible assumption)|assumption)) q8 hroom8
     have hr8:=Kd.C_take (m:=(x5_1 : Int).toNat) hC8 (by omega)
     have hy8 : y203.length = (x5_1 : Int).toNat:=(by rw [Ny203.out,List.length_take];omega)
     rw [← Ny203.out] at hr8
     rw [← hy8] at hcut8
     have HR206:=aM hr8
     have HC206:=aM (show y203.length ≤ c1 from by omega)
     clear hr8 hC8 hroom8 hi08 hsz8
     have KY8:=aM hy8
     clear hy8
     replace q8:=eq_true q8
     go_wp2_with (first|((with_reducible refine gate_callee (f:=43) rfl ?_);refine goesL_ (some 16) rfl rfl Try.func43 (by kernel_rfl) rfl #[.slice A0 l0.length c0,.slice A1 y203.length c1] rfl (by (try simp only [List.map_toArray,List.map_cons,List.map_nil]);first|done|rfl|(simp only [List.length_drop,List.length_take];rfl)) ?_;(with_reducible refine (impl_votes_voters.calls k1 _ _ l0 _ _ y203 t207 _ ?side1 ?side2 ?side3 ?side4 A6.out).mono ?_);(case side1 => repeat (first|exact (Kd.C_below HR0.out HB.out)|(with_reducible refine Kd.C_alloc ?_ _)|(with_reducible refine Kd.C_drewN ?_ _)|(with_reducible refine Kd.C_drew ?_)));(case side2 => exact HC0.out);(case side3 => repeat (first|exact (Kd.C_below HR206.out HB.out)|(with_reducible refine Kd.C_alloc ?_ _)|(with_reducible refine Kd.C_drewN ?_ _)|(with_reducible refine Kd.C_drew ?_)));(case side4 => exact HC206.out);rintro e w9 ⟨v208,rfl,ho0,hb⟩;refine ⟨_,rfl,?_⟩;have n0_:=aM (Kd.V_lower (Kd.V_mono (ok':=fun k_ => True) ho0 (fun k_ hk_ => trivial)) (below_size (by repeat (first|(with_reducible first|exact HB.out|apply bA|apply bN|apply bD)|exact HB.out))));have n1_:=aM (below_step (by repeat (first|(with_reducible first|exact HB.out|apply bA|apply bN|apply bD)|exact HB.out)) hb);clear HB;have HO209:=n0_;have HB:=n1_;clear n0_ n1_;(try clear hb);(try clear hb2);(try clear hk);(try clear hi);(try clear ho0);obtain ⟨Ao10,co10,eo10⟩:=Kd.V_slice HO209.out;subst eo10))
     go_ret
     exact ⟨by first|rfl|(simp only [i64_w,i32_w];done)|(simp only [i64_w,i32_w];rfl)|(simp [errW_none,errW_some] <;> rfl)|(simp [*,errW_none,errW_some] <;> rfl),by repeat (first|(with_reducible first|exact HB.out|apply bA|apply bN|apply bD)|exact HB.out)⟩
    ·rw [if_neg c7] at H
     have c7b0 : decide ((t207.length : Int) < 3) = false:=decide_eq_false c7
     have c7b1 : decide (t207.length < 3) = false:=decide_eq_false (by omega)
     clear c7
     have H':=aM H
     clear H
     have q11 : (x5_1 : Int) ≤ ((l1.length : Int) : Int):=of_decide_eq_true (by first|(with_reducible assumption)|assumption)
     obtain ⟨i011,hi011,_,hsz11,_⟩:=info_parts info58
     have hroom11 : l1.length ≤ c1:=HC1.out
     have hC11 : Kd.C k58 _ A1 l1.length l1:=HR1.out
     have hcut11:=cut_to (P:=Try.prog) 29 58 .i64 Try.underlying29 hi011 A1 l1.length c1 x5_1 (of_decide_eq_true (by first|(with_reducible assumption)|assumption)) q11 hroom11
     have hr11:=Kd.C_take (m:=(x5_1 : Int).toNat) hC11 (by omega)
     have hy11 : y203.length = (x5_1 : Int).toNat:=(by rw [Ny203.out,List.length_take];omega)
     rw [← Ny203.out] at hr11
     rw [← hy11] at hcut11
     have HR206:=aM hr11
     have HC206:=aM (show y203.length ≤ c1 from by omega)
     clear hr11 hC11 hroom11 hi011 hsz11
     have KY11:=aM hy11
     clear hy11
     replace q11:=eq_true q11
     go_wp2_with (first|((with_reducible refine gate_callee (f:=43) rfl ?_);refine goesL_ (some 16) rfl rfl Try.func43 (by kernel_rfl) rfl #[.slice A0 l0.length c0,.slice A1 y203.length c1] rfl (by (try simp only [List.map_toArray,List.map_cons,List.map_nil]);first|done|rfl|(simp only [List.length_drop,List.length_take];rfl)) ?_;(with_reducible refine (impl_votes_voters.calls k1 _ _ l0 _ _ y203 t207 _ ?side1 ?side2 ?side3 ?side4 A6.out).mono ?_);(case side1 => repeat (first|exact (Kd.C_below HR0.out HB.out)|(with_reducible refine Kd.C_alloc ?_ _)|(with_reducible refine Kd.C_drewN ?_ _)|(with_reducible refine Kd.C_drew ?_)));(case side2 => exact HC0.out);(case side3 => repeat (first|exact (Kd.C_below HR206.out HB.out)|(with_reducible refine Kd.C_alloc ?_ _)|(with_reducible refine Kd.C_drewN ?_ _)|(with_reducible refine Kd.C_drew ?_)));(case side4 => exact HC206.out);rintro e w12 ⟨v208,rfl,ho0,hb⟩;refine ⟨_,rfl,?_⟩;have n0_:=aM (Kd.V_lower (Kd.V_mono (ok':=fun k_ => True) ho0 (fun k_ hk_ => trivial)) (below_size (by repeat (first|(with_reducible first|exact HB.out|apply bA|apply bN|apply bD)|exact HB.out))));have n1_:=aM (below_step (by repeat (first|(with_reducible first|exact HB.out|apply bA|apply bN|apply bD)|exact HB.out)) hb);clear HB;have HO209:=n0_;have HB:=n1_;clear n0_ n1_;(try clear hb);(try clear hb2);(try clear hk);(try clear hi);(try clear ho0);obtain ⟨Ao13,co13,eo13⟩:=Kd.V_slice HO209.out;subst eo13))
     go_roundg k1
     case measure => have:=HK1.out;omega
     case rel => exact ⟨(wrap64 (x5_1 + 1)),(by first|rfl|(simp;done)|(simp [*];done)),H',⟨by have:=HK1.out;omega⟩,⟨by repeat (first|(with_reducible first|exact HB.out|apply bA|apply bN|apply bD)|exact HB.out)⟩⟩
   ·rw [if_neg c3] at H
    have c3b0 : decide (x5_1 ≤ (l1.length : Int)) = false:=decide_eq_false c3
    clear c3
    obtain rfl:=Option.some.inj H
    go_wp2
    go_ret
    exact ⟨by first|rfl|(simp only [i64_w,i32_w];done)|(simp only [i64_w,i32_w];rfl)|(simp [errW_none,errW_some] <;> rfl)|(simp [*,errW_none,errW_some] <;> rfl),by repeat (first|(with_reducible first|exact HB.out|apply bA|apply bN|apply bD)|exact HB.out)⟩

/-! ### impl_TreeSure: function 15 -/
def impl_TreeSure.f (k : Nat) (l0 : List (S48)) (l1 : List (S58)) : Option (Bool):=(impl_VotesOk.f k l0).bind fun t210 => (if t210 = true then ((impl_ChainOk.f k l1).bind fun t211 => (if t211 = true then ((impl_votes_sure.f k l0 l1).bind fun t212 => (some t212)) else (some false))) else (some false))
theorem impl_TreeSure.mono : ∀ a0 a1 k,LeO (impl_TreeSure.f k a0 a1) (impl_TreeSure.f (k + 1) a0 a1):=by
 intro a0 a1 k
 unfold impl_TreeSure.f
 repeat' first
   | exact LeO.refl _
   | exact impl_ChainOk.mono _ _
   | exact impl_VotesOk.mono _ _
   | exact impl_votes_sure.mono _ _ _
   | exact LeO.none _
   | refine LeO.ite ?_ ?_
   | refine LeO.bind ?_ (fun _ => ?_)
set_option maxHeartbeats 8000000 in
set_option maxRecDepth 100000 in
theorem impl_TreeSure.calls (k : Nat) (A0 : Option Addr) (c0 : Nat) (l0 : List (S48)) (A1 : Option Addr) (c1 : Nat) (l1 : List (S58)) (r : Bool) (w : World) (hr0 : Kd.C k48 w A0 l0.length l0) (hc0 : l0.length ≤ c0) (hr1 : Kd.C k58 w A1 l1.length l1) (hc1 : l1.length ≤ c1) (h : impl_TreeSure.f k l0 l1 = some r) :
  Calls Try.prog 15 #[.slice A0 l0.length c0,.slice A1 l1.length c1] w fun e w' => e = .returned (.bool r) ∧ Below w.heap.size w w':=by
 have HR0:=aM hr0
 have HC0:=aM hc0
 clear hr0 hc0
 have HR1:=aM hr1
 have HC1:=aM hc1
 clear hr1 hc1
 have HB:=aM (Below.refl w.heap.size w)
 have H : ((impl_VotesOk.f k l0).bind fun t210 => (if t210 = true then ((impl_ChainOk.f k l1).bind fun t211 => (if t211 = true then ((impl_votes_sure.f k l0 l1).bind fun t212 => (some t212)) else (some false))) else (some false))) = some r:=h
 clear h
 replace H:=Option.bind_eq_some_iff.mp H
 obtain ⟨t210,A30,H⟩:=H
 replace H : (if t210 = true then ((impl_ChainOk.f k l1).bind fun t211 => (if t211 = true then ((impl_votes_sure.f k l0 l1).bind fun t212 => (some t212)) else (some false))) else (some false)) = some r:=H
 have A3:=aM A30
 clear A30
 by_cases c4 : t210 = true
 ·subst c4
  have H1 : ((impl_ChainOk.f k l1).bind fun t211 => (if t211 = true then ((impl_votes_sure.f k l0 l1).bind fun t212 => (some t212)) else (some false))) = some r:=by rw [if_pos rfl] at H;exact H
  clear H
  have H:=H1
  clear H1
  replace H:=Option.bind_eq_some_iff.mp H
  obtain ⟨t211,A50,H⟩:=H
  replace H : (if t211 = true then ((impl_votes_sure.f k l0 l1).bind fun t212 => (some t212)) else (some false)) = some r:=H
  have A5:=aM A50
  clear A50
  by_cases c6 : t211 = true
  ·subst c6
   have H1 : ((impl_votes_sure.f k l0 l1).bind fun t212 => (some t212)) = some r:=by rw [if_pos rfl] at H;exact H
   clear H
   have H:=H1
   clear H1
   replace H:=Option.bind_eq_some_iff.mp H
   obtain ⟨t212,A70,H⟩:=H
   replace H : (some t212) = some r:=H
   have A7:=aM A70
   clear A70
   obtain rfl:=Option.some.inj H
   go_enter Try.func15,Try.ntmps15
   go_wp2_with (first|((with_reducible refine gate_callee (f:=37) rfl ?_);refine goesL_ (some 6) rfl rfl Try.func37 (by kernel_rfl) rfl #[.slice A0 l0.length c0] rfl (by (try simp only [List.map_toArray,List.map_cons,List.map_nil]);first|done|rfl|(simp only [List.length_drop,List.length_take];rfl)) ?_;(with_reducible refine (impl_VotesOk.calls k _ _ l0 true _ ?side1 ?side2 A3.out).mono ?_);(case side1 => repeat (first|exact HR0.out|(with_reducible refine Kd.C_alloc ?_ _)|(with_reducible refine Kd.C_drewN ?_ _)|(with_reducible refine Kd.C_drew ?_)));(case side2 => exact HC0.out);rintro e w8 ⟨rfl,hb⟩;refine ⟨_,rfl,?_⟩;have n0_:=aM (below_step (by repeat (first|(with_reducible first|exact HB.out|apply bA|apply bN|apply bD)|exact HB.out)) hb);clear HB;have HB:=n0_;clear n0_;(try clear hb);(try clear hb2);(try clear hk);(try clear hi))|(go_at_call 38;(with_reducible refine (impl_ChainOk.calls k _ _ l1 true _ ?side1 ?side2 A5.out).mono ?_);(case side1 => repeat (first|exact (Kd.C_below HR1.out HB.out)|(with_reducible refine Kd.C_alloc ?_ _)|(with_reducible refine Kd.C_drewN ?_ _)|(with_reducible refine Kd.C_drew ?_)));(case side2 => exact HC1.out);rintro e w9 ⟨rfl,hb⟩;have n0_:=aM (below_step (by repeat (first|(with_reducible first|exact HB.out|apply bA|apply bN|apply bD)|exact HB.out)) hb);clear HB;have HB:=n0_;clear n0_;(try clear hb);(try clear hb2);(try clear hk);(try clear hi))|(go_at_call 39;(with_reducible refine (impl_votes_sure.calls k _ _ l0 _ _ l1 t212 _ ?side1 ?side2 ?side3 ?side4 A7.out).mono ?_);(case side1 => repeat (first|exact (Kd.C_below HR0.out HB.out)|(with_reducible refine Kd.C_alloc ?_ _)|(with_reducible refine Kd.C_drewN ?_ _)|(with_reducible refine Kd.C_drew ?_)));(case side2 => exact HC0.out);(case side3 => repeat (first|exact (Kd.C_below HR1.out HB.out)|(with_reducible refine Kd.C_alloc ?_ _)|(with_reducible refine Kd.C_drewN ?_ _)|(with_reducible refine Kd.C_drew ?_)));(case side4 => exact HC1.out);rintro e w10 ⟨rfl,hb⟩;have n0_:=aM (below_step (by repeat (first|(with_reducible first|exact HB.out|apply bA|apply bN|apply bD)|exact HB.out)) hb);clear HB;have HB:=n0_;clear n0_;(try clear hb);(try clear hb2);(try clear hk);(try clear hi)))
   go_ret
   exact ⟨by first|rfl|(simp only [i64_w,i32_w];done)|(simp only [i64_w,i32_w];rfl)|(simp [errW_none,errW_some] <;> rfl)|(simp [*,errW_none,errW_some] <;> rfl),by repeat (first|(with_reducible first|exact HB.out|apply bA|apply bN|apply bD)|exact HB.out)⟩
  ·replace c6:=Bool.eq_false_iff.mpr c6
   subst c6
   have H1 : (some false) = some r:=by rw [if_neg (show ¬ (false = true) by decide)] at H;exact H
   clear H
   have H:=H1
   clear H1
   obtain rfl:=Option.some.inj H
   go_enter Try.func15,Try.ntmps15
   go_wp2_with (first|((with_reducible refine gate_callee (f:=37) rfl ?_);refine goesL_ (some 6) rfl rfl Try.func37 (by kernel_rfl) rfl #[.slice A0 l0.length c0] rfl (by (try simp only [List.map_toArray,List.map_cons,List.map_nil]);first|done|rfl|(simp only [List.length_drop,List.length_take];rfl)) ?_;(with_reducible refine (impl_VotesOk.calls k _ _ l0 true _ ?side1 ?side2 A3.out).mono ?_);(case side1 => repeat (first|exact HR0.out|(with_reducible refine Kd.C_alloc ?_ _)|(with_reducible refine Kd.C_drewN ?_ _)|(with_reducible refine Kd.C_drew ?_)));(case side2 => exact HC0.out);rintro e w11 ⟨rfl,hb⟩;refine ⟨_,rfl,?_⟩;have n0_:=aM (below_step (by repeat (first|(with_reducible first|exact HB.out|apply bA|apply bN|apply bD)|exact HB.out)) hb);clear HB;have HB:=n0_;clear n0_;(try clear hb);(try clear hb2);(try clear hk);(try clear hi))|(go_at_call 38;(with_reducible refine (impl_ChainOk.calls k _ _ l1 false _ ?side1 ?side2 A5.out).mono ?_);(case side1 => repeat (first|exact (Kd.C_below HR1.out HB.out)|(with_reducible refine Kd.C_alloc ?_ _)|(with_reducible refine Kd.C_drewN ?_ _)|(with_reducible refine Kd.C_drew ?_)));(case side2 => exact HC1.out);rintro e w12 ⟨rfl,hb⟩;have n0_:=aM (below_step (by repeat (first|(with_reducible first|exact HB.out|apply bA|apply bN|apply bD)|exact HB.out)) hb);clear HB;have HB:=n0_;clear n0_;(try clear hb);(try clear hb2);(try clear hk);(try clear hi)))
   go_ret
   exact ⟨by first|rfl|(simp only [i64_w,i32_w];done)|(simp only [i64_w,i32_w];rfl)|(simp [errW_none,errW_some] <;> rfl)|(simp [*,errW_none,errW_some] <;> rfl),by repeat (first|(with_reducible first|exact HB.out|apply bA|apply bN|apply bD)|exact HB.out)⟩
 ·replace c4:=Bool.eq_false_iff.mpr c4
  subst c4
  have H1 : (some false) = some r:=by rw [if_neg (show ¬ (false = true) by decide)] at H;exact H
  clear H
  have H:=H1
  clear H1
  obtain rfl:=Option.some.inj H
  go_enter Try.func15,Try.ntmps15
  go_wp2_with (first|((with_reducible refine gate_callee (f:=37) rfl ?_);refine goesL_ (some 6) rfl rfl Try.func37 (by kernel_rfl) rfl #[.slice A0 l0.length c0] rfl (by (try simp only [List.map_toArray,List.map_cons,List.map_nil]);first|done|rfl|(simp only [List.length_drop,List.length_take];rfl)) ?_;(with_reducible refine (impl_VotesOk.calls k _ _ l0 false _ ?side1 ?side2 A3.out).mono ?_);(case side1 => repeat (first|exact HR0.out|(with_reducible refine Kd.C_alloc ?_ _)|(with_reducible refine Kd.C_drewN ?_ _)|(with_reducible refine Kd.C_drew ?_)));(case side2 => exact HC0.out);rintro e w13 ⟨rfl,hb⟩;refine ⟨_,rfl,?_⟩;have n0_:=aM (below_step (by repeat (first|(with_reducible first|exact HB.out|apply bA|apply bN|apply bD)|exact HB.out)) hb);clear HB;have HB:=n0_;clear n0_;(try clear hb);(try clear hb2);(try clear hk);(try clear hi)))
  go_ret
  exact ⟨by first|rfl|(simp only [i64_w,i32_w];done)|(simp only [i64_w,i32_w];rfl)|(simp [errW_none,errW_some] <;> rfl)|(simp [*,errW_none,errW_some] <;> rfl),by repeat (first|(with_reducible first|exact HB.out|apply bA|apply bN|apply bD)|exact HB.out)⟩

/-! ### laws_eqPay: function 56 -/
def laws_eqPay.f (a0_0 : Int) (a0_1 : Int) (a0_2 : Int) (a1_0 : Int) (a1_1 : Int) (a1_2 : Int) : Option (Bool):=if a0_0 = a1_0 then (if a0_1 = a1_1 then (if a0_2 = a1_2 then (some true) else (some false)) else (some false)) else (some false)
set_option maxHeartbeats 8000000 in
set_option maxRecDepth 100000 in
theorem laws_eqPay.calls (a0_0 : Int) (a0_1 : Int) (a0_2 : Int) (a1_0 : Int) (a1_1 : Int) (a1_2 : Int) (r : Bool) (w : World) (h : laws_eqPay.f a0_0 a0_1 a0_2 a1_0 a1_1 a1_2 = some r) :
  Calls Try.prog 56 #[.agg #[.int .i64 a0_0,.int .i64 a0_1,.int .i64 a0_2],.agg #[.int .i64 a1_0,.int .i64 a1_1,.int .i64 a1_2]] w fun e w' => e = .returned (.bool r) ∧ Below w.heap.size w w':=by
 have hu56:=Try.underlying56
 have HB:=aM (Below.refl w.heap.size w)
 have H : (if a0_0 = a1_0 then (if a0_1 = a1_1 then (if a0_2 = a1_2 then (some true) else (some false)) else (some false)) else (some false)) = some r:=h
 clear h
 by_cases c3 : a0_0 = a1_0
 ·rw [if_pos c3] at H
  have c3b0 : (a0_0 == a1_0) = true:=beq_iff_eq.mpr c3
  have c3b1 : (a0_0 != a1_0) = false:=bne_eq_false_iff_eq.mpr c3
  clear c3
  by_cases c4 : a0_1 = a1_1
  ·rw [if_pos c4] at H
   have c4b0 : (a0_1 == a1_1) = true:=beq_iff_eq.mpr c4
   have c4b1 : (a0_1 != a1_1) = false:=bne_eq_false_iff_eq.mpr c4
   clear c4
   by_cases c5 : a0_2 = a1_2
   ·rw [if_pos c5] at H
    have c5b0 : (a0_2 == a1_2) = true:=beq_iff_eq.mpr c5
    have c5b1 : (a0_2 != a1_2) = false:=bne_eq_false_iff_eq.mpr c5
    clear c5
    obtain rfl:=Option.some.inj H
    go_enter Try.func56,Try.ntmps56
    go_wp2_with (first|((with_reducible refine gate_dst (N:=2) rfl ?_);refine box_event ?hg (N:=2) ?hd (cs:=#[.int .i64 a0_0,.int .i64 a0_1,.int .i64 a0_2]) (t:=56) ?hr ?_;(case hd => rfl);(case hg => rfl);(case hr => first|(go_simp;done)|(go_simp;rfl));intro gb213 hg w6 hbox hb;have n0_:=aM (below_step (by repeat (first|(with_reducible first|exact HB.out|apply bA|apply bN|apply bD)|exact HB.out)) hb);have n1_:=aM (hbox);have n2_:=aM ((by rw [hg];exact (below_size (by repeat (first|(with_reducible first|exact HB.out|apply bA|apply bN|apply bD)|exact HB.out))) : w.heap.size ≤ gb213));have n3_:=aM ((by rw [hg];exact (below_size (by repeat (first|(with_reducible first|exact HB.out|apply bA|apply bN|apply bD)|exact HB.out))) : w.heap.size ≤ gb213));clear HB;have HB:=n0_;have BK213:=n1_;have GW213:=n2_;have GE213:=n3_;clear n0_ n1_ n2_ n3_;clear hb hbox hg)|((with_reducible refine gate_dst (N:=3) rfl ?_);refine box_event ?hg (N:=3) ?hd (cs:=#[.int .i64 a1_0,.int .i64 a1_1,.int .i64 a1_2]) (t:=56) ?hr ?_;(case hd => rfl);(case hg => rfl);(case hr => first|(go_simp;done)|(go_simp;rfl));intro gb214 hg w7 hbox hb;have n0_:=aM (blk_below (g:=gb213) (o:=.cells #[.int .i64 a0_0,.int .i64 a0_1,.int .i64 a0_2] 56 (0,0)) (by (with_reducible repeat (first|refine blk_drewN ?_ _|refine blk_drew ?_|refine blk_alloc ?_ _));exact BK213.out) hb);have n1_:=aM (below_step (by repeat (first|(with_reducible first|exact HB.out|apply bA|apply bN|apply bD|refine below_set ?_ GE213.out)|exact HB.out)) hb);have n2_:=aM (hbox);have n3_:=aM ((by rw [hg];exact (below_size (by repeat (first|(with_reducible first|exact HB.out|apply bA|apply bN|apply bD|refine below_set ?_ GE213.out)|exact HB.out))) : w.heap.size ≤ gb214));have n4_:=aM ((by rw [hg];exact (below_size (by repeat (first|(with_reducible first|exact HB.out|apply bA|apply bN|apply bD|refine below_set ?_ GE213.out)|exact HB.out))) : w.heap.size ≤ gb214));have n5_:=aM ((by rw [hg];exact Nat.ne_of_lt (blk_lt (g:=gb213) (o:=.cells #[.int .i64 a0_0,.int .i64 a0_1,.int .i64 a0_2] 56 (0,0)) (by (with_reducible repeat (first|refine blk_drewN ?_ _|refine blk_drew ?_|refine blk_alloc ?_ _));exact BK213.out)) : gb213 ≠ gb214));have n6_:=aM ((by rw [hg];exact Nat.ne_of_gt (blk_lt (g:=gb213) (o:=.cells #[.int .i64 a0_0,.int .i64 a0_1,.int .i64 a0_2] 56 (0,0)) (by (with_reducible repeat (first|refine blk_drewN ?_ _|refine blk_drew ?_|refine blk_alloc ?_ _));exact BK213.out)) : gb214 ≠ gb213));clear BK213;clear HB;have BK213:=n0_;have HB:=n1_;have BK214:=n2_;have GW214:=n3_;have GE214:=n4_;have NB213_214:=n5_;have NB214_213:=n6_;clear n0_ n1_ n2_ n3_ n4_ n5_ n6_;clear hb hbox hg;have hnb8:=NB213_214.out;have hnc8:=NB214_213.out;have hcz9_0 : w7.cell? ⟨gb213,0,none⟩ = some (.int .i64 a0_0):=(blk_cell BK213.out 0).trans rfl;have hcz9_1 : w7.cell? ⟨gb213,1,none⟩ = some (.int .i64 a0_1):=(blk_cell BK213.out 1).trans rfl;have hcz9_2 : w7.cell? ⟨gb213,2,none⟩ = some (.int .i64 a0_2):=(blk_cell BK213.out 2).trans rfl;have hfz9_0:=blk_frozen BK213.out 0;have hfz9_1:=blk_frozen BK213.out 1;have hfz9_2:=blk_frozen BK213.out 2;have hcz10_0 : w7.cell? ⟨gb214,0,none⟩ = some (.int .i64 a1_0):=(blk_cell BK214.out 0).trans rfl;have hcz10_1 : w7.cell? ⟨gb214,1,none⟩ = some (.int .i64 a1_1):=(blk_cell BK214.out 1).trans rfl;have hcz10_2 : w7.cell? ⟨gb214,2,none⟩ = some (.int .i64 a1_2):=(blk_cell BK214.out 2).trans rfl;have hfz10_0:=blk_frozen BK214.out 0;have hfz10_1:=blk_frozen BK214.out 1;have hfz10_2:=blk_frozen BK214.out 2))
    go_ret
    exact ⟨by first|rfl|(simp only [i64_w,i32_w];done)|(simp only [i64_w,i32_w];rfl)|(simp [errW_none,errW_some] <;> rfl)|(simp [*,errW_none,errW_some] <;> rfl),by repeat (first|(with_reducible first|exact HB.out|apply bA|apply bN|apply bD|refine below_set ?_ GE213.out|refine below_set ?_ GE214.out)|exact HB.out)⟩
   ·rw [if_neg c5] at H
    have c5b0 : (a0_2 == a1_2) = false:=beq_eq_false_iff_ne.mpr c5
    have c5b1 : (a0_2 != a1_2) = true:=bne_iff_ne.mpr c5
    obtain rfl:=Option.some.inj H
    go_enter Try.func56,Try.ntmps56
    go_wp2_with (first|((with_reducible refine gate_dst (N:=2) rfl ?_);refine box_event ?hg (N:=2) ?hd (cs:=#[.int .i64 a0_0,.int .i64 a0_1,.int .i64 a0_2]) (t:=56) ?hr ?_;(case hd => rfl);(case hg => rfl);(case hr => first|(go_simp;done)|(go_simp;rfl));intro gb213 hg w11 hbox hb;have n0_:=aM (below_step (by repeat (first|(with_reducible first|exact HB.out|apply bA|apply bN|apply bD)|exact HB.out)) hb);have n1_:=aM (hbox);have n2_:=aM ((by rw [hg];exact (below_size (by repeat (first|(with_reducible first|exact HB.out|apply bA|apply bN|apply bD)|exact HB.out))) : w.heap.size ≤ gb213));have n3_:=aM ((by rw [hg];exact (below_size (by repeat (first|(with_reducible first|exact HB.out|apply bA|apply bN|apply bD)|exact HB.out))) : w.heap.size ≤ gb213));clear HB;have HB:=n0_;have BK213:=n1_;have GW213:=n2_;have GE213:=n3_;clear n0_ n1_ n2_ n3_;clear hb hbox hg)|((with_reducible refine gate_dst (N:=3) rfl ?_);refine box_event ?hg (N:=3) ?hd (cs:=#[.int .i64 a1_0,.int .i64 a1_1,.int .i64 a1_2]) (t:=56) ?hr ?_;(case hd => rfl);(case hg => rfl);(case hr => first|(go_simp;done)|(go_simp;rfl));intro gb214 hg w12 hbox hb;have n0_:=aM (blk_below (g:=gb213) (o:=.cells #[.int .i64 a0_0,.int .i64 a0_1,.int .i64 a0_2] 56 (0,0)) (by (with_reducible repeat (first|refine blk_drewN ?_ _|refine blk_drew ?_|refine blk_alloc ?_ _));exact BK213.out) hb);have n1_:=aM (below_step (by repeat (first|(with_reducible first|exact HB.out|apply bA|apply bN|apply bD|refine below_set ?_ GE213.out)|exact HB.out)) hb);have n2_:=aM (hbox);have n3_:=aM ((by rw [hg];exact (below_size (by repeat (first|(with_reducible first|exact HB.out|apply bA|apply bN|apply bD|refine below_set ?_ GE213.out)|exact HB.out))) : w.heap.size ≤ gb214));have n4_:=aM ((by rw [hg];exact (below_size (by repeat (first|(with_reducible first|exact HB.out|apply bA|apply bN|apply bD|refine below_set ?_ GE213.out)|exact HB.out))) : w.heap.size ≤ gb214));have n5_:=aM ((by rw [hg];exact Nat.ne_of_lt (blk_lt (g:=gb213) (o:=.cells #[.int .i64 a0_0,.int .i64 a0_1,.int .i64 a0_2] 56 (0,0)) (by (with_reducible repeat (first|refine blk_drewN ?_ _|refine blk_drew ?_|refine blk_alloc ?_ _));exact BK213.out)) : gb213 ≠ gb214));have n6_:=aM ((by rw [hg];exact Nat.ne_of_gt (blk_lt (g:=gb213) (o:=.cells #[.int .i64 a0_0,.int .i64 a0_1,.int .i64 a0_2] 56 (0,0)) (by (with_reducible repeat (first|refine blk_drewN ?_ _|refine blk_drew ?_|refine blk_alloc ?_ _));exact BK213.out)) : gb214 ≠ gb213));clear BK213;clear HB;have BK213:=n0_;have HB:=n1_;have BK214:=n2_;have GW214:=n3_;have GE214:=n4_;have NB213_214:=n5_;have NB214_213:=n6_;clear n0_ n1_ n2_ n3_ n4_ n5_ n6_;clear hb hbox hg;have hnb13:=NB213_214.out;have hnc13:=NB214_213.out;have hcz14_0 : w12.cell? ⟨gb213,0,none⟩ = some (.int .i64 a0_0):=(blk_cell BK213.out 0).trans rfl;have hcz14_1 : w12.cell? ⟨gb213,1,none⟩ = some (.int .i64 a0_1):=(blk_cell BK213.out 1).trans rfl;have hcz14_2 : w12.cell? ⟨gb213,2,none⟩ = some (.int .i64 a0_2):=(blk_cell BK213.out 2).trans rfl;have hfz14_0:=blk_frozen BK213.out 0;have hfz14_1:=blk_frozen BK213.out 1;have hfz14_2:=blk_frozen BK213.out 2;have hcz15_0 : w12.cell? ⟨gb214,0,none⟩ = some (.int .i64 a1_0):=(blk_cell BK214.out 0).trans rfl;have hcz15_1 : w12.cell? ⟨gb214,1,none⟩ = some (.int .i64 a1_1):=(blk_cell BK214.out 1).trans rfl;have hcz15_2 : w12.cell? ⟨gb214,2,none⟩ = some (.int .i64 a1_2):=(blk_cell BK214.out 2).trans rfl;have hfz15_0:=blk_frozen BK214.out 0;have hfz15_1:=blk_frozen BK214.out 1;have hfz15_2:=blk_frozen BK214.out 2))
    go_ret
    exact ⟨by first|rfl|(simp only [i64_w,i32_w];done)|(simp only [i64_w,i32_w];rfl)|(simp [errW_none,errW_some] <;> rfl)|(simp [*,errW_none,errW_some] <;> rfl),by repeat (first|(with_reducible first|exact HB.out|apply bA|apply bN|apply bD|refine below_set ?_ GE213.out|refine below_set ?_ GE214.out)|exact HB.out)⟩
  ·rw [if_neg c4] at H
   have c4b0 : (a0_1 == a1_1) = false:=beq_eq_false_iff_ne.mpr c4
   have c4b1 : (a0_1 != a1_1) = true:=bne_iff_ne.mpr c4
   obtain rfl:=Option.some.inj H
   go_enter Try.func56,Try.ntmps56
   go_wp2_with (first|((with_reducible refine gate_dst (N:=2) rfl ?_);refine box_event ?hg (N:=2) ?hd (cs:=#[.int .i64 a0_0,.int .i64 a0_1,.int .i64 a0_2]) (t:=56) ?hr ?_;(case hd => rfl);(case hg => rfl);(case hr => first|(go_simp;done)|(go_simp;rfl));intro gb213 hg w16 hbox hb;have n0_:=aM (below_step (by repeat (first|(with_reducible first|exact HB.out|apply bA|apply bN|apply bD)|exact HB.out)) hb);have n1_:=aM (hbox);have n2_:=aM ((by rw [hg];exact (below_size (by repeat (first|(with_reducible first|exact HB.out|apply bA|apply bN|apply bD)|exact HB.out))) : w.heap.size ≤ gb213));have n3_:=aM ((by rw [hg];exact (below_size (by repeat (first|(with_reducible first|exact HB.out|apply bA|apply bN|apply bD)|exact HB.out))) : w.heap.size ≤ gb213));clear HB;have HB:=n0_;have BK213:=n1_;have GW213:=n2_;have GE213:=n3_;clear n0_ n1_ n2_ n3_;clear hb hbox hg)|((with_reducible refine gate_dst (N:=3) rfl ?_);refine box_event ?hg (N:=3) ?hd (cs:=#[.int .i64 a1_0,.int .i64 a1_1,.int .i64 a1_2]) (t:=56) ?hr ?_;(case hd => rfl);(case hg => rfl);(case hr => first|(go_simp;done)|(go_simp;rfl));intro gb214 hg w17 hbox hb;have n0_:=aM (blk_below (g:=gb213) (o:=.cells #[.int .i64 a0_0,.int .i64 a0_1,.int .i64 a0_2] 56 (0,0)) (by (with_reducible repeat (first|refine blk_drewN ?_ _|refine blk_drew ?_|refine blk_alloc ?_ _));exact BK213.out) hb);have n1_:=aM (below_step (by repeat (first|(with_reducible first|exact HB.out|apply bA|apply bN|apply bD|refine below_set ?_ GE213.out)|exact HB.out)) hb);have n2_:=aM (hbox);have n3_:=aM ((by rw [hg];exact (below_size (by repeat (first|(with_reducible first|exact HB.out|apply bA|apply bN|apply bD|refine below_set ?_ GE213.out)|exact HB.out))) : w.heap.size ≤ gb214));have n4_:=aM ((by rw [hg];exact (below_size (by repeat (first|(with_reducible first|exact HB.out|apply bA|apply bN|apply bD|refine below_set ?_ GE213.out)|exact HB.out))) : w.heap.size ≤ gb214));have n5_:=aM ((by rw [hg];exact Nat.ne_of_lt (blk_lt (g:=gb213) (o:=.cells #[.int .i64 a0_0,.int .i64 a0_1,.int .i64 a0_2] 56 (0,0)) (by (with_reducible repeat (first|refine blk_drewN ?_ _|refine blk_drew ?_|refine blk_alloc ?_ _));exact BK213.out)) : gb213 ≠ gb214));have n6_:=aM ((by rw [hg];exact Nat.ne_of_gt (blk_lt (g:=gb213) (o:=.cells #[.int .i64 a0_0,.int .i64 a0_1,.int .i64 a0_2] 56 (0,0)) (by (with_reducible repeat (first|refine blk_drewN ?_ _|refine blk_drew ?_|refine blk_alloc ?_ _));exact BK213.out)) : gb214 ≠ gb213));clear BK213;clear HB;have BK213:=n0_;have HB:=n1_;have BK214:=n2_;have GW214:=n3_;have GE214:=n4_;have NB213_214:=n5_;have NB214_213:=n6_;clear n0_ n1_ n2_ n3_ n4_ n5_ n6_;clear hb hbox hg;have hnb18:=NB213_214.out;have hnc18:=NB214_213.out;have hcz19_0 : w17.cell? ⟨gb213,0,none⟩ = some (.int .i64 a0_0):=(blk_cell BK213.out 0).trans rfl;have hcz19_1 : w17.cell? ⟨gb213,1,none⟩ = some (.int .i64 a0_1):=(blk_cell BK213.out 1).trans rfl;have hcz19_2 : w17.cell? ⟨gb213,2,none⟩ = some (.int .i64 a0_2):=(blk_cell BK213.out 2).trans rfl;have hfz19_0:=blk_frozen BK213.out 0;have hfz19_1:=blk_frozen BK213.out 1;have hfz19_2:=blk_frozen BK213.out 2;have hcz20_0 : w17.cell? ⟨gb214,0,none⟩ = some (.int .i64 a1_0):=(blk_cell BK214.out 0).trans rfl;have hcz20_1 : w17.cell? ⟨gb214,1,none⟩ = some (.int .i64 a1_1):=(blk_cell BK214.out 1).trans rfl;have hcz20_2 : w17.cell? ⟨gb214,2,none⟩ = some (.int .i64 a1_2):=(blk_cell BK214.out 2).trans rfl;have hfz20_0:=blk_frozen BK214.out 0;have hfz20_1:=blk_frozen BK214.out 1;have hfz20_2:=blk_frozen BK214.out 2))
   go_ret
   exact ⟨by first|rfl|(simp only [i64_w,i32_w];done)|(simp only [i64_w,i32_w];rfl)|(simp [errW_none,errW_some] <;> rfl)|(simp [*,errW_none,errW_some] <;> rfl),by repeat (first|(with_reducible first|exact HB.out|apply bA|apply bN|apply bD|refine below_set ?_ GE213.out|refine below_set ?_ GE214.out)|exact HB.out)⟩
 ·rw [if_neg c3] at H
  have c3b0 : (a0_0 == a1_0) = false:=beq_eq_false_iff_ne.mpr c3
  have c3b1 : (a0_0 != a1_0) = true:=bne_iff_ne.mpr c3
  obtain rfl:=Option.some.inj H
  go_enter Try.func56,Try.ntmps56
  go_wp2_with (first|((with_reducible refine gate_dst (N:=2) rfl ?_);refine box_event ?hg (N:=2) ?hd (cs:=#[.int .i64 a0_0,.int .i64 a0_1,.int .i64 a0_2]) (t:=56) ?hr ?_;(case hd => rfl);(case hg => rfl);(case hr => first|(go_simp;done)|(go_simp;rfl));intro gb213 hg w21 hbox hb;have n0_:=aM (below_step (by repeat (first|(with_reducible first|exact HB.out|apply bA|apply bN|apply bD)|exact HB.out)) hb);have n1_:=aM (hbox);have n2_:=aM ((by rw [hg];exact (below_size (by repeat (first|(with_reducible first|exact HB.out|apply bA|apply bN|apply bD)|exact HB.out))) : w.heap.size ≤ gb213));have n3_:=aM ((by rw [hg];exact (below_size (by repeat (first|(with_reducible first|exact HB.out|apply bA|apply bN|apply bD)|exact HB.out))) : w.heap.size ≤ gb213));clear HB;have HB:=n0_;have BK213:=n1_;have GW213:=n2_;have GE213:=n3_;clear n0_ n1_ n2_ n3_;clear hb hbox hg)|((with_reducible refine gate_dst (N:=3) rfl ?_);refine box_event ?hg (N:=3) ?hd (cs:=#[.int .i64 a1_0,.int .i64 a1_1,.int .i64 a1_2]) (t:=56) ?hr ?_;(case hd => rfl);(case hg => rfl);(case hr => first|(go_simp;done)|(go_simp;rfl));intro gb214 hg w22 hbox hb;have n0_:=aM (blk_below (g:=gb213) (o:=.cells #[.int .i64 a0_0,.int .i64 a0_1,.int .i64 a0_2] 56 (0,0)) (by (with_reducible repeat (first|refine blk_drewN ?_ _|refine blk_drew ?_|refine blk_alloc ?_ _));exact BK213.out) hb);have n1_:=aM (below_step (by repeat (first|(with_reducible first|exact HB.out|apply bA|apply bN|apply bD|refine below_set ?_ GE213.out)|exact HB.out)) hb);have n2_:=aM (hbox);have n3_:=aM ((by rw [hg];exact (below_size (by repeat (first|(with_reducible first|exact HB.out|apply bA|apply bN|apply bD|refine below_set ?_ GE213.out)|exact HB.out))) : w.heap.size ≤ gb214));have n4_:=aM ((by rw [hg];exact (below_size (by repeat (first|(with_reducible first|exact HB.out|apply bA|apply bN|apply bD|refine below_set ?_ GE213.out)|exact HB.out))) : w.heap.size ≤ gb214));have n5_:=aM ((by rw [hg];exact Nat.ne_of_lt (blk_lt (g:=gb213) (o:=.cells #[.int .i64 a0_0,.int .i64 a0_1,.int .i64 a0_2] 56 (0,0)) (by (with_reducible repeat (first|refine blk_drewN ?_ _|refine blk_drew ?_|refine blk_alloc ?_ _));exact BK213.out)) : gb213 ≠ gb214));have n6_:=aM ((by rw [hg];exact Nat.ne_of_gt (blk_lt (g:=gb213) (o:=.cells #[.int .i64 a0_0,.int .i64 a0_1,.int .i64 a0_2] 56 (0,0)) (by (with_reducible repeat (first|refine blk_drewN ?_ _|refine blk_drew ?_|refine blk_alloc ?_ _));exact BK213.out)) : gb214 ≠ gb213));clear BK213;clear HB;have BK213:=n0_;have HB:=n1_;have BK214:=n2_;have GW214:=n3_;have GE214:=n4_;have NB213_214:=n5_;have NB214_213:=n6_;clear n0_ n1_ n2_ n3_ n4_ n5_ n6_;clear hb hbox hg;have hnb23:=NB213_214.out;have hnc23:=NB214_213.out;have hcz24_0 : w22.cell? ⟨gb213,0,none⟩ = some (.int .i64 a0_0):=(blk_cell BK213.out 0).trans rfl;have hcz24_1 : w22.cell? ⟨gb213,1,none⟩ = some (.int .i64 a0_1):=(blk_cell BK213.out 1).trans rfl;have hcz24_2 : w22.cell? ⟨gb213,2,none⟩ = some (.int .i64 a0_2):=(blk_cell BK213.out 2).trans rfl;have hfz24_0:=blk_frozen BK213.out 0;have hfz24_1:=blk_frozen BK213.out 1;have hfz24_2:=blk_frozen BK213.out 2;have hcz25_0 : w22.cell? ⟨gb214,0,none⟩ = some (.int .i64 a1_0):=(blk_cell BK214.out 0).trans rfl;have hcz25_1 : w22.cell? ⟨gb214,1,none⟩ = some (.int .i64 a1_1):=(blk_cell BK214.out 1).trans rfl;have hcz25_2 : w22.cell? ⟨gb214,2,none⟩ = some (.int .i64 a1_2):=(blk_cell BK214.out 2).trans rfl;have hfz25_0:=blk_frozen BK214.out 0;have hfz25_1:=blk_frozen BK214.out 1;have hfz25_2:=blk_frozen BK214.out 2))
  go_ret
  exact ⟨by first|rfl|(simp only [i64_w,i32_w];done)|(simp only [i64_w,i32_w];rfl)|(simp [errW_none,errW_some] <;> rfl)|(simp [*,errW_none,errW_some] <;> rfl),by repeat (first|(with_reducible first|exact HB.out|apply bA|apply bN|apply bD|refine below_set ?_ GE213.out|refine below_set ?_ GE214.out)|exact HB.out)⟩

/-! ### laws_eqItem: function 41 -/
def laws_eqItem.f (a0_0 : Int) (a0_1 : Int) (a0_2 : Int) (a0_3 : Int) (a1_0 : Int) (a1_1 : Int) (a1_2 : Int) (a1_3 : Int) : Option (Bool):=if a0_0 = a1_0 then ((laws_eqPay.f a0_1 a0_2 a0_3 a1_1 a1_2 a1_3).bind fun t217 => (if t217 = true then (some true) else (some false))) else (some false)
set_option maxHeartbeats 8000000 in
set_option maxRecDepth 100000 in
theorem laws_eqItem.calls (a0_0 : Int) (a0_1 : Int) (a0_2 : Int) (a0_3 : Int) (a1_0 : Int) (a1_1 : Int) (a1_2 : Int) (a1_3 : Int) (r : Bool) (w : World) (h : laws_eqItem.f a0_0 a0_1 a0_2 a0_3 a1_0 a1_1 a1_2 a1_3 = some r) :
  Calls Try.prog 41 #[.agg #[.int .i64 a0_0,.int .i64 a0_1,.int .i64 a0_2,.int .i64 a0_3],.agg #[.int .i64 a1_0,.int .i64 a1_1,.int .i64 a1_2,.int .i64 a1_3]] w fun e w' => e = .returned (.bool r) ∧ Below w.heap.size w w':=by
 have hu58:=Try.underlying58
 have hu56:=Try.underlying56
 have HB:=aM (Below.refl w.heap.size w)
 have H : (if a0_0 = a1_0 then ((laws_eqPay.f a0_1 a0_2 a0_3 a1_1 a1_2 a1_3).bind fun t217 => (if t217 = true then (some true) else (some false))) else (some false)) = some r:=h
 clear h
 by_cases c3 : a0_0 = a1_0
 ·rw [if_pos c3] at H
  have c3b0 : (a0_0 == a1_0) = true:=beq_iff_eq.mpr c3
  have c3b1 : (a0_0 != a1_0) = false:=bne_eq_false_iff_eq.mpr c3
  clear c3
  replace H:=Option.bind_eq_some_iff.mp H
  obtain ⟨t217,A40,H⟩:=H
  replace H : (if t217 = true then (some true) else (some false)) = some r:=H
  have A4:=aM A40
  clear A40
  by_cases c5 : t217 = true
  ·subst c5
   have H1 : (some true) = some r:=by rw [if_pos rfl] at H;exact H
   clear H
   have H:=H1
   clear H1
   obtain rfl:=Option.some.inj H
   go_enter Try.func41,Try.ntmps41
   go_wp2_with (first|((with_reducible refine gate_dst (N:=2) rfl ?_);refine box_event ?hg (N:=2) ?hd (cs:=#[.int .i64 a0_0,.int .i64 a0_1,.int .i64 a0_2,.int .i64 a0_3]) (t:=58) ?hr ?_;(case hd => rfl);(case hg => rfl);(case hr => first|(go_simp;done)|(go_simp;rfl));intro gb215 hg w6 hbox hb;have n0_:=aM (below_step (by repeat (first|(with_reducible first|exact HB.out|apply bA|apply bN|apply bD)|exact HB.out)) hb);have n1_:=aM (hbox);have n2_:=aM ((by rw [hg];exact (below_size (by repeat (first|(with_reducible first|exact HB.out|apply bA|apply bN|apply bD)|exact HB.out))) : w.heap.size ≤ gb215));have n3_:=aM ((by rw [hg];exact (below_size (by repeat (first|(with_reducible first|exact HB.out|apply bA|apply bN|apply bD)|exact HB.out))) : w.heap.size ≤ gb215));clear HB;have HB:=n0_;have BK215:=n1_;have GW215:=n2_;have GE215:=n3_;clear n0_ n1_ n2_ n3_;clear hb hbox hg)|((with_reducible refine gate_dst (N:=3) rfl ?_);refine box_event ?hg (N:=3) ?hd (cs:=#[.int .i64 a1_0,.int .i64 a1_1,.int .i64 a1_2,.int .i64 a1_3]) (t:=58) ?hr ?_;(case hd => rfl);(case hg => rfl);(case hr => first|(go_simp;done)|(go_simp;rfl));intro gb216 hg w7 hbox hb;have n0_:=aM (blk_below (g:=gb215) (o:=.cells #[.int .i64 a0_0,.int .i64 a0_1,.int .i64 a0_2,.int .i64 a0_3] 58 (0,0)) (by (with_reducible repeat (first|refine blk_drewN ?_ _|refine blk_drew ?_|refine blk_alloc ?_ _));exact BK215.out) hb);have n1_:=aM (below_step (by repeat (first|(with_reducible first|exact HB.out|apply bA|apply bN|apply bD|refine below_set ?_ GE215.out)|exact HB.out)) hb);have n2_:=aM (hbox);have n3_:=aM ((by rw [hg];exact (below_size (by repeat (first|(with_reducible first|exact HB.out|apply bA|apply bN|apply bD|refine below_set ?_ GE215.out)|exact HB.out))) : w.heap.size ≤ gb216));have n4_:=aM ((by rw [hg];exact (below_size (by repeat (first|(with_reducible first|exact HB.out|apply bA|apply bN|apply bD|refine below_set ?_ GE215.out)|exact HB.out))) : w.heap.size ≤ gb216));have n5_:=aM ((by rw [hg];exact Nat.ne_of_lt (blk_lt (g:=gb215) (o:=.cells #[.int .i64 a0_0,.int .i64 a0_1,.int .i64 a0_2,.int .i64 a0_3] 58 (0,0)) (by (with_reducible repeat (first|refine blk_drewN ?_ _|refine blk_drew ?_|refine blk_alloc ?_ _));exact BK215.out)) : gb215 ≠ gb216));have n6_:=aM ((by rw [hg];exact Nat.ne_of_gt (blk_lt (g:=gb215) (o:=.cells #[.int .i64 a0_0,.int .i64 a0_1,.int .i64 a0_2,.int .i64 a0_3] 58 (0,0)) (by (with_reducible repeat (first|refine blk_drewN ?_ _|refine blk_drew ?_|refine blk_alloc ?_ _));exact BK215.out)) : gb216 ≠ gb215));clear BK215;clear HB;have BK215:=n0_;have HB:=n1_;have BK216:=n2_;have GW216:=n3_;have GE216:=n4_;have NB215_216:=n5_;have NB216_215:=n6_;clear n0_ n1_ n2_ n3_ n4_ n5_ n6_;clear hb hbox hg;have hnb8:=NB215_216.out;have hnc8:=NB216_215.out;have hcz9_0 : w7.cell? ⟨gb215,0,none⟩ = some (.int .i64 a0_0):=(blk_cell BK215.out 0).trans rfl;have hcz9_1 : w7.cell? ⟨gb215,1,none⟩ = some (.int .i64 a0_1):=(blk_cell BK215.out 1).trans rfl;have hcz9_2 : w7.cell? ⟨gb215,2,none⟩ = some (.int .i64 a0_2):=(blk_cell BK215.out 2).trans rfl;have hcz9_3 : w7.cell? ⟨gb215,3,none⟩ = some (.int .i64 a0_3):=(blk_cell BK215.out 3).trans rfl;have hfz9_0:=blk_frozen BK215.out 0;have hfz9_1:=blk_frozen BK215.out 1;have hfz9_2:=blk_frozen BK215.out 2;have hfz9_3:=blk_frozen BK215.out 3;have hcz10_0 : w7.cell? ⟨gb216,0,none⟩ = some (.int .i64 a1_0):=(blk_cell BK216.out 0).trans rfl;have hcz10_1 : w7.cell? ⟨gb216,1,none⟩ = some (.int .i64 a1_1):=(blk_cell BK216.out 1).trans rfl;have hcz10_2 : w7.cell? ⟨gb216,2,none⟩ = some (.int .i64 a1_2):=(blk_cell BK216.out 2).trans rfl;have hcz10_3 : w7.cell? ⟨gb216,3,none⟩ = some (.int .i64 a1_3):=(blk_cell BK216.out 3).trans rfl;have hfz10_0:=blk_frozen BK216.out 0;have hfz10_1:=blk_frozen BK216.out 1;have hfz10_2:=blk_frozen BK216.out 2;have hfz10_3:=blk_frozen BK216.out 3)|((with_reducible refine gate_callee (f:=56) rfl ?_);refine goesL_ (some 14) rfl rfl Try.func56 (by kernel_rfl) rfl #[.agg #[.int .i64 a0_1,.int .i64 a0_2,.int .i64 a0_3],.agg #[.int .i64 a1_1,.int .i64 a1_2,.int .i64 a1_3]] rfl (by (try simp only [List.map_toArray,List.map_cons,List.map_nil]);first|done|rfl|(simp only [List.length_drop,List.length_take];rfl)) ?_;(with_reducible refine (laws_eqPay.calls a0_1 a0_2 a0_3 a1_1 a1_2 a1_3 true _ A4.out).mono ?_);rintro e w11 ⟨rfl,hb⟩;refine ⟨_,rfl,?_⟩;have n0_:=aM (blk_below (g:=gb215) (o:=.cells #[.int .i64 a0_0,.int .i64 a0_1,.int .i64 a0_2,.int .i64 a0_3] 58 (0,0)) (by (with_reducible repeat (first|refine blk_drewN ?_ _|refine blk_drew ?_|refine blk_alloc ?_ _));exact BK215.out) hb);have n1_:=aM (blk_below (g:=gb216) (o:=.cells #[.int .i64 a1_0,.int .i64 a1_1,.int .i64 a1_2,.int .i64 a1_3] 58 (0,0)) (by (with_reducible repeat (first|refine blk_drewN ?_ _|refine blk_drew ?_|refine blk_alloc ?_ _));exact BK216.out) hb);have n2_:=aM (below_step (by repeat (first|(with_reducible first|exact HB.out|apply bA|apply bN|apply bD|refine below_set ?_ GE215.out|refine below_set ?_ GE216.out)|exact HB.out)) hb);clear BK215;clear BK216;clear HB;have BK215:=n0_;have BK216:=n1_;have HB:=n2_;clear n0_ n1_ n2_;(try clear hb);(try clear hb2);(try clear hk);(try clear hi)))
   go_ret
   exact ⟨by first|rfl|(simp only [i64_w,i32_w];done)|(simp only [i64_w,i32_w];rfl)|(simp [errW_none,errW_some] <;> rfl)|(simp [*,errW_none,errW_some] <;> rfl),by repeat (first|(with_reducible first|exact HB.out|apply bA|apply bN|apply bD|refine below_set ?_ GE215.out|refine below_set ?_ GE216.out)|exact HB.out)⟩
  ·replace c5:=Bool.eq_false_iff.mpr c5
   subst c5
   have H1 : (some false) = some r:=by rw [if_neg (show ¬ (false = true) by decide)] at H;exact H
   clear H
   have H:=H1
   clear H1
   obtain rfl:=Option.some.inj H
   go_enter Try.func41,Try.ntmps41
   go_wp2_with (first|((with_reducible refine gate_dst (N:=2) rfl ?_);refine box_event ?hg (N:=2) ?hd (cs:=#[.int .i64 a0_0,.int .i64 a0_1,.int .i64 a0_2,.int .i64 a0_3]) (t:=58) ?hr ?_;(case hd => rfl);(case hg => rfl);(case hr => first|(go_simp;done)|(go_simp;rfl));intro gb215 hg w12 hbox hb;have n0_:=aM (below_step (by repeat (first|(with_reducible first|exact HB.out|apply bA|apply bN|apply bD)|exact HB.out)) hb);have n1_:=aM (hbox);have n2_:=aM ((by rw [hg];exact (below_size (by repeat (first|(with_reducible first|exact HB.out|apply bA|apply bN|apply bD)|exact HB.out))) : w.heap.size ≤ gb215));have n3_:=aM ((by rw [hg];exact (below_size (by repeat (first|(with_reducible first|exact HB.out|apply bA|apply bN|apply bD)|exact HB.out))) : w.heap.size ≤ gb215));clear HB;have HB:=n0_;have BK215:=n1_;have GW215:=n2_;have GE215:=n3_;clear n0_ n1_ n2_ n3_;clear hb hbox hg)|((with_reducible refine gate_dst (N:=3) rfl ?_);refine box_event ?hg (N:=3) ?hd (cs:=#[.int .i64 a1_0,.int .i64 a1_1,.int .i64 a1_2,.int .i64 a1_3]) (t:=58) ?hr ?_;(case hd => rfl);(case hg => rfl);(case hr => first|(go_simp;done)|(go_simp;rfl));intro gb216 hg w13 hbox hb;have n0_:=aM (blk_below (g:=gb215) (o:=.cells #[.int .i64 a0_0,.int .i64 a0_1,.int .i64 a0_2,.int .i64 a0_3] 58 (0,0)) (by (with_reducible repeat (first|refine blk_drewN ?_ _|refine blk_drew ?_|refine blk_alloc ?_ _));exact BK215.out) hb);have n1_:=aM (below_step (by repeat (first|(with_reducible first|exact HB.out|apply bA|apply bN|apply bD|refine below_set ?_ GE215.out)|exact HB.out)) hb);have n2_:=aM (hbox);have n3_:=aM ((by rw [hg];exact (below_size (by repeat (first|(with_reducible first|exact HB.out|apply bA|apply bN|apply bD|refine below_set ?_ GE215.out)|exact HB.out))) : w.heap.size ≤ gb216));have n4_:=aM ((by rw [hg];exact (below_size (by repeat (first|(with_reducible first|exact HB.out|apply bA|apply bN|apply bD|refine below_set ?_ GE215.out)|exact HB.out))) : w.heap.size ≤ gb216));have n5_:=aM ((by rw [hg];exact Nat.ne_of_lt (blk_lt (g:=gb215) (o:=.cells #[.int .i64 a0_0,.int .i64 a0_1,.int .i64 a0_2,.int .i64 a0_3] 58 (0,0)) (by (with_reducible repeat (first|refine blk_drewN ?_ _|refine blk_drew ?_|refine blk_alloc ?_ _));exact BK215.out)) : gb215 ≠ gb216));have n6_:=aM ((by rw [hg];exact Nat.ne_of_gt (blk_lt (g:=gb215) (o:=.cells #[.int .i64 a0_0,.int .i64 a0_1,.int .i64 a0_2,.int .i64 a0_3] 58 (0,0)) (by (with_reducible repeat (first|refine blk_drewN ?_ _|refine blk_drew ?_|refine blk_alloc ?_ _));exact BK215.out)) : gb216 ≠ gb215));clear BK215;clear HB;have BK215:=n0_;have HB:=n1_;have BK216:=n2_;have GW216:=n3_;have GE216:=n4_;have NB215_216:=n5_;have NB216_215:=n6_;clear n0_ n1_ n2_ n3_ n4_ n5_ n6_;clear hb hbox hg;have hnb14:=NB215_216.out;have hnc14:=NB216_215.out;have hcz15_0 : w13.cell? ⟨gb215,0,none⟩ = some (.int .i64 a0_0):=(blk_cell BK215.out 0).trans rfl;have hcz15_1 : w13.cell? ⟨gb215,1,none⟩ = some (.int .i64 a0_1):=(blk_cell BK215.out 1).trans rfl;have hcz15_2 : w13.cell? ⟨gb215,2,none⟩ = some (.int .i64 a0_2):=(blk_cell BK215.out 2).trans rfl;have hcz15_3 : w13.cell? ⟨gb215,3,none⟩ = some (.int .i64 a0_3):=(blk_cell BK215.out 3).trans rfl;have hfz15_0:=blk_frozen BK215.out 0;have hfz15_1:=blk_frozen BK215.out 1;have hfz15_2:=blk_frozen BK215.out 2;have hfz15_3:=blk_frozen BK215.out 3;have hcz16_0 : w13.cell? ⟨gb216,0,none⟩ = some (.int .i64 a1_0):=(blk_cell BK216.out 0).trans rfl;have hcz16_1 : w13.cell? ⟨gb216,1,none⟩ = some (.int .i64 a1_1):=(blk_cell BK216.out 1).trans rfl;have hcz16_2 : w13.cell? ⟨gb216,2,none⟩ = some (.int .i64 a1_2):=(blk_cell BK216.out 2).trans rfl;have hcz16_3 : w13.cell? ⟨gb216,3,none⟩ = some (.int .i64 a1_3):=(blk_cell BK216.out 3).trans rfl;have hfz16_0:=blk_frozen BK216.out 0;have hfz16_1:=blk_frozen BK216.out 1;have hfz16_2:=blk_frozen BK216.out 2;have hfz16_3:=blk_frozen BK216.out 3)|((with_reducible refine gate_callee (f:=56) rfl ?_);refine goesL_ (some 14) rfl rfl Try.func56 (by kernel_rfl) rfl #[.agg #[.int .i64 a0_1,.int .i64 a0_2,.int .i64 a0_3],.agg #[.int .i64 a1_1,.int .i64 a1_2,.int .i64 a1_3]] rfl (by (try simp only [List.map_toArray,List.map_cons,List.map_nil]);first|done|rfl|(simp only [List.length_drop,List.length_take];rfl)) ?_;(with_reducible refine (laws_eqPay.calls a0_1 a0_2 a0_3 a1_1 a1_2 a1_3 false _ A4.out).mono ?_);rintro e w17 ⟨rfl,hb⟩;refine ⟨_,rfl,?_⟩;have n0_:=aM (blk_below (g:=gb215) (o:=.cells #[.int .i64 a0_0,.int .i64 a0_1,.int .i64 a0_2,.int .i64 a0_3] 58 (0,0)) (by (with_reducible repeat (first|refine blk_drewN ?_ _|refine blk_drew ?_|refine blk_alloc ?_ _));exact BK215.out) hb);have n1_:=aM (blk_below (g:=gb216) (o:=.cells #[.int .i64 a1_0,.int .i64 a1_1,.int .i64 a1_2,.int .i64 a1_3] 58 (0,0)) (by (with_reducible repeat (first|refine blk_drewN ?_ _|refine blk_drew ?_|refine blk_alloc ?_ _));exact BK216.out) hb);have n2_:=aM (below_step (by repeat (first|(with_reducible first|exact HB.out|apply bA|apply bN|apply bD|refine below_set ?_ GE215.out|refine below_set ?_ GE216.out)|exact HB.out)) hb);clear BK215;clear BK216;clear HB;have BK215:=n0_;have BK216:=n1_;have HB:=n2_;clear n0_ n1_ n2_;(try clear hb);(try clear hb2);(try clear hk);(try clear hi)))
   go_ret
   exact ⟨by first|rfl|(simp only [i64_w,i32_w];done)|(simp only [i64_w,i32_w];rfl)|(simp [errW_none,errW_some] <;> rfl)|(simp [*,errW_none,errW_some] <;> rfl),by repeat (first|(with_reducible first|exact HB.out|apply bA|apply bN|apply bD|refine below_set ?_ GE215.out|refine below_set ?_ GE216.out)|exact HB.out)⟩
 ·rw [if_neg c3] at H
  have c3b0 : (a0_0 == a1_0) = false:=beq_eq_false_iff_ne.mpr c3
  have c3b1 : (a0_0 != a1_0) = true:=bne_iff_ne.mpr c3
  obtain rfl:=Option.some.inj H
  go_enter Try.func41,Try.ntmps41
  go_wp2_with (first|((with_reducible refine gate_dst (N:=2) rfl ?_);refine box_event ?hg (N:=2) ?hd (cs:=#[.int .i64 a0_0,.int .i64 a0_1,.int .i64 a0_2,.int .i64 a0_3]) (t:=58) ?hr ?_;(case hd => rfl);(case hg => rfl);(case hr => first|(go_simp;done)|(go_simp;rfl));intro gb215 hg w18 hbox hb;have n0_:=aM (below_step (by repeat (first|(with_reducible first|exact HB.out|apply bA|apply bN|apply bD)|exact HB.out)) hb);have n1_:=aM (hbox);have n2_:=aM ((by rw [hg];exact (below_size (by repeat (first|(with_reducible first|exact HB.out|apply bA|apply bN|apply bD)|exact HB.out))) : w.heap.size ≤ gb215));have n3_:=aM ((by rw [hg];exact (below_size (by repeat (first|(with_reducible first|exact HB.out|apply bA|apply bN|apply bD)|exact HB.out))) : w.heap.size ≤ gb215));clear HB;have HB:=n0_;have BK215:=n1_;have GW215:=n2_;have GE215:=n3_;clear n0_ n1_ n2_ n3_;clear hb hbox hg)|((with_reducible refine gate_dst (N:=3) rfl ?_);refine box_event ?hg (N:=3) ?hd (cs:=#[.int .i64 a1_0,.int .i64 a1_1,.int .i64 a1_2,.int .i64 a1_3]) (t:=58) ?hr ?_;(case hd => rfl);(case hg => rfl);(case hr => first|(go_simp;done)|(go_simp;rfl));intro gb216 hg w19 hbox hb;have n0_:=aM (blk_below (g:=gb215) (o:=.cells #[.int .i64 a0_0,.int .i64 a0_1,.int .i64 a0_2,.int .i64 a0_3] 58 (0,0)) (by (with_reducible repeat (first|refine blk_drewN ?_ _|refine blk_drew ?_|refine blk_alloc ?_ _));exact BK215.out) hb);have n1_:=aM (below_step (by repeat (first|(with_reducible first|exact HB.out|apply bA|apply bN|apply bD|refine below_set ?_ GE215.out)|exact HB.out)) hb);have n2_:=aM (hbox);have n3_:=aM ((by rw [hg];exact (below_size (by repeat (first|(with_reducible first|exact HB.out|apply bA|apply bN|apply bD|refine below_set ?_ GE215.out)|exact HB.out))) : w.heap.size ≤ gb216));have n4_:=aM ((by rw [hg];exact (below_size (by repeat (first|(with_reducible first|exact HB.out|apply bA|apply bN|apply bD|refine below_set ?_ GE215.out)|exact HB.out))) : w.heap.size ≤ gb216));have n5_:=aM ((by rw [hg];exact Nat.ne_of_lt (blk_lt (g:=gb215) (o:=.cells #[.int .i64 a0_0,.int .i64 a0_1,.int .i64 a0_2,.int .i64 a0_3] 58 (0,0)) (by (with_reducible repeat (first|refine blk_drewN ?_ _|refine blk_drew ?_|refine blk_alloc ?_ _));exact BK215.out)) : gb215 ≠ gb216));have n6_:=aM ((by rw [hg];exact Nat.ne_of_gt (blk_lt (g:=gb215) (o:=.cells #[.int .i64 a0_0,.int .i64 a0_1,.int .i64 a0_2,.int .i64 a0_3] 58 (0,0)) (by (with_reducible repeat (first|refine blk_drewN ?_ _|refine blk_drew ?_|refine blk_alloc ?_ _));exact BK215.out)) : gb216 ≠ gb215));clear BK215;clear HB;have BK215:=n0_;have HB:=n1_;have BK216:=n2_;have GW216:=n3_;have GE216:=n4_;have NB215_216:=n5_;have NB216_215:=n6_;clear n0_ n1_ n2_ n3_ n4_ n5_ n6_;clear hb hbox hg;have hnb20:=NB215_216.out;have hnc20:=NB216_215.out;have hcz21_0 : w19.cell? ⟨gb215,0,none⟩ = some (.int .i64 a0_0):=(blk_cell BK215.out 0).trans rfl;have hcz21_1 : w19.cell? ⟨gb215,1,none⟩ = some (.int .i64 a0_1):=(blk_cell BK215.out 1).trans rfl;have hcz21_2 : w19.cell? ⟨gb215,2,none⟩ = some (.int .i64 a0_2):=(blk_cell BK215.out 2).trans rfl;have hcz21_3 : w19.cell? ⟨gb215,3,none⟩ = some (.int .i64 a0_3):=(blk_cell BK215.out 3).trans rfl;have hfz21_0:=blk_frozen BK215.out 0;have hfz21_1:=blk_frozen BK215.out 1;have hfz21_2:=blk_frozen BK215.out 2;have hfz21_3:=blk_frozen BK215.out 3;have hcz22_0 : w19.cell? ⟨gb216,0,none⟩ = some (.int .i64 a1_0):=(blk_cell BK216.out 0).trans rfl;have hcz22_1 : w19.cell? ⟨gb216,1,none⟩ = some (.int .i64 a1_1):=(blk_cell BK216.out 1).trans rfl;have hcz22_2 : w19.cell? ⟨gb216,2,none⟩ = some (.int .i64 a1_2):=(blk_cell BK216.out 2).trans rfl;have hcz22_3 : w19.cell? ⟨gb216,3,none⟩ = some (.int .i64 a1_3):=(blk_cell BK216.out 3).trans rfl;have hfz22_0:=blk_frozen BK216.out 0;have hfz22_1:=blk_frozen BK216.out 1;have hfz22_2:=blk_frozen BK216.out 2;have hfz22_3:=blk_frozen BK216.out 3))
  go_ret
  exact ⟨by first|rfl|(simp only [i64_w,i32_w];done)|(simp only [i64_w,i32_w];rfl)|(simp [errW_none,errW_some] <;> rfl)|(simp [*,errW_none,errW_some] <;> rfl),by repeat (first|(with_reducible first|exact HB.out|apply bA|apply bN|apply bD|refine below_set ?_ GE215.out|refine below_set ?_ GE216.out)|exact HB.out)⟩

/-! ### laws_eqItemS: function 17 -/
def laws_eqItemS.l0 : Nat → List (S58) → List (S58) → Int → Option (Bool)
 | 0,_,_,_ => none
 | k + 1,x0,x1,x5 => if x5 < (x0.length : Int) then (if 0 ≤ x5 then (if x5 < (x1.length : Int) then ((laws_eqItem.f ((rd_T58 x0 x5).f0) ((rd_T58 x0 x5).f1.f0) ((rd_T58 x0 x5).f1.f1) ((rd_T58 x0 x5).f1.f2) ((rd_T58 x1 x5).f0) ((rd_T58 x1 x5).f1.f0) ((rd_T58 x1 x5).f1.f1) ((rd_T58 x1 x5).f1.f2)).bind fun t220 => (if t220 = true then (laws_eqItemS.l0 k x0 x1 (wrap64 (x5 + 1))) else (some false))) else (none)) else (none)) else (some true)
def laws_eqItemS.f (k : Nat) (l0 : List (S58)) (l1 : List (S58)) : Option (Bool):=if (l0.length : Int) = (l1.length : Int) then (laws_eqItemS.l0 k l0 l1 0) else (some false)
theorem laws_eqItemS.mono_l : ∀ k,(∀ y0 y1 y2,LeO (laws_eqItemS.l0 k y0 y1 y2) (laws_eqItemS.l0 (k + 1) y0 y1 y2))
 | 0 => fun _ _ _ r h => by simp [laws_eqItemS.l0] at h
 | k + 1 => by
  have ih0:=laws_eqItemS.mono_l k
  ·intro y0 y1 y2
   unfold laws_eqItemS.l0
   repeat' first
   | exact LeO.refl _
   | exact ih0 _ _ _
   | exact LeO.none _
   | refine LeO.ite ?_ ?_
   | refine LeO.bind ?_ (fun _ => ?_)
theorem laws_eqItemS.mono : ∀ a0 a1 k,LeO (laws_eqItemS.f k a0 a1) (laws_eqItemS.f (k + 1) a0 a1):=by
 intro a0 a1 k
 have ih0:=laws_eqItemS.mono_l k
 unfold laws_eqItemS.f
 repeat' first
   | exact LeO.refl _
   | exact ih0 _ _ _
   | exact LeO.none _
   | refine LeO.ite ?_ ?_
   | refine LeO.bind ?_ (fun _ => ?_)
def laws_eqItemS.T6 : Bool × List (List Nat × List Nat):=(true,[([],[]),([],[]),([0,1],[0,1]),([2],[2]),([],[]),([],[]),([4,5],[4,5]),([6],[6]),([3,7],[3,7]),([8],[8])])
def laws_eqItemS.B6 : List Nat:=[0,0,3,7,0,0,48,112,255,511]
theorem laws_eqItemS.tab6 : rtab .any (opsOf Try.f17 6) = laws_eqItemS.T6:=by kernel_rfl
theorem laws_eqItemS.bits6 : waitsOk laws_eqItemS.T6.2 laws_eqItemS.B6 = true:=by kernel_rfl
set_option maxHeartbeats 8000000 in
set_option maxRecDepth 100000 in
theorem laws_eqItemS.calls (k : Nat) (A0 : Option Addr) (c0 : Nat) (l0 : List (S58)) (A1 : Option Addr) (c1 : Nat) (l1 : List (S58)) (r : Bool) (w : World) (hr0 : Kd.C k58 w A0 l0.length l0) (hc0 : l0.length ≤ c0) (hr1 : Kd.C k58 w A1 l1.length l1) (hc1 : l1.length ≤ c1) (h : laws_eqItemS.f k l0 l1 = some r) :
  Calls Try.prog 17 #[.slice A0 l0.length c0,.slice A1 l1.length c1] w fun e w' => e = .returned (.bool r) ∧ Below w.heap.size w w':=by
 have hu58:=Try.underlying58
 have HR0:=aM hr0
 have HC0:=aM hc0
 clear hr0 hc0
 have HR1:=aM hr1
 have HC1:=aM hc1
 clear hr1 hc1
 have HB:=aM (Below.refl w.heap.size w)
 have H : (if (l0.length : Int) = (l1.length : Int) then (laws_eqItemS.l0 k l0 l1 0) else (some false)) = some r:=h
 clear h
 by_cases c3 : (l0.length : Int) = (l1.length : Int)
 ·rw [if_pos c3] at H
  have c3b0 : ((l0.length : Int) == (l1.length : Int)) = true:=beq_iff_eq.mpr c3
  have c3b1 : ((l0.length : Int) != (l1.length : Int)) = false:=bne_eq_false_iff_eq.mpr c3
  have c3b2 : (l0.length == l1.length) = true:=by first|simpa using c3|(simp at c3 ⊢;omega)
  clear c3
  have H':=aM H
  clear H
  go_enter Try.func17,Try.ntmps17
  go_wp2
  go_loopg [5] k (fun kq v5 w' => ∃ (x5_1 : Int),v5 = .int .i64 x5_1 ∧ Aside0 (laws_eqItemS.l0 kq l0 l1 x5_1 = some r) ∧ Aside0 (kq ≤ k) ∧ Aside0 (Below w.heap.size w w'))
  case atStart => exact ⟨(0),(by first|rfl|(simp;done)|(simp [*];done)),H',⟨Nat.le_refl _⟩,⟨by repeat (first|(with_reducible first|exact HB.out|apply bA|apply bN|apply bD)|exact HB.out)⟩⟩
  case round =>
   clear H'
   try clear c1
   try clear p2
   try clear c3
   try clear c3b0
   try clear c3b1
   try clear c3b2
   obtain ⟨x5_1,rfl,HA,HK1,HB⟩:=hrel
   cases gk with
   | zero => exact absurd HA.out (by simp [laws_eqItemS.l0])
   | succ k1 =>
    have H:=HA.out
    clear HA
    simp only [laws_eqItemS.l0] at H
    by_cases c4 : x5_1 < (l0.length : Int)
    ·rw [if_pos c4] at H
     have c4b0 : decide (x5_1 < (l0.length : Int)) = true:=decide_eq_true c4
     clear c4
     by_cases c5 : 0 ≤ x5_1
     case neg => rw [if_neg c5] at H;exact absurd H (by simp)
     rw [if_pos c5] at H
     have c5b0 : decide (0 ≤ x5_1) = true:=decide_eq_true c5
     clear c5
     by_cases c6 : x5_1 < (l1.length : Int)
     case neg => rw [if_neg c6] at H;exact absurd H (by simp)
     rw [if_pos c6] at H
     have c6b0 : decide (x5_1 < (l1.length : Int)) = true:=decide_eq_true c6
     clear c6
     replace H:=Option.bind_eq_some_iff.mp H
     obtain ⟨t220,A70,H⟩:=H
     replace H : (if t220 = true then (laws_eqItemS.l0 k1 l0 l1 (wrap64 (x5_1 + 1))) else (some false)) = some r:=H
     have A7:=aM A70
     clear A70
     by_cases c8 : t220 = true
     ·subst c8
      have H1 : (laws_eqItemS.l0 k1 l0 l1 (wrap64 (x5_1 + 1))) = some r:=by rw [if_pos rfl] at H;exact H
      clear H
      have H:=H1
      clear H1
      have H':=aM H
      clear H
      try go_wp2
      have n0_:=aM (bD HB.out)
      clear HB
      have HB:=n0_
      clear n0_
      have p218 : 0 ≤ (x5_1 : Int):=of_decide_eq_true (by first|(with_reducible assumption)|assumption)
      have q218 : x5_1 < (l0.length : Int):=of_decide_eq_true (by first|(with_reducible assumption)|assumption)
      obtain ⟨ad218,e218,hx218_0,hx218_1,hx218_2,hx218_3⟩:=at_T58 HR0.out x5_1 p218 q218
      have hw218_3:=hx218_3
      have hw218_2:=hx218_2
      have hw218_1:=hx218_1
      have hw218_0:=hx218_0
      cases e218
      replace hx218_0:=(HB.out.cell (bL w hx218_0)).trans hx218_0
      replace hx218_1:=(HB.out.cell (bL w hx218_1)).trans hx218_1
      replace hx218_2:=(HB.out.cell (bL w hx218_2)).trans hx218_2
      replace hx218_3:=(HB.out.cell (bL w hx218_3)).trans hx218_3
      replace p218:=eq_true p218
      replace q218:=eq_true q218
      have p219 : 0 ≤ (x5_1 : Int):=of_decide_eq_true (by first|(with_reducible assumption)|assumption)
      have q219 : x5_1 < (l1.length : Int):=of_decide_eq_true (by first|(with_reducible assumption)|assumption)
      obtain ⟨ad219,e219,hx219_0,hx219_1,hx219_2,hx219_3⟩:=at_T58 HR1.out x5_1 p219 q219
      have hw219_3:=hx219_3
      have hw219_2:=hx219_2
      have hw219_1:=hx219_1
      have hw219_0:=hx219_0
      cases e219
      replace hx219_0:=(HB.out.cell (bL w hx219_0)).trans hx219_0
      replace hx219_1:=(HB.out.cell (bL w hx219_1)).trans hx219_1
      replace hx219_2:=(HB.out.cell (bL w hx219_2)).trans hx219_2
      replace hx219_3:=(HB.out.cell (bL w hx219_3)).trans hx219_3
      replace p219:=eq_true p219
      replace q219:=eq_true q219
      refine start_ (n:=10) (S:=fun w' => w'.cell? (ad218.add ((x5_1).toNat * 4)) = some (.int .i64 ((rd_T58 l0 x5_1).f0)) ∧ w'.cell? ⟨(ad218.add ((x5_1).toNat * 4)).block,(ad218.add ((x5_1).toNat * 4)).off + 1,none⟩ = some (.int .i64 ((rd_T58 l0 x5_1).f1.f0)) ∧ w'.cell? ⟨(ad218.add ((x5_1).toNat * 4)).block,(ad218.add ((x5_1).toNat * 4)).off + 2,none⟩ = some (.int .i64 ((rd_T58 l0 x5_1).f1.f1)) ∧ w'.cell? ⟨(ad218.add ((x5_1).toNat * 4)).block,(ad218.add ((x5_1).toNat * 4)).off + 3,none⟩ = some (.int .i64 ((rd_T58 l0 x5_1).f1.f2)) ∧ w'.cell? (ad219.add ((x5_1).toNat * 4)) = some (.int .i64 ((rd_T58 l1 x5_1).f0)) ∧ w'.cell? ⟨(ad219.add ((x5_1).toNat * 4)).block,(ad219.add ((x5_1).toNat * 4)).off + 1,none⟩ = some (.int .i64 ((rd_T58 l1 x5_1).f1.f0)) ∧ w'.cell? ⟨(ad219.add ((x5_1).toNat * 4)).block,(ad219.add ((x5_1).toNat * 4)).off + 2,none⟩ = some (.int .i64 ((rd_T58 l1 x5_1).f1.f1)) ∧ w'.cell? ⟨(ad219.add ((x5_1).toNat * 4)).block,(ad219.add ((x5_1).toNat * 4)).off + 3,none⟩ = some (.int .i64 ((rd_T58 l1 x5_1).f1.f2))) (ds:=[]) #[bF,bF,bF,bF,bF,bF,bF,bF,bF,bF] (by kernel_rfl) rfl rfl ⟨((HB.out.cell (bL w hw218_0)).trans hw218_0),((HB.out.cell (bL w hw218_1)).trans hw218_1),((HB.out.cell (bL w hw218_2)).trans hw218_2),((HB.out.cell (bL w hw218_3)).trans hw218_3),((HB.out.cell (bL w hw219_0)).trans hw219_0),((HB.out.cell (bL w hw219_1)).trans hw219_1),((HB.out.cell (bL w hw219_2)).trans hw219_2),((HB.out.cell (bL w hw219_3)).trans hw219_3)⟩ (fun hHeld => ?_);refine with_tabW laws_eqItemS.tab6 laws_eqItemS.bits6 (fun HT_ HW_ => ?_)
      generalize wr.drew = w9 at HB hx218_0 hx218_1 hx218_2 hx218_3 hx219_0 hx219_1 hx219_2 hx219_3 hHeld ⊢
      refine pure_ (i:=0) (N:=some 17) (v:=?_) (a':=?_) #[bT,bF,bF,bF,bF,bF,bF,bF,bF,bF] rfl rfl (any_of HT_.out (by kernel_rfl)) (fun _ _ _ h => h) (Or.inl ⟨by rfl,?_⟩) ?_ ?_
      rotate_left;(· intro w';go_simp;with_reducible rfl);rotate_left;(· simp only [Act.put,sI,sZ,sS,i64_w,i32_w];rfl)
      refine pure_ (i:=1) (N:=some 18) (v:=?_) (a':=?_) #[bT,bT,bF,bF,bF,bF,bF,bF,bF,bF] rfl rfl (any_of HT_.out (by kernel_rfl)) (fun _ _ _ h => h) (Or.inl ⟨by rfl,?_⟩) ?_ ?_
      rotate_left;(· intro w';go_simp;with_reducible rfl);rotate_left;(· simp only [Act.put,sI,sZ,sS,i64_w,i32_w];rfl)
      refine pure_ (i:=2) (N:=some 19) (v:=?_) (a':=?_) #[bT,bT,bT,bF,bF,bF,bF,bF,bF,bF] rfl rfl (any_of HT_.out (by kernel_rfl)) (fun _ _ _ h => h) (Or.inl ⟨by rfl,?_⟩) ?_ ?_
      rotate_left;(· intro w';go_simp;with_reducible rfl);rotate_left;(· simp only [Act.put,sI,sZ,sS,i64_w,i32_w];rfl)
      refine pure_ (i:=4) (N:=some 21) (v:=?_) (a':=?_) #[bT,bT,bT,bF,bT,bF,bF,bF,bF,bF] rfl rfl (any_of HT_.out (by kernel_rfl)) (fun _ _ _ h => h) (Or.inl ⟨by rfl,?_⟩) ?_ ?_
      rotate_left;(· intro w';go_simp;with_reducible rfl);rotate_left;(· simp only [Act.put,sI,sZ,sS,i64_w,i32_w];rfl)
      refine pure_ (i:=5) (N:=some 22) (v:=?_) (a':=?_) #[bT,bT,bT,bF,bT,bT,bF,bF,bF,bF] rfl rfl (any_of HT_.out (by kernel_rfl)) (fun _ _ _ h => h) (Or.inl ⟨by rfl,?_⟩) ?_ ?_
      rotate_left;(· intro w';go_simp;with_reducible rfl);rotate_left;(· simp only [Act.put,sI,sZ,sS,i64_w,i32_w];rfl)
      refine pure_ (i:=6) (N:=some 23) (v:=?_) (a':=?_) #[bT,bT,bT,bF,bT,bT,bT,bF,bF,bF] rfl rfl (any_of HT_.out (by kernel_rfl)) (fun _ _ _ h => h) (Or.inl ⟨by rfl,?_⟩) ?_ ?_
      rotate_left;(· intro w';go_simp;with_reducible rfl);rotate_left;(· simp only [Act.put,sI,sZ,sS,i64_w,i32_w];rfl)
      refine take_ (i:=3) (N:=some 20) (v:=?_) (a':=?_) #[bT,bT,bT,bT,bT,bT,bT,bF,bF,bF] rfl rfl (take_ofW HT_.out HW_.out (by kernel_rfl)) (fun _ _ _ h => h) (Or.inl ⟨by rfl,?_⟩) hHeld ?_ ?_
      rotate_left
      ·rintro w' ⟨s0,s1,s2,s3,s4,s5,s6,s7⟩
       (try simp only [Int.toNat_natCast] at s0 s1 s2 s3 s4 s5 s6 s7)
       go_simp
       with_reducible rfl
      rotate_left
      ·simp only [Act.put,sI,sZ,sS,i64_w,i32_w]
       rfl
      refine take_ (i:=7) (N:=some 24) (v:=?_) (a':=?_) #[bT,bT,bT,bT,bT,bT,bT,bT,bF,bF] rfl rfl (take_ofW HT_.out HW_.out (by kernel_rfl)) (fun _ _ _ h => h) (Or.inl ⟨by rfl,?_⟩) hHeld ?_ ?_
      rotate_left
      ·rintro w' ⟨s0,s1,s2,s3,s4,s5,s6,s7⟩
       (try simp only [Int.toNat_natCast] at s0 s1 s2 s3 s4 s5 s6 s7)
       go_simp
       with_reducible rfl
      rotate_left
      ·simp only [Act.put,sI,sZ,sS,i64_w,i32_w]
       rfl
      refine one_ (i:=8) (N:=some 25) #[bT,bT,bT,bT,bT,bT,bT,bT,bT,bF] rfl rfl (one_of HT_.out (by kernel_rfl)) (by decide) (fun K hK => ?_)
      refine goes_ Try.func41 (by kernel_rfl) rfl #[.agg #[.int .i64 ((rd_T58 l0 x5_1).f0),.int .i64 ((rd_T58 l0 x5_1).f1.f0),.int .i64 ((rd_T58 l0 x5_1).f1.f1),.int .i64 ((rd_T58 l0 x5_1).f1.f2)],.agg #[.int .i64 ((rd_T58 l1 x5_1).f0),.int .i64 ((rd_T58 l1 x5_1).f1.f0),.int .i64 ((rd_T58 l1 x5_1).f1.f1),.int .i64 ((rd_T58 l1 x5_1).f1.f2)]] (by rfl) rfl rfl (by (try simp only [List.map_toArray,List.map_cons,List.map_nil]);first|done|rfl|(simp only [List.length_drop,List.length_take];rfl)) ?_
      with_reducible refine (laws_eqItem.calls ((rd_T58 l0 x5_1).f0) ((rd_T58 l0 x5_1).f1.f0) ((rd_T58 l0 x5_1).f1.f1) ((rd_T58 l0 x5_1).f1.f2) ((rd_T58 l1 x5_1).f0) ((rd_T58 l1 x5_1).f1.f0) ((rd_T58 l1 x5_1).f1.f1) ((rd_T58 l1 x5_1).f1.f2) true _ A7.out).mono ?_
      rintro e w10 ⟨rfl,hb⟩
      refine ⟨_,rfl,?_⟩
      have n0_:=aM (below_step (by repeat (first|(with_reducible first|exact HB.out|apply bA|apply bN|apply bD)|exact HB.out)) hb)
      clear HB
      have HB:=n0_
      clear n0_
      (try clear hb)
      (try clear hb2)
      (try clear hk)
      (try clear hi)
      refine hK.out _ _ ⟨((HB.out.cell (bL w hw218_0)).trans hw218_0),((HB.out.cell (bL w hw218_1)).trans hw218_1),((HB.out.cell (bL w hw218_2)).trans hw218_2),((HB.out.cell (bL w hw218_3)).trans hw218_3),((HB.out.cell (bL w hw219_0)).trans hw219_0),((HB.out.cell (bL w hw219_1)).trans hw219_1),((HB.out.cell (bL w hw219_2)).trans hw219_2),((HB.out.cell (bL w hw219_3)).trans hw219_3)⟩ (fun hHeld => ?_)
      clear hK K
      refine norm_ (a':=?_) ?_ ?_
      rotate_left
      ·show Act.put _ (some 25) _ = _
       simp only [Act.put,sI,sZ,sS,i64_w,i32_w]
       rfl
      refine pure_ (i:=9) (N:=some 26) (v:=?_) (a':=?_) #[bT,bT,bT,bT,bT,bT,bT,bT,bT,bT] rfl rfl (any_of HT_.out (by kernel_rfl)) (fun _ _ _ h => h) (Or.inl ⟨by rfl,?_⟩) ?_ ?_
      rotate_left;(· intro w';go_simp;with_reducible rfl);rotate_left;(· simp only [Act.put,sI,sZ,sS,i64_w,i32_w];rfl)
      refine done_ (done_of HT_.out (by kernel_rfl)) ?_
      try go_wp2
      go_roundg k1
      case measure => have:=HK1.out;omega
      case rel => exact ⟨(wrap64 (x5_1 + 1)),(by first|rfl|(simp;done)|(simp [*];done)),H',⟨by have:=HK1.out;omega⟩,⟨by repeat (first|(with_reducible first|exact HB.out|apply bA|apply bN|apply bD)|exact HB.out)⟩⟩
     ·replace c8:=Bool.eq_false_iff.mpr c8
      subst c8
      have H1 : (some false) = some r:=by rw [if_neg (show ¬ (false = true) by decide)] at H;exact H
      clear H
      have H:=H1
      clear H1
      obtain rfl:=Option.some.inj H
      try go_wp2
      have n0_:=aM (bD HB.out)
      clear HB
      have HB:=n0_
      clear n0_
      have p218 : 0 ≤ (x5_1 : Int):=of_decide_eq_true (by first|(with_reducible assumption)|assumption)
      have q218 : x5_1 < (l0.length : Int):=of_decide_eq_true (by first|(with_reducible assumption)|assumption)
      obtain ⟨ad218,e218,hx218_0,hx218_1,hx218_2,hx218_3⟩:=at_T58 HR0.out x5_1 p218 q218
      have hw218_3:=hx218_3
      have hw218_2:=hx218_2
      have hw218_1:=hx218_1
      have hw218_0:=hx218_0
      cases e218
      replace hx218_0:=(HB.out.cell (bL w hx218_0)).trans hx218_0
      replace hx218_1:=(HB.out.cell (bL w hx218_1)).trans hx218_1
      replace hx218_2:=(HB.out.cell (bL w hx218_2)).trans hx218_2
      replace hx218_3:=(HB.out.cell (bL w hx218_3)).trans hx218_3
      replace p218:=eq_true p218
      replace q218:=eq_true q218
      have p219 : 0 ≤ (x5_1 : Int):=of_decide_eq_true (by first|(with_reducible assumption)|assumption)
      have q219 : x5_1 < (l1.length : Int):=of_decide_eq_true (by first|(with_reducible assumption)|assumption)
      obtain ⟨ad219,e219,hx219_0,hx219_1,hx219_2,hx219_3⟩:=at_T58 HR1.out x5_1 p219 q219
      have hw219_3:=hx219_3
      have hw219_2:=hx219_2
      have hw219_1:=hx219_1
      have hw219_0:=hx219_0
      cases e219
      replace hx219_0:=(HB.out.cell (bL w hx219_0)).trans hx219_0
      replace hx219_1:=(HB.out.cell (bL w hx219_1)).trans hx219_1
      replace hx219_2:=(HB.out.cell (bL w hx219_2)).trans hx219_2
      replace hx219_3:=(HB.out.cell (bL w hx219_3)).trans hx219_3
      replace p219:=eq_true p219
      replace q219:=eq_true q219
      refine start_ (n:=10) (S:=fun w' => w'.cell? (ad218.add ((x5_1).toNat * 4)) = some (.int .i64 ((rd_T58 l0 x5_1).f0)) ∧ w'.cell? ⟨(ad218.add ((x5_1).toNat * 4)).block,(ad218.add ((x5_1).toNat * 4)).off + 1,none⟩ = some (.int .i64 ((rd_T58 l0 x5_1).f1.f0)) ∧ w'.cell? ⟨(ad218.add ((x5_1).toNat * 4)).block,(ad218.add ((x5_1).toNat * 4)).off + 2,none⟩ = some (.int .i64 ((rd_T58 l0 x5_1).f1.f1)) ∧ w'.cell? ⟨(ad218.add ((x5_1).toNat * 4)).block,(ad218.add ((x5_1).toNat * 4)).off + 3,none⟩ = some (.int .i64 ((rd_T58 l0 x5_1).f1.f2)) ∧ w'.cell? (ad219.add ((x5_1).toNat * 4)) = some (.int .i64 ((rd_T58 l1 x5_1).f0)) ∧ w'.cell? ⟨(ad219.add ((x5_1).toNat * 4)).block,(ad219.add ((x5_1).toNat * 4)).off + 1,none⟩ = some (.int .i64 ((rd_T58 l1 x5_1).f1.f0)) ∧ w'.cell? ⟨(ad219.add ((x5_1).toNat * 4)).block,(ad219.add ((x5_1).toNat * 4)).off + 2,none⟩ = some (.int .i64 ((rd_T58 l1 x5_1).f1.f1)) ∧ w'.cell? ⟨(ad219.add ((x5_1).toNat * 4)).block,(ad219.add ((x5_1).toNat * 4)).off + 3,none⟩ = some (.int .i64 ((rd_T58 l1 x5_1).f1.f2))) (ds:=[]) #[bF,bF,bF,bF,bF,bF,bF,bF,bF,bF] (by kernel_rfl) rfl rfl ⟨((HB.out.cell (bL w hw218_0)).trans hw218_0),((HB.out.cell (bL w hw218_1)).trans hw218_1),((HB.out.cell (bL w hw218_2)).trans hw218_2),((HB.out.cell (bL w hw218_3)).trans hw218_3),((HB.out.cell (bL w hw219_0)).trans hw219_0),((HB.out.cell (bL w hw219_1)).trans hw219_1),((HB.out.cell (bL w hw219_2)).trans hw219_2),((HB.out.cell (bL w hw219_3)).trans hw219_3)⟩ (fun hHeld => ?_);refine with_tabW laws_eqItemS.tab6 laws_eqItemS.bits6 (fun HT_ HW_ => ?_)
      generalize wr.drew = w11 at HB hx218_0 hx218_1 hx218_2 hx218_3 hx219_0 hx219_1 hx219_2 hx219_3 hHeld ⊢
      refine pure_ (i:=0) (N:=some 17) (v:=?_) (a':=?_) #[bT,bF,bF,bF,bF,bF,bF,bF,bF,bF] rfl rfl (any_of HT_.out (by kernel_rfl)) (fun _ _ _ h => h) (Or.inl ⟨by rfl,?_⟩) ?_ ?_
      rotate_left;(· intro w';go_simp;with_reducible rfl);rotate_left;(· simp only [Act.put,sI,sZ,sS,i64_w,i32_w];rfl)
      refine pure_ (i:=1) (N:=some 18) (v:=?_) (a':=?_) #[bT,bT,bF,bF,bF,bF,bF,bF,bF,bF] rfl rfl (any_of HT_.out (by kernel_rfl)) (fun _ _ _ h => h) (Or.inl ⟨by rfl,?_⟩) ?_ ?_
      rotate_left;(· intro w';go_simp;with_reducible rfl);rotate_left;(· simp only [Act.put,sI,sZ,sS,i64_w,i32_w];rfl)
      refine pure_ (i:=2) (N:=some 19) (v:=?_) (a':=?_) #[bT,bT,bT,bF,bF,bF,bF,bF,bF,bF] rfl rfl (any_of HT_.out (by kernel_rfl)) (fun _ _ _ h => h) (Or.inl ⟨by rfl,?_⟩) ?_ ?_
      rotate_left;(· intro w';go_simp;with_reducible rfl);rotate_left;(· simp only [Act.put,sI,sZ,sS,i64_w,i32_w];rfl)
      refine pure_ (i:=4) (N:=some 21) (v:=?_) (a':=?_) #[bT,bT,bT,bF,bT,bF,bF,bF,bF,bF] rfl rfl (any_of HT_.out (by kernel_rfl)) (fun _ _ _ h => h) (Or.inl ⟨by rfl,?_⟩) ?_ ?_
      rotate_left;(· intro w';go_simp;with_reducible rfl);rotate_left;(· simp only [Act.put,sI,sZ,sS,i64_w,i32_w];rfl)
      refine pure_ (i:=5) (N:=some 22) (v:=?_) (a':=?_) #[bT,bT,bT,bF,bT,bT,bF,bF,bF,bF] rfl rfl (any_of HT_.out (by kernel_rfl)) (fun _ _ _ h => h) (Or.inl ⟨by rfl,?_⟩) ?_ ?_
      rotate_left;(· intro w';go_simp;with_reducible rfl);rotate_left;(· simp only [Act.put,sI,sZ,sS,i64_w,i32_w];rfl)
      refine pure_ (i:=6) (N:=some 23) (v:=?_) (a':=?_) #[bT,bT,bT,bF,bT,bT,bT,bF,bF,bF] rfl rfl (any_of HT_.out (by kernel_rfl)) (fun _ _ _ h => h) (Or.inl ⟨by rfl,?_⟩) ?_ ?_
      rotate_left;(· intro w';go_simp;with_reducible rfl);rotate_left;(· simp only [Act.put,sI,sZ,sS,i64_w,i32_w];rfl)
      refine take_ (i:=3) (N:=some 20) (v:=?_) (a':=?_) #[bT,bT,bT,bT,bT,bT,bT,bF,bF,bF] rfl rfl (take_ofW HT_.out HW_.out (by kernel_rfl)) (fun _ _ _ h => h) (Or.inl ⟨by rfl,?_⟩) hHeld ?_ ?_
      rotate_left
      ·rintro w' ⟨s0,s1,s2,s3,s4,s5,s6,s7⟩
       (try simp only [Int.toNat_natCast] at s0 s1 s2 s3 s4 s5 s6 s7)
       go_simp
       with_reducible rfl
      rotate_left
      ·simp only [Act.put,sI,sZ,sS,i64_w,i32_w]
       rfl
      refine take_ (i:=7) (N:=some 24) (v:=?_) (a':=?_) #[bT,bT,bT,bT,bT,bT,bT,bT,bF,bF] rfl rfl (take_ofW HT_.out HW_.out (by kernel_rfl)) (fun _ _ _ h => h) (Or.inl ⟨by rfl,?_⟩) hHeld ?_ ?_
      rotate_left
      ·rintro w' ⟨s0,s1,s2,s3,s4,s5,s6,s7⟩
       (try simp only [Int.toNat_natCast] at s0 s1 s2 s3 s4 s5 s6 s7)
       go_simp
       with_reducible rfl
      rotate_left
      ·simp only [Act.put,sI,sZ,sS,i64_w,i32_w]
       rfl
      refine one_ (i:=8) (N:=some 25) #[bT,bT,bT,bT,bT,bT,bT,bT,bT,bF] rfl rfl (one_of HT_.out (by kernel_rfl)) (by decide) (fun K hK => ?_)
      refine goes_ Try.func41 (by kernel_rfl) rfl #[.agg #[.int .i64 ((rd_T58 l0 x5_1).f0),.int .i64 ((rd_T58 l0 x5_1).f1.f0),.int .i64 ((rd_T58 l0 x5_1).f1.f1),.int .i64 ((rd_T58 l0 x5_1).f1.f2)],.agg #[.int .i64 ((rd_T58 l1 x5_1).f0),.int .i64 ((rd_T58 l1 x5_1).f1.f0),.int .i64 ((rd_T58 l1 x5_1).f1.f1),.int .i64 ((rd_T58 l1 x5_1).f1.f2)]] (by rfl) rfl rfl (by (try simp only [List.map_toArray,List.map_cons,List.map_nil]);first|done|rfl|(simp only [List.length_drop,List.length_take];rfl)) ?_
      with_reducible refine (laws_eqItem.calls ((rd_T58 l0 x5_1).f0) ((rd_T58 l0 x5_1).f1.f0) ((rd_T58 l0 x5_1).f1.f1) ((rd_T58 l0 x5_1).f1.f2) ((rd_T58 l1 x5_1).f0) ((rd_T58 l1 x5_1).f1.f0) ((rd_T58 l1 x5_1).f1.f1) ((rd_T58 l1 x5_1).f1.f2) false _ A7.out).mono ?_
      rintro e w12 ⟨rfl,hb⟩
      refine ⟨_,rfl,?_⟩
      have n0_:=aM (below_step (by repeat (first|(with_reducible first|exact HB.out|apply bA|apply bN|apply bD)|exact HB.out)) hb)
      clear HB
      have HB:=n0_
      clear n0_
      (try clear hb)
      (try clear hb2)
      (try clear hk)
      (try clear hi)
      refine hK.out _ _ ⟨((HB.out.cell (bL w hw218_0)).trans hw218_0),((HB.out.cell (bL w hw218_1)).trans hw218_1),((HB.out.cell (bL w hw218_2)).trans hw218_2),((HB.out.cell (bL w hw218_3)).trans hw218_3),((HB.out.cell (bL w hw219_0)).trans hw219_0),((HB.out.cell (bL w hw219_1)).trans hw219_1),((HB.out.cell (bL w hw219_2)).trans hw219_2),((HB.out.cell (bL w hw219_3)).trans hw219_3)⟩ (fun hHeld => ?_)
      clear hK K
      refine norm_ (a':=?_) ?_ ?_
      rotate_left
      ·show Act.put _ (some 25) _ = _
       simp only [Act.put,sI,sZ,sS,i64_w,i32_w]
       rfl
      refine pure_ (i:=9) (N:=some 26) (v:=?_) (a':=?_) #[bT,bT,bT,bT,bT,bT,bT,bT,bT,bT] rfl rfl (any_of HT_.out (by kernel_rfl)) (fun _ _ _ h => h) (Or.inl ⟨by rfl,?_⟩) ?_ ?_
      rotate_left;(· intro w';go_simp;with_reducible rfl);rotate_left;(· simp only [Act.put,sI,sZ,sS,i64_w,i32_w];rfl)
      refine done_ (done_of HT_.out (by kernel_rfl)) ?_
      try go_wp2
      go_ret
      exact ⟨by first|rfl|(simp only [i64_w,i32_w];done)|(simp only [i64_w,i32_w];rfl)|(simp [errW_none,errW_some] <;> rfl)|(simp [*,errW_none,errW_some] <;> rfl),by repeat (first|(with_reducible first|exact HB.out|apply bA|apply bN|apply bD)|exact HB.out)⟩
    ·rw [if_neg c4] at H
     have c4b0 : decide (x5_1 < (l0.length : Int)) = false:=decide_eq_false c4
     clear c4
     obtain rfl:=Option.some.inj H
     go_wp2
     go_ret
     exact ⟨by first|rfl|(simp only [i64_w,i32_w];done)|(simp only [i64_w,i32_w];rfl)|(simp [errW_none,errW_some] <;> rfl)|(simp [*,errW_none,errW_some] <;> rfl),by repeat (first|(with_reducible first|exact HB.out|apply bA|apply bN|apply bD)|exact HB.out)⟩
 ·rw [if_neg c3] at H
  have c3b0 : ((l0.length : Int) == (l1.length : Int)) = false:=beq_eq_false_iff_ne.mpr c3
  have c3b1 : ((l0.length : Int) != (l1.length : Int)) = true:=bne_iff_ne.mpr c3
  have c3b2 : (l0.length == l1.length) = false:=by first|simpa using c3|(simp at c3 ⊢;omega)
  obtain rfl:=Option.some.inj H
  go_enter Try.func17,Try.ntmps17
  go_wp2
  go_ret
  exact ⟨by first|rfl|(simp only [i64_w,i32_w];done)|(simp only [i64_w,i32_w];rfl)|(simp [errW_none,errW_some] <;> rfl)|(simp [*,errW_none,errW_some] <;> rfl),by repeat (first|(with_reducible first|exact HB.out|apply bA|apply bN|apply bD)|exact HB.out)⟩

end Go.Proofs.Ytknmmkgaijndfaa.P
