/- The printed functions: what each Go function computes, as a Lean function, and that the Go code comes to just that. Conditions: none beyond each contract's own. -/
import Derived.Test.YthjpkfcejdddkaaDoorPx0
import Derived.Test.YthjpkfcejdddkaaDoorPx5
import Derived.Test.YthjpkfcejdddkaaDoorPx7
import Derived.Test.YthjpkfcejdddkaaDoorPx8
namespace Go.Proofs.YthjpkfcejdddkaaDoor.P
open Go.RowKit Go.Proofs.YthjpkfcejdddkaaDoorW.PrintWords Go.Proofs.YthjpkfcejdddkaaDoorW.PrintLast Go.Proofs.YthjpkfcejdddkaaDoorW.PrintMore
attribute [local go_sem] max2_int min2_int max_two min_two max_three min_three max_four min_four   -- for this text's walks alone
set_option linter.unusedVariables false
set_option linter.unusedSimpArgs false

/-! ### spec_ChainRead: function 14 -/
def spec_ChainRead.l0 : Nat → ByteArray → List (S48) → List ByteArray → Int → Option ((List (S48)) × Bool)
 | 0,_,_,_,_ => none
 | k + 1,x0,x4,x5,x6 => if (wrap64 (x6 + 1)) < (x5.length : Int) then (if 0 ≤ x6 then (if x6 < (x5.length : Int) then ((spec_l1Cut.f k (rdOf ByteArray.empty x5 x6) 58).bind fun t179 => (if (t179.length : Int) = 2 then (if 0 < (t179.length : Int) then ((spec_l1Dec.f k (rdOf ByteArray.empty t179 0)).bind fun t183 => (if 1 < (t179.length : Int) then ((spec_l1Pay.f k (rdOf ByteArray.empty t179 1)).bind fun bt185 => (if x4.length < 4398046511104 then (spec_ChainRead.l0 k x0 (x4 ++ [(⟨t183,(⟨bt185.1,bt185.2.1,bt185.2.2⟩ : S46)⟩ : S48)]) x5 (wrap64 (x6 + 1))) else (none))) else (none))) else (none)) else (some ((([] : List (S48))),false)))) else (none)) else (none)) else ((spec_ChainOk.f k x4).bind fun t194 => (if t194 = true then ((spec_ChainText.f k x4).bind fun t195 => (if t195.toList = x0.toList then (some (x4,true)) else (some ((([] : List (S48))),false)))) else (some ((([] : List (S48))),false))))
def spec_ChainRead.f (k : Nat) (a0 : ByteArray) : Option ((List (S48)) × Bool):=(some (([] : List (S48)) : List (S48))).bind fun y172 => (if (a0.size : Int) > 130 then (some (y172,false)) else ((spec_l1Cut.f k a0 10).bind fun t175 => (spec_ChainRead.l0 k a0 y172 t175 0)))
theorem spec_ChainRead.mono_l : ∀ k,(∀ y0 y1 y2 y3,LeO (spec_ChainRead.l0 k y0 y1 y2 y3) (spec_ChainRead.l0 (k + 1) y0 y1 y2 y3))
 | 0 => fun _ _ _ _ r h => by simp [spec_ChainRead.l0] at h
 | k + 1 => by
  have ih0:=spec_ChainRead.mono_l k
  ·intro y0 y1 y2 y3
   unfold spec_ChainRead.l0
   repeat' first
   | (with_reducible exact ih0 _ _ _ _)
   | (with_reducible exact spec_ChainOk.mono _ _)
   | (with_reducible exact spec_ChainText.mono _ _)
   | (with_reducible exact spec_l1Cut.mono _ _ _)
   | (with_reducible exact spec_l1Dec.mono _ _)
   | (with_reducible exact spec_l1Pay.mono _ _)
   | (with_reducible exact LeO.refl _)
   | (with_reducible exact LeO.none _)
   | (with_reducible refine LeO.ite ?_ ?_)
   | (with_reducible refine LeO.bind ?_ (fun _ => ?_))
   | exact ih0 _ _ _ _
   | exact spec_ChainOk.mono _ _
   | exact spec_ChainText.mono _ _
   | exact spec_l1Cut.mono _ _ _
   | exact spec_l1Dec.mono _ _
   | exact spec_l1Pay.mono _ _
   | exact LeO.none _
   | refine LeO.ite ?_ ?_
   | refine LeO.bind ?_ (fun _ => ?_)
theorem spec_ChainRead.mono : ∀ a0 k,LeO (spec_ChainRead.f k a0) (spec_ChainRead.f (k + 1) a0):=by
 intro a0 k
 have ih0:=spec_ChainRead.mono_l k
 unfold spec_ChainRead.f
 repeat' first
   | (with_reducible exact ih0 _ _ _ _)
   | (with_reducible exact spec_ChainOk.mono _ _)
   | (with_reducible exact spec_ChainText.mono _ _)
   | (with_reducible exact spec_l1Cut.mono _ _ _)
   | (with_reducible exact spec_l1Dec.mono _ _)
   | (with_reducible exact spec_l1Pay.mono _ _)
   | (with_reducible exact LeO.refl _)
   | (with_reducible exact LeO.none _)
   | (with_reducible refine LeO.ite ?_ ?_)
   | (with_reducible refine LeO.bind ?_ (fun _ => ?_))
   | exact ih0 _ _ _ _
   | exact spec_ChainOk.mono _ _
   | exact spec_ChainText.mono _ _
   | exact spec_l1Cut.mono _ _ _
   | exact spec_l1Dec.mono _ _
   | exact spec_l1Pay.mono _ _
   | exact LeO.none _
   | refine LeO.ite ?_ ?_
   | refine LeO.bind ?_ (fun _ => ?_)
def spec_ChainRead.T11 : Bool × List (List Nat × List Nat):=(true,[([],[]),([],[]),([1],[1]),([2],[2]),([3],[3]),([],[]),([5],[5]),([6],[6]),([7,4],[7]),([4,8],[4,8]),([9],[9]),([0,10,8],[0,10]),([11,11,0,1,2,3,4,5,6,7,8,9,10,11],[0,11])])
def spec_ChainRead.B11 : List Nat:=[0,0,2,6,14,0,32,96,254,510,1022,2047,4095]
theorem spec_ChainRead.tab11 : rtab .any (opsOf Tryd.f14 11) = spec_ChainRead.T11:=by kernel_rfl
theorem spec_ChainRead.bits11 : waitsOk spec_ChainRead.T11.2 spec_ChainRead.B11 = true:=by kernel_rfl
set_option maxHeartbeats 8000000 in
set_option maxRecDepth 100000 in
theorem spec_ChainRead.calls (k : Nat) (a0 : ByteArray) (r1 : List (S48)) (r2 : Bool) (w : World) (h : spec_ChainRead.f k a0 = some (r1,r2)) :
  Calls Tryd.prog 14 #[.string a0] w fun e w' => ∃ v0_ : Value,e = .returned (.tuple #[v0_,.bool r2]) ∧ Kd.R k48 48 w' w.heap.size (fun _ => True) v0_ r1 ∧ Below w.heap.size w w':=by
 have hu48:=Tryd.underlying48
 have HB:=aM (Below.refl w.heap.size w)
 have H : ((some (([] : List (S48)) : List (S48))).bind fun y172 => (if (a0.size : Int) > 130 then (some (y172,false)) else ((spec_l1Cut.f k a0 10).bind fun t175 => (spec_ChainRead.l0 k a0 y172 t175 0)))) = some (r1,r2):=h
 clear h
 obtain ⟨y172,hy172⟩ : ∃ y_ : List (S48),y_ = (([] : List (S48))):=⟨_,rfl⟩
 replace H : (if (a0.size : Int) > 130 then (some (y172,false)) else ((spec_l1Cut.f k a0 10).bind fun t175 => (spec_ChainRead.l0 k a0 y172 t175 0))) = some (r1,r2):=by first|(rw [hy172];with_reducible exact H)|(have H2_:=(Option.bind_some _ _).symm.trans H;rw [hy172];with_reducible exact H2_)|(have H2_:=(Option.bind_some _ _).symm.trans H;with_reducible exact H2_)|with_reducible exact H|(rw [hy172];exact H)|exact H
 have Ny172:=aM hy172
 clear hy172
 by_cases c2 : (a0.size : Int) > 130
 ·rw [if_pos c2] at H
  have c2b0 : decide (130 < (a0.size : Int)) = true:=decide_eq_true c2
  have c2b1 : decide (130 < a0.size) = true:=decide_eq_true (by omega)
  clear c2
  simp only [Option.some.injEq,Prod.mk.injEq] at H
  obtain ⟨rfl,rfl⟩:=H
  go_enter Tryd.func14,Tryd.ntmps14
  go_wp2_with (first|((with_reducible refine gate_dst (N:=8) rfl ?_);refine Kd.R_lit k48 _ 48 ?hg (N:=8) ?hd (xs:=([] : List (S48))) (inner:=[]) (ok:=fun _ => True) (okp:=fun _ => True) ?hr ?hp (fun _ hk => hk) trivial (Below.refl _ _) (Nat.le_refl _) (by simp) ?_;(case hd => rfl);(case hg => rfl);(case hr => first|(go_simp;done)|(go_simp;rfl));(case hp => exact (Reps.none _ _));intro v173 w3 ho4 hb hg_ hnew_;clear hg_ hnew_;(first|rw [← Ny172.out] at ho4|(simp only [Int.reduceToNat] at ho4;rw [← Ny172.out] at ho4));have n0_:=aM (Kd.R_lower ho4 (below_size (by repeat (first|(with_reducible first|exact HB.out|apply bA|apply bN|apply bD)|exact HB.out))));have n1_:=aM (below_step (by repeat (first|(with_reducible first|exact HB.out|apply bA|apply bN|apply bD)|exact HB.out)) hb);clear HB;have HO174:=n0_;have HB:=n1_;clear n0_ n1_;clear hb ho4))
  go_ret2
  exact ⟨_,by first|rfl|(simp only [i64_w,i32_w];done)|(simp only [i64_w,i32_w];rfl)|(simp [errW_none,errW_some] <;> rfl)|(simp [*,errW_none,errW_some] <;> rfl),by (with_reducible repeat (first|apply Kd.R_alloc|apply Kd.R_drewN|apply Kd.R_drew));exact HO174.out,by repeat (first|(with_reducible first|exact HB.out|apply bA|apply bN|apply bD)|exact HB.out)⟩
 ·rw [if_neg c2] at H
  have c2b0 : decide (130 < (a0.size : Int)) = false:=decide_eq_false c2
  have c2b1 : decide (130 < a0.size) = false:=decide_eq_false (by omega)
  clear c2
  replace H:=Option.bind_eq_some_iff.mp H
  obtain ⟨t175,A50,H⟩:=H
  replace H : (spec_ChainRead.l0 k a0 y172 t175 0) = some (r1,r2):=H
  have A5:=aM A50
  clear A50
  have H':=aM H
  clear H
  go_enter Tryd.func14,Tryd.ntmps14
  go_wp2_with (first|((with_reducible refine gate_dst (N:=8) rfl ?_);refine Kd.R_lit k48 _ 48 ?hg (N:=8) ?hd (xs:=([] : List (S48))) (inner:=[]) (ok:=fun _ => True) (okp:=fun _ => True) ?hr ?hp (fun _ hk => hk) trivial (Below.refl _ _) (Nat.le_refl _) (by simp) ?_;(case hd => rfl);(case hg => rfl);(case hr => first|(go_simp;done)|(go_simp;rfl));(case hp => exact (Reps.none _ _));intro v173 w6 ho7 hb hg_ hnew_;clear hg_ hnew_;(first|rw [← Ny172.out] at ho7|(simp only [Int.reduceToNat] at ho7;rw [← Ny172.out] at ho7));have n0_:=aM (Kd.R_lower ho7 (below_size (by repeat (first|(with_reducible first|exact HB.out|apply bA|apply bN|apply bD)|exact HB.out))));have n1_:=aM (below_step (by repeat (first|(with_reducible first|exact HB.out|apply bA|apply bN|apply bD)|exact HB.out)) hb);clear HB;have HO174:=n0_;have HB:=n1_;clear n0_ n1_;clear hb ho7)|((with_reducible refine gate_callee (f:=33) rfl ?_);refine goesL_ (some 14) rfl rfl Tryd.func33 (by kernel_rfl) rfl #[.string a0,.int .u8 10] rfl (by (try simp only [List.map_toArray,List.map_cons,List.map_nil]);first|done|rfl|(simp only [List.length_drop,List.length_take];rfl)) ?_;(with_reducible refine (spec_l1Cut.calls k a0 10 t175 _ A5.out).mono ?_);rintro e w8 ⟨v176,rfl,ho0,hb⟩;refine ⟨_,rfl,?_⟩;have n0_:=aM (Kd.R_below (by (with_reducible repeat (first|apply Kd.R_alloc|apply Kd.R_drewN|apply Kd.R_drew));exact HO174.out) hb);have n1_:=aM (Kd.R_lower ho0 (below_size (by repeat (first|(with_reducible first|exact HB.out|apply bA|apply bN|apply bD)|exact HB.out))));have n2_:=aM (below_step (by repeat (first|(with_reducible first|exact HB.out|apply bA|apply bN|apply bD)|exact HB.out)) hb);clear HO174;clear HB;have HO174:=n0_;have HO177:=n1_;have HB:=n2_;clear n0_ n1_ n2_;(try clear hb);(try clear hb2);(try clear hk);(try clear hi);(try clear ho0)))
  go_loopg [4,6] k (fun kq v4 v6 w' => ∃ (x4_1 : List (S48)) (x6_1 : Int),v6 = .int .i64 x6_1 ∧ Aside0 (spec_ChainRead.l0 kq a0 x4_1 t175 x6_1 = some (r1,r2)) ∧ Aside0 (kq ≤ k) ∧ Aside0 (Kd.R k48 48 w' w.heap.size (fun _ => True) v4 x4_1) ∧ Aside0 (Kd.R Kd.string 9 w' w.heap.size (fun _ => True) v176 t175) ∧ Aside0 (Below w.heap.size w w'))
  case atStart => exact ⟨(y172),(0),(by first|rfl|(simp;done)|(simp [*];done)),H',⟨Nat.le_refl _⟩,⟨by (with_reducible repeat (first|apply Kd.R_alloc|apply Kd.R_drewN|apply Kd.R_drew));exact HO174.out⟩,⟨by (with_reducible repeat (first|apply Kd.R_alloc|apply Kd.R_drewN|apply Kd.R_drew));exact HO177.out⟩,⟨by repeat (first|(with_reducible first|exact HB.out|apply bA|apply bN|apply bD)|exact HB.out)⟩⟩
  case round =>
   clear H'
   try clear c1
   try clear c2
   try clear c2b0
   try clear c2b1
   try clear p2
   try clear c3
   obtain ⟨x4_1,x6_1,rfl,HA,HK1,HO_4,HO_5,HB⟩:=hrel
   cases gk with
   | zero => exact absurd HA.out (by simp [spec_ChainRead.l0])
   | succ k1 =>
    have H:=HA.out
    clear HA
    simp only [spec_ChainRead.l0] at H
    by_cases c9 : (wrap64 (x6_1 + 1)) < (t175.length : Int)
    ·rw [if_pos c9] at H
     have c9b0 : decide ((wrap64 (x6_1 + 1)) < (t175.length : Int)) = true:=decide_eq_true c9
     clear c9
     by_cases c10 : 0 ≤ x6_1
     case neg => rw [if_neg c10] at H;exact absurd H (by simp)
     rw [if_pos c10] at H
     have c10b0 : decide (0 ≤ x6_1) = true:=decide_eq_true c10
     clear c10
     by_cases c11 : x6_1 < (t175.length : Int)
     case neg => rw [if_neg c11] at H;exact absurd H (by simp)
     rw [if_pos c11] at H
     have c11b0 : decide (x6_1 < (t175.length : Int)) = true:=decide_eq_true c11
     clear c11
     replace H:=Option.bind_eq_some_iff.mp H
     obtain ⟨t179,A120,H⟩:=H
     replace H : (if (t179.length : Int) = 2 then (if 0 < (t179.length : Int) then ((spec_l1Dec.f k1 (rdOf ByteArray.empty t179 0)).bind fun t183 => (if 1 < (t179.length : Int) then ((spec_l1Pay.f k1 (rdOf ByteArray.empty t179 1)).bind fun bt185 => (if x4_1.length < 4398046511104 then (spec_ChainRead.l0 k1 a0 (x4_1 ++ [(⟨t183,(⟨bt185.1,bt185.2.1,bt185.2.2⟩ : S46)⟩ : S48)]) t175 (wrap64 (x6_1 + 1))) else (none))) else (none))) else (none)) else (some ((([] : List (S48))),false))) = some (r1,r2):=H
     have A12:=aM A120
     clear A120
     by_cases c13 : (t179.length : Int) = 2
     ·rw [if_pos c13] at H
      have c13b0 : ((t179.length : Int) == 2) = true:=beq_iff_eq.mpr c13
      have c13b1 : ((t179.length : Int) != 2) = false:=bne_eq_false_iff_eq.mpr c13
      clear c13
      by_cases c14 : 0 < (t179.length : Int)
      case neg => rw [if_neg c14] at H;exact absurd H (by simp)
      rw [if_pos c14] at H
      have c14b0 : decide (0 < (t179.length : Int)) = true:=decide_eq_true c14
      have c14b1 : decide (0 < t179.length) = true:=decide_eq_true (by omega)
      clear c14
      replace H:=Option.bind_eq_some_iff.mp H
      obtain ⟨t183,A150,H⟩:=H
      replace H : (if 1 < (t179.length : Int) then ((spec_l1Pay.f k1 (rdOf ByteArray.empty t179 1)).bind fun bt185 => (if x4_1.length < 4398046511104 then (spec_ChainRead.l0 k1 a0 (x4_1 ++ [(⟨t183,(⟨bt185.1,bt185.2.1,bt185.2.2⟩ : S46)⟩ : S48)]) t175 (wrap64 (x6_1 + 1))) else (none))) else (none)) = some (r1,r2):=H
      have A15:=aM A150
      clear A150
      by_cases c16 : 1 < (t179.length : Int)
      case neg => rw [if_neg c16] at H;exact absurd H (by simp)
      rw [if_pos c16] at H
      have c16b0 : decide (1 < (t179.length : Int)) = true:=decide_eq_true c16
      have c16b1 : decide (1 < t179.length) = true:=decide_eq_true (by omega)
      clear c16
      replace H:=Option.bind_eq_some_iff.mp H
      obtain ⟨⟨t185,t186,t187⟩,A170,H⟩:=H
      replace H : (if x4_1.length < 4398046511104 then (spec_ChainRead.l0 k1 a0 (x4_1 ++ [(⟨t183,(⟨t185,t186,t187⟩ : S46)⟩ : S48)]) t175 (wrap64 (x6_1 + 1))) else (none)) = some (r1,r2):=H
      have A17:=aM A170
      clear A170
      by_cases c18 : x4_1.length < 4398046511104
      case neg => rw [if_neg c18] at H;exact absurd H (by simp)
      rw [if_pos c18] at H
      have LMc18:=aM c18
      clear c18
      obtain ⟨y188,hy188⟩ : ∃ y_ : List (S48),y_ = (x4_1 ++ [(⟨t183,(⟨t185,t186,t187⟩ : S46)⟩ : S48)]):=⟨_,rfl⟩
      replace H : (spec_ChainRead.l0 k1 a0 y188 t175 (wrap64 (x6_1 + 1))) = some (r1,r2):=by first|(rw [hy188];with_reducible exact H)|(have H2_:=(Option.bind_some _ _).symm.trans H;rw [hy188];with_reducible exact H2_)|(have H2_:=(Option.bind_some _ _).symm.trans H;with_reducible exact H2_)|with_reducible exact H|(rw [hy188];exact H)|exact H
      have Ny188:=aM hy188
      clear hy188
      have H':=aM H
      clear H
      obtain ⟨Ao19,co19,eo19⟩:=Kd.R_slice HO_5.out
      subst eo19
      have p178 : 0 ≤ (x6_1 : Int):=of_decide_eq_true (by first|(with_reducible assumption)|assumption)
      have q178 : x6_1 < (t175.length : Int):=of_decide_eq_true (by first|(with_reducible assumption)|assumption)
      obtain ⟨ad178,e178,hx178_0⟩:=Kd.at_string (Kd.R_reads' HO_5.out).2.2 x6_1 p178 q178
      cases e178
      replace p178:=eq_true p178
      replace q178:=eq_true q178
      try go_wp2_with (first|((with_reducible refine gate_callee (f:=33) rfl ?_);refine goesL_ (some 26) rfl rfl Tryd.func33 (by kernel_rfl) rfl #[.string (rdOf ByteArray.empty t175 x6_1),.int .u8 58] rfl (by (try simp only [List.map_toArray,List.map_cons,List.map_nil]);first|done|rfl|(simp only [List.length_drop,List.length_take];rfl)) ?_;(with_reducible refine (spec_l1Cut.calls k1 (rdOf ByteArray.empty t175 x6_1) 58 t179 _ A12.out).mono ?_);rintro e w20 ⟨v180,rfl,ho0,hb⟩;refine ⟨_,rfl,?_⟩;have n0_:=aM (Kd.R_below (by (with_reducible repeat (first|apply Kd.R_alloc|apply Kd.R_drewN|apply Kd.R_drew));exact HO_4.out) hb);have n1_:=aM (Kd.R_elder' (by (with_reducible repeat (first|apply Kd.R_alloc|apply Kd.R_drewN|apply Kd.R_drew));exact HO_5.out) (Kd.R_base ho0) hb);have n2_:=aM (Kd.R_lower (Kd.R_new' ho0 (Kd.R_lt (by (with_reducible repeat (first|apply Kd.R_alloc|apply Kd.R_drewN|apply Kd.R_drew));exact HO_5.out))) (below_size (by repeat (first|(with_reducible first|exact HB.out|apply bA|apply bN|apply bD)|exact HB.out))));have n3_:=aM (below_step (by repeat (first|(with_reducible first|exact HB.out|apply bA|apply bN|apply bD)|exact HB.out)) hb);clear HO_4;clear HO_5;clear HB;have HO_4:=n0_;have HO_5:=n1_;have HO181:=n2_;have HB:=n3_;clear n0_ n1_ n2_ n3_;(try clear hb);(try clear hb2);(try clear hk);(try clear hi);(try clear ho0);obtain ⟨Ao21,co21,eo21⟩:=Kd.R_slice HO181.out;subst eo21))
      have n0_:=aM (Kd.R_drew HO_4.out)
      have n1_:=aM (Kd.R_drew HO_5.out)
      have n2_:=aM (Kd.R_drew HO181.out)
      have n3_:=aM (bD HB.out)
      clear HO_4
      clear HO_5
      clear HO181
      clear HB
      have HO_4:=n0_
      have HO_5:=n1_
      have HO181:=n2_
      have HB:=n3_
      clear n0_ n1_ n2_ n3_
      have p182 : 0 ≤ (0 : Int):=(by omega)
      have q182 : 0 < (t179.length : Int):=of_decide_eq_true (by first|(with_reducible assumption)|assumption)
      obtain ⟨ad182,e182,hx182_0⟩:=Kd.at_string (Kd.R_reads' HO181.out).2.2 0 p182 q182
      cases e182
      have qi182 : (0 < t179.length) = True:=eq_true (by omega)
      (try rw [show ((0 : Int)).toNat = 0 from rfl] at hx182_0)
      (try rw [Addr.add_zero'] at hx182_0)
      replace p182:=eq_true p182
      replace q182:=eq_true q182
      have p184 : 0 ≤ (1 : Int):=(by omega)
      have q184 : 1 < (t179.length : Int):=of_decide_eq_true (by first|(with_reducible assumption)|assumption)
      obtain ⟨ad184,e184,hx184_0⟩:=Kd.at_string (Kd.R_reads' HO181.out).2.2 1 p184 q184
      obtain rfl : ad182 = ad184:=(by injection e184)
      (try simp only [show (1 : Int).toNat = 1 from rfl,Nat.reduceMul,Nat.reduceEqDiff,Go.Addr.add,↓reduceIte] at hx184_0)
      have qi184 : (1 < t179.length) = True:=eq_true (by omega)
      (try rw [show ((1 : Int)).toNat = 1 from rfl] at hx184_0)
      replace p184:=eq_true p184
      replace q184:=eq_true q184
      refine start_ (n:=13) (S:=fun w' => w'.cell? ad182 = some (.string (rdOf ByteArray.empty t179 0)) ∧ w'.cell? ⟨ad182.block,ad182.off + 1,none⟩ = some (.string (rdOf ByteArray.empty t179 1))) (ds:=[10,11]) #[bF,bF,bF,bF,bF,bF,bF,bF,bF,bF,bF,bF,bF] (by kernel_rfl) rfl rfl ⟨hx182_0,hx184_0⟩ (fun hHeld => ?_);refine with_tabW spec_ChainRead.tab11 spec_ChainRead.bits11 (fun HT_ HW_ => ?_)
      generalize w20.drew = w22 at HO_4 HO_5 HO181 HB hx182_0 hx184_0 hHeld ⊢
      refine pure_ (i:=0) (N:=some 31) (v:=?_) (a':=?_) #[bT,bF,bF,bF,bF,bF,bF,bF,bF,bF,bF,bF,bF] rfl rfl (any_of HT_.out (by kernel_rfl)) (fun _ _ _ h => h) (Or.inl ⟨by rfl,?_⟩) ?_ ?_
      rotate_left;(· intro w';go_simp;with_reducible rfl);rotate_left;(· simp only [Act.put,sI,sZ,sS,i64_w,i32_w];rfl)
      refine pure_ (i:=1) (N:=some 32) (v:=?_) (a':=?_) #[bT,bT,bF,bF,bF,bF,bF,bF,bF,bF,bF,bF,bF] rfl rfl (any_of HT_.out (by kernel_rfl)) (fun _ _ _ h => h) (Or.inl ⟨by rfl,?_⟩) ?_ ?_
      rotate_left;(· intro w';go_simp;with_reducible rfl);rotate_left;(· simp only [Act.put,sI,sZ,sS,i64_w,i32_w];rfl)
      refine pure_ (i:=2) (N:=some 33) (v:=?_) (a':=?_) #[bT,bT,bT,bF,bF,bF,bF,bF,bF,bF,bF,bF,bF] rfl rfl (any_of HT_.out (by kernel_rfl)) (fun _ _ _ h => h) (Or.inl ⟨by rfl,?_⟩) ?_ ?_
      rotate_left;(· intro w';go_simp;with_reducible rfl);rotate_left;(· simp only [Act.put,sI,sZ,sS,i64_w,i32_w];rfl)
      refine pure_ (i:=5) (N:=some 36) (v:=?_) (a':=?_) #[bT,bT,bT,bF,bF,bT,bF,bF,bF,bF,bF,bF,bF] rfl rfl (any_of HT_.out (by kernel_rfl)) (fun _ _ _ h => h) (Or.inl ⟨by rfl,?_⟩) ?_ ?_
      rotate_left;(· intro w';go_simp;with_reducible rfl);rotate_left;(· simp only [Act.put,sI,sZ,sS,i64_w,i32_w];rfl)
      refine pure_ (i:=6) (N:=some 37) (v:=?_) (a':=?_) #[bT,bT,bT,bF,bF,bT,bT,bF,bF,bF,bF,bF,bF] rfl rfl (any_of HT_.out (by kernel_rfl)) (fun _ _ _ h => h) (Or.inl ⟨by rfl,?_⟩) ?_ ?_
      rotate_left;(· intro w';go_simp;with_reducible rfl);rotate_left;(· simp only [Act.put,sI,sZ,sS,i64_w,i32_w];rfl)
      refine take_ (i:=3) (N:=some 34) (v:=?_) (a':=?_) #[bT,bT,bT,bT,bF,bT,bT,bF,bF,bF,bF,bF,bF] rfl rfl (take_ofW HT_.out HW_.out (by kernel_rfl)) (fun _ _ _ h => h) (Or.inl ⟨by rfl,?_⟩) hHeld ?_ ?_
      rotate_left
      ·rintro w' ⟨s0,s1⟩
       (try simp only [Int.toNat_natCast] at s0 s1)
       go_simp
       with_reducible rfl
      rotate_left
      ·simp only [Act.put,sI,sZ,sS,i64_w,i32_w]
       rfl
      refine take_ (i:=7) (N:=some 38) (v:=?_) (a':=?_) #[bT,bT,bT,bT,bF,bT,bT,bT,bF,bF,bF,bF,bF] rfl rfl (take_ofW HT_.out HW_.out (by kernel_rfl)) (fun _ _ _ h => h) (Or.inl ⟨by rfl,?_⟩) hHeld ?_ ?_
      rotate_left
      ·rintro w' ⟨s0,s1⟩
       (try simp only [Int.toNat_natCast] at s0 s1)
       go_simp
       with_reducible rfl
      rotate_left
      ·simp only [Act.put,sI,sZ,sS,i64_w,i32_w]
       rfl
      refine one_ (i:=4) (N:=some 35) #[bT,bT,bT,bT,bT,bT,bT,bT,bF,bF,bF,bF,bF] rfl rfl (one_of HT_.out (by kernel_rfl)) (by decide) (fun K hK => ?_)
      refine goes_ Tryd.func34 (by kernel_rfl) rfl #[.string (rdOf ByteArray.empty t179 0)] (by rfl) rfl rfl (by (try simp only [List.map_toArray,List.map_cons,List.map_nil]);first|done|rfl|(simp only [List.length_drop,List.length_take];rfl)) ?_
      with_reducible refine (spec_l1Dec.calls k1 (rdOf ByteArray.empty t179 0) t183 _ A15.out).mono ?_
      rintro e w' ⟨rfl,⟨nd,rfl⟩⟩
      refine ⟨_,rfl,?_⟩
      refine hK.out _ _ ⟨hHeld.1,hHeld.2⟩ (fun hHeld => ?_)
      clear hK K
      refine norm_ (a':=?_) ?_ ?_
      rotate_left
      ·show Act.put _ (some 35) _ = _
       simp only [Act.put,sI,sZ,sS,i64_w,i32_w]
       rfl
      refine one_ (i:=8) (N:=some 39) #[bT,bT,bT,bT,bT,bT,bT,bT,bT,bF,bF,bF,bF] rfl rfl (one_of HT_.out (by kernel_rfl)) (by decide) (fun K hK => ?_)
      refine goes_ Tryd.func35 (by kernel_rfl) rfl #[.string (rdOf ByteArray.empty t179 1)] (by rfl) rfl rfl (by (try simp only [List.map_toArray,List.map_cons,List.map_nil]);first|done|rfl|(simp only [List.length_drop,List.length_take];rfl)) ?_
      with_reducible refine (spec_l1Pay.calls k1 (rdOf ByteArray.empty t179 1) t185 t186 t187 _ A17.out).mono ?_
      rintro e w23 ⟨rfl,hb⟩
      have HS0_:=(hb.cell (World.block_lt_of_cell? _ _ (hHeld.1))).trans (hHeld.1)
      have HS1_:=(hb.cell (World.block_lt_of_cell? _ _ (hHeld.2))).trans (hHeld.2)
      refine ⟨_,rfl,?_⟩
      have n0_:=aM (Kd.R_below (by (with_reducible repeat (first|apply Kd.R_alloc|apply Kd.R_drewN|apply Kd.R_drew));exact HO_4.out) hb)
      have n1_:=aM (Kd.R_below (by (with_reducible repeat (first|apply Kd.R_alloc|apply Kd.R_drewN|apply Kd.R_drew));exact HO_5.out) hb)
      have n2_:=aM (Kd.R_below (by (with_reducible repeat (first|apply Kd.R_alloc|apply Kd.R_drewN|apply Kd.R_drew));exact HO181.out) hb)
      have n3_:=aM (below_step (by repeat (first|(with_reducible first|exact HB.out|apply bA|apply bN|apply bD)|exact HB.out)) hb)
      clear HO_4
      clear HO_5
      clear HO181
      clear HB
      have HO_4:=n0_
      have HO_5:=n1_
      have HO181:=n2_
      have HB:=n3_
      clear n0_ n1_ n2_ n3_
      (try clear hb)
      (try clear hb2)
      (try clear hk)
      (try clear hi)
      refine hK.out _ _ ⟨HS0_,HS1_⟩ (fun hHeld => ?_)
      clear hK K
      refine norm_ (a':=?_) ?_ ?_
      rotate_left
      ·show Act.put _ (some 39) _ = _
       simp only [Act.put,sI,sZ,sS,i64_w,i32_w]
       rfl
      refine pure_ (i:=9) (N:=some 40) (v:=?_) (a':=?_) #[bT,bT,bT,bT,bT,bT,bT,bT,bT,bT,bF,bF,bF] rfl rfl (any_of HT_.out (by kernel_rfl)) (fun _ _ _ h => h) (Or.inl ⟨by rfl,?_⟩) ?_ ?_
      rotate_left;(· intro w';go_simp;with_reducible rfl);rotate_left;(· simp only [Act.put,sI,sZ,sS,i64_w,i32_w];rfl)
      refine last_ (i:=10) (N:=some 41) #[bT,bT,bT,bT,bT,bT,bT,bT,bT,bT,bT,bF,bF] rfl rfl (one_of HT_.out (by kernel_rfl)) (by decide) (fun K hK => ?_)
      refine value_ (w1:=?_) (v:=?_) (by rfl) rfl ?_ ?_
      rotate_left 2
      ·go_simp
       constructor
       ·rfl
       ·rfl
      refine hK.out _ _ ?_
      clear hK K
      refine norm_ (a':=?_) ?_ ?_
      rotate_left
      ·show Act.put _ (some 41) _ = _
       simp only [Act.put,sI,sZ,sS,i64_w,i32_w]
       rfl
      refine last_ (i:=11) (N:=some 42) #[bT,bT,bT,bT,bT,bT,bT,bT,bT,bT,bT,bT,bF] rfl rfl (one_of HT_.out (by kernel_rfl)) (by decide) (fun K hK => ?_)
      refine Kd.R_append_step k48 (w0:=w) w.heap.size (by rfl) (.tmp 31) (.tmp 41) 23 48 (.agg #[(.int .i64 0),(.int .i64 0),(.int .i64 0),(.int .i64 0)]) 32 rfl Tryd.underlying23 info48 rfl (by decide) (by omega) u4 x4_1 (⟨t183,(⟨t185,t186,t187⟩ : S46)⟩ : S48) [.int .i64 t183,.int .i64 t185,.int .i64 t186,.int .i64 t187] (fun _ => True) (fun _ => False) rfl rfl ?aP (fun _ hk => hk.elim) ?aF ?aO ?aB ?aS ?aL ?_
      (case aP => exact k48_mkM _ _ _ (⟨t183,(⟨t185,t186,t187⟩ : S46)⟩ : S48))
      (case aB => exact (by repeat (first|(with_reducible first|exact HB.out|apply bA|apply bN|apply bD)|exact HB.out)))
      (case aF => exact (fun _ _ => trivial))
      (case aO => exact (by (with_reducible repeat (first|apply Kd.R_alloc|apply Kd.R_drewN|apply Kd.R_drew));exact HO_4.out))
      (case aS => exact (below_size (by repeat (first|(with_reducible first|exact HB.out|apply bA|apply bN|apply bD)|exact HB.out))))
      (case aL => have:=LMc18.out;omega)
      intro v189 w24 ho hb hg hat
      have hHN0_:=True.intro
      rw [← Ny188.out] at ho
      have n0_:=aM (Kd.R_over' (by (with_reducible repeat (first|apply Kd.R_alloc|apply Kd.R_drewN|apply Kd.R_drew));exact HO_5.out) (Kd.R_typed (by (with_reducible repeat (first|apply Kd.R_alloc|apply Kd.R_drewN|apply Kd.R_drew));exact HO_4.out)) (by decide) hg)
      have n1_:=aM (Kd.R_over' (by (with_reducible repeat (first|apply Kd.R_alloc|apply Kd.R_drewN|apply Kd.R_drew));exact HO181.out) (Kd.R_typed (by (with_reducible repeat (first|apply Kd.R_alloc|apply Kd.R_drewN|apply Kd.R_drew));exact HO_4.out)) (by decide) hg)
      have n2_:=aM (hb)
      have n3_:=aM (ho)
      clear HO_5
      clear HO181
      clear HB
      clear HO_4
      have HO_5:=n0_
      have HO181:=n1_
      have HB:=n2_
      have HO190:=n3_
      clear n0_ n1_ n2_ n3_
      clear ho hb hg hat
      refine hK.out _ _ ?_
      clear hK K
      refine norm_ (a':=?_) ?_ ?_
      rotate_left
      ·show Act.put _ (some 42) _ = _
       simp only [Act.put,sI,sZ,sS,i64_w,i32_w]
       rfl
      refine pure_ (i:=12) (N:=some 4) (v:=?_) (a':=?_) #[bT,bT,bT,bT,bT,bT,bT,bT,bT,bT,bT,bT,bT] rfl rfl (any_of HT_.out (by kernel_rfl)) (fun _ _ _ h => h) (Or.inl ⟨by rfl,?_⟩) ?_ ?_
      rotate_left;(· intro w';go_simp;with_reducible rfl);rotate_left;(· simp only [Act.put,sI,sZ,sS,i64_w,i32_w];rfl)
      refine done_ (done_of HT_.out (by kernel_rfl)) ?_
      try go_wp2
      go_roundg k1
      case measure => have:=HK1.out;omega
      case rel => exact ⟨(y188),(wrap64 (x6_1 + 1)),(by first|rfl|(simp;done)|(simp [*];done)),H',⟨by have:=HK1.out;omega⟩,⟨by (with_reducible repeat (first|apply Kd.R_alloc|apply Kd.R_drewN|apply Kd.R_drew));exact HO190.out⟩,⟨by (with_reducible repeat (first|apply Kd.R_alloc|apply Kd.R_drewN|apply Kd.R_drew));exact Kd.R_mono HO_5.out (fun _ hk => trivial)⟩,⟨by repeat (first|(with_reducible first|exact HB.out|apply bA|apply bN|apply bD)|exact HB.out)⟩⟩
     ·rw [if_neg c13] at H
      have c13b0 : ((t179.length : Int) == 2) = false:=beq_eq_false_iff_ne.mpr c13
      have c13b1 : ((t179.length : Int) != 2) = true:=bne_iff_ne.mpr c13
      obtain ⟨y191,hy191⟩ : ∃ y_ : List (S48),y_ = (([] : List (S48))):=⟨_,rfl⟩
      replace H : (some (y191,false)) = some (r1,r2):=by first|(rw [hy191];with_reducible exact H)|(have H2_:=(Option.bind_some _ _).symm.trans H;rw [hy191];with_reducible exact H2_)|(have H2_:=(Option.bind_some _ _).symm.trans H;with_reducible exact H2_)|with_reducible exact H|(rw [hy191];exact H)|exact H
      have Ny191:=aM hy191
      clear hy191
      simp only [Option.some.injEq,Prod.mk.injEq] at H
      obtain ⟨rfl,rfl⟩:=H
      obtain ⟨Ao25,co25,eo25⟩:=Kd.R_slice HO_5.out
      subst eo25
      have p178 : 0 ≤ (x6_1 : Int):=of_decide_eq_true (by first|(with_reducible assumption)|assumption)
      have q178 : x6_1 < (t175.length : Int):=of_decide_eq_true (by first|(with_reducible assumption)|assumption)
      obtain ⟨ad178,e178,hx178_0⟩:=Kd.at_string (Kd.R_reads' HO_5.out).2.2 x6_1 p178 q178
      cases e178
      replace p178:=eq_true p178
      replace q178:=eq_true q178
      go_wp2_with (first|((with_reducible refine gate_callee (f:=33) rfl ?_);refine goesL_ (some 26) rfl rfl Tryd.func33 (by kernel_rfl) rfl #[.string (rdOf ByteArray.empty t175 x6_1),.int .u8 58] rfl (by (try simp only [List.map_toArray,List.map_cons,List.map_nil]);first|done|rfl|(simp only [List.length_drop,List.length_take];rfl)) ?_;(with_reducible refine (spec_l1Cut.calls k1 (rdOf ByteArray.empty t175 x6_1) 58 t179 _ A12.out).mono ?_);rintro e w26 ⟨v180,rfl,ho0,hb⟩;refine ⟨_,rfl,?_⟩;have n0_:=aM (Kd.R_below (by (with_reducible repeat (first|apply Kd.R_alloc|apply Kd.R_drewN|apply Kd.R_drew));exact HO_4.out) hb);have n1_:=aM (Kd.R_elder' (by (with_reducible repeat (first|apply Kd.R_alloc|apply Kd.R_drewN|apply Kd.R_drew));exact HO_5.out) (Kd.R_base ho0) hb);have n2_:=aM (Kd.R_lower (Kd.R_new' ho0 (Kd.R_lt (by (with_reducible repeat (first|apply Kd.R_alloc|apply Kd.R_drewN|apply Kd.R_drew));exact HO_5.out))) (below_size (by repeat (first|(with_reducible first|exact HB.out|apply bA|apply bN|apply bD)|exact HB.out))));have n3_:=aM (below_step (by repeat (first|(with_reducible first|exact HB.out|apply bA|apply bN|apply bD)|exact HB.out)) hb);clear HO_4;clear HO_5;clear HB;have HO_4:=n0_;have HO_5:=n1_;have HO181:=n2_;have HB:=n3_;clear n0_ n1_ n2_ n3_;(try clear hb);(try clear hb2);(try clear hk);(try clear hi);(try clear ho0);obtain ⟨Ao27,co27,eo27⟩:=Kd.R_slice HO181.out;subst eo27)|((with_reducible refine gate_dst (N:=30) rfl ?_);refine Kd.R_lit k48 _ 48 ?hg (N:=30) ?hd (xs:=([] : List (S48))) (inner:=[]) (ok:=fun _ => True) (okp:=fun _ => True) ?hr ?hp (fun _ hk => hk) trivial (Below.refl _ _) (Nat.le_refl _) (by simp) ?_;(case hd => rfl);(case hg => rfl);(case hr => first|(go_simp;done)|(go_simp;rfl));(case hp => exact (Reps.none _ _));intro v192 w28 ho29 hb hg_ hnew_;clear hg_ hnew_;(first|rw [← Ny191.out] at ho29|(simp only [Int.reduceToNat] at ho29;rw [← Ny191.out] at ho29));have n0_:=aM (Kd.R_elder' (by (with_reducible repeat (first|apply Kd.R_alloc|apply Kd.R_drewN|apply Kd.R_drew));exact HO_4.out) (Kd.R_base ho29) hb);have n1_:=aM (Kd.R_below (by (with_reducible repeat (first|apply Kd.R_alloc|apply Kd.R_drewN|apply Kd.R_drew));exact HO_5.out) hb);have n2_:=aM (Kd.R_below (by (with_reducible repeat (first|apply Kd.R_alloc|apply Kd.R_drewN|apply Kd.R_drew));exact HO181.out) hb);have n3_:=aM (Kd.R_lower (Kd.R_new' ho29 (Kd.R_lt (by (with_reducible repeat (first|apply Kd.R_alloc|apply Kd.R_drewN|apply Kd.R_drew));exact HO_4.out))) (below_size (by repeat (first|(with_reducible first|exact HB.out|apply bA|apply bN|apply bD)|exact HB.out))));have n4_:=aM (below_step (by repeat (first|(with_reducible first|exact HB.out|apply bA|apply bN|apply bD)|exact HB.out)) hb);clear HO_4;clear HO_5;clear HO181;clear HB;have HO_4:=n0_;have HO_5:=n1_;have HO181:=n2_;have HO193:=n3_;have HB:=n4_;clear n0_ n1_ n2_ n3_ n4_;clear hb ho29))
      go_ret2
      exact ⟨_,by first|rfl|(simp only [i64_w,i32_w];done)|(simp only [i64_w,i32_w];rfl)|(simp [errW_none,errW_some] <;> rfl)|(simp [*,errW_none,errW_some] <;> rfl),by (with_reducible repeat (first|apply Kd.R_alloc|apply Kd.R_drewN|apply Kd.R_drew));exact Kd.R_mono HO193.out (fun _ hk => trivial),by repeat (first|(with_reducible first|exact HB.out|apply bA|apply bN|apply bD)|exact HB.out)⟩
    ·rw [if_neg c9] at H
     have c9b0 : decide ((wrap64 (x6_1 + 1)) < (t175.length : Int)) = false:=decide_eq_false c9
     clear c9
     replace H:=Option.bind_eq_some_iff.mp H
     obtain ⟨t194,A300,H⟩:=H
     replace H : (if t194 = true then ((spec_ChainText.f k1 x4_1).bind fun t195 => (if t195.toList = a0.toList then (some (x4_1,true)) else (some ((([] : List (S48))),false)))) else (some ((([] : List (S48))),false))) = some (r1,r2):=H
     have A30:=aM A300
     clear A300
     by_cases c31 : t194 = true
     ·subst c31
      have H1 : ((spec_ChainText.f k1 x4_1).bind fun t195 => (if t195.toList = a0.toList then (some (x4_1,true)) else (some ((([] : List (S48))),false)))) = some (r1,r2):=by rw [if_pos rfl] at H;exact H
      clear H
      have H:=H1
      clear H1
      replace H:=Option.bind_eq_some_iff.mp H
      obtain ⟨t195,A320,H⟩:=H
      replace H : (if t195.toList = a0.toList then (some (x4_1,true)) else (some ((([] : List (S48))),false))) = some (r1,r2):=H
      have A32:=aM A320
      clear A320
      by_cases c33 : t195.toList = a0.toList
      ·rw [if_pos c33] at H
       have c33b0 : (t195.toList == a0.toList) = true:=beq_iff_eq.mpr c33
       have c33b1 : (t195.toList != a0.toList) = false:=bne_eq_false_iff_eq.mpr c33
       clear c33
       simp only [Option.some.injEq,Prod.mk.injEq] at H
       obtain ⟨rfl,rfl⟩:=H
       obtain ⟨Ao34,co34,eo34⟩:=Kd.R_slice HO_5.out
       subst eo34
       obtain ⟨Ao35,co35,eo35⟩:=Kd.R_slice HO_4.out
       subst eo35
       go_wp2_with (first|((with_reducible refine gate_callee (f:=22) rfl ?_);refine goesL_ (some 44) rfl rfl Tryd.func22 (by kernel_rfl) rfl #[.slice Ao35 x4_1.length co35] rfl (by (try simp only [List.map_toArray,List.map_cons,List.map_nil]);first|done|rfl|(simp only [List.length_drop,List.length_take];rfl)) ?_;(with_reducible refine (spec_ChainOk.calls k1 _ _ x4_1 true _ ?side1 ?side2 A30.out).mono ?_);(case side1 => repeat (first|exact (Kd.R_reads' HO_4.out).2.2|(with_reducible refine Kd.C_alloc ?_ _)|(with_reducible refine Kd.C_drewN ?_ _)|(with_reducible refine Kd.C_drew ?_)));(case side2 => exact (Kd.R_reads' HO_4.out).2.1);rintro e w36 ⟨rfl,hb⟩;refine ⟨_,rfl,?_⟩;have n0_:=aM (Kd.R_below (by (with_reducible repeat (first|apply Kd.R_alloc|apply Kd.R_drewN|apply Kd.R_drew));exact HO_4.out) hb);have n1_:=aM (Kd.R_below (by (with_reducible repeat (first|apply Kd.R_alloc|apply Kd.R_drewN|apply Kd.R_drew));exact HO_5.out) hb);have n2_:=aM (below_step (by repeat (first|(with_reducible first|exact HB.out|apply bA|apply bN|apply bD)|exact HB.out)) hb);clear HO_4;clear HO_5;clear HB;have HO_4:=n0_;have HO_5:=n1_;have HB:=n2_;clear n0_ n1_ n2_;(try clear hb);(try clear hb2);(try clear hk);(try clear hi))|(go_at_call 11;(with_reducible refine (spec_ChainText.calls k1 _ _ x4_1 t195 _ ?side1 ?side2 A32.out).mono ?_);(case side1 => repeat (first|exact (Kd.R_reads' HO_4.out).2.2|(with_reducible refine Kd.C_alloc ?_ _)|(with_reducible refine Kd.C_drewN ?_ _)|(with_reducible refine Kd.C_drew ?_)));(case side2 => exact (Kd.R_reads' HO_4.out).2.1);rintro e w37 ⟨rfl,hb⟩;have n0_:=aM (Kd.R_below (by (with_reducible repeat (first|apply Kd.R_alloc|apply Kd.R_drewN|apply Kd.R_drew));exact HO_4.out) hb);have n1_:=aM (Kd.R_below (by (with_reducible repeat (first|apply Kd.R_alloc|apply Kd.R_drewN|apply Kd.R_drew));exact HO_5.out) hb);have n2_:=aM (below_step (by repeat (first|(with_reducible first|exact HB.out|apply bA|apply bN|apply bD)|exact HB.out)) hb);clear HO_4;clear HO_5;clear HB;have HO_4:=n0_;have HO_5:=n1_;have HB:=n2_;clear n0_ n1_ n2_;(try clear hb);(try clear hb2);(try clear hk);(try clear hi)))
       go_ret2
       exact ⟨_,by first|rfl|(simp only [i64_w,i32_w];done)|(simp only [i64_w,i32_w];rfl)|(simp [errW_none,errW_some] <;> rfl)|(simp [*,errW_none,errW_some] <;> rfl),by (with_reducible repeat (first|apply Kd.R_alloc|apply Kd.R_drewN|apply Kd.R_drew));exact HO_4.out,by repeat (first|(with_reducible first|exact HB.out|apply bA|apply bN|apply bD)|exact HB.out)⟩
      ·rw [if_neg c33] at H
       have c33b0 : (t195.toList == a0.toList) = false:=beq_eq_false_iff_ne.mpr c33
       have c33b1 : (t195.toList != a0.toList) = true:=bne_iff_ne.mpr c33
       obtain ⟨y196,hy196⟩ : ∃ y_ : List (S48),y_ = (([] : List (S48))):=⟨_,rfl⟩
       replace H : (some (y196,false)) = some (r1,r2):=by first|(rw [hy196];with_reducible exact H)|(have H2_:=(Option.bind_some _ _).symm.trans H;rw [hy196];with_reducible exact H2_)|(have H2_:=(Option.bind_some _ _).symm.trans H;with_reducible exact H2_)|with_reducible exact H|(rw [hy196];exact H)|exact H
       have Ny196:=aM hy196
       clear hy196
       simp only [Option.some.injEq,Prod.mk.injEq] at H
       obtain ⟨rfl,rfl⟩:=H
       obtain ⟨Ao38,co38,eo38⟩:=Kd.R_slice HO_5.out
       subst eo38
       obtain ⟨Ao39,co39,eo39⟩:=Kd.R_slice HO_4.out
       subst eo39
       go_wp2_with (first|((with_reducible refine gate_callee (f:=22) rfl ?_);refine goesL_ (some 44) rfl rfl Tryd.func22 (by kernel_rfl) rfl #[.slice Ao39 x4_1.length co39] rfl (by (try simp only [List.map_toArray,List.map_cons,List.map_nil]);first|done|rfl|(simp only [List.length_drop,List.length_take];rfl)) ?_;(with_reducible refine (spec_ChainOk.calls k1 _ _ x4_1 true _ ?side1 ?side2 A30.out).mono ?_);(case side1 => repeat (first|exact (Kd.R_reads' HO_4.out).2.2|(with_reducible refine Kd.C_alloc ?_ _)|(with_reducible refine Kd.C_drewN ?_ _)|(with_reducible refine Kd.C_drew ?_)));(case side2 => exact (Kd.R_reads' HO_4.out).2.1);rintro e w40 ⟨rfl,hb⟩;refine ⟨_,rfl,?_⟩;have n0_:=aM (Kd.R_below (by (with_reducible repeat (first|apply Kd.R_alloc|apply Kd.R_drewN|apply Kd.R_drew));exact HO_4.out) hb);have n1_:=aM (Kd.R_below (by (with_reducible repeat (first|apply Kd.R_alloc|apply Kd.R_drewN|apply Kd.R_drew));exact HO_5.out) hb);have n2_:=aM (below_step (by repeat (first|(with_reducible first|exact HB.out|apply bA|apply bN|apply bD)|exact HB.out)) hb);clear HO_4;clear HO_5;clear HB;have HO_4:=n0_;have HO_5:=n1_;have HB:=n2_;clear n0_ n1_ n2_;(try clear hb);(try clear hb2);(try clear hk);(try clear hi))|(go_at_call 11;(with_reducible refine (spec_ChainText.calls k1 _ _ x4_1 t195 _ ?side1 ?side2 A32.out).mono ?_);(case side1 => repeat (first|exact (Kd.R_reads' HO_4.out).2.2|(with_reducible refine Kd.C_alloc ?_ _)|(with_reducible refine Kd.C_drewN ?_ _)|(with_reducible refine Kd.C_drew ?_)));(case side2 => exact (Kd.R_reads' HO_4.out).2.1);rintro e w41 ⟨rfl,hb⟩;have n0_:=aM (Kd.R_below (by (with_reducible repeat (first|apply Kd.R_alloc|apply Kd.R_drewN|apply Kd.R_drew));exact HO_4.out) hb);have n1_:=aM (Kd.R_below (by (with_reducible repeat (first|apply Kd.R_alloc|apply Kd.R_drewN|apply Kd.R_drew));exact HO_5.out) hb);have n2_:=aM (below_step (by repeat (first|(with_reducible first|exact HB.out|apply bA|apply bN|apply bD)|exact HB.out)) hb);clear HO_4;clear HO_5;clear HB;have HO_4:=n0_;have HO_5:=n1_;have HB:=n2_;clear n0_ n1_ n2_;(try clear hb);(try clear hb2);(try clear hk);(try clear hi))|((with_reducible refine gate_dst (N:=52) rfl ?_);refine Kd.R_lit k48 _ 48 ?hg (N:=52) ?hd (xs:=([] : List (S48))) (inner:=[]) (ok:=fun _ => True) (okp:=fun _ => True) ?hr ?hp (fun _ hk => hk) trivial (Below.refl _ _) (Nat.le_refl _) (by simp) ?_;(case hd => rfl);(case hg => rfl);(case hr => first|(go_simp;done)|(go_simp;rfl));(case hp => exact (Reps.none _ _));intro v197 w42 ho43 hb hg_ hnew_;clear hg_ hnew_;(first|rw [← Ny196.out] at ho43|(simp only [Int.reduceToNat] at ho43;rw [← Ny196.out] at ho43));have n0_:=aM (Kd.R_elder' (by (with_reducible repeat (first|apply Kd.R_alloc|apply Kd.R_drewN|apply Kd.R_drew));exact HO_4.out) (Kd.R_base ho43) hb);have n1_:=aM (Kd.R_below (by (with_reducible repeat (first|apply Kd.R_alloc|apply Kd.R_drewN|apply Kd.R_drew));exact HO_5.out) hb);have n2_:=aM (Kd.R_lower (Kd.R_new' ho43 (Kd.R_lt (by (with_reducible repeat (first|apply Kd.R_alloc|apply Kd.R_drewN|apply Kd.R_drew));exact HO_4.out))) (below_size (by repeat (first|(with_reducible first|exact HB.out|apply bA|apply bN|apply bD)|exact HB.out))));have n3_:=aM (below_step (by repeat (first|(with_reducible first|exact HB.out|apply bA|apply bN|apply bD)|exact HB.out)) hb);clear HO_4;clear HO_5;clear HB;have HO_4:=n0_;have HO_5:=n1_;have HO198:=n2_;have HB:=n3_;clear n0_ n1_ n2_ n3_;clear hb ho43))
       go_ret2
       exact ⟨_,by first|rfl|(simp only [i64_w,i32_w];done)|(simp only [i64_w,i32_w];rfl)|(simp [errW_none,errW_some] <;> rfl)|(simp [*,errW_none,errW_some] <;> rfl),by (with_reducible repeat (first|apply Kd.R_alloc|apply Kd.R_drewN|apply Kd.R_drew));exact Kd.R_mono HO198.out (fun _ hk => trivial),by repeat (first|(with_reducible first|exact HB.out|apply bA|apply bN|apply bD)|exact HB.out)⟩
     ·replace c31:=Bool.eq_false_iff.mpr c31
      subst c31
      have H1 : (some ((([] : List (S48))),false)) = some (r1,r2):=by rw [if_neg (show ¬ (false = true) by decide)] at H;exact H
      clear H
      have H:=H1
      clear H1
      obtain ⟨y199,hy199⟩ : ∃ y_ : List (S48),y_ = (([] : List (S48))):=⟨_,rfl⟩
      replace H : (some (y199,false)) = some (r1,r2):=by first|(rw [hy199];with_reducible exact H)|(have H2_:=(Option.bind_some _ _).symm.trans H;rw [hy199];with_reducible exact H2_)|(have H2_:=(Option.bind_some _ _).symm.trans H;with_reducible exact H2_)|with_reducible exact H|(rw [hy199];exact H)|exact H
      have Ny199:=aM hy199
      clear hy199
      simp only [Option.some.injEq,Prod.mk.injEq] at H
      obtain ⟨rfl,rfl⟩:=H
      obtain ⟨Ao44,co44,eo44⟩:=Kd.R_slice HO_5.out
      subst eo44
      obtain ⟨Ao45,co45,eo45⟩:=Kd.R_slice HO_4.out
      subst eo45
      go_wp2_with (first|((with_reducible refine gate_callee (f:=22) rfl ?_);refine goesL_ (some 44) rfl rfl Tryd.func22 (by kernel_rfl) rfl #[.slice Ao45 x4_1.length co45] rfl (by (try simp only [List.map_toArray,List.map_cons,List.map_nil]);first|done|rfl|(simp only [List.length_drop,List.length_take];rfl)) ?_;(with_reducible refine (spec_ChainOk.calls k1 _ _ x4_1 false _ ?side1 ?side2 A30.out).mono ?_);(case side1 => repeat (first|exact (Kd.R_reads' HO_4.out).2.2|(with_reducible refine Kd.C_alloc ?_ _)|(with_reducible refine Kd.C_drewN ?_ _)|(with_reducible refine Kd.C_drew ?_)));(case side2 => exact (Kd.R_reads' HO_4.out).2.1);rintro e w46 ⟨rfl,hb⟩;refine ⟨_,rfl,?_⟩;have n0_:=aM (Kd.R_below (by (with_reducible repeat (first|apply Kd.R_alloc|apply Kd.R_drewN|apply Kd.R_drew));exact HO_4.out) hb);have n1_:=aM (Kd.R_below (by (with_reducible repeat (first|apply Kd.R_alloc|apply Kd.R_drewN|apply Kd.R_drew));exact HO_5.out) hb);have n2_:=aM (below_step (by repeat (first|(with_reducible first|exact HB.out|apply bA|apply bN|apply bD)|exact HB.out)) hb);clear HO_4;clear HO_5;clear HB;have HO_4:=n0_;have HO_5:=n1_;have HB:=n2_;clear n0_ n1_ n2_;(try clear hb);(try clear hb2);(try clear hk);(try clear hi))|((with_reducible refine gate_dst (N:=52) rfl ?_);refine Kd.R_lit k48 _ 48 ?hg (N:=52) ?hd (xs:=([] : List (S48))) (inner:=[]) (ok:=fun _ => True) (okp:=fun _ => True) ?hr ?hp (fun _ hk => hk) trivial (Below.refl _ _) (Nat.le_refl _) (by simp) ?_;(case hd => rfl);(case hg => rfl);(case hr => first|(go_simp;done)|(go_simp;rfl));(case hp => exact (Reps.none _ _));intro v200 w47 ho48 hb hg_ hnew_;clear hg_ hnew_;(first|rw [← Ny199.out] at ho48|(simp only [Int.reduceToNat] at ho48;rw [← Ny199.out] at ho48));have n0_:=aM (Kd.R_elder' (by (with_reducible repeat (first|apply Kd.R_alloc|apply Kd.R_drewN|apply Kd.R_drew));exact HO_4.out) (Kd.R_base ho48) hb);have n1_:=aM (Kd.R_below (by (with_reducible repeat (first|apply Kd.R_alloc|apply Kd.R_drewN|apply Kd.R_drew));exact HO_5.out) hb);have n2_:=aM (Kd.R_lower (Kd.R_new' ho48 (Kd.R_lt (by (with_reducible repeat (first|apply Kd.R_alloc|apply Kd.R_drewN|apply Kd.R_drew));exact HO_4.out))) (below_size (by repeat (first|(with_reducible first|exact HB.out|apply bA|apply bN|apply bD)|exact HB.out))));have n3_:=aM (below_step (by repeat (first|(with_reducible first|exact HB.out|apply bA|apply bN|apply bD)|exact HB.out)) hb);clear HO_4;clear HO_5;clear HB;have HO_4:=n0_;have HO_5:=n1_;have HO201:=n2_;have HB:=n3_;clear n0_ n1_ n2_ n3_;clear hb ho48))
      go_ret2
      exact ⟨_,by first|rfl|(simp only [i64_w,i32_w];done)|(simp only [i64_w,i32_w];rfl)|(simp [errW_none,errW_some] <;> rfl)|(simp [*,errW_none,errW_some] <;> rfl),by (with_reducible repeat (first|apply Kd.R_alloc|apply Kd.R_drewN|apply Kd.R_drew));exact Kd.R_mono HO201.out (fun _ hk => trivial),by repeat (first|(with_reducible first|exact HB.out|apply bA|apply bN|apply bD)|exact HB.out)⟩

/-! ### laws_eqPay: function 53 -/
def laws_eqPay.f (a0_0 : Int) (a0_1 : Int) (a0_2 : Int) (a1_0 : Int) (a1_1 : Int) (a1_2 : Int) : Option (Bool):=if a0_0 = a1_0 then (if a0_1 = a1_1 then (if a0_2 = a1_2 then (some true) else (some false)) else (some false)) else (some false)
set_option maxHeartbeats 8000000 in
set_option maxRecDepth 100000 in
theorem laws_eqPay.calls (a0_0 : Int) (a0_1 : Int) (a0_2 : Int) (a1_0 : Int) (a1_1 : Int) (a1_2 : Int) (r : Bool) (w : World) (h : laws_eqPay.f a0_0 a0_1 a0_2 a1_0 a1_1 a1_2 = some r) :
  Calls Tryd.prog 53 #[.agg #[.int .i64 a0_0,.int .i64 a0_1,.int .i64 a0_2],.agg #[.int .i64 a1_0,.int .i64 a1_1,.int .i64 a1_2]] w fun e w' => e = .returned (.bool r) ∧ Below w.heap.size w w':=by
 have hu46:=Tryd.underlying46
 have HB:=aM (Below.refl w.heap.size w)
 have H : (if a0_0 = a1_0 then (if a0_1 = a1_1 then (if a0_2 = a1_2 then (some true) else (some false)) else (some false)) else (some false)) = some r:=h
 clear h
 by_cases c3 : a0_0 = a1_0
 ·rw [if_pos c3] at H
  have c3b0 : (a0_0 == a1_0) = true:=beq_iff_eq.mpr c3
  have c3b1 : (a0_0 != a1_0) = false:=bne_eq_false_iff_eq.mpr c3
  clear c3
  by_cases c4 : a0_1 = a1_1
  ·rw [if_pos c4] at H
   have c4b0 : (a0_1 == a1_1) = true:=beq_iff_eq.mpr c4
   have c4b1 : (a0_1 != a1_1) = false:=bne_eq_false_iff_eq.mpr c4
   clear c4
   by_cases c5 : a0_2 = a1_2
   ·rw [if_pos c5] at H
    have c5b0 : (a0_2 == a1_2) = true:=beq_iff_eq.mpr c5
    have c5b1 : (a0_2 != a1_2) = false:=bne_eq_false_iff_eq.mpr c5
    clear c5
    obtain rfl:=Option.some.inj H
    go_enter Tryd.func53,Tryd.ntmps53
    go_wp2_with (first|((with_reducible refine gate_dst (N:=2) rfl ?_);refine box_event ?hg (N:=2) ?hd (cs:=#[.int .i64 a0_0,.int .i64 a0_1,.int .i64 a0_2]) (t:=46) ?hr ?_;(case hd => rfl);(case hg => rfl);(case hr => first|(go_simp;done)|(go_simp;rfl));intro gb202 hg w6 hbox hb;have n0_:=aM (below_step (by repeat (first|(with_reducible first|exact HB.out|apply bA|apply bN|apply bD)|exact HB.out)) hb);have n1_:=aM (hbox);have n2_:=aM ((by rw [hg];exact (below_size (by repeat (first|(with_reducible first|exact HB.out|apply bA|apply bN|apply bD)|exact HB.out))) : w.heap.size ≤ gb202));have n3_:=aM ((by rw [hg];exact (below_size (by repeat (first|(with_reducible first|exact HB.out|apply bA|apply bN|apply bD)|exact HB.out))) : w.heap.size ≤ gb202));clear HB;have HB:=n0_;have BK202:=n1_;have GW202:=n2_;have GE202:=n3_;clear n0_ n1_ n2_ n3_;clear hb hbox hg)|((with_reducible refine gate_dst (N:=3) rfl ?_);refine box_event ?hg (N:=3) ?hd (cs:=#[.int .i64 a1_0,.int .i64 a1_1,.int .i64 a1_2]) (t:=46) ?hr ?_;(case hd => rfl);(case hg => rfl);(case hr => first|(go_simp;done)|(go_simp;rfl));intro gb203 hg w7 hbox hb;have n0_:=aM (blk_below (g:=gb202) (o:=.cells #[.int .i64 a0_0,.int .i64 a0_1,.int .i64 a0_2] 46 (0,0)) (by (with_reducible repeat (first|refine blk_drewN ?_ _|refine blk_drew ?_|refine blk_alloc ?_ _));exact BK202.out) hb);have n1_:=aM (below_step (by repeat (first|(with_reducible first|exact HB.out|apply bA|apply bN|apply bD|refine below_set ?_ GE202.out)|exact HB.out)) hb);have n2_:=aM (hbox);have n3_:=aM ((by rw [hg];exact (below_size (by repeat (first|(with_reducible first|exact HB.out|apply bA|apply bN|apply bD|refine below_set ?_ GE202.out)|exact HB.out))) : w.heap.size ≤ gb203));have n4_:=aM ((by rw [hg];exact (below_size (by repeat (first|(with_reducible first|exact HB.out|apply bA|apply bN|apply bD|refine below_set ?_ GE202.out)|exact HB.out))) : w.heap.size ≤ gb203));have n5_:=aM ((by rw [hg];exact Nat.ne_of_lt (blk_lt (g:=gb202) (o:=.cells #[.int .i64 a0_0,.int .i64 a0_1,.int .i64 a0_2] 46 (0,0)) (by (with_reducible repeat (first|refine blk_drewN ?_ _|refine blk_drew ?_|refine blk_alloc ?_ _));exact BK202.out)) : gb202 ≠ gb203));have n6_:=aM ((by rw [hg];exact Nat.ne_of_gt (blk_lt (g:=gb202) (o:=.cells #[.int .i64 a0_0,.int .i64 a0_1,.int .i64 a0_2] 46 (0,0)) (by (with_reducible repeat (first|refine blk_drewN ?_ _|refine blk_drew ?_|refine blk_alloc ?_ _));exact BK202.out)) : gb203 ≠ gb202));clear BK202;clear HB;have BK202:=n0_;have HB:=n1_;have BK203:=n2_;have GW203:=n3_;have GE203:=n4_;have NB202_203:=n5_;have NB203_202:=n6_;clear n0_ n1_ n2_ n3_ n4_ n5_ n6_;clear hb hbox hg;have hnb8:=NB202_203.out;have hnc8:=NB203_202.out;have hcz9_0 : w7.cell? ⟨gb202,0,none⟩ = some (.int .i64 a0_0):=(blk_cell BK202.out 0).trans rfl;have hcz9_1 : w7.cell? ⟨gb202,1,none⟩ = some (.int .i64 a0_1):=(blk_cell BK202.out 1).trans rfl;have hcz9_2 : w7.cell? ⟨gb202,2,none⟩ = some (.int .i64 a0_2):=(blk_cell BK202.out 2).trans rfl;have hfz9_0:=blk_frozen BK202.out 0;have hfz9_1:=blk_frozen BK202.out 1;have hfz9_2:=blk_frozen BK202.out 2;have hcz10_0 : w7.cell? ⟨gb203,0,none⟩ = some (.int .i64 a1_0):=(blk_cell BK203.out 0).trans rfl;have hcz10_1 : w7.cell? ⟨gb203,1,none⟩ = some (.int .i64 a1_1):=(blk_cell BK203.out 1).trans rfl;have hcz10_2 : w7.cell? ⟨gb203,2,none⟩ = some (.int .i64 a1_2):=(blk_cell BK203.out 2).trans rfl;have hfz10_0:=blk_frozen BK203.out 0;have hfz10_1:=blk_frozen BK203.out 1;have hfz10_2:=blk_frozen BK203.out 2))
    go_ret
    exact ⟨by first|rfl|(simp only [i64_w,i32_w];done)|(simp only [i64_w,i32_w];rfl)|(simp [errW_none,errW_some] <;> rfl)|(simp [*,errW_none,errW_some] <;> rfl),by repeat (first|(with_reducible first|exact HB.out|apply bA|apply bN|apply bD|refine below_set ?_ GE202.out|refine below_set ?_ GE203.out)|exact HB.out)⟩
   ·rw [if_neg c5] at H
    have c5b0 : (a0_2 == a1_2) = false:=beq_eq_false_iff_ne.mpr c5
    have c5b1 : (a0_2 != a1_2) = true:=bne_iff_ne.mpr c5
    obtain rfl:=Option.some.inj H
    go_enter Tryd.func53,Tryd.ntmps53
    go_wp2_with (first|((with_reducible refine gate_dst (N:=2) rfl ?_);refine box_event ?hg (N:=2) ?hd (cs:=#[.int .i64 a0_0,.int .i64 a0_1,.int .i64 a0_2]) (t:=46) ?hr ?_;(case hd => rfl);(case hg => rfl);(case hr => first|(go_simp;done)|(go_simp;rfl));intro gb202 hg w11 hbox hb;have n0_:=aM (below_step (by repeat (first|(with_reducible first|exact HB.out|apply bA|apply bN|apply bD)|exact HB.out)) hb);have n1_:=aM (hbox);have n2_:=aM ((by rw [hg];exact (below_size (by repeat (first|(with_reducible first|exact HB.out|apply bA|apply bN|apply bD)|exact HB.out))) : w.heap.size ≤ gb202));have n3_:=aM ((by rw [hg];exact (below_size (by repeat (first|(with_reducible first|exact HB.out|apply bA|apply bN|apply bD)|exact HB.out))) : w.heap.size ≤ gb202));clear HB;have HB:=n0_;have BK202:=n1_;have GW202:=n2_;have GE202:=n3_;clear n0_ n1_ n2_ n3_;clear hb hbox hg)|((with_reducible refine gate_dst (N:=3) rfl ?_);refine box_event ?hg (N:=3) ?hd (cs:=#[.int .i64 a1_0,.int .i64 a1_1,.int .i64 a1_2]) (t:=46) ?hr ?_;(case hd => rfl);(case hg => rfl);(case hr => first|(go_simp;done)|(go_simp;rfl));intro gb203 hg w12 hbox hb;have n0_:=aM (blk_below (g:=gb202) (o:=.cells #[.int .i64 a0_0,.int .i64 a0_1,.int .i64 a0_2] 46 (0,0)) (by (with_reducible repeat (first|refine blk_drewN ?_ _|refine blk_drew ?_|refine blk_alloc ?_ _));exact BK202.out) hb);have n1_:=aM (below_step (by repeat (first|(with_reducible first|exact HB.out|apply bA|apply bN|apply bD|refine below_set ?_ GE202.out)|exact HB.out)) hb);have n2_:=aM (hbox);have n3_:=aM ((by rw [hg];exact (below_size (by repeat (first|(with_reducible first|exact HB.out|apply bA|apply bN|apply bD|refine below_set ?_ GE202.out)|exact HB.out))) : w.heap.size ≤ gb203));have n4_:=aM ((by rw [hg];exact (below_size (by repeat (first|(with_reducible first|exact HB.out|apply bA|apply bN|apply bD|refine below_set ?_ GE202.out)|exact HB.out))) : w.heap.size ≤ gb203));have n5_:=aM ((by rw [hg];exact Nat.ne_of_lt (blk_lt (g:=gb202) (o:=.cells #[.int .i64 a0_0,.int .i64 a0_1,.int .i64 a0_2] 46 (0,0)) (by (with_reducible repeat (first|refine blk_drewN ?_ _|refine blk_drew ?_|refine blk_alloc ?_ _));exact BK202.out)) : gb202 ≠ gb203));have n6_:=aM ((by rw [hg];exact Nat.ne_of_gt (blk_lt (g:=gb202) (o:=.cells #[.int .i64 a0_0,.int .i64 a0_1,.int .i64 a0_2] 46 (0,0)) (by (with_reducible repeat (first|refine blk_drewN ?_ _|refine blk_drew ?_|refine blk_alloc ?_ _));exact BK202.out)) : gb203 ≠ gb202));clear BK202;clear HB;have BK202:=n0_;have HB:=n1_;have BK203:=n2_;have GW203:=n3_;have GE203:=n4_;have NB202_203:=n5_;have NB203_202:=n6_;clear n0_ n1_ n2_ n3_ n4_ n5_ n6_;clear hb hbox hg;have hnb13:=NB202_203.out;have hnc13:=NB203_202.out;have hcz14_0 : w12.cell? ⟨gb202,0,none⟩ = some (.int .i64 a0_0):=(blk_cell BK202.out 0).trans rfl;have hcz14_1 : w12.cell? ⟨gb202,1,none⟩ = some (.int .i64 a0_1):=(blk_cell BK202.out 1).trans rfl;have hcz14_2 : w12.cell? ⟨gb202,2,none⟩ = some (.int .i64 a0_2):=(blk_cell BK202.out 2).trans rfl;have hfz14_0:=blk_frozen BK202.out 0;have hfz14_1:=blk_frozen BK202.out 1;have hfz14_2:=blk_frozen BK202.out 2;have hcz15_0 : w12.cell? ⟨gb203,0,none⟩ = some (.int .i64 a1_0):=(blk_cell BK203.out 0).trans rfl;have hcz15_1 : w12.cell? ⟨gb203,1,none⟩ = some (.int .i64 a1_1):=(blk_cell BK203.out 1).trans rfl;have hcz15_2 : w12.cell? ⟨gb203,2,none⟩ = some (.int .i64 a1_2):=(blk_cell BK203.out 2).trans rfl;have hfz15_0:=blk_frozen BK203.out 0;have hfz15_1:=blk_frozen BK203.out 1;have hfz15_2:=blk_frozen BK203.out 2))
    go_ret
    exact ⟨by first|rfl|(simp only [i64_w,i32_w];done)|(simp only [i64_w,i32_w];rfl)|(simp [errW_none,errW_some] <;> rfl)|(simp [*,errW_none,errW_some] <;> rfl),by repeat (first|(with_reducible first|exact HB.out|apply bA|apply bN|apply bD|refine below_set ?_ GE202.out|refine below_set ?_ GE203.out)|exact HB.out)⟩
  ·rw [if_neg c4] at H
   have c4b0 : (a0_1 == a1_1) = false:=beq_eq_false_iff_ne.mpr c4
   have c4b1 : (a0_1 != a1_1) = true:=bne_iff_ne.mpr c4
   obtain rfl:=Option.some.inj H
   go_enter Tryd.func53,Tryd.ntmps53
   go_wp2_with (first|((with_reducible refine gate_dst (N:=2) rfl ?_);refine box_event ?hg (N:=2) ?hd (cs:=#[.int .i64 a0_0,.int .i64 a0_1,.int .i64 a0_2]) (t:=46) ?hr ?_;(case hd => rfl);(case hg => rfl);(case hr => first|(go_simp;done)|(go_simp;rfl));intro gb202 hg w16 hbox hb;have n0_:=aM (below_step (by repeat (first|(with_reducible first|exact HB.out|apply bA|apply bN|apply bD)|exact HB.out)) hb);have n1_:=aM (hbox);have n2_:=aM ((by rw [hg];exact (below_size (by repeat (first|(with_reducible first|exact HB.out|apply bA|apply bN|apply bD)|exact HB.out))) : w.heap.size ≤ gb202));have n3_:=aM ((by rw [hg];exact (below_size (by repeat (first|(with_reducible first|exact HB.out|apply bA|apply bN|apply bD)|exact HB.out))) : w.heap.size ≤ gb202));clear HB;have HB:=n0_;have BK202:=n1_;have GW202:=n2_;have GE202:=n3_;clear n0_ n1_ n2_ n3_;clear hb hbox hg)|((with_reducible refine gate_dst (N:=3) rfl ?_);refine box_event ?hg (N:=3) ?hd (cs:=#[.int .i64 a1_0,.int .i64 a1_1,.int .i64 a1_2]) (t:=46) ?hr ?_;(case hd => rfl);(case hg => rfl);(case hr => first|(go_simp;done)|(go_simp;rfl));intro gb203 hg w17 hbox hb;have n0_:=aM (blk_below (g:=gb202) (o:=.cells #[.int .i64 a0_0,.int .i64 a0_1,.int .i64 a0_2] 46 (0,0)) (by (with_reducible repeat (first|refine blk_drewN ?_ _|refine blk_drew ?_|refine blk_alloc ?_ _));exact BK202.out) hb);have n1_:=aM (below_step (by repeat (first|(with_reducible first|exact HB.out|apply bA|apply bN|apply bD|refine below_set ?_ GE202.out)|exact HB.out)) hb);have n2_:=aM (hbox);have n3_:=aM ((by rw [hg];exact (below_size (by repeat (first|(with_reducible first|exact HB.out|apply bA|apply bN|apply bD|refine below_set ?_ GE202.out)|exact HB.out))) : w.heap.size ≤ gb203));have n4_:=aM ((by rw [hg];exact (below_size (by repeat (first|(with_reducible first|exact HB.out|apply bA|apply bN|apply bD|refine below_set ?_ GE202.out)|exact HB.out))) : w.heap.size ≤ gb203));have n5_:=aM ((by rw [hg];exact Nat.ne_of_lt (blk_lt (g:=gb202) (o:=.cells #[.int .i64 a0_0,.int .i64 a0_1,.int .i64 a0_2] 46 (0,0)) (by (with_reducible repeat (first|refine blk_drewN ?_ _|refine blk_drew ?_|refine blk_alloc ?_ _));exact BK202.out)) : gb202 ≠ gb203));have n6_:=aM ((by rw [hg];exact Nat.ne_of_gt (blk_lt (g:=gb202) (o:=.cells #[.int .i64 a0_0,.int .i64 a0_1,.int .i64 a0_2] 46 (0,0)) (by (with_reducible repeat (first|refine blk_drewN ?_ _|refine blk_drew ?_|refine blk_alloc ?_ _));exact BK202.out)) : gb203 ≠ gb202));clear BK202;clear HB;have BK202:=n0_;have HB:=n1_;have BK203:=n2_;have GW203:=n3_;have GE203:=n4_;have NB202_203:=n5_;have NB203_202:=n6_;clear n0_ n1_ n2_ n3_ n4_ n5_ n6_;clear hb hbox hg;have hnb18:=NB202_203.out;have hnc18:=NB203_202.out;have hcz19_0 : w17.cell? ⟨gb202,0,none⟩ = some (.int .i64 a0_0):=(blk_cell BK202.out 0).trans rfl;have hcz19_1 : w17.cell? ⟨gb202,1,none⟩ = some (.int .i64 a0_1):=(blk_cell BK202.out 1).trans rfl;have hcz19_2 : w17.cell? ⟨gb202,2,none⟩ = some (.int .i64 a0_2):=(blk_cell BK202.out 2).trans rfl;have hfz19_0:=blk_frozen BK202.out 0;have hfz19_1:=blk_frozen BK202.out 1;have hfz19_2:=blk_frozen BK202.out 2;have hcz20_0 : w17.cell? ⟨gb203,0,none⟩ = some (.int .i64 a1_0):=(blk_cell BK203.out 0).trans rfl;have hcz20_1 : w17.cell? ⟨gb203,1,none⟩ = some (.int .i64 a1_1):=(blk_cell BK203.out 1).trans rfl;have hcz20_2 : w17.cell? ⟨gb203,2,none⟩ = some (.int .i64 a1_2):=(blk_cell BK203.out 2).trans rfl;have hfz20_0:=blk_frozen BK203.out 0;have hfz20_1:=blk_frozen BK203.out 1;have hfz20_2:=blk_frozen BK203.out 2))
   go_ret
   exact ⟨by first|rfl|(simp only [i64_w,i32_w];done)|(simp only [i64_w,i32_w];rfl)|(simp [errW_none,errW_some] <;> rfl)|(simp [*,errW_none,errW_some] <;> rfl),by repeat (first|(with_reducible first|exact HB.out|apply bA|apply bN|apply bD|refine below_set ?_ GE202.out|refine below_set ?_ GE203.out)|exact HB.out)⟩
 ·rw [if_neg c3] at H
  have c3b0 : (a0_0 == a1_0) = false:=beq_eq_false_iff_ne.mpr c3
  have c3b1 : (a0_0 != a1_0) = true:=bne_iff_ne.mpr c3
  obtain rfl:=Option.some.inj H
  go_enter Tryd.func53,Tryd.ntmps53
  go_wp2_with (first|((with_reducible refine gate_dst (N:=2) rfl ?_);refine box_event ?hg (N:=2) ?hd (cs:=#[.int .i64 a0_0,.int .i64 a0_1,.int .i64 a0_2]) (t:=46) ?hr ?_;(case hd => rfl);(case hg => rfl);(case hr => first|(go_simp;done)|(go_simp;rfl));intro gb202 hg w21 hbox hb;have n0_:=aM (below_step (by repeat (first|(with_reducible first|exact HB.out|apply bA|apply bN|apply bD)|exact HB.out)) hb);have n1_:=aM (hbox);have n2_:=aM ((by rw [hg];exact (below_size (by repeat (first|(with_reducible first|exact HB.out|apply bA|apply bN|apply bD)|exact HB.out))) : w.heap.size ≤ gb202));have n3_:=aM ((by rw [hg];exact (below_size (by repeat (first|(with_reducible first|exact HB.out|apply bA|apply bN|apply bD)|exact HB.out))) : w.heap.size ≤ gb202));clear HB;have HB:=n0_;have BK202:=n1_;have GW202:=n2_;have GE202:=n3_;clear n0_ n1_ n2_ n3_;clear hb hbox hg)|((with_reducible refine gate_dst (N:=3) rfl ?_);refine box_event ?hg (N:=3) ?hd (cs:=#[.int .i64 a1_0,.int .i64 a1_1,.int .i64 a1_2]) (t:=46) ?hr ?_;(case hd => rfl);(case hg => rfl);(case hr => first|(go_simp;done)|(go_simp;rfl));intro gb203 hg w22 hbox hb;have n0_:=aM (blk_below (g:=gb202) (o:=.cells #[.int .i64 a0_0,.int .i64 a0_1,.int .i64 a0_2] 46 (0,0)) (by (with_reducible repeat (first|refine blk_drewN ?_ _|refine blk_drew ?_|refine blk_alloc ?_ _));exact BK202.out) hb);have n1_:=aM (below_step (by repeat (first|(with_reducible first|exact HB.out|apply bA|apply bN|apply bD|refine below_set ?_ GE202.out)|exact HB.out)) hb);have n2_:=aM (hbox);have n3_:=aM ((by rw [hg];exact (below_size (by repeat (first|(with_reducible first|exact HB.out|apply bA|apply bN|apply bD|refine below_set ?_ GE202.out)|exact HB.out))) : w.heap.size ≤ gb203));have n4_:=aM ((by rw [hg];exact (below_size (by repeat (first|(with_reducible first|exact HB.out|apply bA|apply bN|apply bD|refine below_set ?_ GE202.out)|exact HB.out))) : w.heap.size ≤ gb203));have n5_:=aM ((by rw [hg];exact Nat.ne_of_lt (blk_lt (g:=gb202) (o:=.cells #[.int .i64 a0_0,.int .i64 a0_1,.int .i64 a0_2] 46 (0,0)) (by (with_reducible repeat (first|refine blk_drewN ?_ _|refine blk_drew ?_|refine blk_alloc ?_ _));exact BK202.out)) : gb202 ≠ gb203));have n6_:=aM ((by rw [hg];exact Nat.ne_of_gt (blk_lt (g:=gb202) (o:=.cells #[.int .i64 a0_0,.int .i64 a0_1,.int .i64 a0_2] 46 (0,0)) (by (with_reducible repeat (first|refine blk_drewN ?_ _|refine blk_drew ?_|refine blk_alloc ?_ _));exact BK202.out)) : gb203 ≠ gb202));clear BK202;clear HB;have BK202:=n0_;have HB:=n1_;have BK203:=n2_;have GW203:=n3_;have GE203:=n4_;have NB202_203:=n5_;have NB203_202:=n6_;clear n0_ n1_ n2_ n3_ n4_ n5_ n6_;clear hb hbox hg;have hnb23:=NB202_203.out;have hnc23:=NB203_202.out;have hcz24_0 : w22.cell? ⟨gb202,0,none⟩ = some (.int .i64 a0_0):=(blk_cell BK202.out 0).trans rfl;have hcz24_1 : w22.cell? ⟨gb202,1,none⟩ = some (.int .i64 a0_1):=(blk_cell BK202.out 1).trans rfl;have hcz24_2 : w22.cell? ⟨gb202,2,none⟩ = some (.int .i64 a0_2):=(blk_cell BK202.out 2).trans rfl;have hfz24_0:=blk_frozen BK202.out 0;have hfz24_1:=blk_frozen BK202.out 1;have hfz24_2:=blk_frozen BK202.out 2;have hcz25_0 : w22.cell? ⟨gb203,0,none⟩ = some (.int .i64 a1_0):=(blk_cell BK203.out 0).trans rfl;have hcz25_1 : w22.cell? ⟨gb203,1,none⟩ = some (.int .i64 a1_1):=(blk_cell BK203.out 1).trans rfl;have hcz25_2 : w22.cell? ⟨gb203,2,none⟩ = some (.int .i64 a1_2):=(blk_cell BK203.out 2).trans rfl;have hfz25_0:=blk_frozen BK203.out 0;have hfz25_1:=blk_frozen BK203.out 1;have hfz25_2:=blk_frozen BK203.out 2))
  go_ret
  exact ⟨by first|rfl|(simp only [i64_w,i32_w];done)|(simp only [i64_w,i32_w];rfl)|(simp [errW_none,errW_some] <;> rfl)|(simp [*,errW_none,errW_some] <;> rfl),by repeat (first|(with_reducible first|exact HB.out|apply bA|apply bN|apply bD|refine below_set ?_ GE202.out|refine below_set ?_ GE203.out)|exact HB.out)⟩

/-! ### laws_eqItem: function 36 -/
def laws_eqItem.f (a0_0 : Int) (a0_1 : Int) (a0_2 : Int) (a0_3 : Int) (a1_0 : Int) (a1_1 : Int) (a1_2 : Int) (a1_3 : Int) : Option (Bool):=if a0_0 = a1_0 then ((laws_eqPay.f a0_1 a0_2 a0_3 a1_1 a1_2 a1_3).bind fun t206 => (if t206 = true then (some true) else (some false))) else (some false)
set_option maxHeartbeats 8000000 in
set_option maxRecDepth 100000 in
theorem laws_eqItem.calls (a0_0 : Int) (a0_1 : Int) (a0_2 : Int) (a0_3 : Int) (a1_0 : Int) (a1_1 : Int) (a1_2 : Int) (a1_3 : Int) (r : Bool) (w : World) (h : laws_eqItem.f a0_0 a0_1 a0_2 a0_3 a1_0 a1_1 a1_2 a1_3 = some r) :
  Calls Tryd.prog 36 #[.agg #[.int .i64 a0_0,.int .i64 a0_1,.int .i64 a0_2,.int .i64 a0_3],.agg #[.int .i64 a1_0,.int .i64 a1_1,.int .i64 a1_2,.int .i64 a1_3]] w fun e w' => e = .returned (.bool r) ∧ Below w.heap.size w w':=by
 have hu48:=Tryd.underlying48
 have hu46:=Tryd.underlying46
 have HB:=aM (Below.refl w.heap.size w)
 have H : (if a0_0 = a1_0 then ((laws_eqPay.f a0_1 a0_2 a0_3 a1_1 a1_2 a1_3).bind fun t206 => (if t206 = true then (some true) else (some false))) else (some false)) = some r:=h
 clear h
 by_cases c3 : a0_0 = a1_0
 ·rw [if_pos c3] at H
  have c3b0 : (a0_0 == a1_0) = true:=beq_iff_eq.mpr c3
  have c3b1 : (a0_0 != a1_0) = false:=bne_eq_false_iff_eq.mpr c3
  clear c3
  replace H:=Option.bind_eq_some_iff.mp H
  obtain ⟨t206,A40,H⟩:=H
  replace H : (if t206 = true then (some true) else (some false)) = some r:=H
  have A4:=aM A40
  clear A40
  by_cases c5 : t206 = true
  ·subst c5
   have H1 : (some true) = some r:=by rw [if_pos rfl] at H;exact H
   clear H
   have H:=H1
   clear H1
   obtain rfl:=Option.some.inj H
   go_enter Tryd.func36,Tryd.ntmps36
   go_wp2_with (first|((with_reducible refine gate_dst (N:=2) rfl ?_);refine box_event ?hg (N:=2) ?hd (cs:=#[.int .i64 a0_0,.int .i64 a0_1,.int .i64 a0_2,.int .i64 a0_3]) (t:=48) ?hr ?_;(case hd => rfl);(case hg => rfl);(case hr => first|(go_simp;done)|(go_simp;rfl));intro gb204 hg w6 hbox hb;have n0_:=aM (below_step (by repeat (first|(with_reducible first|exact HB.out|apply bA|apply bN|apply bD)|exact HB.out)) hb);have n1_:=aM (hbox);have n2_:=aM ((by rw [hg];exact (below_size (by repeat (first|(with_reducible first|exact HB.out|apply bA|apply bN|apply bD)|exact HB.out))) : w.heap.size ≤ gb204));have n3_:=aM ((by rw [hg];exact (below_size (by repeat (first|(with_reducible first|exact HB.out|apply bA|apply bN|apply bD)|exact HB.out))) : w.heap.size ≤ gb204));clear HB;have HB:=n0_;have BK204:=n1_;have GW204:=n2_;have GE204:=n3_;clear n0_ n1_ n2_ n3_;clear hb hbox hg)|((with_reducible refine gate_dst (N:=3) rfl ?_);refine box_event ?hg (N:=3) ?hd (cs:=#[.int .i64 a1_0,.int .i64 a1_1,.int .i64 a1_2,.int .i64 a1_3]) (t:=48) ?hr ?_;(case hd => rfl);(case hg => rfl);(case hr => first|(go_simp;done)|(go_simp;rfl));intro gb205 hg w7 hbox hb;have n0_:=aM (blk_below (g:=gb204) (o:=.cells #[.int .i64 a0_0,.int .i64 a0_1,.int .i64 a0_2,.int .i64 a0_3] 48 (0,0)) (by (with_reducible repeat (first|refine blk_drewN ?_ _|refine blk_drew ?_|refine blk_alloc ?_ _));exact BK204.out) hb);have n1_:=aM (below_step (by repeat (first|(with_reducible first|exact HB.out|apply bA|apply bN|apply bD|refine below_set ?_ GE204.out)|exact HB.out)) hb);have n2_:=aM (hbox);have n3_:=aM ((by rw [hg];exact (below_size (by repeat (first|(with_reducible first|exact HB.out|apply bA|apply bN|apply bD|refine below_set ?_ GE204.out)|exact HB.out))) : w.heap.size ≤ gb205));have n4_:=aM ((by rw [hg];exact (below_size (by repeat (first|(with_reducible first|exact HB.out|apply bA|apply bN|apply bD|refine below_set ?_ GE204.out)|exact HB.out))) : w.heap.size ≤ gb205));have n5_:=aM ((by rw [hg];exact Nat.ne_of_lt (blk_lt (g:=gb204) (o:=.cells #[.int .i64 a0_0,.int .i64 a0_1,.int .i64 a0_2,.int .i64 a0_3] 48 (0,0)) (by (with_reducible repeat (first|refine blk_drewN ?_ _|refine blk_drew ?_|refine blk_alloc ?_ _));exact BK204.out)) : gb204 ≠ gb205));have n6_:=aM ((by rw [hg];exact Nat.ne_of_gt (blk_lt (g:=gb204) (o:=.cells #[.int .i64 a0_0,.int .i64 a0_1,.int .i64 a0_2,.int .i64 a0_3] 48 (0,0)) (by (with_reducible repeat (first|refine blk_drewN ?_ _|refine blk_drew ?_|refine blk_alloc ?_ _));exact BK204.out)) : gb205 ≠ gb204));clear BK204;clear HB;have BK204:=n0_;have HB:=n1_;have BK205:=n2_;have GW205:=n3_;have GE205:=n4_;have NB204_205:=n5_;have NB205_204:=n6_;clear n0_ n1_ n2_ n3_ n4_ n5_ n6_;clear hb hbox hg;have hnb8:=NB204_205.out;have hnc8:=NB205_204.out;have hcz9_0 : w7.cell? ⟨gb204,0,none⟩ = some (.int .i64 a0_0):=(blk_cell BK204.out 0).trans rfl;have hcz9_1 : w7.cell? ⟨gb204,1,none⟩ = some (.int .i64 a0_1):=(blk_cell BK204.out 1).trans rfl;have hcz9_2 : w7.cell? ⟨gb204,2,none⟩ = some (.int .i64 a0_2):=(blk_cell BK204.out 2).trans rfl;have hcz9_3 : w7.cell? ⟨gb204,3,none⟩ = some (.int .i64 a0_3):=(blk_cell BK204.out 3).trans rfl;have hfz9_0:=blk_frozen BK204.out 0;have hfz9_1:=blk_frozen BK204.out 1;have hfz9_2:=blk_frozen BK204.out 2;have hfz9_3:=blk_frozen BK204.out 3;have hcz10_0 : w7.cell? ⟨gb205,0,none⟩ = some (.int .i64 a1_0):=(blk_cell BK205.out 0).trans rfl;have hcz10_1 : w7.cell? ⟨gb205,1,none⟩ = some (.int .i64 a1_1):=(blk_cell BK205.out 1).trans rfl;have hcz10_2 : w7.cell? ⟨gb205,2,none⟩ = some (.int .i64 a1_2):=(blk_cell BK205.out 2).trans rfl;have hcz10_3 : w7.cell? ⟨gb205,3,none⟩ = some (.int .i64 a1_3):=(blk_cell BK205.out 3).trans rfl;have hfz10_0:=blk_frozen BK205.out 0;have hfz10_1:=blk_frozen BK205.out 1;have hfz10_2:=blk_frozen BK205.out 2;have hfz10_3:=blk_frozen BK205.out 3)|((with_reducible refine gate_callee (f:=53) rfl ?_);refine goesL_ (some 14) rfl rfl Tryd.func53 (by kernel_rfl) rfl #[.agg #[.int .i64 a0_1,.int .i64 a0_2,.int .i64 a0_3],.agg #[.int .i64 a1_1,.int .i64 a1_2,.int .i64 a1_3]] rfl (by (try simp only [List.map_toArray,List.map_cons,List.map_nil]);first|done|rfl|(simp only [List.length_drop,List.length_take];rfl)) ?_;(with_reducible refine (laws_eqPay.calls a0_1 a0_2 a0_3 a1_1 a1_2 a1_3 true _ A4.out).mono ?_);rintro e w11 ⟨rfl,hb⟩;refine ⟨_,rfl,?_⟩;have n0_:=aM (blk_below (g:=gb204) (o:=.cells #[.int .i64 a0_0,.int .i64 a0_1,.int .i64 a0_2,.int .i64 a0_3] 48 (0,0)) (by (with_reducible repeat (first|refine blk_drewN ?_ _|refine blk_drew ?_|refine blk_alloc ?_ _));exact BK204.out) hb);have n1_:=aM (blk_below (g:=gb205) (o:=.cells #[.int .i64 a1_0,.int .i64 a1_1,.int .i64 a1_2,.int .i64 a1_3] 48 (0,0)) (by (with_reducible repeat (first|refine blk_drewN ?_ _|refine blk_drew ?_|refine blk_alloc ?_ _));exact BK205.out) hb);have n2_:=aM (below_step (by repeat (first|(with_reducible first|exact HB.out|apply bA|apply bN|apply bD|refine below_set ?_ GE204.out|refine below_set ?_ GE205.out)|exact HB.out)) hb);clear BK204;clear BK205;clear HB;have BK204:=n0_;have BK205:=n1_;have HB:=n2_;clear n0_ n1_ n2_;(try clear hb);(try clear hb2);(try clear hk);(try clear hi)))
   go_ret
   exact ⟨by first|rfl|(simp only [i64_w,i32_w];done)|(simp only [i64_w,i32_w];rfl)|(simp [errW_none,errW_some] <;> rfl)|(simp [*,errW_none,errW_some] <;> rfl),by repeat (first|(with_reducible first|exact HB.out|apply bA|apply bN|apply bD|refine below_set ?_ GE204.out|refine below_set ?_ GE205.out)|exact HB.out)⟩
  ·replace c5:=Bool.eq_false_iff.mpr c5
   subst c5
   have H1 : (some false) = some r:=by rw [if_neg (show ¬ (false = true) by decide)] at H;exact H
   clear H
   have H:=H1
   clear H1
   obtain rfl:=Option.some.inj H
   go_enter Tryd.func36,Tryd.ntmps36
   go_wp2_with (first|((with_reducible refine gate_dst (N:=2) rfl ?_);refine box_event ?hg (N:=2) ?hd (cs:=#[.int .i64 a0_0,.int .i64 a0_1,.int .i64 a0_2,.int .i64 a0_3]) (t:=48) ?hr ?_;(case hd => rfl);(case hg => rfl);(case hr => first|(go_simp;done)|(go_simp;rfl));intro gb204 hg w12 hbox hb;have n0_:=aM (below_step (by repeat (first|(with_reducible first|exact HB.out|apply bA|apply bN|apply bD)|exact HB.out)) hb);have n1_:=aM (hbox);have n2_:=aM ((by rw [hg];exact (below_size (by repeat (first|(with_reducible first|exact HB.out|apply bA|apply bN|apply bD)|exact HB.out))) : w.heap.size ≤ gb204));have n3_:=aM ((by rw [hg];exact (below_size (by repeat (first|(with_reducible first|exact HB.out|apply bA|apply bN|apply bD)|exact HB.out))) : w.heap.size ≤ gb204));clear HB;have HB:=n0_;have BK204:=n1_;have GW204:=n2_;have GE204:=n3_;clear n0_ n1_ n2_ n3_;clear hb hbox hg)|((with_reducible refine gate_dst (N:=3) rfl ?_);refine box_event ?hg (N:=3) ?hd (cs:=#[.int .i64 a1_0,.int .i64 a1_1,.int .i64 a1_2,.int .i64 a1_3]) (t:=48) ?hr ?_;(case hd => rfl);(case hg => rfl);(case hr => first|(go_simp;done)|(go_simp;rfl));intro gb205 hg w13 hbox hb;have n0_:=aM (blk_below (g:=gb204) (o:=.cells #[.int .i64 a0_0,.int .i64 a0_1,.int .i64 a0_2,.int .i64 a0_3] 48 (0,0)) (by (with_reducible repeat (first|refine blk_drewN ?_ _|refine blk_drew ?_|refine blk_alloc ?_ _));exact BK204.out) hb);have n1_:=aM (below_step (by repeat (first|(with_reducible first|exact HB.out|apply bA|apply bN|apply bD|refine below_set ?_ GE204.out)|exact HB.out)) hb);have n2_:=aM (hbox);have n3_:=aM ((by rw [hg];exact (below_size (by repeat (first|(with_reducible first|exact HB.out|apply bA|apply bN|apply bD|refine below_set ?_ GE204.out)|exact HB.out))) : w.heap.size ≤ gb205));have n4_:=aM ((by rw [hg];exact (below_size (by repeat (first|(with_reducible first|exact HB.out|apply bA|apply bN|apply bD|refine below_set ?_ GE204.out)|exact HB.out))) : w.heap.size ≤ gb205));have n5_:=aM ((by rw [hg];exact Nat.ne_of_lt (blk_lt (g:=gb204) (o:=.cells #[.int .i64 a0_0,.int .i64 a0_1,.int .i64 a0_2,.int .i64 a0_3] 48 (0,0)) (by (with_reducible repeat (first|refine blk_drewN ?_ _|refine blk_drew ?_|refine blk_alloc ?_ _));exact BK204.out)) : gb204 ≠ gb205));have n6_:=aM ((by rw [hg];exact Nat.ne_of_gt (blk_lt (g:=gb204) (o:=.cells #[.int .i64 a0_0,.int .i64 a0_1,.int .i64 a0_2,.int .i64 a0_3] 48 (0,0)) (by (with_reducible repeat (first|refine blk_drewN ?_ _|refine blk_drew ?_|refine blk_alloc ?_ _));exact BK204.out)) : gb205 ≠ gb204));clear BK204;clear HB;have BK204:=n0_;have HB:=n1_;have BK205:=n2_;have GW205:=n3_;have GE205:=n4_;have NB204_205:=n5_;have NB205_204:=n6_;clear n0_ n1_ n2_ n3_ n4_ n5_ n6_;clear hb hbox hg;have hnb14:=NB204_205.out;have hnc14:=NB205_204.out;have hcz15_0 : w13.cell? ⟨gb204,0,none⟩ = some (.int .i64 a0_0):=(blk_cell BK204.out 0).trans rfl;have hcz15_1 : w13.cell? ⟨gb204,1,none⟩ = some (.int .i64 a0_1):=(blk_cell BK204.out 1).trans rfl;have hcz15_2 : w13.cell? ⟨gb204,2,none⟩ = some (.int .i64 a0_2):=(blk_cell BK204.out 2).trans rfl;have hcz15_3 : w13.cell? ⟨gb204,3,none⟩ = some (.int .i64 a0_3):=(blk_cell BK204.out 3).trans rfl;have hfz15_0:=blk_frozen BK204.out 0;have hfz15_1:=blk_frozen BK204.out 1;have hfz15_2:=blk_frozen BK204.out 2;have hfz15_3:=blk_frozen BK204.out 3;have hcz16_0 : w13.cell? ⟨gb205,0,none⟩ = some (.int .i64 a1_0):=(blk_cell BK205.out 0).trans rfl;have hcz16_1 : w13.cell? ⟨gb205,1,none⟩ = some (.int .i64 a1_1):=(blk_cell BK205.out 1).trans rfl;have hcz16_2 : w13.cell? ⟨gb205,2,none⟩ = some (.int .i64 a1_2):=(blk_cell BK205.out 2).trans rfl;have hcz16_3 : w13.cell? ⟨gb205,3,none⟩ = some (.int .i64 a1_3):=(blk_cell BK205.out 3).trans rfl;have hfz16_0:=blk_frozen BK205.out 0;have hfz16_1:=blk_frozen BK205.out 1;have hfz16_2:=blk_frozen BK205.out 2;have hfz16_3:=blk_frozen BK205.out 3)|((with_reducible refine gate_callee (f:=53) rfl ?_);refine goesL_ (some 14) rfl rfl Tryd.func53 (by kernel_rfl) rfl #[.agg #[.int .i64 a0_1,.int .i64 a0_2,.int .i64 a0_3],.agg #[.int .i64 a1_1,.int .i64 a1_2,.int .i64 a1_3]] rfl (by (try simp only [List.map_toArray,List.map_cons,List.map_nil]);first|done|rfl|(simp only [List.length_drop,List.length_take];rfl)) ?_;(with_reducible refine (laws_eqPay.calls a0_1 a0_2 a0_3 a1_1 a1_2 a1_3 false _ A4.out).mono ?_);rintro e w17 ⟨rfl,hb⟩;refine ⟨_,rfl,?_⟩;have n0_:=aM (blk_below (g:=gb204) (o:=.cells #[.int .i64 a0_0,.int .i64 a0_1,.int .i64 a0_2,.int .i64 a0_3] 48 (0,0)) (by (with_reducible repeat (first|refine blk_drewN ?_ _|refine blk_drew ?_|refine blk_alloc ?_ _));exact BK204.out) hb);have n1_:=aM (blk_below (g:=gb205) (o:=.cells #[.int .i64 a1_0,.int .i64 a1_1,.int .i64 a1_2,.int .i64 a1_3] 48 (0,0)) (by (with_reducible repeat (first|refine blk_drewN ?_ _|refine blk_drew ?_|refine blk_alloc ?_ _));exact BK205.out) hb);have n2_:=aM (below_step (by repeat (first|(with_reducible first|exact HB.out|apply bA|apply bN|apply bD|refine below_set ?_ GE204.out|refine below_set ?_ GE205.out)|exact HB.out)) hb);clear BK204;clear BK205;clear HB;have BK204:=n0_;have BK205:=n1_;have HB:=n2_;clear n0_ n1_ n2_;(try clear hb);(try clear hb2);(try clear hk);(try clear hi)))
   go_ret
   exact ⟨by first|rfl|(simp only [i64_w,i32_w];done)|(simp only [i64_w,i32_w];rfl)|(simp [errW_none,errW_some] <;> rfl)|(simp [*,errW_none,errW_some] <;> rfl),by repeat (first|(with_reducible first|exact HB.out|apply bA|apply bN|apply bD|refine below_set ?_ GE204.out|refine below_set ?_ GE205.out)|exact HB.out)⟩
 ·rw [if_neg c3] at H
  have c3b0 : (a0_0 == a1_0) = false:=beq_eq_false_iff_ne.mpr c3
  have c3b1 : (a0_0 != a1_0) = true:=bne_iff_ne.mpr c3
  obtain rfl:=Option.some.inj H
  go_enter Tryd.func36,Tryd.ntmps36
  go_wp2_with (first|((with_reducible refine gate_dst (N:=2) rfl ?_);refine box_event ?hg (N:=2) ?hd (cs:=#[.int .i64 a0_0,.int .i64 a0_1,.int .i64 a0_2,.int .i64 a0_3]) (t:=48) ?hr ?_;(case hd => rfl);(case hg => rfl);(case hr => first|(go_simp;done)|(go_simp;rfl));intro gb204 hg w18 hbox hb;have n0_:=aM (below_step (by repeat (first|(with_reducible first|exact HB.out|apply bA|apply bN|apply bD)|exact HB.out)) hb);have n1_:=aM (hbox);have n2_:=aM ((by rw [hg];exact (below_size (by repeat (first|(with_reducible first|exact HB.out|apply bA|apply bN|apply bD)|exact HB.out))) : w.heap.size ≤ gb204));have n3_:=aM ((by rw [hg];exact (below_size (by repeat (first|(with_reducible first|exact HB.out|apply bA|apply bN|apply bD)|exact HB.out))) : w.heap.size ≤ gb204));clear HB;have HB:=n0_;have BK204:=n1_;have GW204:=n2_;have GE204:=n3_;clear n0_ n1_ n2_ n3_;clear hb hbox hg)|((with_reducible refine gate_dst (N:=3) rfl ?_);refine box_event ?hg (N:=3) ?hd (cs:=#[.int .i64 a1_0,.int .i64 a1_1,.int .i64 a1_2,.int .i64 a1_3]) (t:=48) ?hr ?_;(case hd => rfl);(case hg => rfl);(case hr => first|(go_simp;done)|(go_simp;rfl));intro gb205 hg w19 hbox hb;have n0_:=aM (blk_below (g:=gb204) (o:=.cells #[.int .i64 a0_0,.int .i64 a0_1,.int .i64 a0_2,.int .i64 a0_3] 48 (0,0)) (by (with_reducible repeat (first|refine blk_drewN ?_ _|refine blk_drew ?_|refine blk_alloc ?_ _));exact BK204.out) hb);have n1_:=aM (below_step (by repeat (first|(with_reducible first|exact HB.out|apply bA|apply bN|apply bD|refine below_set ?_ GE204.out)|exact HB.out)) hb);have n2_:=aM (hbox);have n3_:=aM ((by rw [hg];exact (below_size (by repeat (first|(with_reducible first|exact HB.out|apply bA|apply bN|apply bD|refine below_set ?_ GE204.out)|exact HB.out))) : w.heap.size ≤ gb205));have n4_:=aM ((by rw [hg];exact (below_size (by repeat (first|(with_reducible first|exact HB.out|apply bA|apply bN|apply bD|refine below_set ?_ GE204.out)|exact HB.out))) : w.heap.size ≤ gb205));have n5_:=aM ((by rw [hg];exact Nat.ne_of_lt (blk_lt (g:=gb204) (o:=.cells #[.int .i64 a0_0,.int .i64 a0_1,.int .i64 a0_2,.int .i64 a0_3] 48 (0,0)) (by (with_reducible repeat (first|refine blk_drewN ?_ _|refine blk_drew ?_|refine blk_alloc ?_ _));exact BK204.out)) : gb204 ≠ gb205));have n6_:=aM ((by rw [hg];exact Nat.ne_of_gt (blk_lt (g:=gb204) (o:=.cells #[.int .i64 a0_0,.int .i64 a0_1,.int .i64 a0_2,.int .i64 a0_3] 48 (0,0)) (by (with_reducible repeat (first|refine blk_drewN ?_ _|refine blk_drew ?_|refine blk_alloc ?_ _));exact BK204.out)) : gb205 ≠ gb204));clear BK204;clear HB;have BK204:=n0_;have HB:=n1_;have BK205:=n2_;have GW205:=n3_;have GE205:=n4_;have NB204_205:=n5_;have NB205_204:=n6_;clear n0_ n1_ n2_ n3_ n4_ n5_ n6_;clear hb hbox hg;have hnb20:=NB204_205.out;have hnc20:=NB205_204.out;have hcz21_0 : w19.cell? ⟨gb204,0,none⟩ = some (.int .i64 a0_0):=(blk_cell BK204.out 0).trans rfl;have hcz21_1 : w19.cell? ⟨gb204,1,none⟩ = some (.int .i64 a0_1):=(blk_cell BK204.out 1).trans rfl;have hcz21_2 : w19.cell? ⟨gb204,2,none⟩ = some (.int .i64 a0_2):=(blk_cell BK204.out 2).trans rfl;have hcz21_3 : w19.cell? ⟨gb204,3,none⟩ = some (.int .i64 a0_3):=(blk_cell BK204.out 3).trans rfl;have hfz21_0:=blk_frozen BK204.out 0;have hfz21_1:=blk_frozen BK204.out 1;have hfz21_2:=blk_frozen BK204.out 2;have hfz21_3:=blk_frozen BK204.out 3;have hcz22_0 : w19.cell? ⟨gb205,0,none⟩ = some (.int .i64 a1_0):=(blk_cell BK205.out 0).trans rfl;have hcz22_1 : w19.cell? ⟨gb205,1,none⟩ = some (.int .i64 a1_1):=(blk_cell BK205.out 1).trans rfl;have hcz22_2 : w19.cell? ⟨gb205,2,none⟩ = some (.int .i64 a1_2):=(blk_cell BK205.out 2).trans rfl;have hcz22_3 : w19.cell? ⟨gb205,3,none⟩ = some (.int .i64 a1_3):=(blk_cell BK205.out 3).trans rfl;have hfz22_0:=blk_frozen BK205.out 0;have hfz22_1:=blk_frozen BK205.out 1;have hfz22_2:=blk_frozen BK205.out 2;have hfz22_3:=blk_frozen BK205.out 3))
  go_ret
  exact ⟨by first|rfl|(simp only [i64_w,i32_w];done)|(simp only [i64_w,i32_w];rfl)|(simp [errW_none,errW_some] <;> rfl)|(simp [*,errW_none,errW_some] <;> rfl),by repeat (first|(with_reducible first|exact HB.out|apply bA|apply bN|apply bD|refine below_set ?_ GE204.out|refine below_set ?_ GE205.out)|exact HB.out)⟩

end Go.Proofs.YthjpkfcejdddkaaDoor.P
