/- Contracts over rows whose capacity may have been cut. Conditions: each contract's own. -/
import Derived.Test.YtkkfokcbbhnjeaaPx0
import Derived.Test.YtkkfokcbbhnjeaaPx2
import Derived.Test.YtkkfokcbbhnjeaaPx3
import Derived.Test.YtkkfokcbbhnjeaaPx4
import Derived.Test.YtkkfokcbbhnjeaaPx5
import Derived.Test.YtkkfokcbbhnjeaaXLayer
namespace Go.Proofs.Ytkkfokcbbhnjeaa.P
open Go.RowKit Go.Proofs.YtkkfokcbbhnjeaaW.PrintWords Go.Proofs.YtkkfokcbbhnjeaaW.PrintLast Go.Proofs.YtkkfokcbbhnjeaaW.PrintMore
attribute [local go_sem] max2_int min2_int max_two min_two max_three min_three max_four min_four   -- for this text's walks alone
set_option linter.unusedVariables false
set_option linter.unusedSimpArgs false
structure S41 where
 f0 : Int
 f1 : Int
 f2 : Int
def z41 : S41:=⟨(0 : Int),(0 : Int),(0 : Int)⟩
def k41 : Kd S41:=Kd.iso (Kd.pair (Kd.int .i64) (Kd.pair (Kd.int .i64) (Kd.int .i64))) (fun x : S41 => (x.f0,x.f1,x.f2))
theorem k41_open {w : World} {x : S41} {cs : List Value} (h : k41.K w x cs) : cs = [.int .i64 x.f0,.int .i64 x.f1,.int .i64 x.f2]:=by
 obtain ⟨_,_,rfl,rfl,⟨_,_,rfl,rfl,rfl⟩⟩:=h
 exact rfl
theorem k41_openM {w : World} {base : Nat} {ok : Nat → Prop} {x : S41} {cs : List Value} (h : k41.M w base ok x cs) : cs = [.int .i64 x.f0,.int .i64 x.f1,.int .i64 x.f2]:=by
 obtain ⟨_,_,rfl,rfl,⟨_,_,rfl,rfl,rfl⟩⟩:=h
 exact rfl
theorem k41_mk (w : World) (x : S41)  : k41.K w x [.int .i64 x.f0,.int .i64 x.f1,.int .i64 x.f2]:=⟨[.int .i64 x.f0],[.int .i64 x.f1,.int .i64 x.f2],rfl,rfl,⟨[.int .i64 x.f1],[.int .i64 x.f2],rfl,rfl,rfl⟩⟩
theorem k41_mkM (w : World) (base : Nat) (ok : Nat → Prop) (x : S41)  : k41.M w base ok x [.int .i64 x.f0,.int .i64 x.f1,.int .i64 x.f2]:=⟨[.int .i64 x.f0],[.int .i64 x.f1,.int .i64 x.f2],rfl,rfl,⟨[.int .i64 x.f1],[.int .i64 x.f2],rfl,rfl,rfl⟩⟩
def rd_T41 (xs : List S41) (i : Int) : S41:=xs.getD i.toNat z41
theorem at_T41 {w : World} {A : Option Addr} {n : Nat} {xs : List S41} (h : Kd.C k41 w A n xs) (i : Int) (h0 : 0 ≤ i) (h1 : i < n) : ∃ ad ,A = some ad ∧ w.cell? (ad.add (i.toNat * 3)) = some (.int .i64 (rd_T41 xs i).f0) ∧ w.cell? ⟨(ad.add (i.toNat * 3)).block,(ad.add (i.toNat * 3)).off + 1,none⟩ = some (.int .i64 (rd_T41 xs i).f1) ∧ w.cell? ⟨(ad.add (i.toNat * 3)).block,(ad.add (i.toNat * 3)).off + 2,none⟩ = some (.int .i64 (rd_T41 xs i).f2):=by
 obtain ⟨ad,c,e,_,hK,hc0⟩:=Kd.C_get h z41 i h0 h1
 have hc : ∀ j u,c[j]? = some u → w.cell? (ad.add (i.toNat * 3 + j)) = some u:=hc0
 obtain rfl:=k41_open hK
 exact ⟨ad,e,hc 0 _ rfl,by rw [← add_field _ _ 1 (by omega)];exact hc 1 _ rfl,by rw [← add_field _ _ 2 (by omega)];exact hc 2 _ rfl⟩

def slices_Clip_int_int.f (l0 : List Int) : Option (List Int):=some l0
def impl_BookPay.j0 : Nat → List Int → Bool → Int → Int → Int → Option (List Int)
 | 0,_,_,_,_,_ => none
 | k + 1,x0,x13,x284000,x284001,x284002 => if x13 = true then (some ([] : List Int)) else ((slices_Clone_int_int.f x0).bind fun t286 => ((slices_Clip_int_int.f t286).bind fun t289 => ((impl_pay.f t289 x284000 x284001 x284002).bind fun t292 => (some t292))))
def impl_BookPay.f (k : Nat) (l0 : List Int) (a1_0 : Int) (a1_1 : Int) (a1_2 : Int) : Option (List Int):=(impl_BookOk.f k l0).bind fun t284 => (if t284 = true then ((impl_PayOk.f a1_0 a1_1 a1_2).bind fun t285 => (impl_BookPay.j0 k l0 (!t285) a1_0 a1_1 a1_2)) else (impl_BookPay.j0 k l0 true a1_0 a1_1 a1_2))
theorem impl_BookPay.mono_l : ∀ k,(∀ y0 y1 y2 y3 y4,LeO (impl_BookPay.j0 k y0 y1 y2 y3 y4) (impl_BookPay.j0 (k + 1) y0 y1 y2 y3 y4))
 | 0 => fun _ _ _ _ _ r h => by simp [impl_BookPay.j0] at h
 | k + 1 => by
  have ih0:=impl_BookPay.mono_l k
  ·intro y0 y1 y2 y3 y4
   unfold impl_BookPay.j0
   repeat' first
   | exact LeO.refl _
   | exact ih0 _ _ _ _ _
   | exact impl_BookOk.mono _ _
   | exact LeO.none _
   | refine LeO.ite ?_ ?_
   | refine LeO.bind ?_ (fun _ => ?_)
theorem impl_BookPay.mono : ∀ a0 a1 a2 a3 k,LeO (impl_BookPay.f k a0 a1 a2 a3) (impl_BookPay.f (k + 1) a0 a1 a2 a3):=by
 intro a0 a1 a2 a3 k
 have ih0:=impl_BookPay.mono_l k
 unfold impl_BookPay.f
 repeat' first
   | exact LeO.refl _
   | exact ih0 _ _ _ _ _
   | exact impl_BookOk.mono _ _
   | exact LeO.none _
   | refine LeO.ite ?_ ?_
   | refine LeO.bind ?_ (fun _ => ?_)
def laws_FnExactBookPay.j0 : Nat → List Int → List Int → List Int → Bool → Int → Int → Int → Option (Bool)
 | 0,_,_,_,_,_,_,_ => none
 | k + 1,x0,x5,x7,x45,x294000,x294001,x294002 => if x45 = true then (some false) else ((laws_markIntS.f k x7 1).bind fun bt320 => ((laws_heldIntS.f k bt320.2 1).bind fun t322 => (if t322 < 0 then (some false) else (if t322 = bt320.1 then ((laws_toIntS.f k x0).bind fun t323 => ((laws_toPay.f x294000 x294001 x294002).bind fun bt326 => ((impl_BookPay.f k t323 bt326.1 bt326.2.1 bt326.2.2).bind fun t329 => ((laws_eqIntS.f k t329 x5).bind fun t332 => (if t332 = true then ((laws_heldIntS.f k bt320.2 1).bind fun t333 => (if t333 < 0 then (some false) else (if t333 = bt320.1 then (some true) else (some false)))) else (some false)))))) else (some false)))))
def laws_FnExactBookPay.f (k : Nat) (l0 : List Int) (a1_0 : Int) (a1_1 : Int) (a1_2 : Int) : Option (Bool):=if (l0.length : Int) > 1048576 then (some true) else ((laws_toIntS.f k l0).bind fun t294 => ((laws_toPay.f a1_0 a1_1 a1_2).bind fun bt297 => ((spec_BookPay.f k t294 bt297.1 bt297.2.1 bt297.2.2).bind fun t300 => ((laws_toIntS.f k l0).bind fun t303 => ((laws_toPay.f a1_0 a1_1 a1_2).bind fun bt306 => ((impl_BookPay.f k t303 bt306.1 bt306.2.1 bt306.2.2).bind fun t309 => ((laws_eqIntS.f k t309 t300).bind fun t312 => (if t312 = true then ((laws_toIntS.f k l0).bind fun t313 => ((laws_eqIntS.f k t303 t313).bind fun t316 => (if t316 = true then ((laws_markIntS.f k t303 1).bind fun bt317 => (if bt317.1 < 0 then (laws_FnExactBookPay.j0 k l0 t300 t309 true a1_0 a1_1 a1_2) else ((laws_eqIntS.f k t309 t300).bind fun t319 => (laws_FnExactBookPay.j0 k l0 t300 t309 (!t319) a1_0 a1_1 a1_2)))) else (some false)))) else (some false)))))))))
theorem laws_FnExactBookPay.mono_l : ∀ k,(∀ y0 y1 y2 y3 y4 y5 y6,LeO (laws_FnExactBookPay.j0 k y0 y1 y2 y3 y4 y5 y6) (laws_FnExactBookPay.j0 (k + 1) y0 y1 y2 y3 y4 y5 y6))
 | 0 => fun _ _ _ _ _ _ _ r h => by simp [laws_FnExactBookPay.j0] at h
 | k + 1 => by
  have ih0:=laws_FnExactBookPay.mono_l k
  ·intro y0 y1 y2 y3 y4 y5 y6
   unfold laws_FnExactBookPay.j0
   repeat' first
   | (with_reducible exact ih0 _ _ _ _ _ _ _)
   | (with_reducible exact impl_BookPay.mono _ _ _ _ _)
   | (with_reducible exact laws_eqIntS.mono _ _ _)
   | (with_reducible exact laws_heldIntS.mono _ _ _)
   | (with_reducible exact laws_markIntS.mono _ _ _)
   | (with_reducible exact laws_toIntS.mono _ _)
   | (with_reducible exact spec_BookPay.mono _ _ _ _ _)
   | (with_reducible exact LeO.refl _)
   | (with_reducible exact LeO.none _)
   | (with_reducible refine LeO.ite ?_ ?_)
   | (with_reducible refine LeO.bind ?_ (fun _ => ?_))
   | exact ih0 _ _ _ _ _ _ _
   | exact impl_BookPay.mono _ _ _ _ _
   | exact laws_eqIntS.mono _ _ _
   | exact laws_heldIntS.mono _ _ _
   | exact laws_markIntS.mono _ _ _
   | exact laws_toIntS.mono _ _
   | exact spec_BookPay.mono _ _ _ _ _
   | exact LeO.none _
   | refine LeO.ite ?_ ?_
   | refine LeO.bind ?_ (fun _ => ?_)
theorem laws_FnExactBookPay.mono : ∀ a0 a1 a2 a3 k,LeO (laws_FnExactBookPay.f k a0 a1 a2 a3) (laws_FnExactBookPay.f (k + 1) a0 a1 a2 a3):=by
 intro a0 a1 a2 a3 k
 have ih0:=laws_FnExactBookPay.mono_l k
 unfold laws_FnExactBookPay.f
 repeat' first
   | (with_reducible exact ih0 _ _ _ _ _ _ _)
   | (with_reducible exact impl_BookPay.mono _ _ _ _ _)
   | (with_reducible exact laws_eqIntS.mono _ _ _)
   | (with_reducible exact laws_heldIntS.mono _ _ _)
   | (with_reducible exact laws_markIntS.mono _ _ _)
   | (with_reducible exact laws_toIntS.mono _ _)
   | (with_reducible exact spec_BookPay.mono _ _ _ _ _)
   | (with_reducible exact LeO.refl _)
   | (with_reducible exact LeO.none _)
   | (with_reducible refine LeO.ite ?_ ?_)
   | (with_reducible refine LeO.bind ?_ (fun _ => ?_))
   | exact ih0 _ _ _ _ _ _ _
   | exact impl_BookPay.mono _ _ _ _ _
   | exact laws_eqIntS.mono _ _ _
   | exact laws_heldIntS.mono _ _ _
   | exact laws_markIntS.mono _ _ _
   | exact laws_toIntS.mono _ _
   | exact spec_BookPay.mono _ _ _ _ _
   | exact LeO.none _
   | refine LeO.ite ?_ ?_
   | refine LeO.bind ?_ (fun _ => ?_)
/-- What is left to prove of laws_FnExactBookPay. -/
def laws_FnExactBookPay.Pure : Prop:=∀ (l0 : List Int) (a1_0 : Int) (a1_1 : Int) (a1_2 : Int),l0.length ≤ 9223372036854775807 → (∀ x,x ∈ l0 → (Lit.int .i64 x).wf = true) → ∃ k,laws_FnExactBookPay.f k l0 a1_0 a1_1 a1_2 = some true

end Go.Proofs.Ytkkfokcbbhnjeaa.P
namespace Go.Proofs.Ytkkfokcbbhnjeaa.PX
open Go.RowKit Go.Proofs.YtkkfokcbbhnjeaaW.PrintWords Go.Proofs.YtkkfokcbbhnjeaaW.PrintLast Go.Proofs.YtkkfokcbbhnjeaaW.PrintMore Go.Proofs.Ytkkfokcbbhnjeaa.P
attribute [local go_sem] max2_int min2_int max_two min_two max_three min_three max_four min_four   -- for this text's walks alone
set_option linter.unusedVariables false
set_option linter.unusedSimpArgs false
set_option maxHeartbeats 1000000 in
set_option maxRecDepth 100000 in
theorem x_clip_int (A : Option Addr) (n c : Nat) (w : World) (hn : n ≤ c) (hc : c ≤ 9223372036854775807) :
    Calls Try.prog 31 #[.slice A n c] w fun e w' => e = .returned (.slice A n n) ∧ w = w':=by
  go_enter Try.func31,Try.ntmps31
  go_wp2
  go_ret
  exact ⟨rfl,rfl⟩
theorem slices_Clip_int_int.calls (P0_ : Nat → Prop) (u9000_ : Value) (l0 : List Int) (r : List Int) (w0 w : World) (hB : Below w0.heap.size w0 w) (ho0 : Kd.R (Kd.int .i64) 3 w w0.heap.size P0_ u9000_ l0) (h : slices_Clip_int_int.f l0 = some r) :
    Calls Try.prog 31 #[u9000_] w fun e w' => ∃ v0_ : Value,e = .returned (v0_) ∧ Kd.R (Kd.int .i64) 3 w' w0.heap.size (fun k_ => (P0_ k_ ∨ w.heap.size ≤ k_)) v0_ r ∧ Below w0.heap.size w0 w' ∧ Kept w w' (fun k_ => P0_ k_):=by
  have hr : l0 = r:=Option.some.inj h
  subst hr
  obtain ⟨A,c,rfl⟩:=Kd.R_slice ho0
  have hcap:=Kd.cap_le ho0
  obtain ⟨_,hl,_⟩:=Kd.R_reads' ho0
  refine (x_clip_int A l0.length c w hl hcap).mono ?_
  rintro e w' ⟨rfl,rfl⟩
  exact ⟨_,rfl,Kd.R_mono (Kd.clip ho0 (Nat.le_refl _) hl) (fun _ hk => .inl hk),hB,Kept.refl _ _⟩
theorem laws_toIntS.calls (k : Nat) (A0 : Option Addr) (c0 : Nat) (l0 : List Int) (r : List Int) (w : World) (hr0 : Kd.C (Kd.int .i64) w A0 l0.length l0) (hc0 : l0.length ≤ c0) (h : laws_toIntS.f k l0 = some r) :
    Calls Try.prog 26 #[.slice A0 l0.length c0] w fun e w' => ∃ v0_ : Value,e = .returned (v0_) ∧ Kd.R (Kd.int .i64) 3 w' w.heap.size (fun _ => True) v0_ r ∧ Below w.heap.size w w':=by
  refine (Go.Proofs.Ytkkfokcbbhnjeaa.P.laws_toIntS.calls k A0 c0 l0 r w hr0 hc0 h).mono ?_
  rintro e w' ⟨v0,he,h0,hb⟩
  exact ⟨_,he,Kd.of_R h0,hb⟩
theorem slices_Clone_int_int.calls (A0 : Option Addr) (c0 : Nat) (l0 : List (Int)) (r : List (Int)) (w : World) (hr0 : Kd.C (Kd.int .i64) w A0 l0.length l0) (hc0 : l0.length ≤ c0) (h : slices_Clone_int_int.f l0 = some r) :
    Calls Try.prog 49 #[.slice A0 l0.length c0] w fun e w' => ∃ v0_ : Value,e = .returned (v0_) ∧ Kd.R (Kd.int .i64) 3 w' w.heap.size (fun _ => True) v0_ r ∧ Below w.heap.size w w':=by
  refine (Go.Proofs.Ytkkfokcbbhnjeaa.P.slices_Clone_int_int.calls A0 c0 l0 r w hr0 hc0 h).mono ?_
  rintro e w' ⟨v0,he,h0,hb⟩
  exact ⟨_,he,Kd.of_R h0,hb⟩
theorem spec_BookPay.calls (k : Nat) (A0 : Option Addr) (c0 : Nat) (l0 : List Int) (a1_0 : Int) (a1_1 : Int) (a1_2 : Int) (r : List Int) (w : World) (hr0 : Kd.C (Kd.int .i64) w A0 l0.length l0) (hc0 : l0.length ≤ c0) (h : spec_BookPay.f k l0 a1_0 a1_1 a1_2 = some r) :
    Calls Try.prog 25 #[.slice A0 l0.length c0,.agg #[.int .i64 a1_0,.int .i64 a1_1,.int .i64 a1_2]] w fun e w' => ∃ v0_ : Value,e = .returned (v0_) ∧ Kd.R (Kd.int .i64) 3 w' w.heap.size (fun _ => True) v0_ r ∧ Below w.heap.size w w':=by
  refine (Go.Proofs.Ytkkfokcbbhnjeaa.P.spec_BookPay.calls k A0 c0 l0 a1_0 a1_1 a1_2 r w hr0 hc0 h).mono ?_
  rintro e w' ⟨v0,he,h0,hb⟩
  exact ⟨_,he,Kd.of_R h0,hb⟩
set_option maxHeartbeats 8000000 in
set_option maxRecDepth 100000 in
theorem impl_pay.calls (P0_ : Nat → Prop) (u9000_ : Value) (l0 : List Int) (a1_0 : Int) (a1_1 : Int) (a1_2 : Int) (r : List Int) (w0 w : World) (hB : Below w0.heap.size w0 w) (ho0 : Kd.R (Kd.int .i64) 3 w w0.heap.size P0_ u9000_ l0) (h : impl_pay.f l0 a1_0 a1_1 a1_2 = some r) :
  Calls Try.prog 50 #[u9000_,.agg #[.int .i64 a1_0,.int .i64 a1_1,.int .i64 a1_2]] w fun e w' => e = .returned (.tuple #[]) ∧ Kd.R (Kd.int .i64) 3 w' w0.heap.size (fun k_ => (P0_ k_ ∨ w.heap.size ≤ k_)) u9000_ r ∧ Below w0.heap.size w0 w' ∧ Kept w w' (fun k_ => P0_ k_):=by
 have hu44:=Try.underlying44
 have HO0:=aM (show Kd.R (Kd.int .i64) 3 w w0.heap.size (fun k_ => (P0_ k_ ∨ w.heap.size ≤ k_)) u9000_ l0 from Kd.R_mono ho0 (fun k_ hk => (.inl hk)))
 have HK:=aM (Kept.refl w (fun k_ => P0_ k_))
 have HW0:=aM hB.size
 have HB:=aM hB
 clear hB
 have H : (if 0 ≤ (wrap64 (a1_0 - 1)) then (if (wrap64 (a1_0 - 1)) < (l0.length : Int) then (if (rd l0 (wrap64 (a1_0 - 1))) ≥ a1_2 then ((some (l0.set ((wrap64 (a1_0 - 1)) : Int).toNat (wrap64 ((rd l0 (wrap64 (a1_0 - 1))) - a1_2)) : List Int)).bind fun y280 => (if 0 ≤ (wrap64 (a1_1 - 1)) then (if (wrap64 (a1_1 - 1)) < (l0.length : Int) then (some (y280.set ((wrap64 (a1_1 - 1)) : Int).toNat (wrap64 ((rd y280 (wrap64 (a1_1 - 1))) + a1_2)))) else (none)) else (none))) else (some l0)) else (none)) else (none)) = some r:=h
 clear h
 obtain ⟨ji3,hji3⟩ : ∃ j_ : Int,(wrap64 (a1_0 - 1)) = j_:=⟨_,rfl⟩
 replace H : (if 0 ≤ (ji3) then (if (ji3) < (l0.length : Int) then (if (rd l0 (ji3)) ≥ a1_2 then ((some (l0.set ((ji3) : Int).toNat (wrap64 ((rd l0 (ji3)) - a1_2)) : List Int)).bind fun y280 => (if 0 ≤ (wrap64 (a1_1 - 1)) then (if (wrap64 (a1_1 - 1)) < (l0.length : Int) then (some (y280.set ((wrap64 (a1_1 - 1)) : Int).toNat (wrap64 ((rd y280 (wrap64 (a1_1 - 1))) + a1_2)))) else (none)) else (none))) else (some l0)) else (none)) else (none)) = some r:=by first|(rw [hji3] at H;exact H)|(simp only [hji3] at H ⊢;exact H)
 have hji3w : (IntKind.i64.wrap (a1_0 - 1)) = ji3:=(i64_w _).trans hji3
 by_cases c4 : 0 ≤ (ji3)
 case neg => rw [if_neg c4] at H;exact absurd H (by simp)
 rw [if_pos c4] at H
 have c4b0 : decide (0 ≤ (ji3)) = true:=decide_eq_true c4
 clear c4
 by_cases c5 : (ji3) < (l0.length : Int)
 case neg => rw [if_neg c5] at H;exact absurd H (by simp)
 rw [if_pos c5] at H
 have c5b0 : decide ((ji3) < (l0.length : Int)) = true:=decide_eq_true c5
 clear c5
 by_cases c6 : (rd l0 (ji3)) ≥ a1_2
 ·rw [if_pos c6] at H
  have c6b0 : decide (a1_2 ≤ (rd l0 (ji3))) = true:=decide_eq_true c6
  clear c6
  obtain ⟨y280,hy280⟩ : ∃ y_ : List Int,y_ = (l0.set ((ji3) : Int).toNat (wrap64 ((rd l0 (ji3)) - a1_2))):=⟨_,rfl⟩
  replace H : (if 0 ≤ (wrap64 (a1_1 - 1)) then (if (wrap64 (a1_1 - 1)) < (l0.length : Int) then (some (y280.set ((wrap64 (a1_1 - 1)) : Int).toNat (wrap64 ((rd y280 (wrap64 (a1_1 - 1))) + a1_2)))) else (none)) else (none)) = some r:=by first|(rw [hy280];with_reducible exact H)|(have H2_:=(Option.bind_some _ _).symm.trans H;rw [hy280];with_reducible exact H2_)|(have H2_:=(Option.bind_some _ _).symm.trans H;with_reducible exact H2_)|with_reducible exact H|(rw [hy280];exact H)|exact H
  have Ny280:=aM hy280
  clear hy280
  obtain ⟨ji8,hji8⟩ : ∃ j_ : Int,(wrap64 (a1_1 - 1)) = j_:=⟨_,rfl⟩
  replace H : (if 0 ≤ (ji8) then (if (ji8) < (l0.length : Int) then (some (y280.set ((ji8) : Int).toNat (wrap64 ((rd y280 (ji8)) + a1_2)))) else (none)) else (none)) = some r:=by first|(rw [hji8] at H;exact H)|(simp only [hji8] at H ⊢;exact H)
  have hji8w : (IntKind.i64.wrap (a1_1 - 1)) = ji8:=(i64_w _).trans hji8
  by_cases c9 : 0 ≤ (ji8)
  case neg => rw [if_neg c9] at H;exact absurd H (by simp)
  rw [if_pos c9] at H
  have c9b0 : decide (0 ≤ (ji8)) = true:=decide_eq_true c9
  clear c9
  by_cases c10 : (ji8) < (l0.length : Int)
  case neg => rw [if_neg c10] at H;exact absurd H (by simp)
  rw [if_pos c10] at H
  have c10b0 : decide ((ji8) < (l0.length : Int)) = true:=decide_eq_true c10
  clear c10
  obtain ⟨y282,hy282⟩ : ∃ y_ : List Int,y_ = (y280.set ((ji8) : Int).toNat (wrap64 ((rd y280 (ji8)) + a1_2))):=⟨_,rfl⟩
  replace H : (some y282) = some r:=by first|(rw [hy282];with_reducible exact H)|(have H2_:=(Option.bind_some _ _).symm.trans H;rw [hy282];with_reducible exact H2_)|(have H2_:=(Option.bind_some _ _).symm.trans H;with_reducible exact H2_)|with_reducible exact H|(rw [hy282];exact H)|exact H
  have Ny282:=aM hy282
  clear hy282
  obtain rfl:=Option.some.inj H
  go_enter Try.func50,Try.ntmps50
  try go_wp2_with (first|((with_reducible refine gate_dst (N:=3) rfl ?_);refine box_event ?hg (N:=3) ?hd (cs:=#[.int .i64 a1_0,.int .i64 a1_1,.int .i64 a1_2]) (t:=44) ?hr ?_;(case hd => rfl);(case hg => rfl);(case hr => first|(go_simp;done)|(go_simp;rfl));intro gb277 hg w12 hbox hb;have n0_:=aM (Kd.R_below (by (with_reducible repeat (first|apply Kd.R_alloc|apply Kd.R_drewN|apply Kd.R_drew));exact HO0.out) hb);have n1_:=aM (Kept.below (S:=(fun k_ => P0_ k_)) (by repeat (first|(with_reducible first|exact HK.out|apply Kept.alloc|apply Kept.drewN|apply Kept.drew)|exact HK.out)) hb);have n2_:=aM (below_step (by repeat (first|(with_reducible first|exact HB.out|apply bA|apply bN|apply bD)|exact HB.out)) hb);have n3_:=aM (hbox);have n4_:=aM ((by rw [hg];exact (by first|exact HK.out.1|exact (show Kept w _ (fun k_ => P0_ k_) from by repeat (first|(with_reducible first|exact HK.out|apply Kept.alloc|apply Kept.drewN|apply Kept.drew)|exact HK.out)).1) : w.heap.size ≤ gb277));have n5_:=aM ((by rw [hg];exact (below_size (by repeat (first|(with_reducible first|exact HB.out|apply bA|apply bN|apply bD)|exact HB.out))) : w0.heap.size ≤ gb277));clear HO0;clear HK;clear HB;have HO0:=n0_;have HK:=n1_;have HB:=n2_;have BK277:=n3_;have GW277:=n4_;have GE277:=n5_;clear n0_ n1_ n2_ n3_ n4_ n5_;clear hb hbox hg))
  have n0_:=aM (Kd.R_drew HO0.out)
  have n1_:=aM (blk_drew BK277.out)
  have n2_:=aM (Kept.drew HK.out)
  have n3_:=aM (bD HB.out)
  clear HO0
  clear BK277
  clear HK
  clear HB
  have HO0:=n0_
  have BK277:=n1_
  have HK:=n2_
  have HB:=n3_
  clear n0_ n1_ n2_ n3_
  obtain ⟨Ao14,co14,eo14⟩:=Kd.R_slice HO0.out
  (first|subst eo14|(injection eo14 with f1_ f2_ f3_;have f4_:=f1_.symm;have f5_:=f3_.symm;clear f1_ f2_ f3_;subst f4_;subst f5_))
  have p278 : 0 ≤ ((ji3) : Int):=of_decide_eq_true (by first|(with_reducible assumption)|assumption)
  have q278 : (ji3) < (l0.length : Int):=of_decide_eq_true (by first|(with_reducible assumption)|assumption)
  obtain ⟨ad278,e278,hx278_0⟩:=Kd.at_int (Kd.R_reads' HO0.out).2.2 (ji3) p278 q278
  cases e278
  replace p278:=eq_true p278
  replace q278:=eq_true q278
  refine start_ (n:=9) (S:=fun w' => w'.cell? ⟨gb277,0,none⟩ = some (.int .i64 a1_0) ∧ w'.cell? ⟨gb277,1,none⟩ = some (.int .i64 a1_1) ∧ w'.cell? ⟨gb277,2,none⟩ = some (.int .i64 a1_2) ∧ w'.cell? (ad278.add ((ji3)).toNat) = some (.int .i64 (rd l0 (ji3)))) (ds:=[]) #[bF,bF,bF,bF,bF,bF,bF,bF,bF] (by kernel_rfl) rfl rfl ⟨(blk_cell BK277.out 0).trans rfl,(blk_cell BK277.out 1).trans rfl,(blk_cell BK277.out 2).trans rfl,hx278_0⟩ (fun hHeld => ?_);refine with_tabW impl_pay.tab1 impl_pay.bits1 (fun HT_ HW_ => ?_)
  generalize w12.drew = w13 at HO0 BK277 HK HB hx278_0 hHeld ⊢
  refine pure_ (i:=0) (N:=some 4) (v:=?_) (a':=?_) #[bT,bF,bF,bF,bF,bF,bF,bF,bF] rfl rfl (any_of HT_.out (by kernel_rfl)) (fun _ _ _ h => h) (Or.inl ⟨by rfl,?_⟩) ?_ ?_
  rotate_left;(· intro w';go_simp;with_reducible rfl);rotate_left;(· simp only [Act.put,sI,sZ,sS,i64_w,i32_w];rfl)
  refine pure_ (i:=1) (N:=some 5) (v:=?_) (a':=?_) #[bT,bT,bF,bF,bF,bF,bF,bF,bF] rfl rfl (any_of HT_.out (by kernel_rfl)) (fun _ _ _ h => h) (Or.inl ⟨by rfl,?_⟩) ?_ ?_
  rotate_left;(· intro w';go_simp;with_reducible rfl);rotate_left;(· simp only [Act.put,sI,sZ,sS,i64_w,i32_w];rfl)
  refine pure_ (i:=6) (N:=some 10) (v:=?_) (a':=?_) #[bT,bT,bF,bF,bF,bF,bT,bF,bF] rfl rfl (any_of HT_.out (by kernel_rfl)) (fun _ _ _ h => h) (Or.inl ⟨by rfl,?_⟩) ?_ ?_
  rotate_left;(· intro w';go_simp;with_reducible rfl);rotate_left;(· simp only [Act.put,sI,sZ,sS,i64_w,i32_w];rfl)
  refine take_ (i:=2) (N:=some 6) (v:=?_) (a':=?_) #[bT,bT,bT,bF,bF,bF,bT,bF,bF] rfl rfl (take_ofW HT_.out HW_.out (by kernel_rfl)) (fun _ _ _ h => h) (Or.inl ⟨by rfl,?_⟩) hHeld ?_ ?_
  rotate_left
  ·rintro w' ⟨s0,s1,s2,s3⟩
   (try simp only [Int.toNat_natCast] at s0 s1 s2 s3)
   go_simp
   with_reducible rfl
  rotate_left
  ·simp only [Act.put,sI,sZ,sS,i64_w,i32_w]
   rfl
  refine pure_ (i:=3) (N:=some 7) (v:=?_) (a':=?_) #[bT,bT,bT,bT,bF,bF,bT,bF,bF] rfl rfl (any_of HT_.out (by kernel_rfl)) (fun _ _ _ h => h) (Or.inl ⟨by rfl,?_⟩) ?_ ?_
  rotate_left;(· intro w';go_simp;with_reducible rfl);rotate_left;(· simp only [Act.put,sI,sZ,sS,i64_w,i32_w];rfl)
  refine pure_ (i:=4) (N:=some 8) (v:=?_) (a':=?_) #[bT,bT,bT,bT,bT,bF,bT,bF,bF] rfl rfl (any_of HT_.out (by kernel_rfl)) (fun _ _ _ h => h) (Or.inl ⟨by rfl,?_⟩) ?_ ?_
  rotate_left;(· intro w';go_simp;with_reducible rfl);rotate_left;(· simp only [Act.put,sI,sZ,sS,i64_w,i32_w];rfl)
  refine take_ (i:=5) (N:=some 9) (v:=?_) (a':=?_) #[bT,bT,bT,bT,bT,bT,bT,bF,bF] rfl rfl (take_ofW HT_.out HW_.out (by kernel_rfl)) (fun _ _ _ h => h) (Or.inl ⟨by rfl,?_⟩) hHeld ?_ ?_
  rotate_left
  ·rintro w' ⟨s0,s1,s2,s3⟩
   (try simp only [Int.toNat_natCast] at s0 s1 s2 s3)
   go_simp
   with_reducible rfl
  rotate_left
  ·simp only [Act.put,sI,sZ,sS,i64_w,i32_w]
   rfl
  refine take_ (i:=7) (N:=some 11) (v:=?_) (a':=?_) #[bT,bT,bT,bT,bT,bT,bT,bT,bF] rfl rfl (take_ofW HT_.out HW_.out (by kernel_rfl)) (fun _ _ _ h => h) (Or.inl ⟨by rfl,?_⟩) hHeld ?_ ?_
  rotate_left
  ·rintro w' ⟨s0,s1,s2,s3⟩
   (try simp only [Int.toNat_natCast] at s0 s1 s2 s3)
   go_simp
   with_reducible rfl
  rotate_left
  ·simp only [Act.put,sI,sZ,sS,i64_w,i32_w]
   rfl
  refine pure_ (i:=8) (N:=some 12) (v:=?_) (a':=?_) #[bT,bT,bT,bT,bT,bT,bT,bT,bT] rfl rfl (any_of HT_.out (by kernel_rfl)) (fun _ _ _ h => h) (Or.inl ⟨by rfl,?_⟩) ?_ ?_
  rotate_left;(· intro w';go_simp;with_reducible rfl);rotate_left;(· simp only [Act.put,sI,sZ,sS,i64_w,i32_w];rfl)
  refine done_ (done_of HT_.out (by kernel_rfl)) ?_
  try go_wp2
  have n0_:=aM (Kd.R_drew HO0.out)
  have n1_:=aM (blk_drew BK277.out)
  have n2_:=aM (Kept.drew HK.out)
  have n3_:=aM (bD HB.out)
  clear HO0
  clear BK277
  clear HK
  clear HB
  have HO0:=n0_
  have BK277:=n1_
  have HK:=n2_
  have HB:=n3_
  clear n0_ n1_ n2_ n3_
  have p279 : 0 ≤ ((ji3) : Int):=of_decide_eq_true (by first|(with_reducible assumption)|assumption)
  have q279 : (ji3) < (l0.length : Int):=of_decide_eq_true (by first|(with_reducible assumption)|assumption)
  obtain ⟨ad279,e279,hx279_0⟩:=Kd.at_int (Kd.R_reads' HO0.out).2.2 (ji3) p279 q279
  obtain rfl : ad278 = ad279:=(by injection e279)
  replace p279:=eq_true p279
  replace q279:=eq_true q279
  have p7 : 0 ≤ ((ji3) : Int):=of_decide_eq_true (by first|(with_reducible assumption)|assumption)
  have q7 : ((ji3) : Int) < ((l0.length : Int) : Int):=of_decide_eq_true (by first|(with_reducible assumption)|assumption)
  obtain ⟨go7,co7,eo7,gb7,gl7,cl7,HG7⟩:=Kd.R_form HO0.out (by omega)
  (first|cases eo7|(injection eo7 with ea_ en_ ec_;(first|subst ea_|(injection ea_ with ea_;subst ea_));subst ec_;clear en_))
  have GB7:=aM gb7
  have GG7:=aM HG7
  clear gb7 gl7 HG7
  have HMgo7:=aM (show (P0_ go7 ∨ w.heap.size ≤ go7) from (Kd.R_own1 HO0.out _ rfl))
  (first|simp only [add_plain] at hx278_0|skip)
  (first|simp only [add_plain] at hx279_0|skip)
  obtain ⟨hx7_0,hf7_0⟩:=Kd.R_celln 0 HO0.out ((ji3) : Int) p7 q7
  replace p7:=eq_true p7
  replace q7:=eq_true q7
  have HP16:=Kd.R_putn HO0.out ((ji3) : Int) (wrap64 ((rd l0 (ji3)) - a1_2))
  rw [← Ny280.out] at HP16
  have HQ16:=aM HP16
  clear HP16
  refine start_ (n:=11) (S:=fun w' => w'.cell? ⟨gb277,0,none⟩ = some (.int .i64 a1_0) ∧ w'.cell? ⟨gb277,1,none⟩ = some (.int .i64 a1_1) ∧ w'.cell? ⟨gb277,2,none⟩ = some (.int .i64 a1_2) ∧ w'.cell? ⟨go7,((ji3)).toNat,none⟩ = some (.int .i64 (rd l0 (ji3)))) (ds:=[10]) #[bF,bF,bF,bF,bF,bF,bF,bF,bF,bF,bF] (by kernel_rfl) rfl rfl ⟨(blk_cell BK277.out 0).trans rfl,(blk_cell BK277.out 1).trans rfl,(blk_cell BK277.out 2).trans rfl,hx279_0⟩ (fun hHeld => ?_);refine with_tabW impl_pay.tab2 impl_pay.bits2 (fun HT_ HW_ => ?_)
  generalize w13.drew = w15 at HO0 BK277 HK HB GG7 HQ16 hf7_0 hx278_0 hx279_0 hx7_0 hHeld ⊢
  refine pure_ (i:=0) (N:=some 13) (v:=?_) (a':=?_) #[bT,bF,bF,bF,bF,bF,bF,bF,bF,bF,bF] rfl rfl (any_of HT_.out (by kernel_rfl)) (fun _ _ _ h => h) (Or.inl ⟨by rfl,?_⟩) ?_ ?_
  rotate_left;(· intro w';go_simp;with_reducible rfl);rotate_left;(· simp only [Act.put,sI,sZ,sS,i64_w,i32_w];rfl)
  refine pure_ (i:=1) (N:=some 14) (v:=?_) (a':=?_) #[bT,bT,bF,bF,bF,bF,bF,bF,bF,bF,bF] rfl rfl (any_of HT_.out (by kernel_rfl)) (fun _ _ _ h => h) (Or.inl ⟨by rfl,?_⟩) ?_ ?_
  rotate_left;(· intro w';go_simp;with_reducible rfl);rotate_left;(· simp only [Act.put,sI,sZ,sS,i64_w,i32_w];rfl)
  refine pure_ (i:=6) (N:=some 19) (v:=?_) (a':=?_) #[bT,bT,bF,bF,bF,bF,bT,bF,bF,bF,bF] rfl rfl (any_of HT_.out (by kernel_rfl)) (fun _ _ _ h => h) (Or.inl ⟨by rfl,?_⟩) ?_ ?_
  rotate_left;(· intro w';go_simp;with_reducible rfl);rotate_left;(· simp only [Act.put,sI,sZ,sS,i64_w,i32_w];rfl)
  refine take_ (i:=2) (N:=some 15) (v:=?_) (a':=?_) #[bT,bT,bT,bF,bF,bF,bT,bF,bF,bF,bF] rfl rfl (take_ofW HT_.out HW_.out (by kernel_rfl)) (fun _ _ _ h => h) (Or.inl ⟨by rfl,?_⟩) hHeld ?_ ?_
  rotate_left
  ·rintro w' ⟨s0,s1,s2,s3⟩
   (try simp only [Int.toNat_natCast] at s0 s1 s2 s3)
   go_simp
   with_reducible rfl
  rotate_left
  ·simp only [Act.put,sI,sZ,sS,i64_w,i32_w]
   rfl
  refine pure_ (i:=3) (N:=some 16) (v:=?_) (a':=?_) #[bT,bT,bT,bT,bF,bF,bT,bF,bF,bF,bF] rfl rfl (any_of HT_.out (by kernel_rfl)) (fun _ _ _ h => h) (Or.inl ⟨by rfl,?_⟩) ?_ ?_
  rotate_left;(· intro w';go_simp;with_reducible rfl);rotate_left;(· simp only [Act.put,sI,sZ,sS,i64_w,i32_w];rfl)
  refine pure_ (i:=4) (N:=some 17) (v:=?_) (a':=?_) #[bT,bT,bT,bT,bT,bF,bT,bF,bF,bF,bF] rfl rfl (any_of HT_.out (by kernel_rfl)) (fun _ _ _ h => h) (Or.inl ⟨by rfl,?_⟩) ?_ ?_
  rotate_left;(· intro w';go_simp;with_reducible rfl);rotate_left;(· simp only [Act.put,sI,sZ,sS,i64_w,i32_w];rfl)
  refine take_ (i:=5) (N:=some 18) (v:=?_) (a':=?_) #[bT,bT,bT,bT,bT,bT,bT,bF,bF,bF,bF] rfl rfl (take_ofW HT_.out HW_.out (by kernel_rfl)) (fun _ _ _ h => h) (Or.inl ⟨by rfl,?_⟩) hHeld ?_ ?_
  rotate_left
  ·rintro w' ⟨s0,s1,s2,s3⟩
   (try simp only [Int.toNat_natCast] at s0 s1 s2 s3)
   go_simp
   with_reducible rfl
  rotate_left
  ·simp only [Act.put,sI,sZ,sS,i64_w,i32_w]
   rfl
  refine take_ (i:=7) (N:=some 20) (v:=?_) (a':=?_) #[bT,bT,bT,bT,bT,bT,bT,bT,bF,bF,bF] rfl rfl (take_ofW HT_.out HW_.out (by kernel_rfl)) (fun _ _ _ h => h) (Or.inl ⟨by rfl,?_⟩) hHeld ?_ ?_
  rotate_left
  ·rintro w' ⟨s0,s1,s2,s3⟩
   (try simp only [Int.toNat_natCast] at s0 s1 s2 s3)
   go_simp
   with_reducible rfl
  rotate_left
  ·simp only [Act.put,sI,sZ,sS,i64_w,i32_w]
   rfl
  refine pure_ (i:=8) (N:=some 21) (v:=?_) (a':=?_) #[bT,bT,bT,bT,bT,bT,bT,bT,bT,bF,bF] rfl rfl (any_of HT_.out (by kernel_rfl)) (fun _ _ _ h => h) (Or.inl ⟨by rfl,?_⟩) ?_ ?_
  rotate_left;(· intro w';go_simp;with_reducible rfl);rotate_left;(· simp only [Act.put,sI,sZ,sS,i64_w,i32_w];rfl)
  refine pure_ (i:=9) (N:=some 22) (v:=?_) (a':=?_) #[bT,bT,bT,bT,bT,bT,bT,bT,bT,bT,bF] rfl rfl (any_of HT_.out (by kernel_rfl)) (fun _ _ _ h => h) (Or.inl ⟨by rfl,?_⟩) ?_ ?_
  rotate_left;(· intro w';go_simp;with_reducible rfl);rotate_left;(· simp only [Act.put,sI,sZ,sS,i64_w,i32_w];rfl)
  refine last_ (i:=10) (N:=none) #[bT,bT,bT,bT,bT,bT,bT,bT,bT,bT,bT] rfl rfl (one_of HT_.out (by kernel_rfl)) (by decide) (fun K hK => ?_)
  refine skip_ (w1:=?_) (by rfl) rfl ?_ ?_
  rotate_left
  ·go_simp
   rfl
  refine hK.out _ _ ?_
  clear hK K
  refine done_ (done_of HT_.out (by kernel_rfl)) ?_
  try go_wp2
  have n0_ : Aside0 (Kd.R (Kd.int .i64) 3 (w15.setCell ⟨go7,((ji3) : Int).toNat,none⟩ (.int .i64 (wrap64 ((rd l0 (ji3)) - a1_2)))) w0.heap.size (fun k_ => (P0_ k_ ∨ w.heap.size ≤ k_)) (.slice (some ⟨go7,0,none⟩) l0.length co14) y280):=⟨by (with_reducible repeat (first|apply Kd.R_alloc|apply Kd.R_drewN|apply Kd.R_drew));exact HQ16.out⟩
  have n1_ : Aside0 ((w15.setCell ⟨go7,((ji3) : Int).toNat,none⟩ (.int .i64 (wrap64 ((rd l0 (ji3)) - a1_2)))).heap[gb277]? = some (.cells #[.int .i64 a1_0,.int .i64 a1_1,.int .i64 a1_2] 44 (0,0))):=⟨by (with_reducible repeat (first|refine blk_drewN ?_ _|refine blk_drew ?_|refine blk_alloc ?_ _));refine blk_far ?_ (by have h_:=Kd.R_ne HO0.out BK277.out (by decide);intro e_;exact h_ (by rw [e_];rfl)) _;(with_reducible repeat (first|refine blk_drewN ?_ _|refine blk_drew ?_|refine blk_alloc ?_ _));exact BK277.out⟩
  have n2_ : Aside0 (Kept w (w15.setCell ⟨go7,((ji3) : Int).toNat,none⟩ (.int .i64 (wrap64 ((rd l0 (ji3)) - a1_2)))) (fun k_ => P0_ k_)):=⟨by repeat (first|(with_reducible first|exact HK.out|apply Kept.alloc|apply Kept.drewN|apply Kept.drew|refine Kept.setCell ?_ HMgo7.out _|refine Kept.setCell ?_ (.inr GW277.out) _)|exact HK.out)⟩
  have n3_ : Aside0 (Below w0.heap.size w0 (w15.setCell ⟨go7,((ji3) : Int).toNat,none⟩ (.int .i64 (wrap64 ((rd l0 (ji3)) - a1_2))))):=⟨by repeat (first|(with_reducible first|exact HB.out|apply bA|apply bN|apply bD|refine below_set ?_ GB7.out|refine below_set ?_ GE277.out)|exact HB.out)⟩
  (try clear HO0)
  (try clear BK277)
  (try clear HK)
  (try clear HB)
  generalize (w15.setCell ⟨go7,((ji3) : Int).toNat,none⟩ (.int .i64 (wrap64 ((rd l0 (ji3)) - a1_2)))) = w17 at n0_ n1_ n2_ n3_ ⊢
  have HO0:=n0_
  have BK277:=n1_
  have HK:=n2_
  have HB:=n3_
  clear n0_ n1_ n2_ n3_
  have n0_:=aM (Kd.R_drew HO0.out)
  have n1_:=aM (blk_drew BK277.out)
  have n2_:=aM (Kept.drew HK.out)
  have n3_:=aM (bD HB.out)
  clear HO0
  clear BK277
  clear HK
  clear HB
  have HO0:=n0_
  have BK277:=n1_
  have HK:=n2_
  have HB:=n3_
  clear n0_ n1_ n2_ n3_
  have p281 : 0 ≤ ((ji8) : Int):=of_decide_eq_true (by first|(with_reducible assumption)|assumption)
  have q281 : (ji8) < (y280.length : Int):=(by have h_ : ((ji8) : Int) < ((l0.length : Int) : Int):=of_decide_eq_true (by first|(with_reducible assumption)|assumption);first|(have e_:=(Kd.R_reads' HO0.out).1;omega)|simpa only [Ny280.out,List.length_set] using h_)
  have ql281 : (((ji8) : Int) < ((l0.length : Int) : Int)) = True:=eq_true (of_decide_eq_true (by first|(with_reducible assumption)|assumption))
  obtain ⟨ad281,e281,hx281_0⟩:=Kd.at_int (Kd.R_reads' HO0.out).2.2 (ji8) p281 q281
  obtain rfl : (⟨go7,0,none⟩ : Addr) = ad281:=(by injection e281)
  (first|simp only [add_plain] at hx281_0|simp only [add_at] at hx281_0|simp only [Addr.add,Nat.zero_add] at hx281_0|skip)
  replace p281:=eq_true p281
  replace q281:=eq_true q281
  have p11 : 0 ≤ ((ji8) : Int):=of_decide_eq_true (by first|(with_reducible assumption)|assumption)
  have q11 : ((ji8) : Int) < ((l0.length : Int) : Int):=of_decide_eq_true (by first|(with_reducible assumption)|assumption)
  obtain ⟨hx11_0,hf11_0⟩:=Kd.R_celln 0 HO0.out ((ji8) : Int) p11 q11
  replace p11:=eq_true p11
  replace q11:=eq_true q11
  have HP19:=Kd.R_putn HO0.out ((ji8) : Int) (wrap64 ((rd y280 (ji8)) + a1_2))
  rw [← Ny282.out] at HP19
  have HQ19:=aM HP19
  clear HP19
  refine start_ (n:=11) (S:=fun w' => w'.cell? ⟨gb277,0,none⟩ = some (.int .i64 a1_0) ∧ w'.cell? ⟨gb277,1,none⟩ = some (.int .i64 a1_1) ∧ w'.cell? ⟨gb277,2,none⟩ = some (.int .i64 a1_2) ∧ w'.cell? ⟨go7,((ji8)).toNat,none⟩ = some (.int .i64 (rd y280 (ji8)))) (ds:=[10]) #[bF,bF,bF,bF,bF,bF,bF,bF,bF,bF,bF] (by kernel_rfl) rfl rfl ⟨(blk_cell BK277.out 0).trans rfl,(blk_cell BK277.out 1).trans rfl,(blk_cell BK277.out 2).trans rfl,hx281_0⟩ (fun hHeld => ?_);refine with_tabW impl_pay.tab3 impl_pay.bits3 (fun HT_ HW_ => ?_)
  generalize w17.drew = w18 at HO0 BK277 HK HB HQ16 HQ19 hf11_0 hx11_0 hx281_0 hHeld ⊢
  refine pure_ (i:=0) (N:=some 23) (v:=?_) (a':=?_) #[bT,bF,bF,bF,bF,bF,bF,bF,bF,bF,bF] rfl rfl (any_of HT_.out (by kernel_rfl)) (fun _ _ _ h => h) (Or.inl ⟨by rfl,?_⟩) ?_ ?_
  rotate_left;(· intro w';go_simp;with_reducible rfl);rotate_left;(· simp only [Act.put,sI,sZ,sS,i64_w,i32_w];rfl)
  refine pure_ (i:=1) (N:=some 24) (v:=?_) (a':=?_) #[bT,bT,bF,bF,bF,bF,bF,bF,bF,bF,bF] rfl rfl (any_of HT_.out (by kernel_rfl)) (fun _ _ _ h => h) (Or.inl ⟨by rfl,?_⟩) ?_ ?_
  rotate_left;(· intro w';go_simp;with_reducible rfl);rotate_left;(· simp only [Act.put,sI,sZ,sS,i64_w,i32_w];rfl)
  refine pure_ (i:=6) (N:=some 29) (v:=?_) (a':=?_) #[bT,bT,bF,bF,bF,bF,bT,bF,bF,bF,bF] rfl rfl (any_of HT_.out (by kernel_rfl)) (fun _ _ _ h => h) (Or.inl ⟨by rfl,?_⟩) ?_ ?_
  rotate_left;(· intro w';go_simp;with_reducible rfl);rotate_left;(· simp only [Act.put,sI,sZ,sS,i64_w,i32_w];rfl)
  refine take_ (i:=2) (N:=some 25) (v:=?_) (a':=?_) #[bT,bT,bT,bF,bF,bF,bT,bF,bF,bF,bF] rfl rfl (take_ofW HT_.out HW_.out (by kernel_rfl)) (fun _ _ _ h => h) (Or.inl ⟨by rfl,?_⟩) hHeld ?_ ?_
  rotate_left
  ·rintro w' ⟨s0,s1,s2,s3⟩
   (try simp only [Int.toNat_natCast] at s0 s1 s2 s3)
   go_simp
   with_reducible rfl
  rotate_left
  ·simp only [Act.put,sI,sZ,sS,i64_w,i32_w]
   rfl
  refine pure_ (i:=3) (N:=some 26) (v:=?_) (a':=?_) #[bT,bT,bT,bT,bF,bF,bT,bF,bF,bF,bF] rfl rfl (any_of HT_.out (by kernel_rfl)) (fun _ _ _ h => h) (Or.inl ⟨by rfl,?_⟩) ?_ ?_
  rotate_left;(· intro w';go_simp;with_reducible rfl);rotate_left;(· simp only [Act.put,sI,sZ,sS,i64_w,i32_w];rfl)
  refine pure_ (i:=4) (N:=some 27) (v:=?_) (a':=?_) #[bT,bT,bT,bT,bT,bF,bT,bF,bF,bF,bF] rfl rfl (any_of HT_.out (by kernel_rfl)) (fun _ _ _ h => h) (Or.inl ⟨by rfl,?_⟩) ?_ ?_
  rotate_left;(· intro w';go_simp;with_reducible rfl);rotate_left;(· simp only [Act.put,sI,sZ,sS,i64_w,i32_w];rfl)
  refine take_ (i:=5) (N:=some 28) (v:=?_) (a':=?_) #[bT,bT,bT,bT,bT,bT,bT,bF,bF,bF,bF] rfl rfl (take_ofW HT_.out HW_.out (by kernel_rfl)) (fun _ _ _ h => h) (Or.inl ⟨by rfl,?_⟩) hHeld ?_ ?_
  rotate_left
  ·rintro w' ⟨s0,s1,s2,s3⟩
   (try simp only [Int.toNat_natCast] at s0 s1 s2 s3)
   go_simp
   with_reducible rfl
  rotate_left
  ·simp only [Act.put,sI,sZ,sS,i64_w,i32_w]
   rfl
  refine take_ (i:=7) (N:=some 30) (v:=?_) (a':=?_) #[bT,bT,bT,bT,bT,bT,bT,bT,bF,bF,bF] rfl rfl (take_ofW HT_.out HW_.out (by kernel_rfl)) (fun _ _ _ h => h) (Or.inl ⟨by rfl,?_⟩) hHeld ?_ ?_
  rotate_left
  ·rintro w' ⟨s0,s1,s2,s3⟩
   (try simp only [Int.toNat_natCast] at s0 s1 s2 s3)
   go_simp
   with_reducible rfl
  rotate_left
  ·simp only [Act.put,sI,sZ,sS,i64_w,i32_w]
   rfl
  refine pure_ (i:=8) (N:=some 31) (v:=?_) (a':=?_) #[bT,bT,bT,bT,bT,bT,bT,bT,bT,bF,bF] rfl rfl (any_of HT_.out (by kernel_rfl)) (fun _ _ _ h => h) (Or.inl ⟨by rfl,?_⟩) ?_ ?_
  rotate_left;(· intro w';go_simp;with_reducible rfl);rotate_left;(· simp only [Act.put,sI,sZ,sS,i64_w,i32_w];rfl)
  refine pure_ (i:=9) (N:=some 32) (v:=?_) (a':=?_) #[bT,bT,bT,bT,bT,bT,bT,bT,bT,bT,bF] rfl rfl (any_of HT_.out (by kernel_rfl)) (fun _ _ _ h => h) (Or.inl ⟨by rfl,?_⟩) ?_ ?_
  rotate_left;(· intro w';go_simp;with_reducible rfl);rotate_left;(· simp only [Act.put,sI,sZ,sS,i64_w,i32_w];rfl)
  refine last_ (i:=10) (N:=none) #[bT,bT,bT,bT,bT,bT,bT,bT,bT,bT,bT] rfl rfl (one_of HT_.out (by kernel_rfl)) (by decide) (fun K hK => ?_)
  refine skip_ (w1:=?_) (by rfl) rfl ?_ ?_
  rotate_left
  ·go_simp
   rfl
  refine hK.out _ _ ?_
  clear hK K
  refine done_ (done_of HT_.out (by kernel_rfl)) ?_
  try go_wp2
  first|go_end0|((try simp only [Exit.inBlock,Exit.then]);refine bodyPost_ret (results_none rfl _ _ _) rfl ?_)
  exact ⟨by first|rfl|(simp only [i64_w,i32_w];done)|(simp only [i64_w,i32_w];rfl)|(simp [errW_none,errW_some] <;> rfl)|(simp only [← hji3,← hji8];first|rfl|(simp [errW_none,errW_some] <;> rfl))|(simp [*,errW_none,errW_some] <;> rfl),by (with_reducible repeat (first|apply Kd.R_alloc|apply Kd.R_drewN|apply Kd.R_drew));exact HQ19.out,by repeat (first|(with_reducible first|exact HB.out|apply bA|apply bN|apply bD|refine below_set ?_ GB7.out|refine below_set ?_ GE277.out)|exact HB.out),by repeat (first|(with_reducible first|exact HK.out|apply Kept.alloc|apply Kept.drewN|apply Kept.drew|refine Kept.setCell ?_ HMgo7.out _|refine Kept.setCell ?_ (.inr GW277.out) _)|exact HK.out)⟩
 ·rw [if_neg c6] at H
  have c6b0 : decide (a1_2 ≤ (rd l0 (ji3))) = false:=decide_eq_false c6
  clear c6
  obtain rfl:=Option.some.inj H
  go_enter Try.func50,Try.ntmps50
  try go_wp2_with (first|((with_reducible refine gate_dst (N:=3) rfl ?_);refine box_event ?hg (N:=3) ?hd (cs:=#[.int .i64 a1_0,.int .i64 a1_1,.int .i64 a1_2]) (t:=44) ?hr ?_;(case hd => rfl);(case hg => rfl);(case hr => first|(go_simp;done)|(go_simp;rfl));intro gb277 hg w20 hbox hb;have n0_:=aM (Kd.R_below (by (with_reducible repeat (first|apply Kd.R_alloc|apply Kd.R_drewN|apply Kd.R_drew));exact HO0.out) hb);have n1_:=aM (Kept.below (S:=(fun k_ => P0_ k_)) (by repeat (first|(with_reducible first|exact HK.out|apply Kept.alloc|apply Kept.drewN|apply Kept.drew)|exact HK.out)) hb);have n2_:=aM (below_step (by repeat (first|(with_reducible first|exact HB.out|apply bA|apply bN|apply bD)|exact HB.out)) hb);have n3_:=aM (hbox);have n4_:=aM ((by rw [hg];exact (by first|exact HK.out.1|exact (show Kept w _ (fun k_ => P0_ k_) from by repeat (first|(with_reducible first|exact HK.out|apply Kept.alloc|apply Kept.drewN|apply Kept.drew)|exact HK.out)).1) : w.heap.size ≤ gb277));have n5_:=aM ((by rw [hg];exact (below_size (by repeat (first|(with_reducible first|exact HB.out|apply bA|apply bN|apply bD)|exact HB.out))) : w0.heap.size ≤ gb277));clear HO0;clear HK;clear HB;have HO0:=n0_;have HK:=n1_;have HB:=n2_;have BK277:=n3_;have GW277:=n4_;have GE277:=n5_;clear n0_ n1_ n2_ n3_ n4_ n5_;clear hb hbox hg))
  have n0_:=aM (Kd.R_drew HO0.out)
  have n1_:=aM (blk_drew BK277.out)
  have n2_:=aM (Kept.drew HK.out)
  have n3_:=aM (bD HB.out)
  clear HO0
  clear BK277
  clear HK
  clear HB
  have HO0:=n0_
  have BK277:=n1_
  have HK:=n2_
  have HB:=n3_
  clear n0_ n1_ n2_ n3_
  obtain ⟨Ao22,co22,eo22⟩:=Kd.R_slice HO0.out
  (first|subst eo22|(injection eo22 with f1_ f2_ f3_;have f4_:=f1_.symm;have f5_:=f3_.symm;clear f1_ f2_ f3_;subst f4_;subst f5_))
  have p278 : 0 ≤ ((ji3) : Int):=of_decide_eq_true (by first|(with_reducible assumption)|assumption)
  have q278 : (ji3) < (l0.length : Int):=of_decide_eq_true (by first|(with_reducible assumption)|assumption)
  obtain ⟨ad278,e278,hx278_0⟩:=Kd.at_int (Kd.R_reads' HO0.out).2.2 (ji3) p278 q278
  cases e278
  replace p278:=eq_true p278
  replace q278:=eq_true q278
  refine start_ (n:=9) (S:=fun w' => w'.cell? ⟨gb277,0,none⟩ = some (.int .i64 a1_0) ∧ w'.cell? ⟨gb277,1,none⟩ = some (.int .i64 a1_1) ∧ w'.cell? ⟨gb277,2,none⟩ = some (.int .i64 a1_2) ∧ w'.cell? (ad278.add ((ji3)).toNat) = some (.int .i64 (rd l0 (ji3)))) (ds:=[]) #[bF,bF,bF,bF,bF,bF,bF,bF,bF] (by kernel_rfl) rfl rfl ⟨(blk_cell BK277.out 0).trans rfl,(blk_cell BK277.out 1).trans rfl,(blk_cell BK277.out 2).trans rfl,hx278_0⟩ (fun hHeld => ?_);refine with_tabW impl_pay.tab1 impl_pay.bits1 (fun HT_ HW_ => ?_)
  generalize w20.drew = w21 at HO0 BK277 HK HB hx278_0 hHeld ⊢
  refine pure_ (i:=0) (N:=some 4) (v:=?_) (a':=?_) #[bT,bF,bF,bF,bF,bF,bF,bF,bF] rfl rfl (any_of HT_.out (by kernel_rfl)) (fun _ _ _ h => h) (Or.inl ⟨by rfl,?_⟩) ?_ ?_
  rotate_left;(· intro w';go_simp;with_reducible rfl);rotate_left;(· simp only [Act.put,sI,sZ,sS,i64_w,i32_w];rfl)
  refine pure_ (i:=1) (N:=some 5) (v:=?_) (a':=?_) #[bT,bT,bF,bF,bF,bF,bF,bF,bF] rfl rfl (any_of HT_.out (by kernel_rfl)) (fun _ _ _ h => h) (Or.inl ⟨by rfl,?_⟩) ?_ ?_
  rotate_left;(· intro w';go_simp;with_reducible rfl);rotate_left;(· simp only [Act.put,sI,sZ,sS,i64_w,i32_w];rfl)
  refine pure_ (i:=6) (N:=some 10) (v:=?_) (a':=?_) #[bT,bT,bF,bF,bF,bF,bT,bF,bF] rfl rfl (any_of HT_.out (by kernel_rfl)) (fun _ _ _ h => h) (Or.inl ⟨by rfl,?_⟩) ?_ ?_
  rotate_left;(· intro w';go_simp;with_reducible rfl);rotate_left;(· simp only [Act.put,sI,sZ,sS,i64_w,i32_w];rfl)
  refine take_ (i:=2) (N:=some 6) (v:=?_) (a':=?_) #[bT,bT,bT,bF,bF,bF,bT,bF,bF] rfl rfl (take_ofW HT_.out HW_.out (by kernel_rfl)) (fun _ _ _ h => h) (Or.inl ⟨by rfl,?_⟩) hHeld ?_ ?_
  rotate_left
  ·rintro w' ⟨s0,s1,s2,s3⟩
   (try simp only [Int.toNat_natCast] at s0 s1 s2 s3)
   go_simp
   with_reducible rfl
  rotate_left
  ·simp only [Act.put,sI,sZ,sS,i64_w,i32_w]
   rfl
  refine pure_ (i:=3) (N:=some 7) (v:=?_) (a':=?_) #[bT,bT,bT,bT,bF,bF,bT,bF,bF] rfl rfl (any_of HT_.out (by kernel_rfl)) (fun _ _ _ h => h) (Or.inl ⟨by rfl,?_⟩) ?_ ?_
  rotate_left;(· intro w';go_simp;with_reducible rfl);rotate_left;(· simp only [Act.put,sI,sZ,sS,i64_w,i32_w];rfl)
  refine pure_ (i:=4) (N:=some 8) (v:=?_) (a':=?_) #[bT,bT,bT,bT,bT,bF,bT,bF,bF] rfl rfl (any_of HT_.out (by kernel_rfl)) (fun _ _ _ h => h) (Or.inl ⟨by rfl,?_⟩) ?_ ?_
  rotate_left;(· intro w';go_simp;with_reducible rfl);rotate_left;(· simp only [Act.put,sI,sZ,sS,i64_w,i32_w];rfl)
  refine take_ (i:=5) (N:=some 9) (v:=?_) (a':=?_) #[bT,bT,bT,bT,bT,bT,bT,bF,bF] rfl rfl (take_ofW HT_.out HW_.out (by kernel_rfl)) (fun _ _ _ h => h) (Or.inl ⟨by rfl,?_⟩) hHeld ?_ ?_
  rotate_left
  ·rintro w' ⟨s0,s1,s2,s3⟩
   (try simp only [Int.toNat_natCast] at s0 s1 s2 s3)
   go_simp
   with_reducible rfl
  rotate_left
  ·simp only [Act.put,sI,sZ,sS,i64_w,i32_w]
   rfl
  refine take_ (i:=7) (N:=some 11) (v:=?_) (a':=?_) #[bT,bT,bT,bT,bT,bT,bT,bT,bF] rfl rfl (take_ofW HT_.out HW_.out (by kernel_rfl)) (fun _ _ _ h => h) (Or.inl ⟨by rfl,?_⟩) hHeld ?_ ?_
  rotate_left
  ·rintro w' ⟨s0,s1,s2,s3⟩
   (try simp only [Int.toNat_natCast] at s0 s1 s2 s3)
   go_simp
   with_reducible rfl
  rotate_left
  ·simp only [Act.put,sI,sZ,sS,i64_w,i32_w]
   rfl
  refine pure_ (i:=8) (N:=some 12) (v:=?_) (a':=?_) #[bT,bT,bT,bT,bT,bT,bT,bT,bT] rfl rfl (any_of HT_.out (by kernel_rfl)) (fun _ _ _ h => h) (Or.inl ⟨by rfl,?_⟩) ?_ ?_
  rotate_left;(· intro w';go_simp;with_reducible rfl);rotate_left;(· simp only [Act.put,sI,sZ,sS,i64_w,i32_w];rfl)
  refine done_ (done_of HT_.out (by kernel_rfl)) ?_
  try go_wp2
  first|go_end0|((try simp only [Exit.inBlock,Exit.then]);refine bodyPost_ret (results_none rfl _ _ _) rfl ?_)
  exact ⟨by first|rfl|(simp only [i64_w,i32_w];done)|(simp only [i64_w,i32_w];rfl)|(simp [errW_none,errW_some] <;> rfl)|(simp only [← hji3];first|rfl|(simp [errW_none,errW_some] <;> rfl))|(simp [*,errW_none,errW_some] <;> rfl),by (with_reducible repeat (first|apply Kd.R_alloc|apply Kd.R_drewN|apply Kd.R_drew));exact HO0.out,by repeat (first|(with_reducible first|exact HB.out|apply bA|apply bN|apply bD|refine below_set ?_ GE277.out)|exact HB.out),by repeat (first|(with_reducible first|exact HK.out|apply Kept.alloc|apply Kept.drewN|apply Kept.drew|refine Kept.setCell ?_ (.inr GW277.out) _)|exact HK.out)⟩

set_option maxHeartbeats 8000000 in
set_option maxRecDepth 100000 in
theorem impl_BookPay.calls (k : Nat) (A0 : Option Addr) (c0 : Nat) (l0 : List Int) (a1_0 : Int) (a1_1 : Int) (a1_2 : Int) (r : List Int) (w : World) (hr0 : Kd.C (Kd.int .i64) w A0 l0.length l0) (hc0 : l0.length ≤ c0) (h : impl_BookPay.f k l0 a1_0 a1_1 a1_2 = some r) :
  Calls Try.prog 28 #[.slice A0 l0.length c0,.agg #[.int .i64 a1_0,.int .i64 a1_1,.int .i64 a1_2]] w fun e w' => ∃ v0_ : Value,e = .returned (v0_) ∧ Kd.R (Kd.int .i64) 3 w' w.heap.size (fun _ => True) v0_ r ∧ Below w.heap.size w w':=by
 have hu44:=Try.underlying44
 have HR0:=aM hr0
 have HC0:=aM hc0
 clear hr0 hc0
 have HB:=aM (Below.refl w.heap.size w)
 have H : ((impl_BookOk.f k l0).bind fun t284 => (if t284 = true then ((impl_PayOk.f a1_0 a1_1 a1_2).bind fun t285 => (impl_BookPay.j0 k l0 (!t285) a1_0 a1_1 a1_2)) else (impl_BookPay.j0 k l0 true a1_0 a1_1 a1_2))) = some r:=h
 clear h
 have HC3:=aM H
 clear H
 go_enter Try.func28,Try.ntmps28
 go_upto_region 1 with (first|((with_reducible refine gate_dst (N:=3) rfl ?_);refine box_event ?hg (N:=3) ?hd (cs:=#[.int .i64 a1_0,.int .i64 a1_1,.int .i64 a1_2]) (t:=44) ?hr ?_;(case hd => rfl);(case hg => rfl);(case hr => first|(go_simp;done)|(go_simp;rfl));intro gb283 hg w4 hbox hb;have n0_:=aM (below_step (by repeat (first|(with_reducible first|exact HB.out|apply bA|apply bN|apply bD)|exact HB.out)) hb);have n1_:=aM (hbox);have n2_:=aM ((by rw [hg];exact (below_size (by repeat (first|(with_reducible first|exact HB.out|apply bA|apply bN|apply bD)|exact HB.out))) : w.heap.size ≤ gb283));have n3_:=aM ((by rw [hg];exact (below_size (by repeat (first|(with_reducible first|exact HB.out|apply bA|apply bN|apply bD)|exact HB.out))) : w.heap.size ≤ gb283));clear HB;have HB:=n0_;have BK283:=n1_;have GW283:=n2_;have GE283:=n3_;clear n0_ n1_ n2_ n3_;clear hb hbox hg))
 (try simp only [Act.put,sI,sZ,sS])
 go_cut [13] (fun v13 wc => ∃ (kq : Nat) (x13_2 : Bool),v13 = .bool x13_2 ∧ Aside0 (impl_BookPay.j0 kq l0 x13_2 a1_0 a1_1 a1_2 = some r) ∧ Aside0 (kq ≤ k) ∧ Aside0 (wc.heap[gb283]? = some (.cells #[.int .i64 a1_0,.int .i64 a1_1,.int .i64 a1_2] 44 (0,0))) ∧ Aside0 (Below w.heap.size w wc))
 case first =>
  have H:=HC3.out
  clear HC3
  replace H:=Option.bind_eq_some_iff.mp H
  obtain ⟨t284,A50,H⟩:=H
  replace H : (if t284 = true then ((impl_PayOk.f a1_0 a1_1 a1_2).bind fun t285 => (impl_BookPay.j0 k l0 (!t285) a1_0 a1_1 a1_2)) else (impl_BookPay.j0 k l0 true a1_0 a1_1 a1_2)) = some r:=H
  have A5:=aM A50
  clear A50
  by_cases c6 : t284 = true
  ·subst c6
   have H1 : ((impl_PayOk.f a1_0 a1_1 a1_2).bind fun t285 => (impl_BookPay.j0 k l0 (!t285) a1_0 a1_1 a1_2)) = some r:=by rw [if_pos rfl] at H;exact H
   clear H
   have H:=H1
   clear H1
   replace H:=Option.bind_eq_some_iff.mp H
   obtain ⟨t285,A70,H⟩:=H
   replace H : (impl_BookPay.j0 k l0 (!t285) a1_0 a1_1 a1_2) = some r:=H
   have A7:=aM A70
   clear A70
   have H':=aM H
   clear H
   go_wp2_with (first|((with_reducible refine gate_callee (f:=47) rfl ?_);refine goesL_ (some 7) rfl rfl Try.func47 (by kernel_rfl) rfl #[.slice A0 l0.length c0] rfl (by (try simp only [List.map_toArray,List.map_cons,List.map_nil]);first|done|rfl|(simp only [List.length_drop,List.length_take];rfl)) ?_;(with_reducible refine (impl_BookOk.calls k _ _ l0 true _ ?side1 ?side2 A5.out).mono ?_);(case side1 => repeat (first|exact (Kd.C_below HR0.out HB.out)|(with_reducible refine Kd.C_alloc ?_ _)|(with_reducible refine Kd.C_drewN ?_ _)|(with_reducible refine Kd.C_drew ?_)));(case side2 => exact HC0.out);rintro e w' ⟨rfl,⟨nd,rfl⟩⟩;refine ⟨_,rfl,?_⟩;have hcz8_0 : w4.cell? ⟨gb283,0,none⟩ = some (.int .i64 a1_0):=(blk_cell BK283.out 0).trans rfl;have hcz8_1 : w4.cell? ⟨gb283,1,none⟩ = some (.int .i64 a1_1):=(blk_cell BK283.out 1).trans rfl;have hcz8_2 : w4.cell? ⟨gb283,2,none⟩ = some (.int .i64 a1_2):=(blk_cell BK283.out 2).trans rfl;have hfz8_0:=blk_frozen BK283.out 0;have hfz8_1:=blk_frozen BK283.out 1;have hfz8_2:=blk_frozen BK283.out 2)|(go_at_call 48;(with_reducible refine (impl_PayOk.calls a1_0 a1_1 a1_2 t285 _ A7.out).mono ?_);rintro e w9 ⟨rfl,hb⟩;have n0_:=aM (blk_below (g:=gb283) (o:=.cells #[.int .i64 a1_0,.int .i64 a1_1,.int .i64 a1_2] 44 (0,0)) (by (with_reducible repeat (first|refine blk_drewN ?_ _|refine blk_drew ?_|refine blk_alloc ?_ _));exact BK283.out) hb);have n1_:=aM (below_step (by repeat (first|(with_reducible first|exact HB.out|apply bA|apply bN|apply bD|refine below_set ?_ GE283.out)|exact HB.out)) hb);clear BK283;clear HB;have BK283:=n0_;have HB:=n1_;clear n0_ n1_;(try clear hb);(try clear hb2);(try clear hk);(try clear hi)))
   go_meet
   case rel => exact ⟨_,(!t285),(by first|rfl|(simp;done)|(simp [*];done)),H',⟨by first|omega|exact Nat.le_refl _⟩,⟨by (with_reducible repeat (first|refine blk_drewN ?_ _|refine blk_drew ?_|refine blk_alloc ?_ _));exact BK283.out⟩,⟨by repeat (first|(with_reducible first|exact HB.out|apply bA|apply bN|apply bD|refine below_set ?_ GE283.out)|exact HB.out)⟩⟩
  ·replace c6:=Bool.eq_false_iff.mpr c6
   subst c6
   have H1 : (impl_BookPay.j0 k l0 true a1_0 a1_1 a1_2) = some r:=by rw [if_neg (show ¬ (false = true) by decide)] at H;exact H
   clear H
   have H:=H1
   clear H1
   have H':=aM H
   clear H
   go_wp2_with (first|((with_reducible refine gate_callee (f:=47) rfl ?_);refine goesL_ (some 7) rfl rfl Try.func47 (by kernel_rfl) rfl #[.slice A0 l0.length c0] rfl (by (try simp only [List.map_toArray,List.map_cons,List.map_nil]);first|done|rfl|(simp only [List.length_drop,List.length_take];rfl)) ?_;(with_reducible refine (impl_BookOk.calls k _ _ l0 false _ ?side1 ?side2 A5.out).mono ?_);(case side1 => repeat (first|exact (Kd.C_below HR0.out HB.out)|(with_reducible refine Kd.C_alloc ?_ _)|(with_reducible refine Kd.C_drewN ?_ _)|(with_reducible refine Kd.C_drew ?_)));(case side2 => exact HC0.out);rintro e w' ⟨rfl,⟨nd,rfl⟩⟩;refine ⟨_,rfl,?_⟩))
   go_meet
   case rel => exact ⟨_,(true),(by first|rfl|(simp;done)|(simp [*];done)),H',⟨by first|omega|exact Nat.le_refl _⟩,⟨by (with_reducible repeat (first|refine blk_drewN ?_ _|refine blk_drew ?_|refine blk_alloc ?_ _));exact BK283.out⟩,⟨by repeat (first|(with_reducible first|exact HB.out|apply bA|apply bN|apply bD|refine below_set ?_ GE283.out)|exact HB.out)⟩⟩
 case rest =>
  clear HC3
  try clear c2
  try clear p2
  try clear c4
  try clear c6
  try clear hcz8_0
  try clear hcz8_1
  try clear hcz8_2
  try clear hfz8_0
  try clear hfz8_1
  try clear hfz8_2
  obtain ⟨kq,x13_2,rfl,HA,HJ2,BK283,HB⟩:=hcut
  cases kq with
  | zero => exact absurd HA.out (by simp [impl_BookPay.j0])
  | succ kj2 =>
   have H:=HA.out
   clear HA
   simp only [impl_BookPay.j0] at H
   by_cases c10 : x13_2 = true
   ·subst c10
    have H1 : (some ([] : List Int)) = some r:=by rw [if_pos rfl] at H;exact H
    clear H
    have H:=H1
    clear H1
    obtain rfl:=Option.some.inj H
    go_wp2
    go_ret
    exact ⟨_,by first|rfl|(simp only [i64_w,i32_w];done)|(simp only [i64_w,i32_w];rfl)|(simp [errW_none,errW_some] <;> rfl)|(simp [*,errW_none,errW_some] <;> rfl),by first|exact Kd.R_nil _ _ _ _ _|exact Kd.N_nil _ _ _ _ _|exact Kd.V_nil _ _ _ _ _|exact Kd.Q_nil _ _ _ _ _|exact Kd.S_nil _ _ _ _ _,by repeat (first|(with_reducible first|exact HB.out|apply bA|apply bN|apply bD|refine below_set ?_ GE283.out)|exact HB.out)⟩
   ·replace c10:=Bool.eq_false_iff.mpr c10
    subst c10
    have H1 : ((slices_Clone_int_int.f l0).bind fun t286 => ((slices_Clip_int_int.f t286).bind fun t289 => ((impl_pay.f t289 a1_0 a1_1 a1_2).bind fun t292 => (some t292)))) = some r:=by rw [if_neg (show ¬ (false = true) by decide)] at H;exact H
    clear H
    have H:=H1
    clear H1
    replace H:=Option.bind_eq_some_iff.mp H
    obtain ⟨t286,A110,H⟩:=H
    replace H : ((slices_Clip_int_int.f t286).bind fun t289 => ((impl_pay.f t289 a1_0 a1_1 a1_2).bind fun t292 => (some t292))) = some r:=H
    have A11:=aM A110
    clear A110
    replace H:=Option.bind_eq_some_iff.mp H
    obtain ⟨t289,A120,H⟩:=H
    replace H : ((impl_pay.f t289 a1_0 a1_1 a1_2).bind fun t292 => (some t292)) = some r:=H
    have A12:=aM A120
    clear A120
    replace H:=Option.bind_eq_some_iff.mp H
    obtain ⟨t292,A130,H⟩:=H
    replace H : (some t292) = some r:=H
    have A13:=aM A130
    clear A130
    obtain rfl:=Option.some.inj H
    go_wp2_with (first|((with_reducible refine gate_callee (f:=49) rfl ?_);refine goesL_ (some 15) rfl rfl Try.func49 (by kernel_rfl) rfl #[.slice A0 l0.length c0] rfl (by (try simp only [List.map_toArray,List.map_cons,List.map_nil]);first|done|rfl|(simp only [List.length_drop,List.length_take];rfl)) ?_;(with_reducible refine (slices_Clone_int_int.calls _ _ l0 t286 _ ?side1 ?side2 A11.out).mono ?_);(case side1 => repeat (first|exact (Kd.C_below HR0.out HB.out)|(with_reducible refine Kd.C_alloc ?_ _)|(with_reducible refine Kd.C_drewN ?_ _)|(with_reducible refine Kd.C_drew ?_)));(case side2 => exact HC0.out);rintro e w14 ⟨v287,rfl,ho0,hb⟩;refine ⟨_,rfl,?_⟩;have n0_:=aM (Kd.R_lower ho0 (below_size (by repeat (first|(with_reducible first|exact HB.out|apply bA|apply bN|apply bD|refine below_set ?_ GE283.out)|exact HB.out))));have n1_:=aM (blk_below (g:=gb283) (o:=.cells #[.int .i64 a1_0,.int .i64 a1_1,.int .i64 a1_2] 44 (0,0)) (by (with_reducible repeat (first|refine blk_drewN ?_ _|refine blk_drew ?_|refine blk_alloc ?_ _));exact BK283.out) hb);have n2_:=aM (below_step (by repeat (first|(with_reducible first|exact HB.out|apply bA|apply bN|apply bD|refine below_set ?_ GE283.out)|exact HB.out)) hb);clear BK283;clear HB;have HO288:=n0_;have BK283:=n1_;have HB:=n2_;clear n0_ n1_ n2_;(try clear hb);(try clear hb2);(try clear hk);(try clear hi);(try clear ho0);obtain ⟨Ao15,co15,eo15⟩:=Kd.R_slice HO288.out;subst eo15)|((with_reducible refine gate_callee (f:=31) rfl ?_);refine goesL_ (some 16) rfl rfl Try.func31 (by kernel_rfl) rfl #[.slice Ao15 t286.length co15] rfl (by (try simp only [List.map_toArray,List.map_cons,List.map_nil]);first|done|rfl|(simp only [List.length_drop,List.length_take];rfl)) ?_;(with_reducible refine (slices_Clip_int_int.calls (fun k_ => some k_ = (.slice Ao15 t286.length co15 : Value).ownBlock) (.slice Ao15 t286.length co15) t286 t289 w _ ?side1 ?side2 A12.out).mono ?_);(case side1 => repeat (first|(with_reducible first|exact HB.out|apply bA|apply bN|apply bD|refine below_set ?_ GE283.out)|exact HB.out));(case side2 => exact Kd.R_tight rfl HO288.out);rintro e w16 ⟨v290,rfl,ho0,hb,hkp⟩;refine ⟨_,rfl,?_⟩;have n0_:=aM (blk_kept (by (with_reducible repeat (first|refine blk_drewN ?_ _|refine blk_drew ?_|refine blk_alloc ?_ _));exact BK283.out) hkp (fun hs_ => (fun e_ => (Kd.R_ne HO288.out BK283.out (by decide)) e_) hs_));have n1_:=aM (Kd.R_mono (ok':=fun k_ => True) ho0 (fun k_ hk_ => trivial));have n2_:=aM (hb);clear BK283;clear HB;clear HO288;have BK283:=n0_;have HO291:=n1_;have HB:=n2_;clear n0_ n1_ n2_;(try clear hb);(try clear hkp);(try clear ho0);have hcz17_0 : w16.cell? ⟨gb283,0,none⟩ = some (.int .i64 a1_0):=(blk_cell BK283.out 0).trans rfl;have hcz17_1 : w16.cell? ⟨gb283,1,none⟩ = some (.int .i64 a1_1):=(blk_cell BK283.out 1).trans rfl;have hcz17_2 : w16.cell? ⟨gb283,2,none⟩ = some (.int .i64 a1_2):=(blk_cell BK283.out 2).trans rfl;have hfz17_0:=blk_frozen BK283.out 0;have hfz17_1:=blk_frozen BK283.out 1;have hfz17_2:=blk_frozen BK283.out 2;obtain ⟨Ao18,co18,eo18⟩:=Kd.R_slice HO291.out;subst eo18)|((with_reducible refine gate_callee (f:=50) rfl ?_);refine goesL_ (some 19) rfl rfl Try.func50 (by kernel_rfl) rfl #[.slice Ao18 t289.length co18,.agg #[.int .i64 a1_0,.int .i64 a1_1,.int .i64 a1_2]] rfl (by (try simp only [List.map_toArray,List.map_cons,List.map_nil]);first|done|rfl|(simp only [List.length_drop,List.length_take];rfl)) ?_;(with_reducible refine (impl_pay.calls (fun k_ => some k_ = (.slice Ao18 t289.length co18 : Value).ownBlock) (.slice Ao18 t289.length co18) t289 a1_0 a1_1 a1_2 t292 w _ ?side1 ?side2 A13.out).mono ?_);(case side1 => repeat (first|(with_reducible first|exact HB.out|apply bA|apply bN|apply bD|refine below_set ?_ GE283.out)|exact HB.out));(case side2 => exact Kd.R_tight rfl HO291.out);rintro e w19 ⟨rfl,hy0,hb,hkp⟩;refine ⟨_,rfl,?_⟩;have n0_:=aM (blk_kept (by (with_reducible repeat (first|refine blk_drewN ?_ _|refine blk_drew ?_|refine blk_alloc ?_ _));exact BK283.out) hkp (fun hs_ => (fun e_ => (Kd.R_ne HO291.out BK283.out (by decide)) e_) hs_));have n1_:=aM (Kd.R_reok rfl hy0 (fun k_ e_ => Kd.R_own1 HO291.out k_ e_));have n2_:=aM (hb);clear BK283;clear HO291;clear HB;have BK283:=n0_;have HO291:=n1_;have HB:=n2_;clear n0_ n1_ n2_;(try clear hb);(try clear hkp);(try clear hy0)))
    go_ret
    exact ⟨_,by first|rfl|(simp only [i64_w,i32_w];done)|(simp only [i64_w,i32_w];rfl)|(simp [errW_none,errW_some] <;> rfl)|(simp [*,errW_none,errW_some] <;> rfl),by (with_reducible repeat (first|apply Kd.R_alloc|apply Kd.R_drewN|apply Kd.R_drew));exact HO291.out,by repeat (first|(with_reducible first|exact HB.out|apply bA|apply bN|apply bD|refine below_set ?_ GE283.out)|exact HB.out)⟩

set_option maxHeartbeats 8000000 in
set_option maxRecDepth 100000 in
theorem laws_markIntS.calls (k : Nat) (P0_ : Nat → Prop) (u9000_ : Value) (l0 : List Int) (a1 : Int) (r1 : Int) (r2 : List Int) (w0 w : World) (hB : Below w0.heap.size w0 w) (ho0 : Kd.R (Kd.int .i64) 3 w w0.heap.size P0_ u9000_ l0) (h : laws_markIntS.f k l0 a1 = some (r1,r2)) :
  Calls Try.prog 11 #[u9000_,.int .i64 a1] w fun e w' => e = .returned (.int .i64 r1) ∧ Kd.R (Kd.int .i64) 3 w' w0.heap.size (fun k_ => (P0_ k_ ∨ w.heap.size ≤ k_)) u9000_ r2 ∧ Below w0.heap.size w0 w' ∧ Kept w w' (fun k_ => P0_ k_):=by
 have HO0:=aM (show Kd.R (Kd.int .i64) 3 w w0.heap.size (fun k_ => (P0_ k_ ∨ w.heap.size ≤ k_)) u9000_ l0 from Kd.R_mono ho0 (fun k_ hk => (.inl hk)))
 have HK:=aM (Kept.refl w (fun k_ => P0_ k_))
 have HW0:=aM hB.size
 have HB:=aM hB
 clear hB
 have H : (laws_markIntS.l0 k l0 a1 0) = some (r1,r2):=h
 clear h
 have H':=aM H
 clear H
 go_enter Try.func11,Try.ntmps11
 go_wp2
 go_loopg [1,5] k (fun kq v1 v5 w' => ∃ (x0_1 : List Int) (x1_1 : Int) (x5_1 : Int),v1 = .int .i64 x1_1 ∧ v5 = .int .i64 x5_1 ∧ Aside0 (laws_markIntS.l0 kq x0_1 x1_1 x5_1 = some (r1,r2)) ∧ Aside0 (kq ≤ k) ∧ Aside0 (Kd.R (Kd.int .i64) 3 w' w0.heap.size (fun k_ => (P0_ k_ ∨ w.heap.size ≤ k_)) u9000_ x0_1) ∧ Aside0 (Kept w w' (fun k_ => P0_ k_)) ∧ Aside0 (Below w0.heap.size w0 w'))
 case atStart => exact ⟨(l0),(a1),(0),(by first|rfl|(simp;done)|(simp [*];done)),(by first|rfl|(simp;done)|(simp [*];done)),H',⟨Nat.le_refl _⟩,⟨by (with_reducible repeat (first|apply Kd.R_alloc|apply Kd.R_drewN|apply Kd.R_drew));exact HO0.out⟩,⟨by repeat (first|(with_reducible first|exact HK.out|apply Kept.alloc|apply Kept.drewN|apply Kept.drew)|exact HK.out)⟩,⟨by repeat (first|(with_reducible first|exact HB.out|apply bA|apply bN|apply bD)|exact HB.out)⟩⟩
 case round =>
  clear H'
  try clear c1
  try clear p2
  obtain ⟨x0_1,x1_1,x5_1,rfl,rfl,HA,HK1,HO_0,HK,HB⟩:=hrel
  cases gk with
  | zero => exact absurd HA.out (by simp [laws_markIntS.l0])
  | succ k1 =>
   have H:=HA.out
   clear HA
   simp only [laws_markIntS.l0] at H
   by_cases c3 : x5_1 < (x0_1.length : Int)
   ·rw [if_pos c3] at H
    have c3b0 : decide (x5_1 < (x0_1.length : Int)) = true:=decide_eq_true c3
    clear c3
    by_cases c4 : 0 ≤ x5_1
    case neg => rw [if_neg c4] at H;exact absurd H (by simp)
    rw [if_pos c4] at H
    have c4b0 : decide (0 ≤ x5_1) = true:=decide_eq_true c4
    clear c4
    obtain ⟨y230,hy230⟩ : ∃ y_ : List Int,y_ = (x0_1.set (x5_1 : Int).toNat x1_1):=⟨_,rfl⟩
    replace H : (laws_markIntS.l0 k1 y230 (wrap64 (x1_1 + 1)) (wrap64 (x5_1 + 1))) = some (r1,r2):=by first|(rw [hy230];with_reducible exact H)|(have H2_:=(Option.bind_some _ _).symm.trans H;rw [hy230];with_reducible exact H2_)|(have H2_:=(Option.bind_some _ _).symm.trans H;with_reducible exact H2_)|with_reducible exact H|(rw [hy230];exact H)|exact H
    have Ny230:=aM hy230
    clear hy230
    have H':=aM H
    clear H
    obtain ⟨Ao6,co6,eo6⟩:=Kd.R_slice HO_0.out
    subst eo6
    have p5 : 0 ≤ (x5_1 : Int):=of_decide_eq_true (by first|(with_reducible assumption)|assumption)
    have q5 : (x5_1 : Int) < ((x0_1.length : Int) : Int):=of_decide_eq_true (by first|(with_reducible assumption)|assumption)
    obtain ⟨go5,co5,eo5,gb5,gl5,cl5,HG5⟩:=Kd.R_form HO_0.out (by omega)
    (first|cases eo5|(injection eo5 with ea_ en_ ec_;(first|subst ea_|(injection ea_ with ea_;subst ea_));subst ec_;clear en_))
    have GB5:=aM gb5
    have GG5:=aM HG5
    clear gb5 gl5 HG5
    have HMgo5:=aM (show (P0_ go5 ∨ w.heap.size ≤ go5) from (Kd.R_own1 HO_0.out _ rfl))
    obtain ⟨hx5_0,hf5_0⟩:=Kd.R_celln 0 HO_0.out (x5_1 : Int) p5 q5
    replace p5:=eq_true p5
    replace q5:=eq_true q5
    have HP7:=Kd.R_putg HO_0.out (x5_1 : Int) x1_1
    go_wp2_with (first|((with_reducible refine gate_store (t:=3) (p:=15) rfl ?_);refine store_event (t:=3) (p:=15) (v:=?vo_w8) (w1:=(wr.setCell ⟨go5,(x5_1 : Int).toNat,none⟩ (.int .i64 x1_1))) ?hg ?ho ?hn ?hr ?_;(case ho => rfl);(case hg => rfl);(case hn => rfl);(case hr => first|(go_simp;done)|(go_simp;rfl));intro w8 hw;have hg : wr.grownBy w8 (some go5):=(by rw [hw];exact HP7.2);have hp_ : Kd.R (Kd.int .i64) 3 w8 w0.heap.size (fun k_ => (P0_ k_ ∨ w.heap.size ≤ k_)) (.slice (some ⟨go5,0,none⟩) x0_1.length co6) y230:=(by rw [hw,Ny230.out];exact HP7.1);clear HP7;have n0_:=aM (hp_);have n1_:=aM ((by rw [hw];exact below_set (HB.out) GB5.out : Below w0.heap.size w0 w8));have n2_:=aM (Kept.of_grown (S:=(fun k_ => P0_ k_)) hg (by repeat (first|(with_reducible first|exact HK.out|apply Kept.alloc|apply Kept.drewN|apply Kept.drew)|exact HK.out)) (fun k_ e_ => (Kd.R_own1 HO_0.out k_ e_)));clear HO_0;clear HB;clear HK;have HO_0:=n0_;have HB:=n1_;have HK:=n2_;clear n0_ n1_ n2_;clear hg hw hp_))
    go_roundg k1
    case measure => have:=HK1.out;omega
    case rel => exact ⟨(y230),(wrap64 (x1_1 + 1)),(wrap64 (x5_1 + 1)),(by first|rfl|(simp;done)|(simp [*];done)),(by first|rfl|(simp;done)|(simp [*];done)),H',⟨by have:=HK1.out;omega⟩,⟨by (with_reducible repeat (first|apply Kd.R_alloc|apply Kd.R_drewN|apply Kd.R_drew));exact HO_0.out⟩,⟨by repeat (first|(with_reducible first|exact HK.out|apply Kept.alloc|apply Kept.drewN|apply Kept.drew)|exact HK.out)⟩,⟨by repeat (first|(with_reducible first|exact HB.out|apply bA|apply bN|apply bD)|exact HB.out)⟩⟩
   ·rw [if_neg c3] at H
    have c3b0 : decide (x5_1 < (x0_1.length : Int)) = false:=decide_eq_false c3
    clear c3
    simp only [Option.some.injEq,Prod.mk.injEq] at H
    obtain ⟨rfl,rfl⟩:=H
    obtain ⟨Ao9,co9,eo9⟩:=Kd.R_slice HO_0.out
    subst eo9
    go_wp2
    go_ret
    exact ⟨by first|rfl|(simp only [i64_w,i32_w];done)|(simp only [i64_w,i32_w];rfl)|(simp [errW_none,errW_some] <;> rfl)|(simp [*,errW_none,errW_some] <;> rfl),by (with_reducible repeat (first|apply Kd.R_alloc|apply Kd.R_drewN|apply Kd.R_drew));exact HO_0.out,by repeat (first|(with_reducible first|exact HB.out|apply bA|apply bN|apply bD)|exact HB.out),by repeat (first|(with_reducible first|exact HK.out|apply Kept.alloc|apply Kept.drewN|apply Kept.drew)|exact HK.out)⟩

set_option maxHeartbeats 8000000 in
set_option maxRecDepth 100000 in
theorem laws_FnExactBookPay.calls (k : Nat) (A0 : Option Addr) (c0 : Nat) (l0 : List Int) (a1_0 : Int) (a1_1 : Int) (a1_2 : Int) (r : Bool) (w : World) (hr0 : Kd.C (Kd.int .i64) w A0 l0.length l0) (hc0 : l0.length ≤ c0) (h : laws_FnExactBookPay.f k l0 a1_0 a1_1 a1_2 = some r) :
  Calls Try.prog 6 #[.slice A0 l0.length c0,.agg #[.int .i64 a1_0,.int .i64 a1_1,.int .i64 a1_2]] w fun e w' => e = .returned (.bool r) ∧ Below w.heap.size w w':=by
 have hu41:=Try.underlying41
 have HR0:=aM hr0
 have HC0:=aM hc0
 clear hr0 hc0
 have HB:=aM (Below.refl w.heap.size w)
 have H : (if (l0.length : Int) > 1048576 then (some true) else ((laws_toIntS.f k l0).bind fun t294 => ((laws_toPay.f a1_0 a1_1 a1_2).bind fun bt297 => ((spec_BookPay.f k t294 bt297.1 bt297.2.1 bt297.2.2).bind fun t300 => ((laws_toIntS.f k l0).bind fun t303 => ((laws_toPay.f a1_0 a1_1 a1_2).bind fun bt306 => ((impl_BookPay.f k t303 bt306.1 bt306.2.1 bt306.2.2).bind fun t309 => ((laws_eqIntS.f k t309 t300).bind fun t312 => (if t312 = true then ((laws_toIntS.f k l0).bind fun t313 => ((laws_eqIntS.f k t303 t313).bind fun t316 => (if t316 = true then ((laws_markIntS.f k t303 1).bind fun bt317 => (if bt317.1 < 0 then (laws_FnExactBookPay.j0 k l0 t300 t309 true a1_0 a1_1 a1_2) else ((laws_eqIntS.f k t309 t300).bind fun t319 => (laws_FnExactBookPay.j0 k l0 t300 t309 (!t319) a1_0 a1_1 a1_2)))) else (some false)))) else (some false)))))))))) = some r:=h
 clear h
 by_cases c3 : (l0.length : Int) > 1048576
 ·rw [if_pos c3] at H
  have c3b0 : decide (1048576 < (l0.length : Int)) = true:=decide_eq_true c3
  have c3b1 : decide (1048576 < l0.length) = true:=decide_eq_true (by omega)
  clear c3
  obtain rfl:=Option.some.inj H
  go_enter Try.func6,Try.ntmps6
  go_wp2_with (first|((with_reducible refine gate_dst (N:=3) rfl ?_);refine box_event ?hg (N:=3) ?hd (cs:=#[.int .i64 a1_0,.int .i64 a1_1,.int .i64 a1_2]) (t:=41) ?hr ?_;(case hd => rfl);(case hg => rfl);(case hr => first|(go_simp;done)|(go_simp;rfl));intro gb293 hg w4 hbox hb;have n0_:=aM (below_step (by repeat (first|(with_reducible first|exact HB.out|apply bA|apply bN|apply bD)|exact HB.out)) hb);have n1_:=aM (hbox);have n2_:=aM ((by rw [hg];exact (below_size (by repeat (first|(with_reducible first|exact HB.out|apply bA|apply bN|apply bD)|exact HB.out))) : w.heap.size ≤ gb293));have n3_:=aM ((by rw [hg];exact (below_size (by repeat (first|(with_reducible first|exact HB.out|apply bA|apply bN|apply bD)|exact HB.out))) : w.heap.size ≤ gb293));clear HB;have HB:=n0_;have BK293:=n1_;have GW293:=n2_;have GE293:=n3_;clear n0_ n1_ n2_ n3_;clear hb hbox hg))
  go_ret
  exact ⟨by first|rfl|(simp only [i64_w,i32_w];done)|(simp only [i64_w,i32_w];rfl)|(simp [errW_none,errW_some] <;> rfl)|(simp [*,errW_none,errW_some] <;> rfl),by repeat (first|(with_reducible first|exact HB.out|apply bA|apply bN|apply bD|refine below_set ?_ GE293.out)|exact HB.out)⟩
 ·rw [if_neg c3] at H
  have c3b0 : decide (1048576 < (l0.length : Int)) = false:=decide_eq_false c3
  have c3b1 : decide (1048576 < l0.length) = false:=decide_eq_false (by omega)
  clear c3
  replace H:=Option.bind_eq_some_iff.mp H
  obtain ⟨t294,A50,H⟩:=H
  replace H : ((laws_toPay.f a1_0 a1_1 a1_2).bind fun bt297 => ((spec_BookPay.f k t294 bt297.1 bt297.2.1 bt297.2.2).bind fun t300 => ((laws_toIntS.f k l0).bind fun t303 => ((laws_toPay.f a1_0 a1_1 a1_2).bind fun bt306 => ((impl_BookPay.f k t303 bt306.1 bt306.2.1 bt306.2.2).bind fun t309 => ((laws_eqIntS.f k t309 t300).bind fun t312 => (if t312 = true then ((laws_toIntS.f k l0).bind fun t313 => ((laws_eqIntS.f k t303 t313).bind fun t316 => (if t316 = true then ((laws_markIntS.f k t303 1).bind fun bt317 => (if bt317.1 < 0 then (laws_FnExactBookPay.j0 k l0 t300 t309 true a1_0 a1_1 a1_2) else ((laws_eqIntS.f k t309 t300).bind fun t319 => (laws_FnExactBookPay.j0 k l0 t300 t309 (!t319) a1_0 a1_1 a1_2)))) else (some false)))) else (some false)))))))) = some r:=H
  have A5:=aM A50
  clear A50
  replace H:=Option.bind_eq_some_iff.mp H
  obtain ⟨⟨t297,t298,t299⟩,A60,H⟩:=H
  replace H : ((spec_BookPay.f k t294 t297 t298 t299).bind fun t300 => ((laws_toIntS.f k l0).bind fun t303 => ((laws_toPay.f a1_0 a1_1 a1_2).bind fun bt306 => ((impl_BookPay.f k t303 bt306.1 bt306.2.1 bt306.2.2).bind fun t309 => ((laws_eqIntS.f k t309 t300).bind fun t312 => (if t312 = true then ((laws_toIntS.f k l0).bind fun t313 => ((laws_eqIntS.f k t303 t313).bind fun t316 => (if t316 = true then ((laws_markIntS.f k t303 1).bind fun bt317 => (if bt317.1 < 0 then (laws_FnExactBookPay.j0 k l0 t300 t309 true a1_0 a1_1 a1_2) else ((laws_eqIntS.f k t309 t300).bind fun t319 => (laws_FnExactBookPay.j0 k l0 t300 t309 (!t319) a1_0 a1_1 a1_2)))) else (some false)))) else (some false))))))) = some r:=H
  have A6:=aM A60
  clear A60
  replace H:=Option.bind_eq_some_iff.mp H
  obtain ⟨t300,A70,H⟩:=H
  replace H : ((laws_toIntS.f k l0).bind fun t303 => ((laws_toPay.f a1_0 a1_1 a1_2).bind fun bt306 => ((impl_BookPay.f k t303 bt306.1 bt306.2.1 bt306.2.2).bind fun t309 => ((laws_eqIntS.f k t309 t300).bind fun t312 => (if t312 = true then ((laws_toIntS.f k l0).bind fun t313 => ((laws_eqIntS.f k t303 t313).bind fun t316 => (if t316 = true then ((laws_markIntS.f k t303 1).bind fun bt317 => (if bt317.1 < 0 then (laws_FnExactBookPay.j0 k l0 t300 t309 true a1_0 a1_1 a1_2) else ((laws_eqIntS.f k t309 t300).bind fun t319 => (laws_FnExactBookPay.j0 k l0 t300 t309 (!t319) a1_0 a1_1 a1_2)))) else (some false)))) else (some false)))))) = some r:=H
  have A7:=aM A70
  clear A70
  replace H:=Option.bind_eq_some_iff.mp H
  obtain ⟨t303,A80,H⟩:=H
  replace H : ((laws_toPay.f a1_0 a1_1 a1_2).bind fun bt306 => ((impl_BookPay.f k t303 bt306.1 bt306.2.1 bt306.2.2).bind fun t309 => ((laws_eqIntS.f k t309 t300).bind fun t312 => (if t312 = true then ((laws_toIntS.f k l0).bind fun t313 => ((laws_eqIntS.f k t303 t313).bind fun t316 => (if t316 = true then ((laws_markIntS.f k t303 1).bind fun bt317 => (if bt317.1 < 0 then (laws_FnExactBookPay.j0 k l0 t300 t309 true a1_0 a1_1 a1_2) else ((laws_eqIntS.f k t309 t300).bind fun t319 => (laws_FnExactBookPay.j0 k l0 t300 t309 (!t319) a1_0 a1_1 a1_2)))) else (some false)))) else (some false))))) = some r:=H
  have A8:=aM A80
  clear A80
  replace H:=Option.bind_eq_some_iff.mp H
  obtain ⟨⟨t306,t307,t308⟩,A90,H⟩:=H
  replace H : ((impl_BookPay.f k t303 t306 t307 t308).bind fun t309 => ((laws_eqIntS.f k t309 t300).bind fun t312 => (if t312 = true then ((laws_toIntS.f k l0).bind fun t313 => ((laws_eqIntS.f k t303 t313).bind fun t316 => (if t316 = true then ((laws_markIntS.f k t303 1).bind fun bt317 => (if bt317.1 < 0 then (laws_FnExactBookPay.j0 k l0 t300 t309 true a1_0 a1_1 a1_2) else ((laws_eqIntS.f k t309 t300).bind fun t319 => (laws_FnExactBookPay.j0 k l0 t300 t309 (!t319) a1_0 a1_1 a1_2)))) else (some false)))) else (some false)))) = some r:=H
  have A9:=aM A90
  clear A90
  replace H:=Option.bind_eq_some_iff.mp H
  obtain ⟨t309,A100,H⟩:=H
  replace H : ((laws_eqIntS.f k t309 t300).bind fun t312 => (if t312 = true then ((laws_toIntS.f k l0).bind fun t313 => ((laws_eqIntS.f k t303 t313).bind fun t316 => (if t316 = true then ((laws_markIntS.f k t303 1).bind fun bt317 => (if bt317.1 < 0 then (laws_FnExactBookPay.j0 k l0 t300 t309 true a1_0 a1_1 a1_2) else ((laws_eqIntS.f k t309 t300).bind fun t319 => (laws_FnExactBookPay.j0 k l0 t300 t309 (!t319) a1_0 a1_1 a1_2)))) else (some false)))) else (some false))) = some r:=H
  have A10:=aM A100
  clear A100
  replace H:=Option.bind_eq_some_iff.mp H
  obtain ⟨t312,A110,H⟩:=H
  replace H : (if t312 = true then ((laws_toIntS.f k l0).bind fun t313 => ((laws_eqIntS.f k t303 t313).bind fun t316 => (if t316 = true then ((laws_markIntS.f k t303 1).bind fun bt317 => (if bt317.1 < 0 then (laws_FnExactBookPay.j0 k l0 t300 t309 true a1_0 a1_1 a1_2) else ((laws_eqIntS.f k t309 t300).bind fun t319 => (laws_FnExactBookPay.j0 k l0 t300 t309 (!t319) a1_0 a1_1 a1_2)))) else (some false)))) else (some false)) = some r:=H
  have A11:=aM A110
  clear A110
  by_cases c12 : t312 = true
  ·subst c12
   have H1 : ((laws_toIntS.f k l0).bind fun t313 => ((laws_eqIntS.f k t303 t313).bind fun t316 => (if t316 = true then ((laws_markIntS.f k t303 1).bind fun bt317 => (if bt317.1 < 0 then (laws_FnExactBookPay.j0 k l0 t300 t309 true a1_0 a1_1 a1_2) else ((laws_eqIntS.f k t309 t300).bind fun t319 => (laws_FnExactBookPay.j0 k l0 t300 t309 (!t319) a1_0 a1_1 a1_2)))) else (some false)))) = some r:=by rw [if_pos rfl] at H;exact H
   clear H
   have H:=H1
   clear H1
   replace H:=Option.bind_eq_some_iff.mp H
   obtain ⟨t313,A130,H⟩:=H
   replace H : ((laws_eqIntS.f k t303 t313).bind fun t316 => (if t316 = true then ((laws_markIntS.f k t303 1).bind fun bt317 => (if bt317.1 < 0 then (laws_FnExactBookPay.j0 k l0 t300 t309 true a1_0 a1_1 a1_2) else ((laws_eqIntS.f k t309 t300).bind fun t319 => (laws_FnExactBookPay.j0 k l0 t300 t309 (!t319) a1_0 a1_1 a1_2)))) else (some false))) = some r:=H
   have A13:=aM A130
   clear A130
   replace H:=Option.bind_eq_some_iff.mp H
   obtain ⟨t316,A140,H⟩:=H
   replace H : (if t316 = true then ((laws_markIntS.f k t303 1).bind fun bt317 => (if bt317.1 < 0 then (laws_FnExactBookPay.j0 k l0 t300 t309 true a1_0 a1_1 a1_2) else ((laws_eqIntS.f k t309 t300).bind fun t319 => (laws_FnExactBookPay.j0 k l0 t300 t309 (!t319) a1_0 a1_1 a1_2)))) else (some false)) = some r:=H
   have A14:=aM A140
   clear A140
   by_cases c15 : t316 = true
   ·subst c15
    have H1 : ((laws_markIntS.f k t303 1).bind fun bt317 => (if bt317.1 < 0 then (laws_FnExactBookPay.j0 k l0 t300 t309 true a1_0 a1_1 a1_2) else ((laws_eqIntS.f k t309 t300).bind fun t319 => (laws_FnExactBookPay.j0 k l0 t300 t309 (!t319) a1_0 a1_1 a1_2)))) = some r:=by rw [if_pos rfl] at H;exact H
    clear H
    have H:=H1
    clear H1
    replace H:=Option.bind_eq_some_iff.mp H
    obtain ⟨⟨t317,t318⟩,A160,H⟩:=H
    replace H : (if t317 < 0 then (laws_FnExactBookPay.j0 k l0 t300 t309 true a1_0 a1_1 a1_2) else ((laws_eqIntS.f k t309 t300).bind fun t319 => (laws_FnExactBookPay.j0 k l0 t300 t309 (!t319) a1_0 a1_1 a1_2))) = some r:=H
    have A16:=aM A160
    clear A160
    have HC17:=aM H
    clear H
    go_enter Try.func6,Try.ntmps6
    try go_wp2_with (first|((with_reducible refine gate_dst (N:=3) rfl ?_);refine box_event ?hg (N:=3) ?hd (cs:=#[.int .i64 a1_0,.int .i64 a1_1,.int .i64 a1_2]) (t:=41) ?hr ?_;(case hd => rfl);(case hg => rfl);(case hr => first|(go_simp;done)|(go_simp;rfl));intro gb293 hg w18 hbox hb;have n0_:=aM (below_step (by repeat (first|(with_reducible first|exact HB.out|apply bA|apply bN|apply bD)|exact HB.out)) hb);have n1_:=aM (hbox);have n2_:=aM ((by rw [hg];exact (below_size (by repeat (first|(with_reducible first|exact HB.out|apply bA|apply bN|apply bD)|exact HB.out))) : w.heap.size ≤ gb293));have n3_:=aM ((by rw [hg];exact (below_size (by repeat (first|(with_reducible first|exact HB.out|apply bA|apply bN|apply bD)|exact HB.out))) : w.heap.size ≤ gb293));clear HB;have HB:=n0_;have BK293:=n1_;have GW293:=n2_;have GE293:=n3_;clear n0_ n1_ n2_ n3_;clear hb hbox hg))
    have n0_:=aM (blk_drew BK293.out)
    have n1_:=aM (bD HB.out)
    clear BK293
    clear HB
    have BK293:=n0_
    have HB:=n1_
    clear n0_ n1_
    refine start_ (n:=6) (S:=fun w' => w'.cell? ⟨gb293,0,none⟩ = some (.int .i64 a1_0) ∧ w'.cell? ⟨gb293,1,none⟩ = some (.int .i64 a1_1) ∧ w'.cell? ⟨gb293,2,none⟩ = some (.int .i64 a1_2)) (ds:=[]) #[bF,bF,bF,bF,bF,bF] (by kernel_rfl) rfl rfl ⟨(blk_cell BK293.out 0).trans rfl,(blk_cell BK293.out 1).trans rfl,(blk_cell BK293.out 2).trans rfl⟩ (fun hHeld => ?_)
    generalize w18.drew = w19 at BK293 HB hHeld ⊢
    refine pure_ (i:=0) (N:=some 15) (v:=?_) (a':=?_) #[bT,bF,bF,bF,bF,bF] rfl rfl (by kernel_rfl) (fun _ _ _ h => h) (Or.inl ⟨by rfl,?_⟩) ?_ ?_
    rotate_left;(· intro w';go_simp;with_reducible rfl);rotate_left;(· simp only [Act.put,sI,sZ,sS,i64_w,i32_w];rfl)
    refine take_ (i:=2) (N:=some 17) (v:=?_) (a':=?_) #[bT,bF,bT,bF,bF,bF] rfl rfl (by kernel_rfl) (fun _ _ _ h => h) (Or.inl ⟨by rfl,?_⟩) hHeld ?_ ?_
    rotate_left
    ·rintro w' ⟨s0,s1,s2⟩
     (try simp only [Int.toNat_natCast] at s0 s1 s2)
     go_simp
     with_reducible rfl
    rotate_left
    ·simp only [Act.put,sI,sZ,sS,i64_w,i32_w]
     rfl
    refine one_ (i:=1) (N:=some 16) #[bT,bT,bT,bF,bF,bF] rfl rfl (by kernel_rfl) (by decide) (fun K hK => ?_)
    refine goes_ Try.func26 (by kernel_rfl) rfl #[.slice A0 l0.length c0] (by rfl) rfl rfl (by (try simp only [List.map_toArray,List.map_cons,List.map_nil]);first|done|rfl|(simp only [List.length_drop,List.length_take];rfl)) ?_
    with_reducible refine (laws_toIntS.calls k _ _ l0 t294 _ ?side1 ?side2 A5.out).mono ?_
    (case side1 => repeat (first|exact (Kd.C_below HR0.out HB.out)|(with_reducible refine Kd.C_alloc ?_ _)|(with_reducible refine Kd.C_drewN ?_ _)|(with_reducible refine Kd.C_drew ?_)))
    (case side2 => exact HC0.out)
    rintro e w20 ⟨v295,rfl,ho0,hb⟩
    refine ⟨_,rfl,?_⟩
    have n0_:=aM (Kd.R_lower ho0 (below_size (by repeat (first|(with_reducible first|exact HB.out|apply bA|apply bN|apply bD|refine below_set ?_ GE293.out)|exact HB.out))))
    have n1_:=aM (blk_below (g:=gb293) (o:=.cells #[.int .i64 a1_0,.int .i64 a1_1,.int .i64 a1_2] 41 (0,0)) (by (with_reducible repeat (first|refine blk_drewN ?_ _|refine blk_drew ?_|refine blk_alloc ?_ _));exact BK293.out) hb)
    have n2_:=aM (below_step (by repeat (first|(with_reducible first|exact HB.out|apply bA|apply bN|apply bD|refine below_set ?_ GE293.out)|exact HB.out)) hb)
    clear BK293
    clear HB
    have HO296:=n0_
    have BK293:=n1_
    have HB:=n2_
    clear n0_ n1_ n2_
    (try clear hb)
    (try clear hb2)
    (try clear hk)
    (try clear hi)
    (try clear ho0)
    refine hK.out _ _ ⟨(blk_cell BK293.out 0).trans rfl,(blk_cell BK293.out 1).trans rfl,(blk_cell BK293.out 2).trans rfl⟩ (fun hHeld => ?_)
    clear hK K
    refine norm_ (a':=?_) ?_ ?_
    rotate_left
    ·show Act.put _ (some 16) _ = _
     simp only [Act.put,sI,sZ,sS,i64_w,i32_w]
     rfl
    refine one_ (i:=3) (N:=some 18) #[bT,bT,bT,bT,bF,bF] rfl rfl (by kernel_rfl) (by decide) (fun K hK => ?_)
    refine goes_ Try.func27 (by kernel_rfl) rfl #[.agg #[.int .i64 a1_0,.int .i64 a1_1,.int .i64 a1_2]] (by rfl) rfl rfl (by (try simp only [List.map_toArray,List.map_cons,List.map_nil]);first|done|rfl|(simp only [List.length_drop,List.length_take];rfl)) ?_
    with_reducible refine (laws_toPay.calls a1_0 a1_1 a1_2 t297 t298 t299 _ A6.out).mono ?_
    rintro e w21 ⟨rfl,hb⟩
    refine ⟨_,rfl,?_⟩
    have n0_:=aM (Kd.R_below (by (with_reducible repeat (first|apply Kd.R_alloc|apply Kd.R_drewN|apply Kd.R_drew));exact HO296.out) hb)
    have n1_:=aM (blk_below (g:=gb293) (o:=.cells #[.int .i64 a1_0,.int .i64 a1_1,.int .i64 a1_2] 41 (0,0)) (by (with_reducible repeat (first|refine blk_drewN ?_ _|refine blk_drew ?_|refine blk_alloc ?_ _));exact BK293.out) hb)
    have n2_:=aM (below_step (by repeat (first|(with_reducible first|exact HB.out|apply bA|apply bN|apply bD|refine below_set ?_ GE293.out)|exact HB.out)) hb)
    clear HO296
    clear BK293
    clear HB
    have HO296:=n0_
    have BK293:=n1_
    have HB:=n2_
    clear n0_ n1_ n2_
    (try clear hb)
    (try clear hb2)
    (try clear hk)
    (try clear hi)
    obtain ⟨Ao22,co22,eo22⟩:=Kd.R_slice HO296.out
    (first|subst eo22|(injection eo22 with f1_ f2_ f3_;have f4_:=f1_.symm;have f5_:=f3_.symm;clear f1_ f2_ f3_;subst f4_;subst f5_))
    refine hK.out _ _ ⟨(blk_cell BK293.out 0).trans rfl,(blk_cell BK293.out 1).trans rfl,(blk_cell BK293.out 2).trans rfl⟩ (fun hHeld => ?_)
    clear hK K
    refine norm_ (a':=?_) ?_ ?_
    rotate_left
    ·show Act.put _ (some 18) _ = _
     simp only [Act.put,sI,sZ,sS,i64_w,i32_w]
     rfl
    refine one_ (i:=4) (N:=some 19) #[bT,bT,bT,bT,bT,bF] rfl rfl (by kernel_rfl) (by decide) (fun K hK => ?_)
    refine goes_ Try.func25 (by kernel_rfl) rfl #[.slice Ao22 t294.length co22,.agg #[.int .i64 t297,.int .i64 t298,.int .i64 t299]] (by rfl) rfl rfl (by (try simp only [List.map_toArray,List.map_cons,List.map_nil]);first|done|rfl|(simp only [List.length_drop,List.length_take];rfl)) ?_
    with_reducible refine (spec_BookPay.calls k _ _ t294 t297 t298 t299 t300 _ ?side1 ?side2 A7.out).mono ?_
    (case side1 => repeat (first|exact (Kd.R_reads' HO296.out).2.2|(with_reducible refine Kd.C_alloc ?_ _)|(with_reducible refine Kd.C_drewN ?_ _)|(with_reducible refine Kd.C_drew ?_)))
    (case side2 => exact (Kd.R_reads' HO296.out).2.1)
    rintro e w23 ⟨v301,rfl,ho0,hb⟩
    refine ⟨_,rfl,?_⟩
    have n0_:=aM (Kd.R_elder' (by (with_reducible repeat (first|apply Kd.R_alloc|apply Kd.R_drewN|apply Kd.R_drew));exact HO296.out) (Kd.R_base ho0) hb)
    have n1_:=aM (Kd.R_lower (Kd.R_new' ho0 (Kd.R_lt (by (with_reducible repeat (first|apply Kd.R_alloc|apply Kd.R_drewN|apply Kd.R_drew));exact HO296.out))) (below_size (by repeat (first|(with_reducible first|exact HB.out|apply bA|apply bN|apply bD|refine below_set ?_ GE293.out)|exact HB.out))))
    have n2_:=aM (blk_below (g:=gb293) (o:=.cells #[.int .i64 a1_0,.int .i64 a1_1,.int .i64 a1_2] 41 (0,0)) (by (with_reducible repeat (first|refine blk_drewN ?_ _|refine blk_drew ?_|refine blk_alloc ?_ _));exact BK293.out) hb)
    have n3_:=aM (below_step (by repeat (first|(with_reducible first|exact HB.out|apply bA|apply bN|apply bD|refine below_set ?_ GE293.out)|exact HB.out)) hb)
    clear HO296
    clear BK293
    clear HB
    have HO296:=n0_
    have HO302:=n1_
    have BK293:=n2_
    have HB:=n3_
    clear n0_ n1_ n2_ n3_
    (try clear hb)
    (try clear hb2)
    (try clear hk)
    (try clear hi)
    (try clear ho0)
    refine hK.out _ _ ⟨(blk_cell BK293.out 0).trans rfl,(blk_cell BK293.out 1).trans rfl,(blk_cell BK293.out 2).trans rfl⟩ (fun hHeld => ?_)
    clear hK K
    refine norm_ (a':=?_) ?_ ?_
    rotate_left
    ·show Act.put _ (some 19) _ = _
     simp only [Act.put,sI,sZ,sS,i64_w,i32_w]
     rfl
    refine pure_ (i:=5) (N:=some 5) (v:=?_) (a':=?_) #[bT,bT,bT,bT,bT,bT] rfl rfl (by kernel_rfl) (fun _ _ _ h => h) (Or.inl ⟨by rfl,?_⟩) ?_ ?_
    rotate_left;(· intro w';go_simp;with_reducible rfl);rotate_left;(· simp only [Act.put,sI,sZ,sS,i64_w,i32_w];rfl)
    refine done_ (by kernel_rfl) ?_
    go_upto_region 12 with (first|((with_reducible refine gate_callee (f:=26) rfl ?_);refine goesL_ (some 21) rfl rfl Try.func26 (by kernel_rfl) rfl #[.slice A0 l0.length c0] rfl (by (try simp only [List.map_toArray,List.map_cons,List.map_nil]);first|done|rfl|(simp only [List.length_drop,List.length_take];rfl)) ?_;(with_reducible refine (laws_toIntS.calls k _ _ l0 t303 _ ?side1 ?side2 A8.out).mono ?_);(case side1 => repeat (first|exact (Kd.C_below HR0.out HB.out)|(with_reducible refine Kd.C_alloc ?_ _)|(with_reducible refine Kd.C_drewN ?_ _)|(with_reducible refine Kd.C_drew ?_)));(case side2 => exact HC0.out);rintro e w24 ⟨v304,rfl,ho0,hb⟩;refine ⟨_,rfl,?_⟩;have n0_:=aM (Kd.R_elder' (by (with_reducible repeat (first|apply Kd.R_alloc|apply Kd.R_drewN|apply Kd.R_drew));exact HO296.out) (Kd.R_base ho0) hb);have n1_:=aM (Kd.R_elder' (by (with_reducible repeat (first|apply Kd.R_alloc|apply Kd.R_drewN|apply Kd.R_drew));exact HO302.out) (Kd.R_base ho0) hb);have n2_:=aM (Kd.R_lower (Kd.R_new' (Kd.R_new' ho0 (Kd.R_lt (by (with_reducible repeat (first|apply Kd.R_alloc|apply Kd.R_drewN|apply Kd.R_drew));exact HO296.out))) (Kd.R_lt (by (with_reducible repeat (first|apply Kd.R_alloc|apply Kd.R_drewN|apply Kd.R_drew));exact HO302.out))) (below_size (by repeat (first|(with_reducible first|exact HB.out|apply bA|apply bN|apply bD|refine below_set ?_ GE293.out)|exact HB.out))));have n3_:=aM (blk_below (g:=gb293) (o:=.cells #[.int .i64 a1_0,.int .i64 a1_1,.int .i64 a1_2] 41 (0,0)) (by (with_reducible repeat (first|refine blk_drewN ?_ _|refine blk_drew ?_|refine blk_alloc ?_ _));exact BK293.out) hb);have n4_:=aM (below_step (by repeat (first|(with_reducible first|exact HB.out|apply bA|apply bN|apply bD|refine below_set ?_ GE293.out)|exact HB.out)) hb);clear HO296;clear HO302;clear BK293;clear HB;have HO296:=n0_;have HO302:=n1_;have HO305:=n2_;have BK293:=n3_;have HB:=n4_;clear n0_ n1_ n2_ n3_ n4_;(try clear hb);(try clear hb2);(try clear hk);(try clear hi);(try clear ho0);have hcz25_0 : w24.cell? ⟨gb293,0,none⟩ = some (.int .i64 a1_0):=(blk_cell BK293.out 0).trans rfl;have hcz25_1 : w24.cell? ⟨gb293,1,none⟩ = some (.int .i64 a1_1):=(blk_cell BK293.out 1).trans rfl;have hcz25_2 : w24.cell? ⟨gb293,2,none⟩ = some (.int .i64 a1_2):=(blk_cell BK293.out 2).trans rfl;have hfz25_0:=blk_frozen BK293.out 0;have hfz25_1:=blk_frozen BK293.out 1;have hfz25_2:=blk_frozen BK293.out 2)|((with_reducible refine gate_callee (f:=27) rfl ?_);refine goesL_ (some 24) rfl rfl Try.func27 (by kernel_rfl) rfl #[.agg #[.int .i64 a1_0,.int .i64 a1_1,.int .i64 a1_2]] rfl (by (try simp only [List.map_toArray,List.map_cons,List.map_nil]);first|done|rfl|(simp only [List.length_drop,List.length_take];rfl)) ?_;(with_reducible refine (laws_toPay.calls a1_0 a1_1 a1_2 t306 t307 t308 _ A9.out).mono ?_);rintro e w26 ⟨rfl,hb⟩;refine ⟨_,rfl,?_⟩;have n0_:=aM (Kd.R_below (by (with_reducible repeat (first|apply Kd.R_alloc|apply Kd.R_drewN|apply Kd.R_drew));exact HO296.out) hb);have n1_:=aM (Kd.R_below (by (with_reducible repeat (first|apply Kd.R_alloc|apply Kd.R_drewN|apply Kd.R_drew));exact HO302.out) hb);have n2_:=aM (Kd.R_below (by (with_reducible repeat (first|apply Kd.R_alloc|apply Kd.R_drewN|apply Kd.R_drew));exact HO305.out) hb);have n3_:=aM (blk_below (g:=gb293) (o:=.cells #[.int .i64 a1_0,.int .i64 a1_1,.int .i64 a1_2] 41 (0,0)) (by (with_reducible repeat (first|refine blk_drewN ?_ _|refine blk_drew ?_|refine blk_alloc ?_ _));exact BK293.out) hb);have n4_:=aM (below_step (by repeat (first|(with_reducible first|exact HB.out|apply bA|apply bN|apply bD|refine below_set ?_ GE293.out)|exact HB.out)) hb);clear HO296;clear HO302;clear HO305;clear BK293;clear HB;have HO296:=n0_;have HO302:=n1_;have HO305:=n2_;have BK293:=n3_;have HB:=n4_;clear n0_ n1_ n2_ n3_ n4_;(try clear hb);(try clear hb2);(try clear hk);(try clear hi);obtain ⟨Ao27,co27,eo27⟩:=Kd.R_slice HO305.out;subst eo27)|((with_reducible refine gate_callee (f:=28) rfl ?_);refine goesL_ (some 25) rfl rfl Try.func28 (by kernel_rfl) rfl #[.slice Ao27 t303.length co27,.agg #[.int .i64 t306,.int .i64 t307,.int .i64 t308]] rfl (by (try simp only [List.map_toArray,List.map_cons,List.map_nil]);first|done|rfl|(simp only [List.length_drop,List.length_take];rfl)) ?_;(with_reducible refine (impl_BookPay.calls k _ _ t303 t306 t307 t308 t309 _ ?side1 ?side2 A10.out).mono ?_);(case side1 => repeat (first|exact (Kd.R_reads' HO305.out).2.2|(with_reducible refine Kd.C_alloc ?_ _)|(with_reducible refine Kd.C_drewN ?_ _)|(with_reducible refine Kd.C_drew ?_)));(case side2 => exact (Kd.R_reads' HO305.out).2.1);rintro e w28 ⟨v310,rfl,ho0,hb⟩;refine ⟨_,rfl,?_⟩;have n0_:=aM (Kd.R_elder' (by (with_reducible repeat (first|apply Kd.R_alloc|apply Kd.R_drewN|apply Kd.R_drew));exact HO296.out) (Kd.R_base ho0) hb);have n1_:=aM (Kd.R_elder' (by (with_reducible repeat (first|apply Kd.R_alloc|apply Kd.R_drewN|apply Kd.R_drew));exact HO302.out) (Kd.R_base ho0) hb);have n2_:=aM (Kd.R_elder' (by (with_reducible repeat (first|apply Kd.R_alloc|apply Kd.R_drewN|apply Kd.R_drew));exact HO305.out) (Kd.R_base ho0) hb);have n3_:=aM (Kd.R_lower (Kd.R_new' (Kd.R_new' (Kd.R_new' ho0 (Kd.R_lt (by (with_reducible repeat (first|apply Kd.R_alloc|apply Kd.R_drewN|apply Kd.R_drew));exact HO296.out))) (Kd.R_lt (by (with_reducible repeat (first|apply Kd.R_alloc|apply Kd.R_drewN|apply Kd.R_drew));exact HO302.out))) (Kd.R_lt (by (with_reducible repeat (first|apply Kd.R_alloc|apply Kd.R_drewN|apply Kd.R_drew));exact HO305.out))) (below_size (by repeat (first|(with_reducible first|exact HB.out|apply bA|apply bN|apply bD|refine below_set ?_ GE293.out)|exact HB.out))));have n4_:=aM (blk_below (g:=gb293) (o:=.cells #[.int .i64 a1_0,.int .i64 a1_1,.int .i64 a1_2] 41 (0,0)) (by (with_reducible repeat (first|refine blk_drewN ?_ _|refine blk_drew ?_|refine blk_alloc ?_ _));exact BK293.out) hb);have n5_:=aM (below_step (by repeat (first|(with_reducible first|exact HB.out|apply bA|apply bN|apply bD|refine below_set ?_ GE293.out)|exact HB.out)) hb);clear HO296;clear HO302;clear HO305;clear BK293;clear HB;have HO296:=n0_;have HO302:=n1_;have HO305:=n2_;have HO311:=n3_;have BK293:=n4_;have HB:=n5_;clear n0_ n1_ n2_ n3_ n4_ n5_;(try clear hb);(try clear hb2);(try clear hk);(try clear hi);(try clear ho0);obtain ⟨Ao29,co29,eo29⟩:=Kd.R_slice HO311.out;subst eo29;obtain ⟨Ao30,co30,eo30⟩:=Kd.R_slice HO302.out;subst eo30)|((with_reducible refine gate_callee (f:=10) rfl ?_);refine goesL_ (some 28) rfl rfl Try.func10 (by kernel_rfl) rfl #[.slice Ao29 t309.length co29,.slice Ao30 t300.length co30] rfl (by (try simp only [List.map_toArray,List.map_cons,List.map_nil]);first|done|rfl|(simp only [List.length_drop,List.length_take];rfl)) ?_;(with_reducible refine (laws_eqIntS.calls k _ _ t309 _ _ t300 true _ ?side1 ?side2 ?side3 ?side4 A11.out).mono ?_);(case side1 => repeat (first|exact (Kd.R_reads' HO311.out).2.2|(with_reducible refine Kd.C_alloc ?_ _)|(with_reducible refine Kd.C_drewN ?_ _)|(with_reducible refine Kd.C_drew ?_)));(case side2 => exact (Kd.R_reads' HO311.out).2.1);(case side3 => repeat (first|exact (Kd.R_reads' HO302.out).2.2|(with_reducible refine Kd.C_alloc ?_ _)|(with_reducible refine Kd.C_drewN ?_ _)|(with_reducible refine Kd.C_drew ?_)));(case side4 => exact (Kd.R_reads' HO302.out).2.1);rintro e w' ⟨rfl,⟨nd,rfl⟩⟩;refine ⟨_,rfl,?_⟩)|((with_reducible refine gate_callee (f:=26) rfl ?_);refine goesL_ (some 32) rfl rfl Try.func26 (by kernel_rfl) rfl #[.slice A0 l0.length c0] rfl (by (try simp only [List.map_toArray,List.map_cons,List.map_nil]);first|done|rfl|(simp only [List.length_drop,List.length_take];rfl)) ?_;(with_reducible refine (laws_toIntS.calls k _ _ l0 t313 _ ?side1 ?side2 A13.out).mono ?_);(case side1 => repeat (first|exact (Kd.C_below HR0.out (by repeat (first|(with_reducible first|exact HB.out|apply bA|apply bN|apply bD|refine below_set ?_ GE293.out)|exact HB.out)))|(with_reducible refine Kd.C_alloc ?_ _)|(with_reducible refine Kd.C_drewN ?_ _)|(with_reducible refine Kd.C_drew ?_)));(case side2 => exact HC0.out);rintro e w31 ⟨v314,rfl,ho0,hb⟩;refine ⟨_,rfl,?_⟩;have n0_:=aM (Kd.R_elder' (by (with_reducible repeat (first|apply Kd.R_alloc|apply Kd.R_drewN|apply Kd.R_drew));exact HO296.out) (Kd.R_base ho0) hb);have n1_:=aM (Kd.R_elder' (by (with_reducible repeat (first|apply Kd.R_alloc|apply Kd.R_drewN|apply Kd.R_drew));exact HO302.out) (Kd.R_base ho0) hb);have n2_:=aM (Kd.R_elder' (by (with_reducible repeat (first|apply Kd.R_alloc|apply Kd.R_drewN|apply Kd.R_drew));exact HO305.out) (Kd.R_base ho0) hb);have n3_:=aM (Kd.R_elder' (by (with_reducible repeat (first|apply Kd.R_alloc|apply Kd.R_drewN|apply Kd.R_drew));exact HO311.out) (Kd.R_base ho0) hb);have n4_:=aM (Kd.R_lower (Kd.R_new' (Kd.R_new' (Kd.R_new' (Kd.R_new' ho0 (Kd.R_lt (by (with_reducible repeat (first|apply Kd.R_alloc|apply Kd.R_drewN|apply Kd.R_drew));exact HO296.out))) (Kd.R_lt (by (with_reducible repeat (first|apply Kd.R_alloc|apply Kd.R_drewN|apply Kd.R_drew));exact HO302.out))) (Kd.R_lt (by (with_reducible repeat (first|apply Kd.R_alloc|apply Kd.R_drewN|apply Kd.R_drew));exact HO305.out))) (Kd.R_lt (by (with_reducible repeat (first|apply Kd.R_alloc|apply Kd.R_drewN|apply Kd.R_drew));exact HO311.out))) (below_size (by repeat (first|(with_reducible first|exact HB.out|apply bA|apply bN|apply bD|refine below_set ?_ GE293.out)|exact HB.out))));have n5_:=aM (blk_below (g:=gb293) (o:=.cells #[.int .i64 a1_0,.int .i64 a1_1,.int .i64 a1_2] 41 (0,0)) (by (with_reducible repeat (first|refine blk_drewN ?_ _|refine blk_drew ?_|refine blk_alloc ?_ _));exact BK293.out) hb);have n6_:=aM (below_step (by repeat (first|(with_reducible first|exact HB.out|apply bA|apply bN|apply bD|refine below_set ?_ GE293.out)|exact HB.out)) hb);clear HO296;clear HO302;clear HO305;clear HO311;clear BK293;clear HB;have HO296:=n0_;have HO302:=n1_;have HO305:=n2_;have HO311:=n3_;have HO315:=n4_;have BK293:=n5_;have HB:=n6_;clear n0_ n1_ n2_ n3_ n4_ n5_ n6_;(try clear hb);(try clear hb2);(try clear hk);(try clear hi);(try clear ho0);obtain ⟨Ao32,co32,eo32⟩:=Kd.R_slice HO315.out;subst eo32)|((with_reducible refine gate_callee (f:=10) rfl ?_);refine goesL_ (some 33) rfl rfl Try.func10 (by kernel_rfl) rfl #[.slice Ao27 t303.length co27,.slice Ao32 t313.length co32] rfl (by (try simp only [List.map_toArray,List.map_cons,List.map_nil]);first|done|rfl|(simp only [List.length_drop,List.length_take];rfl)) ?_;(with_reducible refine (laws_eqIntS.calls k _ _ t303 _ _ t313 true _ ?side1 ?side2 ?side3 ?side4 A14.out).mono ?_);(case side1 => repeat (first|exact (Kd.R_reads' HO305.out).2.2|(with_reducible refine Kd.C_alloc ?_ _)|(with_reducible refine Kd.C_drewN ?_ _)|(with_reducible refine Kd.C_drew ?_)));(case side2 => exact (Kd.R_reads' HO305.out).2.1);(case side3 => repeat (first|exact (Kd.R_reads' HO315.out).2.2|(with_reducible refine Kd.C_alloc ?_ _)|(with_reducible refine Kd.C_drewN ?_ _)|(with_reducible refine Kd.C_drew ?_)));(case side4 => exact (Kd.R_reads' HO315.out).2.1);rintro e w' ⟨rfl,⟨nd,rfl⟩⟩;refine ⟨_,rfl,?_⟩)|((with_reducible refine gate_callee (f:=11) rfl ?_);refine goesL_ (some 37) rfl rfl Try.func11 (by kernel_rfl) rfl #[.slice Ao27 t303.length co27,.int .i64 1] rfl (by (try simp only [List.map_toArray,List.map_cons,List.map_nil]);first|done|rfl|(simp only [List.length_drop,List.length_take];rfl)) ?_;(with_reducible refine (laws_markIntS.calls k (fun k_ => some k_ = (.slice Ao27 t303.length co27 : Value).ownBlock) (.slice Ao27 t303.length co27) t303 1 t317 t318 w _ ?side1 ?side2 A16.out).mono ?_);(case side1 => repeat (first|(with_reducible first|exact HB.out|apply bA|apply bN|apply bD|refine below_set ?_ GE293.out)|exact HB.out));(case side2 => exact Kd.R_tight rfl HO305.out);rintro e w33 ⟨rfl,hy0,hb,hkp⟩;refine ⟨_,rfl,?_⟩;have n0_:=aM (blk_kept (by (with_reducible repeat (first|refine blk_drewN ?_ _|refine blk_drew ?_|refine blk_alloc ?_ _));exact BK293.out) hkp (fun hs_ => (fun e_ => (Kd.R_ne HO305.out BK293.out (by decide)) e_) hs_));have n1_:=aM (Kd.R_mono (ok':=fun k_ => some k_ ≠ (.slice Ao30 t300.length co30 : Value).ownBlock ∧ some k_ ≠ (.slice Ao27 t303.length co27 : Value).ownBlock ∧ some k_ ≠ (.slice Ao29 t309.length co29 : Value).ownBlock ∧ some k_ ≠ (.slice Ao32 t313.length co32 : Value).ownBlock) (Kd.R_keptB (HO296.out) hkp (fun k_ hk_ hs_ => (hk_.1.1.2) hs_)) (fun k_ hk_ => ⟨hk_.1.1.1.1.2,hk_.1.1.1.2,hk_.1.1.2,hk_.1.2⟩));have n2_:=aM (Kd.R_mono (ok':=fun k_ => some k_ ≠ (.slice Ao22 t294.length co22 : Value).ownBlock ∧ some k_ ≠ (.slice Ao27 t303.length co27 : Value).ownBlock ∧ some k_ ≠ (.slice Ao29 t309.length co29 : Value).ownBlock ∧ some k_ ≠ (.slice Ao32 t313.length co32 : Value).ownBlock) (Kd.R_keptB (HO302.out) hkp (fun k_ hk_ hs_ => (hk_.1.1.2) hs_)) (fun k_ hk_ => ⟨hk_.1.1.1.1.2,hk_.1.1.1.2,hk_.1.1.2,hk_.1.2⟩));have n3_:=aM (Kd.R_reok rfl hy0 (fun k_ e_ => Kd.R_own1 HO305.out k_ e_));have n4_:=aM (Kd.R_mono (ok':=fun k_ => some k_ ≠ (.slice Ao22 t294.length co22 : Value).ownBlock ∧ some k_ ≠ (.slice Ao30 t300.length co30 : Value).ownBlock ∧ some k_ ≠ (.slice Ao27 t303.length co27 : Value).ownBlock ∧ some k_ ≠ (.slice Ao32 t313.length co32 : Value).ownBlock) (Kd.R_keptB (HO311.out) hkp (fun k_ hk_ hs_ => (hk_.1.2) hs_)) (fun k_ hk_ => ⟨hk_.1.1.1.1.2,hk_.1.1.1.2,hk_.1.1.2,hk_.1.2⟩));have n5_:=aM (Kd.R_mono (ok':=fun k_ => some k_ ≠ (.slice Ao22 t294.length co22 : Value).ownBlock ∧ some k_ ≠ (.slice Ao30 t300.length co30 : Value).ownBlock ∧ some k_ ≠ (.slice Ao27 t303.length co27 : Value).ownBlock ∧ some k_ ≠ (.slice Ao29 t309.length co29 : Value).ownBlock) (Kd.R_keptB (HO315.out) hkp (fun k_ hk_ hs_ => (hk_.1.2) hs_)) (fun k_ hk_ => ⟨hk_.1.1.1.1.2,hk_.1.1.1.2,hk_.1.1.2,hk_.1.2⟩));have n6_:=aM (hb);clear BK293;clear HO296;clear HO302;clear HO305;clear HO311;clear HO315;clear HB;have BK293:=n0_;have HO296:=n1_;have HO302:=n2_;have HO305:=n3_;have HO311:=n4_;have HO315:=n5_;have HB:=n6_;clear n0_ n1_ n2_ n3_ n4_ n5_ n6_;(try clear hb);(try clear hkp);(try clear hy0)))
    (try simp only [Act.put,sI,sZ,sS])
    go_cut [45] (fun v45 wc => ∃ (kq : Nat) (x45_16 : Bool),v45 = .bool x45_16 ∧ Aside0 (laws_FnExactBookPay.j0 kq l0 t300 t309 x45_16 a1_0 a1_1 a1_2 = some r) ∧ Aside0 (kq ≤ k) ∧ Aside0 (Kd.R (Kd.int .i64) 3 wc w.heap.size (fun k_ => some k_ ≠ ((.slice Ao29 t309.length co29) : Value).ownBlock) (.slice Ao30 t300.length co30) t300) ∧ Aside0 (Kd.R (Kd.int .i64) 3 wc w.heap.size (fun k_ => some k_ ≠ ((.slice Ao30 t300.length co30) : Value).ownBlock) (.slice Ao29 t309.length co29) t309) ∧ Aside0 (wc.heap[gb293]? = some (.cells #[.int .i64 a1_0,.int .i64 a1_1,.int .i64 a1_2] 41 (0,0))) ∧ Aside0 (Below w.heap.size w wc))
    case first =>
     have H:=HC17.out
     clear HC17
     by_cases c34 : t317 < 0
     ·rw [if_pos c34] at H
      have c34b0 : decide (t317 < 0) = true:=decide_eq_true c34
      clear c34
      (first|rw [c34b0]|rw [c34b1]|(simp only [i64_w,i32_w];rw [c34b0])|skip)
      have H':=aM H
      clear H
      go_wp2
      go_meet
      case rel => exact ⟨_,(true),(by first|rfl|(simp;done)|(simp [*];done)),H',⟨by first|omega|exact Nat.le_refl _⟩,⟨by (with_reducible repeat (first|apply Kd.R_alloc|apply Kd.R_drewN|apply Kd.R_drew));exact Kd.R_mono HO302.out (fun _ hk => hk.2.2.1)⟩,⟨by (with_reducible repeat (first|apply Kd.R_alloc|apply Kd.R_drewN|apply Kd.R_drew));exact Kd.R_mono HO311.out (fun _ hk => hk.2.1)⟩,⟨by (with_reducible repeat (first|refine blk_drewN ?_ _|refine blk_drew ?_|refine blk_alloc ?_ _));exact BK293.out⟩,⟨by repeat (first|(with_reducible first|exact HB.out|apply bA|apply bN|apply bD|refine below_set ?_ GE293.out)|exact HB.out)⟩⟩
     ·rw [if_neg c34] at H
      have c34b0 : decide (t317 < 0) = false:=decide_eq_false c34
      clear c34
      (first|rw [c34b0]|rw [c34b1]|(simp only [i64_w,i32_w];rw [c34b0])|skip)
      replace H:=Option.bind_eq_some_iff.mp H
      obtain ⟨t319,A350,H⟩:=H
      replace H : (laws_FnExactBookPay.j0 k l0 t300 t309 (!t319) a1_0 a1_1 a1_2) = some r:=H
      have A35:=aM A350
      clear A350
      have H':=aM H
      clear H
      go_wp2_with (first|(go_at_call 10;(with_reducible refine (laws_eqIntS.calls k _ _ t309 _ _ t300 t319 _ ?side1 ?side2 ?side3 ?side4 A35.out).mono ?_);(case side1 => repeat (first|exact (Kd.R_reads' HO311.out).2.2|(with_reducible refine Kd.C_alloc ?_ _)|(with_reducible refine Kd.C_drewN ?_ _)|(with_reducible refine Kd.C_drew ?_)));(case side2 => exact (Kd.R_reads' HO311.out).2.1);(case side3 => repeat (first|exact (Kd.R_reads' HO302.out).2.2|(with_reducible refine Kd.C_alloc ?_ _)|(with_reducible refine Kd.C_drewN ?_ _)|(with_reducible refine Kd.C_drew ?_)));(case side4 => exact (Kd.R_reads' HO302.out).2.1);rintro e w' ⟨rfl,⟨nd,rfl⟩⟩))
      go_meet
      case rel => exact ⟨_,(!t319),(by first|rfl|(simp;done)|(simp [*];done)),H',⟨by first|omega|exact Nat.le_refl _⟩,⟨by (with_reducible repeat (first|apply Kd.R_alloc|apply Kd.R_drewN|apply Kd.R_drew));exact Kd.R_mono HO302.out (fun _ hk => hk.2.2.1)⟩,⟨by (with_reducible repeat (first|apply Kd.R_alloc|apply Kd.R_drewN|apply Kd.R_drew));exact Kd.R_mono HO311.out (fun _ hk => hk.2.1)⟩,⟨by (with_reducible repeat (first|refine blk_drewN ?_ _|refine blk_drew ?_|refine blk_alloc ?_ _));exact BK293.out⟩,⟨by repeat (first|(with_reducible first|exact HB.out|apply bA|apply bN|apply bD|refine below_set ?_ GE293.out)|exact HB.out)⟩⟩
    case rest =>
     clear HC17
     try clear c1
     try clear c2
     try clear p2
     try clear c3
     try clear c3b0
     try clear c3b1
     try clear c6
     try clear c10
     try clear c11
     try clear c12
     try clear c15
     try clear c25
     try clear c26
     try clear c27
     try clear c28
     try clear c34
     try clear c34b0
     try clear c34b1
     try clear hcz25_0
     try clear hcz25_1
     try clear hcz25_2
     try clear hfz25_0
     try clear hfz25_1
     try clear hfz25_2
     obtain ⟨kq,x45_16,rfl,HA,HJ16,HO_5,HO_7,BK293,HB⟩:=hcut
     cases kq with
     | zero => exact absurd HA.out (by simp [laws_FnExactBookPay.j0])
     | succ kj16 =>
      have H:=HA.out
      clear HA
      simp only [laws_FnExactBookPay.j0] at H
      by_cases c36 : x45_16 = true
      ·subst c36
       have H1 : (some false) = some r:=by rw [if_pos rfl] at H;exact H
       clear H
       have H:=H1
       clear H1
       obtain rfl:=Option.some.inj H
       go_wp2
       go_ret
       exact ⟨by first|rfl|(simp only [i64_w,i32_w];done)|(simp only [i64_w,i32_w];rfl)|(simp [errW_none,errW_some] <;> rfl)|(simp [*,errW_none,errW_some] <;> rfl),by repeat (first|(with_reducible first|exact HB.out|apply bA|apply bN|apply bD|refine below_set ?_ GE293.out)|exact HB.out)⟩
      ·replace c36:=Bool.eq_false_iff.mpr c36
       subst c36
       have H1 : ((laws_markIntS.f kj16 t309 1).bind fun bt320 => ((laws_heldIntS.f kj16 bt320.2 1).bind fun t322 => (if t322 < 0 then (some false) else (if t322 = bt320.1 then ((laws_toIntS.f kj16 l0).bind fun t323 => ((laws_toPay.f a1_0 a1_1 a1_2).bind fun bt326 => ((impl_BookPay.f kj16 t323 bt326.1 bt326.2.1 bt326.2.2).bind fun t329 => ((laws_eqIntS.f kj16 t329 t300).bind fun t332 => (if t332 = true then ((laws_heldIntS.f kj16 bt320.2 1).bind fun t333 => (if t333 < 0 then (some false) else (if t333 = bt320.1 then (some true) else (some false)))) else (some false)))))) else (some false))))) = some r:=by rw [if_neg (show ¬ (false = true) by decide)] at H;exact H
       clear H
       have H:=H1
       clear H1
       replace H:=Option.bind_eq_some_iff.mp H
       obtain ⟨⟨t320,t321⟩,A370,H⟩:=H
       replace H : ((laws_heldIntS.f kj16 t321 1).bind fun t322 => (if t322 < 0 then (some false) else (if t322 = t320 then ((laws_toIntS.f kj16 l0).bind fun t323 => ((laws_toPay.f a1_0 a1_1 a1_2).bind fun bt326 => ((impl_BookPay.f kj16 t323 bt326.1 bt326.2.1 bt326.2.2).bind fun t329 => ((laws_eqIntS.f kj16 t329 t300).bind fun t332 => (if t332 = true then ((laws_heldIntS.f kj16 t321 1).bind fun t333 => (if t333 < 0 then (some false) else (if t333 = t320 then (some true) else (some false)))) else (some false)))))) else (some false)))) = some r:=H
       have A37:=aM A370
       clear A370
       replace H:=Option.bind_eq_some_iff.mp H
       obtain ⟨t322,A380,H⟩:=H
       replace H : (if t322 < 0 then (some false) else (if t322 = t320 then ((laws_toIntS.f kj16 l0).bind fun t323 => ((laws_toPay.f a1_0 a1_1 a1_2).bind fun bt326 => ((impl_BookPay.f kj16 t323 bt326.1 bt326.2.1 bt326.2.2).bind fun t329 => ((laws_eqIntS.f kj16 t329 t300).bind fun t332 => (if t332 = true then ((laws_heldIntS.f kj16 t321 1).bind fun t333 => (if t333 < 0 then (some false) else (if t333 = t320 then (some true) else (some false)))) else (some false)))))) else (some false))) = some r:=H
       have A38:=aM A380
       clear A380
       by_cases c39 : t322 < 0
       ·rw [if_pos c39] at H
        have c39b0 : decide (t322 < 0) = true:=decide_eq_true c39
        clear c39
        obtain rfl:=Option.some.inj H
        go_wp2_with (first|((with_reducible refine gate_callee (f:=11) rfl ?_);refine goesL_ (some 48) rfl rfl Try.func11 (by kernel_rfl) rfl #[.slice Ao29 t309.length co29,.int .i64 1] rfl (by (try simp only [List.map_toArray,List.map_cons,List.map_nil]);first|done|rfl|(simp only [List.length_drop,List.length_take];rfl)) ?_;(with_reducible refine (laws_markIntS.calls kj16 (fun k_ => some k_ = (.slice Ao29 t309.length co29 : Value).ownBlock) (.slice Ao29 t309.length co29) t309 1 t320 t321 w _ ?side1 ?side2 A37.out).mono ?_);(case side1 => repeat (first|(with_reducible first|exact HB.out|apply bA|apply bN|apply bD|refine below_set ?_ GE293.out)|exact HB.out));(case side2 => exact Kd.R_tight rfl HO_7.out);rintro e w40 ⟨rfl,hy0,hb,hkp⟩;refine ⟨_,rfl,?_⟩;have n0_:=aM (Kd.R_mono (ok':=fun k_ => some k_ ≠ (.slice Ao29 t309.length co29 : Value).ownBlock) (Kd.R_keptB (HO_5.out) hkp (fun k_ hk_ hs_ => (hk_) hs_)) (fun k_ hk_ => hk_.1));have n1_:=aM (Kd.R_reok rfl hy0 (fun k_ e_ => Kd.R_own1 HO_7.out k_ e_));have n2_:=aM (blk_kept (by (with_reducible repeat (first|refine blk_drewN ?_ _|refine blk_drew ?_|refine blk_alloc ?_ _));exact BK293.out) hkp (fun hs_ => (fun e_ => (Kd.R_ne HO_7.out BK293.out (by decide)) e_) hs_));have n3_:=aM (hb);clear HO_5;clear HO_7;clear BK293;clear HB;have HO_5:=n0_;have HO_7:=n1_;have BK293:=n2_;have HB:=n3_;clear n0_ n1_ n2_ n3_;(try clear hb);(try clear hkp);(try clear hy0))|((with_reducible refine gate_callee (f:=12) rfl ?_);refine goesL_ (some 51) rfl rfl Try.func12 (by kernel_rfl) rfl #[.slice Ao29 t321.length co29,.int .i64 1] rfl (by (try simp only [List.map_toArray,List.map_cons,List.map_nil]);first|done|(rw [show t321.length = t309.length from (Kd.R_reads' HO_7.out).1.symm] <;> rfl)|rfl|(simp only [List.length_drop,List.length_take];rfl)) ?_;(with_reducible refine (laws_heldIntS.calls kj16 _ _ t321 1 t322 _ ?side1 ?side2 A38.out).mono ?_);(case side1 => repeat (first|exact (Kd.R_reads' HO_7.out).2.2|(with_reducible refine Kd.C_alloc ?_ _)|(with_reducible refine Kd.C_drewN ?_ _)|(with_reducible refine Kd.C_drew ?_)));(case side2 => rw [show t321.length = t309.length from (Kd.R_reads' HO_7.out).1.symm];exact (Kd.R_reads' HO_7.out).2.1);rintro e w' ⟨rfl,⟨nd,rfl⟩⟩;refine ⟨_,rfl,?_⟩))
        go_ret
        exact ⟨by first|rfl|(simp only [i64_w,i32_w];done)|(simp only [i64_w,i32_w];rfl)|(simp [errW_none,errW_some] <;> rfl)|(simp [*,errW_none,errW_some] <;> rfl),by repeat (first|(with_reducible first|exact HB.out|apply bA|apply bN|apply bD|refine below_set ?_ GE293.out)|exact HB.out)⟩
       ·rw [if_neg c39] at H
        have c39b0 : decide (t322 < 0) = false:=decide_eq_false c39
        clear c39
        by_cases c41 : t322 = t320
        ·rw [if_pos c41] at H
         have c41b0 : (t322 == t320) = true:=beq_iff_eq.mpr c41
         have c41b1 : (t322 != t320) = false:=bne_eq_false_iff_eq.mpr c41
         clear c41
         replace H:=Option.bind_eq_some_iff.mp H
         obtain ⟨t323,A420,H⟩:=H
         replace H : ((laws_toPay.f a1_0 a1_1 a1_2).bind fun bt326 => ((impl_BookPay.f kj16 t323 bt326.1 bt326.2.1 bt326.2.2).bind fun t329 => ((laws_eqIntS.f kj16 t329 t300).bind fun t332 => (if t332 = true then ((laws_heldIntS.f kj16 t321 1).bind fun t333 => (if t333 < 0 then (some false) else (if t333 = t320 then (some true) else (some false)))) else (some false))))) = some r:=H
         have A42:=aM A420
         clear A420
         replace H:=Option.bind_eq_some_iff.mp H
         obtain ⟨⟨t326,t327,t328⟩,A430,H⟩:=H
         replace H : ((impl_BookPay.f kj16 t323 t326 t327 t328).bind fun t329 => ((laws_eqIntS.f kj16 t329 t300).bind fun t332 => (if t332 = true then ((laws_heldIntS.f kj16 t321 1).bind fun t333 => (if t333 < 0 then (some false) else (if t333 = t320 then (some true) else (some false)))) else (some false)))) = some r:=H
         have A43:=aM A430
         clear A430
         replace H:=Option.bind_eq_some_iff.mp H
         obtain ⟨t329,A440,H⟩:=H
         replace H : ((laws_eqIntS.f kj16 t329 t300).bind fun t332 => (if t332 = true then ((laws_heldIntS.f kj16 t321 1).bind fun t333 => (if t333 < 0 then (some false) else (if t333 = t320 then (some true) else (some false)))) else (some false))) = some r:=H
         have A44:=aM A440
         clear A440
         replace H:=Option.bind_eq_some_iff.mp H
         obtain ⟨t332,A450,H⟩:=H
         replace H : (if t332 = true then ((laws_heldIntS.f kj16 t321 1).bind fun t333 => (if t333 < 0 then (some false) else (if t333 = t320 then (some true) else (some false)))) else (some false)) = some r:=H
         have A45:=aM A450
         clear A450
         by_cases c46 : t332 = true
         ·subst c46
          have H1 : ((laws_heldIntS.f kj16 t321 1).bind fun t333 => (if t333 < 0 then (some false) else (if t333 = t320 then (some true) else (some false)))) = some r:=by rw [if_pos rfl] at H;exact H
          clear H
          have H:=H1
          clear H1
          replace H:=Option.bind_eq_some_iff.mp H
          obtain ⟨t333,A470,H⟩:=H
          replace H : (if t333 < 0 then (some false) else (if t333 = t320 then (some true) else (some false))) = some r:=H
          have A47:=aM A470
          clear A470
          by_cases c48 : t333 < 0
          ·rw [if_pos c48] at H
           have c48b0 : decide (t333 < 0) = true:=decide_eq_true c48
           clear c48
           obtain rfl:=Option.some.inj H
           try go_wp2_with (first|((with_reducible refine gate_callee (f:=11) rfl ?_);refine goesL_ (some 48) rfl rfl Try.func11 (by kernel_rfl) rfl #[.slice Ao29 t309.length co29,.int .i64 1] rfl (by (try simp only [List.map_toArray,List.map_cons,List.map_nil]);first|done|rfl|(simp only [List.length_drop,List.length_take];rfl)) ?_;(with_reducible refine (laws_markIntS.calls kj16 (fun k_ => some k_ = (.slice Ao29 t309.length co29 : Value).ownBlock) (.slice Ao29 t309.length co29) t309 1 t320 t321 w _ ?side1 ?side2 A37.out).mono ?_);(case side1 => repeat (first|(with_reducible first|exact HB.out|apply bA|apply bN|apply bD|refine below_set ?_ GE293.out)|exact HB.out));(case side2 => exact Kd.R_tight rfl HO_7.out);rintro e w49 ⟨rfl,hy0,hb,hkp⟩;refine ⟨_,rfl,?_⟩;have n0_:=aM (Kd.R_mono (ok':=fun k_ => some k_ ≠ (.slice Ao29 t309.length co29 : Value).ownBlock) (Kd.R_keptB (HO_5.out) hkp (fun k_ hk_ hs_ => (hk_) hs_)) (fun k_ hk_ => hk_.1));have n1_:=aM (Kd.R_reok rfl hy0 (fun k_ e_ => Kd.R_own1 HO_7.out k_ e_));have n2_:=aM (blk_kept (by (with_reducible repeat (first|refine blk_drewN ?_ _|refine blk_drew ?_|refine blk_alloc ?_ _));exact BK293.out) hkp (fun hs_ => (fun e_ => (Kd.R_ne HO_7.out BK293.out (by decide)) e_) hs_));have n3_:=aM (hb);clear HO_5;clear HO_7;clear BK293;clear HB;have HO_5:=n0_;have HO_7:=n1_;have BK293:=n2_;have HB:=n3_;clear n0_ n1_ n2_ n3_;(try clear hb);(try clear hkp);(try clear hy0))|((with_reducible refine gate_callee (f:=12) rfl ?_);refine goesL_ (some 51) rfl rfl Try.func12 (by kernel_rfl) rfl #[.slice Ao29 t321.length co29,.int .i64 1] rfl (by (try simp only [List.map_toArray,List.map_cons,List.map_nil]);first|done|(rw [show t321.length = t309.length from (Kd.R_reads' HO_7.out).1.symm] <;> rfl)|rfl|(simp only [List.length_drop,List.length_take];rfl)) ?_;(with_reducible refine (laws_heldIntS.calls kj16 _ _ t321 1 t322 _ ?side1 ?side2 A38.out).mono ?_);(case side1 => repeat (first|exact (Kd.R_reads' HO_7.out).2.2|(with_reducible refine Kd.C_alloc ?_ _)|(with_reducible refine Kd.C_drewN ?_ _)|(with_reducible refine Kd.C_drew ?_)));(case side2 => rw [show t321.length = t309.length from (Kd.R_reads' HO_7.out).1.symm];exact (Kd.R_reads' HO_7.out).2.1);rintro e w' ⟨rfl,⟨nd,rfl⟩⟩;refine ⟨_,rfl,?_⟩))
           (try (rw [drewN_self w49];generalize hq_ : World.drewN w49 _ = w49;have n0_ : Aside0 (Kd.R (Kd.int .i64) 3 w49 w.heap.size (fun k_ => some k_ ≠ (.slice Ao29 t309.length co29 : Value).ownBlock) (.slice Ao30 t300.length co30) t300):=⟨by rw [← hq_];exact (by (with_reducible repeat (first|apply Kd.R_alloc|apply Kd.R_drewN|apply Kd.R_drew));exact HO_5.out)⟩;have n1_ : Aside0 (Kd.R (Kd.int .i64) 3 w49 w.heap.size (fun k_ => some k_ ≠ (.slice Ao30 t300.length co30 : Value).ownBlock) (.slice Ao29 t309.length co29) t321):=⟨by rw [← hq_];exact (by (with_reducible repeat (first|apply Kd.R_alloc|apply Kd.R_drewN|apply Kd.R_drew));exact HO_7.out)⟩;have n2_ : Aside0 (w49.heap[gb293]? = some (.cells #[.int .i64 a1_0,.int .i64 a1_1,.int .i64 a1_2] 41 (0,0))):=⟨by rw [← hq_];exact (by (with_reducible repeat (first|refine blk_drewN ?_ _|refine blk_drew ?_|refine blk_alloc ?_ _));exact BK293.out)⟩;have n3_ : Aside0 (Below w.heap.size w w49):=⟨by rw [← hq_];exact (by repeat (first|(with_reducible first|exact HB.out|apply bA|apply bN|apply bD|refine below_set ?_ GE293.out)|exact HB.out))⟩;clear HO_5 HO_7 BK293 HB hq_;have HO_5:=n0_;have HO_7:=n1_;have BK293:=n2_;have HB:=n3_;clear n0_ n1_ n2_ n3_))
           have n0_:=aM (Kd.R_drew HO_5.out)
           have n1_:=aM (Kd.R_drew HO_7.out)
           have n2_:=aM (blk_drew BK293.out)
           have n3_:=aM (bD HB.out)
           clear HO_5
           clear HO_7
           clear BK293
           clear HB
           have HO_5:=n0_
           have HO_7:=n1_
           have BK293:=n2_
           have HB:=n3_
           clear n0_ n1_ n2_ n3_
           refine start_ (n:=6) (S:=fun w' => w'.cell? ⟨gb293,0,none⟩ = some (.int .i64 a1_0) ∧ w'.cell? ⟨gb293,1,none⟩ = some (.int .i64 a1_1) ∧ w'.cell? ⟨gb293,2,none⟩ = some (.int .i64 a1_2)) (ds:=[]) #[bF,bF,bF,bF,bF,bF] (by kernel_rfl) rfl rfl ⟨(blk_cell BK293.out 0).trans rfl,(blk_cell BK293.out 1).trans rfl,(blk_cell BK293.out 2).trans rfl⟩ (fun hHeld => ?_)
           generalize w49.drew = w50 at HO_5 HO_7 BK293 HB hHeld ⊢
           refine pure_ (i:=0) (N:=some 57) (v:=?_) (a':=?_) #[bT,bF,bF,bF,bF,bF] rfl rfl (by kernel_rfl) (fun _ _ _ h => h) (Or.inl ⟨by rfl,?_⟩) ?_ ?_
           rotate_left;(· intro w';go_simp;with_reducible rfl);rotate_left;(· simp only [Act.put,sI,sZ,sS,i64_w,i32_w];rfl)
           refine take_ (i:=2) (N:=some 59) (v:=?_) (a':=?_) #[bT,bF,bT,bF,bF,bF] rfl rfl (by kernel_rfl) (fun _ _ _ h => h) (Or.inl ⟨by rfl,?_⟩) hHeld ?_ ?_
           rotate_left
           ·rintro w' ⟨s0,s1,s2⟩
            (try simp only [Int.toNat_natCast] at s0 s1 s2)
            go_simp
            with_reducible rfl
           rotate_left
           ·simp only [Act.put,sI,sZ,sS,i64_w,i32_w]
            rfl
           refine one_ (i:=1) (N:=some 58) #[bT,bT,bT,bF,bF,bF] rfl rfl (by kernel_rfl) (by decide) (fun K hK => ?_)
           refine goes_ Try.func26 (by kernel_rfl) rfl #[.slice A0 l0.length c0] (by rfl) rfl rfl (by (try simp only [List.map_toArray,List.map_cons,List.map_nil]);first|done|rfl|(simp only [List.length_drop,List.length_take];rfl)) ?_
           with_reducible refine (laws_toIntS.calls kj16 _ _ l0 t323 _ ?side1 ?side2 A42.out).mono ?_
           (case side1 => repeat (first|exact (Kd.C_below HR0.out HB.out)|(with_reducible refine Kd.C_alloc ?_ _)|(with_reducible refine Kd.C_drewN ?_ _)|(with_reducible refine Kd.C_drew ?_)))
           (case side2 => exact HC0.out)
           rintro e w51 ⟨v324,rfl,ho0,hb⟩
           refine ⟨_,rfl,?_⟩
           have n0_:=aM (Kd.R_elder' (by (with_reducible repeat (first|apply Kd.R_alloc|apply Kd.R_drewN|apply Kd.R_drew));exact HO_5.out) (Kd.R_base ho0) hb)
           have n1_:=aM (Kd.R_elder' (by (with_reducible repeat (first|apply Kd.R_alloc|apply Kd.R_drewN|apply Kd.R_drew));exact HO_7.out) (Kd.R_base ho0) hb)
           have n2_:=aM (Kd.R_lower (Kd.R_new' (Kd.R_new' ho0 (Kd.R_lt (by (with_reducible repeat (first|apply Kd.R_alloc|apply Kd.R_drewN|apply Kd.R_drew));exact HO_5.out))) (Kd.R_lt (by (with_reducible repeat (first|apply Kd.R_alloc|apply Kd.R_drewN|apply Kd.R_drew));exact HO_7.out))) (below_size (by repeat (first|(with_reducible first|exact HB.out|apply bA|apply bN|apply bD|refine below_set ?_ GE293.out)|exact HB.out))))
           have n3_:=aM (blk_below (g:=gb293) (o:=.cells #[.int .i64 a1_0,.int .i64 a1_1,.int .i64 a1_2] 41 (0,0)) (by (with_reducible repeat (first|refine blk_drewN ?_ _|refine blk_drew ?_|refine blk_alloc ?_ _));exact BK293.out) hb)
           have n4_:=aM (below_step (by repeat (first|(with_reducible first|exact HB.out|apply bA|apply bN|apply bD|refine below_set ?_ GE293.out)|exact HB.out)) hb)
           clear HO_5
           clear HO_7
           clear BK293
           clear HB
           have HO_5:=n0_
           have HO_7:=n1_
           have HO325:=n2_
           have BK293:=n3_
           have HB:=n4_
           clear n0_ n1_ n2_ n3_ n4_
           (try clear hb)
           (try clear hb2)
           (try clear hk)
           (try clear hi)
           (try clear ho0)
           refine hK.out _ _ ⟨(blk_cell BK293.out 0).trans rfl,(blk_cell BK293.out 1).trans rfl,(blk_cell BK293.out 2).trans rfl⟩ (fun hHeld => ?_)
           clear hK K
           refine norm_ (a':=?_) ?_ ?_
           rotate_left
           ·show Act.put _ (some 58) _ = _
            simp only [Act.put,sI,sZ,sS,i64_w,i32_w]
            rfl
           refine one_ (i:=3) (N:=some 60) #[bT,bT,bT,bT,bF,bF] rfl rfl (by kernel_rfl) (by decide) (fun K hK => ?_)
           refine goes_ Try.func27 (by kernel_rfl) rfl #[.agg #[.int .i64 a1_0,.int .i64 a1_1,.int .i64 a1_2]] (by rfl) rfl rfl (by (try simp only [List.map_toArray,List.map_cons,List.map_nil]);first|done|rfl|(simp only [List.length_drop,List.length_take];rfl)) ?_
           with_reducible refine (laws_toPay.calls a1_0 a1_1 a1_2 t326 t327 t328 _ A43.out).mono ?_
           rintro e w52 ⟨rfl,hb⟩
           refine ⟨_,rfl,?_⟩
           have n0_:=aM (Kd.R_below (by (with_reducible repeat (first|apply Kd.R_alloc|apply Kd.R_drewN|apply Kd.R_drew));exact HO_5.out) hb)
           have n1_:=aM (Kd.R_below (by (with_reducible repeat (first|apply Kd.R_alloc|apply Kd.R_drewN|apply Kd.R_drew));exact HO_7.out) hb)
           have n2_:=aM (Kd.R_below (by (with_reducible repeat (first|apply Kd.R_alloc|apply Kd.R_drewN|apply Kd.R_drew));exact HO325.out) hb)
           have n3_:=aM (blk_below (g:=gb293) (o:=.cells #[.int .i64 a1_0,.int .i64 a1_1,.int .i64 a1_2] 41 (0,0)) (by (with_reducible repeat (first|refine blk_drewN ?_ _|refine blk_drew ?_|refine blk_alloc ?_ _));exact BK293.out) hb)
           have n4_:=aM (below_step (by repeat (first|(with_reducible first|exact HB.out|apply bA|apply bN|apply bD|refine below_set ?_ GE293.out)|exact HB.out)) hb)
           clear HO_5
           clear HO_7
           clear HO325
           clear BK293
           clear HB
           have HO_5:=n0_
           have HO_7:=n1_
           have HO325:=n2_
           have BK293:=n3_
           have HB:=n4_
           clear n0_ n1_ n2_ n3_ n4_
           (try clear hb)
           (try clear hb2)
           (try clear hk)
           (try clear hi)
           obtain ⟨Ao53,co53,eo53⟩:=Kd.R_slice HO325.out
           (first|subst eo53|(injection eo53 with f1_ f2_ f3_;have f4_:=f1_.symm;have f5_:=f3_.symm;clear f1_ f2_ f3_;subst f4_;subst f5_))
           refine hK.out _ _ ⟨(blk_cell BK293.out 0).trans rfl,(blk_cell BK293.out 1).trans rfl,(blk_cell BK293.out 2).trans rfl⟩ (fun hHeld => ?_)
           clear hK K
           refine norm_ (a':=?_) ?_ ?_
           rotate_left
           ·show Act.put _ (some 60) _ = _
            simp only [Act.put,sI,sZ,sS,i64_w,i32_w]
            rfl
           refine one_ (i:=4) (N:=some 61) #[bT,bT,bT,bT,bT,bF] rfl rfl (by kernel_rfl) (by decide) (fun K hK => ?_)
           refine goes_ Try.func28 (by kernel_rfl) rfl #[.slice Ao53 t323.length co53,.agg #[.int .i64 t326,.int .i64 t327,.int .i64 t328]] (by rfl) rfl rfl (by (try simp only [List.map_toArray,List.map_cons,List.map_nil]);first|done|rfl|(simp only [List.length_drop,List.length_take];rfl)) ?_
           with_reducible refine (impl_BookPay.calls kj16 _ _ t323 t326 t327 t328 t329 _ ?side1 ?side2 A44.out).mono ?_
           (case side1 => repeat (first|exact (Kd.R_reads' HO325.out).2.2|(with_reducible refine Kd.C_alloc ?_ _)|(with_reducible refine Kd.C_drewN ?_ _)|(with_reducible refine Kd.C_drew ?_)))
           (case side2 => exact (Kd.R_reads' HO325.out).2.1)
           rintro e w54 ⟨v330,rfl,ho0,hb⟩
           refine ⟨_,rfl,?_⟩
           have n0_:=aM (Kd.R_elder' (by (with_reducible repeat (first|apply Kd.R_alloc|apply Kd.R_drewN|apply Kd.R_drew));exact HO_5.out) (Kd.R_base ho0) hb)
           have n1_:=aM (Kd.R_elder' (by (with_reducible repeat (first|apply Kd.R_alloc|apply Kd.R_drewN|apply Kd.R_drew));exact HO_7.out) (Kd.R_base ho0) hb)
           have n2_:=aM (Kd.R_elder' (by (with_reducible repeat (first|apply Kd.R_alloc|apply Kd.R_drewN|apply Kd.R_drew));exact HO325.out) (Kd.R_base ho0) hb)
           have n3_:=aM (Kd.R_lower (Kd.R_new' (Kd.R_new' (Kd.R_new' ho0 (Kd.R_lt (by (with_reducible repeat (first|apply Kd.R_alloc|apply Kd.R_drewN|apply Kd.R_drew));exact HO_5.out))) (Kd.R_lt (by (with_reducible repeat (first|apply Kd.R_alloc|apply Kd.R_drewN|apply Kd.R_drew));exact HO_7.out))) (Kd.R_lt (by (with_reducible repeat (first|apply Kd.R_alloc|apply Kd.R_drewN|apply Kd.R_drew));exact HO325.out))) (below_size (by repeat (first|(with_reducible first|exact HB.out|apply bA|apply bN|apply bD|refine below_set ?_ GE293.out)|exact HB.out))))
           have n4_:=aM (blk_below (g:=gb293) (o:=.cells #[.int .i64 a1_0,.int .i64 a1_1,.int .i64 a1_2] 41 (0,0)) (by (with_reducible repeat (first|refine blk_drewN ?_ _|refine blk_drew ?_|refine blk_alloc ?_ _));exact BK293.out) hb)
           have n5_:=aM (below_step (by repeat (first|(with_reducible first|exact HB.out|apply bA|apply bN|apply bD|refine below_set ?_ GE293.out)|exact HB.out)) hb)
           clear HO_5
           clear HO_7
           clear HO325
           clear BK293
           clear HB
           have HO_5:=n0_
           have HO_7:=n1_
           have HO325:=n2_
           have HO331:=n3_
           have BK293:=n4_
           have HB:=n5_
           clear n0_ n1_ n2_ n3_ n4_ n5_
           (try clear hb)
           (try clear hb2)
           (try clear hk)
           (try clear hi)
           (try clear ho0)
           refine hK.out _ _ ⟨(blk_cell BK293.out 0).trans rfl,(blk_cell BK293.out 1).trans rfl,(blk_cell BK293.out 2).trans rfl⟩ (fun hHeld => ?_)
           clear hK K
           refine norm_ (a':=?_) ?_ ?_
           rotate_left
           ·show Act.put _ (some 61) _ = _
            simp only [Act.put,sI,sZ,sS,i64_w,i32_w]
            rfl
           refine pure_ (i:=5) (N:=some 11) (v:=?_) (a':=?_) #[bT,bT,bT,bT,bT,bT] rfl rfl (by kernel_rfl) (fun _ _ _ h => h) (Or.inl ⟨by rfl,?_⟩) ?_ ?_
           rotate_left;(· intro w';go_simp;with_reducible rfl);rotate_left;(· simp only [Act.put,sI,sZ,sS,i64_w,i32_w];rfl)
           refine done_ (by kernel_rfl) ?_
           obtain ⟨Ao55,co55,eo55⟩:=Kd.R_slice HO331.out
           subst eo55
           try go_wp2_with (first|((with_reducible refine gate_callee (f:=10) rfl ?_);refine goesL_ (some 64) rfl rfl Try.func10 (by kernel_rfl) rfl #[.slice Ao55 t329.length co55,.slice Ao30 t300.length co30] rfl (by (try simp only [List.map_toArray,List.map_cons,List.map_nil]);first|done|rfl|(simp only [List.length_drop,List.length_take];rfl)) ?_;(with_reducible refine (laws_eqIntS.calls kj16 _ _ t329 _ _ t300 true _ ?side1 ?side2 ?side3 ?side4 A45.out).mono ?_);(case side1 => repeat (first|exact (Kd.R_reads' HO331.out).2.2|(with_reducible refine Kd.C_alloc ?_ _)|(with_reducible refine Kd.C_drewN ?_ _)|(with_reducible refine Kd.C_drew ?_)));(case side2 => exact (Kd.R_reads' HO331.out).2.1);(case side3 => repeat (first|exact (Kd.R_reads' HO_5.out).2.2|(with_reducible refine Kd.C_alloc ?_ _)|(with_reducible refine Kd.C_drewN ?_ _)|(with_reducible refine Kd.C_drew ?_)));(case side4 => exact (Kd.R_reads' HO_5.out).2.1);rintro e w' ⟨rfl,⟨nd,rfl⟩⟩;refine ⟨_,rfl,?_⟩)|((with_reducible refine gate_callee (f:=12) rfl ?_);refine goesL_ (some 68) rfl rfl Try.func12 (by kernel_rfl) rfl #[.slice Ao29 t321.length co29,.int .i64 1] rfl (by (try simp only [List.map_toArray,List.map_cons,List.map_nil]);first|done|(rw [show t321.length = t309.length from (Kd.R_reads' HO_7.out).1.symm] <;> rfl)|rfl|(simp only [List.length_drop,List.length_take];rfl)) ?_;(with_reducible refine (laws_heldIntS.calls kj16 _ _ t321 1 t333 _ ?side1 ?side2 A47.out).mono ?_);(case side1 => repeat (first|exact (Kd.R_reads' HO_7.out).2.2|(with_reducible refine Kd.C_alloc ?_ _)|(with_reducible refine Kd.C_drewN ?_ _)|(with_reducible refine Kd.C_drew ?_)));(case side2 => rw [show t321.length = t309.length from (Kd.R_reads' HO_7.out).1.symm];exact (Kd.R_reads' HO_7.out).2.1);rintro e w' ⟨rfl,⟨nd,rfl⟩⟩;refine ⟨_,rfl,?_⟩))
           go_ret
           exact ⟨by first|rfl|(simp only [i64_w,i32_w];done)|(simp only [i64_w,i32_w];rfl)|(simp [errW_none,errW_some] <;> rfl)|(simp [*,errW_none,errW_some] <;> rfl),by repeat (first|(with_reducible first|exact HB.out|apply bA|apply bN|apply bD|refine below_set ?_ GE293.out)|exact HB.out)⟩
          ·rw [if_neg c48] at H
           have c48b0 : decide (t333 < 0) = false:=decide_eq_false c48
           clear c48
           by_cases c56 : t333 = t320
           ·rw [if_pos c56] at H
            have c56b0 : (t333 == t320) = true:=beq_iff_eq.mpr c56
            have c56b1 : (t333 != t320) = false:=bne_eq_false_iff_eq.mpr c56
            clear c56
            obtain rfl:=Option.some.inj H
            try go_wp2_with (first|((with_reducible refine gate_callee (f:=11) rfl ?_);refine goesL_ (some 48) rfl rfl Try.func11 (by kernel_rfl) rfl #[.slice Ao29 t309.length co29,.int .i64 1] rfl (by (try simp only [List.map_toArray,List.map_cons,List.map_nil]);first|done|rfl|(simp only [List.length_drop,List.length_take];rfl)) ?_;(with_reducible refine (laws_markIntS.calls kj16 (fun k_ => some k_ = (.slice Ao29 t309.length co29 : Value).ownBlock) (.slice Ao29 t309.length co29) t309 1 t320 t321 w _ ?side1 ?side2 A37.out).mono ?_);(case side1 => repeat (first|(with_reducible first|exact HB.out|apply bA|apply bN|apply bD|refine below_set ?_ GE293.out)|exact HB.out));(case side2 => exact Kd.R_tight rfl HO_7.out);rintro e w57 ⟨rfl,hy0,hb,hkp⟩;refine ⟨_,rfl,?_⟩;have n0_:=aM (Kd.R_mono (ok':=fun k_ => some k_ ≠ (.slice Ao29 t309.length co29 : Value).ownBlock) (Kd.R_keptB (HO_5.out) hkp (fun k_ hk_ hs_ => (hk_) hs_)) (fun k_ hk_ => hk_.1));have n1_:=aM (Kd.R_reok rfl hy0 (fun k_ e_ => Kd.R_own1 HO_7.out k_ e_));have n2_:=aM (blk_kept (by (with_reducible repeat (first|refine blk_drewN ?_ _|refine blk_drew ?_|refine blk_alloc ?_ _));exact BK293.out) hkp (fun hs_ => (fun e_ => (Kd.R_ne HO_7.out BK293.out (by decide)) e_) hs_));have n3_:=aM (hb);clear HO_5;clear HO_7;clear BK293;clear HB;have HO_5:=n0_;have HO_7:=n1_;have BK293:=n2_;have HB:=n3_;clear n0_ n1_ n2_ n3_;(try clear hb);(try clear hkp);(try clear hy0))|((with_reducible refine gate_callee (f:=12) rfl ?_);refine goesL_ (some 51) rfl rfl Try.func12 (by kernel_rfl) rfl #[.slice Ao29 t321.length co29,.int .i64 1] rfl (by (try simp only [List.map_toArray,List.map_cons,List.map_nil]);first|done|(rw [show t321.length = t309.length from (Kd.R_reads' HO_7.out).1.symm] <;> rfl)|rfl|(simp only [List.length_drop,List.length_take];rfl)) ?_;(with_reducible refine (laws_heldIntS.calls kj16 _ _ t321 1 t322 _ ?side1 ?side2 A38.out).mono ?_);(case side1 => repeat (first|exact (Kd.R_reads' HO_7.out).2.2|(with_reducible refine Kd.C_alloc ?_ _)|(with_reducible refine Kd.C_drewN ?_ _)|(with_reducible refine Kd.C_drew ?_)));(case side2 => rw [show t321.length = t309.length from (Kd.R_reads' HO_7.out).1.symm];exact (Kd.R_reads' HO_7.out).2.1);rintro e w' ⟨rfl,⟨nd,rfl⟩⟩;refine ⟨_,rfl,?_⟩))
            (try (rw [drewN_self w57];generalize hq_ : World.drewN w57 _ = w57;have n0_ : Aside0 (Kd.R (Kd.int .i64) 3 w57 w.heap.size (fun k_ => some k_ ≠ (.slice Ao29 t309.length co29 : Value).ownBlock) (.slice Ao30 t300.length co30) t300):=⟨by rw [← hq_];exact (by (with_reducible repeat (first|apply Kd.R_alloc|apply Kd.R_drewN|apply Kd.R_drew));exact HO_5.out)⟩;have n1_ : Aside0 (Kd.R (Kd.int .i64) 3 w57 w.heap.size (fun k_ => some k_ ≠ (.slice Ao30 t300.length co30 : Value).ownBlock) (.slice Ao29 t309.length co29) t321):=⟨by rw [← hq_];exact (by (with_reducible repeat (first|apply Kd.R_alloc|apply Kd.R_drewN|apply Kd.R_drew));exact HO_7.out)⟩;have n2_ : Aside0 (w57.heap[gb293]? = some (.cells #[.int .i64 a1_0,.int .i64 a1_1,.int .i64 a1_2] 41 (0,0))):=⟨by rw [← hq_];exact (by (with_reducible repeat (first|refine blk_drewN ?_ _|refine blk_drew ?_|refine blk_alloc ?_ _));exact BK293.out)⟩;have n3_ : Aside0 (Below w.heap.size w w57):=⟨by rw [← hq_];exact (by repeat (first|(with_reducible first|exact HB.out|apply bA|apply bN|apply bD|refine below_set ?_ GE293.out)|exact HB.out))⟩;clear HO_5 HO_7 BK293 HB hq_;have HO_5:=n0_;have HO_7:=n1_;have BK293:=n2_;have HB:=n3_;clear n0_ n1_ n2_ n3_))
            have n0_:=aM (Kd.R_drew HO_5.out)
            have n1_:=aM (Kd.R_drew HO_7.out)
            have n2_:=aM (blk_drew BK293.out)
            have n3_:=aM (bD HB.out)
            clear HO_5
            clear HO_7
            clear BK293
            clear HB
            have HO_5:=n0_
            have HO_7:=n1_
            have BK293:=n2_
            have HB:=n3_
            clear n0_ n1_ n2_ n3_
            refine start_ (n:=6) (S:=fun w' => w'.cell? ⟨gb293,0,none⟩ = some (.int .i64 a1_0) ∧ w'.cell? ⟨gb293,1,none⟩ = some (.int .i64 a1_1) ∧ w'.cell? ⟨gb293,2,none⟩ = some (.int .i64 a1_2)) (ds:=[]) #[bF,bF,bF,bF,bF,bF] (by kernel_rfl) rfl rfl ⟨(blk_cell BK293.out 0).trans rfl,(blk_cell BK293.out 1).trans rfl,(blk_cell BK293.out 2).trans rfl⟩ (fun hHeld => ?_)
            generalize w57.drew = w58 at HO_5 HO_7 BK293 HB hHeld ⊢
            refine pure_ (i:=0) (N:=some 57) (v:=?_) (a':=?_) #[bT,bF,bF,bF,bF,bF] rfl rfl (by kernel_rfl) (fun _ _ _ h => h) (Or.inl ⟨by rfl,?_⟩) ?_ ?_
            rotate_left;(· intro w';go_simp;with_reducible rfl);rotate_left;(· simp only [Act.put,sI,sZ,sS,i64_w,i32_w];rfl)
            refine take_ (i:=2) (N:=some 59) (v:=?_) (a':=?_) #[bT,bF,bT,bF,bF,bF] rfl rfl (by kernel_rfl) (fun _ _ _ h => h) (Or.inl ⟨by rfl,?_⟩) hHeld ?_ ?_
            rotate_left
            ·rintro w' ⟨s0,s1,s2⟩
             (try simp only [Int.toNat_natCast] at s0 s1 s2)
             go_simp
             with_reducible rfl
            rotate_left
            ·simp only [Act.put,sI,sZ,sS,i64_w,i32_w]
             rfl
            refine one_ (i:=1) (N:=some 58) #[bT,bT,bT,bF,bF,bF] rfl rfl (by kernel_rfl) (by decide) (fun K hK => ?_)
            refine goes_ Try.func26 (by kernel_rfl) rfl #[.slice A0 l0.length c0] (by rfl) rfl rfl (by (try simp only [List.map_toArray,List.map_cons,List.map_nil]);first|done|rfl|(simp only [List.length_drop,List.length_take];rfl)) ?_
            with_reducible refine (laws_toIntS.calls kj16 _ _ l0 t323 _ ?side1 ?side2 A42.out).mono ?_
            (case side1 => repeat (first|exact (Kd.C_below HR0.out HB.out)|(with_reducible refine Kd.C_alloc ?_ _)|(with_reducible refine Kd.C_drewN ?_ _)|(with_reducible refine Kd.C_drew ?_)))
            (case side2 => exact HC0.out)
            rintro e w59 ⟨v324,rfl,ho0,hb⟩
            refine ⟨_,rfl,?_⟩
            have n0_:=aM (Kd.R_elder' (by (with_reducible repeat (first|apply Kd.R_alloc|apply Kd.R_drewN|apply Kd.R_drew));exact HO_5.out) (Kd.R_base ho0) hb)
            have n1_:=aM (Kd.R_elder' (by (with_reducible repeat (first|apply Kd.R_alloc|apply Kd.R_drewN|apply Kd.R_drew));exact HO_7.out) (Kd.R_base ho0) hb)
            have n2_:=aM (Kd.R_lower (Kd.R_new' (Kd.R_new' ho0 (Kd.R_lt (by (with_reducible repeat (first|apply Kd.R_alloc|apply Kd.R_drewN|apply Kd.R_drew));exact HO_5.out))) (Kd.R_lt (by (with_reducible repeat (first|apply Kd.R_alloc|apply Kd.R_drewN|apply Kd.R_drew));exact HO_7.out))) (below_size (by repeat (first|(with_reducible first|exact HB.out|apply bA|apply bN|apply bD|refine below_set ?_ GE293.out)|exact HB.out))))
            have n3_:=aM (blk_below (g:=gb293) (o:=.cells #[.int .i64 a1_0,.int .i64 a1_1,.int .i64 a1_2] 41 (0,0)) (by (with_reducible repeat (first|refine blk_drewN ?_ _|refine blk_drew ?_|refine blk_alloc ?_ _));exact BK293.out) hb)
            have n4_:=aM (below_step (by repeat (first|(with_reducible first|exact HB.out|apply bA|apply bN|apply bD|refine below_set ?_ GE293.out)|exact HB.out)) hb)
            clear HO_5
            clear HO_7
            clear BK293
            clear HB
            have HO_5:=n0_
            have HO_7:=n1_
            have HO325:=n2_
            have BK293:=n3_
            have HB:=n4_
            clear n0_ n1_ n2_ n3_ n4_
            (try clear hb)
            (try clear hb2)
            (try clear hk)
            (try clear hi)
            (try clear ho0)
            refine hK.out _ _ ⟨(blk_cell BK293.out 0).trans rfl,(blk_cell BK293.out 1).trans rfl,(blk_cell BK293.out 2).trans rfl⟩ (fun hHeld => ?_)
            clear hK K
            refine norm_ (a':=?_) ?_ ?_
            rotate_left
            ·show Act.put _ (some 58) _ = _
             simp only [Act.put,sI,sZ,sS,i64_w,i32_w]
             rfl
            refine one_ (i:=3) (N:=some 60) #[bT,bT,bT,bT,bF,bF] rfl rfl (by kernel_rfl) (by decide) (fun K hK => ?_)
            refine goes_ Try.func27 (by kernel_rfl) rfl #[.agg #[.int .i64 a1_0,.int .i64 a1_1,.int .i64 a1_2]] (by rfl) rfl rfl (by (try simp only [List.map_toArray,List.map_cons,List.map_nil]);first|done|rfl|(simp only [List.length_drop,List.length_take];rfl)) ?_
            with_reducible refine (laws_toPay.calls a1_0 a1_1 a1_2 t326 t327 t328 _ A43.out).mono ?_
            rintro e w60 ⟨rfl,hb⟩
            refine ⟨_,rfl,?_⟩
            have n0_:=aM (Kd.R_below (by (with_reducible repeat (first|apply Kd.R_alloc|apply Kd.R_drewN|apply Kd.R_drew));exact HO_5.out) hb)
            have n1_:=aM (Kd.R_below (by (with_reducible repeat (first|apply Kd.R_alloc|apply Kd.R_drewN|apply Kd.R_drew));exact HO_7.out) hb)
            have n2_:=aM (Kd.R_below (by (with_reducible repeat (first|apply Kd.R_alloc|apply Kd.R_drewN|apply Kd.R_drew));exact HO325.out) hb)
            have n3_:=aM (blk_below (g:=gb293) (o:=.cells #[.int .i64 a1_0,.int .i64 a1_1,.int .i64 a1_2] 41 (0,0)) (by (with_reducible repeat (first|refine blk_drewN ?_ _|refine blk_drew ?_|refine blk_alloc ?_ _));exact BK293.out) hb)
            have n4_:=aM (below_step (by repeat (first|(with_reducible first|exact HB.out|apply bA|apply bN|apply bD|refine below_set ?_ GE293.out)|exact HB.out)) hb)
            clear HO_5
            clear HO_7
            clear HO325
            clear BK293
            clear HB
            have HO_5:=n0_
            have HO_7:=n1_
            have HO325:=n2_
            have BK293:=n3_
            have HB:=n4_
            clear n0_ n1_ n2_ n3_ n4_
            (try clear hb)
            (try clear hb2)
            (try clear hk)
            (try clear hi)
            obtain ⟨Ao61,co61,eo61⟩:=Kd.R_slice HO325.out
            (first|subst eo61|(injection eo61 with f1_ f2_ f3_;have f4_:=f1_.symm;have f5_:=f3_.symm;clear f1_ f2_ f3_;subst f4_;subst f5_))
            refine hK.out _ _ ⟨(blk_cell BK293.out 0).trans rfl,(blk_cell BK293.out 1).trans rfl,(blk_cell BK293.out 2).trans rfl⟩ (fun hHeld => ?_)
            clear hK K
            refine norm_ (a':=?_) ?_ ?_
            rotate_left
            ·show Act.put _ (some 60) _ = _
             simp only [Act.put,sI,sZ,sS,i64_w,i32_w]
             rfl
            refine one_ (i:=4) (N:=some 61) #[bT,bT,bT,bT,bT,bF] rfl rfl (by kernel_rfl) (by decide) (fun K hK => ?_)
            refine goes_ Try.func28 (by kernel_rfl) rfl #[.slice Ao61 t323.length co61,.agg #[.int .i64 t326,.int .i64 t327,.int .i64 t328]] (by rfl) rfl rfl (by (try simp only [List.map_toArray,List.map_cons,List.map_nil]);first|done|rfl|(simp only [List.length_drop,List.length_take];rfl)) ?_
            with_reducible refine (impl_BookPay.calls kj16 _ _ t323 t326 t327 t328 t329 _ ?side1 ?side2 A44.out).mono ?_
            (case side1 => repeat (first|exact (Kd.R_reads' HO325.out).2.2|(with_reducible refine Kd.C_alloc ?_ _)|(with_reducible refine Kd.C_drewN ?_ _)|(with_reducible refine Kd.C_drew ?_)))
            (case side2 => exact (Kd.R_reads' HO325.out).2.1)
            rintro e w62 ⟨v330,rfl,ho0,hb⟩
            refine ⟨_,rfl,?_⟩
            have n0_:=aM (Kd.R_elder' (by (with_reducible repeat (first|apply Kd.R_alloc|apply Kd.R_drewN|apply Kd.R_drew));exact HO_5.out) (Kd.R_base ho0) hb)
            have n1_:=aM (Kd.R_elder' (by (with_reducible repeat (first|apply Kd.R_alloc|apply Kd.R_drewN|apply Kd.R_drew));exact HO_7.out) (Kd.R_base ho0) hb)
            have n2_:=aM (Kd.R_elder' (by (with_reducible repeat (first|apply Kd.R_alloc|apply Kd.R_drewN|apply Kd.R_drew));exact HO325.out) (Kd.R_base ho0) hb)
            have n3_:=aM (Kd.R_lower (Kd.R_new' (Kd.R_new' (Kd.R_new' ho0 (Kd.R_lt (by (with_reducible repeat (first|apply Kd.R_alloc|apply Kd.R_drewN|apply Kd.R_drew));exact HO_5.out))) (Kd.R_lt (by (with_reducible repeat (first|apply Kd.R_alloc|apply Kd.R_drewN|apply Kd.R_drew));exact HO_7.out))) (Kd.R_lt (by (with_reducible repeat (first|apply Kd.R_alloc|apply Kd.R_drewN|apply Kd.R_drew));exact HO325.out))) (below_size (by repeat (first|(with_reducible first|exact HB.out|apply bA|apply bN|apply bD|refine below_set ?_ GE293.out)|exact HB.out))))
            have n4_:=aM (blk_below (g:=gb293) (o:=.cells #[.int .i64 a1_0,.int .i64 a1_1,.int .i64 a1_2] 41 (0,0)) (by (with_reducible repeat (first|refine blk_drewN ?_ _|refine blk_drew ?_|refine blk_alloc ?_ _));exact BK293.out) hb)
            have n5_:=aM (below_step (by repeat (first|(with_reducible first|exact HB.out|apply bA|apply bN|apply bD|refine below_set ?_ GE293.out)|exact HB.out)) hb)
            clear HO_5
            clear HO_7
            clear HO325
            clear BK293
            clear HB
            have HO_5:=n0_
            have HO_7:=n1_
            have HO325:=n2_
            have HO331:=n3_
            have BK293:=n4_
            have HB:=n5_
            clear n0_ n1_ n2_ n3_ n4_ n5_
            (try clear hb)
            (try clear hb2)
            (try clear hk)
            (try clear hi)
            (try clear ho0)
            refine hK.out _ _ ⟨(blk_cell BK293.out 0).trans rfl,(blk_cell BK293.out 1).trans rfl,(blk_cell BK293.out 2).trans rfl⟩ (fun hHeld => ?_)
            clear hK K
            refine norm_ (a':=?_) ?_ ?_
            rotate_left
            ·show Act.put _ (some 61) _ = _
             simp only [Act.put,sI,sZ,sS,i64_w,i32_w]
             rfl
            refine pure_ (i:=5) (N:=some 11) (v:=?_) (a':=?_) #[bT,bT,bT,bT,bT,bT] rfl rfl (by kernel_rfl) (fun _ _ _ h => h) (Or.inl ⟨by rfl,?_⟩) ?_ ?_
            rotate_left;(· intro w';go_simp;with_reducible rfl);rotate_left;(· simp only [Act.put,sI,sZ,sS,i64_w,i32_w];rfl)
            refine done_ (by kernel_rfl) ?_
            obtain ⟨Ao63,co63,eo63⟩:=Kd.R_slice HO331.out
            subst eo63
            try go_wp2_with (first|((with_reducible refine gate_callee (f:=10) rfl ?_);refine goesL_ (some 64) rfl rfl Try.func10 (by kernel_rfl) rfl #[.slice Ao63 t329.length co63,.slice Ao30 t300.length co30] rfl (by (try simp only [List.map_toArray,List.map_cons,List.map_nil]);first|done|rfl|(simp only [List.length_drop,List.length_take];rfl)) ?_;(with_reducible refine (laws_eqIntS.calls kj16 _ _ t329 _ _ t300 true _ ?side1 ?side2 ?side3 ?side4 A45.out).mono ?_);(case side1 => repeat (first|exact (Kd.R_reads' HO331.out).2.2|(with_reducible refine Kd.C_alloc ?_ _)|(with_reducible refine Kd.C_drewN ?_ _)|(with_reducible refine Kd.C_drew ?_)));(case side2 => exact (Kd.R_reads' HO331.out).2.1);(case side3 => repeat (first|exact (Kd.R_reads' HO_5.out).2.2|(with_reducible refine Kd.C_alloc ?_ _)|(with_reducible refine Kd.C_drewN ?_ _)|(with_reducible refine Kd.C_drew ?_)));(case side4 => exact (Kd.R_reads' HO_5.out).2.1);rintro e w' ⟨rfl,⟨nd,rfl⟩⟩;refine ⟨_,rfl,?_⟩)|((with_reducible refine gate_callee (f:=12) rfl ?_);refine goesL_ (some 68) rfl rfl Try.func12 (by kernel_rfl) rfl #[.slice Ao29 t321.length co29,.int .i64 1] rfl (by (try simp only [List.map_toArray,List.map_cons,List.map_nil]);first|done|(rw [show t321.length = t309.length from (Kd.R_reads' HO_7.out).1.symm] <;> rfl)|rfl|(simp only [List.length_drop,List.length_take];rfl)) ?_;(with_reducible refine (laws_heldIntS.calls kj16 _ _ t321 1 t333 _ ?side1 ?side2 A47.out).mono ?_);(case side1 => repeat (first|exact (Kd.R_reads' HO_7.out).2.2|(with_reducible refine Kd.C_alloc ?_ _)|(with_reducible refine Kd.C_drewN ?_ _)|(with_reducible refine Kd.C_drew ?_)));(case side2 => rw [show t321.length = t309.length from (Kd.R_reads' HO_7.out).1.symm];exact (Kd.R_reads' HO_7.out).2.1);rintro e w' ⟨rfl,⟨nd,rfl⟩⟩;refine ⟨_,rfl,?_⟩))
            go_ret
            exact ⟨by first|rfl|(simp only [i64_w,i32_w];done)|(simp only [i64_w,i32_w];rfl)|(simp [errW_none,errW_some] <;> rfl)|(simp [*,errW_none,errW_some] <;> rfl),by repeat (first|(with_reducible first|exact HB.out|apply bA|apply bN|apply bD|refine below_set ?_ GE293.out)|exact HB.out)⟩
           ·rw [if_neg c56] at H
            have c56b0 : (t333 == t320) = false:=beq_eq_false_iff_ne.mpr c56
            have c56b1 : (t333 != t320) = true:=bne_iff_ne.mpr c56
            obtain rfl:=Option.some.inj H
            try go_wp2_with (first|((with_reducible refine gate_callee (f:=11) rfl ?_);refine goesL_ (some 48) rfl rfl Try.func11 (by kernel_rfl) rfl #[.slice Ao29 t309.length co29,.int .i64 1] rfl (by (try simp only [List.map_toArray,List.map_cons,List.map_nil]);first|done|rfl|(simp only [List.length_drop,List.length_take];rfl)) ?_;(with_reducible refine (laws_markIntS.calls kj16 (fun k_ => some k_ = (.slice Ao29 t309.length co29 : Value).ownBlock) (.slice Ao29 t309.length co29) t309 1 t320 t321 w _ ?side1 ?side2 A37.out).mono ?_);(case side1 => repeat (first|(with_reducible first|exact HB.out|apply bA|apply bN|apply bD|refine below_set ?_ GE293.out)|exact HB.out));(case side2 => exact Kd.R_tight rfl HO_7.out);rintro e w64 ⟨rfl,hy0,hb,hkp⟩;refine ⟨_,rfl,?_⟩;have n0_:=aM (Kd.R_mono (ok':=fun k_ => some k_ ≠ (.slice Ao29 t309.length co29 : Value).ownBlock) (Kd.R_keptB (HO_5.out) hkp (fun k_ hk_ hs_ => (hk_) hs_)) (fun k_ hk_ => hk_.1));have n1_:=aM (Kd.R_reok rfl hy0 (fun k_ e_ => Kd.R_own1 HO_7.out k_ e_));have n2_:=aM (blk_kept (by (with_reducible repeat (first|refine blk_drewN ?_ _|refine blk_drew ?_|refine blk_alloc ?_ _));exact BK293.out) hkp (fun hs_ => (fun e_ => (Kd.R_ne HO_7.out BK293.out (by decide)) e_) hs_));have n3_:=aM (hb);clear HO_5;clear HO_7;clear BK293;clear HB;have HO_5:=n0_;have HO_7:=n1_;have BK293:=n2_;have HB:=n3_;clear n0_ n1_ n2_ n3_;(try clear hb);(try clear hkp);(try clear hy0))|((with_reducible refine gate_callee (f:=12) rfl ?_);refine goesL_ (some 51) rfl rfl Try.func12 (by kernel_rfl) rfl #[.slice Ao29 t321.length co29,.int .i64 1] rfl (by (try simp only [List.map_toArray,List.map_cons,List.map_nil]);first|done|(rw [show t321.length = t309.length from (Kd.R_reads' HO_7.out).1.symm] <;> rfl)|rfl|(simp only [List.length_drop,List.length_take];rfl)) ?_;(with_reducible refine (laws_heldIntS.calls kj16 _ _ t321 1 t322 _ ?side1 ?side2 A38.out).mono ?_);(case side1 => repeat (first|exact (Kd.R_reads' HO_7.out).2.2|(with_reducible refine Kd.C_alloc ?_ _)|(with_reducible refine Kd.C_drewN ?_ _)|(with_reducible refine Kd.C_drew ?_)));(case side2 => rw [show t321.length = t309.length from (Kd.R_reads' HO_7.out).1.symm];exact (Kd.R_reads' HO_7.out).2.1);rintro e w' ⟨rfl,⟨nd,rfl⟩⟩;refine ⟨_,rfl,?_⟩))
            (try (rw [drewN_self w64];generalize hq_ : World.drewN w64 _ = w64;have n0_ : Aside0 (Kd.R (Kd.int .i64) 3 w64 w.heap.size (fun k_ => some k_ ≠ (.slice Ao29 t309.length co29 : Value).ownBlock) (.slice Ao30 t300.length co30) t300):=⟨by rw [← hq_];exact (by (with_reducible repeat (first|apply Kd.R_alloc|apply Kd.R_drewN|apply Kd.R_drew));exact HO_5.out)⟩;have n1_ : Aside0 (Kd.R (Kd.int .i64) 3 w64 w.heap.size (fun k_ => some k_ ≠ (.slice Ao30 t300.length co30 : Value).ownBlock) (.slice Ao29 t309.length co29) t321):=⟨by rw [← hq_];exact (by (with_reducible repeat (first|apply Kd.R_alloc|apply Kd.R_drewN|apply Kd.R_drew));exact HO_7.out)⟩;have n2_ : Aside0 (w64.heap[gb293]? = some (.cells #[.int .i64 a1_0,.int .i64 a1_1,.int .i64 a1_2] 41 (0,0))):=⟨by rw [← hq_];exact (by (with_reducible repeat (first|refine blk_drewN ?_ _|refine blk_drew ?_|refine blk_alloc ?_ _));exact BK293.out)⟩;have n3_ : Aside0 (Below w.heap.size w w64):=⟨by rw [← hq_];exact (by repeat (first|(with_reducible first|exact HB.out|apply bA|apply bN|apply bD|refine below_set ?_ GE293.out)|exact HB.out))⟩;clear HO_5 HO_7 BK293 HB hq_;have HO_5:=n0_;have HO_7:=n1_;have BK293:=n2_;have HB:=n3_;clear n0_ n1_ n2_ n3_))
            have n0_:=aM (Kd.R_drew HO_5.out)
            have n1_:=aM (Kd.R_drew HO_7.out)
            have n2_:=aM (blk_drew BK293.out)
            have n3_:=aM (bD HB.out)
            clear HO_5
            clear HO_7
            clear BK293
            clear HB
            have HO_5:=n0_
            have HO_7:=n1_
            have BK293:=n2_
            have HB:=n3_
            clear n0_ n1_ n2_ n3_
            refine start_ (n:=6) (S:=fun w' => w'.cell? ⟨gb293,0,none⟩ = some (.int .i64 a1_0) ∧ w'.cell? ⟨gb293,1,none⟩ = some (.int .i64 a1_1) ∧ w'.cell? ⟨gb293,2,none⟩ = some (.int .i64 a1_2)) (ds:=[]) #[bF,bF,bF,bF,bF,bF] (by kernel_rfl) rfl rfl ⟨(blk_cell BK293.out 0).trans rfl,(blk_cell BK293.out 1).trans rfl,(blk_cell BK293.out 2).trans rfl⟩ (fun hHeld => ?_)
            generalize w64.drew = w65 at HO_5 HO_7 BK293 HB hHeld ⊢
            refine pure_ (i:=0) (N:=some 57) (v:=?_) (a':=?_) #[bT,bF,bF,bF,bF,bF] rfl rfl (by kernel_rfl) (fun _ _ _ h => h) (Or.inl ⟨by rfl,?_⟩) ?_ ?_
            rotate_left;(· intro w';go_simp;with_reducible rfl);rotate_left;(· simp only [Act.put,sI,sZ,sS,i64_w,i32_w];rfl)
            refine take_ (i:=2) (N:=some 59) (v:=?_) (a':=?_) #[bT,bF,bT,bF,bF,bF] rfl rfl (by kernel_rfl) (fun _ _ _ h => h) (Or.inl ⟨by rfl,?_⟩) hHeld ?_ ?_
            rotate_left
            ·rintro w' ⟨s0,s1,s2⟩
             (try simp only [Int.toNat_natCast] at s0 s1 s2)
             go_simp
             with_reducible rfl
            rotate_left
            ·simp only [Act.put,sI,sZ,sS,i64_w,i32_w]
             rfl
            refine one_ (i:=1) (N:=some 58) #[bT,bT,bT,bF,bF,bF] rfl rfl (by kernel_rfl) (by decide) (fun K hK => ?_)
            refine goes_ Try.func26 (by kernel_rfl) rfl #[.slice A0 l0.length c0] (by rfl) rfl rfl (by (try simp only [List.map_toArray,List.map_cons,List.map_nil]);first|done|rfl|(simp only [List.length_drop,List.length_take];rfl)) ?_
            with_reducible refine (laws_toIntS.calls kj16 _ _ l0 t323 _ ?side1 ?side2 A42.out).mono ?_
            (case side1 => repeat (first|exact (Kd.C_below HR0.out HB.out)|(with_reducible refine Kd.C_alloc ?_ _)|(with_reducible refine Kd.C_drewN ?_ _)|(with_reducible refine Kd.C_drew ?_)))
            (case side2 => exact HC0.out)
            rintro e w66 ⟨v324,rfl,ho0,hb⟩
            refine ⟨_,rfl,?_⟩
            have n0_:=aM (Kd.R_elder' (by (with_reducible repeat (first|apply Kd.R_alloc|apply Kd.R_drewN|apply Kd.R_drew));exact HO_5.out) (Kd.R_base ho0) hb)
            have n1_:=aM (Kd.R_elder' (by (with_reducible repeat (first|apply Kd.R_alloc|apply Kd.R_drewN|apply Kd.R_drew));exact HO_7.out) (Kd.R_base ho0) hb)
            have n2_:=aM (Kd.R_lower (Kd.R_new' (Kd.R_new' ho0 (Kd.R_lt (by (with_reducible repeat (first|apply Kd.R_alloc|apply Kd.R_drewN|apply Kd.R_drew));exact HO_5.out))) (Kd.R_lt (by (with_reducible repeat (first|apply Kd.R_alloc|apply Kd.R_drewN|apply Kd.R_drew));exact HO_7.out))) (below_size (by repeat (first|(with_reducible first|exact HB.out|apply bA|apply bN|apply bD|refine below_set ?_ GE293.out)|exact HB.out))))
            have n3_:=aM (blk_below (g:=gb293) (o:=.cells #[.int .i64 a1_0,.int .i64 a1_1,.int .i64 a1_2] 41 (0,0)) (by (with_reducible repeat (first|refine blk_drewN ?_ _|refine blk_drew ?_|refine blk_alloc ?_ _));exact BK293.out) hb)
            have n4_:=aM (below_step (by repeat (first|(with_reducible first|exact HB.out|apply bA|apply bN|apply bD|refine below_set ?_ GE293.out)|exact HB.out)) hb)
            clear HO_5
            clear HO_7
            clear BK293
            clear HB
            have HO_5:=n0_
            have HO_7:=n1_
            have HO325:=n2_
            have BK293:=n3_
            have HB:=n4_
            clear n0_ n1_ n2_ n3_ n4_
            (try clear hb)
            (try clear hb2)
            (try clear hk)
            (try clear hi)
            (try clear ho0)
            refine hK.out _ _ ⟨(blk_cell BK293.out 0).trans rfl,(blk_cell BK293.out 1).trans rfl,(blk_cell BK293.out 2).trans rfl⟩ (fun hHeld => ?_)
            clear hK K
            refine norm_ (a':=?_) ?_ ?_
            rotate_left
            ·show Act.put _ (some 58) _ = _
             simp only [Act.put,sI,sZ,sS,i64_w,i32_w]
             rfl
            refine one_ (i:=3) (N:=some 60) #[bT,bT,bT,bT,bF,bF] rfl rfl (by kernel_rfl) (by decide) (fun K hK => ?_)
            refine goes_ Try.func27 (by kernel_rfl) rfl #[.agg #[.int .i64 a1_0,.int .i64 a1_1,.int .i64 a1_2]] (by rfl) rfl rfl (by (try simp only [List.map_toArray,List.map_cons,List.map_nil]);first|done|rfl|(simp only [List.length_drop,List.length_take];rfl)) ?_
            with_reducible refine (laws_toPay.calls a1_0 a1_1 a1_2 t326 t327 t328 _ A43.out).mono ?_
            rintro e w67 ⟨rfl,hb⟩
            refine ⟨_,rfl,?_⟩
            have n0_:=aM (Kd.R_below (by (with_reducible repeat (first|apply Kd.R_alloc|apply Kd.R_drewN|apply Kd.R_drew));exact HO_5.out) hb)
            have n1_:=aM (Kd.R_below (by (with_reducible repeat (first|apply Kd.R_alloc|apply Kd.R_drewN|apply Kd.R_drew));exact HO_7.out) hb)
            have n2_:=aM (Kd.R_below (by (with_reducible repeat (first|apply Kd.R_alloc|apply Kd.R_drewN|apply Kd.R_drew));exact HO325.out) hb)
            have n3_:=aM (blk_below (g:=gb293) (o:=.cells #[.int .i64 a1_0,.int .i64 a1_1,.int .i64 a1_2] 41 (0,0)) (by (with_reducible repeat (first|refine blk_drewN ?_ _|refine blk_drew ?_|refine blk_alloc ?_ _));exact BK293.out) hb)
            have n4_:=aM (below_step (by repeat (first|(with_reducible first|exact HB.out|apply bA|apply bN|apply bD|refine below_set ?_ GE293.out)|exact HB.out)) hb)
            clear HO_5
            clear HO_7
            clear HO325
            clear BK293
            clear HB
            have HO_5:=n0_
            have HO_7:=n1_
            have HO325:=n2_
            have BK293:=n3_
            have HB:=n4_
            clear n0_ n1_ n2_ n3_ n4_
            (try clear hb)
            (try clear hb2)
            (try clear hk)
            (try clear hi)
            obtain ⟨Ao68,co68,eo68⟩:=Kd.R_slice HO325.out
            (first|subst eo68|(injection eo68 with f1_ f2_ f3_;have f4_:=f1_.symm;have f5_:=f3_.symm;clear f1_ f2_ f3_;subst f4_;subst f5_))
            refine hK.out _ _ ⟨(blk_cell BK293.out 0).trans rfl,(blk_cell BK293.out 1).trans rfl,(blk_cell BK293.out 2).trans rfl⟩ (fun hHeld => ?_)
            clear hK K
            refine norm_ (a':=?_) ?_ ?_
            rotate_left
            ·show Act.put _ (some 60) _ = _
             simp only [Act.put,sI,sZ,sS,i64_w,i32_w]
             rfl
            refine one_ (i:=4) (N:=some 61) #[bT,bT,bT,bT,bT,bF] rfl rfl (by kernel_rfl) (by decide) (fun K hK => ?_)
            refine goes_ Try.func28 (by kernel_rfl) rfl #[.slice Ao68 t323.length co68,.agg #[.int .i64 t326,.int .i64 t327,.int .i64 t328]] (by rfl) rfl rfl (by (try simp only [List.map_toArray,List.map_cons,List.map_nil]);first|done|rfl|(simp only [List.length_drop,List.length_take];rfl)) ?_
            with_reducible refine (impl_BookPay.calls kj16 _ _ t323 t326 t327 t328 t329 _ ?side1 ?side2 A44.out).mono ?_
            (case side1 => repeat (first|exact (Kd.R_reads' HO325.out).2.2|(with_reducible refine Kd.C_alloc ?_ _)|(with_reducible refine Kd.C_drewN ?_ _)|(with_reducible refine Kd.C_drew ?_)))
            (case side2 => exact (Kd.R_reads' HO325.out).2.1)
            rintro e w69 ⟨v330,rfl,ho0,hb⟩
            refine ⟨_,rfl,?_⟩
            have n0_:=aM (Kd.R_elder' (by (with_reducible repeat (first|apply Kd.R_alloc|apply Kd.R_drewN|apply Kd.R_drew));exact HO_5.out) (Kd.R_base ho0) hb)
            have n1_:=aM (Kd.R_elder' (by (with_reducible repeat (first|apply Kd.R_alloc|apply Kd.R_drewN|apply Kd.R_drew));exact HO_7.out) (Kd.R_base ho0) hb)
            have n2_:=aM (Kd.R_elder' (by (with_reducible repeat (first|apply Kd.R_alloc|apply Kd.R_drewN|apply Kd.R_drew));exact HO325.out) (Kd.R_base ho0) hb)
            have n3_:=aM (Kd.R_lower (Kd.R_new' (Kd.R_new' (Kd.R_new' ho0 (Kd.R_lt (by (with_reducible repeat (first|apply Kd.R_alloc|apply Kd.R_drewN|apply Kd.R_drew));exact HO_5.out))) (Kd.R_lt (by (with_reducible repeat (first|apply Kd.R_alloc|apply Kd.R_drewN|apply Kd.R_drew));exact HO_7.out))) (Kd.R_lt (by (with_reducible repeat (first|apply Kd.R_alloc|apply Kd.R_drewN|apply Kd.R_drew));exact HO325.out))) (below_size (by repeat (first|(with_reducible first|exact HB.out|apply bA|apply bN|apply bD|refine below_set ?_ GE293.out)|exact HB.out))))
            have n4_:=aM (blk_below (g:=gb293) (o:=.cells #[.int .i64 a1_0,.int .i64 a1_1,.int .i64 a1_2] 41 (0,0)) (by (with_reducible repeat (first|refine blk_drewN ?_ _|refine blk_drew ?_|refine blk_alloc ?_ _));exact BK293.out) hb)
            have n5_:=aM (below_step (by repeat (first|(with_reducible first|exact HB.out|apply bA|apply bN|apply bD|refine below_set ?_ GE293.out)|exact HB.out)) hb)
            clear HO_5
            clear HO_7
            clear HO325
            clear BK293
            clear HB
            have HO_5:=n0_
            have HO_7:=n1_
            have HO325:=n2_
            have HO331:=n3_
            have BK293:=n4_
            have HB:=n5_
            clear n0_ n1_ n2_ n3_ n4_ n5_
            (try clear hb)
            (try clear hb2)
            (try clear hk)
            (try clear hi)
            (try clear ho0)
            refine hK.out _ _ ⟨(blk_cell BK293.out 0).trans rfl,(blk_cell BK293.out 1).trans rfl,(blk_cell BK293.out 2).trans rfl⟩ (fun hHeld => ?_)
            clear hK K
            refine norm_ (a':=?_) ?_ ?_
            rotate_left
            ·show Act.put _ (some 61) _ = _
             simp only [Act.put,sI,sZ,sS,i64_w,i32_w]
             rfl
            refine pure_ (i:=5) (N:=some 11) (v:=?_) (a':=?_) #[bT,bT,bT,bT,bT,bT] rfl rfl (by kernel_rfl) (fun _ _ _ h => h) (Or.inl ⟨by rfl,?_⟩) ?_ ?_
            rotate_left;(· intro w';go_simp;with_reducible rfl);rotate_left;(· simp only [Act.put,sI,sZ,sS,i64_w,i32_w];rfl)
            refine done_ (by kernel_rfl) ?_
            obtain ⟨Ao70,co70,eo70⟩:=Kd.R_slice HO331.out
            subst eo70
            try go_wp2_with (first|((with_reducible refine gate_callee (f:=10) rfl ?_);refine goesL_ (some 64) rfl rfl Try.func10 (by kernel_rfl) rfl #[.slice Ao70 t329.length co70,.slice Ao30 t300.length co30] rfl (by (try simp only [List.map_toArray,List.map_cons,List.map_nil]);first|done|rfl|(simp only [List.length_drop,List.length_take];rfl)) ?_;(with_reducible refine (laws_eqIntS.calls kj16 _ _ t329 _ _ t300 true _ ?side1 ?side2 ?side3 ?side4 A45.out).mono ?_);(case side1 => repeat (first|exact (Kd.R_reads' HO331.out).2.2|(with_reducible refine Kd.C_alloc ?_ _)|(with_reducible refine Kd.C_drewN ?_ _)|(with_reducible refine Kd.C_drew ?_)));(case side2 => exact (Kd.R_reads' HO331.out).2.1);(case side3 => repeat (first|exact (Kd.R_reads' HO_5.out).2.2|(with_reducible refine Kd.C_alloc ?_ _)|(with_reducible refine Kd.C_drewN ?_ _)|(with_reducible refine Kd.C_drew ?_)));(case side4 => exact (Kd.R_reads' HO_5.out).2.1);rintro e w' ⟨rfl,⟨nd,rfl⟩⟩;refine ⟨_,rfl,?_⟩)|((with_reducible refine gate_callee (f:=12) rfl ?_);refine goesL_ (some 68) rfl rfl Try.func12 (by kernel_rfl) rfl #[.slice Ao29 t321.length co29,.int .i64 1] rfl (by (try simp only [List.map_toArray,List.map_cons,List.map_nil]);first|done|(rw [show t321.length = t309.length from (Kd.R_reads' HO_7.out).1.symm] <;> rfl)|rfl|(simp only [List.length_drop,List.length_take];rfl)) ?_;(with_reducible refine (laws_heldIntS.calls kj16 _ _ t321 1 t333 _ ?side1 ?side2 A47.out).mono ?_);(case side1 => repeat (first|exact (Kd.R_reads' HO_7.out).2.2|(with_reducible refine Kd.C_alloc ?_ _)|(with_reducible refine Kd.C_drewN ?_ _)|(with_reducible refine Kd.C_drew ?_)));(case side2 => rw [show t321.length = t309.length from (Kd.R_reads' HO_7.out).1.symm];exact (Kd.R_reads' HO_7.out).2.1);rintro e w' ⟨rfl,⟨nd,rfl⟩⟩;refine ⟨_,rfl,?_⟩))
            go_ret
            exact ⟨by first|rfl|(simp only [i64_w,i32_w];done)|(simp only [i64_w,i32_w];rfl)|(simp [errW_none,errW_some] <;> rfl)|(simp [*,errW_none,errW_some] <;> rfl),by repeat (first|(with_reducible first|exact HB.out|apply bA|apply bN|apply bD|refine below_set ?_ GE293.out)|exact HB.out)⟩
         ·replace c46:=Bool.eq_false_iff.mpr c46
          subst c46
          have H1 : (some false) = some r:=by rw [if_neg (show ¬ (false = true) by decide)] at H;exact H
          clear H
          have H:=H1
          clear H1
          obtain rfl:=Option.some.inj H
          try go_wp2_with (first|((with_reducible refine gate_callee (f:=11) rfl ?_);refine goesL_ (some 48) rfl rfl Try.func11 (by kernel_rfl) rfl #[.slice Ao29 t309.length co29,.int .i64 1] rfl (by (try simp only [List.map_toArray,List.map_cons,List.map_nil]);first|done|rfl|(simp only [List.length_drop,List.length_take];rfl)) ?_;(with_reducible refine (laws_markIntS.calls kj16 (fun k_ => some k_ = (.slice Ao29 t309.length co29 : Value).ownBlock) (.slice Ao29 t309.length co29) t309 1 t320 t321 w _ ?side1 ?side2 A37.out).mono ?_);(case side1 => repeat (first|(with_reducible first|exact HB.out|apply bA|apply bN|apply bD|refine below_set ?_ GE293.out)|exact HB.out));(case side2 => exact Kd.R_tight rfl HO_7.out);rintro e w71 ⟨rfl,hy0,hb,hkp⟩;refine ⟨_,rfl,?_⟩;have n0_:=aM (Kd.R_mono (ok':=fun k_ => some k_ ≠ (.slice Ao29 t309.length co29 : Value).ownBlock) (Kd.R_keptB (HO_5.out) hkp (fun k_ hk_ hs_ => (hk_) hs_)) (fun k_ hk_ => hk_.1));have n1_:=aM (Kd.R_reok rfl hy0 (fun k_ e_ => Kd.R_own1 HO_7.out k_ e_));have n2_:=aM (blk_kept (by (with_reducible repeat (first|refine blk_drewN ?_ _|refine blk_drew ?_|refine blk_alloc ?_ _));exact BK293.out) hkp (fun hs_ => (fun e_ => (Kd.R_ne HO_7.out BK293.out (by decide)) e_) hs_));have n3_:=aM (hb);clear HO_5;clear HO_7;clear BK293;clear HB;have HO_5:=n0_;have HO_7:=n1_;have BK293:=n2_;have HB:=n3_;clear n0_ n1_ n2_ n3_;(try clear hb);(try clear hkp);(try clear hy0))|((with_reducible refine gate_callee (f:=12) rfl ?_);refine goesL_ (some 51) rfl rfl Try.func12 (by kernel_rfl) rfl #[.slice Ao29 t321.length co29,.int .i64 1] rfl (by (try simp only [List.map_toArray,List.map_cons,List.map_nil]);first|done|(rw [show t321.length = t309.length from (Kd.R_reads' HO_7.out).1.symm] <;> rfl)|rfl|(simp only [List.length_drop,List.length_take];rfl)) ?_;(with_reducible refine (laws_heldIntS.calls kj16 _ _ t321 1 t322 _ ?side1 ?side2 A38.out).mono ?_);(case side1 => repeat (first|exact (Kd.R_reads' HO_7.out).2.2|(with_reducible refine Kd.C_alloc ?_ _)|(with_reducible refine Kd.C_drewN ?_ _)|(with_reducible refine Kd.C_drew ?_)));(case side2 => rw [show t321.length = t309.length from (Kd.R_reads' HO_7.out).1.symm];exact (Kd.R_reads' HO_7.out).2.1);rintro e w' ⟨rfl,⟨nd,rfl⟩⟩;refine ⟨_,rfl,?_⟩))
          (try (rw [drewN_self w71];generalize hq_ : World.drewN w71 _ = w71;have n0_ : Aside0 (Kd.R (Kd.int .i64) 3 w71 w.heap.size (fun k_ => some k_ ≠ (.slice Ao29 t309.length co29 : Value).ownBlock) (.slice Ao30 t300.length co30) t300):=⟨by rw [← hq_];exact (by (with_reducible repeat (first|apply Kd.R_alloc|apply Kd.R_drewN|apply Kd.R_drew));exact HO_5.out)⟩;have n1_ : Aside0 (Kd.R (Kd.int .i64) 3 w71 w.heap.size (fun k_ => some k_ ≠ (.slice Ao30 t300.length co30 : Value).ownBlock) (.slice Ao29 t309.length co29) t321):=⟨by rw [← hq_];exact (by (with_reducible repeat (first|apply Kd.R_alloc|apply Kd.R_drewN|apply Kd.R_drew));exact HO_7.out)⟩;have n2_ : Aside0 (w71.heap[gb293]? = some (.cells #[.int .i64 a1_0,.int .i64 a1_1,.int .i64 a1_2] 41 (0,0))):=⟨by rw [← hq_];exact (by (with_reducible repeat (first|refine blk_drewN ?_ _|refine blk_drew ?_|refine blk_alloc ?_ _));exact BK293.out)⟩;have n3_ : Aside0 (Below w.heap.size w w71):=⟨by rw [← hq_];exact (by repeat (first|(with_reducible first|exact HB.out|apply bA|apply bN|apply bD|refine below_set ?_ GE293.out)|exact HB.out))⟩;clear HO_5 HO_7 BK293 HB hq_;have HO_5:=n0_;have HO_7:=n1_;have BK293:=n2_;have HB:=n3_;clear n0_ n1_ n2_ n3_))
          have n0_:=aM (Kd.R_drew HO_5.out)
          have n1_:=aM (Kd.R_drew HO_7.out)
          have n2_:=aM (blk_drew BK293.out)
          have n3_:=aM (bD HB.out)
          clear HO_5
          clear HO_7
          clear BK293
          clear HB
          have HO_5:=n0_
          have HO_7:=n1_
          have BK293:=n2_
          have HB:=n3_
          clear n0_ n1_ n2_ n3_
          refine start_ (n:=6) (S:=fun w' => w'.cell? ⟨gb293,0,none⟩ = some (.int .i64 a1_0) ∧ w'.cell? ⟨gb293,1,none⟩ = some (.int .i64 a1_1) ∧ w'.cell? ⟨gb293,2,none⟩ = some (.int .i64 a1_2)) (ds:=[]) #[bF,bF,bF,bF,bF,bF] (by kernel_rfl) rfl rfl ⟨(blk_cell BK293.out 0).trans rfl,(blk_cell BK293.out 1).trans rfl,(blk_cell BK293.out 2).trans rfl⟩ (fun hHeld => ?_)
          generalize w71.drew = w72 at HO_5 HO_7 BK293 HB hHeld ⊢
          refine pure_ (i:=0) (N:=some 57) (v:=?_) (a':=?_) #[bT,bF,bF,bF,bF,bF] rfl rfl (by kernel_rfl) (fun _ _ _ h => h) (Or.inl ⟨by rfl,?_⟩) ?_ ?_
          rotate_left;(· intro w';go_simp;with_reducible rfl);rotate_left;(· simp only [Act.put,sI,sZ,sS,i64_w,i32_w];rfl)
          refine take_ (i:=2) (N:=some 59) (v:=?_) (a':=?_) #[bT,bF,bT,bF,bF,bF] rfl rfl (by kernel_rfl) (fun _ _ _ h => h) (Or.inl ⟨by rfl,?_⟩) hHeld ?_ ?_
          rotate_left
          ·rintro w' ⟨s0,s1,s2⟩
           (try simp only [Int.toNat_natCast] at s0 s1 s2)
           go_simp
           with_reducible rfl
          rotate_left
          ·simp only [Act.put,sI,sZ,sS,i64_w,i32_w]
           rfl
          refine one_ (i:=1) (N:=some 58) #[bT,bT,bT,bF,bF,bF] rfl rfl (by kernel_rfl) (by decide) (fun K hK => ?_)
          refine goes_ Try.func26 (by kernel_rfl) rfl #[.slice A0 l0.length c0] (by rfl) rfl rfl (by (try simp only [List.map_toArray,List.map_cons,List.map_nil]);first|done|rfl|(simp only [List.length_drop,List.length_take];rfl)) ?_
          with_reducible refine (laws_toIntS.calls kj16 _ _ l0 t323 _ ?side1 ?side2 A42.out).mono ?_
          (case side1 => repeat (first|exact (Kd.C_below HR0.out HB.out)|(with_reducible refine Kd.C_alloc ?_ _)|(with_reducible refine Kd.C_drewN ?_ _)|(with_reducible refine Kd.C_drew ?_)))
          (case side2 => exact HC0.out)
          rintro e w73 ⟨v324,rfl,ho0,hb⟩
          refine ⟨_,rfl,?_⟩
          have n0_:=aM (Kd.R_elder' (by (with_reducible repeat (first|apply Kd.R_alloc|apply Kd.R_drewN|apply Kd.R_drew));exact HO_5.out) (Kd.R_base ho0) hb)
          have n1_:=aM (Kd.R_elder' (by (with_reducible repeat (first|apply Kd.R_alloc|apply Kd.R_drewN|apply Kd.R_drew));exact HO_7.out) (Kd.R_base ho0) hb)
          have n2_:=aM (Kd.R_lower (Kd.R_new' (Kd.R_new' ho0 (Kd.R_lt (by (with_reducible repeat (first|apply Kd.R_alloc|apply Kd.R_drewN|apply Kd.R_drew));exact HO_5.out))) (Kd.R_lt (by (with_reducible repeat (first|apply Kd.R_alloc|apply Kd.R_drewN|apply Kd.R_drew));exact HO_7.out))) (below_size (by repeat (first|(with_reducible first|exact HB.out|apply bA|apply bN|apply bD|refine below_set ?_ GE293.out)|exact HB.out))))
          have n3_:=aM (blk_below (g:=gb293) (o:=.cells #[.int .i64 a1_0,.int .i64 a1_1,.int .i64 a1_2] 41 (0,0)) (by (with_reducible repeat (first|refine blk_drewN ?_ _|refine blk_drew ?_|refine blk_alloc ?_ _));exact BK293.out) hb)
          have n4_:=aM (below_step (by repeat (first|(with_reducible first|exact HB.out|apply bA|apply bN|apply bD|refine below_set ?_ GE293.out)|exact HB.out)) hb)
          clear HO_5
          clear HO_7
          clear BK293
          clear HB
          have HO_5:=n0_
          have HO_7:=n1_
          have HO325:=n2_
          have BK293:=n3_
          have HB:=n4_
          clear n0_ n1_ n2_ n3_ n4_
          (try clear hb)
          (try clear hb2)
          (try clear hk)
          (try clear hi)
          (try clear ho0)
          refine hK.out _ _ ⟨(blk_cell BK293.out 0).trans rfl,(blk_cell BK293.out 1).trans rfl,(blk_cell BK293.out 2).trans rfl⟩ (fun hHeld => ?_)
          clear hK K
          refine norm_ (a':=?_) ?_ ?_
          rotate_left
          ·show Act.put _ (some 58) _ = _
           simp only [Act.put,sI,sZ,sS,i64_w,i32_w]
           rfl
          refine one_ (i:=3) (N:=some 60) #[bT,bT,bT,bT,bF,bF] rfl rfl (by kernel_rfl) (by decide) (fun K hK => ?_)
          refine goes_ Try.func27 (by kernel_rfl) rfl #[.agg #[.int .i64 a1_0,.int .i64 a1_1,.int .i64 a1_2]] (by rfl) rfl rfl (by (try simp only [List.map_toArray,List.map_cons,List.map_nil]);first|done|rfl|(simp only [List.length_drop,List.length_take];rfl)) ?_
          with_reducible refine (laws_toPay.calls a1_0 a1_1 a1_2 t326 t327 t328 _ A43.out).mono ?_
          rintro e w74 ⟨rfl,hb⟩
          refine ⟨_,rfl,?_⟩
          have n0_:=aM (Kd.R_below (by (with_reducible repeat (first|apply Kd.R_alloc|apply Kd.R_drewN|apply Kd.R_drew));exact HO_5.out) hb)
          have n1_:=aM (Kd.R_below (by (with_reducible repeat (first|apply Kd.R_alloc|apply Kd.R_drewN|apply Kd.R_drew));exact HO_7.out) hb)
          have n2_:=aM (Kd.R_below (by (with_reducible repeat (first|apply Kd.R_alloc|apply Kd.R_drewN|apply Kd.R_drew));exact HO325.out) hb)
          have n3_:=aM (blk_below (g:=gb293) (o:=.cells #[.int .i64 a1_0,.int .i64 a1_1,.int .i64 a1_2] 41 (0,0)) (by (with_reducible repeat (first|refine blk_drewN ?_ _|refine blk_drew ?_|refine blk_alloc ?_ _));exact BK293.out) hb)
          have n4_:=aM (below_step (by repeat (first|(with_reducible first|exact HB.out|apply bA|apply bN|apply bD|refine below_set ?_ GE293.out)|exact HB.out)) hb)
          clear HO_5
          clear HO_7
          clear HO325
          clear BK293
          clear HB
          have HO_5:=n0_
          have HO_7:=n1_
          have HO325:=n2_
          have BK293:=n3_
          have HB:=n4_
          clear n0_ n1_ n2_ n3_ n4_
          (try clear hb)
          (try clear hb2)
          (try clear hk)
          (try clear hi)
          obtain ⟨Ao75,co75,eo75⟩:=Kd.R_slice HO325.out
          (first|subst eo75|(injection eo75 with f1_ f2_ f3_;have f4_:=f1_.symm;have f5_:=f3_.symm;clear f1_ f2_ f3_;subst f4_;subst f5_))
          refine hK.out _ _ ⟨(blk_cell BK293.out 0).trans rfl,(blk_cell BK293.out 1).trans rfl,(blk_cell BK293.out 2).trans rfl⟩ (fun hHeld => ?_)
          clear hK K
          refine norm_ (a':=?_) ?_ ?_
          rotate_left
          ·show Act.put _ (some 60) _ = _
           simp only [Act.put,sI,sZ,sS,i64_w,i32_w]
           rfl
          refine one_ (i:=4) (N:=some 61) #[bT,bT,bT,bT,bT,bF] rfl rfl (by kernel_rfl) (by decide) (fun K hK => ?_)
          refine goes_ Try.func28 (by kernel_rfl) rfl #[.slice Ao75 t323.length co75,.agg #[.int .i64 t326,.int .i64 t327,.int .i64 t328]] (by rfl) rfl rfl (by (try simp only [List.map_toArray,List.map_cons,List.map_nil]);first|done|rfl|(simp only [List.length_drop,List.length_take];rfl)) ?_
          with_reducible refine (impl_BookPay.calls kj16 _ _ t323 t326 t327 t328 t329 _ ?side1 ?side2 A44.out).mono ?_
          (case side1 => repeat (first|exact (Kd.R_reads' HO325.out).2.2|(with_reducible refine Kd.C_alloc ?_ _)|(with_reducible refine Kd.C_drewN ?_ _)|(with_reducible refine Kd.C_drew ?_)))
          (case side2 => exact (Kd.R_reads' HO325.out).2.1)
          rintro e w76 ⟨v330,rfl,ho0,hb⟩
          refine ⟨_,rfl,?_⟩
          have n0_:=aM (Kd.R_elder' (by (with_reducible repeat (first|apply Kd.R_alloc|apply Kd.R_drewN|apply Kd.R_drew));exact HO_5.out) (Kd.R_base ho0) hb)
          have n1_:=aM (Kd.R_elder' (by (with_reducible repeat (first|apply Kd.R_alloc|apply Kd.R_drewN|apply Kd.R_drew));exact HO_7.out) (Kd.R_base ho0) hb)
          have n2_:=aM (Kd.R_elder' (by (with_reducible repeat (first|apply Kd.R_alloc|apply Kd.R_drewN|apply Kd.R_drew));exact HO325.out) (Kd.R_base ho0) hb)
          have n3_:=aM (Kd.R_lower (Kd.R_new' (Kd.R_new' (Kd.R_new' ho0 (Kd.R_lt (by (with_reducible repeat (first|apply Kd.R_alloc|apply Kd.R_drewN|apply Kd.R_drew));exact HO_5.out))) (Kd.R_lt (by (with_reducible repeat (first|apply Kd.R_alloc|apply Kd.R_drewN|apply Kd.R_drew));exact HO_7.out))) (Kd.R_lt (by (with_reducible repeat (first|apply Kd.R_alloc|apply Kd.R_drewN|apply Kd.R_drew));exact HO325.out))) (below_size (by repeat (first|(with_reducible first|exact HB.out|apply bA|apply bN|apply bD|refine below_set ?_ GE293.out)|exact HB.out))))
          have n4_:=aM (blk_below (g:=gb293) (o:=.cells #[.int .i64 a1_0,.int .i64 a1_1,.int .i64 a1_2] 41 (0,0)) (by (with_reducible repeat (first|refine blk_drewN ?_ _|refine blk_drew ?_|refine blk_alloc ?_ _));exact BK293.out) hb)
          have n5_:=aM (below_step (by repeat (first|(with_reducible first|exact HB.out|apply bA|apply bN|apply bD|refine below_set ?_ GE293.out)|exact HB.out)) hb)
          clear HO_5
          clear HO_7
          clear HO325
          clear BK293
          clear HB
          have HO_5:=n0_
          have HO_7:=n1_
          have HO325:=n2_
          have HO331:=n3_
          have BK293:=n4_
          have HB:=n5_
          clear n0_ n1_ n2_ n3_ n4_ n5_
          (try clear hb)
          (try clear hb2)
          (try clear hk)
          (try clear hi)
          (try clear ho0)
          refine hK.out _ _ ⟨(blk_cell BK293.out 0).trans rfl,(blk_cell BK293.out 1).trans rfl,(blk_cell BK293.out 2).trans rfl⟩ (fun hHeld => ?_)
          clear hK K
          refine norm_ (a':=?_) ?_ ?_
          rotate_left
          ·show Act.put _ (some 61) _ = _
           simp only [Act.put,sI,sZ,sS,i64_w,i32_w]
           rfl
          refine pure_ (i:=5) (N:=some 11) (v:=?_) (a':=?_) #[bT,bT,bT,bT,bT,bT] rfl rfl (by kernel_rfl) (fun _ _ _ h => h) (Or.inl ⟨by rfl,?_⟩) ?_ ?_
          rotate_left;(· intro w';go_simp;with_reducible rfl);rotate_left;(· simp only [Act.put,sI,sZ,sS,i64_w,i32_w];rfl)
          refine done_ (by kernel_rfl) ?_
          obtain ⟨Ao77,co77,eo77⟩:=Kd.R_slice HO331.out
          subst eo77
          try go_wp2_with (first|((with_reducible refine gate_callee (f:=10) rfl ?_);refine goesL_ (some 64) rfl rfl Try.func10 (by kernel_rfl) rfl #[.slice Ao77 t329.length co77,.slice Ao30 t300.length co30] rfl (by (try simp only [List.map_toArray,List.map_cons,List.map_nil]);first|done|rfl|(simp only [List.length_drop,List.length_take];rfl)) ?_;(with_reducible refine (laws_eqIntS.calls kj16 _ _ t329 _ _ t300 false _ ?side1 ?side2 ?side3 ?side4 A45.out).mono ?_);(case side1 => repeat (first|exact (Kd.R_reads' HO331.out).2.2|(with_reducible refine Kd.C_alloc ?_ _)|(with_reducible refine Kd.C_drewN ?_ _)|(with_reducible refine Kd.C_drew ?_)));(case side2 => exact (Kd.R_reads' HO331.out).2.1);(case side3 => repeat (first|exact (Kd.R_reads' HO_5.out).2.2|(with_reducible refine Kd.C_alloc ?_ _)|(with_reducible refine Kd.C_drewN ?_ _)|(with_reducible refine Kd.C_drew ?_)));(case side4 => exact (Kd.R_reads' HO_5.out).2.1);rintro e w' ⟨rfl,⟨nd,rfl⟩⟩;refine ⟨_,rfl,?_⟩))
          go_ret
          exact ⟨by first|rfl|(simp only [i64_w,i32_w];done)|(simp only [i64_w,i32_w];rfl)|(simp [errW_none,errW_some] <;> rfl)|(simp [*,errW_none,errW_some] <;> rfl),by repeat (first|(with_reducible first|exact HB.out|apply bA|apply bN|apply bD|refine below_set ?_ GE293.out)|exact HB.out)⟩
        ·rw [if_neg c41] at H
         have c41b0 : (t322 == t320) = false:=beq_eq_false_iff_ne.mpr c41
         have c41b1 : (t322 != t320) = true:=bne_iff_ne.mpr c41
         obtain rfl:=Option.some.inj H
         go_wp2_with (first|((with_reducible refine gate_callee (f:=11) rfl ?_);refine goesL_ (some 48) rfl rfl Try.func11 (by kernel_rfl) rfl #[.slice Ao29 t309.length co29,.int .i64 1] rfl (by (try simp only [List.map_toArray,List.map_cons,List.map_nil]);first|done|rfl|(simp only [List.length_drop,List.length_take];rfl)) ?_;(with_reducible refine (laws_markIntS.calls kj16 (fun k_ => some k_ = (.slice Ao29 t309.length co29 : Value).ownBlock) (.slice Ao29 t309.length co29) t309 1 t320 t321 w _ ?side1 ?side2 A37.out).mono ?_);(case side1 => repeat (first|(with_reducible first|exact HB.out|apply bA|apply bN|apply bD|refine below_set ?_ GE293.out)|exact HB.out));(case side2 => exact Kd.R_tight rfl HO_7.out);rintro e w78 ⟨rfl,hy0,hb,hkp⟩;refine ⟨_,rfl,?_⟩;have n0_:=aM (Kd.R_mono (ok':=fun k_ => some k_ ≠ (.slice Ao29 t309.length co29 : Value).ownBlock) (Kd.R_keptB (HO_5.out) hkp (fun k_ hk_ hs_ => (hk_) hs_)) (fun k_ hk_ => hk_.1));have n1_:=aM (Kd.R_reok rfl hy0 (fun k_ e_ => Kd.R_own1 HO_7.out k_ e_));have n2_:=aM (blk_kept (by (with_reducible repeat (first|refine blk_drewN ?_ _|refine blk_drew ?_|refine blk_alloc ?_ _));exact BK293.out) hkp (fun hs_ => (fun e_ => (Kd.R_ne HO_7.out BK293.out (by decide)) e_) hs_));have n3_:=aM (hb);clear HO_5;clear HO_7;clear BK293;clear HB;have HO_5:=n0_;have HO_7:=n1_;have BK293:=n2_;have HB:=n3_;clear n0_ n1_ n2_ n3_;(try clear hb);(try clear hkp);(try clear hy0))|((with_reducible refine gate_callee (f:=12) rfl ?_);refine goesL_ (some 51) rfl rfl Try.func12 (by kernel_rfl) rfl #[.slice Ao29 t321.length co29,.int .i64 1] rfl (by (try simp only [List.map_toArray,List.map_cons,List.map_nil]);first|done|(rw [show t321.length = t309.length from (Kd.R_reads' HO_7.out).1.symm] <;> rfl)|rfl|(simp only [List.length_drop,List.length_take];rfl)) ?_;(with_reducible refine (laws_heldIntS.calls kj16 _ _ t321 1 t322 _ ?side1 ?side2 A38.out).mono ?_);(case side1 => repeat (first|exact (Kd.R_reads' HO_7.out).2.2|(with_reducible refine Kd.C_alloc ?_ _)|(with_reducible refine Kd.C_drewN ?_ _)|(with_reducible refine Kd.C_drew ?_)));(case side2 => rw [show t321.length = t309.length from (Kd.R_reads' HO_7.out).1.symm];exact (Kd.R_reads' HO_7.out).2.1);rintro e w' ⟨rfl,⟨nd,rfl⟩⟩;refine ⟨_,rfl,?_⟩))
         go_ret
         exact ⟨by first|rfl|(simp only [i64_w,i32_w];done)|(simp only [i64_w,i32_w];rfl)|(simp [errW_none,errW_some] <;> rfl)|(simp [*,errW_none,errW_some] <;> rfl),by repeat (first|(with_reducible first|exact HB.out|apply bA|apply bN|apply bD|refine below_set ?_ GE293.out)|exact HB.out)⟩
   ·replace c15:=Bool.eq_false_iff.mpr c15
    subst c15
    have H1 : (some false) = some r:=by rw [if_neg (show ¬ (false = true) by decide)] at H;exact H
    clear H
    have H:=H1
    clear H1
    obtain rfl:=Option.some.inj H
    go_enter Try.func6,Try.ntmps6
    try go_wp2_with (first|((with_reducible refine gate_dst (N:=3) rfl ?_);refine box_event ?hg (N:=3) ?hd (cs:=#[.int .i64 a1_0,.int .i64 a1_1,.int .i64 a1_2]) (t:=41) ?hr ?_;(case hd => rfl);(case hg => rfl);(case hr => first|(go_simp;done)|(go_simp;rfl));intro gb293 hg w79 hbox hb;have n0_:=aM (below_step (by repeat (first|(with_reducible first|exact HB.out|apply bA|apply bN|apply bD)|exact HB.out)) hb);have n1_:=aM (hbox);have n2_:=aM ((by rw [hg];exact (below_size (by repeat (first|(with_reducible first|exact HB.out|apply bA|apply bN|apply bD)|exact HB.out))) : w.heap.size ≤ gb293));have n3_:=aM ((by rw [hg];exact (below_size (by repeat (first|(with_reducible first|exact HB.out|apply bA|apply bN|apply bD)|exact HB.out))) : w.heap.size ≤ gb293));clear HB;have HB:=n0_;have BK293:=n1_;have GW293:=n2_;have GE293:=n3_;clear n0_ n1_ n2_ n3_;clear hb hbox hg))
    have n0_:=aM (blk_drew BK293.out)
    have n1_:=aM (bD HB.out)
    clear BK293
    clear HB
    have BK293:=n0_
    have HB:=n1_
    clear n0_ n1_
    refine start_ (n:=6) (S:=fun w' => w'.cell? ⟨gb293,0,none⟩ = some (.int .i64 a1_0) ∧ w'.cell? ⟨gb293,1,none⟩ = some (.int .i64 a1_1) ∧ w'.cell? ⟨gb293,2,none⟩ = some (.int .i64 a1_2)) (ds:=[]) #[bF,bF,bF,bF,bF,bF] (by kernel_rfl) rfl rfl ⟨(blk_cell BK293.out 0).trans rfl,(blk_cell BK293.out 1).trans rfl,(blk_cell BK293.out 2).trans rfl⟩ (fun hHeld => ?_)
    generalize w79.drew = w80 at BK293 HB hHeld ⊢
    refine pure_ (i:=0) (N:=some 15) (v:=?_) (a':=?_) #[bT,bF,bF,bF,bF,bF] rfl rfl (by kernel_rfl) (fun _ _ _ h => h) (Or.inl ⟨by rfl,?_⟩) ?_ ?_
    rotate_left;(· intro w';go_simp;with_reducible rfl);rotate_left;(· simp only [Act.put,sI,sZ,sS,i64_w,i32_w];rfl)
    refine take_ (i:=2) (N:=some 17) (v:=?_) (a':=?_) #[bT,bF,bT,bF,bF,bF] rfl rfl (by kernel_rfl) (fun _ _ _ h => h) (Or.inl ⟨by rfl,?_⟩) hHeld ?_ ?_
    rotate_left
    ·rintro w' ⟨s0,s1,s2⟩
     (try simp only [Int.toNat_natCast] at s0 s1 s2)
     go_simp
     with_reducible rfl
    rotate_left
    ·simp only [Act.put,sI,sZ,sS,i64_w,i32_w]
     rfl
    refine one_ (i:=1) (N:=some 16) #[bT,bT,bT,bF,bF,bF] rfl rfl (by kernel_rfl) (by decide) (fun K hK => ?_)
    refine goes_ Try.func26 (by kernel_rfl) rfl #[.slice A0 l0.length c0] (by rfl) rfl rfl (by (try simp only [List.map_toArray,List.map_cons,List.map_nil]);first|done|rfl|(simp only [List.length_drop,List.length_take];rfl)) ?_
    with_reducible refine (laws_toIntS.calls k _ _ l0 t294 _ ?side1 ?side2 A5.out).mono ?_
    (case side1 => repeat (first|exact (Kd.C_below HR0.out HB.out)|(with_reducible refine Kd.C_alloc ?_ _)|(with_reducible refine Kd.C_drewN ?_ _)|(with_reducible refine Kd.C_drew ?_)))
    (case side2 => exact HC0.out)
    rintro e w81 ⟨v295,rfl,ho0,hb⟩
    refine ⟨_,rfl,?_⟩
    have n0_:=aM (Kd.R_lower ho0 (below_size (by repeat (first|(with_reducible first|exact HB.out|apply bA|apply bN|apply bD|refine below_set ?_ GE293.out)|exact HB.out))))
    have n1_:=aM (blk_below (g:=gb293) (o:=.cells #[.int .i64 a1_0,.int .i64 a1_1,.int .i64 a1_2] 41 (0,0)) (by (with_reducible repeat (first|refine blk_drewN ?_ _|refine blk_drew ?_|refine blk_alloc ?_ _));exact BK293.out) hb)
    have n2_:=aM (below_step (by repeat (first|(with_reducible first|exact HB.out|apply bA|apply bN|apply bD|refine below_set ?_ GE293.out)|exact HB.out)) hb)
    clear BK293
    clear HB
    have HO296:=n0_
    have BK293:=n1_
    have HB:=n2_
    clear n0_ n1_ n2_
    (try clear hb)
    (try clear hb2)
    (try clear hk)
    (try clear hi)
    (try clear ho0)
    refine hK.out _ _ ⟨(blk_cell BK293.out 0).trans rfl,(blk_cell BK293.out 1).trans rfl,(blk_cell BK293.out 2).trans rfl⟩ (fun hHeld => ?_)
    clear hK K
    refine norm_ (a':=?_) ?_ ?_
    rotate_left
    ·show Act.put _ (some 16) _ = _
     simp only [Act.put,sI,sZ,sS,i64_w,i32_w]
     rfl
    refine one_ (i:=3) (N:=some 18) #[bT,bT,bT,bT,bF,bF] rfl rfl (by kernel_rfl) (by decide) (fun K hK => ?_)
    refine goes_ Try.func27 (by kernel_rfl) rfl #[.agg #[.int .i64 a1_0,.int .i64 a1_1,.int .i64 a1_2]] (by rfl) rfl rfl (by (try simp only [List.map_toArray,List.map_cons,List.map_nil]);first|done|rfl|(simp only [List.length_drop,List.length_take];rfl)) ?_
    with_reducible refine (laws_toPay.calls a1_0 a1_1 a1_2 t297 t298 t299 _ A6.out).mono ?_
    rintro e w82 ⟨rfl,hb⟩
    refine ⟨_,rfl,?_⟩
    have n0_:=aM (Kd.R_below (by (with_reducible repeat (first|apply Kd.R_alloc|apply Kd.R_drewN|apply Kd.R_drew));exact HO296.out) hb)
    have n1_:=aM (blk_below (g:=gb293) (o:=.cells #[.int .i64 a1_0,.int .i64 a1_1,.int .i64 a1_2] 41 (0,0)) (by (with_reducible repeat (first|refine blk_drewN ?_ _|refine blk_drew ?_|refine blk_alloc ?_ _));exact BK293.out) hb)
    have n2_:=aM (below_step (by repeat (first|(with_reducible first|exact HB.out|apply bA|apply bN|apply bD|refine below_set ?_ GE293.out)|exact HB.out)) hb)
    clear HO296
    clear BK293
    clear HB
    have HO296:=n0_
    have BK293:=n1_
    have HB:=n2_
    clear n0_ n1_ n2_
    (try clear hb)
    (try clear hb2)
    (try clear hk)
    (try clear hi)
    obtain ⟨Ao83,co83,eo83⟩:=Kd.R_slice HO296.out
    (first|subst eo83|(injection eo83 with f1_ f2_ f3_;have f4_:=f1_.symm;have f5_:=f3_.symm;clear f1_ f2_ f3_;subst f4_;subst f5_))
    refine hK.out _ _ ⟨(blk_cell BK293.out 0).trans rfl,(blk_cell BK293.out 1).trans rfl,(blk_cell BK293.out 2).trans rfl⟩ (fun hHeld => ?_)
    clear hK K
    refine norm_ (a':=?_) ?_ ?_
    rotate_left
    ·show Act.put _ (some 18) _ = _
     simp only [Act.put,sI,sZ,sS,i64_w,i32_w]
     rfl
    refine one_ (i:=4) (N:=some 19) #[bT,bT,bT,bT,bT,bF] rfl rfl (by kernel_rfl) (by decide) (fun K hK => ?_)
    refine goes_ Try.func25 (by kernel_rfl) rfl #[.slice Ao83 t294.length co83,.agg #[.int .i64 t297,.int .i64 t298,.int .i64 t299]] (by rfl) rfl rfl (by (try simp only [List.map_toArray,List.map_cons,List.map_nil]);first|done|rfl|(simp only [List.length_drop,List.length_take];rfl)) ?_
    with_reducible refine (spec_BookPay.calls k _ _ t294 t297 t298 t299 t300 _ ?side1 ?side2 A7.out).mono ?_
    (case side1 => repeat (first|exact (Kd.R_reads' HO296.out).2.2|(with_reducible refine Kd.C_alloc ?_ _)|(with_reducible refine Kd.C_drewN ?_ _)|(with_reducible refine Kd.C_drew ?_)))
    (case side2 => exact (Kd.R_reads' HO296.out).2.1)
    rintro e w84 ⟨v301,rfl,ho0,hb⟩
    refine ⟨_,rfl,?_⟩
    have n0_:=aM (Kd.R_elder' (by (with_reducible repeat (first|apply Kd.R_alloc|apply Kd.R_drewN|apply Kd.R_drew));exact HO296.out) (Kd.R_base ho0) hb)
    have n1_:=aM (Kd.R_lower (Kd.R_new' ho0 (Kd.R_lt (by (with_reducible repeat (first|apply Kd.R_alloc|apply Kd.R_drewN|apply Kd.R_drew));exact HO296.out))) (below_size (by repeat (first|(with_reducible first|exact HB.out|apply bA|apply bN|apply bD|refine below_set ?_ GE293.out)|exact HB.out))))
    have n2_:=aM (blk_below (g:=gb293) (o:=.cells #[.int .i64 a1_0,.int .i64 a1_1,.int .i64 a1_2] 41 (0,0)) (by (with_reducible repeat (first|refine blk_drewN ?_ _|refine blk_drew ?_|refine blk_alloc ?_ _));exact BK293.out) hb)
    have n3_:=aM (below_step (by repeat (first|(with_reducible first|exact HB.out|apply bA|apply bN|apply bD|refine below_set ?_ GE293.out)|exact HB.out)) hb)
    clear HO296
    clear BK293
    clear HB
    have HO296:=n0_
    have HO302:=n1_
    have BK293:=n2_
    have HB:=n3_
    clear n0_ n1_ n2_ n3_
    (try clear hb)
    (try clear hb2)
    (try clear hk)
    (try clear hi)
    (try clear ho0)
    refine hK.out _ _ ⟨(blk_cell BK293.out 0).trans rfl,(blk_cell BK293.out 1).trans rfl,(blk_cell BK293.out 2).trans rfl⟩ (fun hHeld => ?_)
    clear hK K
    refine norm_ (a':=?_) ?_ ?_
    rotate_left
    ·show Act.put _ (some 19) _ = _
     simp only [Act.put,sI,sZ,sS,i64_w,i32_w]
     rfl
    refine pure_ (i:=5) (N:=some 5) (v:=?_) (a':=?_) #[bT,bT,bT,bT,bT,bT] rfl rfl (by kernel_rfl) (fun _ _ _ h => h) (Or.inl ⟨by rfl,?_⟩) ?_ ?_
    rotate_left;(· intro w';go_simp;with_reducible rfl);rotate_left;(· simp only [Act.put,sI,sZ,sS,i64_w,i32_w];rfl)
    refine done_ (by kernel_rfl) ?_
    try go_wp2_with (first|((with_reducible refine gate_callee (f:=26) rfl ?_);refine goesL_ (some 21) rfl rfl Try.func26 (by kernel_rfl) rfl #[.slice A0 l0.length c0] rfl (by (try simp only [List.map_toArray,List.map_cons,List.map_nil]);first|done|rfl|(simp only [List.length_drop,List.length_take];rfl)) ?_;(with_reducible refine (laws_toIntS.calls k _ _ l0 t303 _ ?side1 ?side2 A8.out).mono ?_);(case side1 => repeat (first|exact (Kd.C_below HR0.out HB.out)|(with_reducible refine Kd.C_alloc ?_ _)|(with_reducible refine Kd.C_drewN ?_ _)|(with_reducible refine Kd.C_drew ?_)));(case side2 => exact HC0.out);rintro e w85 ⟨v304,rfl,ho0,hb⟩;refine ⟨_,rfl,?_⟩;have n0_:=aM (Kd.R_elder' (by (with_reducible repeat (first|apply Kd.R_alloc|apply Kd.R_drewN|apply Kd.R_drew));exact HO296.out) (Kd.R_base ho0) hb);have n1_:=aM (Kd.R_elder' (by (with_reducible repeat (first|apply Kd.R_alloc|apply Kd.R_drewN|apply Kd.R_drew));exact HO302.out) (Kd.R_base ho0) hb);have n2_:=aM (Kd.R_lower (Kd.R_new' (Kd.R_new' ho0 (Kd.R_lt (by (with_reducible repeat (first|apply Kd.R_alloc|apply Kd.R_drewN|apply Kd.R_drew));exact HO296.out))) (Kd.R_lt (by (with_reducible repeat (first|apply Kd.R_alloc|apply Kd.R_drewN|apply Kd.R_drew));exact HO302.out))) (below_size (by repeat (first|(with_reducible first|exact HB.out|apply bA|apply bN|apply bD|refine below_set ?_ GE293.out)|exact HB.out))));have n3_:=aM (blk_below (g:=gb293) (o:=.cells #[.int .i64 a1_0,.int .i64 a1_1,.int .i64 a1_2] 41 (0,0)) (by (with_reducible repeat (first|refine blk_drewN ?_ _|refine blk_drew ?_|refine blk_alloc ?_ _));exact BK293.out) hb);have n4_:=aM (below_step (by repeat (first|(with_reducible first|exact HB.out|apply bA|apply bN|apply bD|refine below_set ?_ GE293.out)|exact HB.out)) hb);clear HO296;clear HO302;clear BK293;clear HB;have HO296:=n0_;have HO302:=n1_;have HO305:=n2_;have BK293:=n3_;have HB:=n4_;clear n0_ n1_ n2_ n3_ n4_;(try clear hb);(try clear hb2);(try clear hk);(try clear hi);(try clear ho0);have hcz86_0 : w85.cell? ⟨gb293,0,none⟩ = some (.int .i64 a1_0):=(blk_cell BK293.out 0).trans rfl;have hcz86_1 : w85.cell? ⟨gb293,1,none⟩ = some (.int .i64 a1_1):=(blk_cell BK293.out 1).trans rfl;have hcz86_2 : w85.cell? ⟨gb293,2,none⟩ = some (.int .i64 a1_2):=(blk_cell BK293.out 2).trans rfl;have hfz86_0:=blk_frozen BK293.out 0;have hfz86_1:=blk_frozen BK293.out 1;have hfz86_2:=blk_frozen BK293.out 2)|((with_reducible refine gate_callee (f:=27) rfl ?_);refine goesL_ (some 24) rfl rfl Try.func27 (by kernel_rfl) rfl #[.agg #[.int .i64 a1_0,.int .i64 a1_1,.int .i64 a1_2]] rfl (by (try simp only [List.map_toArray,List.map_cons,List.map_nil]);first|done|rfl|(simp only [List.length_drop,List.length_take];rfl)) ?_;(with_reducible refine (laws_toPay.calls a1_0 a1_1 a1_2 t306 t307 t308 _ A9.out).mono ?_);rintro e w87 ⟨rfl,hb⟩;refine ⟨_,rfl,?_⟩;have n0_:=aM (Kd.R_below (by (with_reducible repeat (first|apply Kd.R_alloc|apply Kd.R_drewN|apply Kd.R_drew));exact HO296.out) hb);have n1_:=aM (Kd.R_below (by (with_reducible repeat (first|apply Kd.R_alloc|apply Kd.R_drewN|apply Kd.R_drew));exact HO302.out) hb);have n2_:=aM (Kd.R_below (by (with_reducible repeat (first|apply Kd.R_alloc|apply Kd.R_drewN|apply Kd.R_drew));exact HO305.out) hb);have n3_:=aM (blk_below (g:=gb293) (o:=.cells #[.int .i64 a1_0,.int .i64 a1_1,.int .i64 a1_2] 41 (0,0)) (by (with_reducible repeat (first|refine blk_drewN ?_ _|refine blk_drew ?_|refine blk_alloc ?_ _));exact BK293.out) hb);have n4_:=aM (below_step (by repeat (first|(with_reducible first|exact HB.out|apply bA|apply bN|apply bD|refine below_set ?_ GE293.out)|exact HB.out)) hb);clear HO296;clear HO302;clear HO305;clear BK293;clear HB;have HO296:=n0_;have HO302:=n1_;have HO305:=n2_;have BK293:=n3_;have HB:=n4_;clear n0_ n1_ n2_ n3_ n4_;(try clear hb);(try clear hb2);(try clear hk);(try clear hi);obtain ⟨Ao88,co88,eo88⟩:=Kd.R_slice HO305.out;subst eo88)|((with_reducible refine gate_callee (f:=28) rfl ?_);refine goesL_ (some 25) rfl rfl Try.func28 (by kernel_rfl) rfl #[.slice Ao88 t303.length co88,.agg #[.int .i64 t306,.int .i64 t307,.int .i64 t308]] rfl (by (try simp only [List.map_toArray,List.map_cons,List.map_nil]);first|done|rfl|(simp only [List.length_drop,List.length_take];rfl)) ?_;(with_reducible refine (impl_BookPay.calls k _ _ t303 t306 t307 t308 t309 _ ?side1 ?side2 A10.out).mono ?_);(case side1 => repeat (first|exact (Kd.R_reads' HO305.out).2.2|(with_reducible refine Kd.C_alloc ?_ _)|(with_reducible refine Kd.C_drewN ?_ _)|(with_reducible refine Kd.C_drew ?_)));(case side2 => exact (Kd.R_reads' HO305.out).2.1);rintro e w89 ⟨v310,rfl,ho0,hb⟩;refine ⟨_,rfl,?_⟩;have n0_:=aM (Kd.R_elder' (by (with_reducible repeat (first|apply Kd.R_alloc|apply Kd.R_drewN|apply Kd.R_drew));exact HO296.out) (Kd.R_base ho0) hb);have n1_:=aM (Kd.R_elder' (by (with_reducible repeat (first|apply Kd.R_alloc|apply Kd.R_drewN|apply Kd.R_drew));exact HO302.out) (Kd.R_base ho0) hb);have n2_:=aM (Kd.R_elder' (by (with_reducible repeat (first|apply Kd.R_alloc|apply Kd.R_drewN|apply Kd.R_drew));exact HO305.out) (Kd.R_base ho0) hb);have n3_:=aM (Kd.R_lower (Kd.R_new' (Kd.R_new' (Kd.R_new' ho0 (Kd.R_lt (by (with_reducible repeat (first|apply Kd.R_alloc|apply Kd.R_drewN|apply Kd.R_drew));exact HO296.out))) (Kd.R_lt (by (with_reducible repeat (first|apply Kd.R_alloc|apply Kd.R_drewN|apply Kd.R_drew));exact HO302.out))) (Kd.R_lt (by (with_reducible repeat (first|apply Kd.R_alloc|apply Kd.R_drewN|apply Kd.R_drew));exact HO305.out))) (below_size (by repeat (first|(with_reducible first|exact HB.out|apply bA|apply bN|apply bD|refine below_set ?_ GE293.out)|exact HB.out))));have n4_:=aM (blk_below (g:=gb293) (o:=.cells #[.int .i64 a1_0,.int .i64 a1_1,.int .i64 a1_2] 41 (0,0)) (by (with_reducible repeat (first|refine blk_drewN ?_ _|refine blk_drew ?_|refine blk_alloc ?_ _));exact BK293.out) hb);have n5_:=aM (below_step (by repeat (first|(with_reducible first|exact HB.out|apply bA|apply bN|apply bD|refine below_set ?_ GE293.out)|exact HB.out)) hb);clear HO296;clear HO302;clear HO305;clear BK293;clear HB;have HO296:=n0_;have HO302:=n1_;have HO305:=n2_;have HO311:=n3_;have BK293:=n4_;have HB:=n5_;clear n0_ n1_ n2_ n3_ n4_ n5_;(try clear hb);(try clear hb2);(try clear hk);(try clear hi);(try clear ho0);obtain ⟨Ao90,co90,eo90⟩:=Kd.R_slice HO311.out;subst eo90;obtain ⟨Ao91,co91,eo91⟩:=Kd.R_slice HO302.out;subst eo91)|((with_reducible refine gate_callee (f:=10) rfl ?_);refine goesL_ (some 28) rfl rfl Try.func10 (by kernel_rfl) rfl #[.slice Ao90 t309.length co90,.slice Ao91 t300.length co91] rfl (by (try simp only [List.map_toArray,List.map_cons,List.map_nil]);first|done|rfl|(simp only [List.length_drop,List.length_take];rfl)) ?_;(with_reducible refine (laws_eqIntS.calls k _ _ t309 _ _ t300 true _ ?side1 ?side2 ?side3 ?side4 A11.out).mono ?_);(case side1 => repeat (first|exact (Kd.R_reads' HO311.out).2.2|(with_reducible refine Kd.C_alloc ?_ _)|(with_reducible refine Kd.C_drewN ?_ _)|(with_reducible refine Kd.C_drew ?_)));(case side2 => exact (Kd.R_reads' HO311.out).2.1);(case side3 => repeat (first|exact (Kd.R_reads' HO302.out).2.2|(with_reducible refine Kd.C_alloc ?_ _)|(with_reducible refine Kd.C_drewN ?_ _)|(with_reducible refine Kd.C_drew ?_)));(case side4 => exact (Kd.R_reads' HO302.out).2.1);rintro e w' ⟨rfl,⟨nd,rfl⟩⟩;refine ⟨_,rfl,?_⟩)|((with_reducible refine gate_callee (f:=26) rfl ?_);refine goesL_ (some 32) rfl rfl Try.func26 (by kernel_rfl) rfl #[.slice A0 l0.length c0] rfl (by (try simp only [List.map_toArray,List.map_cons,List.map_nil]);first|done|rfl|(simp only [List.length_drop,List.length_take];rfl)) ?_;(with_reducible refine (laws_toIntS.calls k _ _ l0 t313 _ ?side1 ?side2 A13.out).mono ?_);(case side1 => repeat (first|exact (Kd.C_below HR0.out (by repeat (first|(with_reducible first|exact HB.out|apply bA|apply bN|apply bD|refine below_set ?_ GE293.out)|exact HB.out)))|(with_reducible refine Kd.C_alloc ?_ _)|(with_reducible refine Kd.C_drewN ?_ _)|(with_reducible refine Kd.C_drew ?_)));(case side2 => exact HC0.out);rintro e w92 ⟨v314,rfl,ho0,hb⟩;refine ⟨_,rfl,?_⟩;have n0_:=aM (Kd.R_elder' (by (with_reducible repeat (first|apply Kd.R_alloc|apply Kd.R_drewN|apply Kd.R_drew));exact HO296.out) (Kd.R_base ho0) hb);have n1_:=aM (Kd.R_elder' (by (with_reducible repeat (first|apply Kd.R_alloc|apply Kd.R_drewN|apply Kd.R_drew));exact HO302.out) (Kd.R_base ho0) hb);have n2_:=aM (Kd.R_elder' (by (with_reducible repeat (first|apply Kd.R_alloc|apply Kd.R_drewN|apply Kd.R_drew));exact HO305.out) (Kd.R_base ho0) hb);have n3_:=aM (Kd.R_elder' (by (with_reducible repeat (first|apply Kd.R_alloc|apply Kd.R_drewN|apply Kd.R_drew));exact HO311.out) (Kd.R_base ho0) hb);have n4_:=aM (Kd.R_lower (Kd.R_new' (Kd.R_new' (Kd.R_new' (Kd.R_new' ho0 (Kd.R_lt (by (with_reducible repeat (first|apply Kd.R_alloc|apply Kd.R_drewN|apply Kd.R_drew));exact HO296.out))) (Kd.R_lt (by (with_reducible repeat (first|apply Kd.R_alloc|apply Kd.R_drewN|apply Kd.R_drew));exact HO302.out))) (Kd.R_lt (by (with_reducible repeat (first|apply Kd.R_alloc|apply Kd.R_drewN|apply Kd.R_drew));exact HO305.out))) (Kd.R_lt (by (with_reducible repeat (first|apply Kd.R_alloc|apply Kd.R_drewN|apply Kd.R_drew));exact HO311.out))) (below_size (by repeat (first|(with_reducible first|exact HB.out|apply bA|apply bN|apply bD|refine below_set ?_ GE293.out)|exact HB.out))));have n5_:=aM (blk_below (g:=gb293) (o:=.cells #[.int .i64 a1_0,.int .i64 a1_1,.int .i64 a1_2] 41 (0,0)) (by (with_reducible repeat (first|refine blk_drewN ?_ _|refine blk_drew ?_|refine blk_alloc ?_ _));exact BK293.out) hb);have n6_:=aM (below_step (by repeat (first|(with_reducible first|exact HB.out|apply bA|apply bN|apply bD|refine below_set ?_ GE293.out)|exact HB.out)) hb);clear HO296;clear HO302;clear HO305;clear HO311;clear BK293;clear HB;have HO296:=n0_;have HO302:=n1_;have HO305:=n2_;have HO311:=n3_;have HO315:=n4_;have BK293:=n5_;have HB:=n6_;clear n0_ n1_ n2_ n3_ n4_ n5_ n6_;(try clear hb);(try clear hb2);(try clear hk);(try clear hi);(try clear ho0);obtain ⟨Ao93,co93,eo93⟩:=Kd.R_slice HO315.out;subst eo93)|((with_reducible refine gate_callee (f:=10) rfl ?_);refine goesL_ (some 33) rfl rfl Try.func10 (by kernel_rfl) rfl #[.slice Ao88 t303.length co88,.slice Ao93 t313.length co93] rfl (by (try simp only [List.map_toArray,List.map_cons,List.map_nil]);first|done|rfl|(simp only [List.length_drop,List.length_take];rfl)) ?_;(with_reducible refine (laws_eqIntS.calls k _ _ t303 _ _ t313 false _ ?side1 ?side2 ?side3 ?side4 A14.out).mono ?_);(case side1 => repeat (first|exact (Kd.R_reads' HO305.out).2.2|(with_reducible refine Kd.C_alloc ?_ _)|(with_reducible refine Kd.C_drewN ?_ _)|(with_reducible refine Kd.C_drew ?_)));(case side2 => exact (Kd.R_reads' HO305.out).2.1);(case side3 => repeat (first|exact (Kd.R_reads' HO315.out).2.2|(with_reducible refine Kd.C_alloc ?_ _)|(with_reducible refine Kd.C_drewN ?_ _)|(with_reducible refine Kd.C_drew ?_)));(case side4 => exact (Kd.R_reads' HO315.out).2.1);rintro e w' ⟨rfl,⟨nd,rfl⟩⟩;refine ⟨_,rfl,?_⟩))
    go_ret
    exact ⟨by first|rfl|(simp only [i64_w,i32_w];done)|(simp only [i64_w,i32_w];rfl)|(simp [errW_none,errW_some] <;> rfl)|(simp [*,errW_none,errW_some] <;> rfl),by repeat (first|(with_reducible first|exact HB.out|apply bA|apply bN|apply bD|refine below_set ?_ GE293.out)|exact HB.out)⟩
  ·replace c12:=Bool.eq_false_iff.mpr c12
   subst c12
   have H1 : (some false) = some r:=by rw [if_neg (show ¬ (false = true) by decide)] at H;exact H
   clear H
   have H:=H1
   clear H1
   obtain rfl:=Option.some.inj H
   go_enter Try.func6,Try.ntmps6
   try go_wp2_with (first|((with_reducible refine gate_dst (N:=3) rfl ?_);refine box_event ?hg (N:=3) ?hd (cs:=#[.int .i64 a1_0,.int .i64 a1_1,.int .i64 a1_2]) (t:=41) ?hr ?_;(case hd => rfl);(case hg => rfl);(case hr => first|(go_simp;done)|(go_simp;rfl));intro gb293 hg w94 hbox hb;have n0_:=aM (below_step (by repeat (first|(with_reducible first|exact HB.out|apply bA|apply bN|apply bD)|exact HB.out)) hb);have n1_:=aM (hbox);have n2_:=aM ((by rw [hg];exact (below_size (by repeat (first|(with_reducible first|exact HB.out|apply bA|apply bN|apply bD)|exact HB.out))) : w.heap.size ≤ gb293));have n3_:=aM ((by rw [hg];exact (below_size (by repeat (first|(with_reducible first|exact HB.out|apply bA|apply bN|apply bD)|exact HB.out))) : w.heap.size ≤ gb293));clear HB;have HB:=n0_;have BK293:=n1_;have GW293:=n2_;have GE293:=n3_;clear n0_ n1_ n2_ n3_;clear hb hbox hg))
   have n0_:=aM (blk_drew BK293.out)
   have n1_:=aM (bD HB.out)
   clear BK293
   clear HB
   have BK293:=n0_
   have HB:=n1_
   clear n0_ n1_
   refine start_ (n:=6) (S:=fun w' => w'.cell? ⟨gb293,0,none⟩ = some (.int .i64 a1_0) ∧ w'.cell? ⟨gb293,1,none⟩ = some (.int .i64 a1_1) ∧ w'.cell? ⟨gb293,2,none⟩ = some (.int .i64 a1_2)) (ds:=[]) #[bF,bF,bF,bF,bF,bF] (by kernel_rfl) rfl rfl ⟨(blk_cell BK293.out 0).trans rfl,(blk_cell BK293.out 1).trans rfl,(blk_cell BK293.out 2).trans rfl⟩ (fun hHeld => ?_)
   generalize w94.drew = w95 at BK293 HB hHeld ⊢
   refine pure_ (i:=0) (N:=some 15) (v:=?_) (a':=?_) #[bT,bF,bF,bF,bF,bF] rfl rfl (by kernel_rfl) (fun _ _ _ h => h) (Or.inl ⟨by rfl,?_⟩) ?_ ?_
   rotate_left;(· intro w';go_simp;with_reducible rfl);rotate_left;(· simp only [Act.put,sI,sZ,sS,i64_w,i32_w];rfl)
   refine take_ (i:=2) (N:=some 17) (v:=?_) (a':=?_) #[bT,bF,bT,bF,bF,bF] rfl rfl (by kernel_rfl) (fun _ _ _ h => h) (Or.inl ⟨by rfl,?_⟩) hHeld ?_ ?_
   rotate_left
   ·rintro w' ⟨s0,s1,s2⟩
    (try simp only [Int.toNat_natCast] at s0 s1 s2)
    go_simp
    with_reducible rfl
   rotate_left
   ·simp only [Act.put,sI,sZ,sS,i64_w,i32_w]
    rfl
   refine one_ (i:=1) (N:=some 16) #[bT,bT,bT,bF,bF,bF] rfl rfl (by kernel_rfl) (by decide) (fun K hK => ?_)
   refine goes_ Try.func26 (by kernel_rfl) rfl #[.slice A0 l0.length c0] (by rfl) rfl rfl (by (try simp only [List.map_toArray,List.map_cons,List.map_nil]);first|done|rfl|(simp only [List.length_drop,List.length_take];rfl)) ?_
   with_reducible refine (laws_toIntS.calls k _ _ l0 t294 _ ?side1 ?side2 A5.out).mono ?_
   (case side1 => repeat (first|exact (Kd.C_below HR0.out HB.out)|(with_reducible refine Kd.C_alloc ?_ _)|(with_reducible refine Kd.C_drewN ?_ _)|(with_reducible refine Kd.C_drew ?_)))
   (case side2 => exact HC0.out)
   rintro e w96 ⟨v295,rfl,ho0,hb⟩
   refine ⟨_,rfl,?_⟩
   have n0_:=aM (Kd.R_lower ho0 (below_size (by repeat (first|(with_reducible first|exact HB.out|apply bA|apply bN|apply bD|refine below_set ?_ GE293.out)|exact HB.out))))
   have n1_:=aM (blk_below (g:=gb293) (o:=.cells #[.int .i64 a1_0,.int .i64 a1_1,.int .i64 a1_2] 41 (0,0)) (by (with_reducible repeat (first|refine blk_drewN ?_ _|refine blk_drew ?_|refine blk_alloc ?_ _));exact BK293.out) hb)
   have n2_:=aM (below_step (by repeat (first|(with_reducible first|exact HB.out|apply bA|apply bN|apply bD|refine below_set ?_ GE293.out)|exact HB.out)) hb)
   clear BK293
   clear HB
   have HO296:=n0_
   have BK293:=n1_
   have HB:=n2_
   clear n0_ n1_ n2_
   (try clear hb)
   (try clear hb2)
   (try clear hk)
   (try clear hi)
   (try clear ho0)
   refine hK.out _ _ ⟨(blk_cell BK293.out 0).trans rfl,(blk_cell BK293.out 1).trans rfl,(blk_cell BK293.out 2).trans rfl⟩ (fun hHeld => ?_)
   clear hK K
   refine norm_ (a':=?_) ?_ ?_
   rotate_left
   ·show Act.put _ (some 16) _ = _
    simp only [Act.put,sI,sZ,sS,i64_w,i32_w]
    rfl
   refine one_ (i:=3) (N:=some 18) #[bT,bT,bT,bT,bF,bF] rfl rfl (by kernel_rfl) (by decide) (fun K hK => ?_)
   refine goes_ Try.func27 (by kernel_rfl) rfl #[.agg #[.int .i64 a1_0,.int .i64 a1_1,.int .i64 a1_2]] (by rfl) rfl rfl (by (try simp only [List.map_toArray,List.map_cons,List.map_nil]);first|done|rfl|(simp only [List.length_drop,List.length_take];rfl)) ?_
   with_reducible refine (laws_toPay.calls a1_0 a1_1 a1_2 t297 t298 t299 _ A6.out).mono ?_
   rintro e w97 ⟨rfl,hb⟩
   refine ⟨_,rfl,?_⟩
   have n0_:=aM (Kd.R_below (by (with_reducible repeat (first|apply Kd.R_alloc|apply Kd.R_drewN|apply Kd.R_drew));exact HO296.out) hb)
   have n1_:=aM (blk_below (g:=gb293) (o:=.cells #[.int .i64 a1_0,.int .i64 a1_1,.int .i64 a1_2] 41 (0,0)) (by (with_reducible repeat (first|refine blk_drewN ?_ _|refine blk_drew ?_|refine blk_alloc ?_ _));exact BK293.out) hb)
   have n2_:=aM (below_step (by repeat (first|(with_reducible first|exact HB.out|apply bA|apply bN|apply bD|refine below_set ?_ GE293.out)|exact HB.out)) hb)
   clear HO296
   clear BK293
   clear HB
   have HO296:=n0_
   have BK293:=n1_
   have HB:=n2_
   clear n0_ n1_ n2_
   (try clear hb)
   (try clear hb2)
   (try clear hk)
   (try clear hi)
   obtain ⟨Ao98,co98,eo98⟩:=Kd.R_slice HO296.out
   (first|subst eo98|(injection eo98 with f1_ f2_ f3_;have f4_:=f1_.symm;have f5_:=f3_.symm;clear f1_ f2_ f3_;subst f4_;subst f5_))
   refine hK.out _ _ ⟨(blk_cell BK293.out 0).trans rfl,(blk_cell BK293.out 1).trans rfl,(blk_cell BK293.out 2).trans rfl⟩ (fun hHeld => ?_)
   clear hK K
   refine norm_ (a':=?_) ?_ ?_
   rotate_left
   ·show Act.put _ (some 18) _ = _
    simp only [Act.put,sI,sZ,sS,i64_w,i32_w]
    rfl
   refine one_ (i:=4) (N:=some 19) #[bT,bT,bT,bT,bT,bF] rfl rfl (by kernel_rfl) (by decide) (fun K hK => ?_)
   refine goes_ Try.func25 (by kernel_rfl) rfl #[.slice Ao98 t294.length co98,.agg #[.int .i64 t297,.int .i64 t298,.int .i64 t299]] (by rfl) rfl rfl (by (try simp only [List.map_toArray,List.map_cons,List.map_nil]);first|done|rfl|(simp only [List.length_drop,List.length_take];rfl)) ?_
   with_reducible refine (spec_BookPay.calls k _ _ t294 t297 t298 t299 t300 _ ?side1 ?side2 A7.out).mono ?_
   (case side1 => repeat (first|exact (Kd.R_reads' HO296.out).2.2|(with_reducible refine Kd.C_alloc ?_ _)|(with_reducible refine Kd.C_drewN ?_ _)|(with_reducible refine Kd.C_drew ?_)))
   (case side2 => exact (Kd.R_reads' HO296.out).2.1)
   rintro e w99 ⟨v301,rfl,ho0,hb⟩
   refine ⟨_,rfl,?_⟩
   have n0_:=aM (Kd.R_elder' (by (with_reducible repeat (first|apply Kd.R_alloc|apply Kd.R_drewN|apply Kd.R_drew));exact HO296.out) (Kd.R_base ho0) hb)
   have n1_:=aM (Kd.R_lower (Kd.R_new' ho0 (Kd.R_lt (by (with_reducible repeat (first|apply Kd.R_alloc|apply Kd.R_drewN|apply Kd.R_drew));exact HO296.out))) (below_size (by repeat (first|(with_reducible first|exact HB.out|apply bA|apply bN|apply bD|refine below_set ?_ GE293.out)|exact HB.out))))
   have n2_:=aM (blk_below (g:=gb293) (o:=.cells #[.int .i64 a1_0,.int .i64 a1_1,.int .i64 a1_2] 41 (0,0)) (by (with_reducible repeat (first|refine blk_drewN ?_ _|refine blk_drew ?_|refine blk_alloc ?_ _));exact BK293.out) hb)
   have n3_:=aM (below_step (by repeat (first|(with_reducible first|exact HB.out|apply bA|apply bN|apply bD|refine below_set ?_ GE293.out)|exact HB.out)) hb)
   clear HO296
   clear BK293
   clear HB
   have HO296:=n0_
   have HO302:=n1_
   have BK293:=n2_
   have HB:=n3_
   clear n0_ n1_ n2_ n3_
   (try clear hb)
   (try clear hb2)
   (try clear hk)
   (try clear hi)
   (try clear ho0)
   refine hK.out _ _ ⟨(blk_cell BK293.out 0).trans rfl,(blk_cell BK293.out 1).trans rfl,(blk_cell BK293.out 2).trans rfl⟩ (fun hHeld => ?_)
   clear hK K
   refine norm_ (a':=?_) ?_ ?_
   rotate_left
   ·show Act.put _ (some 19) _ = _
    simp only [Act.put,sI,sZ,sS,i64_w,i32_w]
    rfl
   refine pure_ (i:=5) (N:=some 5) (v:=?_) (a':=?_) #[bT,bT,bT,bT,bT,bT] rfl rfl (by kernel_rfl) (fun _ _ _ h => h) (Or.inl ⟨by rfl,?_⟩) ?_ ?_
   rotate_left;(· intro w';go_simp;with_reducible rfl);rotate_left;(· simp only [Act.put,sI,sZ,sS,i64_w,i32_w];rfl)
   refine done_ (by kernel_rfl) ?_
   try go_wp2_with (first|((with_reducible refine gate_callee (f:=26) rfl ?_);refine goesL_ (some 21) rfl rfl Try.func26 (by kernel_rfl) rfl #[.slice A0 l0.length c0] rfl (by (try simp only [List.map_toArray,List.map_cons,List.map_nil]);first|done|rfl|(simp only [List.length_drop,List.length_take];rfl)) ?_;(with_reducible refine (laws_toIntS.calls k _ _ l0 t303 _ ?side1 ?side2 A8.out).mono ?_);(case side1 => repeat (first|exact (Kd.C_below HR0.out HB.out)|(with_reducible refine Kd.C_alloc ?_ _)|(with_reducible refine Kd.C_drewN ?_ _)|(with_reducible refine Kd.C_drew ?_)));(case side2 => exact HC0.out);rintro e w100 ⟨v304,rfl,ho0,hb⟩;refine ⟨_,rfl,?_⟩;have n0_:=aM (Kd.R_elder' (by (with_reducible repeat (first|apply Kd.R_alloc|apply Kd.R_drewN|apply Kd.R_drew));exact HO296.out) (Kd.R_base ho0) hb);have n1_:=aM (Kd.R_elder' (by (with_reducible repeat (first|apply Kd.R_alloc|apply Kd.R_drewN|apply Kd.R_drew));exact HO302.out) (Kd.R_base ho0) hb);have n2_:=aM (Kd.R_lower (Kd.R_new' (Kd.R_new' ho0 (Kd.R_lt (by (with_reducible repeat (first|apply Kd.R_alloc|apply Kd.R_drewN|apply Kd.R_drew));exact HO296.out))) (Kd.R_lt (by (with_reducible repeat (first|apply Kd.R_alloc|apply Kd.R_drewN|apply Kd.R_drew));exact HO302.out))) (below_size (by repeat (first|(with_reducible first|exact HB.out|apply bA|apply bN|apply bD|refine below_set ?_ GE293.out)|exact HB.out))));have n3_:=aM (blk_below (g:=gb293) (o:=.cells #[.int .i64 a1_0,.int .i64 a1_1,.int .i64 a1_2] 41 (0,0)) (by (with_reducible repeat (first|refine blk_drewN ?_ _|refine blk_drew ?_|refine blk_alloc ?_ _));exact BK293.out) hb);have n4_:=aM (below_step (by repeat (first|(with_reducible first|exact HB.out|apply bA|apply bN|apply bD|refine below_set ?_ GE293.out)|exact HB.out)) hb);clear HO296;clear HO302;clear BK293;clear HB;have HO296:=n0_;have HO302:=n1_;have HO305:=n2_;have BK293:=n3_;have HB:=n4_;clear n0_ n1_ n2_ n3_ n4_;(try clear hb);(try clear hb2);(try clear hk);(try clear hi);(try clear ho0);have hcz101_0 : w100.cell? ⟨gb293,0,none⟩ = some (.int .i64 a1_0):=(blk_cell BK293.out 0).trans rfl;have hcz101_1 : w100.cell? ⟨gb293,1,none⟩ = some (.int .i64 a1_1):=(blk_cell BK293.out 1).trans rfl;have hcz101_2 : w100.cell? ⟨gb293,2,none⟩ = some (.int .i64 a1_2):=(blk_cell BK293.out 2).trans rfl;have hfz101_0:=blk_frozen BK293.out 0;have hfz101_1:=blk_frozen BK293.out 1;have hfz101_2:=blk_frozen BK293.out 2)|((with_reducible refine gate_callee (f:=27) rfl ?_);refine goesL_ (some 24) rfl rfl Try.func27 (by kernel_rfl) rfl #[.agg #[.int .i64 a1_0,.int .i64 a1_1,.int .i64 a1_2]] rfl (by (try simp only [List.map_toArray,List.map_cons,List.map_nil]);first|done|rfl|(simp only [List.length_drop,List.length_take];rfl)) ?_;(with_reducible refine (laws_toPay.calls a1_0 a1_1 a1_2 t306 t307 t308 _ A9.out).mono ?_);rintro e w102 ⟨rfl,hb⟩;refine ⟨_,rfl,?_⟩;have n0_:=aM (Kd.R_below (by (with_reducible repeat (first|apply Kd.R_alloc|apply Kd.R_drewN|apply Kd.R_drew));exact HO296.out) hb);have n1_:=aM (Kd.R_below (by (with_reducible repeat (first|apply Kd.R_alloc|apply Kd.R_drewN|apply Kd.R_drew));exact HO302.out) hb);have n2_:=aM (Kd.R_below (by (with_reducible repeat (first|apply Kd.R_alloc|apply Kd.R_drewN|apply Kd.R_drew));exact HO305.out) hb);have n3_:=aM (blk_below (g:=gb293) (o:=.cells #[.int .i64 a1_0,.int .i64 a1_1,.int .i64 a1_2] 41 (0,0)) (by (with_reducible repeat (first|refine blk_drewN ?_ _|refine blk_drew ?_|refine blk_alloc ?_ _));exact BK293.out) hb);have n4_:=aM (below_step (by repeat (first|(with_reducible first|exact HB.out|apply bA|apply bN|apply bD|refine below_set ?_ GE293.out)|exact HB.out)) hb);clear HO296;clear HO302;clear HO305;clear BK293;clear HB;have HO296:=n0_;have HO302:=n1_;have HO305:=n2_;have BK293:=n3_;have HB:=n4_;clear n0_ n1_ n2_ n3_ n4_;(try clear hb);(try clear hb2);(try clear hk);(try clear hi);obtain ⟨Ao103,co103,eo103⟩:=Kd.R_slice HO305.out;subst eo103)|((with_reducible refine gate_callee (f:=28) rfl ?_);refine goesL_ (some 25) rfl rfl Try.func28 (by kernel_rfl) rfl #[.slice Ao103 t303.length co103,.agg #[.int .i64 t306,.int .i64 t307,.int .i64 t308]] rfl (by (try simp only [List.map_toArray,List.map_cons,List.map_nil]);first|done|rfl|(simp only [List.length_drop,List.length_take];rfl)) ?_;(with_reducible refine (impl_BookPay.calls k _ _ t303 t306 t307 t308 t309 _ ?side1 ?side2 A10.out).mono ?_);(case side1 => repeat (first|exact (Kd.R_reads' HO305.out).2.2|(with_reducible refine Kd.C_alloc ?_ _)|(with_reducible refine Kd.C_drewN ?_ _)|(with_reducible refine Kd.C_drew ?_)));(case side2 => exact (Kd.R_reads' HO305.out).2.1);rintro e w104 ⟨v310,rfl,ho0,hb⟩;refine ⟨_,rfl,?_⟩;have n0_:=aM (Kd.R_elder' (by (with_reducible repeat (first|apply Kd.R_alloc|apply Kd.R_drewN|apply Kd.R_drew));exact HO296.out) (Kd.R_base ho0) hb);have n1_:=aM (Kd.R_elder' (by (with_reducible repeat (first|apply Kd.R_alloc|apply Kd.R_drewN|apply Kd.R_drew));exact HO302.out) (Kd.R_base ho0) hb);have n2_:=aM (Kd.R_elder' (by (with_reducible repeat (first|apply Kd.R_alloc|apply Kd.R_drewN|apply Kd.R_drew));exact HO305.out) (Kd.R_base ho0) hb);have n3_:=aM (Kd.R_lower (Kd.R_new' (Kd.R_new' (Kd.R_new' ho0 (Kd.R_lt (by (with_reducible repeat (first|apply Kd.R_alloc|apply Kd.R_drewN|apply Kd.R_drew));exact HO296.out))) (Kd.R_lt (by (with_reducible repeat (first|apply Kd.R_alloc|apply Kd.R_drewN|apply Kd.R_drew));exact HO302.out))) (Kd.R_lt (by (with_reducible repeat (first|apply Kd.R_alloc|apply Kd.R_drewN|apply Kd.R_drew));exact HO305.out))) (below_size (by repeat (first|(with_reducible first|exact HB.out|apply bA|apply bN|apply bD|refine below_set ?_ GE293.out)|exact HB.out))));have n4_:=aM (blk_below (g:=gb293) (o:=.cells #[.int .i64 a1_0,.int .i64 a1_1,.int .i64 a1_2] 41 (0,0)) (by (with_reducible repeat (first|refine blk_drewN ?_ _|refine blk_drew ?_|refine blk_alloc ?_ _));exact BK293.out) hb);have n5_:=aM (below_step (by repeat (first|(with_reducible first|exact HB.out|apply bA|apply bN|apply bD|refine below_set ?_ GE293.out)|exact HB.out)) hb);clear HO296;clear HO302;clear HO305;clear BK293;clear HB;have HO296:=n0_;have HO302:=n1_;have HO305:=n2_;have HO311:=n3_;have BK293:=n4_;have HB:=n5_;clear n0_ n1_ n2_ n3_ n4_ n5_;(try clear hb);(try clear hb2);(try clear hk);(try clear hi);(try clear ho0);obtain ⟨Ao105,co105,eo105⟩:=Kd.R_slice HO311.out;subst eo105;obtain ⟨Ao106,co106,eo106⟩:=Kd.R_slice HO302.out;subst eo106)|((with_reducible refine gate_callee (f:=10) rfl ?_);refine goesL_ (some 28) rfl rfl Try.func10 (by kernel_rfl) rfl #[.slice Ao105 t309.length co105,.slice Ao106 t300.length co106] rfl (by (try simp only [List.map_toArray,List.map_cons,List.map_nil]);first|done|rfl|(simp only [List.length_drop,List.length_take];rfl)) ?_;(with_reducible refine (laws_eqIntS.calls k _ _ t309 _ _ t300 false _ ?side1 ?side2 ?side3 ?side4 A11.out).mono ?_);(case side1 => repeat (first|exact (Kd.R_reads' HO311.out).2.2|(with_reducible refine Kd.C_alloc ?_ _)|(with_reducible refine Kd.C_drewN ?_ _)|(with_reducible refine Kd.C_drew ?_)));(case side2 => exact (Kd.R_reads' HO311.out).2.1);(case side3 => repeat (first|exact (Kd.R_reads' HO302.out).2.2|(with_reducible refine Kd.C_alloc ?_ _)|(with_reducible refine Kd.C_drewN ?_ _)|(with_reducible refine Kd.C_drew ?_)));(case side4 => exact (Kd.R_reads' HO302.out).2.1);rintro e w' ⟨rfl,⟨nd,rfl⟩⟩;refine ⟨_,rfl,?_⟩))
   go_ret
   exact ⟨by first|rfl|(simp only [i64_w,i32_w];done)|(simp only [i64_w,i32_w];rfl)|(simp [errW_none,errW_some] <;> rfl)|(simp [*,errW_none,errW_some] <;> rfl),by repeat (first|(with_reducible first|exact HB.out|apply bA|apply bN|apply bD|refine below_set ?_ GE293.out)|exact HB.out)⟩

end Go.Proofs.Ytkkfokcbbhnjeaa.PX
