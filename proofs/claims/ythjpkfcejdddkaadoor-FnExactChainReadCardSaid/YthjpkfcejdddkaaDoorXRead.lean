/- Contracts over rows whose capacity may have been cut. Conditions: each contract's own. -/
import Derived.Test.YthjpkfcejdddkaaDoorPx0
import Derived.Test.YthjpkfcejdddkaaDoorPx3
import Derived.Test.YthjpkfcejdddkaaDoorPx9
import Derived.Test.YthjpkfcejdddkaaDoorPx10
import Derived.Test.YthjpkfcejdddkaaDoorXLayer
namespace Go.Proofs.YthjpkfcejdddkaaDoor.P
open Go.RowKit Go.Proofs.YthjpkfcejdddkaaDoorW.PrintWords Go.Proofs.YthjpkfcejdddkaaDoorW.PrintLast Go.Proofs.YthjpkfcejdddkaaDoorW.PrintMore
attribute [local go_sem] max2_int min2_int max_two min_two max_three min_three max_four min_four   -- for this text's walks alone
set_option linter.unusedVariables false
set_option linter.unusedSimpArgs false
mutual
def laws_FnExactChainRead.j0 : Nat → ByteArray → List (S48) → Bool → List (S48) → Bool → Option (Bool)
 | 0,_,_,_,_,_ => none
 | k + 1,x0,x3,x4,x5,x32 => if x32 = true then (some false) else ((laws_markItemS.f k x5 1).bind fun bt245 => ((laws_heldItemS.f k bt245.2 1).bind fun t247 => (if t247 < 0 then (some false) else (if t247 = bt245.1 then ((impl_ChainRead.f k x0).bind fun bt248 => ((laws_eqItemS.f k bt248.1 x3).bind fun t252 => (if t252 = true then (laws_FnExactChainRead.j1 k bt245.2 bt245.1 (bt248.2 != x4)) else (laws_FnExactChainRead.j1 k bt245.2 bt245.1 true)))) else (some false)))))
def laws_FnExactChainRead.j1 : Nat → List (S48) → Int → Bool → Option (Bool)
 | 0,_,_,_ => none
 | k + 1,x5,x7,x57 => if x57 = true then (some false) else ((laws_heldItemS.f k x5 1).bind fun t253 => (if t253 < 0 then (some false) else (if t253 = x7 then (some true) else (some false))))
end
def laws_FnExactChainRead.f (k : Nat) (a0 : ByteArray) : Option (Bool):=if (a0.size : Int) > 1048576 then (some true) else ((spec_ChainRead.f k a0).bind fun bt236 => ((impl_ChainRead.f k a0).bind fun bt240 => ((laws_eqItemS.f k bt240.1 bt236.1).bind fun t244 => (if t244 = true then (laws_FnExactChainRead.j0 k a0 bt236.1 bt236.2 bt240.1 (bt240.2 != bt236.2)) else (laws_FnExactChainRead.j0 k a0 bt236.1 bt236.2 bt240.1 true)))))
theorem laws_FnExactChainRead.mono_l : ∀ k,(∀ y0 y1 y2 y3 y4,LeO (laws_FnExactChainRead.j0 k y0 y1 y2 y3 y4) (laws_FnExactChainRead.j0 (k + 1) y0 y1 y2 y3 y4)) ∧ (∀ y0 y1 y2,LeO (laws_FnExactChainRead.j1 k y0 y1 y2) (laws_FnExactChainRead.j1 (k + 1) y0 y1 y2))
 | 0 => ⟨fun _ _ _ _ _ r h => by simp [laws_FnExactChainRead.j0] at h,fun _ _ _ r h => by simp [laws_FnExactChainRead.j1] at h⟩
 | k + 1 => by
  obtain ⟨ih0,ih1⟩:=laws_FnExactChainRead.mono_l k
  refine ⟨?_,?_⟩
  ·intro y0 y1 y2 y3 y4
   unfold laws_FnExactChainRead.j0
   repeat' first
   | (with_reducible exact ih0 _ _ _ _ _)
   | (with_reducible exact ih1 _ _ _)
   | (with_reducible exact impl_ChainRead.mono _ _)
   | (with_reducible exact laws_eqItemS.mono _ _ _)
   | (with_reducible exact laws_heldItemS.mono _ _ _)
   | (with_reducible exact laws_markItemS.mono _ _ _)
   | (with_reducible exact spec_ChainRead.mono _ _)
   | (with_reducible exact LeO.refl _)
   | (with_reducible exact LeO.none _)
   | (with_reducible refine LeO.ite ?_ ?_)
   | (with_reducible refine LeO.bind ?_ (fun _ => ?_))
   | exact ih0 _ _ _ _ _
   | exact ih1 _ _ _
   | exact impl_ChainRead.mono _ _
   | exact laws_eqItemS.mono _ _ _
   | exact laws_heldItemS.mono _ _ _
   | exact laws_markItemS.mono _ _ _
   | exact spec_ChainRead.mono _ _
   | exact LeO.none _
   | refine LeO.ite ?_ ?_
   | refine LeO.bind ?_ (fun _ => ?_)
  ·intro y0 y1 y2
   unfold laws_FnExactChainRead.j1
   repeat' first
   | (with_reducible exact ih0 _ _ _ _ _)
   | (with_reducible exact ih1 _ _ _)
   | (with_reducible exact impl_ChainRead.mono _ _)
   | (with_reducible exact laws_eqItemS.mono _ _ _)
   | (with_reducible exact laws_heldItemS.mono _ _ _)
   | (with_reducible exact laws_markItemS.mono _ _ _)
   | (with_reducible exact spec_ChainRead.mono _ _)
   | (with_reducible exact LeO.refl _)
   | (with_reducible exact LeO.none _)
   | (with_reducible refine LeO.ite ?_ ?_)
   | (with_reducible refine LeO.bind ?_ (fun _ => ?_))
   | exact ih0 _ _ _ _ _
   | exact ih1 _ _ _
   | exact impl_ChainRead.mono _ _
   | exact laws_eqItemS.mono _ _ _
   | exact laws_heldItemS.mono _ _ _
   | exact laws_markItemS.mono _ _ _
   | exact spec_ChainRead.mono _ _
   | exact LeO.none _
   | refine LeO.ite ?_ ?_
   | refine LeO.bind ?_ (fun _ => ?_)
theorem laws_FnExactChainRead.mono : ∀ a0 k,LeO (laws_FnExactChainRead.f k a0) (laws_FnExactChainRead.f (k + 1) a0):=by
 intro a0 k
 obtain ⟨ih0,ih1⟩:=laws_FnExactChainRead.mono_l k
 unfold laws_FnExactChainRead.f
 repeat' first
   | (with_reducible exact ih0 _ _ _ _ _)
   | (with_reducible exact ih1 _ _ _)
   | (with_reducible exact impl_ChainRead.mono _ _)
   | (with_reducible exact laws_eqItemS.mono _ _ _)
   | (with_reducible exact laws_heldItemS.mono _ _ _)
   | (with_reducible exact laws_markItemS.mono _ _ _)
   | (with_reducible exact spec_ChainRead.mono _ _)
   | (with_reducible exact LeO.refl _)
   | (with_reducible exact LeO.none _)
   | (with_reducible refine LeO.ite ?_ ?_)
   | (with_reducible refine LeO.bind ?_ (fun _ => ?_))
   | exact ih0 _ _ _ _ _
   | exact ih1 _ _ _
   | exact impl_ChainRead.mono _ _
   | exact laws_eqItemS.mono _ _ _
   | exact laws_heldItemS.mono _ _ _
   | exact laws_markItemS.mono _ _ _
   | exact spec_ChainRead.mono _ _
   | exact LeO.none _
   | refine LeO.ite ?_ ?_
   | refine LeO.bind ?_ (fun _ => ?_)
/-- What is left to prove of laws_FnExactChainRead. -/
def laws_FnExactChainRead.Pure : Prop:=∀ (a0 : ByteArray),a0.size ≤ 9223372036854775807 → ∃ k,laws_FnExactChainRead.f k a0 = some true

end Go.Proofs.YthjpkfcejdddkaaDoor.P
namespace Go.Proofs.YthjpkfcejdddkaaDoor.PX
open Go.RowKit Go.Proofs.YthjpkfcejdddkaaDoorW.PrintWords Go.Proofs.YthjpkfcejdddkaaDoorW.PrintLast Go.Proofs.YthjpkfcejdddkaaDoorW.PrintMore Go.Proofs.YthjpkfcejdddkaaDoor.P
attribute [local go_sem] max2_int min2_int max_two min_two max_three min_three max_four min_four   -- for this text's walks alone
set_option linter.unusedVariables false
set_option linter.unusedSimpArgs false
theorem impl_ChainRead.calls (k : Nat) (a0 : ByteArray) (r1 : List S48) (r2 : Bool) (w : World) (h : impl_ChainRead.f k a0 = some (r1,r2)) :
    Calls Tryd.prog 12 #[.string a0] w fun e w' => ∃ v0_ : Value,e = .returned (.tuple #[v0_,.bool r2]) ∧ Kd.R k48 48 w' w.heap.size (fun _ => True) v0_ r1 ∧ Below w.heap.size w w':=by
  refine (impl_ChainRead.callsX k a0 r1 r2 w h).mono ?_
  rintro e w' ⟨A,c,c',he,hl,ho,hb⟩
  exact ⟨_,he,⟨A,c,c',rfl,hl,ho⟩,hb⟩
theorem spec_ChainRead.calls (k : Nat) (a0 : ByteArray) (r1 : List (S48)) (r2 : Bool) (w : World) (h : spec_ChainRead.f k a0 = some (r1,r2)) :
    Calls Tryd.prog 14 #[.string a0] w fun e w' => ∃ v0_ : Value,e = .returned (.tuple #[v0_,.bool r2]) ∧ Kd.R k48 48 w' w.heap.size (fun _ => True) v0_ r1 ∧ Below w.heap.size w w':=by
  refine (Go.Proofs.YthjpkfcejdddkaaDoor.P.spec_ChainRead.calls k a0 r1 r2 w h).mono ?_
  rintro e w' ⟨v0,he,h0,hb⟩
  exact ⟨_,he,Kd.of_R h0,hb⟩
set_option maxHeartbeats 8000000 in
set_option maxRecDepth 100000 in
theorem laws_markItemS.calls (k : Nat) (P0_ : Nat → Prop) (u9000_ : Value) (l0 : List (S48)) (a1 : Int) (r1 : Int) (r2 : List (S48)) (w0 w : World) (hB : Below w0.heap.size w0 w) (ho0 : Kd.R k48 48 w w0.heap.size P0_ u9000_ l0) (h : laws_markItemS.f k l0 a1 = some (r1,r2)) :
  Calls Tryd.prog 16 #[u9000_,.int .i64 a1] w fun e w' => e = .returned (.int .i64 r1) ∧ Kd.R k48 48 w' w0.heap.size (fun k_ => (P0_ k_ ∨ w.heap.size ≤ k_)) u9000_ r2 ∧ Below w0.heap.size w0 w' ∧ Kept w w' (fun k_ => P0_ k_):=by
 have HO0:=aM (show Kd.R k48 48 w w0.heap.size (fun k_ => (P0_ k_ ∨ w.heap.size ≤ k_)) u9000_ l0 from Kd.R_mono ho0 (fun k_ hk => (.inl hk)))
 have HK:=aM (Kept.refl w (fun k_ => P0_ k_))
 have HW0:=aM hB.size
 have HB:=aM hB
 clear hB
 have H : (laws_markItemS.l0 k l0 a1 0) = some (r1,r2):=h
 clear h
 have H':=aM H
 clear H
 go_enter Tryd.func16,Tryd.ntmps16
 go_wp2
 go_loopg [1,5] k (fun kq v1 v5 w' => ∃ (x0_1 : List (S48)) (x1_1 : Int) (x5_1 : Int),v1 = .int .i64 x1_1 ∧ v5 = .int .i64 x5_1 ∧ Aside0 (laws_markItemS.l0 kq x0_1 x1_1 x5_1 = some (r1,r2)) ∧ Aside0 (kq ≤ k) ∧ Aside0 (Kd.R k48 48 w' w0.heap.size (fun k_ => (P0_ k_ ∨ w.heap.size ≤ k_)) u9000_ x0_1) ∧ Aside0 (Kept w w' (fun k_ => P0_ k_)) ∧ Aside0 (Below w0.heap.size w0 w'))
 case atStart => exact ⟨(l0),(a1),(0),(by first|rfl|(simp;done)|(simp [*];done)),(by first|rfl|(simp;done)|(simp [*];done)),H',⟨Nat.le_refl _⟩,⟨by (with_reducible repeat (first|apply Kd.R_alloc|apply Kd.R_drewN|apply Kd.R_drew));exact HO0.out⟩,⟨by repeat (first|(with_reducible first|exact HK.out|apply Kept.alloc|apply Kept.drewN|apply Kept.drew)|exact HK.out)⟩,⟨by repeat (first|(with_reducible first|exact HB.out|apply bA|apply bN|apply bD)|exact HB.out)⟩⟩
 case round =>
  clear H'
  try clear c1
  try clear p2
  obtain ⟨x0_1,x1_1,x5_1,rfl,rfl,HA,HK1,HO_0,HK,HB⟩:=hrel
  cases gk with
  | zero => exact absurd HA.out (by simp [laws_markItemS.l0])
  | succ k1 =>
   have H:=HA.out
   clear HA
   simp only [laws_markItemS.l0] at H
   by_cases c3 : x5_1 < (x0_1.length : Int)
   ·rw [if_pos c3] at H
    have c3b0 : decide (x5_1 < (x0_1.length : Int)) = true:=decide_eq_true c3
    clear c3
    by_cases c4 : 0 ≤ x5_1
    case neg => rw [if_neg c4] at H;exact absurd H (by simp)
    rw [if_pos c4] at H
    have c4b0 : decide (0 ≤ x5_1) = true:=decide_eq_true c4
    clear c4
    obtain ⟨y228,hy228⟩ : ∃ y_ : List (S48),y_ = (x0_1.set (x5_1 : Int).toNat (⟨x1_1,(⟨(rd_T48 x0_1 x5_1).f1.f0,(rd_T48 x0_1 x5_1).f1.f1,(rd_T48 x0_1 x5_1).f1.f2⟩ : S46)⟩ : S48)):=⟨_,rfl⟩
    replace H : ((some (y228.set (x5_1 : Int).toNat (⟨(rd_T48 y228 x5_1).f0,(⟨wrap64 (x1_1 + 1),(rd_T48 y228 x5_1).f1.f1,(rd_T48 y228 x5_1).f1.f2⟩ : S46)⟩ : S48) : List (S48))).bind fun y229 => ((some (y229.set (x5_1 : Int).toNat (⟨(rd_T48 y229 x5_1).f0,(⟨(rd_T48 y229 x5_1).f1.f0,wrap64 ((wrap64 (x1_1 + 1)) + 1),(rd_T48 y229 x5_1).f1.f2⟩ : S46)⟩ : S48) : List (S48))).bind fun y230 => (laws_markItemS.l0 k1 (y230.set (x5_1 : Int).toNat (⟨(rd_T48 y230 x5_1).f0,(⟨(rd_T48 y230 x5_1).f1.f0,(rd_T48 y230 x5_1).f1.f1,wrap64 ((wrap64 ((wrap64 (x1_1 + 1)) + 1)) + 1)⟩ : S46)⟩ : S48)) (wrap64 ((wrap64 ((wrap64 ((wrap64 (x1_1 + 1)) + 1)) + 1)) + 1)) (wrap64 (x5_1 + 1))))) = some (r1,r2):=by first|(rw [hy228];with_reducible exact H)|(have H2_:=(Option.bind_some _ _).symm.trans H;rw [hy228];with_reducible exact H2_)|(have H2_:=(Option.bind_some _ _).symm.trans H;with_reducible exact H2_)|with_reducible exact H|(rw [hy228];exact H)|exact H
    have Ny228:=aM hy228
    clear hy228
    obtain ⟨y229,hy229⟩ : ∃ y_ : List (S48),y_ = (y228.set (x5_1 : Int).toNat (⟨(rd_T48 y228 x5_1).f0,(⟨wrap64 (x1_1 + 1),(rd_T48 y228 x5_1).f1.f1,(rd_T48 y228 x5_1).f1.f2⟩ : S46)⟩ : S48)):=⟨_,rfl⟩
    replace H : ((some (y229.set (x5_1 : Int).toNat (⟨(rd_T48 y229 x5_1).f0,(⟨(rd_T48 y229 x5_1).f1.f0,wrap64 ((wrap64 (x1_1 + 1)) + 1),(rd_T48 y229 x5_1).f1.f2⟩ : S46)⟩ : S48) : List (S48))).bind fun y230 => (laws_markItemS.l0 k1 (y230.set (x5_1 : Int).toNat (⟨(rd_T48 y230 x5_1).f0,(⟨(rd_T48 y230 x5_1).f1.f0,(rd_T48 y230 x5_1).f1.f1,wrap64 ((wrap64 ((wrap64 (x1_1 + 1)) + 1)) + 1)⟩ : S46)⟩ : S48)) (wrap64 ((wrap64 ((wrap64 ((wrap64 (x1_1 + 1)) + 1)) + 1)) + 1)) (wrap64 (x5_1 + 1)))) = some (r1,r2):=by first|(rw [hy229];with_reducible exact H)|(have H2_:=(Option.bind_some _ _).symm.trans H;rw [hy229];with_reducible exact H2_)|(have H2_:=(Option.bind_some _ _).symm.trans H;with_reducible exact H2_)|with_reducible exact H|(rw [hy229];exact H)|exact H
    have Ny229:=aM hy229
    clear hy229
    obtain ⟨y230,hy230⟩ : ∃ y_ : List (S48),y_ = (y229.set (x5_1 : Int).toNat (⟨(rd_T48 y229 x5_1).f0,(⟨(rd_T48 y229 x5_1).f1.f0,wrap64 ((wrap64 (x1_1 + 1)) + 1),(rd_T48 y229 x5_1).f1.f2⟩ : S46)⟩ : S48)):=⟨_,rfl⟩
    replace H : (laws_markItemS.l0 k1 (y230.set (x5_1 : Int).toNat (⟨(rd_T48 y230 x5_1).f0,(⟨(rd_T48 y230 x5_1).f1.f0,(rd_T48 y230 x5_1).f1.f1,wrap64 ((wrap64 ((wrap64 (x1_1 + 1)) + 1)) + 1)⟩ : S46)⟩ : S48)) (wrap64 ((wrap64 ((wrap64 ((wrap64 (x1_1 + 1)) + 1)) + 1)) + 1)) (wrap64 (x5_1 + 1))) = some (r1,r2):=by first|(rw [hy230];with_reducible exact H)|(have H2_:=(Option.bind_some _ _).symm.trans H;rw [hy230];with_reducible exact H2_)|(have H2_:=(Option.bind_some _ _).symm.trans H;with_reducible exact H2_)|with_reducible exact H|(rw [hy230];exact H)|exact H
    have Ny230:=aM hy230
    clear hy230
    obtain ⟨y231,hy231⟩ : ∃ y_ : List (S48),y_ = (y230.set (x5_1 : Int).toNat (⟨(rd_T48 y230 x5_1).f0,(⟨(rd_T48 y230 x5_1).f1.f0,(rd_T48 y230 x5_1).f1.f1,wrap64 ((wrap64 ((wrap64 (x1_1 + 1)) + 1)) + 1)⟩ : S46)⟩ : S48)):=⟨_,rfl⟩
    replace H : (laws_markItemS.l0 k1 y231 (wrap64 ((wrap64 ((wrap64 ((wrap64 (x1_1 + 1)) + 1)) + 1)) + 1)) (wrap64 (x5_1 + 1))) = some (r1,r2):=by first|(rw [hy231];with_reducible exact H)|(have H2_:=(Option.bind_some _ _).symm.trans H;rw [hy231];with_reducible exact H2_)|(have H2_:=(Option.bind_some _ _).symm.trans H;with_reducible exact H2_)|with_reducible exact H|(rw [hy231];exact H)|exact H
    have Ny231:=aM hy231
    clear hy231
    have H':=aM H
    clear H
    obtain ⟨Ao9,co9,eo9⟩:=Kd.R_slice HO_0.out
    subst eo9
    have p5 : 0 ≤ (x5_1 : Int):=of_decide_eq_true (by first|(with_reducible assumption)|assumption)
    have q5 : (x5_1 : Int) < ((x0_1.length : Int) : Int):=of_decide_eq_true (by first|(with_reducible assumption)|assumption)
    obtain ⟨go5,co5,eo5,gb5,gl5,cl5,HG5⟩:=Kd.R_form HO_0.out (by omega)
    (first|cases eo5|(injection eo5 with ea_ en_ ec_;(first|subst ea_|(injection ea_ with ea_;subst ea_));subst ec_;clear en_))
    have GB5:=aM gb5
    have GG5:=aM HG5
    clear gb5 gl5 HG5
    have HMgo5:=aM (show (P0_ go5 ∨ w.heap.size ≤ go5) from (Kd.R_own1 HO_0.out _ rfl))
    obtain ⟨ce5,hcl5,hM5,hcc5,hfr5⟩:=Kd.R_elem HO_0.out z48 (x5_1 : Int) p5 q5
    obtain rfl:=k48_openM hM5
    have hx5_0 : wr.cell? ⟨go5,(x5_1 : Int).toNat * 4,none⟩ = some (.int .i64 ((rd_T48 x0_1 x5_1).f0)):=hcc5 0 _ rfl
    have hx5_1 : wr.cell? ⟨go5,(x5_1 : Int).toNat * 4 + 1,none⟩ = some (.int .i64 ((rd_T48 x0_1 x5_1).f1.f0)):=hcc5 1 _ rfl
    have hx5_2 : wr.cell? ⟨go5,(x5_1 : Int).toNat * 4 + 2,none⟩ = some (.int .i64 ((rd_T48 x0_1 x5_1).f1.f1)):=hcc5 2 _ rfl
    have hx5_3 : wr.cell? ⟨go5,(x5_1 : Int).toNat * 4 + 3,none⟩ = some (.int .i64 ((rd_T48 x0_1 x5_1).f1.f2)):=hcc5 3 _ rfl
    have hf5_0 : wr.frozen? ⟨go5,(x5_1 : Int).toNat * 4,none⟩ = false:=hfr5 0
    have hf5_1 : wr.frozen? ⟨go5,(x5_1 : Int).toNat * 4 + 1,none⟩ = false:=hfr5 1
    have hf5_2 : wr.frozen? ⟨go5,(x5_1 : Int).toNat * 4 + 2,none⟩ = false:=hfr5 2
    have hf5_3 : wr.frozen? ⟨go5,(x5_1 : Int).toNat * 4 + 3,none⟩ = false:=hfr5 3
    clear hcl5 hcc5 hfr5 hM5
    replace p5:=eq_true p5
    replace q5:=eq_true q5
    have HX10:=aM (show Kd.R k48 48 wr w0.heap.size (fun k_ => (P0_ k_ ∨ w.heap.size ≤ k_)) (.slice (some ⟨go5,0,none⟩) x0_1.length co9) x0_1 from (by (with_reducible repeat (first|apply Kd.R_alloc|apply Kd.R_drewN|apply Kd.R_drew));exact HO_0.out))
    obtain ⟨ce10,hcl10,hM10,hcc10,hfr10⟩:=Kd.R_elem HX10.out z48 (x5_1 : Int) (of_decide_eq_true (by first|(with_reducible assumption)|assumption)) (by have h_ : (x5_1 : Int) < ((x0_1.length : Int) : Int):=of_decide_eq_true (by first|(with_reducible assumption)|assumption);first|exact h_|(have e_:=(Kd.R_reads' HO_0.out).1;omega)|simpa using h_)
    obtain rfl:=k48_openM hM10
    have HP10:=Kd.R_seg HX10.out (x5_1 : Int) (of_decide_eq_true (by first|(with_reducible assumption)|assumption)) (by have h_ : (x5_1 : Int) < ((x0_1.length : Int) : Int):=of_decide_eq_true (by first|(with_reducible assumption)|assumption);first|exact h_|(have e_:=(Kd.R_reads' HO_0.out).1;omega)|simpa using h_) (seg:=[.int .i64 x1_1]) (j:=0) hcl10 hcc10 (show 1 ≤ 4 from by decide) (x':=(⟨x1_1,(⟨(rd_T48 x0_1 x5_1).f1.f0,(rd_T48 x0_1 x5_1).f1.f1,(rd_T48 x0_1 x5_1).f1.f2⟩ : S46)⟩ : S48)) (k48_mkM _ _ _ (⟨x1_1,(⟨(rd_T48 x0_1 x5_1).f1.f0,(rd_T48 x0_1 x5_1).f1.f1,(rd_T48 x0_1 x5_1).f1.f2⟩ : S46)⟩ : S48) ) (fun _ hk => hk)
    have hx10_0:=hcc10 0 _ rfl
    (try simp only [show (k48).sz = 4 from rfl,Nat.mul_one,Nat.add_zero] at hx10_0)
    have hf10_0:=hfr10 0
    (try simp only [show (k48).sz = 4 from rfl,Nat.mul_one,Nat.add_zero] at hf10_0)
    clear hcl10 hcc10 hfr10 hM10
    go_wp2_with (first|((with_reducible refine gate_store (t:=3) (p:=16) rfl ?_);refine store_event (t:=3) (p:=16) (v:=?vo_w11) (w1:=(wr.setCell ⟨go5,(x5_1 : Int).toNat * 4,none⟩ (.int .i64 x1_1))) ?hg ?ho ?hn ?hr ?_;(case ho => rfl);(case hg => rfl);(case hn => rfl);(case hr => first|(go_simp;done)|(go_simp;rfl));intro w11 hw;have hg : wr.grownBy w11 (some go5):=(by rw [hw];exact HP10.2);have hp_ : Kd.R k48 48 w11 w0.heap.size (fun k_ => (P0_ k_ ∨ w.heap.size ≤ k_)) (.slice (some ⟨go5,0,none⟩) x0_1.length co9) y228:=(by rw [hw,Ny228.out];exact HP10.1);clear HP10;have n0_:=aM (hp_);have n1_:=aM ((by rw [hw];exact below_set (HB.out) GB5.out : Below w0.heap.size w0 w11));have n2_:=aM (Kept.of_grown (S:=(fun k_ => P0_ k_)) hg (by repeat (first|(with_reducible first|exact HK.out|apply Kept.alloc|apply Kept.drewN|apply Kept.drew)|exact HK.out)) (fun k_ e_ => (Kd.R_own1 HO_0.out k_ e_)));clear HO_0;clear HB;clear HK;have HO_0:=n0_;have HB:=n1_;have HK:=n2_;clear n0_ n1_ n2_;clear hg hw hp_;have p6 : 0 ≤ (x5_1 : Int):=of_decide_eq_true (by first|(with_reducible assumption)|assumption);have q6 : (x5_1 : Int) < ((x0_1.length : Int) : Int):=of_decide_eq_true (by first|(with_reducible assumption)|assumption);obtain ⟨ce6,hcl6,hM6,hcc6,hfr6⟩:=Kd.R_elem HO_0.out z48 (x5_1 : Int) p6 q6;obtain rfl:=k48_openM hM6;have hx6_0 : w11.cell? ⟨go5,(x5_1 : Int).toNat * 4,none⟩ = some (.int .i64 ((rd_T48 y228 x5_1).f0)):=hcc6 0 _ rfl;have hx6_1 : w11.cell? ⟨go5,(x5_1 : Int).toNat * 4 + 1,none⟩ = some (.int .i64 ((rd_T48 y228 x5_1).f1.f0)):=hcc6 1 _ rfl;have hx6_2 : w11.cell? ⟨go5,(x5_1 : Int).toNat * 4 + 2,none⟩ = some (.int .i64 ((rd_T48 y228 x5_1).f1.f1)):=hcc6 2 _ rfl;have hx6_3 : w11.cell? ⟨go5,(x5_1 : Int).toNat * 4 + 3,none⟩ = some (.int .i64 ((rd_T48 y228 x5_1).f1.f2)):=hcc6 3 _ rfl;have hf6_0 : w11.frozen? ⟨go5,(x5_1 : Int).toNat * 4,none⟩ = false:=hfr6 0;have hf6_1 : w11.frozen? ⟨go5,(x5_1 : Int).toNat * 4 + 1,none⟩ = false:=hfr6 1;have hf6_2 : w11.frozen? ⟨go5,(x5_1 : Int).toNat * 4 + 2,none⟩ = false:=hfr6 2;have hf6_3 : w11.frozen? ⟨go5,(x5_1 : Int).toNat * 4 + 3,none⟩ = false:=hfr6 3;clear hcl6 hcc6 hfr6 hM6;replace p6:=eq_true p6;replace q6:=eq_true q6;have HX12:=aM (show Kd.R k48 48 w11 w0.heap.size (fun k_ => (P0_ k_ ∨ w.heap.size ≤ k_)) (.slice (some ⟨go5,0,none⟩) x0_1.length co9) y228 from (by (with_reducible repeat (first|apply Kd.R_alloc|apply Kd.R_drewN|apply Kd.R_drew));exact HO_0.out));obtain ⟨ce12,hcl12,hM12,hcc12,hfr12⟩:=Kd.R_elem HX12.out z48 (x5_1 : Int) (of_decide_eq_true (by first|(with_reducible assumption)|assumption)) (by have h_ : (x5_1 : Int) < ((x0_1.length : Int) : Int):=of_decide_eq_true (by first|(with_reducible assumption)|assumption);first|exact h_|(have e_:=(Kd.R_reads' HO_0.out).1;omega)|simpa using h_);obtain rfl:=k48_openM hM12;have HP12:=Kd.R_seg HX12.out (x5_1 : Int) (of_decide_eq_true (by first|(with_reducible assumption)|assumption)) (by have h_ : (x5_1 : Int) < ((x0_1.length : Int) : Int):=of_decide_eq_true (by first|(with_reducible assumption)|assumption);first|exact h_|(have e_:=(Kd.R_reads' HO_0.out).1;omega)|simpa using h_) (seg:=[.int .i64 (wrap64 (x1_1 + 1))]) (j:=1) hcl12 hcc12 (show 2 ≤ 4 from by decide) (x':=(⟨(rd_T48 y228 x5_1).f0,(⟨wrap64 (x1_1 + 1),(rd_T48 y228 x5_1).f1.f1,(rd_T48 y228 x5_1).f1.f2⟩ : S46)⟩ : S48)) (k48_mkM _ _ _ (⟨(rd_T48 y228 x5_1).f0,(⟨wrap64 (x1_1 + 1),(rd_T48 y228 x5_1).f1.f1,(rd_T48 y228 x5_1).f1.f2⟩ : S46)⟩ : S48) ) (fun _ hk => hk);have hx12_1:=hcc12 1 _ rfl;(try simp only [show (k48).sz = 4 from rfl,Nat.mul_one,Nat.add_zero] at hx12_1);have hf12_1:=hfr12 1;(try simp only [show (k48).sz = 4 from rfl,Nat.mul_one,Nat.add_zero] at hf12_1);clear hcl12 hcc12 hfr12 hM12)|((with_reducible refine gate_store (t:=3) (p:=24) rfl ?_);refine store_event (t:=3) (p:=24) (v:=?vo_w13) (w1:=(w11.setCell ⟨go5,(x5_1 : Int).toNat * 4 + 1,none⟩ (.int .i64 (wrap64 (x1_1 + 1))))) ?hg ?ho ?hn ?hr ?_;(case ho => rfl);(case hg => rfl);(case hn => rfl);(case hr => first|(go_simp;done)|(go_simp;rfl));intro w13 hw;have hg : w11.grownBy w13 (some go5):=(by rw [hw];exact HP12.2);have hp_ : Kd.R k48 48 w13 w0.heap.size (fun k_ => (P0_ k_ ∨ w.heap.size ≤ k_)) (.slice (some ⟨go5,0,none⟩) x0_1.length co9) y229:=(by rw [hw,Ny229.out];exact HP12.1);clear HP12;have n0_:=aM (hp_);have n1_:=aM ((by rw [hw];exact below_set (HB.out) GB5.out : Below w0.heap.size w0 w13));have n2_:=aM (Kept.of_grown (S:=(fun k_ => P0_ k_)) hg (by repeat (first|(with_reducible first|exact HK.out|apply Kept.alloc|apply Kept.drewN|apply Kept.drew)|exact HK.out)) (fun k_ e_ => (Kd.R_own1 HO_0.out k_ e_)));clear HO_0;clear HB;clear HK;have HO_0:=n0_;have HB:=n1_;have HK:=n2_;clear n0_ n1_ n2_;clear hg hw hp_;have p7 : 0 ≤ (x5_1 : Int):=of_decide_eq_true (by first|(with_reducible assumption)|assumption);have q7 : (x5_1 : Int) < ((x0_1.length : Int) : Int):=of_decide_eq_true (by first|(with_reducible assumption)|assumption);obtain ⟨ce7,hcl7,hM7,hcc7,hfr7⟩:=Kd.R_elem HO_0.out z48 (x5_1 : Int) p7 q7;obtain rfl:=k48_openM hM7;have hx7_0 : w13.cell? ⟨go5,(x5_1 : Int).toNat * 4,none⟩ = some (.int .i64 ((rd_T48 y229 x5_1).f0)):=hcc7 0 _ rfl;have hx7_1 : w13.cell? ⟨go5,(x5_1 : Int).toNat * 4 + 1,none⟩ = some (.int .i64 ((rd_T48 y229 x5_1).f1.f0)):=hcc7 1 _ rfl;have hx7_2 : w13.cell? ⟨go5,(x5_1 : Int).toNat * 4 + 2,none⟩ = some (.int .i64 ((rd_T48 y229 x5_1).f1.f1)):=hcc7 2 _ rfl;have hx7_3 : w13.cell? ⟨go5,(x5_1 : Int).toNat * 4 + 3,none⟩ = some (.int .i64 ((rd_T48 y229 x5_1).f1.f2)):=hcc7 3 _ rfl;have hf7_0 : w13.frozen? ⟨go5,(x5_1 : Int).toNat * 4,none⟩ = false:=hfr7 0;have hf7_1 : w13.frozen? ⟨go5,(x5_1 : Int).toNat * 4 + 1,none⟩ = false:=hfr7 1;have hf7_2 : w13.frozen? ⟨go5,(x5_1 : Int).toNat * 4 + 2,none⟩ = false:=hfr7 2;have hf7_3 : w13.frozen? ⟨go5,(x5_1 : Int).toNat * 4 + 3,none⟩ = false:=hfr7 3;clear hcl7 hcc7 hfr7 hM7;replace p7:=eq_true p7;replace q7:=eq_true q7;have HX14:=aM (show Kd.R k48 48 w13 w0.heap.size (fun k_ => (P0_ k_ ∨ w.heap.size ≤ k_)) (.slice (some ⟨go5,0,none⟩) x0_1.length co9) y229 from (by (with_reducible repeat (first|apply Kd.R_alloc|apply Kd.R_drewN|apply Kd.R_drew));exact HO_0.out));obtain ⟨ce14,hcl14,hM14,hcc14,hfr14⟩:=Kd.R_elem HX14.out z48 (x5_1 : Int) (of_decide_eq_true (by first|(with_reducible assumption)|assumption)) (by have h_ : (x5_1 : Int) < ((x0_1.length : Int) : Int):=of_decide_eq_true (by first|(with_reducible assumption)|assumption);first|exact h_|(have e_:=(Kd.R_reads' HO_0.out).1;omega)|simpa using h_);obtain rfl:=k48_openM hM14;have HP14:=Kd.R_seg HX14.out (x5_1 : Int) (of_decide_eq_true (by first|(with_reducible assumption)|assumption)) (by have h_ : (x5_1 : Int) < ((x0_1.length : Int) : Int):=of_decide_eq_true (by first|(with_reducible assumption)|assumption);first|exact h_|(have e_:=(Kd.R_reads' HO_0.out).1;omega)|simpa using h_) (seg:=[.int .i64 (wrap64 ((wrap64 (x1_1 + 1)) + 1))]) (j:=2) hcl14 hcc14 (show 3 ≤ 4 from by decide) (x':=(⟨(rd_T48 y229 x5_1).f0,(⟨(rd_T48 y229 x5_1).f1.f0,wrap64 ((wrap64 (x1_1 + 1)) + 1),(rd_T48 y229 x5_1).f1.f2⟩ : S46)⟩ : S48)) (k48_mkM _ _ _ (⟨(rd_T48 y229 x5_1).f0,(⟨(rd_T48 y229 x5_1).f1.f0,wrap64 ((wrap64 (x1_1 + 1)) + 1),(rd_T48 y229 x5_1).f1.f2⟩ : S46)⟩ : S48) ) (fun _ hk => hk);have hx14_2:=hcc14 2 _ rfl;(try simp only [show (k48).sz = 4 from rfl,Nat.mul_one,Nat.add_zero] at hx14_2);have hf14_2:=hfr14 2;(try simp only [show (k48).sz = 4 from rfl,Nat.mul_one,Nat.add_zero] at hf14_2);clear hcl14 hcc14 hfr14 hM14)|((with_reducible refine gate_store (t:=3) (p:=32) rfl ?_);refine store_event (t:=3) (p:=32) (v:=?vo_w15) (w1:=(w13.setCell ⟨go5,(x5_1 : Int).toNat * 4 + 2,none⟩ (.int .i64 (wrap64 ((wrap64 (x1_1 + 1)) + 1))))) ?hg ?ho ?hn ?hr ?_;(case ho => rfl);(case hg => rfl);(case hn => rfl);(case hr => first|(go_simp;done)|(go_simp;rfl));intro w15 hw;have hg : w13.grownBy w15 (some go5):=(by rw [hw];exact HP14.2);have hp_ : Kd.R k48 48 w15 w0.heap.size (fun k_ => (P0_ k_ ∨ w.heap.size ≤ k_)) (.slice (some ⟨go5,0,none⟩) x0_1.length co9) y230:=(by rw [hw,Ny230.out];exact HP14.1);clear HP14;have n0_:=aM (hp_);have n1_:=aM ((by rw [hw];exact below_set (HB.out) GB5.out : Below w0.heap.size w0 w15));have n2_:=aM (Kept.of_grown (S:=(fun k_ => P0_ k_)) hg (by repeat (first|(with_reducible first|exact HK.out|apply Kept.alloc|apply Kept.drewN|apply Kept.drew)|exact HK.out)) (fun k_ e_ => (Kd.R_own1 HO_0.out k_ e_)));clear HO_0;clear HB;clear HK;have HO_0:=n0_;have HB:=n1_;have HK:=n2_;clear n0_ n1_ n2_;clear hg hw hp_;have p8 : 0 ≤ (x5_1 : Int):=of_decide_eq_true (by first|(with_reducible assumption)|assumption);have q8 : (x5_1 : Int) < ((x0_1.length : Int) : Int):=of_decide_eq_true (by first|(with_reducible assumption)|assumption);obtain ⟨ce8,hcl8,hM8,hcc8,hfr8⟩:=Kd.R_elem HO_0.out z48 (x5_1 : Int) p8 q8;obtain rfl:=k48_openM hM8;have hx8_0 : w15.cell? ⟨go5,(x5_1 : Int).toNat * 4,none⟩ = some (.int .i64 ((rd_T48 y230 x5_1).f0)):=hcc8 0 _ rfl;have hx8_1 : w15.cell? ⟨go5,(x5_1 : Int).toNat * 4 + 1,none⟩ = some (.int .i64 ((rd_T48 y230 x5_1).f1.f0)):=hcc8 1 _ rfl;have hx8_2 : w15.cell? ⟨go5,(x5_1 : Int).toNat * 4 + 2,none⟩ = some (.int .i64 ((rd_T48 y230 x5_1).f1.f1)):=hcc8 2 _ rfl;have hx8_3 : w15.cell? ⟨go5,(x5_1 : Int).toNat * 4 + 3,none⟩ = some (.int .i64 ((rd_T48 y230 x5_1).f1.f2)):=hcc8 3 _ rfl;have hf8_0 : w15.frozen? ⟨go5,(x5_1 : Int).toNat * 4,none⟩ = false:=hfr8 0;have hf8_1 : w15.frozen? ⟨go5,(x5_1 : Int).toNat * 4 + 1,none⟩ = false:=hfr8 1;have hf8_2 : w15.frozen? ⟨go5,(x5_1 : Int).toNat * 4 + 2,none⟩ = false:=hfr8 2;have hf8_3 : w15.frozen? ⟨go5,(x5_1 : Int).toNat * 4 + 3,none⟩ = false:=hfr8 3;clear hcl8 hcc8 hfr8 hM8;replace p8:=eq_true p8;replace q8:=eq_true q8;have HX16:=aM (show Kd.R k48 48 w15 w0.heap.size (fun k_ => (P0_ k_ ∨ w.heap.size ≤ k_)) (.slice (some ⟨go5,0,none⟩) x0_1.length co9) y230 from (by (with_reducible repeat (first|apply Kd.R_alloc|apply Kd.R_drewN|apply Kd.R_drew));exact HO_0.out));obtain ⟨ce16,hcl16,hM16,hcc16,hfr16⟩:=Kd.R_elem HX16.out z48 (x5_1 : Int) (of_decide_eq_true (by first|(with_reducible assumption)|assumption)) (by have h_ : (x5_1 : Int) < ((x0_1.length : Int) : Int):=of_decide_eq_true (by first|(with_reducible assumption)|assumption);first|exact h_|(have e_:=(Kd.R_reads' HO_0.out).1;omega)|simpa using h_);obtain rfl:=k48_openM hM16;have HP16:=Kd.R_seg HX16.out (x5_1 : Int) (of_decide_eq_true (by first|(with_reducible assumption)|assumption)) (by have h_ : (x5_1 : Int) < ((x0_1.length : Int) : Int):=of_decide_eq_true (by first|(with_reducible assumption)|assumption);first|exact h_|(have e_:=(Kd.R_reads' HO_0.out).1;omega)|simpa using h_) (seg:=[.int .i64 (wrap64 ((wrap64 ((wrap64 (x1_1 + 1)) + 1)) + 1))]) (j:=3) hcl16 hcc16 (show 4 ≤ 4 from by decide) (x':=(⟨(rd_T48 y230 x5_1).f0,(⟨(rd_T48 y230 x5_1).f1.f0,(rd_T48 y230 x5_1).f1.f1,wrap64 ((wrap64 ((wrap64 (x1_1 + 1)) + 1)) + 1)⟩ : S46)⟩ : S48)) (k48_mkM _ _ _ (⟨(rd_T48 y230 x5_1).f0,(⟨(rd_T48 y230 x5_1).f1.f0,(rd_T48 y230 x5_1).f1.f1,wrap64 ((wrap64 ((wrap64 (x1_1 + 1)) + 1)) + 1)⟩ : S46)⟩ : S48) ) (fun _ hk => hk);have hx16_3:=hcc16 3 _ rfl;(try simp only [show (k48).sz = 4 from rfl,Nat.mul_one,Nat.add_zero] at hx16_3);have hf16_3:=hfr16 3;(try simp only [show (k48).sz = 4 from rfl,Nat.mul_one,Nat.add_zero] at hf16_3);clear hcl16 hcc16 hfr16 hM16)|((with_reducible refine gate_store (t:=3) (p:=40) rfl ?_);refine store_event (t:=3) (p:=40) (v:=?vo_w17) (w1:=(w15.setCell ⟨go5,(x5_1 : Int).toNat * 4 + 3,none⟩ (.int .i64 (wrap64 ((wrap64 ((wrap64 (x1_1 + 1)) + 1)) + 1))))) ?hg ?ho ?hn ?hr ?_;(case ho => rfl);(case hg => rfl);(case hn => rfl);(case hr => first|(go_simp;done)|(go_simp;rfl));intro w17 hw;have hg : w15.grownBy w17 (some go5):=(by rw [hw];exact HP16.2);have hp_ : Kd.R k48 48 w17 w0.heap.size (fun k_ => (P0_ k_ ∨ w.heap.size ≤ k_)) (.slice (some ⟨go5,0,none⟩) x0_1.length co9) y231:=(by rw [hw,Ny231.out];exact HP16.1);clear HP16;have n0_:=aM (hp_);have n1_:=aM ((by rw [hw];exact below_set (HB.out) GB5.out : Below w0.heap.size w0 w17));have n2_:=aM (Kept.of_grown (S:=(fun k_ => P0_ k_)) hg (by repeat (first|(with_reducible first|exact HK.out|apply Kept.alloc|apply Kept.drewN|apply Kept.drew)|exact HK.out)) (fun k_ e_ => (Kd.R_own1 HO_0.out k_ e_)));clear HO_0;clear HB;clear HK;have HO_0:=n0_;have HB:=n1_;have HK:=n2_;clear n0_ n1_ n2_;clear hg hw hp_))
    go_roundg k1
    case measure => have:=HK1.out;omega
    case rel => exact ⟨(y231),(wrap64 ((wrap64 ((wrap64 ((wrap64 (x1_1 + 1)) + 1)) + 1)) + 1)),(wrap64 (x5_1 + 1)),(by first|rfl|(simp;done)|(simp [*];done)),(by first|rfl|(simp;done)|(simp [*];done)),H',⟨by have:=HK1.out;omega⟩,⟨by (with_reducible repeat (first|apply Kd.R_alloc|apply Kd.R_drewN|apply Kd.R_drew));exact HO_0.out⟩,⟨by repeat (first|(with_reducible first|exact HK.out|apply Kept.alloc|apply Kept.drewN|apply Kept.drew)|exact HK.out)⟩,⟨by repeat (first|(with_reducible first|exact HB.out|apply bA|apply bN|apply bD)|exact HB.out)⟩⟩
   ·rw [if_neg c3] at H
    have c3b0 : decide (x5_1 < (x0_1.length : Int)) = false:=decide_eq_false c3
    clear c3
    simp only [Option.some.injEq,Prod.mk.injEq] at H
    obtain ⟨rfl,rfl⟩:=H
    obtain ⟨Ao18,co18,eo18⟩:=Kd.R_slice HO_0.out
    subst eo18
    go_wp2
    go_ret
    exact ⟨by first|rfl|(simp only [i64_w,i32_w];done)|(simp only [i64_w,i32_w];rfl)|(simp [errW_none,errW_some] <;> rfl)|(simp [*,errW_none,errW_some] <;> rfl),by (with_reducible repeat (first|apply Kd.R_alloc|apply Kd.R_drewN|apply Kd.R_drew));exact HO_0.out,by repeat (first|(with_reducible first|exact HB.out|apply bA|apply bN|apply bD)|exact HB.out),by repeat (first|(with_reducible first|exact HK.out|apply Kept.alloc|apply Kept.drewN|apply Kept.drew)|exact HK.out)⟩

set_option maxHeartbeats 8000000 in
set_option maxRecDepth 100000 in
theorem laws_FnExactChainRead.calls (k : Nat) (a0 : ByteArray) (r : Bool) (w : World) (h : laws_FnExactChainRead.f k a0 = some r) :
  Calls Tryd.prog 4 #[.string a0] w fun e w' => e = .returned (.bool r) ∧ Below w.heap.size w w':=by
 have HB:=aM (Below.refl w.heap.size w)
 have H : (if (a0.size : Int) > 1048576 then (some true) else ((spec_ChainRead.f k a0).bind fun bt236 => ((impl_ChainRead.f k a0).bind fun bt240 => ((laws_eqItemS.f k bt240.1 bt236.1).bind fun t244 => (if t244 = true then (laws_FnExactChainRead.j0 k a0 bt236.1 bt236.2 bt240.1 (bt240.2 != bt236.2)) else (laws_FnExactChainRead.j0 k a0 bt236.1 bt236.2 bt240.1 true)))))) = some r:=h
 clear h
 by_cases c2 : (a0.size : Int) > 1048576
 ·rw [if_pos c2] at H
  have c2b0 : decide (1048576 < (a0.size : Int)) = true:=decide_eq_true c2
  have c2b1 : decide (1048576 < a0.size) = true:=decide_eq_true (by omega)
  clear c2
  obtain rfl:=Option.some.inj H
  go_enter Tryd.func4,Tryd.ntmps4
  go_wp2
  go_ret
  exact ⟨by first|rfl|(simp only [i64_w,i32_w];done)|(simp only [i64_w,i32_w];rfl)|(simp [errW_none,errW_some] <;> rfl)|(simp [*,errW_none,errW_some] <;> rfl),by repeat (first|(with_reducible first|exact HB.out|apply bA|apply bN|apply bD)|exact HB.out)⟩
 ·rw [if_neg c2] at H
  have c2b0 : decide (1048576 < (a0.size : Int)) = false:=decide_eq_false c2
  have c2b1 : decide (1048576 < a0.size) = false:=decide_eq_false (by omega)
  clear c2
  replace H:=Option.bind_eq_some_iff.mp H
  obtain ⟨⟨t236,t237⟩,A30,H⟩:=H
  replace H : ((impl_ChainRead.f k a0).bind fun bt240 => ((laws_eqItemS.f k bt240.1 t236).bind fun t244 => (if t244 = true then (laws_FnExactChainRead.j0 k a0 t236 t237 bt240.1 (bt240.2 != t237)) else (laws_FnExactChainRead.j0 k a0 t236 t237 bt240.1 true)))) = some r:=H
  have A3:=aM A30
  clear A30
  replace H:=Option.bind_eq_some_iff.mp H
  obtain ⟨⟨t240,t241⟩,A40,H⟩:=H
  replace H : ((laws_eqItemS.f k t240 t236).bind fun t244 => (if t244 = true then (laws_FnExactChainRead.j0 k a0 t236 t237 t240 (t241 != t237)) else (laws_FnExactChainRead.j0 k a0 t236 t237 t240 true))) = some r:=H
  have A4:=aM A40
  clear A40
  have HC5:=aM H
  clear H
  go_enter Tryd.func4,Tryd.ntmps4
  go_upto_region 5 with (first|((with_reducible refine gate_callee (f:=14) rfl ?_);refine goesL_ (some 16) rfl rfl Tryd.func14 (by kernel_rfl) rfl #[.string a0] rfl (by (try simp only [List.map_toArray,List.map_cons,List.map_nil]);first|done|rfl|(simp only [List.length_drop,List.length_take];rfl)) ?_;(with_reducible refine (spec_ChainRead.calls k a0 t236 t237 _ A3.out).mono ?_);rintro e w6 ⟨v238,rfl,ho0,hb⟩;refine ⟨_,rfl,?_⟩;have n0_:=aM (Kd.R_lower ho0 (below_size (by repeat (first|(with_reducible first|exact HB.out|apply bA|apply bN|apply bD)|exact HB.out))));have n1_:=aM (below_step (by repeat (first|(with_reducible first|exact HB.out|apply bA|apply bN|apply bD)|exact HB.out)) hb);clear HB;have HO239:=n0_;have HB:=n1_;clear n0_ n1_;(try clear hb);(try clear hb2);(try clear hk);(try clear hi);(try clear ho0))|((with_reducible refine gate_callee (f:=12) rfl ?_);refine goesL_ (some 21) rfl rfl Tryd.func12 (by kernel_rfl) rfl #[.string a0] rfl (by (try simp only [List.map_toArray,List.map_cons,List.map_nil]);first|done|rfl|(simp only [List.length_drop,List.length_take];rfl)) ?_;(with_reducible refine (impl_ChainRead.calls k a0 t240 t241 _ A4.out).mono ?_);rintro e w7 ⟨v242,rfl,ho0,hb⟩;refine ⟨_,rfl,?_⟩;have n0_:=aM (Kd.R_elder' (by (with_reducible repeat (first|apply Kd.R_alloc|apply Kd.R_drewN|apply Kd.R_drew));exact HO239.out) (Kd.R_base ho0) hb);have n1_:=aM (Kd.R_lower (Kd.R_new' ho0 (Kd.R_lt (by (with_reducible repeat (first|apply Kd.R_alloc|apply Kd.R_drewN|apply Kd.R_drew));exact HO239.out))) (below_size (by repeat (first|(with_reducible first|exact HB.out|apply bA|apply bN|apply bD)|exact HB.out))));have n2_:=aM (below_step (by repeat (first|(with_reducible first|exact HB.out|apply bA|apply bN|apply bD)|exact HB.out)) hb);clear HO239;clear HB;have HO239:=n0_;have HO243:=n1_;have HB:=n2_;clear n0_ n1_ n2_;(try clear hb);(try clear hb2);(try clear hk);(try clear hi);(try clear ho0)))
  (try simp only [Act.put,sI,sZ,sS])
  go_cut [32] (fun v32 wc => ∃ (kq : Nat) (x32_4 : Bool),v32 = .bool x32_4 ∧ Aside0 (laws_FnExactChainRead.j0 kq a0 t236 t237 t240 x32_4 = some r) ∧ Aside0 (kq ≤ k) ∧ Aside0 (Kd.R k48 48 wc w.heap.size (fun k_ => some k_ ≠ (v242 : Value).ownBlock) v238 t236) ∧ Aside0 (Kd.R k48 48 wc w.heap.size (fun k_ => some k_ ≠ (v238 : Value).ownBlock) v242 t240) ∧ Aside0 (Below w.heap.size w wc))
  case first =>
   have H:=HC5.out
   clear HC5
   replace H:=Option.bind_eq_some_iff.mp H
   obtain ⟨t244,A80,H⟩:=H
   replace H : (if t244 = true then (laws_FnExactChainRead.j0 k a0 t236 t237 t240 (t241 != t237)) else (laws_FnExactChainRead.j0 k a0 t236 t237 t240 true)) = some r:=H
   have A8:=aM A80
   clear A80
   by_cases c9 : t244 = true
   ·subst c9
    have H1 : (laws_FnExactChainRead.j0 k a0 t236 t237 t240 (t241 != t237)) = some r:=by rw [if_pos rfl] at H;exact H
    clear H
    have H:=H1
    clear H1
    have H':=aM H
    clear H
    obtain ⟨Ao10,co10,eo10⟩:=Kd.R_slice HO243.out
    subst eo10
    obtain ⟨Ao11,co11,eo11⟩:=Kd.R_slice HO239.out
    subst eo11
    go_wp2_with (first|((with_reducible refine gate_callee (f:=15) rfl ?_);refine goesL_ (some 26) rfl rfl Tryd.func15 (by kernel_rfl) rfl #[.slice Ao10 t240.length co10,.slice Ao11 t236.length co11] rfl (by (try simp only [List.map_toArray,List.map_cons,List.map_nil]);first|done|rfl|(simp only [List.length_drop,List.length_take];rfl)) ?_;(with_reducible refine (laws_eqItemS.calls k _ _ t240 _ _ t236 true _ ?side1 ?side2 ?side3 ?side4 A8.out).mono ?_);(case side1 => repeat (first|exact (Kd.R_reads' HO243.out).2.2|(with_reducible refine Kd.C_alloc ?_ _)|(with_reducible refine Kd.C_drewN ?_ _)|(with_reducible refine Kd.C_drew ?_)));(case side2 => exact (Kd.R_reads' HO243.out).2.1);(case side3 => repeat (first|exact (Kd.R_reads' HO239.out).2.2|(with_reducible refine Kd.C_alloc ?_ _)|(with_reducible refine Kd.C_drewN ?_ _)|(with_reducible refine Kd.C_drew ?_)));(case side4 => exact (Kd.R_reads' HO239.out).2.1);rintro e w12 ⟨rfl,hb⟩;refine ⟨_,rfl,?_⟩;have n0_:=aM (Kd.R_below (by (with_reducible repeat (first|apply Kd.R_alloc|apply Kd.R_drewN|apply Kd.R_drew));exact HO239.out) hb);have n1_:=aM (Kd.R_below (by (with_reducible repeat (first|apply Kd.R_alloc|apply Kd.R_drewN|apply Kd.R_drew));exact HO243.out) hb);have n2_:=aM (below_step (by repeat (first|(with_reducible first|exact HB.out|apply bA|apply bN|apply bD)|exact HB.out)) hb);clear HO239;clear HO243;clear HB;have HO239:=n0_;have HO243:=n1_;have HB:=n2_;clear n0_ n1_ n2_;(try clear hb);(try clear hb2);(try clear hk);(try clear hi)))
    go_meet
    case rel => exact ⟨_,((t241 != t237)),(by first|rfl|(simp;done)|(simp [*];done)),H',⟨by first|omega|exact Nat.le_refl _⟩,⟨by (with_reducible repeat (first|apply Kd.R_alloc|apply Kd.R_drewN|apply Kd.R_drew));exact Kd.R_mono HO239.out (fun _ hk => hk.2)⟩,⟨by (with_reducible repeat (first|apply Kd.R_alloc|apply Kd.R_drewN|apply Kd.R_drew));exact Kd.R_mono HO243.out (fun _ hk => hk.2)⟩,⟨by repeat (first|(with_reducible first|exact HB.out|apply bA|apply bN|apply bD)|exact HB.out)⟩⟩
   ·replace c9:=Bool.eq_false_iff.mpr c9
    subst c9
    have H1 : (laws_FnExactChainRead.j0 k a0 t236 t237 t240 true) = some r:=by rw [if_neg (show ¬ (false = true) by decide)] at H;exact H
    clear H
    have H:=H1
    clear H1
    have H':=aM H
    clear H
    obtain ⟨Ao13,co13,eo13⟩:=Kd.R_slice HO243.out
    subst eo13
    obtain ⟨Ao14,co14,eo14⟩:=Kd.R_slice HO239.out
    subst eo14
    go_wp2_with (first|((with_reducible refine gate_callee (f:=15) rfl ?_);refine goesL_ (some 26) rfl rfl Tryd.func15 (by kernel_rfl) rfl #[.slice Ao13 t240.length co13,.slice Ao14 t236.length co14] rfl (by (try simp only [List.map_toArray,List.map_cons,List.map_nil]);first|done|rfl|(simp only [List.length_drop,List.length_take];rfl)) ?_;(with_reducible refine (laws_eqItemS.calls k _ _ t240 _ _ t236 false _ ?side1 ?side2 ?side3 ?side4 A8.out).mono ?_);(case side1 => repeat (first|exact (Kd.R_reads' HO243.out).2.2|(with_reducible refine Kd.C_alloc ?_ _)|(with_reducible refine Kd.C_drewN ?_ _)|(with_reducible refine Kd.C_drew ?_)));(case side2 => exact (Kd.R_reads' HO243.out).2.1);(case side3 => repeat (first|exact (Kd.R_reads' HO239.out).2.2|(with_reducible refine Kd.C_alloc ?_ _)|(with_reducible refine Kd.C_drewN ?_ _)|(with_reducible refine Kd.C_drew ?_)));(case side4 => exact (Kd.R_reads' HO239.out).2.1);rintro e w15 ⟨rfl,hb⟩;refine ⟨_,rfl,?_⟩;have n0_:=aM (Kd.R_below (by (with_reducible repeat (first|apply Kd.R_alloc|apply Kd.R_drewN|apply Kd.R_drew));exact HO239.out) hb);have n1_:=aM (Kd.R_below (by (with_reducible repeat (first|apply Kd.R_alloc|apply Kd.R_drewN|apply Kd.R_drew));exact HO243.out) hb);have n2_:=aM (below_step (by repeat (first|(with_reducible first|exact HB.out|apply bA|apply bN|apply bD)|exact HB.out)) hb);clear HO239;clear HO243;clear HB;have HO239:=n0_;have HO243:=n1_;have HB:=n2_;clear n0_ n1_ n2_;(try clear hb);(try clear hb2);(try clear hk);(try clear hi)))
    go_meet
    case rel => exact ⟨_,(true),(by first|rfl|(simp;done)|(simp [*];done)),H',⟨by first|omega|exact Nat.le_refl _⟩,⟨by (with_reducible repeat (first|apply Kd.R_alloc|apply Kd.R_drewN|apply Kd.R_drew));exact Kd.R_mono HO239.out (fun _ hk => hk.2)⟩,⟨by (with_reducible repeat (first|apply Kd.R_alloc|apply Kd.R_drewN|apply Kd.R_drew));exact Kd.R_mono HO243.out (fun _ hk => hk.2)⟩,⟨by repeat (first|(with_reducible first|exact HB.out|apply bA|apply bN|apply bD)|exact HB.out)⟩⟩
  case rest =>
   clear HC5
   try clear c1
   try clear c2
   try clear c2b0
   try clear c2b1
   try clear p2
   try clear c4
   try clear c9
   try clear c12
   try clear c14
   try clear c15
   obtain ⟨kq,x32_4,rfl,HA,HJ4,HO_3,HO_5,HB⟩:=hcut
   cases kq with
   | zero => exact absurd HA.out (by simp [laws_FnExactChainRead.j0])
   | succ kj4 =>
    have H:=HA.out
    clear HA
    simp only [laws_FnExactChainRead.j0] at H
    by_cases c16 : x32_4 = true
    ·subst c16
     have H1 : (some false) = some r:=by rw [if_pos rfl] at H;exact H
     clear H
     have H:=H1
     clear H1
     obtain rfl:=Option.some.inj H
     go_wp2
     go_ret
     exact ⟨by first|rfl|(simp only [i64_w,i32_w];done)|(simp only [i64_w,i32_w];rfl)|(simp [errW_none,errW_some] <;> rfl)|(simp [*,errW_none,errW_some] <;> rfl),by repeat (first|(with_reducible first|exact HB.out|apply bA|apply bN|apply bD)|exact HB.out)⟩
    ·replace c16:=Bool.eq_false_iff.mpr c16
     subst c16
     have H1 : ((laws_markItemS.f kj4 t240 1).bind fun bt245 => ((laws_heldItemS.f kj4 bt245.2 1).bind fun t247 => (if t247 < 0 then (some false) else (if t247 = bt245.1 then ((impl_ChainRead.f kj4 a0).bind fun bt248 => ((laws_eqItemS.f kj4 bt248.1 t236).bind fun t252 => (if t252 = true then (laws_FnExactChainRead.j1 kj4 bt245.2 bt245.1 (bt248.2 != t237)) else (laws_FnExactChainRead.j1 kj4 bt245.2 bt245.1 true)))) else (some false))))) = some r:=by rw [if_neg (show ¬ (false = true) by decide)] at H;exact H
     clear H
     have H:=H1
     clear H1
     replace H:=Option.bind_eq_some_iff.mp H
     obtain ⟨⟨t245,t246⟩,A170,H⟩:=H
     replace H : ((laws_heldItemS.f kj4 t246 1).bind fun t247 => (if t247 < 0 then (some false) else (if t247 = t245 then ((impl_ChainRead.f kj4 a0).bind fun bt248 => ((laws_eqItemS.f kj4 bt248.1 t236).bind fun t252 => (if t252 = true then (laws_FnExactChainRead.j1 kj4 t246 t245 (bt248.2 != t237)) else (laws_FnExactChainRead.j1 kj4 t246 t245 true)))) else (some false)))) = some r:=H
     have A17:=aM A170
     clear A170
     replace H:=Option.bind_eq_some_iff.mp H
     obtain ⟨t247,A180,H⟩:=H
     replace H : (if t247 < 0 then (some false) else (if t247 = t245 then ((impl_ChainRead.f kj4 a0).bind fun bt248 => ((laws_eqItemS.f kj4 bt248.1 t236).bind fun t252 => (if t252 = true then (laws_FnExactChainRead.j1 kj4 t246 t245 (bt248.2 != t237)) else (laws_FnExactChainRead.j1 kj4 t246 t245 true)))) else (some false))) = some r:=H
     have A18:=aM A180
     clear A180
     by_cases c19 : t247 < 0
     ·rw [if_pos c19] at H
      have c19b0 : decide (t247 < 0) = true:=decide_eq_true c19
      clear c19
      obtain rfl:=Option.some.inj H
      obtain ⟨Ao20,co20,eo20⟩:=Kd.R_slice HO_5.out
      subst eo20
      go_wp2_with (first|((with_reducible refine gate_callee (f:=16) rfl ?_);refine goesL_ (some 35) rfl rfl Tryd.func16 (by kernel_rfl) rfl #[.slice Ao20 t240.length co20,.int .i64 1] rfl (by (try simp only [List.map_toArray,List.map_cons,List.map_nil]);first|done|rfl|(simp only [List.length_drop,List.length_take];rfl)) ?_;(with_reducible refine (laws_markItemS.calls kj4 (fun k_ => some k_ = (.slice Ao20 t240.length co20 : Value).ownBlock) (.slice Ao20 t240.length co20) t240 1 t245 t246 w _ ?side1 ?side2 A17.out).mono ?_);(case side1 => repeat (first|(with_reducible first|exact HB.out|apply bA|apply bN|apply bD)|exact HB.out));(case side2 => exact Kd.R_tight rfl HO_5.out);rintro e w21 ⟨rfl,hy0,hb,hkp⟩;refine ⟨_,rfl,?_⟩;have n0_:=aM (Kd.R_mono (ok':=fun k_ => some k_ ≠ (.slice Ao20 t240.length co20 : Value).ownBlock) (Kd.R_keptB (HO_3.out) hkp (fun k_ hk_ hs_ => (hk_) hs_)) (fun k_ hk_ => hk_.1));have n1_:=aM (Kd.R_reok rfl hy0 (fun k_ e_ => Kd.R_own1 HO_5.out k_ e_));have n2_:=aM (hb);clear HO_3;clear HO_5;clear HB;have HO_3:=n0_;have HO_5:=n1_;have HB:=n2_;clear n0_ n1_ n2_;(try clear hb);(try clear hkp);(try clear hy0))|((with_reducible refine gate_callee (f:=17) rfl ?_);refine goesL_ (some 38) rfl rfl Tryd.func17 (by kernel_rfl) rfl #[.slice Ao20 t246.length co20,.int .i64 1] rfl (by (try simp only [List.map_toArray,List.map_cons,List.map_nil]);first|done|(rw [show t246.length = t240.length from (Kd.R_reads' HO_5.out).1.symm] <;> rfl)|rfl|(simp only [List.length_drop,List.length_take];rfl)) ?_;(with_reducible refine (laws_heldItemS.calls kj4 _ _ t246 1 t247 _ ?side1 ?side2 A18.out).mono ?_);(case side1 => repeat (first|exact (Kd.R_reads' HO_5.out).2.2|(with_reducible refine Kd.C_alloc ?_ _)|(with_reducible refine Kd.C_drewN ?_ _)|(with_reducible refine Kd.C_drew ?_)));(case side2 => rw [show t246.length = t240.length from (Kd.R_reads' HO_5.out).1.symm];exact (Kd.R_reads' HO_5.out).2.1);rintro e w' ⟨rfl,⟨nd,rfl⟩⟩;refine ⟨_,rfl,?_⟩))
      go_ret
      exact ⟨by first|rfl|(simp only [i64_w,i32_w];done)|(simp only [i64_w,i32_w];rfl)|(simp [errW_none,errW_some] <;> rfl)|(simp [*,errW_none,errW_some] <;> rfl),by repeat (first|(with_reducible first|exact HB.out|apply bA|apply bN|apply bD)|exact HB.out)⟩
     ·rw [if_neg c19] at H
      have c19b0 : decide (t247 < 0) = false:=decide_eq_false c19
      clear c19
      by_cases c22 : t247 = t245
      ·rw [if_pos c22] at H
       have c22b0 : (t247 == t245) = true:=beq_iff_eq.mpr c22
       have c22b1 : (t247 != t245) = false:=bne_eq_false_iff_eq.mpr c22
       clear c22
       replace H:=Option.bind_eq_some_iff.mp H
       obtain ⟨⟨t248,t249⟩,A230,H⟩:=H
       replace H : ((laws_eqItemS.f kj4 t248 t236).bind fun t252 => (if t252 = true then (laws_FnExactChainRead.j1 kj4 t246 t245 (t249 != t237)) else (laws_FnExactChainRead.j1 kj4 t246 t245 true))) = some r:=H
       have A23:=aM A230
       clear A230
       have HC24:=aM H
       clear H
       obtain ⟨Ao25,co25,eo25⟩:=Kd.R_slice HO_5.out
       subst eo25
       go_upto_region 16 with (first|((with_reducible refine gate_callee (f:=16) rfl ?_);refine goesL_ (some 35) rfl rfl Tryd.func16 (by kernel_rfl) rfl #[.slice Ao25 t240.length co25,.int .i64 1] rfl (by (try simp only [List.map_toArray,List.map_cons,List.map_nil]);first|done|rfl|(simp only [List.length_drop,List.length_take];rfl)) ?_;(with_reducible refine (laws_markItemS.calls kj4 (fun k_ => some k_ = (.slice Ao25 t240.length co25 : Value).ownBlock) (.slice Ao25 t240.length co25) t240 1 t245 t246 w _ ?side1 ?side2 A17.out).mono ?_);(case side1 => repeat (first|(with_reducible first|exact HB.out|apply bA|apply bN|apply bD)|exact HB.out));(case side2 => exact Kd.R_tight rfl HO_5.out);rintro e w26 ⟨rfl,hy0,hb,hkp⟩;refine ⟨_,rfl,?_⟩;have n0_:=aM (Kd.R_mono (ok':=fun k_ => some k_ ≠ (.slice Ao25 t240.length co25 : Value).ownBlock) (Kd.R_keptB (HO_3.out) hkp (fun k_ hk_ hs_ => (hk_) hs_)) (fun k_ hk_ => hk_.1));have n1_:=aM (Kd.R_reok rfl hy0 (fun k_ e_ => Kd.R_own1 HO_5.out k_ e_));have n2_:=aM (hb);clear HO_3;clear HO_5;clear HB;have HO_3:=n0_;have HO_5:=n1_;have HB:=n2_;clear n0_ n1_ n2_;(try clear hb);(try clear hkp);(try clear hy0))|((with_reducible refine gate_callee (f:=17) rfl ?_);refine goesL_ (some 38) rfl rfl Tryd.func17 (by kernel_rfl) rfl #[.slice Ao25 t246.length co25,.int .i64 1] rfl (by (try simp only [List.map_toArray,List.map_cons,List.map_nil]);first|done|(rw [show t246.length = t240.length from (Kd.R_reads' HO_5.out).1.symm] <;> rfl)|rfl|(simp only [List.length_drop,List.length_take];rfl)) ?_;(with_reducible refine (laws_heldItemS.calls kj4 _ _ t246 1 t247 _ ?side1 ?side2 A18.out).mono ?_);(case side1 => repeat (first|exact (Kd.R_reads' HO_5.out).2.2|(with_reducible refine Kd.C_alloc ?_ _)|(with_reducible refine Kd.C_drewN ?_ _)|(with_reducible refine Kd.C_drew ?_)));(case side2 => rw [show t246.length = t240.length from (Kd.R_reads' HO_5.out).1.symm];exact (Kd.R_reads' HO_5.out).2.1);rintro e w' ⟨rfl,⟨nd,rfl⟩⟩;refine ⟨_,rfl,?_⟩)|((with_reducible refine gate_callee (f:=12) rfl ?_);refine goesL_ (some 46) rfl rfl Tryd.func12 (by kernel_rfl) rfl #[.string a0] rfl (by (try simp only [List.map_toArray,List.map_cons,List.map_nil]);first|done|rfl|(simp only [List.length_drop,List.length_take];rfl)) ?_;(with_reducible refine (impl_ChainRead.calls kj4 a0 t248 t249 _ A23.out).mono ?_);rintro e w27 ⟨v250,rfl,ho0,hb⟩;refine ⟨_,rfl,?_⟩;have n0_:=aM (Kd.R_elder' (by (with_reducible repeat (first|apply Kd.R_alloc|apply Kd.R_drewN|apply Kd.R_drew));exact HO_3.out) (Kd.R_base ho0) hb);have n1_:=aM (Kd.R_elder' (by (with_reducible repeat (first|apply Kd.R_alloc|apply Kd.R_drewN|apply Kd.R_drew));exact HO_5.out) (Kd.R_base ho0) hb);have n2_:=aM (Kd.R_lower (Kd.R_new' (Kd.R_new' ho0 (Kd.R_lt (by (with_reducible repeat (first|apply Kd.R_alloc|apply Kd.R_drewN|apply Kd.R_drew));exact HO_3.out))) (Kd.R_lt (by (with_reducible repeat (first|apply Kd.R_alloc|apply Kd.R_drewN|apply Kd.R_drew));exact HO_5.out))) (below_size (by repeat (first|(with_reducible first|exact HB.out|apply bA|apply bN|apply bD)|exact HB.out))));have n3_:=aM (below_step (by repeat (first|(with_reducible first|exact HB.out|apply bA|apply bN|apply bD)|exact HB.out)) hb);clear HO_3;clear HO_5;clear HB;have HO_3:=n0_;have HO_5:=n1_;have HO251:=n2_;have HB:=n3_;clear n0_ n1_ n2_ n3_;(try clear hb);(try clear hb2);(try clear hk);(try clear hi);(try clear ho0)))
       (try simp only [Act.put,sI,sZ,sS])
       go_cut [57] (fun v57 wc => ∃ (kq : Nat) (x57_23 : Bool),v57 = .bool x57_23 ∧ Aside0 (laws_FnExactChainRead.j1 kq t246 t245 x57_23 = some r) ∧ Aside0 (kq ≤ kj4) ∧ Aside0 (Kd.R k48 48 wc w.heap.size (fun _ => True) (.slice Ao25 t240.length co25) t246) ∧ Aside0 (Below w.heap.size w wc))
       case first =>
        have H:=HC24.out
        clear HC24
        replace H:=Option.bind_eq_some_iff.mp H
        obtain ⟨t252,A280,H⟩:=H
        replace H : (if t252 = true then (laws_FnExactChainRead.j1 kj4 t246 t245 (t249 != t237)) else (laws_FnExactChainRead.j1 kj4 t246 t245 true)) = some r:=H
        have A28:=aM A280
        clear A280
        by_cases c29 : t252 = true
        ·subst c29
         have H1 : (laws_FnExactChainRead.j1 kj4 t246 t245 (t249 != t237)) = some r:=by rw [if_pos rfl] at H;exact H
         clear H
         have H:=H1
         clear H1
         have H':=aM H
         clear H
         obtain ⟨Ao30,co30,eo30⟩:=Kd.R_slice HO251.out
         subst eo30
         obtain ⟨Ao31,co31,eo31⟩:=Kd.R_slice HO_3.out
         subst eo31
         go_wp2_with (first|((with_reducible refine gate_callee (f:=15) rfl ?_);refine goesL_ (some 51) rfl rfl Tryd.func15 (by kernel_rfl) rfl #[.slice Ao30 t248.length co30,.slice Ao31 t236.length co31] rfl (by (try simp only [List.map_toArray,List.map_cons,List.map_nil]);first|done|rfl|(simp only [List.length_drop,List.length_take];rfl)) ?_;(with_reducible refine (laws_eqItemS.calls kj4 _ _ t248 _ _ t236 true _ ?side1 ?side2 ?side3 ?side4 A28.out).mono ?_);(case side1 => repeat (first|exact (Kd.R_reads' HO251.out).2.2|(with_reducible refine Kd.C_alloc ?_ _)|(with_reducible refine Kd.C_drewN ?_ _)|(with_reducible refine Kd.C_drew ?_)));(case side2 => exact (Kd.R_reads' HO251.out).2.1);(case side3 => repeat (first|exact (Kd.R_reads' HO_3.out).2.2|(with_reducible refine Kd.C_alloc ?_ _)|(with_reducible refine Kd.C_drewN ?_ _)|(with_reducible refine Kd.C_drew ?_)));(case side4 => exact (Kd.R_reads' HO_3.out).2.1);rintro e w32 ⟨rfl,hb⟩;refine ⟨_,rfl,?_⟩;have n0_:=aM (Kd.R_below (by (with_reducible repeat (first|apply Kd.R_alloc|apply Kd.R_drewN|apply Kd.R_drew));exact HO_3.out) hb);have n1_:=aM (Kd.R_below (by (with_reducible repeat (first|apply Kd.R_alloc|apply Kd.R_drewN|apply Kd.R_drew));exact HO_5.out) hb);have n2_:=aM (Kd.R_below (by (with_reducible repeat (first|apply Kd.R_alloc|apply Kd.R_drewN|apply Kd.R_drew));exact HO251.out) hb);have n3_:=aM (below_step (by repeat (first|(with_reducible first|exact HB.out|apply bA|apply bN|apply bD)|exact HB.out)) hb);clear HO_3;clear HO_5;clear HO251;clear HB;have HO_3:=n0_;have HO_5:=n1_;have HO251:=n2_;have HB:=n3_;clear n0_ n1_ n2_ n3_;(try clear hb);(try clear hb2);(try clear hk);(try clear hi)))
         go_meet
         case rel => exact ⟨_,((t249 != t237)),(by first|rfl|(simp;done)|(simp [*];done)),H',⟨by have:=HJ4.out;first|omega|exact Nat.le_refl _⟩,⟨by (with_reducible repeat (first|apply Kd.R_alloc|apply Kd.R_drewN|apply Kd.R_drew));exact Kd.R_mono HO_5.out (fun _ hk => trivial)⟩,⟨by repeat (first|(with_reducible first|exact HB.out|apply bA|apply bN|apply bD)|exact HB.out)⟩⟩
        ·replace c29:=Bool.eq_false_iff.mpr c29
         subst c29
         have H1 : (laws_FnExactChainRead.j1 kj4 t246 t245 true) = some r:=by rw [if_neg (show ¬ (false = true) by decide)] at H;exact H
         clear H
         have H:=H1
         clear H1
         have H':=aM H
         clear H
         obtain ⟨Ao33,co33,eo33⟩:=Kd.R_slice HO251.out
         subst eo33
         obtain ⟨Ao34,co34,eo34⟩:=Kd.R_slice HO_3.out
         subst eo34
         go_wp2_with (first|((with_reducible refine gate_callee (f:=15) rfl ?_);refine goesL_ (some 51) rfl rfl Tryd.func15 (by kernel_rfl) rfl #[.slice Ao33 t248.length co33,.slice Ao34 t236.length co34] rfl (by (try simp only [List.map_toArray,List.map_cons,List.map_nil]);first|done|rfl|(simp only [List.length_drop,List.length_take];rfl)) ?_;(with_reducible refine (laws_eqItemS.calls kj4 _ _ t248 _ _ t236 false _ ?side1 ?side2 ?side3 ?side4 A28.out).mono ?_);(case side1 => repeat (first|exact (Kd.R_reads' HO251.out).2.2|(with_reducible refine Kd.C_alloc ?_ _)|(with_reducible refine Kd.C_drewN ?_ _)|(with_reducible refine Kd.C_drew ?_)));(case side2 => exact (Kd.R_reads' HO251.out).2.1);(case side3 => repeat (first|exact (Kd.R_reads' HO_3.out).2.2|(with_reducible refine Kd.C_alloc ?_ _)|(with_reducible refine Kd.C_drewN ?_ _)|(with_reducible refine Kd.C_drew ?_)));(case side4 => exact (Kd.R_reads' HO_3.out).2.1);rintro e w35 ⟨rfl,hb⟩;refine ⟨_,rfl,?_⟩;have n0_:=aM (Kd.R_below (by (with_reducible repeat (first|apply Kd.R_alloc|apply Kd.R_drewN|apply Kd.R_drew));exact HO_3.out) hb);have n1_:=aM (Kd.R_below (by (with_reducible repeat (first|apply Kd.R_alloc|apply Kd.R_drewN|apply Kd.R_drew));exact HO_5.out) hb);have n2_:=aM (Kd.R_below (by (with_reducible repeat (first|apply Kd.R_alloc|apply Kd.R_drewN|apply Kd.R_drew));exact HO251.out) hb);have n3_:=aM (below_step (by repeat (first|(with_reducible first|exact HB.out|apply bA|apply bN|apply bD)|exact HB.out)) hb);clear HO_3;clear HO_5;clear HO251;clear HB;have HO_3:=n0_;have HO_5:=n1_;have HO251:=n2_;have HB:=n3_;clear n0_ n1_ n2_ n3_;(try clear hb);(try clear hb2);(try clear hk);(try clear hi)))
         go_meet
         case rel => exact ⟨_,(true),(by first|rfl|(simp;done)|(simp [*];done)),H',⟨by have:=HJ4.out;first|omega|exact Nat.le_refl _⟩,⟨by (with_reducible repeat (first|apply Kd.R_alloc|apply Kd.R_drewN|apply Kd.R_drew));exact Kd.R_mono HO_5.out (fun _ hk => trivial)⟩,⟨by repeat (first|(with_reducible first|exact HB.out|apply bA|apply bN|apply bD)|exact HB.out)⟩⟩
       case rest =>
        clear HC24
        try clear c1
        try clear c2
        try clear c2b0
        try clear c2b1
        try clear p2
        try clear c4
        try clear c9
        try clear c12
        try clear c14
        try clear c15
        try clear c16
        try clear c17
        try clear c19
        try clear c19b0
        try clear c22
        try clear c22b0
        try clear c22b1
        try clear c29
        try clear p2
        obtain ⟨kq,x57_23,rfl,HA,HJ23,HO_5,HB⟩:=hcut
        have hl5_23:=(Kd.R_reads' HO_5.out).1
        rw [hl5_23] at HO_5
        (try simp only [hl5_23])
        cases kq with
        | zero => exact absurd HA.out (by simp [laws_FnExactChainRead.j1])
        | succ kj23 =>
         have H:=HA.out
         clear HA
         simp only [laws_FnExactChainRead.j1] at H
         by_cases c36 : x57_23 = true
         ·subst c36
          have H1 : (some false) = some r:=by rw [if_pos rfl] at H;exact H
          clear H
          have H:=H1
          clear H1
          obtain rfl:=Option.some.inj H
          go_wp2
          go_ret
          exact ⟨by first|rfl|(simp only [i64_w,i32_w];done)|(simp only [i64_w,i32_w];rfl)|(simp [errW_none,errW_some] <;> rfl)|(simp [*,errW_none,errW_some] <;> rfl),by repeat (first|(with_reducible first|exact HB.out|apply bA|apply bN|apply bD)|exact HB.out)⟩
         ·replace c36:=Bool.eq_false_iff.mpr c36
          subst c36
          have H1 : ((laws_heldItemS.f kj23 t246 1).bind fun t253 => (if t253 < 0 then (some false) else (if t253 = t245 then (some true) else (some false)))) = some r:=by rw [if_neg (show ¬ (false = true) by decide)] at H;exact H
          clear H
          have H:=H1
          clear H1
          replace H:=Option.bind_eq_some_iff.mp H
          obtain ⟨t253,A370,H⟩:=H
          replace H : (if t253 < 0 then (some false) else (if t253 = t245 then (some true) else (some false))) = some r:=H
          have A37:=aM A370
          clear A370
          by_cases c38 : t253 < 0
          ·rw [if_pos c38] at H
           have c38b0 : decide (t253 < 0) = true:=decide_eq_true c38
           clear c38
           obtain rfl:=Option.some.inj H
           go_wp2_with (first|((with_reducible refine gate_callee (f:=17) rfl ?_);refine goesL_ (some 60) rfl rfl Tryd.func17 (by kernel_rfl) rfl #[.slice Ao25 t246.length co25,.int .i64 1] rfl (by (try simp only [List.map_toArray,List.map_cons,List.map_nil]);first|done|rfl|(simp only [List.length_drop,List.length_take];rfl)) ?_;(with_reducible refine (laws_heldItemS.calls kj23 _ _ t246 1 t253 _ ?side1 ?side2 A37.out).mono ?_);(case side1 => repeat (first|exact (Kd.R_reads' HO_5.out).2.2|(with_reducible refine Kd.C_alloc ?_ _)|(with_reducible refine Kd.C_drewN ?_ _)|(with_reducible refine Kd.C_drew ?_)));(case side2 => exact (Kd.R_reads' HO_5.out).2.1);rintro e w' ⟨rfl,⟨nd,rfl⟩⟩;refine ⟨_,rfl,?_⟩))
           go_ret
           exact ⟨by first|rfl|(simp only [i64_w,i32_w];done)|(simp only [i64_w,i32_w];rfl)|(simp [errW_none,errW_some] <;> rfl)|(simp [*,errW_none,errW_some] <;> rfl),by repeat (first|(with_reducible first|exact HB.out|apply bA|apply bN|apply bD)|exact HB.out)⟩
          ·rw [if_neg c38] at H
           have c38b0 : decide (t253 < 0) = false:=decide_eq_false c38
           clear c38
           by_cases c39 : t253 = t245
           ·rw [if_pos c39] at H
            have c39b0 : (t253 == t245) = true:=beq_iff_eq.mpr c39
            have c39b1 : (t253 != t245) = false:=bne_eq_false_iff_eq.mpr c39
            clear c39
            obtain rfl:=Option.some.inj H
            go_wp2_with (first|((with_reducible refine gate_callee (f:=17) rfl ?_);refine goesL_ (some 60) rfl rfl Tryd.func17 (by kernel_rfl) rfl #[.slice Ao25 t246.length co25,.int .i64 1] rfl (by (try simp only [List.map_toArray,List.map_cons,List.map_nil]);first|done|rfl|(simp only [List.length_drop,List.length_take];rfl)) ?_;(with_reducible refine (laws_heldItemS.calls kj23 _ _ t246 1 t253 _ ?side1 ?side2 A37.out).mono ?_);(case side1 => repeat (first|exact (Kd.R_reads' HO_5.out).2.2|(with_reducible refine Kd.C_alloc ?_ _)|(with_reducible refine Kd.C_drewN ?_ _)|(with_reducible refine Kd.C_drew ?_)));(case side2 => exact (Kd.R_reads' HO_5.out).2.1);rintro e w' ⟨rfl,⟨nd,rfl⟩⟩;refine ⟨_,rfl,?_⟩))
            go_ret
            exact ⟨by first|rfl|(simp only [i64_w,i32_w];done)|(simp only [i64_w,i32_w];rfl)|(simp [errW_none,errW_some] <;> rfl)|(simp [*,errW_none,errW_some] <;> rfl),by repeat (first|(with_reducible first|exact HB.out|apply bA|apply bN|apply bD)|exact HB.out)⟩
           ·rw [if_neg c39] at H
            have c39b0 : (t253 == t245) = false:=beq_eq_false_iff_ne.mpr c39
            have c39b1 : (t253 != t245) = true:=bne_iff_ne.mpr c39
            obtain rfl:=Option.some.inj H
            go_wp2_with (first|((with_reducible refine gate_callee (f:=17) rfl ?_);refine goesL_ (some 60) rfl rfl Tryd.func17 (by kernel_rfl) rfl #[.slice Ao25 t246.length co25,.int .i64 1] rfl (by (try simp only [List.map_toArray,List.map_cons,List.map_nil]);first|done|rfl|(simp only [List.length_drop,List.length_take];rfl)) ?_;(with_reducible refine (laws_heldItemS.calls kj23 _ _ t246 1 t253 _ ?side1 ?side2 A37.out).mono ?_);(case side1 => repeat (first|exact (Kd.R_reads' HO_5.out).2.2|(with_reducible refine Kd.C_alloc ?_ _)|(with_reducible refine Kd.C_drewN ?_ _)|(with_reducible refine Kd.C_drew ?_)));(case side2 => exact (Kd.R_reads' HO_5.out).2.1);rintro e w' ⟨rfl,⟨nd,rfl⟩⟩;refine ⟨_,rfl,?_⟩))
            go_ret
            exact ⟨by first|rfl|(simp only [i64_w,i32_w];done)|(simp only [i64_w,i32_w];rfl)|(simp [errW_none,errW_some] <;> rfl)|(simp [*,errW_none,errW_some] <;> rfl),by repeat (first|(with_reducible first|exact HB.out|apply bA|apply bN|apply bD)|exact HB.out)⟩
      ·rw [if_neg c22] at H
       have c22b0 : (t247 == t245) = false:=beq_eq_false_iff_ne.mpr c22
       have c22b1 : (t247 != t245) = true:=bne_iff_ne.mpr c22
       obtain rfl:=Option.some.inj H
       obtain ⟨Ao40,co40,eo40⟩:=Kd.R_slice HO_5.out
       subst eo40
       go_wp2_with (first|((with_reducible refine gate_callee (f:=16) rfl ?_);refine goesL_ (some 35) rfl rfl Tryd.func16 (by kernel_rfl) rfl #[.slice Ao40 t240.length co40,.int .i64 1] rfl (by (try simp only [List.map_toArray,List.map_cons,List.map_nil]);first|done|rfl|(simp only [List.length_drop,List.length_take];rfl)) ?_;(with_reducible refine (laws_markItemS.calls kj4 (fun k_ => some k_ = (.slice Ao40 t240.length co40 : Value).ownBlock) (.slice Ao40 t240.length co40) t240 1 t245 t246 w _ ?side1 ?side2 A17.out).mono ?_);(case side1 => repeat (first|(with_reducible first|exact HB.out|apply bA|apply bN|apply bD)|exact HB.out));(case side2 => exact Kd.R_tight rfl HO_5.out);rintro e w41 ⟨rfl,hy0,hb,hkp⟩;refine ⟨_,rfl,?_⟩;have n0_:=aM (Kd.R_mono (ok':=fun k_ => some k_ ≠ (.slice Ao40 t240.length co40 : Value).ownBlock) (Kd.R_keptB (HO_3.out) hkp (fun k_ hk_ hs_ => (hk_) hs_)) (fun k_ hk_ => hk_.1));have n1_:=aM (Kd.R_reok rfl hy0 (fun k_ e_ => Kd.R_own1 HO_5.out k_ e_));have n2_:=aM (hb);clear HO_3;clear HO_5;clear HB;have HO_3:=n0_;have HO_5:=n1_;have HB:=n2_;clear n0_ n1_ n2_;(try clear hb);(try clear hkp);(try clear hy0))|((with_reducible refine gate_callee (f:=17) rfl ?_);refine goesL_ (some 38) rfl rfl Tryd.func17 (by kernel_rfl) rfl #[.slice Ao40 t246.length co40,.int .i64 1] rfl (by (try simp only [List.map_toArray,List.map_cons,List.map_nil]);first|done|(rw [show t246.length = t240.length from (Kd.R_reads' HO_5.out).1.symm] <;> rfl)|rfl|(simp only [List.length_drop,List.length_take];rfl)) ?_;(with_reducible refine (laws_heldItemS.calls kj4 _ _ t246 1 t247 _ ?side1 ?side2 A18.out).mono ?_);(case side1 => repeat (first|exact (Kd.R_reads' HO_5.out).2.2|(with_reducible refine Kd.C_alloc ?_ _)|(with_reducible refine Kd.C_drewN ?_ _)|(with_reducible refine Kd.C_drew ?_)));(case side2 => rw [show t246.length = t240.length from (Kd.R_reads' HO_5.out).1.symm];exact (Kd.R_reads' HO_5.out).2.1);rintro e w' ⟨rfl,⟨nd,rfl⟩⟩;refine ⟨_,rfl,?_⟩))
       go_ret
       exact ⟨by first|rfl|(simp only [i64_w,i32_w];done)|(simp only [i64_w,i32_w];rfl)|(simp [errW_none,errW_some] <;> rfl)|(simp [*,errW_none,errW_some] <;> rfl),by repeat (first|(with_reducible first|exact HB.out|apply bA|apply bN|apply bD)|exact HB.out)⟩

end Go.Proofs.YthjpkfcejdddkaaDoor.PX
