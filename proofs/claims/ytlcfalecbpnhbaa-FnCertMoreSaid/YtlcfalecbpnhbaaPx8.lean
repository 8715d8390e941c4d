/- The printed functions: what each Go function computes, as a Lean function, and that the Go code comes to just that. Conditions: none beyond each contract's own. -/
import Derived.Test.YtlcfalecbpnhbaaPx0
import Derived.Test.YtlcfalecbpnhbaaPx1
namespace Go.Proofs.Ytlcfalecbpnhbaa.P
open Go.RowKit Go.Proofs.YtlcfalecbpnhbaaW.PrintWords Go.Proofs.YtlcfalecbpnhbaaW.PrintLast Go.Proofs.YtlcfalecbpnhbaaW.PrintMore
attribute [local go_sem] max2_int min2_int max_two min_two max_three min_three max_four min_four   -- for this text's walks alone
set_option linter.unusedVariables false
set_option linter.unusedSimpArgs false

attribute [local go_sem high] eqA40
/-- A state of type 76 at block g of W; what its slices lead to came in by w0. -/
def IsS76 (w0 W : World) (g : Nat) (f0 : List Int) (f1 : Int) : Prop:=∃ A0 c0,W.heap[g]? = some (.cells #[.slice A0 f0.length c0,.int .i64 f1] 76 (0,0)) ∧ w0.heap.size ≤ g ∧ Kd.C (Kd.int .u8) w0 A0 f0.length f0
theorem IsS76.grown {w0 W : World} {g : Nat} {f0 : List Int} {f1 : Int} {W1 : World} {row : Option Nat} (h : IsS76 w0 W g f0 f1) (hw : W.grownBy W1 row) (hne : some g ≠ row) : IsS76 w0 W1 g f0 f1:=by
 obtain ⟨A0,c0,hb,hg,hr0⟩:=h
 exact ⟨A0,c0,blk_grown hb hw hne,hg,hr0⟩
theorem IsS76.own_neN {w0 W : World} {g : Nat} {f0 : List Int} {f1 : Int} {α : Type} {d : Kd α} {e : Nat} {base : Nat} {ok : Nat → Prop} {v : Value} {xs : List α} (h : IsS76 w0 W g f0 f1) (ho : Kd.N d e W base ok v xs) (ht : e ≠ 76) : some g ≠ v.ownBlock:=by
 obtain ⟨A0,c0,hb,hg,hr0⟩:=h
 exact Kd.N_ne ho hb ht
theorem IsS76.fresh {w0 W : World} {g : Nat} {f0 : List Int} {f1 : Int} (h : IsS76 w0 W g f0 f1) : ∀ k,W.heap.size ≤ k → k ≠ g:=by
 obtain ⟨A0,c0,hb,hg,hr0⟩:=h
 exact Kd.freshB hb
theorem IsS76.kept {w0 W : World} {g : Nat} {f0 : List Int} {f1 : Int} {W1 : World} {S : Nat → Prop} (h : IsS76 w0 W g f0 f1) (hk : Kept W W1 S) (hne : ¬ S g) : IsS76 w0 W1 g f0 f1:=by
 obtain ⟨A0,c0,hb,hg,hr0⟩:=h
 exact ⟨A0,c0,blk_kept hb hk hne,hg,hr0⟩
theorem IsS76.below {w0 W : World} {g : Nat} {f0 : List Int} {f1 : Int} {W1 : World} (h : IsS76 w0 W g f0 f1) (hw : Below W.heap.size W W1) : IsS76 w0 W1 g f0 f1:=h.grown (grown_of_below hw none) Q51
theorem IsS76.alloc {w0 W : World} {g : Nat} {f0 : List Int} {f1 : Int} (h : IsS76 w0 W g f0 f1) (o : Obj) : IsS76 w0 (W.alloc o) g f0 f1:=h.below (bA (Below.refl _ _) o)
theorem IsS76.drewN {w0 W : World} {g : Nat} {f0 : List Int} {f1 : Int} (h : IsS76 w0 W g f0 f1) (m : Nat) : IsS76 w0 (W.drewN m) g f0 f1:=h
theorem IsS76.drew {w0 W : World} {g : Nat} {f0 : List Int} {f1 : Int} (h : IsS76 w0 W g f0 f1) : IsS76 w0 W.drew g f0 f1:=h
theorem IsS76.at_ {w0 W : World} {g : Nat} {f0 : List Int} {f1 : Int} {w' : World} {m : Nat} (hq : W.drewN m = w') (h : IsS76 w0 W g f0 f1) : IsS76 w0 w' g f0 f1:=by subst hq;exact IsS76.drewN h m
theorem IsS76.apart {w0 W : World} {g : Nat} {f0 : List Int} {f1 : Int} {α : Type} {d : Kd α} {e : Nat} {base : Nat} {ok : Nat → Prop} {v : Value} {xs : List α} (h : IsS76 w0 W g f0 f1) (ho : d.R e W base ok v xs) (ht : ∀ q,q ∈ e :: d.E → q ≠ 76) : d.R e W base (fun k => ok k ∧ k ≠ g) v xs:=by
 obtain ⟨A0,c0,hb,hg,hr0⟩:=h
 exact Kd.R_types ho hb ht
theorem IsS76.own_ne {w0 W : World} {g : Nat} {f0 : List Int} {f1 : Int} {α : Type} {d : Kd α} {e : Nat} {base : Nat} {ok : Nat → Prop} {v : Value} {xs : List α} (h : IsS76 w0 W g f0 f1) (ho : d.R e W base ok v xs) (ht : e ≠ 76) : some g ≠ v.ownBlock:=by
 obtain ⟨A0,c0,hb,hg,hr0⟩:=h
 exact Kd.R_ne ho hb ht
theorem IsS76.apartQ {w0 W : World} {g : Nat} {f0 : List Int} {f1 : Int} {α : Type} {d : Kd α} {e : Nat} {base : Nat} {ok : Nat → Prop} {v : Value} {xs : List α} (h : IsS76 w0 W g f0 f1) (ho : d.Q e W base ok v xs) (ht : ∀ q,q ∈ e :: d.E → q ≠ 76) : d.Q e W base (fun k => ok k ∧ k ≠ g) v xs:=by
 obtain ⟨A0,c0,hb,hg,hr0⟩:=h
 exact Kd.Q_types ho hb ht
theorem IsS76.own_neQ {w0 W : World} {g : Nat} {f0 : List Int} {f1 : Int} {α : Type} {d : Kd α} {e : Nat} {base : Nat} {ok : Nat → Prop} {v : Value} {xs : List α} (h : IsS76 w0 W g f0 f1) (ho : d.Q e W base ok v xs) (ht : e ≠ 76) : some g ≠ v.ownBlock:=by
 obtain ⟨A0,c0,hb,hg,hr0⟩:=h
 exact Kd.Q_ne ho hb ht
theorem IsS76.lt {w0 W : World} {g : Nat} {f0 : List Int} {f1 : Int} (h : IsS76 w0 W g f0 f1) : g < W.heap.size:=by
 obtain ⟨A0,c0,hb,hg,hr0⟩:=h
 exact blk_lt hb
theorem IsS76.ge {w0 W : World} {g : Nat} {f0 : List Int} {f1 : Int} (h : IsS76 w0 W g f0 f1) : w0.heap.size ≤ g:=by
 obtain ⟨A0,c0,hb,hg,hr0⟩:=h
 exact hg
theorem IsS76.ne_blk {w0 W : World} {g : Nat} {f0 : List Int} {f1 : Int} {a : Nat} {cs : Array Value} {t : TypeId} {fr : Nat × Nat} (h : IsS76 w0 W g f0 f1) (hb2 : W.heap[a]? = some (.cells cs t fr)) (ht : t ≠ 76) : g ≠ a:=by
 obtain ⟨A0,c0,hb,hg,hr0⟩:=h
 rintro rfl
 rw [hb] at hb2
 injection hb2 with hb2
 injection hb2 with _ ht2
 exact ht ht2.symm
theorem IsS76.far {w0 W : World} {g : Nat} {f0 : List Int} {f1 : Int} {p : Addr} (h : IsS76 w0 W g f0 f1) (hne : g ≠ p.block) (u : Value) : IsS76 w0 (W.setCell p u) g f0 f1:=by
 obtain ⟨A0,c0,hb,hg,hr0⟩:=h
 exact ⟨A0,c0,blk_far hb hne u,hg,hr0⟩
theorem cellS76_0 {W : World} {g : Nat} {A0 : Option Addr} {c0 : Nat} {f0 : List Int} {f1 : Int} (h : W.heap[g]? = some (.cells #[.slice A0 f0.length c0,.int .i64 f1] 76 (0,0))) : W.cell? ⟨g,0,none⟩ = some (.slice A0 f0.length c0):=(blk_cell h 0).trans rfl
theorem cellS76_1 {W : World} {g : Nat} {A0 : Option Addr} {c0 : Nat} {f0 : List Int} {f1 : Int} (h : W.heap[g]? = some (.cells #[.slice A0 f0.length c0,.int .i64 f1] 76 (0,0))) : W.cell? ⟨g,1,none⟩ = some (.int .i64 f1):=(blk_cell h 1).trans rfl
theorem IsS76.set_1 {w0 W : World} {g : Nat} {f0 : List Int} {f1 : Int} (h : IsS76 w0 W g f0 f1) (x : Int) : IsS76 w0 (W.setCell ⟨g,1,none⟩ (.int .i64 x)) g f0 x:=by
 obtain ⟨A0,c0,hb,hg,hr0⟩:=h
 exact ⟨A0,c0,by simpa using blk_set hb 1 (.int .i64 x),hg,hr0⟩
theorem IsS76.new (w0 W : World) (A0 : Option Addr) (c0 : Nat) (f0 : List Int) (f1 : Int) (hB : Below w0.heap.size w0 W) (hr0 : Kd.C (Kd.int .u8) w0 A0 f0.length f0) : IsS76 w0 (W.alloc (.cells #[.slice A0 f0.length c0,.int .i64 f1] 76)) W.heap.size f0 f1:=⟨A0,c0,by simpa using heap_alloc_new W _,hB.size,hr0⟩

/-! ### spec_l6Rd_pick: function 40 -/
def spec_l6Rd_pick.j0 : Nat → Int → Bool → List Int → Int → Option (Int × Int)
 | 0,_,_,_,_ => none
 | k + 1,x1,x24,x1000,x1001 => if x24 = true then (some (0,x1001)) else (if (wrap64 (x1001 - 1)) < (x1000.length : Int) then (if 0 ≤ (wrap64 (x1001 - 1)) then (if x1 = 0 then (none) else (some (Int.tmod (wrap64 (rd x1000 (wrap64 (x1001 - 1)))) x1,x1001))) else (none)) else (if (x1000.length : Int) = 0 then (none) else (if 0 ≤ (Int.tmod (wrap64 (x1001 - 1)) (x1000.length : Int)) then (if (Int.tmod (wrap64 (x1001 - 1)) (x1000.length : Int)) < (x1000.length : Int) then (if 0 ≤ (Int.tmod (wrap64 ((wrap64 ((wrap64 (x1001 - 1)) * 7)) + 3)) (x1000.length : Int)) then (if (Int.tmod (wrap64 ((wrap64 ((wrap64 (x1001 - 1)) * 7)) + 3)) (x1000.length : Int)) < (x1000.length : Int) then (if x1 = 0 then (none) else (some (Int.tmod (Go.bits .xor .i64 (wrap64 ((wrap64 ((wrap64 ((wrap64 ((wrap64 (rd x1000 (Int.tmod (wrap64 (x1001 - 1)) (x1000.length : Int)))) * 131)) + (wrap64 ((wrap64 (rd x1000 (Int.tmod (wrap64 ((wrap64 ((wrap64 (x1001 - 1)) * 7)) + 3)) (x1000.length : Int)))) * 1117)))) + (wrap64 ((wrap64 (x1001 - 1)) * 29)))) + (wrap64 ((wrap64 (Int.tdiv (wrap64 (x1001 - 1)) (x1000.length : Int))) * 53)))) (wrap64 (Int.tdiv (wrap64 ((wrap64 ((wrap64 ((wrap64 ((wrap64 (rd x1000 (Int.tmod (wrap64 (x1001 - 1)) (x1000.length : Int)))) * 131)) + (wrap64 ((wrap64 (rd x1000 (Int.tmod (wrap64 ((wrap64 ((wrap64 (x1001 - 1)) * 7)) + 3)) (x1000.length : Int)))) * 1117)))) + (wrap64 ((wrap64 (x1001 - 1)) * 29)))) + (wrap64 ((wrap64 (Int.tdiv (wrap64 (x1001 - 1)) (x1000.length : Int))) * 53)))) 64))) x1,x1001))) else (none)) else (none)) else (none)) else (none))))
def spec_l6Rd_pick.f (k : Nat) (s0_0 : List Int) (s0_1 : Int) (a1 : Int) : Option (Int × Int):=if a1 < 1 then (spec_l6Rd_pick.j0 k a1 true s0_0 (wrap64 (s0_1 + 1))) else (spec_l6Rd_pick.j0 k a1 ((s0_0.length : Int) == 0) s0_0 (wrap64 (s0_1 + 1)))
theorem spec_l6Rd_pick.mono_l : ∀ k,(∀ y0 y1 y2 y3,LeO (spec_l6Rd_pick.j0 k y0 y1 y2 y3) (spec_l6Rd_pick.j0 (k + 1) y0 y1 y2 y3))
 | 0 => fun _ _ _ _ r h => by simp [spec_l6Rd_pick.j0] at h
 | k + 1 => by
  have ih0:=spec_l6Rd_pick.mono_l k
  ·intro y0 y1 y2 y3
   unfold spec_l6Rd_pick.j0
   repeat' first
   | exact LeO.refl _
   | exact ih0 _ _ _ _
   | exact LeO.none _
   | refine LeO.ite ?_ ?_
   | refine LeO.bind ?_ (fun _ => ?_)
theorem spec_l6Rd_pick.mono : ∀ a0 a1 a2 k,LeO (spec_l6Rd_pick.f k a0 a1 a2) (spec_l6Rd_pick.f (k + 1) a0 a1 a2):=by
 intro a0 a1 a2 k
 have ih0:=spec_l6Rd_pick.mono_l k
 unfold spec_l6Rd_pick.f
 repeat' first
   | exact LeO.refl _
   | exact ih0 _ _ _ _
   | exact LeO.none _
   | refine LeO.ite ?_ ?_
   | refine LeO.bind ?_ (fun _ => ?_)
set_option maxHeartbeats 8000000 in
set_option maxRecDepth 100000 in
theorem spec_l6Rd_pick.calls (k : Nat) (g : Nat) (s0_0 : List Int) (s0_1 : Int) (a1 : Int) (r1 : Int) (r2 : Int) (w0 w : World) (hI : IsS76 w0 w g s0_0 s0_1) (hB : Below w0.heap.size w0 w) (h : spec_l6Rd_pick.f k s0_0 s0_1 a1 = some (r1,r2)) :
  Calls Try.prog 40 #[.pointer (some ⟨g,0,none⟩),.int .i64 a1] w fun e w' => e = .returned (.int .i64 r1) ∧ IsS76 w0 w' g s0_0 r2 ∧ Below w0.heap.size w0 w' ∧ KeepBut w w' g none:=by
 have HI0:=aM hI
 have HK:=aM (KeepBut.refl w g none)
 have HL:=aM hB.size
 clear hI
 have HW0:=aM hB.size
 have HB:=aM hB
 clear hB
 have H : (if a1 < 1 then (spec_l6Rd_pick.j0 k a1 true s0_0 (wrap64 (s0_1 + 1))) else (spec_l6Rd_pick.j0 k a1 ((s0_0.length : Int) == 0) s0_0 (wrap64 (s0_1 + 1)))) = some (r1,r2):=h
 clear h
 have HC3:=aM H
 clear H
 obtain ⟨ASz4_0,cSz4_0,HGz4,hgz4,HSz4_0⟩:=HI0.out
 have hcz4_0:=cellS76_0 HGz4
 have hcz4_1:=cellS76_1 HGz4
 have hfz4_1:=blk_frozen HGz4 1
 clear HGz4 hgz4
 go_enter Try.func40,Try.ntmps40
 go_upto_region 2 with (fail)
 repeat (go_quiet (fail);go_upto_region 2 with (fail))
 go_cut [24] (fun v24 wc => ∃ (kq : Nat) (x24_2 : Bool),v24 = .bool x24_2 ∧ Aside0 (spec_l6Rd_pick.j0 kq a1 x24_2 s0_0 (wrap64 (s0_1 + 1)) = some (r1,r2)) ∧ Aside0 (kq ≤ k) ∧ Aside0 (IsS76 w0 wc g s0_0 (wrap64 (s0_1 + 1))) ∧ Aside0 (KeepBut w wc g none) ∧ Aside0 (Below w0.heap.size w0 wc))
 case first =>
  have H:=HC3.out
  clear HC3
  by_cases c5 : a1 < 1
  ·rw [if_pos c5] at H
   have c5b0 : decide (a1 < 1) = true:=decide_eq_true c5
   clear c5
   (first|rw [c5b0]|rw [c5b1]|(simp only [i64_w,i32_w];rw [c5b0])|skip)
   have H':=aM H
   clear H
   go_wp2
   repeat (go_quiet (fail);try go_wp2)
   go_meet
   case rel => exact ⟨_,(true),Q11,H',⟨Q115⟩,⟨Q0⟩,⟨Q2⟩,⟨Q4⟩⟩
  ·rw [if_neg c5] at H
   have c5b0 : decide (a1 < 1) = false:=decide_eq_false c5
   clear c5
   (first|rw [c5b0]|rw [c5b1]|(simp only [i64_w,i32_w];rw [c5b0])|skip)
   have H':=aM H
   clear H
   obtain ⟨ASz6_0,cSz6_0,HGz6,hgz6,HSz6_0⟩:=HI0.out
   have hcz6_0:=cellS76_0 HGz6
   have hcz6_1:=cellS76_1 HGz6
   have hfz6_1:=blk_frozen HGz6 1
   clear HGz6 hgz6
   go_wp2
   repeat (go_quiet (fail);try go_wp2)
   go_meet
   case rel => exact ⟨_,(((s0_0.length : Int) == 0)),Q11,H',⟨Q115⟩,⟨Q0⟩,⟨Q2⟩,⟨Q4⟩⟩
 case rest =>
  clear HC3
  try clear p2
  try clear c4
  try clear c5
  try clear c5b0
  try clear c5b1
  try clear p6
  try clear hcz4_0
  try clear hcz4_1
  try clear hcz6_0
  try clear hcz6_1
  try clear hfz4_1
  try clear hfz6_1
  obtain ⟨kq,x24_2,rfl,HA,HJ2,HI0,HK,HB⟩:=hcut
  cases kq with
  | zero => exact absurd HA.out (by simp [spec_l6Rd_pick.j0])
  | succ kj2 =>
   have H:=HA.out
   clear HA
   simp only [spec_l6Rd_pick.j0] at H
   by_cases c7 : x24_2 = true
   ·subst c7
    have H1 : (some (0,(wrap64 (s0_1 + 1)))) = some (r1,r2):=by rw [if_pos rfl] at H;exact H
    clear H
    have H:=H1
    clear H1
    simp only [Option.some.injEq,Prod.mk.injEq] at H
    obtain ⟨rfl,rfl⟩:=H
    go_wp2
    repeat (go_quiet (fail);try go_wp2)
    go_ret
    exact ⟨Q6,Q0,Q4,Q2⟩
   ·replace c7:=Bool.eq_false_iff.mpr c7
    subst c7
    have H1 : (if (wrap64 ((wrap64 (s0_1 + 1)) - 1)) < (s0_0.length : Int) then (if 0 ≤ (wrap64 ((wrap64 (s0_1 + 1)) - 1)) then (if a1 = 0 then (none) else (some (Int.tmod (wrap64 (rd s0_0 (wrap64 ((wrap64 (s0_1 + 1)) - 1)))) a1,(wrap64 (s0_1 + 1))))) else (none)) else (if (s0_0.length : Int) = 0 then (none) else (if 0 ≤ (Int.tmod (wrap64 ((wrap64 (s0_1 + 1)) - 1)) (s0_0.length : Int)) then (if (Int.tmod (wrap64 ((wrap64 (s0_1 + 1)) - 1)) (s0_0.length : Int)) < (s0_0.length : Int) then (if 0 ≤ (Int.tmod (wrap64 ((wrap64 ((wrap64 ((wrap64 (s0_1 + 1)) - 1)) * 7)) + 3)) (s0_0.length : Int)) then (if (Int.tmod (wrap64 ((wrap64 ((wrap64 ((wrap64 (s0_1 + 1)) - 1)) * 7)) + 3)) (s0_0.length : Int)) < (s0_0.length : Int) then (if a1 = 0 then (none) else (some (Int.tmod (Go.bits .xor .i64 (wrap64 ((wrap64 ((wrap64 ((wrap64 ((wrap64 (rd s0_0 (Int.tmod (wrap64 ((wrap64 (s0_1 + 1)) - 1)) (s0_0.length : Int)))) * 131)) + (wrap64 ((wrap64 (rd s0_0 (Int.tmod (wrap64 ((wrap64 ((wrap64 ((wrap64 (s0_1 + 1)) - 1)) * 7)) + 3)) (s0_0.length : Int)))) * 1117)))) + (wrap64 ((wrap64 ((wrap64 (s0_1 + 1)) - 1)) * 29)))) + (wrap64 ((wrap64 (Int.tdiv (wrap64 ((wrap64 (s0_1 + 1)) - 1)) (s0_0.length : Int))) * 53)))) (wrap64 (Int.tdiv (wrap64 ((wrap64 ((wrap64 ((wrap64 ((wrap64 (rd s0_0 (Int.tmod (wrap64 ((wrap64 (s0_1 + 1)) - 1)) (s0_0.length : Int)))) * 131)) + (wrap64 ((wrap64 (rd s0_0 (Int.tmod (wrap64 ((wrap64 ((wrap64 ((wrap64 (s0_1 + 1)) - 1)) * 7)) + 3)) (s0_0.length : Int)))) * 1117)))) + (wrap64 ((wrap64 ((wrap64 (s0_1 + 1)) - 1)) * 29)))) + (wrap64 ((wrap64 (Int.tdiv (wrap64 ((wrap64 (s0_1 + 1)) - 1)) (s0_0.length : Int))) * 53)))) 64))) a1,(wrap64 (s0_1 + 1))))) else (none)) else (none)) else (none)) else (none)))) = some (r1,r2):=by rw [if_neg (show ¬ (false = true) by decide)] at H;exact H
    clear H
    have H:=H1
    clear H1
    by_cases c8 : (wrap64 ((wrap64 (s0_1 + 1)) - 1)) < (s0_0.length : Int)
    ·rw [if_pos c8] at H
     have c8b0 : decide ((wrap64 ((wrap64 (s0_1 + 1)) - 1)) < (s0_0.length : Int)) = true:=decide_eq_true c8
     clear c8
     obtain ⟨ji9,hji9⟩ : ∃ j_ : Int,(wrap64 ((wrap64 (s0_1 + 1)) - 1)) = j_:=⟨_,rfl⟩
     replace H : (if 0 ≤ (ji9) then (if a1 = 0 then (none) else (some (Int.tmod (wrap64 (rd s0_0 (ji9))) a1,(wrap64 (s0_1 + 1))))) else (none)) = some (r1,r2):=by first|(rw [hji9] at H;exact H)|(simp only [hji9] at H ⊢;exact H)
     (try rw [hji9] at c8b0)
     have hji9w : (IntKind.i64.wrap ((wrap64 (s0_1 + 1)) - 1)) = ji9:=(i64_w _).trans hji9
     by_cases c10 : 0 ≤ (ji9)
     case neg => rw [if_neg c10] at H;exact absurd H Q51
     rw [if_pos c10] at H
     have c10b0 : decide (0 ≤ (ji9)) = true:=decide_eq_true c10
     clear c10
     by_cases c11 : a1 = 0
     ·rw [if_pos c11] at H
      exact absurd H Q51
     ·rw [if_neg c11] at H
      have c11b0 : (a1 == 0) = false:=beq_eq_false_iff_ne.mpr c11
      have c11b1 : (a1 != 0) = true:=bne_iff_ne.mpr c11
      simp only [Option.some.injEq,Prod.mk.injEq] at H
      obtain ⟨rfl,rfl⟩:=H
      obtain ⟨ASz12_0,cSz12_0,HGz12,hgz12,HSz12_0⟩:=HI0.out
      have hcz12_0:=cellS76_0 HGz12
      have hcz12_1:=cellS76_1 HGz12
      have hfz12_1:=blk_frozen HGz12 1
      clear HGz12 hgz12
      have p145 : 0 ≤ ((ji9) : Int):=of_decide_eq_true Q5
      have q145 : (ji9) < (s0_0.length : Int):=of_decide_eq_true Q5
      obtain ⟨ad145,e145,hx145_0⟩:=Kd.at_int HSz12_0 (ji9) p145 q145
      cases e145
      replace hx145_0:=pw_cell_below HB.out hx145_0
      replace p145:=eq_true p145
      replace q145:=eq_true q145
      go_wp2
      repeat (go_quiet (fail);try go_wp2)
      go_ret
      exact ⟨Q109,Q0,Q4,Q2⟩
    ·rw [if_neg c8] at H
     have c8b0 : decide ((wrap64 ((wrap64 (s0_1 + 1)) - 1)) < (s0_0.length : Int)) = false:=decide_eq_false c8
     clear c8
     by_cases c13 : (s0_0.length : Int) = 0
     ·rw [if_pos c13] at H
      exact absurd H Q51
     ·rw [if_neg c13] at H
      have c13b0 : ((s0_0.length : Int) == 0) = false:=beq_eq_false_iff_ne.mpr c13
      have c13b1 : ((s0_0.length : Int) != 0) = true:=bne_iff_ne.mpr c13
      have c13b2 : ¬ (s0_0 = []):=fun h_ => c13 (by rw [h_];rfl)
      obtain ⟨ji14,hji14⟩ : ∃ j_ : Int,(Int.tmod (wrap64 ((wrap64 (s0_1 + 1)) - 1)) (s0_0.length : Int)) = j_:=⟨_,rfl⟩
      replace H : (if 0 ≤ (ji14) then (if (ji14) < (s0_0.length : Int) then (if 0 ≤ (Int.tmod (wrap64 ((wrap64 ((wrap64 ((wrap64 (s0_1 + 1)) - 1)) * 7)) + 3)) (s0_0.length : Int)) then (if (Int.tmod (wrap64 ((wrap64 ((wrap64 ((wrap64 (s0_1 + 1)) - 1)) * 7)) + 3)) (s0_0.length : Int)) < (s0_0.length : Int) then (if a1 = 0 then (none) else (some (Int.tmod (Go.bits .xor .i64 (wrap64 ((wrap64 ((wrap64 ((wrap64 ((wrap64 (rd s0_0 (ji14))) * 131)) + (wrap64 ((wrap64 (rd s0_0 (Int.tmod (wrap64 ((wrap64 ((wrap64 ((wrap64 (s0_1 + 1)) - 1)) * 7)) + 3)) (s0_0.length : Int)))) * 1117)))) + (wrap64 ((wrap64 ((wrap64 (s0_1 + 1)) - 1)) * 29)))) + (wrap64 ((wrap64 (Int.tdiv (wrap64 ((wrap64 (s0_1 + 1)) - 1)) (s0_0.length : Int))) * 53)))) (wrap64 (Int.tdiv (wrap64 ((wrap64 ((wrap64 ((wrap64 ((wrap64 (rd s0_0 (ji14))) * 131)) + (wrap64 ((wrap64 (rd s0_0 (Int.tmod (wrap64 ((wrap64 ((wrap64 ((wrap64 (s0_1 + 1)) - 1)) * 7)) + 3)) (s0_0.length : Int)))) * 1117)))) + (wrap64 ((wrap64 ((wrap64 (s0_1 + 1)) - 1)) * 29)))) + (wrap64 ((wrap64 (Int.tdiv (wrap64 ((wrap64 (s0_1 + 1)) - 1)) (s0_0.length : Int))) * 53)))) 64))) a1,(wrap64 (s0_1 + 1))))) else (none)) else (none)) else (none)) else (none)) = some (r1,r2):=by first|(rw [hji14] at H;exact H)|(simp only [hji14] at H ⊢;exact H)
      by_cases c15 : 0 ≤ (ji14)
      case neg => rw [if_neg c15] at H;exact absurd H Q51
      rw [if_pos c15] at H
      have c15b0 : decide (0 ≤ (ji14)) = true:=decide_eq_true c15
      clear c15
      by_cases c16 : (ji14) < (s0_0.length : Int)
      case neg => rw [if_neg c16] at H;exact absurd H Q51
      rw [if_pos c16] at H
      have c16b0 : decide ((ji14) < (s0_0.length : Int)) = true:=decide_eq_true c16
      clear c16
      obtain ⟨ji17,hji17⟩ : ∃ j_ : Int,(Int.tmod (wrap64 ((wrap64 ((wrap64 ((wrap64 (s0_1 + 1)) - 1)) * 7)) + 3)) (s0_0.length : Int)) = j_:=⟨_,rfl⟩
      replace H : (if 0 ≤ (ji17) then (if (ji17) < (s0_0.length : Int) then (if a1 = 0 then (none) else (some (Int.tmod (Go.bits .xor .i64 (wrap64 ((wrap64 ((wrap64 ((wrap64 ((wrap64 (rd s0_0 (ji14))) * 131)) + (wrap64 ((wrap64 (rd s0_0 (ji17))) * 1117)))) + (wrap64 ((wrap64 ((wrap64 (s0_1 + 1)) - 1)) * 29)))) + (wrap64 ((wrap64 (Int.tdiv (wrap64 ((wrap64 (s0_1 + 1)) - 1)) (s0_0.length : Int))) * 53)))) (wrap64 (Int.tdiv (wrap64 ((wrap64 ((wrap64 ((wrap64 ((wrap64 (rd s0_0 (ji14))) * 131)) + (wrap64 ((wrap64 (rd s0_0 (ji17))) * 1117)))) + (wrap64 ((wrap64 ((wrap64 (s0_1 + 1)) - 1)) * 29)))) + (wrap64 ((wrap64 (Int.tdiv (wrap64 ((wrap64 (s0_1 + 1)) - 1)) (s0_0.length : Int))) * 53)))) 64))) a1,(wrap64 (s0_1 + 1))))) else (none)) else (none)) = some (r1,r2):=by first|(rw [hji17] at H;exact H)|(simp only [hji17] at H ⊢;exact H)
      by_cases c18 : 0 ≤ (ji17)
      case neg => rw [if_neg c18] at H;exact absurd H Q51
      rw [if_pos c18] at H
      have c18b0 : decide (0 ≤ (ji17)) = true:=decide_eq_true c18
      clear c18
      by_cases c19 : (ji17) < (s0_0.length : Int)
      case neg => rw [if_neg c19] at H;exact absurd H Q51
      rw [if_pos c19] at H
      have c19b0 : decide ((ji17) < (s0_0.length : Int)) = true:=decide_eq_true c19
      clear c19
      by_cases c20 : a1 = 0
      ·rw [if_pos c20] at H
       exact absurd H Q51
      ·rw [if_neg c20] at H
       have c20b0 : (a1 == 0) = false:=beq_eq_false_iff_ne.mpr c20
       have c20b1 : (a1 != 0) = true:=bne_iff_ne.mpr c20
       simp only [Option.some.injEq,Prod.mk.injEq] at H
       obtain ⟨rfl,rfl⟩:=H
       obtain ⟨ASz21_0,cSz21_0,HGz21,hgz21,HSz21_0⟩:=HI0.out
       have hcz21_0:=cellS76_0 HGz21
       have hcz21_1:=cellS76_1 HGz21
       have hfz21_1:=blk_frozen HGz21 1
       clear HGz21 hgz21
       have p146 : 0 ≤ ((ji14) : Int):=of_decide_eq_true Q5
       have q146 : (ji14) < (s0_0.length : Int):=of_decide_eq_true Q5
       obtain ⟨ad146,e146,hx146_0⟩:=Kd.at_int HSz21_0 (ji14) p146 q146
       cases e146
       replace hx146_0:=pw_cell_below HB.out hx146_0
       replace p146:=eq_true p146
       replace q146:=eq_true q146
       have p147 : 0 ≤ ((ji17) : Int):=of_decide_eq_true Q5
       have q147 : (ji17) < (s0_0.length : Int):=of_decide_eq_true Q5
       obtain ⟨ad147,e147,hx147_0⟩:=Kd.at_int HSz21_0 (ji17) p147 q147
       obtain rfl : ad146 = ad147:=(by injection e147)
       replace hx147_0:=pw_cell_below HB.out hx147_0
       replace p147:=eq_true p147
       replace q147:=eq_true q147
       go_wp2
       repeat (go_quiet (fail);try go_wp2)
       go_ret
       exact ⟨by first|rfl|(simp only [i64_w,i32_w];done)|(simp only [i64_w,i32_w];rfl)|(simp [errW_none,errW_some] <;> rfl)|(simp only [← hji14,← hji17];first|rfl|(simp [errW_none,errW_some] <;> rfl))|(simp [*,errW_none,errW_some] <;> rfl),Q0,Q4,Q2⟩

/-! ### spec_l71Pay: function 49 -/
def spec_l71Pay.f (k : Nat) (s0_0 : List Int) (s0_1 : Int) : Option (Int × Int × Int × Int):=(spec_l6Rd_pick.f k s0_0 s0_1 3).bind fun bt149 => ((spec_l6Rd_pick.f k s0_0 bt149.2 2).bind fun bt151 => ((spec_l6Rd_pick.f k s0_0 bt151.2 9).bind fun bt153 => (some (wrap64 (1 + bt149.1),wrap64 ((Int.tmod (wrap64 ((wrap64 (1 + bt149.1)) + bt151.1)) 3) + 1),wrap64 (1 + bt153.1),bt153.2))))
theorem spec_l71Pay.mono : ∀ a0 a1 k,LeO (spec_l71Pay.f k a0 a1) (spec_l71Pay.f (k + 1) a0 a1):=by
 intro a0 a1 k
 unfold spec_l71Pay.f
 repeat' first
   | exact LeO.refl _
   | exact spec_l6Rd_pick.mono _ _ _ _
   | exact LeO.none _
   | refine LeO.ite ?_ ?_
   | refine LeO.bind ?_ (fun _ => ?_)
set_option maxHeartbeats 8000000 in
set_option maxRecDepth 100000 in
theorem spec_l71Pay.calls (k : Nat) (g : Nat) (s0_0 : List Int) (s0_1 : Int) (r1 : Int) (r2 : Int) (r3 : Int) (r4 : Int) (w0 w : World) (hI : IsS76 w0 w g s0_0 s0_1) (hB : Below w0.heap.size w0 w) (h : spec_l71Pay.f k s0_0 s0_1 = some (r1,r2,r3,r4)) :
  Calls Try.prog 49 #[.pointer (some ⟨g,0,none⟩)] w fun e w' => e = .returned (.agg #[.int .i64 r1,.int .i64 r2,.int .i64 r3]) ∧ IsS76 w0 w' g s0_0 r4 ∧ Below w0.heap.size w0 w' ∧ KeepBut w w' g none:=by
 have hu38:=Try.underlying38
 have HI0:=aM hI
 have HK:=aM (KeepBut.refl w g none)
 have HL:=aM hB.size
 clear hI
 have HW0:=aM hB.size
 have HB:=aM hB
 clear hB
 have H : ((spec_l6Rd_pick.f k s0_0 s0_1 3).bind fun bt149 => ((spec_l6Rd_pick.f k s0_0 bt149.2 2).bind fun bt151 => ((spec_l6Rd_pick.f k s0_0 bt151.2 9).bind fun bt153 => (some (wrap64 (1 + bt149.1),wrap64 ((Int.tmod (wrap64 ((wrap64 (1 + bt149.1)) + bt151.1)) 3) + 1),wrap64 (1 + bt153.1),bt153.2))))) = some (r1,r2,r3,r4):=h
 clear h
 replace H:=Option.bind_eq_some_iff.mp H
 obtain ⟨⟨t149,t150⟩,A20,H⟩:=H
 replace H : ((spec_l6Rd_pick.f k s0_0 t150 2).bind fun bt151 => ((spec_l6Rd_pick.f k s0_0 bt151.2 9).bind fun bt153 => (some (wrap64 (1 + t149),wrap64 ((Int.tmod (wrap64 ((wrap64 (1 + t149)) + bt151.1)) 3) + 1),wrap64 (1 + bt153.1),bt153.2)))) = some (r1,r2,r3,r4):=H
 have A2:=aM A20
 clear A20
 replace H:=Option.bind_eq_some_iff.mp H
 obtain ⟨⟨t151,t152⟩,A30,H⟩:=H
 replace H : ((spec_l6Rd_pick.f k s0_0 t152 9).bind fun bt153 => (some (wrap64 (1 + t149),wrap64 ((Int.tmod (wrap64 ((wrap64 (1 + t149)) + t151)) 3) + 1),wrap64 (1 + bt153.1),bt153.2))) = some (r1,r2,r3,r4):=H
 have A3:=aM A30
 clear A30
 replace H:=Option.bind_eq_some_iff.mp H
 obtain ⟨⟨t153,t154⟩,A40,H⟩:=H
 replace H : (some (wrap64 (1 + t149),wrap64 ((Int.tmod (wrap64 ((wrap64 (1 + t149)) + t151)) 3) + 1),wrap64 (1 + t153),t154)) = some (r1,r2,r3,r4):=H
 have A4:=aM A40
 clear A40
 simp only [Option.some.injEq,Prod.mk.injEq] at H
 obtain ⟨rfl,rfl,rfl,rfl⟩:=H
 go_enter Try.func49,Try.ntmps49
 go_wp2_with (first|((with_reducible refine gate_dst (N:=2) rfl ?_);refine box_event ?hg (N:=2) ?hd (cs:=#[.int .i64 0,.int .i64 0,.int .i64 0]) (t:=38) ?hr ?_;(case hd => rfl);(case hg => rfl);(case hr => exact Q16);intro gb148 hg w5 hbox hb;have n0_:=aM (IsS76.below Q0 hb);have n1_:=aM (KeepBut.trans Q2 (KeepBut.of_below hb g none) (.inl rfl));have n2_:=aM (below_step Q4 hb);have n3_:=aM (hbox);have n4_:=aM ((Q58 : w.heap.size ≤ gb148));have n5_:=aM ((Nat.le_trans HW0.out (Q58 : w.heap.size ≤ gb148) : w0.heap.size ≤ gb148));have n6_:=aM ((Q72 : g ≠ gb148));have n7_:=aM ((Q73 : gb148 ≠ g));clear HI0;clear HK;clear HB;have HI0:=n0_;have HK:=n1_;have HB:=n2_;have BK148:=n3_;have GW148:=n4_;have GE148:=n5_;have NB0_148:=n6_;have NB148_0:=n7_;clear n0_ n1_ n2_ n3_ n4_ n5_ n6_ n7_;clear hb hbox hg)|((with_reducible refine gate_callee (f:=40) rfl ?_);refine goesL_ (some 5) rfl rfl Try.func40 Q14 rfl #[.pointer (some ⟨g,0,none⟩),.int .i64 3] rfl Q1 ?_;(with_reducible refine (spec_l6Rd_pick.calls k g s0_0 s0_1 3 t149 t150 w0 _ ?side1 ?side2 A2.out).mono ?_);(case side1 => exact Q61);(case side2 => exact Q66);rintro e w6 ⟨rfl,hi,hb,hk⟩;refine ⟨_,rfl,?_⟩;have n0_:=aM (KeepBut.blk hk (g':=gb148) (o:=.cells #[.int .i64 0,.int .i64 0,.int .i64 0] 38 (0,0)) (qk BK148) NB148_0.out Q51);have n1_:=aM (KeepBut.trans Q64 hk (.inl rfl));have n2_:=aM (hb);have n3_:=aM (hi);clear BK148;clear HK;clear HB;clear HI0;have BK148:=n0_;have HK:=n1_;have HB:=n2_;have HI0:=n3_;clear n0_ n1_ n2_ n3_;(try clear hb);(try clear hb2);(try clear hk);(try clear hi))|((with_reducible refine gate_callee (f:=40) rfl ?_);refine goesL_ (some 10) rfl rfl Try.func40 Q14 rfl #[.pointer (some ⟨g,0,none⟩),.int .i64 2] rfl Q1 ?_;(with_reducible refine (spec_l6Rd_pick.calls k g s0_0 t150 2 t151 t152 w0 _ ?side1 ?side2 A3.out).mono ?_);(case side1 => exact Q61);(case side2 => exact Q66);rintro e w7 ⟨rfl,hi,hb,hk⟩;refine ⟨_,rfl,?_⟩;have n0_:=aM (KeepBut.blk hk (g':=gb148) (o:=.cells #[.int .i64 0,.int .i64 0,.int .i64 0] 38 (0,0)) (qk BK148) NB148_0.out Q51);have n1_:=aM (KeepBut.trans Q64 hk (.inl rfl));have n2_:=aM (hb);have n3_:=aM (hi);clear BK148;clear HK;clear HB;clear HI0;have BK148:=n0_;have HK:=n1_;have HB:=n2_;have HI0:=n3_;clear n0_ n1_ n2_ n3_;(try clear hb);(try clear hb2);(try clear hk);(try clear hi))|((with_reducible refine gate_callee (f:=40) rfl ?_);refine goesL_ (some 15) rfl rfl Try.func40 Q14 rfl #[.pointer (some ⟨g,0,none⟩),.int .i64 9] rfl Q1 ?_;(with_reducible refine (spec_l6Rd_pick.calls k g s0_0 t152 9 t153 t154 w0 _ ?side1 ?side2 A4.out).mono ?_);(case side1 => exact Q61);(case side2 => exact Q66);rintro e w8 ⟨rfl,hi,hb,hk⟩;refine ⟨_,rfl,?_⟩;have n0_:=aM (KeepBut.blk hk (g':=gb148) (o:=.cells #[.int .i64 0,.int .i64 0,.int .i64 0] 38 (0,0)) (qk BK148) NB148_0.out Q51);have n1_:=aM (KeepBut.trans Q64 hk (.inl rfl));have n2_:=aM (hb);have n3_:=aM (hi);clear BK148;clear HK;clear HB;clear HI0;have BK148:=n0_;have HK:=n1_;have HB:=n2_;have HI0:=n3_;clear n0_ n1_ n2_ n3_;(try clear hb);(try clear hb2);(try clear hk);(try clear hi);have hnb9:=NB148_0.out;have hnc9:=NB0_148.out;have hcz10_0 : w8.cell? ⟨gb148,0,none⟩ = some (.int .i64 0):=(blk_cell BK148.out 0).trans rfl;have hcz10_1 : w8.cell? ⟨gb148,1,none⟩ = some (.int .i64 0):=(blk_cell BK148.out 1).trans rfl;have hcz10_2 : w8.cell? ⟨gb148,2,none⟩ = some (.int .i64 0):=(blk_cell BK148.out 2).trans rfl;have hfz10_0:=blk_frozen BK148.out 0;have hfz10_1:=blk_frozen BK148.out 1;have hfz10_2:=blk_frozen BK148.out 2))
 refine bodyPost_ret (results_cell_row rfl _ _ gb148 38 #[.int .i64 (wrap64 (1 + t149)),.int .i64 (wrap64 ((Int.tmod (wrap64 ((wrap64 (1 + t149)) + t151)) 3) + 1)),.int .i64 (wrap64 (1 + t153))] (0,0) _ rfl (by (with_reducible repeat (first|refine blk_drewN ?_ _|refine blk_drew ?_|refine blk_alloc ?_ _));refine blk_put (cs:=#[.int .i64 (wrap64 (1 + t149)),.int .i64 (wrap64 ((Int.tmod (wrap64 ((wrap64 (1 + t149)) + t151)) 3) + 1)),.int .i64 0]) ?_ 2 _ rfl;(with_reducible repeat (first|refine blk_drewN ?_ _|refine blk_drew ?_|refine blk_alloc ?_ _));refine blk_put (cs:=#[.int .i64 (wrap64 (1 + t149)),.int .i64 0,.int .i64 0]) ?_ 1 _ rfl;(with_reducible repeat (first|refine blk_drewN ?_ _|refine blk_drew ?_|refine blk_alloc ?_ _));refine blk_put (cs:=#[.int .i64 0,.int .i64 0,.int .i64 0]) ?_ 0 _ rfl;(with_reducible repeat (first|refine blk_drewN ?_ _|refine blk_drew ?_|refine blk_alloc ?_ _));exact BK148.out) Try.underlying38 rfl Q14) rfl ?_
 exact ⟨Q6,Q61,Q66,Q64⟩

/-! ### spec_l71Chain: function 45 -/
def spec_l71Chain.l0 : Nat → List (S40) → Int → Int → List Int → Int → Option ((List (S40)) × Int)
 | 0,_,_,_,_,_ => none
 | k + 1,x3,x4,x5,x1000,x1001 => if x5 > 0 then ((spec_l6Rd_pick.f k x1000 x1001 6).bind fun bt160 => ((spec_l6Rd_pick.f k x1000 bt160.2 3).bind fun bt162 => ((spec_l71Pay.f k x1000 bt162.2).bind fun bt164 => (if x3.length < 4398046511104 then (spec_l71Chain.l0 k (x3 ++ [(⟨wrap64 ((wrap64 (x4 + 1)) + (wrap64 ((wrap64 (Int.tdiv bt160.1 5)) * bt162.1))),(⟨bt164.1,bt164.2.1,bt164.2.2.1⟩ : S38)⟩ : S40)]) (wrap64 ((wrap64 (x4 + 1)) + (wrap64 ((wrap64 (Int.tdiv bt160.1 5)) * bt162.1)))) (wrap64 (x5 - 1)) x1000 bt164.2.2.2) else (none))))) else (some (x3,x1001))
def spec_l71Chain.f (k : Nat) (s0_0 : List Int) (s0_1 : Int) : Option ((List (S40)) × Int):=(spec_l6Rd_pick.f k s0_0 s0_1 7).bind fun bt158 => (spec_l71Chain.l0 k (([] : List (S40))) 0 bt158.1 s0_0 bt158.2)
theorem spec_l71Chain.mono_l : ∀ k,(∀ y0 y1 y2 y3 y4,LeO (spec_l71Chain.l0 k y0 y1 y2 y3 y4) (spec_l71Chain.l0 (k + 1) y0 y1 y2 y3 y4))
 | 0 => fun _ _ _ _ _ r h => by simp [spec_l71Chain.l0] at h
 | k + 1 => by
  have ih0:=spec_l71Chain.mono_l k
  ·intro y0 y1 y2 y3 y4
   unfold spec_l71Chain.l0
   repeat' first
   | exact LeO.refl _
   | exact ih0 _ _ _ _ _
   | exact spec_l6Rd_pick.mono _ _ _ _
   | exact spec_l71Pay.mono _ _ _
   | exact LeO.none _
   | refine LeO.ite ?_ ?_
   | refine LeO.bind ?_ (fun _ => ?_)
theorem spec_l71Chain.mono : ∀ a0 a1 k,LeO (spec_l71Chain.f k a0 a1) (spec_l71Chain.f (k + 1) a0 a1):=by
 intro a0 a1 k
 have ih0:=spec_l71Chain.mono_l k
 unfold spec_l71Chain.f
 repeat' first
   | exact LeO.refl _
   | exact ih0 _ _ _ _ _
   | exact spec_l6Rd_pick.mono _ _ _ _
   | exact spec_l71Pay.mono _ _ _
   | exact LeO.none _
   | refine LeO.ite ?_ ?_
   | refine LeO.bind ?_ (fun _ => ?_)
set_option maxHeartbeats 8000000 in
set_option maxRecDepth 100000 in
theorem spec_l71Chain.calls (k : Nat) (g : Nat) (s0_0 : List Int) (s0_1 : Int) (r1 : List (S40)) (r2 : Int) (w0 w : World) (hI : IsS76 w0 w g s0_0 s0_1) (hB : Below w0.heap.size w0 w) (h : spec_l71Chain.f k s0_0 s0_1 = some (r1,r2)) :
  Calls Try.prog 45 #[.pointer (some ⟨g,0,none⟩)] w fun e w' => ∃ v0_ : Value,e = .returned (v0_) ∧ Kd.R k40 40 w' w.heap.size (fun _ => True) v0_ r1 ∧ IsS76 w0 w' g s0_0 r2 ∧ Below w0.heap.size w0 w' ∧ KeepBut w w' g none:=by
 have hu40:=Try.underlying40
 have HI0:=aM hI
 have HK:=aM (KeepBut.refl w g none)
 have HL:=aM hB.size
 clear hI
 have HW0:=aM hB.size
 have HB:=aM hB
 clear hB
 have H : ((spec_l6Rd_pick.f k s0_0 s0_1 7).bind fun bt158 => (spec_l71Chain.l0 k (([] : List (S40))) 0 bt158.1 s0_0 bt158.2)) = some (r1,r2):=h
 clear h
 obtain ⟨y155,hy155⟩ : ∃ y_ : List (S40),y_ = (([] : List (S40))):=⟨_,rfl⟩
 replace H : ((spec_l6Rd_pick.f k s0_0 s0_1 7).bind fun bt158 => (spec_l71Chain.l0 k y155 0 bt158.1 s0_0 bt158.2)) = some (r1,r2):=by first|(rw [hy155];with_reducible exact H)|(have H2_:=(Option.bind_some _ _).symm.trans H;rw [hy155];with_reducible exact H2_)|(have H2_:=(Option.bind_some _ _).symm.trans H;with_reducible exact H2_)|with_reducible exact H|(rw [hy155];exact H)|exact H
 have Ny155:=aM hy155
 clear hy155
 replace H:=Option.bind_eq_some_iff.mp H
 obtain ⟨⟨t158,t159⟩,A20,H⟩:=H
 replace H : (spec_l71Chain.l0 k y155 0 t158 s0_0 t159) = some (r1,r2):=H
 have A2:=aM A20
 clear A20
 have H':=aM H
 clear H
 go_enter Try.func45,Try.ntmps45
 go_wp2_with (first|((with_reducible refine gate_dst (N:=6) rfl ?_);refine Kd.R_lit k40 _ 40 ?hg (N:=6) ?hd (xs:=([] : List (S40))) (inner:=[]) (ok:=fun _ => True) (okp:=fun _ => True) ?hr ?hp (fun _ hk => hk) trivial (Below.refl _ _) (Nat.le_refl _) Q51 ?_;(case hd => rfl);(case hg => rfl);(case hr => exact Q16);(case hp => exact (Reps.none _ _));intro v156 w3 ho4 hb hg_ hnew_;clear hg_ hnew_;(first|rw [← Ny155.out] at ho4|(simp only [Int.reduceToNat] at ho4;rw [← Ny155.out] at ho4));have n0_:=aM (Kd.R_lower ho4 (keep_size (w:=w) (g:=g) (row:=none) Q2));have n1_:=aM (IsS76.below Q0 hb);have n2_:=aM (KeepBut.trans Q2 (KeepBut.of_below hb g none) (.inl rfl));have n3_:=aM (below_step Q4 hb);clear HI0;clear HK;clear HB;have HO157:=n0_;have HI0:=n1_;have HK:=n2_;have HB:=n3_;clear n0_ n1_ n2_ n3_;clear hb ho4)|((with_reducible refine gate_callee (f:=40) rfl ?_);refine goesL_ (some 8) rfl rfl Try.func40 Q14 rfl #[.pointer (some ⟨g,0,none⟩),.int .i64 7] rfl Q1 ?_;(with_reducible refine (spec_l6Rd_pick.calls k g s0_0 s0_1 7 t158 t159 w0 _ ?side1 ?side2 A2.out).mono ?_);(case side1 => exact Q0);(case side2 => exact Q4);rintro e w5 ⟨rfl,hi,hb,hk⟩;refine ⟨_,rfl,?_⟩;have n0_:=aM (Kd.R_mono (Kd.R_keep (IsS76.apart (show IsS76 w0 _ g s0_0 s0_1 from Q0) (qR HO157) Q36) hk (fun _ h => h.2)) (fun _ h => h.1));have n1_:=aM (KeepBut.trans Q2 hk (.inl rfl));have n2_:=aM (hb);have n3_:=aM (hi);clear HO157;clear HK;clear HB;clear HI0;have HO157:=n0_;have HK:=n1_;have HB:=n2_;have HI0:=n3_;clear n0_ n1_ n2_ n3_;(try clear hb);(try clear hb2);(try clear hk);(try clear hi)))
 go_loopg [3,4,5] k (fun kq v3 v4 v5 w' => ∃ (x3_1 : List (S40)) (x4_1 : Int) (x5_1 : Int) (x1001_1 : Int),v4 = .int .i64 x4_1 ∧ v5 = .int .i64 x5_1 ∧ Aside0 (spec_l71Chain.l0 kq x3_1 x4_1 x5_1 s0_0 x1001_1 = some (r1,r2)) ∧ Aside0 (kq ≤ k) ∧ Aside0 (Kd.R k40 40 w' w.heap.size (fun _ => True) v3 x3_1) ∧ Aside0 (IsS76 w0 w' g s0_0 x1001_1) ∧ Aside0 (KeepBut w w' g none) ∧ Aside0 (Below w0.heap.size w0 w'))
 case atStart => exact ⟨(y155),(0),(t158),(t159),Q11,Q11,H',⟨Nat.le_refl _⟩,⟨qR HO157⟩,⟨Q0⟩,⟨Q2⟩,⟨Q4⟩⟩
 case round =>
  clear H'
  try clear p2
  try clear c4
  obtain ⟨x3_1,x4_1,x5_1,x1001_1,rfl,rfl,HA,HK1,HO_3,HI0,HK,HB⟩:=hrel
  cases gk with
  | zero => exact absurd HA.out (by simp [spec_l71Chain.l0])
  | succ k1 =>
   have H:=HA.out
   clear HA
   simp only [spec_l71Chain.l0] at H
   by_cases c6 : x5_1 > 0
   ·rw [if_pos c6] at H
    have c6b0 : decide (0 < x5_1) = true:=decide_eq_true c6
    clear c6
    replace H:=Option.bind_eq_some_iff.mp H
    obtain ⟨⟨t160,t161⟩,A70,H⟩:=H
    replace H : ((spec_l6Rd_pick.f k1 s0_0 t161 3).bind fun bt162 => ((spec_l71Pay.f k1 s0_0 bt162.2).bind fun bt164 => (if x3_1.length < 4398046511104 then (spec_l71Chain.l0 k1 (x3_1 ++ [(⟨wrap64 ((wrap64 (x4_1 + 1)) + (wrap64 ((wrap64 (Int.tdiv t160 5)) * bt162.1))),(⟨bt164.1,bt164.2.1,bt164.2.2.1⟩ : S38)⟩ : S40)]) (wrap64 ((wrap64 (x4_1 + 1)) + (wrap64 ((wrap64 (Int.tdiv t160 5)) * bt162.1)))) (wrap64 (x5_1 - 1)) s0_0 bt164.2.2.2) else (none)))) = some (r1,r2):=H
    have A7:=aM A70
    clear A70
    replace H:=Option.bind_eq_some_iff.mp H
    obtain ⟨⟨t162,t163⟩,A80,H⟩:=H
    replace H : ((spec_l71Pay.f k1 s0_0 t163).bind fun bt164 => (if x3_1.length < 4398046511104 then (spec_l71Chain.l0 k1 (x3_1 ++ [(⟨wrap64 ((wrap64 (x4_1 + 1)) + (wrap64 ((wrap64 (Int.tdiv t160 5)) * t162))),(⟨bt164.1,bt164.2.1,bt164.2.2.1⟩ : S38)⟩ : S40)]) (wrap64 ((wrap64 (x4_1 + 1)) + (wrap64 ((wrap64 (Int.tdiv t160 5)) * t162)))) (wrap64 (x5_1 - 1)) s0_0 bt164.2.2.2) else (none))) = some (r1,r2):=H
    have A8:=aM A80
    clear A80
    replace H:=Option.bind_eq_some_iff.mp H
    obtain ⟨⟨t164,t165,t166,t167⟩,A90,H⟩:=H
    replace H : (if x3_1.length < 4398046511104 then (spec_l71Chain.l0 k1 (x3_1 ++ [(⟨wrap64 ((wrap64 (x4_1 + 1)) + (wrap64 ((wrap64 (Int.tdiv t160 5)) * t162))),(⟨t164,t165,t166⟩ : S38)⟩ : S40)]) (wrap64 ((wrap64 (x4_1 + 1)) + (wrap64 ((wrap64 (Int.tdiv t160 5)) * t162)))) (wrap64 (x5_1 - 1)) s0_0 t167) else (none)) = some (r1,r2):=H
    have A9:=aM A90
    clear A90
    by_cases c10 : x3_1.length < 4398046511104
    case neg => rw [if_neg c10] at H;exact absurd H Q51
    rw [if_pos c10] at H
    have LMc10:=aM c10
    clear c10
    obtain ⟨y168,hy168⟩ : ∃ y_ : List (S40),y_ = (x3_1 ++ [(⟨wrap64 ((wrap64 (x4_1 + 1)) + (wrap64 ((wrap64 (Int.tdiv t160 5)) * t162))),(⟨t164,t165,t166⟩ : S38)⟩ : S40)]):=⟨_,rfl⟩
    replace H : (spec_l71Chain.l0 k1 y168 (wrap64 ((wrap64 (x4_1 + 1)) + (wrap64 ((wrap64 (Int.tdiv t160 5)) * t162)))) (wrap64 (x5_1 - 1)) s0_0 t167) = some (r1,r2):=by first|(rw [hy168];with_reducible exact H)|(have H2_:=(Option.bind_some _ _).symm.trans H;rw [hy168];with_reducible exact H2_)|(have H2_:=(Option.bind_some _ _).symm.trans H;with_reducible exact H2_)|with_reducible exact H|(rw [hy168];exact H)|exact H
    have Ny168:=aM hy168
    clear hy168
    have H':=aM H
    clear H
    go_wp2_with (first|((with_reducible refine gate_callee (f:=40) rfl ?_);refine goesL_ (some 16) rfl rfl Try.func40 Q14 rfl #[.pointer (some ⟨g,0,none⟩),.int .i64 6] rfl Q1 ?_;(with_reducible refine (spec_l6Rd_pick.calls k1 g s0_0 x1001_1 6 t160 t161 w0 _ ?side1 ?side2 A7.out).mono ?_);(case side1 => exact Q0);(case side2 => exact Q4);rintro e w11 ⟨rfl,hi,hb,hk⟩;refine ⟨_,rfl,?_⟩;have n0_:=aM (Kd.R_mono (Kd.R_keep (IsS76.apart (show IsS76 w0 _ g s0_0 x1001_1 from Q0) (qR HO_3) Q36) hk (fun _ h => h.2)) (fun _ h => h.1));have n1_:=aM (KeepBut.trans Q2 hk (.inl rfl));have n2_:=aM (hb);have n3_:=aM (hi);clear HO_3;clear HK;clear HB;clear HI0;have HO_3:=n0_;have HK:=n1_;have HB:=n2_;have HI0:=n3_;clear n0_ n1_ n2_ n3_;(try clear hb);(try clear hb2);(try clear hk);(try clear hi))|((with_reducible refine gate_callee (f:=40) rfl ?_);refine goesL_ (some 19) rfl rfl Try.func40 Q14 rfl #[.pointer (some ⟨g,0,none⟩),.int .i64 3] rfl Q1 ?_;(with_reducible refine (spec_l6Rd_pick.calls k1 g s0_0 t161 3 t162 t163 w0 _ ?side1 ?side2 A8.out).mono ?_);(case side1 => exact Q0);(case side2 => exact Q4);rintro e w12 ⟨rfl,hi,hb,hk⟩;refine ⟨_,rfl,?_⟩;have n0_:=aM (Kd.R_mono (Kd.R_keep (IsS76.apart (show IsS76 w0 _ g s0_0 t161 from Q0) (qR HO_3) Q36) hk (fun _ h => h.2)) (fun _ h => h.1));have n1_:=aM (KeepBut.trans Q2 hk (.inl rfl));have n2_:=aM (hb);have n3_:=aM (hi);clear HO_3;clear HK;clear HB;clear HI0;have HO_3:=n0_;have HK:=n1_;have HB:=n2_;have HI0:=n3_;clear n0_ n1_ n2_ n3_;(try clear hb);(try clear hb2);(try clear hk);(try clear hi))|((with_reducible refine gate_callee (f:=49) rfl ?_);refine goesL_ (some 25) rfl rfl Try.func49 Q14 rfl #[.pointer (some ⟨g,0,none⟩)] rfl Q1 ?_;(with_reducible refine (spec_l71Pay.calls k1 g s0_0 t163 t164 t165 t166 t167 w0 _ ?side1 ?side2 A9.out).mono ?_);(case side1 => exact Q0);(case side2 => exact Q4);rintro e w13 ⟨rfl,hi,hb,hk⟩;refine ⟨_,rfl,?_⟩;have n0_:=aM (Kd.R_mono (Kd.R_keep (IsS76.apart (show IsS76 w0 _ g s0_0 t163 from Q0) (qR HO_3) Q36) hk (fun _ h => h.2)) (fun _ h => h.1));have n1_:=aM (KeepBut.trans Q2 hk (.inl rfl));have n2_:=aM (hb);have n3_:=aM (hi);clear HO_3;clear HK;clear HB;clear HI0;have HO_3:=n0_;have HK:=n1_;have HB:=n2_;have HI0:=n3_;clear n0_ n1_ n2_ n3_;(try clear hb);(try clear hb2);(try clear hk);(try clear hi))|((with_reducible refine gate_builtin (b:=.append) (xs:=#[.tmp 22,.tmp 27]) rfl ?_);at_builtin;refine Kd.R_append k40 w.heap.size rfl (.tmp 22) (.tmp 27) 28 40 (.agg #[(.int .i64 0),(.int .i64 0),(.int .i64 0),(.int .i64 0)]) 32 rfl Try.underlying28 info40 rfl Q36 Q17 u3 x3_1 (⟨wrap64 ((wrap64 (x4_1 + 1)) + (wrap64 ((wrap64 (Int.tdiv t160 5)) * t162))),(⟨t164,t165,t166⟩ : S38)⟩ : S40) [.int .i64 (wrap64 ((wrap64 (x4_1 + 1)) + (wrap64 ((wrap64 (Int.tdiv t160 5)) * t162)))),.int .i64 t164,.int .i64 t165,.int .i64 t166] (fun _ => True) (fun _ => False) rfl rfl ?aP (fun _ hk => hk.elim) ?aF ?aO (Below.refl _ _) ?aS ?aL ?_;(case aP => exact k40_mkM _ _ _ (⟨wrap64 ((wrap64 (x4_1 + 1)) + (wrap64 ((wrap64 (Int.tdiv t160 5)) * t162))),(⟨t164,t165,t166⟩ : S38)⟩ : S40));(case aF => exact (fun _ _ => trivial));(case aO => exact (qR HO_3));(case aS => exact (keep_size (w:=w) (g:=g) (row:=none) Q2));(case aL => have:=LMc10.out;omega);intro v169 w14 ho hb hg hat;rw [← Ny168.out] at ho;have n0_:=aM (IsS76.grown Q0 hg (IsS76.own_ne HI0.out HO_3.out Q36));have n1_:=aM (below_weaken Q4 HL.out hb);have n2_:=aM (KeepBut.trans Q2 (KeepBut.of_grown hg g) (Kd.R_base2 HO_3.out));have n3_:=aM (ho);clear HI0;clear HB;clear HK;clear HO_3;have HI0:=n0_;have HB:=n1_;have HK:=n2_;have HO170:=n3_;clear n0_ n1_ n2_ n3_;clear ho hb hg hat))
    go_roundg k1
    case measure => have:=HK1.out;omega
    case rel => exact ⟨(y168),(wrap64 ((wrap64 (x4_1 + 1)) + (wrap64 ((wrap64 (Int.tdiv t160 5)) * t162)))),(wrap64 (x5_1 - 1)),(t167),Q11,Q11,H',⟨Q60⟩,⟨qR HO170⟩,⟨Q0⟩,⟨Q2⟩,⟨Q4⟩⟩
   ·rw [if_neg c6] at H
    have c6b0 : decide (0 < x5_1) = false:=decide_eq_false c6
    clear c6
    simp only [Option.some.injEq,Prod.mk.injEq] at H
    obtain ⟨rfl,rfl⟩:=H
    go_wp2
    go_ret
    exact ⟨_,Q6,qR HO_3,Q0,Q4,Q2⟩

/-! ### spec_l1In: function 62 -/
def spec_l1In.l0 : Nat → List (S40) → List (S40) → Int → Option (Bool)
 | 0,_,_,_ => none
 | k + 1,x0,x1,x5 => if x5 < (x0.length : Int) then (if 0 ≤ x5 then (if x5 < (x1.length : Int) then (if (!(((rd_T40 x0 x5).f0) == ((rd_T40 x1 x5).f0)) || ((!(((rd_T40 x0 x5).f1.f0) == ((rd_T40 x1 x5).f1.f0)) || (!(((rd_T40 x0 x5).f1.f1) == ((rd_T40 x1 x5).f1.f1)) || (!(((rd_T40 x0 x5).f1.f2) == ((rd_T40 x1 x5).f1.f2))))))) = true then (some false) else (spec_l1In.l0 k x0 x1 (wrap64 (x5 + 1)))) else (none)) else (none)) else (some true)
def spec_l1In.f (k : Nat) (l0 : List (S40)) (l1 : List (S40)) : Option (Bool):=if (l0.length : Int) > (l1.length : Int) then (some false) else (spec_l1In.l0 k l0 l1 0)
theorem spec_l1In.mono_l : ∀ k,(∀ y0 y1 y2,LeO (spec_l1In.l0 k y0 y1 y2) (spec_l1In.l0 (k + 1) y0 y1 y2))
 | 0 => fun _ _ _ r h => by simp [spec_l1In.l0] at h
 | k + 1 => by
  have ih0:=spec_l1In.mono_l k
  ·intro y0 y1 y2
   unfold spec_l1In.l0
   repeat' first
   | exact LeO.refl _
   | exact ih0 _ _ _
   | exact LeO.none _
   | refine LeO.ite ?_ ?_
   | refine LeO.bind ?_ (fun _ => ?_)
theorem spec_l1In.mono : ∀ a0 a1 k,LeO (spec_l1In.f k a0 a1) (spec_l1In.f (k + 1) a0 a1):=by
 intro a0 a1 k
 have ih0:=spec_l1In.mono_l k
 unfold spec_l1In.f
 repeat' first
   | exact LeO.refl _
   | exact ih0 _ _ _
   | exact LeO.none _
   | refine LeO.ite ?_ ?_
   | refine LeO.bind ?_ (fun _ => ?_)
set_option maxHeartbeats 8000000 in
set_option maxRecDepth 100000 in
theorem spec_l1In.calls (k : Nat) (A0 : Option Addr) (c0 : Nat) (l0 : List (S40)) (A1 : Option Addr) (c1 : Nat) (l1 : List (S40)) (r : Bool) (w : World) (hr0 : Kd.C k40 w A0 l0.length l0) (hc0 : l0.length ≤ c0) (hr1 : Kd.C k40 w A1 l1.length l1) (hc1 : l1.length ≤ c1) (h : spec_l1In.f k l0 l1 = some r) :
  Calls Try.prog 62 #[.slice A0 l0.length c0,.slice A1 l1.length c1] w fun e w' => e = .returned (.bool r) ∧ Drawn0 w w':=by
 have hu40:=Try.underlying40
 have HR0:=aM hr0
 have HC0:=aM hc0
 clear hr0 hc0
 have HR1:=aM hr1
 have HC1:=aM hc1
 clear hr1 hc1
 have H : (if (l0.length : Int) > (l1.length : Int) then (some false) else (spec_l1In.l0 k l0 l1 0)) = some r:=h
 clear h
 by_cases c3 : (l0.length : Int) > (l1.length : Int)
 ·rw [if_pos c3] at H
  have c3b0 : decide ((l1.length : Int) < (l0.length : Int)) = true:=decide_eq_true c3
  have c3b1 : decide (l1.length < l0.length) = true:=decide_eq_true (Int.ofNat_lt.mp c3)
  clear c3
  obtain rfl:=Option.some.inj H
  go_enter Try.func62,Try.ntmps62
  go_wp2
  repeat (go_quiet (fail);try go_wp2)
  go_ret
  exact ⟨Q11,Q27⟩
 ·rw [if_neg c3] at H
  have c3b0 : decide ((l1.length : Int) < (l0.length : Int)) = false:=decide_eq_false c3
  have c3b1 : decide (l1.length < l0.length) = false:=decide_eq_false (fun h => c3 (Int.ofNat_lt.mpr h))
  clear c3
  have H':=aM H
  clear H
  go_enter Try.func62,Try.ntmps62
  go_wp2
  repeat (go_quiet (fail);try go_wp2)
  go_loopg [5] k (fun kq v5 w' => ∃ (x5_1 : Int),v5 = .int .i64 x5_1 ∧ Aside0 (spec_l1In.l0 kq l0 l1 x5_1 = some r) ∧ Aside0 (kq ≤ k) ∧ Drawn0 w w')
  case atStart => exact ⟨(0),Q11,H',⟨Nat.le_refl _⟩,Q27⟩
  case round =>
   clear H'
   try clear c1
   try clear p2
   try clear c3
   try clear c3b0
   try clear c3b1
   obtain ⟨x5_1,rfl,HA,HK1,⟨m1,rfl⟩⟩:=hrel
   cases gk with
   | zero => exact absurd HA.out (by simp [spec_l1In.l0])
   | succ k1 =>
    have H:=HA.out
    clear HA
    simp only [spec_l1In.l0] at H
    by_cases c4 : x5_1 < (l0.length : Int)
    ·rw [if_pos c4] at H
     have c4b0 : decide (x5_1 < (l0.length : Int)) = true:=decide_eq_true c4
     clear c4
     by_cases c5 : 0 ≤ x5_1
     case neg => rw [if_neg c5] at H;exact absurd H Q51
     rw [if_pos c5] at H
     have c5b0 : decide (0 ≤ x5_1) = true:=decide_eq_true c5
     clear c5
     by_cases c6 : x5_1 < (l1.length : Int)
     case neg => rw [if_neg c6] at H;exact absurd H Q51
     rw [if_pos c6] at H
     have c6b0 : decide (x5_1 < (l1.length : Int)) = true:=decide_eq_true c6
     clear c6
     by_cases c7 : (!(((rd_T40 l0 x5_1).f0) == ((rd_T40 l1 x5_1).f0)) || ((!(((rd_T40 l0 x5_1).f1.f0) == ((rd_T40 l1 x5_1).f1.f0)) || (!(((rd_T40 l0 x5_1).f1.f1) == ((rd_T40 l1 x5_1).f1.f1)) || (!(((rd_T40 l0 x5_1).f1.f2) == ((rd_T40 l1 x5_1).f1.f2))))))) = true
     ·rw [if_pos c7] at H
      have c7b0 : (!(((rd_T40 l0 x5_1).f0) == ((rd_T40 l1 x5_1).f0)) || ((!(((rd_T40 l0 x5_1).f1.f0) == ((rd_T40 l1 x5_1).f1.f0)) || (!(((rd_T40 l0 x5_1).f1.f1) == ((rd_T40 l1 x5_1).f1.f1)) || (!(((rd_T40 l0 x5_1).f1.f2) == ((rd_T40 l1 x5_1).f1.f2))))))) = true:=c7
      clear c7
      obtain rfl:=Option.some.inj H
      have p171 : 0 ≤ (x5_1 : Int):=of_decide_eq_true Q5
      have q171 : x5_1 < (l0.length : Int):=of_decide_eq_true Q5
      obtain ⟨ad171,e171,hx171_0,hx171_1,hx171_2,hx171_3⟩:=at_T40 HR0.out x5_1 p171 q171
      cases e171
      replace p171:=eq_true p171
      replace q171:=eq_true q171
      have p172 : 0 ≤ (x5_1 : Int):=of_decide_eq_true Q5
      have q172 : x5_1 < (l1.length : Int):=of_decide_eq_true Q5
      obtain ⟨ad172,e172,hx172_0,hx172_1,hx172_2,hx172_3⟩:=at_T40 HR1.out x5_1 p172 q172
      cases e172
      replace p172:=eq_true p172
      replace q172:=eq_true q172
      go_wp2
      repeat (go_quiet (fail);try go_wp2)
      go_ret
      exact ⟨Q11,Q27⟩
     ·rw [if_neg c7] at H
      have c7b0 : (!(((rd_T40 l0 x5_1).f0) == ((rd_T40 l1 x5_1).f0)) || ((!(((rd_T40 l0 x5_1).f1.f0) == ((rd_T40 l1 x5_1).f1.f0)) || (!(((rd_T40 l0 x5_1).f1.f1) == ((rd_T40 l1 x5_1).f1.f1)) || (!(((rd_T40 l0 x5_1).f1.f2) == ((rd_T40 l1 x5_1).f1.f2))))))) = false:=by simpa using c7
      clear c7
      have H':=aM H
      clear H
      have p171 : 0 ≤ (x5_1 : Int):=of_decide_eq_true Q5
      have q171 : x5_1 < (l0.length : Int):=of_decide_eq_true Q5
      obtain ⟨ad171,e171,hx171_0,hx171_1,hx171_2,hx171_3⟩:=at_T40 HR0.out x5_1 p171 q171
      cases e171
      replace p171:=eq_true p171
      replace q171:=eq_true q171
      have p172 : 0 ≤ (x5_1 : Int):=of_decide_eq_true Q5
      have q172 : x5_1 < (l1.length : Int):=of_decide_eq_true Q5
      obtain ⟨ad172,e172,hx172_0,hx172_1,hx172_2,hx172_3⟩:=at_T40 HR1.out x5_1 p172 q172
      cases e172
      replace p172:=eq_true p172
      replace q172:=eq_true q172
      go_wp2
      repeat (go_quiet (fail);try go_wp2)
      go_roundg k1
      case measure => have:=HK1.out;omega
      case rel => exact ⟨(wrap64 (x5_1 + 1)),Q11,H',⟨Q60⟩,Q27⟩
    ·rw [if_neg c4] at H
     have c4b0 : decide (x5_1 < (l0.length : Int)) = false:=decide_eq_false c4
     clear c4
     obtain rfl:=Option.some.inj H
     go_wp2
     repeat (go_quiet (fail);try go_wp2)
     go_ret
     exact ⟨Q11,Q27⟩

/-! ### spec_l3Same: function 59 -/
def spec_l3Same.f (k : Nat) (l0 : List (S40)) (l1 : List (S40)) : Option (Bool):=if (l0.length : Int) = (l1.length : Int) then ((spec_l1In.f k l0 l1).bind fun t173 => (some t173)) else (some false)
theorem spec_l3Same.mono : ∀ a0 a1 k,LeO (spec_l3Same.f k a0 a1) (spec_l3Same.f (k + 1) a0 a1):=by
 intro a0 a1 k
 unfold spec_l3Same.f
 repeat' first
   | exact LeO.refl _
   | exact spec_l1In.mono _ _ _
   | exact LeO.none _
   | refine LeO.ite ?_ ?_
   | refine LeO.bind ?_ (fun _ => ?_)
set_option maxHeartbeats 8000000 in
set_option maxRecDepth 100000 in
theorem spec_l3Same.calls (k : Nat) (A0 : Option Addr) (c0 : Nat) (l0 : List (S40)) (A1 : Option Addr) (c1 : Nat) (l1 : List (S40)) (r : Bool) (w : World) (hr0 : Kd.C k40 w A0 l0.length l0) (hc0 : l0.length ≤ c0) (hr1 : Kd.C k40 w A1 l1.length l1) (hc1 : l1.length ≤ c1) (h : spec_l3Same.f k l0 l1 = some r) :
  Calls Try.prog 59 #[.slice A0 l0.length c0,.slice A1 l1.length c1] w fun e w' => e = .returned (.bool r) ∧ Drawn0 w w':=by
 have HR0:=aM hr0
 have HC0:=aM hc0
 clear hr0 hc0
 have HR1:=aM hr1
 have HC1:=aM hc1
 clear hr1 hc1
 have H : (if (l0.length : Int) = (l1.length : Int) then ((spec_l1In.f k l0 l1).bind fun t173 => (some t173)) else (some false)) = some r:=h
 clear h
 by_cases c3 : (l0.length : Int) = (l1.length : Int)
 ·rw [if_pos c3] at H
  have c3b0 : ((l0.length : Int) == (l1.length : Int)) = true:=beq_iff_eq.mpr c3
  have c3b1 : ((l0.length : Int) != (l1.length : Int)) = false:=bne_eq_false_iff_eq.mpr c3
  have c3b2 : (l0.length == l1.length) = true:=by first|simpa using c3|(simp at c3 ⊢;omega)
  clear c3
  replace H:=Option.bind_eq_some_iff.mp H
  obtain ⟨t173,A40,H⟩:=H
  replace H : (some t173) = some r:=H
  have A4:=aM A40
  clear A40
  obtain rfl:=Option.some.inj H
  go_enter Try.func59,Try.ntmps59
  go_wp2_with (first|(go_at_call 62;(with_reducible refine (spec_l1In.calls k _ _ l0 _ _ l1 t173 _ ?side1 ?side2 ?side3 ?side4 A4.out).mono ?_);(case side1 => exact Q68);(case side2 => exact HC0.out);(case side3 => exact Q94);(case side4 => exact HC1.out);rintro e w' ⟨rfl,⟨nd,rfl⟩⟩))
  go_ret
  exact ⟨Q11,Q27⟩
 ·rw [if_neg c3] at H
  have c3b0 : ((l0.length : Int) == (l1.length : Int)) = false:=beq_eq_false_iff_ne.mpr c3
  have c3b1 : ((l0.length : Int) != (l1.length : Int)) = true:=bne_iff_ne.mpr c3
  have c3b2 : (l0.length == l1.length) = false:=by first|simpa using c3|(simp at c3 ⊢;omega)
  obtain rfl:=Option.some.inj H
  go_enter Try.func59,Try.ntmps59
  go_wp2
  go_ret
  exact ⟨Q11,Q27⟩

/-! ### spec_l3Has: function 56 -/
def spec_l3Has.l0 : Nat → List (S82) → Int → Int → List (S40) → Option (Bool)
 | 0,_,_,_,_ => none
 | k + 1,x0,x5,x175000,x175001 => if x5 < (x0.length : Int) then (if 0 ≤ x5 then (if ((rd_T82 x0 x5).f0) = x175000 then ((spec_l3Same.f k ((rd_T82 x0 x5).f1) x175001).bind fun t177 => (if t177 = true then (some true) else (spec_l3Has.l0 k x0 (wrap64 (x5 + 1)) x175000 x175001))) else (spec_l3Has.l0 k x0 (wrap64 (x5 + 1)) x175000 x175001)) else (none)) else (some false)
def spec_l3Has.f (k : Nat) (l0 : List (S82)) (a1_0 : Int) (l1_1 : List (S40)) : Option (Bool):=spec_l3Has.l0 k l0 0 a1_0 l1_1
theorem spec_l3Has.mono_l : ∀ k,(∀ y0 y1 y2 y3,LeO (spec_l3Has.l0 k y0 y1 y2 y3) (spec_l3Has.l0 (k + 1) y0 y1 y2 y3))
 | 0 => fun _ _ _ _ r h => by simp [spec_l3Has.l0] at h
 | k + 1 => by
  have ih0:=spec_l3Has.mono_l k
  ·intro y0 y1 y2 y3
   unfold spec_l3Has.l0
   repeat' first
   | exact LeO.refl _
   | exact ih0 _ _ _ _
   | exact spec_l3Same.mono _ _ _
   | exact LeO.none _
   | refine LeO.ite ?_ ?_
   | refine LeO.bind ?_ (fun _ => ?_)
theorem spec_l3Has.mono : ∀ a0 a1 a2 k,LeO (spec_l3Has.f k a0 a1 a2) (spec_l3Has.f (k + 1) a0 a1 a2):=by
 intro a0 a1 a2 k
 have ih0:=spec_l3Has.mono_l k
 unfold spec_l3Has.f
 repeat' first
   | exact LeO.refl _
   | exact ih0 _ _ _ _
   | exact spec_l3Same.mono _ _ _
   | exact LeO.none _
   | refine LeO.ite ?_ ?_
   | refine LeO.bind ?_ (fun _ => ?_)
set_option maxHeartbeats 8000000 in
set_option maxRecDepth 100000 in
theorem spec_l3Has.calls (k : Nat) (A0 : Option Addr) (c0 : Nat) (l0 : List (S82)) (a1_0 : Int) (A1_1 : Option Addr) (c1_1 : Nat) (l1_1 : List (S40)) (r : Bool) (w : World) (hr0 : Kd.C k82 w A0 l0.length l0) (hc0 : l0.length ≤ c0) (hr1_1 : Kd.C k40 w A1_1 l1_1.length l1_1) (hc1_1 : l1_1.length ≤ c1_1) (h : spec_l3Has.f k l0 a1_0 l1_1 = some r) :
  Calls Try.prog 56 #[.slice A0 l0.length c0,.agg #[.int .i64 a1_0,.slice A1_1 l1_1.length c1_1]] w fun e w' => e = .returned (.bool r) ∧ Below w.heap.size w w':=by
 have hu82:=Try.underlying82
 have HR0:=aM hr0
 have HC0:=aM hc0
 clear hr0 hc0
 have HR1_1:=aM hr1_1
 have HC1_1:=aM hc1_1
 clear hr1_1 hc1_1
 have HB:=aM (Below.refl w.heap.size w)
 have H : (spec_l3Has.l0 k l0 0 a1_0 l1_1) = some r:=h
 clear h
 have H':=aM H
 clear H
 go_enter Try.func56,Try.ntmps56
 go_wp2_with (first|((with_reducible refine gate_dst (N:=3) rfl ?_);refine box_event ?hg (N:=3) ?hd (cs:=#[.int .i64 a1_0,.slice A1_1 l1_1.length c1_1]) (t:=82) ?hr ?_;(case hd => rfl);(case hg => rfl);(case hr => exact Q16);intro gb174 hg w3 hbox hb;have n0_:=aM (below_step Q3 hb);have n1_:=aM (hbox);have n2_:=aM ((Q37 : w.heap.size ≤ gb174));have n3_:=aM ((Q37 : w.heap.size ≤ gb174));clear HB;have HB:=n0_;have BK174:=n1_;have GW174:=n2_;have GE174:=n3_;clear n0_ n1_ n2_ n3_;clear hb hbox hg))
 repeat (go_quiet (first|((with_reducible refine gate_dst (N:=3) rfl ?_);refine box_event ?hg (N:=3) ?hd (cs:=#[.int .i64 a1_0,.slice A1_1 l1_1.length c1_1]) (t:=82) ?hr ?_;(case hd => rfl);(case hg => rfl);(case hr => exact Q16);intro gb174 hg w3 hbox hb;have n0_:=aM (below_step Q3 hb);have n1_:=aM (hbox);have n2_:=aM ((Q37 : w.heap.size ≤ gb174));have n3_:=aM ((Q37 : w.heap.size ≤ gb174));clear HB;have HB:=n0_;have BK174:=n1_;have GW174:=n2_;have GE174:=n3_;clear n0_ n1_ n2_ n3_;clear hb hbox hg));try go_wp2_with (first|((with_reducible refine gate_dst (N:=3) rfl ?_);refine box_event ?hg (N:=3) ?hd (cs:=#[.int .i64 a1_0,.slice A1_1 l1_1.length c1_1]) (t:=82) ?hr ?_;(case hd => rfl);(case hg => rfl);(case hr => exact Q16);intro gb174 hg w3 hbox hb;have n0_:=aM (below_step Q3 hb);have n1_:=aM (hbox);have n2_:=aM ((Q37 : w.heap.size ≤ gb174));have n3_:=aM ((Q37 : w.heap.size ≤ gb174));clear HB;have HB:=n0_;have BK174:=n1_;have GW174:=n2_;have GE174:=n3_;clear n0_ n1_ n2_ n3_;clear hb hbox hg)))
 go_loopg [5] k (fun kq v5 w' => ∃ (x5_1 : Int),v5 = .int .i64 x5_1 ∧ Aside0 (spec_l3Has.l0 kq l0 x5_1 a1_0 l1_1 = some r) ∧ Aside0 (kq ≤ k) ∧ Aside0 (w'.heap[gb174]? = some (.cells #[.int .i64 a1_0,(.slice A1_1 l1_1.length c1_1)] 82 (0,0))) ∧ Aside0 (Below w.heap.size w w'))
 case atStart => exact ⟨(0),Q11,H',⟨Nat.le_refl _⟩,⟨qk BK174⟩,⟨Q65⟩⟩
 case round =>
  clear H'
  try clear c1
  try clear p2
  obtain ⟨x5_1,rfl,HA,HK1,BK174,HB⟩:=hrel
  cases gk with
  | zero => exact absurd HA.out (by simp [spec_l3Has.l0])
  | succ k1 =>
   have H:=HA.out
   clear HA
   simp only [spec_l3Has.l0] at H
   by_cases c4 : x5_1 < (l0.length : Int)
   ·rw [if_pos c4] at H
    have c4b0 : decide (x5_1 < (l0.length : Int)) = true:=decide_eq_true c4
    clear c4
    by_cases c5 : 0 ≤ x5_1
    case neg => rw [if_neg c5] at H;exact absurd H Q51
    rw [if_pos c5] at H
    have c5b0 : decide (0 ≤ x5_1) = true:=decide_eq_true c5
    clear c5
    by_cases c6 : ((rd_T82 l0 x5_1).f0) = a1_0
    ·rw [if_pos c6] at H
     have c6b0 : (((rd_T82 l0 x5_1).f0) == a1_0) = true:=beq_iff_eq.mpr c6
     have c6b1 : (((rd_T82 l0 x5_1).f0) != a1_0) = false:=bne_eq_false_iff_eq.mpr c6
     clear c6
     replace H:=Option.bind_eq_some_iff.mp H
     obtain ⟨t177,A70,H⟩:=H
     replace H : (if t177 = true then (some true) else (spec_l3Has.l0 k1 l0 (wrap64 (x5_1 + 1)) a1_0 l1_1)) = some r:=H
     have A7:=aM A70
     clear A70
     by_cases c8 : t177 = true
     ·subst c8
      have H1 : (some true) = some r:=by rw [if_pos rfl] at H;exact H
      clear H
      have H:=H1
      clear H1
      obtain rfl:=Option.some.inj H
      have p175 : 0 ≤ (x5_1 : Int):=of_decide_eq_true Q5
      have q175 : x5_1 < (l0.length : Int):=of_decide_eq_true Q5
      obtain ⟨ad175,A175_1,c175_1,e175,hx175_0,hx175_1,hl175_1,hi175_1⟩:=at_T82 HR0.out x5_1 p175 q175
      cases e175
      replace hx175_0:=(HB.out.cell (bL w hx175_0)).trans hx175_0
      replace hx175_1:=(HB.out.cell (bL w hx175_1)).trans hx175_1
      have HR175_1:=aM hi175_1
      have HC175_1:=aM hl175_1
      clear hi175_1 hl175_1
      replace p175:=eq_true p175
      replace q175:=eq_true q175
      have hcz9_0 : wr.cell? ⟨gb174,0,none⟩ = some (.int .i64 a1_0):=(blk_cell BK174.out 0).trans rfl
      have hcz9_1 : wr.cell? ⟨gb174,1,none⟩ = some (.slice A1_1 l1_1.length c1_1):=(blk_cell BK174.out 1).trans rfl
      have hfz9_0:=blk_frozen BK174.out 0
      have hfz9_1:=blk_frozen BK174.out 1
      have p176 : 0 ≤ (x5_1 : Int):=of_decide_eq_true Q5
      have q176 : x5_1 < (l0.length : Int):=of_decide_eq_true Q5
      obtain ⟨ad176,A176_1,c176_1,e176,hx176_0,hx176_1,hl176_1,hi176_1⟩:=at_T82 HR0.out x5_1 p176 q176
      obtain rfl : ad175 = ad176:=(by injection e176)
      replace hx176_0:=(HB.out.cell (bL w hx176_0)).trans hx176_0
      replace hx176_1:=(HB.out.cell (bL w hx176_1)).trans hx176_1
      have HR176_1:=aM hi176_1
      have HC176_1:=aM hl176_1
      clear hi176_1 hl176_1
      replace p176:=eq_true p176
      replace q176:=eq_true q176
      have ea_:=Option.some.inj (hx175_1.symm.trans hx176_1)
      injection ea_ with ea_ en_ ec_
      subst ea_
      subst ec_
      clear en_
      go_wp2_with (first|(go_at_call 59;(with_reducible refine (spec_l3Same.calls k1 _ _ ((rd_T82 l0 x5_1).f1) _ _ l1_1 true _ ?side1 ?side2 ?side3 ?side4 A7.out).mono ?_);(case side1 => exact Q44);(case side2 => exact HC176_1.out);(case side3 => exact Q48);(case side4 => exact HC1_1.out);rintro e w' ⟨rfl,⟨nd,rfl⟩⟩;(try first|exact ⟨rfl,_,World.drewN_drewN _ _ _⟩|exact ⟨rfl,_,Eq.trans (World.drewN_drewN _ _ _) (congrArg (World.drewN _) (Nat.add_assoc _ _ _))⟩)))
      repeat (go_quiet (first|(go_at_call 59;(with_reducible refine (spec_l3Same.calls k1 _ _ ((rd_T82 l0 x5_1).f1) _ _ l1_1 true _ ?side1 ?side2 ?side3 ?side4 A7.out).mono ?_);(case side1 => exact Q44);(case side2 => exact HC176_1.out);(case side3 => exact Q48);(case side4 => exact HC1_1.out);rintro e w' ⟨rfl,⟨nd,rfl⟩⟩;(try first|exact ⟨rfl,_,World.drewN_drewN _ _ _⟩|exact ⟨rfl,_,Eq.trans (World.drewN_drewN _ _ _) (congrArg (World.drewN _) (Nat.add_assoc _ _ _))⟩)));try go_wp2_with (first|(go_at_call 59;(with_reducible refine (spec_l3Same.calls k1 _ _ ((rd_T82 l0 x5_1).f1) _ _ l1_1 true _ ?side1 ?side2 ?side3 ?side4 A7.out).mono ?_);(case side1 => exact Q44);(case side2 => exact HC176_1.out);(case side3 => exact Q48);(case side4 => exact HC1_1.out);rintro e w' ⟨rfl,⟨nd,rfl⟩⟩;(try first|exact ⟨rfl,_,World.drewN_drewN _ _ _⟩|exact ⟨rfl,_,Eq.trans (World.drewN_drewN _ _ _) (congrArg (World.drewN _) (Nat.add_assoc _ _ _))⟩))))
      go_ret
      exact ⟨Q6,Q65⟩
     ·replace c8:=Bool.eq_false_iff.mpr c8
      subst c8
      have H1 : (spec_l3Has.l0 k1 l0 (wrap64 (x5_1 + 1)) a1_0 l1_1) = some r:=by rw [if_neg (show ¬ (false = true) by decide)] at H;exact H
      clear H
      have H:=H1
      clear H1
      have H':=aM H
      clear H
      have p175 : 0 ≤ (x5_1 : Int):=of_decide_eq_true Q5
      have q175 : x5_1 < (l0.length : Int):=of_decide_eq_true Q5
      obtain ⟨ad175,A175_1,c175_1,e175,hx175_0,hx175_1,hl175_1,hi175_1⟩:=at_T82 HR0.out x5_1 p175 q175
      cases e175
      replace hx175_0:=(HB.out.cell (bL w hx175_0)).trans hx175_0
      replace hx175_1:=(HB.out.cell (bL w hx175_1)).trans hx175_1
      have HR175_1:=aM hi175_1
      have HC175_1:=aM hl175_1
      clear hi175_1 hl175_1
      replace p175:=eq_true p175
      replace q175:=eq_true q175
      have hcz10_0 : wr.cell? ⟨gb174,0,none⟩ = some (.int .i64 a1_0):=(blk_cell BK174.out 0).trans rfl
      have hcz10_1 : wr.cell? ⟨gb174,1,none⟩ = some (.slice A1_1 l1_1.length c1_1):=(blk_cell BK174.out 1).trans rfl
      have hfz10_0:=blk_frozen BK174.out 0
      have hfz10_1:=blk_frozen BK174.out 1
      have p176 : 0 ≤ (x5_1 : Int):=of_decide_eq_true Q5
      have q176 : x5_1 < (l0.length : Int):=of_decide_eq_true Q5
      obtain ⟨ad176,A176_1,c176_1,e176,hx176_0,hx176_1,hl176_1,hi176_1⟩:=at_T82 HR0.out x5_1 p176 q176
      obtain rfl : ad175 = ad176:=(by injection e176)
      replace hx176_0:=(HB.out.cell (bL w hx176_0)).trans hx176_0
      replace hx176_1:=(HB.out.cell (bL w hx176_1)).trans hx176_1
      have HR176_1:=aM hi176_1
      have HC176_1:=aM hl176_1
      clear hi176_1 hl176_1
      replace p176:=eq_true p176
      replace q176:=eq_true q176
      have ea_:=Option.some.inj (hx175_1.symm.trans hx176_1)
      injection ea_ with ea_ en_ ec_
      subst ea_
      subst ec_
      clear en_
      go_wp2_with (first|(go_at_call 59;(with_reducible refine (spec_l3Same.calls k1 _ _ ((rd_T82 l0 x5_1).f1) _ _ l1_1 false _ ?side1 ?side2 ?side3 ?side4 A7.out).mono ?_);(case side1 => exact Q44);(case side2 => exact HC176_1.out);(case side3 => exact Q48);(case side4 => exact HC1_1.out);rintro e w' ⟨rfl,⟨nd,rfl⟩⟩;(try first|exact ⟨rfl,_,World.drewN_drewN _ _ _⟩|exact ⟨rfl,_,Eq.trans (World.drewN_drewN _ _ _) (congrArg (World.drewN _) (Nat.add_assoc _ _ _))⟩)))
      repeat (go_quiet (first|(go_at_call 59;(with_reducible refine (spec_l3Same.calls k1 _ _ ((rd_T82 l0 x5_1).f1) _ _ l1_1 false _ ?side1 ?side2 ?side3 ?side4 A7.out).mono ?_);(case side1 => exact Q44);(case side2 => exact HC176_1.out);(case side3 => exact Q48);(case side4 => exact HC1_1.out);rintro e w' ⟨rfl,⟨nd,rfl⟩⟩;(try first|exact ⟨rfl,_,World.drewN_drewN _ _ _⟩|exact ⟨rfl,_,Eq.trans (World.drewN_drewN _ _ _) (congrArg (World.drewN _) (Nat.add_assoc _ _ _))⟩)));try go_wp2_with (first|(go_at_call 59;(with_reducible refine (spec_l3Same.calls k1 _ _ ((rd_T82 l0 x5_1).f1) _ _ l1_1 false _ ?side1 ?side2 ?side3 ?side4 A7.out).mono ?_);(case side1 => exact Q44);(case side2 => exact HC176_1.out);(case side3 => exact Q48);(case side4 => exact HC1_1.out);rintro e w' ⟨rfl,⟨nd,rfl⟩⟩;(try first|exact ⟨rfl,_,World.drewN_drewN _ _ _⟩|exact ⟨rfl,_,Eq.trans (World.drewN_drewN _ _ _) (congrArg (World.drewN _) (Nat.add_assoc _ _ _))⟩))))
      go_roundg k1
      case measure => have:=HK1.out;omega
      case rel => exact ⟨(wrap64 (x5_1 + 1)),Q11,H',⟨Q60⟩,⟨qk BK174⟩,⟨Q65⟩⟩
    ·rw [if_neg c6] at H
     have c6b0 : (((rd_T82 l0 x5_1).f0) == a1_0) = false:=beq_eq_false_iff_ne.mpr c6
     have c6b1 : (((rd_T82 l0 x5_1).f0) != a1_0) = true:=bne_iff_ne.mpr c6
     have H':=aM H
     clear H
     have p175 : 0 ≤ (x5_1 : Int):=of_decide_eq_true Q5
     have q175 : x5_1 < (l0.length : Int):=of_decide_eq_true Q5
     obtain ⟨ad175,A175_1,c175_1,e175,hx175_0,hx175_1,hl175_1,hi175_1⟩:=at_T82 HR0.out x5_1 p175 q175
     cases e175
     replace hx175_0:=(HB.out.cell (bL w hx175_0)).trans hx175_0
     replace hx175_1:=(HB.out.cell (bL w hx175_1)).trans hx175_1
     have HR175_1:=aM hi175_1
     have HC175_1:=aM hl175_1
     clear hi175_1 hl175_1
     replace p175:=eq_true p175
     replace q175:=eq_true q175
     have hcz11_0 : wr.cell? ⟨gb174,0,none⟩ = some (.int .i64 a1_0):=(blk_cell BK174.out 0).trans rfl
     have hcz11_1 : wr.cell? ⟨gb174,1,none⟩ = some (.slice A1_1 l1_1.length c1_1):=(blk_cell BK174.out 1).trans rfl
     have hfz11_0:=blk_frozen BK174.out 0
     have hfz11_1:=blk_frozen BK174.out 1
     go_wp2
     repeat (go_quiet (fail);try go_wp2)
     go_roundg k1
     case measure => have:=HK1.out;omega
     case rel => exact ⟨(wrap64 (x5_1 + 1)),Q11,H',⟨Q60⟩,⟨qk BK174⟩,⟨Q65⟩⟩
   ·rw [if_neg c4] at H
    have c4b0 : decide (x5_1 < (l0.length : Int)) = false:=decide_eq_false c4
    clear c4
    obtain rfl:=Option.some.inj H
    go_wp2
    repeat (go_quiet (fail);try go_wp2)
    go_ret
    exact ⟨Q6,Q65⟩

end Go.Proofs.Ytlcfalecbpnhbaa.P
