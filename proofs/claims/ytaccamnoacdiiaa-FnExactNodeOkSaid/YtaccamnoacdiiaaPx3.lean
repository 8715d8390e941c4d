/- The printed functions: what each Go function computes, as a Lean function, and that the Go code comes to just that. Conditions: none beyond each contract's own. -/
import Derived.Test.YtaccamnoacdiiaaPx0
import Derived.Test.YtaccamnoacdiiaaPx2
namespace Go.Proofs.Ytaccamnoacdiiaa.P
open Go.RowKit Go.Proofs.YtaccamnoacdiiaaW.PrintWords Go.Proofs.YtaccamnoacdiiaaW.PrintLast Go.Proofs.YtaccamnoacdiiaaW.PrintMore
attribute [local go_sem] max2_int min2_int max_two min_two max_three min_three max_four min_four   -- for this text's walks alone
set_option linter.unusedVariables false
set_option linter.unusedSimpArgs false

/-! ### laws_eqVoteS: function 25 -/
def laws_eqVoteS.l0 : Nat → List (S25) → List (S25) → Int → Option (Bool)
 | 0,_,_,_ => none
 | k + 1,x0,x1,x5 => if x5 < (x0.length : Int) then (if 0 ≤ x5 then (if x5 < (x1.length : Int) then ((laws_eqVote.f k ((rd_T25 x0 x5).f0) ((rd_T25 x0 x5).f1) ((rd_T25 x1 x5).f0) ((rd_T25 x1 x5).f1)).bind fun t121 => (if t121 = true then (laws_eqVoteS.l0 k x0 x1 (wrap64 (x5 + 1))) else (some false))) else (none)) else (none)) else (some true)
def laws_eqVoteS.f (k : Nat) (l0 : List (S25)) (l1 : List (S25)) : Option (Bool):=if (l0.length : Int) = (l1.length : Int) then (laws_eqVoteS.l0 k l0 l1 0) else (some false)
theorem laws_eqVoteS.mono_l : ∀ k,(∀ y0 y1 y2,LeO (laws_eqVoteS.l0 k y0 y1 y2) (laws_eqVoteS.l0 (k + 1) y0 y1 y2))
 | 0 => fun _ _ _ r h => by simp [laws_eqVoteS.l0] at h
 | k + 1 => by
  have ih0:=laws_eqVoteS.mono_l k
  ·intro y0 y1 y2
   unfold laws_eqVoteS.l0
   repeat' first
   | exact LeO.refl _
   | exact ih0 _ _ _
   | exact laws_eqVote.mono _ _ _ _ _
   | exact LeO.none _
   | refine LeO.ite ?_ ?_
   | refine LeO.bind ?_ (fun _ => ?_)
theorem laws_eqVoteS.mono : ∀ a0 a1 k,LeO (laws_eqVoteS.f k a0 a1) (laws_eqVoteS.f (k + 1) a0 a1):=by
 intro a0 a1 k
 have ih0:=laws_eqVoteS.mono_l k
 unfold laws_eqVoteS.f
 repeat' first
   | exact LeO.refl _
   | exact ih0 _ _ _
   | exact laws_eqVote.mono _ _ _ _ _
   | exact LeO.none _
   | refine LeO.ite ?_ ?_
   | refine LeO.bind ?_ (fun _ => ?_)
def laws_eqVoteS.T6 : Bool × List (List Nat × List Nat):=(true,[([],[]),([],[]),([0,1],[0,1]),([2],[2]),([],[]),([],[]),([4,5],[4,5]),([6],[6]),([3,7],[3,7]),([8],[8])])
def laws_eqVoteS.B6 : List Nat:=[0,0,3,7,0,0,48,112,255,511]
theorem laws_eqVoteS.tab6 : rtab .any (opsOf Try.f25 6) = laws_eqVoteS.T6:=by kernel_rfl
theorem laws_eqVoteS.bits6 : waitsOk laws_eqVoteS.T6.2 laws_eqVoteS.B6 = true:=by kernel_rfl
set_option maxHeartbeats 8000000 in
set_option maxRecDepth 100000 in
theorem laws_eqVoteS.calls (k : Nat) (A0 : Option Addr) (c0 : Nat) (l0 : List (S25)) (A1 : Option Addr) (c1 : Nat) (l1 : List (S25)) (r : Bool) (w : World) (hr0 : Kd.C k25 w A0 l0.length l0) (hc0 : l0.length ≤ c0) (hr1 : Kd.C k25 w A1 l1.length l1) (hc1 : l1.length ≤ c1) (h : laws_eqVoteS.f k l0 l1 = some r) :
  Calls Try.prog 25 #[.slice A0 l0.length c0,.slice A1 l1.length c1] w fun e w' => e = .returned (.bool r) ∧ Below w.heap.size w w':=by
 have hu25:=Try.underlying25
 have HR0:=aM hr0
 have HC0:=aM hc0
 clear hr0 hc0
 have HR1:=aM hr1
 have HC1:=aM hc1
 clear hr1 hc1
 have HB:=aM (Below.refl w.heap.size w)
 have H : (if (l0.length : Int) = (l1.length : Int) then (laws_eqVoteS.l0 k l0 l1 0) else (some false)) = some r:=h
 clear h
 by_cases c3 : (l0.length : Int) = (l1.length : Int)
 ·rw [if_pos c3] at H
  have c3b0 : ((l0.length : Int) == (l1.length : Int)) = true:=beq_iff_eq.mpr c3
  have c3b1 : ((l0.length : Int) != (l1.length : Int)) = false:=bne_eq_false_iff_eq.mpr c3
  have c3b2 : (l0.length == l1.length) = true:=by first|simpa using c3|(simp at c3 ⊢;omega)
  clear c3
  have H':=aM H
  clear H
  go_enter Try.func25,Try.ntmps25
  go_wp2
  go_loopg [5] k (fun kq v5 w' => ∃ (x5_1 : Int),v5 = .int .i64 x5_1 ∧ Aside0 (laws_eqVoteS.l0 kq l0 l1 x5_1 = some r) ∧ Aside0 (kq ≤ k) ∧ Aside0 (Below w.heap.size w w'))
  case atStart => exact ⟨(0),(by first|rfl|(simp;done)|(simp [*];done)),H',⟨Nat.le_refl _⟩,⟨by repeat (first|(with_reducible first|exact HB.out|apply bA|apply bN|apply bD)|exact HB.out)⟩⟩
  case round =>
   clear H'
   try clear c1
   try clear c2
   try clear p2
   try clear c3
   try clear c3b0
   try clear c3b1
   try clear c3b2
   obtain ⟨x5_1,rfl,HA,HK1,HB⟩:=hrel
   cases gk with
   | zero => exact absurd HA.out (by simp [laws_eqVoteS.l0])
   | succ k1 =>
    have H:=HA.out
    clear HA
    simp only [laws_eqVoteS.l0] at H
    by_cases c4 : x5_1 < (l0.length : Int)
    ·rw [if_pos c4] at H
     have c4b0 : decide (x5_1 < (l0.length : Int)) = true:=decide_eq_true c4
     clear c4
     by_cases c5 : 0 ≤ x5_1
     case neg => rw [if_neg c5] at H;exact absurd H (by simp)
     rw [if_pos c5] at H
     have c5b0 : decide (0 ≤ x5_1) = true:=decide_eq_true c5
     clear c5
     by_cases c6 : x5_1 < (l1.length : Int)
     case neg => rw [if_neg c6] at H;exact absurd H (by simp)
     rw [if_pos c6] at H
     have c6b0 : decide (x5_1 < (l1.length : Int)) = true:=decide_eq_true c6
     clear c6
     replace H:=Option.bind_eq_some_iff.mp H
     obtain ⟨t121,A70,H⟩:=H
     replace H : (if t121 = true then (laws_eqVoteS.l0 k1 l0 l1 (wrap64 (x5_1 + 1))) else (some false)) = some r:=H
     have A7:=aM A70
     clear A70
     by_cases c8 : t121 = true
     ·subst c8
      have H1 : (laws_eqVoteS.l0 k1 l0 l1 (wrap64 (x5_1 + 1))) = some r:=by rw [if_pos rfl] at H;exact H
      clear H
      have H:=H1
      clear H1
      have H':=aM H
      clear H
      try go_wp2
      have n0_:=aM (bD HB.out)
      clear HB
      have HB:=n0_
      clear n0_
      have p119 : 0 ≤ (x5_1 : Int):=of_decide_eq_true (by first|(with_reducible assumption)|assumption)
      have q119 : x5_1 < (l0.length : Int):=of_decide_eq_true (by first|(with_reducible assumption)|assumption)
      obtain ⟨ad119,A119_1,c119_1,e119,hx119_0,hx119_1,hl119_1,hi119_1⟩:=at_T25 HR0.out x5_1 p119 q119
      have hw119_1:=hx119_1
      have hw119_0:=hx119_0
      cases e119
      replace hx119_0:=(HB.out.cell (bL w hx119_0)).trans hx119_0
      replace hx119_1:=(HB.out.cell (bL w hx119_1)).trans hx119_1
      have HR119_1:=aM hi119_1
      have HC119_1:=aM hl119_1
      clear hi119_1 hl119_1
      replace p119:=eq_true p119
      replace q119:=eq_true q119
      have p120 : 0 ≤ (x5_1 : Int):=of_decide_eq_true (by first|(with_reducible assumption)|assumption)
      have q120 : x5_1 < (l1.length : Int):=of_decide_eq_true (by first|(with_reducible assumption)|assumption)
      obtain ⟨ad120,A120_1,c120_1,e120,hx120_0,hx120_1,hl120_1,hi120_1⟩:=at_T25 HR1.out x5_1 p120 q120
      have hw120_1:=hx120_1
      have hw120_0:=hx120_0
      cases e120
      replace hx120_0:=(HB.out.cell (bL w hx120_0)).trans hx120_0
      replace hx120_1:=(HB.out.cell (bL w hx120_1)).trans hx120_1
      have HR120_1:=aM hi120_1
      have HC120_1:=aM hl120_1
      clear hi120_1 hl120_1
      replace p120:=eq_true p120
      replace q120:=eq_true q120
      refine start_ (n:=10) (S:=fun w' => w'.cell? (ad119.add ((x5_1).toNat * 2)) = some (.int .i64 ((rd_T25 l0 x5_1).f0)) ∧ w'.cell? ⟨(ad119.add ((x5_1).toNat * 2)).block,(ad119.add ((x5_1).toNat * 2)).off + 1,none⟩ = some (.slice A119_1 ((rd_T25 l0 x5_1).f1).length c119_1) ∧ w'.cell? (ad120.add ((x5_1).toNat * 2)) = some (.int .i64 ((rd_T25 l1 x5_1).f0)) ∧ w'.cell? ⟨(ad120.add ((x5_1).toNat * 2)).block,(ad120.add ((x5_1).toNat * 2)).off + 1,none⟩ = some (.slice A120_1 ((rd_T25 l1 x5_1).f1).length c120_1)) (ds:=[]) #[bF,bF,bF,bF,bF,bF,bF,bF,bF,bF] (by kernel_rfl) rfl rfl ⟨((HB.out.cell (bL w hw119_0)).trans hw119_0),((HB.out.cell (bL w hw119_1)).trans hw119_1),((HB.out.cell (bL w hw120_0)).trans hw120_0),((HB.out.cell (bL w hw120_1)).trans hw120_1)⟩ (fun hHeld => ?_);refine with_tabW laws_eqVoteS.tab6 laws_eqVoteS.bits6 (fun HT_ HW_ => ?_)
      generalize wr.drew = w9 at HB HR119_1 HR120_1 hx119_0 hx119_1 hx120_0 hx120_1 hHeld ⊢
      refine pure_ (i:=0) (N:=some 17) (v:=?_) (a':=?_) #[bT,bF,bF,bF,bF,bF,bF,bF,bF,bF] rfl rfl (any_of HT_.out (by kernel_rfl)) (fun _ _ _ h => h) (Or.inl ⟨by rfl,?_⟩) ?_ ?_
      rotate_left;(· intro w';go_simp;with_reducible rfl);rotate_left;(· simp only [Act.put,sI,sZ,sS,i64_w,i32_w];rfl)
      refine pure_ (i:=1) (N:=some 18) (v:=?_) (a':=?_) #[bT,bT,bF,bF,bF,bF,bF,bF,bF,bF] rfl rfl (any_of HT_.out (by kernel_rfl)) (fun _ _ _ h => h) (Or.inl ⟨by rfl,?_⟩) ?_ ?_
      rotate_left;(· intro w';go_simp;with_reducible rfl);rotate_left;(· simp only [Act.put,sI,sZ,sS,i64_w,i32_w];rfl)
      refine pure_ (i:=2) (N:=some 19) (v:=?_) (a':=?_) #[bT,bT,bT,bF,bF,bF,bF,bF,bF,bF] rfl rfl (any_of HT_.out (by kernel_rfl)) (fun _ _ _ h => h) (Or.inl ⟨by rfl,?_⟩) ?_ ?_
      rotate_left;(· intro w';go_simp;with_reducible rfl);rotate_left;(· simp only [Act.put,sI,sZ,sS,i64_w,i32_w];rfl)
      refine pure_ (i:=4) (N:=some 21) (v:=?_) (a':=?_) #[bT,bT,bT,bF,bT,bF,bF,bF,bF,bF] rfl rfl (any_of HT_.out (by kernel_rfl)) (fun _ _ _ h => h) (Or.inl ⟨by rfl,?_⟩) ?_ ?_
      rotate_left;(· intro w';go_simp;with_reducible rfl);rotate_left;(· simp only [Act.put,sI,sZ,sS,i64_w,i32_w];rfl)
      refine pure_ (i:=5) (N:=some 22) (v:=?_) (a':=?_) #[bT,bT,bT,bF,bT,bT,bF,bF,bF,bF] rfl rfl (any_of HT_.out (by kernel_rfl)) (fun _ _ _ h => h) (Or.inl ⟨by rfl,?_⟩) ?_ ?_
      rotate_left;(· intro w';go_simp;with_reducible rfl);rotate_left;(· simp only [Act.put,sI,sZ,sS,i64_w,i32_w];rfl)
      refine pure_ (i:=6) (N:=some 23) (v:=?_) (a':=?_) #[bT,bT,bT,bF,bT,bT,bT,bF,bF,bF] rfl rfl (any_of HT_.out (by kernel_rfl)) (fun _ _ _ h => h) (Or.inl ⟨by rfl,?_⟩) ?_ ?_
      rotate_left;(· intro w';go_simp;with_reducible rfl);rotate_left;(· simp only [Act.put,sI,sZ,sS,i64_w,i32_w];rfl)
      refine take_ (i:=3) (N:=some 20) (v:=?_) (a':=?_) #[bT,bT,bT,bT,bT,bT,bT,bF,bF,bF] rfl rfl (take_ofW HT_.out HW_.out (by kernel_rfl)) (fun _ _ _ h => h) (Or.inl ⟨by rfl,?_⟩) hHeld ?_ ?_
      rotate_left
      ·rintro w' ⟨s0,s1,s2,s3⟩
       (try simp only [Int.toNat_natCast] at s0 s1 s2 s3)
       go_simp
       with_reducible rfl
      rotate_left
      ·simp only [Act.put,sI,sZ,sS,i64_w,i32_w]
       rfl
      refine take_ (i:=7) (N:=some 24) (v:=?_) (a':=?_) #[bT,bT,bT,bT,bT,bT,bT,bT,bF,bF] rfl rfl (take_ofW HT_.out HW_.out (by kernel_rfl)) (fun _ _ _ h => h) (Or.inl ⟨by rfl,?_⟩) hHeld ?_ ?_
      rotate_left
      ·rintro w' ⟨s0,s1,s2,s3⟩
       (try simp only [Int.toNat_natCast] at s0 s1 s2 s3)
       go_simp
       with_reducible rfl
      rotate_left
      ·simp only [Act.put,sI,sZ,sS,i64_w,i32_w]
       rfl
      refine one_ (i:=8) (N:=some 25) #[bT,bT,bT,bT,bT,bT,bT,bT,bT,bF] rfl rfl (one_of HT_.out (by kernel_rfl)) (by decide) (fun K hK => ?_)
      refine goes_ Try.func15 (by kernel_rfl) rfl #[.agg #[.int .i64 ((rd_T25 l0 x5_1).f0),.slice A119_1 ((rd_T25 l0 x5_1).f1).length c119_1],.agg #[.int .i64 ((rd_T25 l1 x5_1).f0),.slice A120_1 ((rd_T25 l1 x5_1).f1).length c120_1]] (by rfl) rfl rfl (by (try simp only [List.map_toArray,List.map_cons,List.map_nil]);first|done|rfl|(simp only [List.length_drop,List.length_take];rfl)) ?_
      with_reducible refine (laws_eqVote.calls k1 ((rd_T25 l0 x5_1).f0) _ _ ((rd_T25 l0 x5_1).f1) ((rd_T25 l1 x5_1).f0) _ _ ((rd_T25 l1 x5_1).f1) true _ ?side1 ?side2 ?side3 ?side4 A7.out).mono ?_
      (case side1 => repeat (first|exact (Kd.C_below HR119_1.out HB.out)|(with_reducible refine Kd.C_alloc ?_ _)|(with_reducible refine Kd.C_drewN ?_ _)|(with_reducible refine Kd.C_drew ?_)))
      (case side2 => exact HC119_1.out)
      (case side3 => repeat (first|exact (Kd.C_below HR120_1.out HB.out)|(with_reducible refine Kd.C_alloc ?_ _)|(with_reducible refine Kd.C_drewN ?_ _)|(with_reducible refine Kd.C_drew ?_)))
      (case side4 => exact HC120_1.out)
      rintro e w10 ⟨rfl,hb⟩
      refine ⟨_,rfl,?_⟩
      have n0_:=aM (below_step (by repeat (first|(with_reducible first|exact HB.out|apply bA|apply bN|apply bD)|exact HB.out)) hb)
      clear HB
      have HB:=n0_
      clear n0_
      (try clear hb)
      (try clear hb2)
      (try clear hk)
      (try clear hi)
      refine hK.out _ _ ⟨((HB.out.cell (bL w hw119_0)).trans hw119_0),((HB.out.cell (bL w hw119_1)).trans hw119_1),((HB.out.cell (bL w hw120_0)).trans hw120_0),((HB.out.cell (bL w hw120_1)).trans hw120_1)⟩ (fun hHeld => ?_)
      clear hK K
      refine norm_ (a':=?_) ?_ ?_
      rotate_left
      ·show Act.put _ (some 25) _ = _
       simp only [Act.put,sI,sZ,sS,i64_w,i32_w]
       rfl
      refine pure_ (i:=9) (N:=some 26) (v:=?_) (a':=?_) #[bT,bT,bT,bT,bT,bT,bT,bT,bT,bT] rfl rfl (any_of HT_.out (by kernel_rfl)) (fun _ _ _ h => h) (Or.inl ⟨by rfl,?_⟩) ?_ ?_
      rotate_left;(· intro w';go_simp;with_reducible rfl);rotate_left;(· simp only [Act.put,sI,sZ,sS,i64_w,i32_w];rfl)
      refine done_ (done_of HT_.out (by kernel_rfl)) ?_
      try go_wp2
      go_roundg k1
      case measure => have:=HK1.out;omega
      case rel => exact ⟨(wrap64 (x5_1 + 1)),(by first|rfl|(simp;done)|(simp [*];done)),H',⟨by have:=HK1.out;omega⟩,⟨by repeat (first|(with_reducible first|exact HB.out|apply bA|apply bN|apply bD)|exact HB.out)⟩⟩
     ·replace c8:=Bool.eq_false_iff.mpr c8
      subst c8
      have H1 : (some false) = some r:=by rw [if_neg (show ¬ (false = true) by decide)] at H;exact H
      clear H
      have H:=H1
      clear H1
      obtain rfl:=Option.some.inj H
      try go_wp2
      have n0_:=aM (bD HB.out)
      clear HB
      have HB:=n0_
      clear n0_
      have p119 : 0 ≤ (x5_1 : Int):=of_decide_eq_true (by first|(with_reducible assumption)|assumption)
      have q119 : x5_1 < (l0.length : Int):=of_decide_eq_true (by first|(with_reducible assumption)|assumption)
      obtain ⟨ad119,A119_1,c119_1,e119,hx119_0,hx119_1,hl119_1,hi119_1⟩:=at_T25 HR0.out x5_1 p119 q119
      have hw119_1:=hx119_1
      have hw119_0:=hx119_0
      cases e119
      replace hx119_0:=(HB.out.cell (bL w hx119_0)).trans hx119_0
      replace hx119_1:=(HB.out.cell (bL w hx119_1)).trans hx119_1
      have HR119_1:=aM hi119_1
      have HC119_1:=aM hl119_1
      clear hi119_1 hl119_1
      replace p119:=eq_true p119
      replace q119:=eq_true q119
      have p120 : 0 ≤ (x5_1 : Int):=of_decide_eq_true (by first|(with_reducible assumption)|assumption)
      have q120 : x5_1 < (l1.length : Int):=of_decide_eq_true (by first|(with_reducible assumption)|assumption)
      obtain ⟨ad120,A120_1,c120_1,e120,hx120_0,hx120_1,hl120_1,hi120_1⟩:=at_T25 HR1.out x5_1 p120 q120
      have hw120_1:=hx120_1
      have hw120_0:=hx120_0
      cases e120
      replace hx120_0:=(HB.out.cell (bL w hx120_0)).trans hx120_0
      replace hx120_1:=(HB.out.cell (bL w hx120_1)).trans hx120_1
      have HR120_1:=aM hi120_1
      have HC120_1:=aM hl120_1
      clear hi120_1 hl120_1
      replace p120:=eq_true p120
      replace q120:=eq_true q120
      refine start_ (n:=10) (S:=fun w' => w'.cell? (ad119.add ((x5_1).toNat * 2)) = some (.int .i64 ((rd_T25 l0 x5_1).f0)) ∧ w'.cell? ⟨(ad119.add ((x5_1).toNat * 2)).block,(ad119.add ((x5_1).toNat * 2)).off + 1,none⟩ = some (.slice A119_1 ((rd_T25 l0 x5_1).f1).length c119_1) ∧ w'.cell? (ad120.add ((x5_1).toNat * 2)) = some (.int .i64 ((rd_T25 l1 x5_1).f0)) ∧ w'.cell? ⟨(ad120.add ((x5_1).toNat * 2)).block,(ad120.add ((x5_1).toNat * 2)).off + 1,none⟩ = some (.slice A120_1 ((rd_T25 l1 x5_1).f1).length c120_1)) (ds:=[]) #[bF,bF,bF,bF,bF,bF,bF,bF,bF,bF] (by kernel_rfl) rfl rfl ⟨((HB.out.cell (bL w hw119_0)).trans hw119_0),((HB.out.cell (bL w hw119_1)).trans hw119_1),((HB.out.cell (bL w hw120_0)).trans hw120_0),((HB.out.cell (bL w hw120_1)).trans hw120_1)⟩ (fun hHeld => ?_);refine with_tabW laws_eqVoteS.tab6 laws_eqVoteS.bits6 (fun HT_ HW_ => ?_)
      generalize wr.drew = w11 at HB HR119_1 HR120_1 hx119_0 hx119_1 hx120_0 hx120_1 hHeld ⊢
      refine pure_ (i:=0) (N:=some 17) (v:=?_) (a':=?_) #[bT,bF,bF,bF,bF,bF,bF,bF,bF,bF] rfl rfl (any_of HT_.out (by kernel_rfl)) (fun _ _ _ h => h) (Or.inl ⟨by rfl,?_⟩) ?_ ?_
      rotate_left;(· intro w';go_simp;with_reducible rfl);rotate_left;(· simp only [Act.put,sI,sZ,sS,i64_w,i32_w];rfl)
      refine pure_ (i:=1) (N:=some 18) (v:=?_) (a':=?_) #[bT,bT,bF,bF,bF,bF,bF,bF,bF,bF] rfl rfl (any_of HT_.out (by kernel_rfl)) (fun _ _ _ h => h) (Or.inl ⟨by rfl,?_⟩) ?_ ?_
      rotate_left;(· intro w';go_simp;with_reducible rfl);rotate_left;(· simp only [Act.put,sI,sZ,sS,i64_w,i32_w];rfl)
      refine pure_ (i:=2) (N:=some 19) (v:=?_) (a':=?_) #[bT,bT,bT,bF,bF,bF,bF,bF,bF,bF] rfl rfl (any_of HT_.out (by kernel_rfl)) (fun _ _ _ h => h) (Or.inl ⟨by rfl,?_⟩) ?_ ?_
      rotate_left;(· intro w';go_simp;with_reducible rfl);rotate_left;(· simp only [Act.put,sI,sZ,sS,i64_w,i32_w];rfl)
      refine pure_ (i:=4) (N:=some 21) (v:=?_) (a':=?_) #[bT,bT,bT,bF,bT,bF,bF,bF,bF,bF] rfl rfl (any_of HT_.out (by kernel_rfl)) (fun _ _ _ h => h) (Or.inl ⟨by rfl,?_⟩) ?_ ?_
      rotate_left;(· intro w';go_simp;with_reducible rfl);rotate_left;(· simp only [Act.put,sI,sZ,sS,i64_w,i32_w];rfl)
      refine pure_ (i:=5) (N:=some 22) (v:=?_) (a':=?_) #[bT,bT,bT,bF,bT,bT,bF,bF,bF,bF] rfl rfl (any_of HT_.out (by kernel_rfl)) (fun _ _ _ h => h) (Or.inl ⟨by rfl,?_⟩) ?_ ?_
      rotate_left;(· intro w';go_simp;with_reducible rfl);rotate_left;(· simp only [Act.put,sI,sZ,sS,i64_w,i32_w];rfl)
      refine pure_ (i:=6) (N:=some 23) (v:=?_) (a':=?_) #[bT,bT,bT,bF,bT,bT,bT,bF,bF,bF] rfl rfl (any_of HT_.out (by kernel_rfl)) (fun _ _ _ h => h) (Or.inl ⟨by rfl,?_⟩) ?_ ?_
      rotate_left;(· intro w';go_simp;with_reducible rfl);rotate_left;(· simp only [Act.put,sI,sZ,sS,i64_w,i32_w];rfl)
      refine take_ (i:=3) (N:=some 20) (v:=?_) (a':=?_) #[bT,bT,bT,bT,bT,bT,bT,bF,bF,bF] rfl rfl (take_ofW HT_.out HW_.out (by kernel_rfl)) (fun _ _ _ h => h) (Or.inl ⟨by rfl,?_⟩) hHeld ?_ ?_
      rotate_left
      ·rintro w' ⟨s0,s1,s2,s3⟩
       (try simp only [Int.toNat_natCast] at s0 s1 s2 s3)
       go_simp
       with_reducible rfl
      rotate_left
      ·simp only [Act.put,sI,sZ,sS,i64_w,i32_w]
       rfl
      refine take_ (i:=7) (N:=some 24) (v:=?_) (a':=?_) #[bT,bT,bT,bT,bT,bT,bT,bT,bF,bF] rfl rfl (take_ofW HT_.out HW_.out (by kernel_rfl)) (fun _ _ _ h => h) (Or.inl ⟨by rfl,?_⟩) hHeld ?_ ?_
      rotate_left
      ·rintro w' ⟨s0,s1,s2,s3⟩
       (try simp only [Int.toNat_natCast] at s0 s1 s2 s3)
       go_simp
       with_reducible rfl
      rotate_left
      ·simp only [Act.put,sI,sZ,sS,i64_w,i32_w]
       rfl
      refine one_ (i:=8) (N:=some 25) #[bT,bT,bT,bT,bT,bT,bT,bT,bT,bF] rfl rfl (one_of HT_.out (by kernel_rfl)) (by decide) (fun K hK => ?_)
      refine goes_ Try.func15 (by kernel_rfl) rfl #[.agg #[.int .i64 ((rd_T25 l0 x5_1).f0),.slice A119_1 ((rd_T25 l0 x5_1).f1).length c119_1],.agg #[.int .i64 ((rd_T25 l1 x5_1).f0),.slice A120_1 ((rd_T25 l1 x5_1).f1).length c120_1]] (by rfl) rfl rfl (by (try simp only [List.map_toArray,List.map_cons,List.map_nil]);first|done|rfl|(simp only [List.length_drop,List.length_take];rfl)) ?_
      with_reducible refine (laws_eqVote.calls k1 ((rd_T25 l0 x5_1).f0) _ _ ((rd_T25 l0 x5_1).f1) ((rd_T25 l1 x5_1).f0) _ _ ((rd_T25 l1 x5_1).f1) false _ ?side1 ?side2 ?side3 ?side4 A7.out).mono ?_
      (case side1 => repeat (first|exact (Kd.C_below HR119_1.out HB.out)|(with_reducible refine Kd.C_alloc ?_ _)|(with_reducible refine Kd.C_drewN ?_ _)|(with_reducible refine Kd.C_drew ?_)))
      (case side2 => exact HC119_1.out)
      (case side3 => repeat (first|exact (Kd.C_below HR120_1.out HB.out)|(with_reducible refine Kd.C_alloc ?_ _)|(with_reducible refine Kd.C_drewN ?_ _)|(with_reducible refine Kd.C_drew ?_)))
      (case side4 => exact HC120_1.out)
      rintro e w12 ⟨rfl,hb⟩
      refine ⟨_,rfl,?_⟩
      have n0_:=aM (below_step (by repeat (first|(with_reducible first|exact HB.out|apply bA|apply bN|apply bD)|exact HB.out)) hb)
      clear HB
      have HB:=n0_
      clear n0_
      (try clear hb)
      (try clear hb2)
      (try clear hk)
      (try clear hi)
      refine hK.out _ _ ⟨((HB.out.cell (bL w hw119_0)).trans hw119_0),((HB.out.cell (bL w hw119_1)).trans hw119_1),((HB.out.cell (bL w hw120_0)).trans hw120_0),((HB.out.cell (bL w hw120_1)).trans hw120_1)⟩ (fun hHeld => ?_)
      clear hK K
      refine norm_ (a':=?_) ?_ ?_
      rotate_left
      ·show Act.put _ (some 25) _ = _
       simp only [Act.put,sI,sZ,sS,i64_w,i32_w]
       rfl
      refine pure_ (i:=9) (N:=some 26) (v:=?_) (a':=?_) #[bT,bT,bT,bT,bT,bT,bT,bT,bT,bT] rfl rfl (any_of HT_.out (by kernel_rfl)) (fun _ _ _ h => h) (Or.inl ⟨by rfl,?_⟩) ?_ ?_
      rotate_left;(· intro w';go_simp;with_reducible rfl);rotate_left;(· simp only [Act.put,sI,sZ,sS,i64_w,i32_w];rfl)
      refine done_ (done_of HT_.out (by kernel_rfl)) ?_
      try go_wp2
      go_ret
      exact ⟨by first|rfl|(simp only [i64_w,i32_w];done)|(simp only [i64_w,i32_w];rfl)|(simp [errW_none,errW_some] <;> rfl)|(simp [*,errW_none,errW_some] <;> rfl),by repeat (first|(with_reducible first|exact HB.out|apply bA|apply bN|apply bD)|exact HB.out)⟩
    ·rw [if_neg c4] at H
     have c4b0 : decide (x5_1 < (l0.length : Int)) = false:=decide_eq_false c4
     clear c4
     obtain rfl:=Option.some.inj H
     go_wp2
     go_ret
     exact ⟨by first|rfl|(simp only [i64_w,i32_w];done)|(simp only [i64_w,i32_w];rfl)|(simp [errW_none,errW_some] <;> rfl)|(simp [*,errW_none,errW_some] <;> rfl),by repeat (first|(with_reducible first|exact HB.out|apply bA|apply bN|apply bD)|exact HB.out)⟩
 ·rw [if_neg c3] at H
  have c3b0 : ((l0.length : Int) == (l1.length : Int)) = false:=beq_eq_false_iff_ne.mpr c3
  have c3b1 : ((l0.length : Int) != (l1.length : Int)) = true:=bne_iff_ne.mpr c3
  have c3b2 : (l0.length == l1.length) = false:=by first|simpa using c3|(simp at c3 ⊢;omega)
  obtain rfl:=Option.some.inj H
  go_enter Try.func25,Try.ntmps25
  go_wp2
  go_ret
  exact ⟨by first|rfl|(simp only [i64_w,i32_w];done)|(simp only [i64_w,i32_w];rfl)|(simp [errW_none,errW_some] <;> rfl)|(simp [*,errW_none,errW_some] <;> rfl),by repeat (first|(with_reducible first|exact HB.out|apply bA|apply bN|apply bD)|exact HB.out)⟩

/-! ### laws_eqNode: function 18 -/
def laws_eqNode.f (k : Nat) (a0_0 : Int) (a0_1 : Int) (a0_2 : Int) (l0_3 : List (S25)) (a1_0 : Int) (a1_1 : Int) (a1_2 : Int) (l1_3 : List (S25)) : Option (Bool):=if a0_0 = a1_0 then (if a0_1 = a1_1 then (if a0_2 = a1_2 then ((laws_eqVoteS.f k l0_3 l1_3).bind fun t124 => (if t124 = true then (some true) else (some false))) else (some false)) else (some false)) else (some false)
theorem laws_eqNode.mono : ∀ a0 a1 a2 a3 a4 a5 a6 a7 k,LeO (laws_eqNode.f k a0 a1 a2 a3 a4 a5 a6 a7) (laws_eqNode.f (k + 1) a0 a1 a2 a3 a4 a5 a6 a7):=by
 intro a0 a1 a2 a3 a4 a5 a6 a7 k
 unfold laws_eqNode.f
 repeat' first
   | exact LeO.refl _
   | exact laws_eqVoteS.mono _ _ _
   | exact LeO.none _
   | refine LeO.ite ?_ ?_
   | refine LeO.bind ?_ (fun _ => ?_)
set_option maxHeartbeats 8000000 in
set_option maxRecDepth 100000 in
theorem laws_eqNode.calls (k : Nat) (a0_0 : Int) (a0_1 : Int) (a0_2 : Int) (A0_3 : Option Addr) (c0_3 : Nat) (l0_3 : List (S25)) (a1_0 : Int) (a1_1 : Int) (a1_2 : Int) (A1_3 : Option Addr) (c1_3 : Nat) (l1_3 : List (S25)) (r : Bool) (w : World) (hr0_3 : Kd.C k25 w A0_3 l0_3.length l0_3) (hc0_3 : l0_3.length ≤ c0_3) (hr1_3 : Kd.C k25 w A1_3 l1_3.length l1_3) (hc1_3 : l1_3.length ≤ c1_3) (h : laws_eqNode.f k a0_0 a0_1 a0_2 l0_3 a1_0 a1_1 a1_2 l1_3 = some r) :
  Calls Try.prog 18 #[.agg #[.int .i64 a0_0,.int .i64 a0_1,.int .i64 a0_2,.slice A0_3 l0_3.length c0_3],.agg #[.int .i64 a1_0,.int .i64 a1_1,.int .i64 a1_2,.slice A1_3 l1_3.length c1_3]] w fun e w' => e = .returned (.bool r) ∧ Below w.heap.size w w':=by
 have hu39:=Try.underlying39
 have HR0_3:=aM hr0_3
 have HC0_3:=aM hc0_3
 clear hr0_3 hc0_3
 have HR1_3:=aM hr1_3
 have HC1_3:=aM hc1_3
 clear hr1_3 hc1_3
 have HB:=aM (Below.refl w.heap.size w)
 have H : (if a0_0 = a1_0 then (if a0_1 = a1_1 then (if a0_2 = a1_2 then ((laws_eqVoteS.f k l0_3 l1_3).bind fun t124 => (if t124 = true then (some true) else (some false))) else (some false)) else (some false)) else (some false)) = some r:=h
 clear h
 by_cases c3 : a0_0 = a1_0
 ·rw [if_pos c3] at H
  have c3b0 : (a0_0 == a1_0) = true:=beq_iff_eq.mpr c3
  have c3b1 : (a0_0 != a1_0) = false:=bne_eq_false_iff_eq.mpr c3
  clear c3
  by_cases c4 : a0_1 = a1_1
  ·rw [if_pos c4] at H
   have c4b0 : (a0_1 == a1_1) = true:=beq_iff_eq.mpr c4
   have c4b1 : (a0_1 != a1_1) = false:=bne_eq_false_iff_eq.mpr c4
   clear c4
   by_cases c5 : a0_2 = a1_2
   ·rw [if_pos c5] at H
    have c5b0 : (a0_2 == a1_2) = true:=beq_iff_eq.mpr c5
    have c5b1 : (a0_2 != a1_2) = false:=bne_eq_false_iff_eq.mpr c5
    clear c5
    replace H:=Option.bind_eq_some_iff.mp H
    obtain ⟨t124,A60,H⟩:=H
    replace H : (if t124 = true then (some true) else (some false)) = some r:=H
    have A6:=aM A60
    clear A60
    by_cases c7 : t124 = true
    ·subst c7
     have H1 : (some true) = some r:=by rw [if_pos rfl] at H;exact H
     clear H
     have H:=H1
     clear H1
     obtain rfl:=Option.some.inj H
     go_enter Try.func18,Try.ntmps18
     go_wp2_with (first|((with_reducible refine gate_dst (N:=2) rfl ?_);refine box_event ?hg (N:=2) ?hd (cs:=#[.int .i64 a0_0,.int .i64 a0_1,.int .i64 a0_2,.slice A0_3 l0_3.length c0_3]) (t:=39) ?hr ?_;(case hd => rfl);(case hg => rfl);(case hr => first|(go_simp;done)|(go_simp;rfl));intro gb122 hg w8 hbox hb;have n0_:=aM (below_step (by repeat (first|(with_reducible first|exact HB.out|apply bA|apply bN|apply bD)|exact HB.out)) hb);have n1_:=aM (hbox);have n2_:=aM ((by rw [hg];exact (below_size (by repeat (first|(with_reducible first|exact HB.out|apply bA|apply bN|apply bD)|exact HB.out))) : w.heap.size ≤ gb122));have n3_:=aM ((by rw [hg];exact (below_size (by repeat (first|(with_reducible first|exact HB.out|apply bA|apply bN|apply bD)|exact HB.out))) : w.heap.size ≤ gb122));clear HB;have HB:=n0_;have BK122:=n1_;have GW122:=n2_;have GE122:=n3_;clear n0_ n1_ n2_ n3_;clear hb hbox hg)|((with_reducible refine gate_dst (N:=3) rfl ?_);refine box_event ?hg (N:=3) ?hd (cs:=#[.int .i64 a1_0,.int .i64 a1_1,.int .i64 a1_2,.slice A1_3 l1_3.length c1_3]) (t:=39) ?hr ?_;(case hd => rfl);(case hg => rfl);(case hr => first|(go_simp;done)|(go_simp;rfl));intro gb123 hg w9 hbox hb;have n0_:=aM (blk_below (g:=gb122) (o:=.cells #[.int .i64 a0_0,.int .i64 a0_1,.int .i64 a0_2,.slice A0_3 l0_3.length c0_3] 39 (0,0)) (by (with_reducible repeat (first|refine blk_drewN ?_ _|refine blk_drew ?_|refine blk_alloc ?_ _));exact BK122.out) hb);have n1_:=aM (below_step (by repeat (first|(with_reducible first|exact HB.out|apply bA|apply bN|apply bD|refine below_set ?_ GE122.out)|exact HB.out)) hb);have n2_:=aM (hbox);have n3_:=aM ((by rw [hg];exact (below_size (by repeat (first|(with_reducible first|exact HB.out|apply bA|apply bN|apply bD|refine below_set ?_ GE122.out)|exact HB.out))) : w.heap.size ≤ gb123));have n4_:=aM ((by rw [hg];exact (below_size (by repeat (first|(with_reducible first|exact HB.out|apply bA|apply bN|apply bD|refine below_set ?_ GE122.out)|exact HB.out))) : w.heap.size ≤ gb123));have n5_:=aM ((by rw [hg];exact Nat.ne_of_lt (blk_lt (g:=gb122) (o:=.cells #[.int .i64 a0_0,.int .i64 a0_1,.int .i64 a0_2,.slice A0_3 l0_3.length c0_3] 39 (0,0)) (by (with_reducible repeat (first|refine blk_drewN ?_ _|refine blk_drew ?_|refine blk_alloc ?_ _));exact BK122.out)) : gb122 ≠ gb123));have n6_:=aM ((by rw [hg];exact Nat.ne_of_gt (blk_lt (g:=gb122) (o:=.cells #[.int .i64 a0_0,.int .i64 a0_1,.int .i64 a0_2,.slice A0_3 l0_3.length c0_3] 39 (0,0)) (by (with_reducible repeat (first|refine blk_drewN ?_ _|refine blk_drew ?_|refine blk_alloc ?_ _));exact BK122.out)) : gb123 ≠ gb122));clear BK122;clear HB;have BK122:=n0_;have HB:=n1_;have BK123:=n2_;have GW123:=n3_;have GE123:=n4_;have NB122_123:=n5_;have NB123_122:=n6_;clear n0_ n1_ n2_ n3_ n4_ n5_ n6_;clear hb hbox hg;have hnb10:=NB122_123.out;have hnc10:=NB123_122.out;have hcz11_0 : w9.cell? ⟨gb122,0,none⟩ = some (.int .i64 a0_0):=(blk_cell BK122.out 0).trans rfl;have hcz11_1 : w9.cell? ⟨gb122,1,none⟩ = some (.int .i64 a0_1):=(blk_cell BK122.out 1).trans rfl;have hcz11_2 : w9.cell? ⟨gb122,2,none⟩ = some (.int .i64 a0_2):=(blk_cell BK122.out 2).trans rfl;have hcz11_3 : w9.cell? ⟨gb122,3,none⟩ = some (.slice A0_3 l0_3.length c0_3):=(blk_cell BK122.out 3).trans rfl;have hfz11_0:=blk_frozen BK122.out 0;have hfz11_1:=blk_frozen BK122.out 1;have hfz11_2:=blk_frozen BK122.out 2;have hfz11_3:=blk_frozen BK122.out 3;have hcz12_0 : w9.cell? ⟨gb123,0,none⟩ = some (.int .i64 a1_0):=(blk_cell BK123.out 0).trans rfl;have hcz12_1 : w9.cell? ⟨gb123,1,none⟩ = some (.int .i64 a1_1):=(blk_cell BK123.out 1).trans rfl;have hcz12_2 : w9.cell? ⟨gb123,2,none⟩ = some (.int .i64 a1_2):=(blk_cell BK123.out 2).trans rfl;have hcz12_3 : w9.cell? ⟨gb123,3,none⟩ = some (.slice A1_3 l1_3.length c1_3):=(blk_cell BK123.out 3).trans rfl;have hfz12_0:=blk_frozen BK123.out 0;have hfz12_1:=blk_frozen BK123.out 1;have hfz12_2:=blk_frozen BK123.out 2;have hfz12_3:=blk_frozen BK123.out 3)|((with_reducible refine gate_callee (f:=25) rfl ?_);refine goesL_ (some 24) rfl rfl Try.func25 (by kernel_rfl) rfl #[.slice A0_3 l0_3.length c0_3,.slice A1_3 l1_3.length c1_3] rfl (by (try simp only [List.map_toArray,List.map_cons,List.map_nil]);first|done|rfl|(simp only [List.length_drop,List.length_take];rfl)) ?_;(with_reducible refine (laws_eqVoteS.calls k _ _ l0_3 _ _ l1_3 true _ ?side1 ?side2 ?side3 ?side4 A6.out).mono ?_);(case side1 => repeat (first|exact (Kd.C_below HR0_3.out HB.out)|(with_reducible refine Kd.C_alloc ?_ _)|(with_reducible refine Kd.C_drewN ?_ _)|(with_reducible refine Kd.C_drew ?_)));(case side2 => exact HC0_3.out);(case side3 => repeat (first|exact (Kd.C_below HR1_3.out HB.out)|(with_reducible refine Kd.C_alloc ?_ _)|(with_reducible refine Kd.C_drewN ?_ _)|(with_reducible refine Kd.C_drew ?_)));(case side4 => exact HC1_3.out);rintro e w13 ⟨rfl,hb⟩;refine ⟨_,rfl,?_⟩;have n0_:=aM (blk_below (g:=gb122) (o:=.cells #[.int .i64 a0_0,.int .i64 a0_1,.int .i64 a0_2,.slice A0_3 l0_3.length c0_3] 39 (0,0)) (by (with_reducible repeat (first|refine blk_drewN ?_ _|refine blk_drew ?_|refine blk_alloc ?_ _));exact BK122.out) hb);have n1_:=aM (blk_below (g:=gb123) (o:=.cells #[.int .i64 a1_0,.int .i64 a1_1,.int .i64 a1_2,.slice A1_3 l1_3.length c1_3] 39 (0,0)) (by (with_reducible repeat (first|refine blk_drewN ?_ _|refine blk_drew ?_|refine blk_alloc ?_ _));exact BK123.out) hb);have n2_:=aM (below_step (by repeat (first|(with_reducible first|exact HB.out|apply bA|apply bN|apply bD|refine below_set ?_ GE122.out|refine below_set ?_ GE123.out)|exact HB.out)) hb);clear BK122;clear BK123;clear HB;have BK122:=n0_;have BK123:=n1_;have HB:=n2_;clear n0_ n1_ n2_;(try clear hb);(try clear hb2);(try clear hk);(try clear hi)))
     go_ret
     exact ⟨by first|rfl|(simp only [i64_w,i32_w];done)|(simp only [i64_w,i32_w];rfl)|(simp [errW_none,errW_some] <;> rfl)|(simp [*,errW_none,errW_some] <;> rfl),by repeat (first|(with_reducible first|exact HB.out|apply bA|apply bN|apply bD|refine below_set ?_ GE122.out|refine below_set ?_ GE123.out)|exact HB.out)⟩
    ·replace c7:=Bool.eq_false_iff.mpr c7
     subst c7
     have H1 : (some false) = some r:=by rw [if_neg (show ¬ (false = true) by decide)] at H;exact H
     clear H
     have H:=H1
     clear H1
     obtain rfl:=Option.some.inj H
     go_enter Try.func18,Try.ntmps18
     go_wp2_with (first|((with_reducible refine gate_dst (N:=2) rfl ?_);refine box_event ?hg (N:=2) ?hd (cs:=#[.int .i64 a0_0,.int .i64 a0_1,.int .i64 a0_2,.slice A0_3 l0_3.length c0_3]) (t:=39) ?hr ?_;(case hd => rfl);(case hg => rfl);(case hr => first|(go_simp;done)|(go_simp;rfl));intro gb122 hg w14 hbox hb;have n0_:=aM (below_step (by repeat (first|(with_reducible first|exact HB.out|apply bA|apply bN|apply bD)|exact HB.out)) hb);have n1_:=aM (hbox);have n2_:=aM ((by rw [hg];exact (below_size (by repeat (first|(with_reducible first|exact HB.out|apply bA|apply bN|apply bD)|exact HB.out))) : w.heap.size ≤ gb122));have n3_:=aM ((by rw [hg];exact (below_size (by repeat (first|(with_reducible first|exact HB.out|apply bA|apply bN|apply bD)|exact HB.out))) : w.heap.size ≤ gb122));clear HB;have HB:=n0_;have BK122:=n1_;have GW122:=n2_;have GE122:=n3_;clear n0_ n1_ n2_ n3_;clear hb hbox hg)|((with_reducible refine gate_dst (N:=3) rfl ?_);refine box_event ?hg (N:=3) ?hd (cs:=#[.int .i64 a1_0,.int .i64 a1_1,.int .i64 a1_2,.slice A1_3 l1_3.length c1_3]) (t:=39) ?hr ?_;(case hd => rfl);(case hg => rfl);(case hr => first|(go_simp;done)|(go_simp;rfl));intro gb123 hg w15 hbox hb;have n0_:=aM (blk_below (g:=gb122) (o:=.cells #[.int .i64 a0_0,.int .i64 a0_1,.int .i64 a0_2,.slice A0_3 l0_3.length c0_3] 39 (0,0)) (by (with_reducible repeat (first|refine blk_drewN ?_ _|refine blk_drew ?_|refine blk_alloc ?_ _));exact BK122.out) hb);have n1_:=aM (below_step (by repeat (first|(with_reducible first|exact HB.out|apply bA|apply bN|apply bD|refine below_set ?_ GE122.out)|exact HB.out)) hb);have n2_:=aM (hbox);have n3_:=aM ((by rw [hg];exact (below_size (by repeat (first|(with_reducible first|exact HB.out|apply bA|apply bN|apply bD|refine below_set ?_ GE122.out)|exact HB.out))) : w.heap.size ≤ gb123));have n4_:=aM ((by rw [hg];exact (below_size (by repeat (first|(with_reducible first|exact HB.out|apply bA|apply bN|apply bD|refine below_set ?_ GE122.out)|exact HB.out))) : w.heap.size ≤ gb123));have n5_:=aM ((by rw [hg];exact Nat.ne_of_lt (blk_lt (g:=gb122) (o:=.cells #[.int .i64 a0_0,.int .i64 a0_1,.int .i64 a0_2,.slice A0_3 l0_3.length c0_3] 39 (0,0)) (by (with_reducible repeat (first|refine blk_drewN ?_ _|refine blk_drew ?_|refine blk_alloc ?_ _));exact BK122.out)) : gb122 ≠ gb123));have n6_:=aM ((by rw [hg];exact Nat.ne_of_gt (blk_lt (g:=gb122) (o:=.cells #[.int .i64 a0_0,.int .i64 a0_1,.int .i64 a0_2,.slice A0_3 l0_3.length c0_3] 39 (0,0)) (by (with_reducible repeat (first|refine blk_drewN ?_ _|refine blk_drew ?_|refine blk_alloc ?_ _));exact BK122.out)) : gb123 ≠ gb122));clear BK122;clear HB;have BK122:=n0_;have HB:=n1_;have BK123:=n2_;have GW123:=n3_;have GE123:=n4_;have NB122_123:=n5_;have NB123_122:=n6_;clear n0_ n1_ n2_ n3_ n4_ n5_ n6_;clear hb hbox hg;have hnb16:=NB122_123.out;have hnc16:=NB123_122.out;have hcz17_0 : w15.cell? ⟨gb122,0,none⟩ = some (.int .i64 a0_0):=(blk_cell BK122.out 0).trans rfl;have hcz17_1 : w15.cell? ⟨gb122,1,none⟩ = some (.int .i64 a0_1):=(blk_cell BK122.out 1).trans rfl;have hcz17_2 : w15.cell? ⟨gb122,2,none⟩ = some (.int .i64 a0_2):=(blk_cell BK122.out 2).trans rfl;have hcz17_3 : w15.cell? ⟨gb122,3,none⟩ = some (.slice A0_3 l0_3.length c0_3):=(blk_cell BK122.out 3).trans rfl;have hfz17_0:=blk_frozen BK122.out 0;have hfz17_1:=blk_frozen BK122.out 1;have hfz17_2:=blk_frozen BK122.out 2;have hfz17_3:=blk_frozen BK122.out 3;have hcz18_0 : w15.cell? ⟨gb123,0,none⟩ = some (.int .i64 a1_0):=(blk_cell BK123.out 0).trans rfl;have hcz18_1 : w15.cell? ⟨gb123,1,none⟩ = some (.int .i64 a1_1):=(blk_cell BK123.out 1).trans rfl;have hcz18_2 : w15.cell? ⟨gb123,2,none⟩ = some (.int .i64 a1_2):=(blk_cell BK123.out 2).trans rfl;have hcz18_3 : w15.cell? ⟨gb123,3,none⟩ = some (.slice A1_3 l1_3.length c1_3):=(blk_cell BK123.out 3).trans rfl;have hfz18_0:=blk_frozen BK123.out 0;have hfz18_1:=blk_frozen BK123.out 1;have hfz18_2:=blk_frozen BK123.out 2;have hfz18_3:=blk_frozen BK123.out 3)|((with_reducible refine gate_callee (f:=25) rfl ?_);refine goesL_ (some 24) rfl rfl Try.func25 (by kernel_rfl) rfl #[.slice A0_3 l0_3.length c0_3,.slice A1_3 l1_3.length c1_3] rfl (by (try simp only [List.map_toArray,List.map_cons,List.map_nil]);first|done|rfl|(simp only [List.length_drop,List.length_take];rfl)) ?_;(with_reducible refine (laws_eqVoteS.calls k _ _ l0_3 _ _ l1_3 false _ ?side1 ?side2 ?side3 ?side4 A6.out).mono ?_);(case side1 => repeat (first|exact (Kd.C_below HR0_3.out HB.out)|(with_reducible refine Kd.C_alloc ?_ _)|(with_reducible refine Kd.C_drewN ?_ _)|(with_reducible refine Kd.C_drew ?_)));(case side2 => exact HC0_3.out);(case side3 => repeat (first|exact (Kd.C_below HR1_3.out HB.out)|(with_reducible refine Kd.C_alloc ?_ _)|(with_reducible refine Kd.C_drewN ?_ _)|(with_reducible refine Kd.C_drew ?_)));(case side4 => exact HC1_3.out);rintro e w19 ⟨rfl,hb⟩;refine ⟨_,rfl,?_⟩;have n0_:=aM (blk_below (g:=gb122) (o:=.cells #[.int .i64 a0_0,.int .i64 a0_1,.int .i64 a0_2,.slice A0_3 l0_3.length c0_3] 39 (0,0)) (by (with_reducible repeat (first|refine blk_drewN ?_ _|refine blk_drew ?_|refine blk_alloc ?_ _));exact BK122.out) hb);have n1_:=aM (blk_below (g:=gb123) (o:=.cells #[.int .i64 a1_0,.int .i64 a1_1,.int .i64 a1_2,.slice A1_3 l1_3.length c1_3] 39 (0,0)) (by (with_reducible repeat (first|refine blk_drewN ?_ _|refine blk_drew ?_|refine blk_alloc ?_ _));exact BK123.out) hb);have n2_:=aM (below_step (by repeat (first|(with_reducible first|exact HB.out|apply bA|apply bN|apply bD|refine below_set ?_ GE122.out|refine below_set ?_ GE123.out)|exact HB.out)) hb);clear BK122;clear BK123;clear HB;have BK122:=n0_;have BK123:=n1_;have HB:=n2_;clear n0_ n1_ n2_;(try clear hb);(try clear hb2);(try clear hk);(try clear hi)))
     go_ret
     exact ⟨by first|rfl|(simp only [i64_w,i32_w];done)|(simp only [i64_w,i32_w];rfl)|(simp [errW_none,errW_some] <;> rfl)|(simp [*,errW_none,errW_some] <;> rfl),by repeat (first|(with_reducible first|exact HB.out|apply bA|apply bN|apply bD|refine below_set ?_ GE122.out|refine below_set ?_ GE123.out)|exact HB.out)⟩
   ·rw [if_neg c5] at H
    have c5b0 : (a0_2 == a1_2) = false:=beq_eq_false_iff_ne.mpr c5
    have c5b1 : (a0_2 != a1_2) = true:=bne_iff_ne.mpr c5
    obtain rfl:=Option.some.inj H
    go_enter Try.func18,Try.ntmps18
    go_wp2_with (first|((with_reducible refine gate_dst (N:=2) rfl ?_);refine box_event ?hg (N:=2) ?hd (cs:=#[.int .i64 a0_0,.int .i64 a0_1,.int .i64 a0_2,.slice A0_3 l0_3.length c0_3]) (t:=39) ?hr ?_;(case hd => rfl);(case hg => rfl);(case hr => first|(go_simp;done)|(go_simp;rfl));intro gb122 hg w20 hbox hb;have n0_:=aM (below_step (by repeat (first|(with_reducible first|exact HB.out|apply bA|apply bN|apply bD)|exact HB.out)) hb);have n1_:=aM (hbox);have n2_:=aM ((by rw [hg];exact (below_size (by repeat (first|(with_reducible first|exact HB.out|apply bA|apply bN|apply bD)|exact HB.out))) : w.heap.size ≤ gb122));have n3_:=aM ((by rw [hg];exact (below_size (by repeat (first|(with_reducible first|exact HB.out|apply bA|apply bN|apply bD)|exact HB.out))) : w.heap.size ≤ gb122));clear HB;have HB:=n0_;have BK122:=n1_;have GW122:=n2_;have GE122:=n3_;clear n0_ n1_ n2_ n3_;clear hb hbox hg)|((with_reducible refine gate_dst (N:=3) rfl ?_);refine box_event ?hg (N:=3) ?hd (cs:=#[.int .i64 a1_0,.int .i64 a1_1,.int .i64 a1_2,.slice A1_3 l1_3.length c1_3]) (t:=39) ?hr ?_;(case hd => rfl);(case hg => rfl);(case hr => first|(go_simp;done)|(go_simp;rfl));intro gb123 hg w21 hbox hb;have n0_:=aM (blk_below (g:=gb122) (o:=.cells #[.int .i64 a0_0,.int .i64 a0_1,.int .i64 a0_2,.slice A0_3 l0_3.length c0_3] 39 (0,0)) (by (with_reducible repeat (first|refine blk_drewN ?_ _|refine blk_drew ?_|refine blk_alloc ?_ _));exact BK122.out) hb);have n1_:=aM (below_step (by repeat (first|(with_reducible first|exact HB.out|apply bA|apply bN|apply bD|refine below_set ?_ GE122.out)|exact HB.out)) hb);have n2_:=aM (hbox);have n3_:=aM ((by rw [hg];exact (below_size (by repeat (first|(with_reducible first|exact HB.out|apply bA|apply bN|apply bD|refine below_set ?_ GE122.out)|exact HB.out))) : w.heap.size ≤ gb123));have n4_:=aM ((by rw [hg];exact (below_size (by repeat (first|(with_reducible first|exact HB.out|apply bA|apply bN|apply bD|refine below_set ?_ GE122.out)|exact HB.out))) : w.heap.size ≤ gb123));have n5_:=aM ((by rw [hg];exact Nat.ne_of_lt (blk_lt (g:=gb122) (o:=.cells #[.int .i64 a0_0,.int .i64 a0_1,.int .i64 a0_2,.slice A0_3 l0_3.length c0_3] 39 (0,0)) (by (with_reducible repeat (first|refine blk_drewN ?_ _|refine blk_drew ?_|refine blk_alloc ?_ _));exact BK122.out)) : gb122 ≠ gb123));have n6_:=aM ((by rw [hg];exact Nat.ne_of_gt (blk_lt (g:=gb122) (o:=.cells #[.int .i64 a0_0,.int .i64 a0_1,.int .i64 a0_2,.slice A0_3 l0_3.length c0_3] 39 (0,0)) (by (with_reducible repeat (first|refine blk_drewN ?_ _|refine blk_drew ?_|refine blk_alloc ?_ _));exact BK122.out)) : gb123 ≠ gb122));clear BK122;clear HB;have BK122:=n0_;have HB:=n1_;have BK123:=n2_;have GW123:=n3_;have GE123:=n4_;have NB122_123:=n5_;have NB123_122:=n6_;clear n0_ n1_ n2_ n3_ n4_ n5_ n6_;clear hb hbox hg;have hnb22:=NB122_123.out;have hnc22:=NB123_122.out;have hcz23_0 : w21.cell? ⟨gb122,0,none⟩ = some (.int .i64 a0_0):=(blk_cell BK122.out 0).trans rfl;have hcz23_1 : w21.cell? ⟨gb122,1,none⟩ = some (.int .i64 a0_1):=(blk_cell BK122.out 1).trans rfl;have hcz23_2 : w21.cell? ⟨gb122,2,none⟩ = some (.int .i64 a0_2):=(blk_cell BK122.out 2).trans rfl;have hcz23_3 : w21.cell? ⟨gb122,3,none⟩ = some (.slice A0_3 l0_3.length c0_3):=(blk_cell BK122.out 3).trans rfl;have hfz23_0:=blk_frozen BK122.out 0;have hfz23_1:=blk_frozen BK122.out 1;have hfz23_2:=blk_frozen BK122.out 2;have hfz23_3:=blk_frozen BK122.out 3;have hcz24_0 : w21.cell? ⟨gb123,0,none⟩ = some (.int .i64 a1_0):=(blk_cell BK123.out 0).trans rfl;have hcz24_1 : w21.cell? ⟨gb123,1,none⟩ = some (.int .i64 a1_1):=(blk_cell BK123.out 1).trans rfl;have hcz24_2 : w21.cell? ⟨gb123,2,none⟩ = some (.int .i64 a1_2):=(blk_cell BK123.out 2).trans rfl;have hcz24_3 : w21.cell? ⟨gb123,3,none⟩ = some (.slice A1_3 l1_3.length c1_3):=(blk_cell BK123.out 3).trans rfl;have hfz24_0:=blk_frozen BK123.out 0;have hfz24_1:=blk_frozen BK123.out 1;have hfz24_2:=blk_frozen BK123.out 2;have hfz24_3:=blk_frozen BK123.out 3))
    go_ret
    exact ⟨by first|rfl|(simp only [i64_w,i32_w];done)|(simp only [i64_w,i32_w];rfl)|(simp [errW_none,errW_some] <;> rfl)|(simp [*,errW_none,errW_some] <;> rfl),by repeat (first|(with_reducible first|exact HB.out|apply bA|apply bN|apply bD|refine below_set ?_ GE122.out|refine below_set ?_ GE123.out)|exact HB.out)⟩
  ·rw [if_neg c4] at H
   have c4b0 : (a0_1 == a1_1) = false:=beq_eq_false_iff_ne.mpr c4
   have c4b1 : (a0_1 != a1_1) = true:=bne_iff_ne.mpr c4
   obtain rfl:=Option.some.inj H
   go_enter Try.func18,Try.ntmps18
   go_wp2_with (first|((with_reducible refine gate_dst (N:=2) rfl ?_);refine box_event ?hg (N:=2) ?hd (cs:=#[.int .i64 a0_0,.int .i64 a0_1,.int .i64 a0_2,.slice A0_3 l0_3.length c0_3]) (t:=39) ?hr ?_;(case hd => rfl);(case hg => rfl);(case hr => first|(go_simp;done)|(go_simp;rfl));intro gb122 hg w25 hbox hb;have n0_:=aM (below_step (by repeat (first|(with_reducible first|exact HB.out|apply bA|apply bN|apply bD)|exact HB.out)) hb);have n1_:=aM (hbox);have n2_:=aM ((by rw [hg];exact (below_size (by repeat (first|(with_reducible first|exact HB.out|apply bA|apply bN|apply bD)|exact HB.out))) : w.heap.size ≤ gb122));have n3_:=aM ((by rw [hg];exact (below_size (by repeat (first|(with_reducible first|exact HB.out|apply bA|apply bN|apply bD)|exact HB.out))) : w.heap.size ≤ gb122));clear HB;have HB:=n0_;have BK122:=n1_;have GW122:=n2_;have GE122:=n3_;clear n0_ n1_ n2_ n3_;clear hb hbox hg)|((with_reducible refine gate_dst (N:=3) rfl ?_);refine box_event ?hg (N:=3) ?hd (cs:=#[.int .i64 a1_0,.int .i64 a1_1,.int .i64 a1_2,.slice A1_3 l1_3.length c1_3]) (t:=39) ?hr ?_;(case hd => rfl);(case hg => rfl);(case hr => first|(go_simp;done)|(go_simp;rfl));intro gb123 hg w26 hbox hb;have n0_:=aM (blk_below (g:=gb122) (o:=.cells #[.int .i64 a0_0,.int .i64 a0_1,.int .i64 a0_2,.slice A0_3 l0_3.length c0_3] 39 (0,0)) (by (with_reducible repeat (first|refine blk_drewN ?_ _|refine blk_drew ?_|refine blk_alloc ?_ _));exact BK122.out) hb);have n1_:=aM (below_step (by repeat (first|(with_reducible first|exact HB.out|apply bA|apply bN|apply bD|refine below_set ?_ GE122.out)|exact HB.out)) hb);have n2_:=aM (hbox);have n3_:=aM ((by rw [hg];exact (below_size (by repeat (first|(with_reducible first|exact HB.out|apply bA|apply bN|apply bD|refine below_set ?_ GE122.out)|exact HB.out))) : w.heap.size ≤ gb123));have n4_:=aM ((by rw [hg];exact (below_size (by repeat (first|(with_reducible first|exact HB.out|apply bA|apply bN|apply bD|refine below_set ?_ GE122.out)|exact HB.out))) : w.heap.size ≤ gb123));have n5_:=aM ((by rw [hg];exact Nat.ne_of_lt (blk_lt (g:=gb122) (o:=.cells #[.int .i64 a0_0,.int .i64 a0_1,.int .i64 a0_2,.slice A0_3 l0_3.length c0_3] 39 (0,0)) (by (with_reducible repeat (first|refine blk_drewN ?_ _|refine blk_drew ?_|refine blk_alloc ?_ _));exact BK122.out)) : gb122 ≠ gb123));have n6_:=aM ((by rw [hg];exact Nat.ne_of_gt (blk_lt (g:=gb122) (o:=.cells #[.int .i64 a0_0,.int .i64 a0_1,.int .i64 a0_2,.slice A0_3 l0_3.length c0_3] 39 (0,0)) (by (with_reducible repeat (first|refine blk_drewN ?_ _|refine blk_drew ?_|refine blk_alloc ?_ _));exact BK122.out)) : gb123 ≠ gb122));clear BK122;clear HB;have BK122:=n0_;have HB:=n1_;have BK123:=n2_;have GW123:=n3_;have GE123:=n4_;have NB122_123:=n5_;have NB123_122:=n6_;clear n0_ n1_ n2_ n3_ n4_ n5_ n6_;clear hb hbox hg;have hnb27:=NB122_123.out;have hnc27:=NB123_122.out;have hcz28_0 : w26.cell? ⟨gb122,0,none⟩ = some (.int .i64 a0_0):=(blk_cell BK122.out 0).trans rfl;have hcz28_1 : w26.cell? ⟨gb122,1,none⟩ = some (.int .i64 a0_1):=(blk_cell BK122.out 1).trans rfl;have hcz28_2 : w26.cell? ⟨gb122,2,none⟩ = some (.int .i64 a0_2):=(blk_cell BK122.out 2).trans rfl;have hcz28_3 : w26.cell? ⟨gb122,3,none⟩ = some (.slice A0_3 l0_3.length c0_3):=(blk_cell BK122.out 3).trans rfl;have hfz28_0:=blk_frozen BK122.out 0;have hfz28_1:=blk_frozen BK122.out 1;have hfz28_2:=blk_frozen BK122.out 2;have hfz28_3:=blk_frozen BK122.out 3;have hcz29_0 : w26.cell? ⟨gb123,0,none⟩ = some (.int .i64 a1_0):=(blk_cell BK123.out 0).trans rfl;have hcz29_1 : w26.cell? ⟨gb123,1,none⟩ = some (.int .i64 a1_1):=(blk_cell BK123.out 1).trans rfl;have hcz29_2 : w26.cell? ⟨gb123,2,none⟩ = some (.int .i64 a1_2):=(blk_cell BK123.out 2).trans rfl;have hcz29_3 : w26.cell? ⟨gb123,3,none⟩ = some (.slice A1_3 l1_3.length c1_3):=(blk_cell BK123.out 3).trans rfl;have hfz29_0:=blk_frozen BK123.out 0;have hfz29_1:=blk_frozen BK123.out 1;have hfz29_2:=blk_frozen BK123.out 2;have hfz29_3:=blk_frozen BK123.out 3))
   go_ret
   exact ⟨by first|rfl|(simp only [i64_w,i32_w];done)|(simp only [i64_w,i32_w];rfl)|(simp [errW_none,errW_some] <;> rfl)|(simp [*,errW_none,errW_some] <;> rfl),by repeat (first|(with_reducible first|exact HB.out|apply bA|apply bN|apply bD|refine below_set ?_ GE122.out|refine below_set ?_ GE123.out)|exact HB.out)⟩
 ·rw [if_neg c3] at H
  have c3b0 : (a0_0 == a1_0) = false:=beq_eq_false_iff_ne.mpr c3
  have c3b1 : (a0_0 != a1_0) = true:=bne_iff_ne.mpr c3
  obtain rfl:=Option.some.inj H
  go_enter Try.func18,Try.ntmps18
  go_wp2_with (first|((with_reducible refine gate_dst (N:=2) rfl ?_);refine box_event ?hg (N:=2) ?hd (cs:=#[.int .i64 a0_0,.int .i64 a0_1,.int .i64 a0_2,.slice A0_3 l0_3.length c0_3]) (t:=39) ?hr ?_;(case hd => rfl);(case hg => rfl);(case hr => first|(go_simp;done)|(go_simp;rfl));intro gb122 hg w30 hbox hb;have n0_:=aM (below_step (by repeat (first|(with_reducible first|exact HB.out|apply bA|apply bN|apply bD)|exact HB.out)) hb);have n1_:=aM (hbox);have n2_:=aM ((by rw [hg];exact (below_size (by repeat (first|(with_reducible first|exact HB.out|apply bA|apply bN|apply bD)|exact HB.out))) : w.heap.size ≤ gb122));have n3_:=aM ((by rw [hg];exact (below_size (by repeat (first|(with_reducible first|exact HB.out|apply bA|apply bN|apply bD)|exact HB.out))) : w.heap.size ≤ gb122));clear HB;have HB:=n0_;have BK122:=n1_;have GW122:=n2_;have GE122:=n3_;clear n0_ n1_ n2_ n3_;clear hb hbox hg)|((with_reducible refine gate_dst (N:=3) rfl ?_);refine box_event ?hg (N:=3) ?hd (cs:=#[.int .i64 a1_0,.int .i64 a1_1,.int .i64 a1_2,.slice A1_3 l1_3.length c1_3]) (t:=39) ?hr ?_;(case hd => rfl);(case hg => rfl);(case hr => first|(go_simp;done)|(go_simp;rfl));intro gb123 hg w31 hbox hb;have n0_:=aM (blk_below (g:=gb122) (o:=.cells #[.int .i64 a0_0,.int .i64 a0_1,.int .i64 a0_2,.slice A0_3 l0_3.length c0_3] 39 (0,0)) (by (with_reducible repeat (first|refine blk_drewN ?_ _|refine blk_drew ?_|refine blk_alloc ?_ _));exact BK122.out) hb);have n1_:=aM (below_step (by repeat (first|(with_reducible first|exact HB.out|apply bA|apply bN|apply bD|refine below_set ?_ GE122.out)|exact HB.out)) hb);have n2_:=aM (hbox);have n3_:=aM ((by rw [hg];exact (below_size (by repeat (first|(with_reducible first|exact HB.out|apply bA|apply bN|apply bD|refine below_set ?_ GE122.out)|exact HB.out))) : w.heap.size ≤ gb123));have n4_:=aM ((by rw [hg];exact (below_size (by repeat (first|(with_reducible first|exact HB.out|apply bA|apply bN|apply bD|refine below_set ?_ GE122.out)|exact HB.out))) : w.heap.size ≤ gb123));have n5_:=aM ((by rw [hg];exact Nat.ne_of_lt (blk_lt (g:=gb122) (o:=.cells #[.int .i64 a0_0,.int .i64 a0_1,.int .i64 a0_2,.slice A0_3 l0_3.length c0_3] 39 (0,0)) (by (with_reducible repeat (first|refine blk_drewN ?_ _|refine blk_drew ?_|refine blk_alloc ?_ _));exact BK122.out)) : gb122 ≠ gb123));have n6_:=aM ((by rw [hg];exact Nat.ne_of_gt (blk_lt (g:=gb122) (o:=.cells #[.int .i64 a0_0,.int .i64 a0_1,.int .i64 a0_2,.slice A0_3 l0_3.length c0_3] 39 (0,0)) (by (with_reducible repeat (first|refine blk_drewN ?_ _|refine blk_drew ?_|refine blk_alloc ?_ _));exact BK122.out)) : gb123 ≠ gb122));clear BK122;clear HB;have BK122:=n0_;have HB:=n1_;have BK123:=n2_;have GW123:=n3_;have GE123:=n4_;have NB122_123:=n5_;have NB123_122:=n6_;clear n0_ n1_ n2_ n3_ n4_ n5_ n6_;clear hb hbox hg;have hnb32:=NB122_123.out;have hnc32:=NB123_122.out;have hcz33_0 : w31.cell? ⟨gb122,0,none⟩ = some (.int .i64 a0_0):=(blk_cell BK122.out 0).trans rfl;have hcz33_1 : w31.cell? ⟨gb122,1,none⟩ = some (.int .i64 a0_1):=(blk_cell BK122.out 1).trans rfl;have hcz33_2 : w31.cell? ⟨gb122,2,none⟩ = some (.int .i64 a0_2):=(blk_cell BK122.out 2).trans rfl;have hcz33_3 : w31.cell? ⟨gb122,3,none⟩ = some (.slice A0_3 l0_3.length c0_3):=(blk_cell BK122.out 3).trans rfl;have hfz33_0:=blk_frozen BK122.out 0;have hfz33_1:=blk_frozen BK122.out 1;have hfz33_2:=blk_frozen BK122.out 2;have hfz33_3:=blk_frozen BK122.out 3;have hcz34_0 : w31.cell? ⟨gb123,0,none⟩ = some (.int .i64 a1_0):=(blk_cell BK123.out 0).trans rfl;have hcz34_1 : w31.cell? ⟨gb123,1,none⟩ = some (.int .i64 a1_1):=(blk_cell BK123.out 1).trans rfl;have hcz34_2 : w31.cell? ⟨gb123,2,none⟩ = some (.int .i64 a1_2):=(blk_cell BK123.out 2).trans rfl;have hcz34_3 : w31.cell? ⟨gb123,3,none⟩ = some (.slice A1_3 l1_3.length c1_3):=(blk_cell BK123.out 3).trans rfl;have hfz34_0:=blk_frozen BK123.out 0;have hfz34_1:=blk_frozen BK123.out 1;have hfz34_2:=blk_frozen BK123.out 2;have hfz34_3:=blk_frozen BK123.out 3))
  go_ret
  exact ⟨by first|rfl|(simp only [i64_w,i32_w];done)|(simp only [i64_w,i32_w];rfl)|(simp [errW_none,errW_some] <;> rfl)|(simp [*,errW_none,errW_some] <;> rfl),by repeat (first|(with_reducible first|exact HB.out|apply bA|apply bN|apply bD|refine below_set ?_ GE122.out|refine below_set ?_ GE123.out)|exact HB.out)⟩

/-! ### laws_szItemS: function 38 -/
def laws_szItemS.f (l0 : List (S86)) (a1 : Int) : Option (Int):=if (wrap64 (a1 - (l0.length : Int))) < 0 then (some (-1)) else (some (wrap64 (a1 - (l0.length : Int))))
set_option maxHeartbeats 8000000 in
set_option maxRecDepth 100000 in
theorem laws_szItemS.calls (A0 : Option Addr) (c0 : Nat) (l0 : List (S86)) (a1 : Int) (r : Int) (w : World) (hr0 : Kd.C k86 w A0 l0.length l0) (hc0 : l0.length ≤ c0) (h : laws_szItemS.f l0 a1 = some r) :
  Calls Try.prog 38 #[.slice A0 l0.length c0,.int .i64 a1] w fun e w' => e = .returned (.int .i64 r) ∧ Drawn0 w w':=by
 have HR0:=aM hr0
 have HC0:=aM hc0
 clear hr0 hc0
 have H : (if (wrap64 (a1 - (l0.length : Int))) < 0 then (some (-1)) else (some (wrap64 (a1 - (l0.length : Int))))) = some r:=h
 clear h
 by_cases c3 : (wrap64 (a1 - (l0.length : Int))) < 0
 ·rw [if_pos c3] at H
  have c3b0 : decide ((wrap64 (a1 - (l0.length : Int))) < 0) = true:=decide_eq_true c3
  clear c3
  obtain rfl:=Option.some.inj H
  go_enter Try.func38,Try.ntmps38
  go_wp2
  go_ret
  exact ⟨by first|rfl|(simp;done)|(simp [*];done),by repeat (first|exact Drawn0.refl _|apply Drawn0.step)⟩
 ·rw [if_neg c3] at H
  have c3b0 : decide ((wrap64 (a1 - (l0.length : Int))) < 0) = false:=decide_eq_false c3
  clear c3
  obtain rfl:=Option.some.inj H
  go_enter Try.func38,Try.ntmps38
  go_wp2
  go_ret
  exact ⟨by first|rfl|(simp;done)|(simp [*];done),by repeat (first|exact Drawn0.refl _|apply Drawn0.step)⟩

/-! ### laws_szVote: function 13 -/
def laws_szVote.f (a0_0 : Int) (l0_1 : List (S86)) (a1 : Int) : Option (Int):=(laws_szItemS.f l0_1 a1).bind fun t126 => (if t126 < 0 then (some (-1)) else (some t126))
set_option maxHeartbeats 8000000 in
set_option maxRecDepth 100000 in
theorem laws_szVote.calls (a0_0 : Int) (A0_1 : Option Addr) (c0_1 : Nat) (l0_1 : List (S86)) (a1 : Int) (r : Int) (w : World) (hr0_1 : Kd.C k86 w A0_1 l0_1.length l0_1) (hc0_1 : l0_1.length ≤ c0_1) (h : laws_szVote.f a0_0 l0_1 a1 = some r) :
  Calls Try.prog 13 #[.agg #[.int .i64 a0_0,.slice A0_1 l0_1.length c0_1],.int .i64 a1] w fun e w' => e = .returned (.int .i64 r) ∧ Below w.heap.size w w':=by
 have hu32:=Try.underlying32
 have HR0_1:=aM hr0_1
 have HC0_1:=aM hc0_1
 clear hr0_1 hc0_1
 have HB:=aM (Below.refl w.heap.size w)
 have H : ((laws_szItemS.f l0_1 a1).bind fun t126 => (if t126 < 0 then (some (-1)) else (some t126))) = some r:=h
 clear h
 replace H:=Option.bind_eq_some_iff.mp H
 obtain ⟨t126,A30,H⟩:=H
 replace H : (if t126 < 0 then (some (-1)) else (some t126)) = some r:=H
 have A3:=aM A30
 clear A30
 by_cases c4 : t126 < 0
 ·rw [if_pos c4] at H
  have c4b0 : decide (t126 < 0) = true:=decide_eq_true c4
  clear c4
  obtain rfl:=Option.some.inj H
  go_enter Try.func13,Try.ntmps13
  go_wp2_with (first|((with_reducible refine gate_dst (N:=2) rfl ?_);refine box_event ?hg (N:=2) ?hd (cs:=#[.int .i64 a0_0,.slice A0_1 l0_1.length c0_1]) (t:=32) ?hr ?_;(case hd => rfl);(case hg => rfl);(case hr => first|(go_simp;done)|(go_simp;rfl));intro gb125 hg w5 hbox hb;have n0_:=aM (below_step (by repeat (first|(with_reducible first|exact HB.out|apply bA|apply bN|apply bD)|exact HB.out)) hb);have n1_:=aM (hbox);have n2_:=aM ((by rw [hg];exact (below_size (by repeat (first|(with_reducible first|exact HB.out|apply bA|apply bN|apply bD)|exact HB.out))) : w.heap.size ≤ gb125));have n3_:=aM ((by rw [hg];exact (below_size (by repeat (first|(with_reducible first|exact HB.out|apply bA|apply bN|apply bD)|exact HB.out))) : w.heap.size ≤ gb125));clear HB;have HB:=n0_;have BK125:=n1_;have GW125:=n2_;have GE125:=n3_;clear n0_ n1_ n2_ n3_;clear hb hbox hg;have hcz6_0 : w5.cell? ⟨gb125,0,none⟩ = some (.int .i64 a0_0):=(blk_cell BK125.out 0).trans rfl;have hcz6_1 : w5.cell? ⟨gb125,1,none⟩ = some (.slice A0_1 l0_1.length c0_1):=(blk_cell BK125.out 1).trans rfl;have hfz6_0:=blk_frozen BK125.out 0;have hfz6_1:=blk_frozen BK125.out 1)|((with_reducible refine gate_callee (f:=38) rfl ?_);refine goesL_ (some 8) rfl rfl Try.func38 (by kernel_rfl) rfl #[.slice A0_1 l0_1.length c0_1,.int .i64 a1] rfl (by (try simp only [List.map_toArray,List.map_cons,List.map_nil]);first|done|rfl|(simp only [List.length_drop,List.length_take];rfl)) ?_;(with_reducible refine (laws_szItemS.calls _ _ l0_1 a1 t126 _ ?side1 ?side2 A3.out).mono ?_);(case side1 => repeat (first|exact (Kd.C_below HR0_1.out HB.out)|(with_reducible refine Kd.C_alloc ?_ _)|(with_reducible refine Kd.C_drewN ?_ _)|(with_reducible refine Kd.C_drew ?_)));(case side2 => exact HC0_1.out);rintro e w' ⟨rfl,⟨nd,rfl⟩⟩;refine ⟨_,rfl,?_⟩))
  go_ret
  exact ⟨by first|rfl|(simp only [i64_w,i32_w];done)|(simp only [i64_w,i32_w];rfl)|(simp [errW_none,errW_some] <;> rfl)|(simp [*,errW_none,errW_some] <;> rfl),by repeat (first|(with_reducible first|exact HB.out|apply bA|apply bN|apply bD|refine below_set ?_ GE125.out)|exact HB.out)⟩
 ·rw [if_neg c4] at H
  have c4b0 : decide (t126 < 0) = false:=decide_eq_false c4
  clear c4
  obtain rfl:=Option.some.inj H
  go_enter Try.func13,Try.ntmps13
  go_wp2_with (first|((with_reducible refine gate_dst (N:=2) rfl ?_);refine box_event ?hg (N:=2) ?hd (cs:=#[.int .i64 a0_0,.slice A0_1 l0_1.length c0_1]) (t:=32) ?hr ?_;(case hd => rfl);(case hg => rfl);(case hr => first|(go_simp;done)|(go_simp;rfl));intro gb125 hg w7 hbox hb;have n0_:=aM (below_step (by repeat (first|(with_reducible first|exact HB.out|apply bA|apply bN|apply bD)|exact HB.out)) hb);have n1_:=aM (hbox);have n2_:=aM ((by rw [hg];exact (below_size (by repeat (first|(with_reducible first|exact HB.out|apply bA|apply bN|apply bD)|exact HB.out))) : w.heap.size ≤ gb125));have n3_:=aM ((by rw [hg];exact (below_size (by repeat (first|(with_reducible first|exact HB.out|apply bA|apply bN|apply bD)|exact HB.out))) : w.heap.size ≤ gb125));clear HB;have HB:=n0_;have BK125:=n1_;have GW125:=n2_;have GE125:=n3_;clear n0_ n1_ n2_ n3_;clear hb hbox hg;have hcz8_0 : w7.cell? ⟨gb125,0,none⟩ = some (.int .i64 a0_0):=(blk_cell BK125.out 0).trans rfl;have hcz8_1 : w7.cell? ⟨gb125,1,none⟩ = some (.slice A0_1 l0_1.length c0_1):=(blk_cell BK125.out 1).trans rfl;have hfz8_0:=blk_frozen BK125.out 0;have hfz8_1:=blk_frozen BK125.out 1)|((with_reducible refine gate_callee (f:=38) rfl ?_);refine goesL_ (some 8) rfl rfl Try.func38 (by kernel_rfl) rfl #[.slice A0_1 l0_1.length c0_1,.int .i64 a1] rfl (by (try simp only [List.map_toArray,List.map_cons,List.map_nil]);first|done|rfl|(simp only [List.length_drop,List.length_take];rfl)) ?_;(with_reducible refine (laws_szItemS.calls _ _ l0_1 a1 t126 _ ?side1 ?side2 A3.out).mono ?_);(case side1 => repeat (first|exact (Kd.C_below HR0_1.out HB.out)|(with_reducible refine Kd.C_alloc ?_ _)|(with_reducible refine Kd.C_drewN ?_ _)|(with_reducible refine Kd.C_drew ?_)));(case side2 => exact HC0_1.out);rintro e w' ⟨rfl,⟨nd,rfl⟩⟩;refine ⟨_,rfl,?_⟩))
  go_ret
  exact ⟨by first|rfl|(simp only [i64_w,i32_w];done)|(simp only [i64_w,i32_w];rfl)|(simp [errW_none,errW_some] <;> rfl)|(simp [*,errW_none,errW_some] <;> rfl),by repeat (first|(with_reducible first|exact HB.out|apply bA|apply bN|apply bD|refine below_set ?_ GE125.out)|exact HB.out)⟩

/-! ### laws_szVoteS: function 21 -/
def laws_szVoteS.l0 : Nat → List (S32) → Int → Int → Option (Int)
 | 0,_,_,_ => none
 | k + 1,x0,x1,x5 => if x5 < (x0.length : Int) then (if 0 ≤ x5 then ((laws_szVote.f ((rd_T32 x0 x5).f0) ((rd_T32 x0 x5).f1) x1).bind fun t128 => (if t128 < 0 then (some (-1)) else (laws_szVoteS.l0 k x0 t128 (wrap64 (x5 + 1))))) else (none)) else (some x1)
def laws_szVoteS.f (k : Nat) (l0 : List (S32)) (a1 : Int) : Option (Int):=if (wrap64 (a1 - (l0.length : Int))) < 0 then (some (-1)) else (laws_szVoteS.l0 k l0 (wrap64 (a1 - (l0.length : Int))) 0)
theorem laws_szVoteS.mono_l : ∀ k,(∀ y0 y1 y2,LeO (laws_szVoteS.l0 k y0 y1 y2) (laws_szVoteS.l0 (k + 1) y0 y1 y2))
 | 0 => fun _ _ _ r h => by simp [laws_szVoteS.l0] at h
 | k + 1 => by
  have ih0:=laws_szVoteS.mono_l k
  ·intro y0 y1 y2
   unfold laws_szVoteS.l0
   repeat' first
   | exact LeO.refl _
   | exact ih0 _ _ _
   | exact LeO.none _
   | refine LeO.ite ?_ ?_
   | refine LeO.bind ?_ (fun _ => ?_)
theorem laws_szVoteS.mono : ∀ a0 a1 k,LeO (laws_szVoteS.f k a0 a1) (laws_szVoteS.f (k + 1) a0 a1):=by
 intro a0 a1 k
 have ih0:=laws_szVoteS.mono_l k
 unfold laws_szVoteS.f
 repeat' first
   | exact LeO.refl _
   | exact ih0 _ _ _
   | exact LeO.none _
   | refine LeO.ite ?_ ?_
   | refine LeO.bind ?_ (fun _ => ?_)
set_option maxHeartbeats 8000000 in
set_option maxRecDepth 100000 in
theorem laws_szVoteS.calls (k : Nat) (A0 : Option Addr) (c0 : Nat) (l0 : List (S32)) (a1 : Int) (r : Int) (w : World) (hr0 : Kd.C k32 w A0 l0.length l0) (hc0 : l0.length ≤ c0) (h : laws_szVoteS.f k l0 a1 = some r) :
  Calls Try.prog 21 #[.slice A0 l0.length c0,.int .i64 a1] w fun e w' => e = .returned (.int .i64 r) ∧ Below w.heap.size w w':=by
 have hu32:=Try.underlying32
 have HR0:=aM hr0
 have HC0:=aM hc0
 clear hr0 hc0
 have HB:=aM (Below.refl w.heap.size w)
 have H : (if (wrap64 (a1 - (l0.length : Int))) < 0 then (some (-1)) else (laws_szVoteS.l0 k l0 (wrap64 (a1 - (l0.length : Int))) 0)) = some r:=h
 clear h
 by_cases c3 : (wrap64 (a1 - (l0.length : Int))) < 0
 ·rw [if_pos c3] at H
  have c3b0 : decide ((wrap64 (a1 - (l0.length : Int))) < 0) = true:=decide_eq_true c3
  clear c3
  obtain rfl:=Option.some.inj H
  go_enter Try.func21,Try.ntmps21
  go_wp2
  go_ret
  exact ⟨by first|rfl|(simp only [i64_w,i32_w];done)|(simp only [i64_w,i32_w];rfl)|(simp [errW_none,errW_some] <;> rfl)|(simp [*,errW_none,errW_some] <;> rfl),by repeat (first|(with_reducible first|exact HB.out|apply bA|apply bN|apply bD)|exact HB.out)⟩
 ·rw [if_neg c3] at H
  have c3b0 : decide ((wrap64 (a1 - (l0.length : Int))) < 0) = false:=decide_eq_false c3
  clear c3
  have H':=aM H
  clear H
  go_enter Try.func21,Try.ntmps21
  go_wp2
  go_loopg [1,5] k (fun kq v1 v5 w' => ∃ (x1_1 : Int) (x5_1 : Int),v1 = .int .i64 x1_1 ∧ v5 = .int .i64 x5_1 ∧ Aside0 (laws_szVoteS.l0 kq l0 x1_1 x5_1 = some r) ∧ Aside0 (kq ≤ k) ∧ Aside0 (Below w.heap.size w w'))
  case atStart => exact ⟨(wrap64 (a1 - (l0.length : Int))),(0),(by first|rfl|(simp;done)|(simp [*];done)),(by first|rfl|(simp;done)|(simp [*];done)),H',⟨Nat.le_refl _⟩,⟨by repeat (first|(with_reducible first|exact HB.out|apply bA|apply bN|apply bD)|exact HB.out)⟩⟩
  case round =>
   clear H'
   try clear c2
   try clear p2
   try clear c3
   try clear c3b0
   obtain ⟨x1_1,x5_1,rfl,rfl,HA,HK1,HB⟩:=hrel
   cases gk with
   | zero => exact absurd HA.out (by simp [laws_szVoteS.l0])
   | succ k1 =>
    have H:=HA.out
    clear HA
    simp only [laws_szVoteS.l0] at H
    by_cases c4 : x5_1 < (l0.length : Int)
    ·rw [if_pos c4] at H
     have c4b0 : decide (x5_1 < (l0.length : Int)) = true:=decide_eq_true c4
     clear c4
     by_cases c5 : 0 ≤ x5_1
     case neg => rw [if_neg c5] at H;exact absurd H (by simp)
     rw [if_pos c5] at H
     have c5b0 : decide (0 ≤ x5_1) = true:=decide_eq_true c5
     clear c5
     replace H:=Option.bind_eq_some_iff.mp H
     obtain ⟨t128,A60,H⟩:=H
     replace H : (if t128 < 0 then (some (-1)) else (laws_szVoteS.l0 k1 l0 t128 (wrap64 (x5_1 + 1)))) = some r:=H
     have A6:=aM A60
     clear A60
     by_cases c7 : t128 < 0
     ·rw [if_pos c7] at H
      have c7b0 : decide (t128 < 0) = true:=decide_eq_true c7
      clear c7
      obtain rfl:=Option.some.inj H
      have p127 : 0 ≤ (x5_1 : Int):=of_decide_eq_true (by first|(with_reducible assumption)|assumption)
      have q127 : x5_1 < (l0.length : Int):=of_decide_eq_true (by first|(with_reducible assumption)|assumption)
      obtain ⟨ad127,A127_1,c127_1,e127,hx127_0,hx127_1,hl127_1,hi127_1⟩:=at_T32 HR0.out x5_1 p127 q127
      cases e127
      replace hx127_0:=(HB.out.cell (bL w hx127_0)).trans hx127_0
      replace hx127_1:=(HB.out.cell (bL w hx127_1)).trans hx127_1
      have HR127_1:=aM hi127_1
      have HC127_1:=aM hl127_1
      clear hi127_1 hl127_1
      replace p127:=eq_true p127
      replace q127:=eq_true q127
      go_wp2_with (first|((with_reducible refine gate_callee (f:=13) rfl ?_);refine goesL_ (some 23) rfl rfl Try.func13 (by kernel_rfl) rfl #[.agg #[.int .i64 ((rd_T32 l0 x5_1).f0),.slice A127_1 ((rd_T32 l0 x5_1).f1).length c127_1],.int .i64 x1_1] rfl (by (try simp only [List.map_toArray,List.map_cons,List.map_nil]);first|done|rfl|(simp only [List.length_drop,List.length_take];rfl)) ?_;(with_reducible refine (laws_szVote.calls ((rd_T32 l0 x5_1).f0) _ _ ((rd_T32 l0 x5_1).f1) x1_1 t128 _ ?side1 ?side2 A6.out).mono ?_);(case side1 => repeat (first|exact (Kd.C_below HR127_1.out HB.out)|(with_reducible refine Kd.C_alloc ?_ _)|(with_reducible refine Kd.C_drewN ?_ _)|(with_reducible refine Kd.C_drew ?_)));(case side2 => exact HC127_1.out);rintro e w8 ⟨rfl,hb⟩;refine ⟨_,rfl,?_⟩;have n0_:=aM (below_step (by repeat (first|(with_reducible first|exact HB.out|apply bA|apply bN|apply bD)|exact HB.out)) hb);clear HB;have HB:=n0_;clear n0_;(try clear hb);(try clear hb2);(try clear hk);(try clear hi)))
      go_ret
      exact ⟨by first|rfl|(simp only [i64_w,i32_w];done)|(simp only [i64_w,i32_w];rfl)|(simp [errW_none,errW_some] <;> rfl)|(simp [*,errW_none,errW_some] <;> rfl),by repeat (first|(with_reducible first|exact HB.out|apply bA|apply bN|apply bD)|exact HB.out)⟩
     ·rw [if_neg c7] at H
      have c7b0 : decide (t128 < 0) = false:=decide_eq_false c7
      clear c7
      have H':=aM H
      clear H
      have p127 : 0 ≤ (x5_1 : Int):=of_decide_eq_true (by first|(with_reducible assumption)|assumption)
      have q127 : x5_1 < (l0.length : Int):=of_decide_eq_true (by first|(with_reducible assumption)|assumption)
      obtain ⟨ad127,A127_1,c127_1,e127,hx127_0,hx127_1,hl127_1,hi127_1⟩:=at_T32 HR0.out x5_1 p127 q127
      cases e127
      replace hx127_0:=(HB.out.cell (bL w hx127_0)).trans hx127_0
      replace hx127_1:=(HB.out.cell (bL w hx127_1)).trans hx127_1
      have HR127_1:=aM hi127_1
      have HC127_1:=aM hl127_1
      clear hi127_1 hl127_1
      replace p127:=eq_true p127
      replace q127:=eq_true q127
      go_wp2_with (first|((with_reducible refine gate_callee (f:=13) rfl ?_);refine goesL_ (some 23) rfl rfl Try.func13 (by kernel_rfl) rfl #[.agg #[.int .i64 ((rd_T32 l0 x5_1).f0),.slice A127_1 ((rd_T32 l0 x5_1).f1).length c127_1],.int .i64 x1_1] rfl (by (try simp only [List.map_toArray,List.map_cons,List.map_nil]);first|done|rfl|(simp only [List.length_drop,List.length_take];rfl)) ?_;(with_reducible refine (laws_szVote.calls ((rd_T32 l0 x5_1).f0) _ _ ((rd_T32 l0 x5_1).f1) x1_1 t128 _ ?side1 ?side2 A6.out).mono ?_);(case side1 => repeat (first|exact (Kd.C_below HR127_1.out HB.out)|(with_reducible refine Kd.C_alloc ?_ _)|(with_reducible refine Kd.C_drewN ?_ _)|(with_reducible refine Kd.C_drew ?_)));(case side2 => exact HC127_1.out);rintro e w9 ⟨rfl,hb⟩;refine ⟨_,rfl,?_⟩;have n0_:=aM (below_step (by repeat (first|(with_reducible first|exact HB.out|apply bA|apply bN|apply bD)|exact HB.out)) hb);clear HB;have HB:=n0_;clear n0_;(try clear hb);(try clear hb2);(try clear hk);(try clear hi)))
      go_roundg k1
      case measure => have:=HK1.out;omega
      case rel => exact ⟨(t128),(wrap64 (x5_1 + 1)),(by first|rfl|(simp;done)|(simp [*];done)),(by first|rfl|(simp;done)|(simp [*];done)),H',⟨by have:=HK1.out;omega⟩,⟨by repeat (first|(with_reducible first|exact HB.out|apply bA|apply bN|apply bD)|exact HB.out)⟩⟩
    ·rw [if_neg c4] at H
     have c4b0 : decide (x5_1 < (l0.length : Int)) = false:=decide_eq_false c4
     clear c4
     obtain rfl:=Option.some.inj H
     go_wp2
     go_ret
     exact ⟨by first|rfl|(simp only [i64_w,i32_w];done)|(simp only [i64_w,i32_w];rfl)|(simp [errW_none,errW_some] <;> rfl)|(simp [*,errW_none,errW_some] <;> rfl),by repeat (first|(with_reducible first|exact HB.out|apply bA|apply bN|apply bD)|exact HB.out)⟩

/-! ### laws_szNode: function 28 -/
def laws_szNode.f (k : Nat) (a0_0 : Int) (a0_1 : Int) (a0_2 : Int) (l0_3 : List (S32)) (a1 : Int) : Option (Int):=(laws_szVoteS.f k l0_3 a1).bind fun t130 => (if t130 < 0 then (some (-1)) else (some t130))
theorem laws_szNode.mono : ∀ a0 a1 a2 a3 a4 k,LeO (laws_szNode.f k a0 a1 a2 a3 a4) (laws_szNode.f (k + 1) a0 a1 a2 a3 a4):=by
 intro a0 a1 a2 a3 a4 k
 unfold laws_szNode.f
 repeat' first
   | exact LeO.refl _
   | exact laws_szVoteS.mono _ _ _
   | exact LeO.none _
   | refine LeO.ite ?_ ?_
   | refine LeO.bind ?_ (fun _ => ?_)
set_option maxHeartbeats 8000000 in
set_option maxRecDepth 100000 in
theorem laws_szNode.calls (k : Nat) (a0_0 : Int) (a0_1 : Int) (a0_2 : Int) (A0_3 : Option Addr) (c0_3 : Nat) (l0_3 : List (S32)) (a1 : Int) (r : Int) (w : World) (hr0_3 : Kd.C k32 w A0_3 l0_3.length l0_3) (hc0_3 : l0_3.length ≤ c0_3) (h : laws_szNode.f k a0_0 a0_1 a0_2 l0_3 a1 = some r) :
  Calls Try.prog 28 #[.agg #[.int .i64 a0_0,.int .i64 a0_1,.int .i64 a0_2,.slice A0_3 l0_3.length c0_3],.int .i64 a1] w fun e w' => e = .returned (.int .i64 r) ∧ Below w.heap.size w w':=by
 have hu54:=Try.underlying54
 have HR0_3:=aM hr0_3
 have HC0_3:=aM hc0_3
 clear hr0_3 hc0_3
 have HB:=aM (Below.refl w.heap.size w)
 have H : ((laws_szVoteS.f k l0_3 a1).bind fun t130 => (if t130 < 0 then (some (-1)) else (some t130))) = some r:=h
 clear h
 replace H:=Option.bind_eq_some_iff.mp H
 obtain ⟨t130,A30,H⟩:=H
 replace H : (if t130 < 0 then (some (-1)) else (some t130)) = some r:=H
 have A3:=aM A30
 clear A30
 by_cases c4 : t130 < 0
 ·rw [if_pos c4] at H
  have c4b0 : decide (t130 < 0) = true:=decide_eq_true c4
  clear c4
  obtain rfl:=Option.some.inj H
  go_enter Try.func28,Try.ntmps28
  go_wp2_with (first|((with_reducible refine gate_dst (N:=2) rfl ?_);refine box_event ?hg (N:=2) ?hd (cs:=#[.int .i64 a0_0,.int .i64 a0_1,.int .i64 a0_2,.slice A0_3 l0_3.length c0_3]) (t:=54) ?hr ?_;(case hd => rfl);(case hg => rfl);(case hr => first|(go_simp;done)|(go_simp;rfl));intro gb129 hg w5 hbox hb;have n0_:=aM (below_step (by repeat (first|(with_reducible first|exact HB.out|apply bA|apply bN|apply bD)|exact HB.out)) hb);have n1_:=aM (hbox);have n2_:=aM ((by rw [hg];exact (below_size (by repeat (first|(with_reducible first|exact HB.out|apply bA|apply bN|apply bD)|exact HB.out))) : w.heap.size ≤ gb129));have n3_:=aM ((by rw [hg];exact (below_size (by repeat (first|(with_reducible first|exact HB.out|apply bA|apply bN|apply bD)|exact HB.out))) : w.heap.size ≤ gb129));clear HB;have HB:=n0_;have BK129:=n1_;have GW129:=n2_;have GE129:=n3_;clear n0_ n1_ n2_ n3_;clear hb hbox hg;have hcz6_0 : w5.cell? ⟨gb129,0,none⟩ = some (.int .i64 a0_0):=(blk_cell BK129.out 0).trans rfl;have hcz6_1 : w5.cell? ⟨gb129,1,none⟩ = some (.int .i64 a0_1):=(blk_cell BK129.out 1).trans rfl;have hcz6_2 : w5.cell? ⟨gb129,2,none⟩ = some (.int .i64 a0_2):=(blk_cell BK129.out 2).trans rfl;have hcz6_3 : w5.cell? ⟨gb129,3,none⟩ = some (.slice A0_3 l0_3.length c0_3):=(blk_cell BK129.out 3).trans rfl;have hfz6_0:=blk_frozen BK129.out 0;have hfz6_1:=blk_frozen BK129.out 1;have hfz6_2:=blk_frozen BK129.out 2;have hfz6_3:=blk_frozen BK129.out 3)|((with_reducible refine gate_callee (f:=21) rfl ?_);refine goesL_ (some 8) rfl rfl Try.func21 (by kernel_rfl) rfl #[.slice A0_3 l0_3.length c0_3,.int .i64 a1] rfl (by (try simp only [List.map_toArray,List.map_cons,List.map_nil]);first|done|rfl|(simp only [List.length_drop,List.length_take];rfl)) ?_;(with_reducible refine (laws_szVoteS.calls k _ _ l0_3 a1 t130 _ ?side1 ?side2 A3.out).mono ?_);(case side1 => repeat (first|exact (Kd.C_below HR0_3.out HB.out)|(with_reducible refine Kd.C_alloc ?_ _)|(with_reducible refine Kd.C_drewN ?_ _)|(with_reducible refine Kd.C_drew ?_)));(case side2 => exact HC0_3.out);rintro e w7 ⟨rfl,hb⟩;refine ⟨_,rfl,?_⟩;have n0_:=aM (blk_below (g:=gb129) (o:=.cells #[.int .i64 a0_0,.int .i64 a0_1,.int .i64 a0_2,.slice A0_3 l0_3.length c0_3] 54 (0,0)) (by (with_reducible repeat (first|refine blk_drewN ?_ _|refine blk_drew ?_|refine blk_alloc ?_ _));exact BK129.out) hb);have n1_:=aM (below_step (by repeat (first|(with_reducible first|exact HB.out|apply bA|apply bN|apply bD|refine below_set ?_ GE129.out)|exact HB.out)) hb);clear BK129;clear HB;have BK129:=n0_;have HB:=n1_;clear n0_ n1_;(try clear hb);(try clear hb2);(try clear hk);(try clear hi)))
  go_ret
  exact ⟨by first|rfl|(simp only [i64_w,i32_w];done)|(simp only [i64_w,i32_w];rfl)|(simp [errW_none,errW_some] <;> rfl)|(simp [*,errW_none,errW_some] <;> rfl),by repeat (first|(with_reducible first|exact HB.out|apply bA|apply bN|apply bD|refine below_set ?_ GE129.out)|exact HB.out)⟩
 ·rw [if_neg c4] at H
  have c4b0 : decide (t130 < 0) = false:=decide_eq_false c4
  clear c4
  obtain rfl:=Option.some.inj H
  go_enter Try.func28,Try.ntmps28
  go_wp2_with (first|((with_reducible refine gate_dst (N:=2) rfl ?_);refine box_event ?hg (N:=2) ?hd (cs:=#[.int .i64 a0_0,.int .i64 a0_1,.int .i64 a0_2,.slice A0_3 l0_3.length c0_3]) (t:=54) ?hr ?_;(case hd => rfl);(case hg => rfl);(case hr => first|(go_simp;done)|(go_simp;rfl));intro gb129 hg w8 hbox hb;have n0_:=aM (below_step (by repeat (first|(with_reducible first|exact HB.out|apply bA|apply bN|apply bD)|exact HB.out)) hb);have n1_:=aM (hbox);have n2_:=aM ((by rw [hg];exact (below_size (by repeat (first|(with_reducible first|exact HB.out|apply bA|apply bN|apply bD)|exact HB.out))) : w.heap.size ≤ gb129));have n3_:=aM ((by rw [hg];exact (below_size (by repeat (first|(with_reducible first|exact HB.out|apply bA|apply bN|apply bD)|exact HB.out))) : w.heap.size ≤ gb129));clear HB;have HB:=n0_;have BK129:=n1_;have GW129:=n2_;have GE129:=n3_;clear n0_ n1_ n2_ n3_;clear hb hbox hg;have hcz9_0 : w8.cell? ⟨gb129,0,none⟩ = some (.int .i64 a0_0):=(blk_cell BK129.out 0).trans rfl;have hcz9_1 : w8.cell? ⟨gb129,1,none⟩ = some (.int .i64 a0_1):=(blk_cell BK129.out 1).trans rfl;have hcz9_2 : w8.cell? ⟨gb129,2,none⟩ = some (.int .i64 a0_2):=(blk_cell BK129.out 2).trans rfl;have hcz9_3 : w8.cell? ⟨gb129,3,none⟩ = some (.slice A0_3 l0_3.length c0_3):=(blk_cell BK129.out 3).trans rfl;have hfz9_0:=blk_frozen BK129.out 0;have hfz9_1:=blk_frozen BK129.out 1;have hfz9_2:=blk_frozen BK129.out 2;have hfz9_3:=blk_frozen BK129.out 3)|((with_reducible refine gate_callee (f:=21) rfl ?_);refine goesL_ (some 8) rfl rfl Try.func21 (by kernel_rfl) rfl #[.slice A0_3 l0_3.length c0_3,.int .i64 a1] rfl (by (try simp only [List.map_toArray,List.map_cons,List.map_nil]);first|done|rfl|(simp only [List.length_drop,List.length_take];rfl)) ?_;(with_reducible refine (laws_szVoteS.calls k _ _ l0_3 a1 t130 _ ?side1 ?side2 A3.out).mono ?_);(case side1 => repeat (first|exact (Kd.C_below HR0_3.out HB.out)|(with_reducible refine Kd.C_alloc ?_ _)|(with_reducible refine Kd.C_drewN ?_ _)|(with_reducible refine Kd.C_drew ?_)));(case side2 => exact HC0_3.out);rintro e w10 ⟨rfl,hb⟩;refine ⟨_,rfl,?_⟩;have n0_:=aM (blk_below (g:=gb129) (o:=.cells #[.int .i64 a0_0,.int .i64 a0_1,.int .i64 a0_2,.slice A0_3 l0_3.length c0_3] 54 (0,0)) (by (with_reducible repeat (first|refine blk_drewN ?_ _|refine blk_drew ?_|refine blk_alloc ?_ _));exact BK129.out) hb);have n1_:=aM (below_step (by repeat (first|(with_reducible first|exact HB.out|apply bA|apply bN|apply bD|refine below_set ?_ GE129.out)|exact HB.out)) hb);clear BK129;clear HB;have BK129:=n0_;have HB:=n1_;clear n0_ n1_;(try clear hb);(try clear hb2);(try clear hk);(try clear hi)))
  go_ret
  exact ⟨by first|rfl|(simp only [i64_w,i32_w];done)|(simp only [i64_w,i32_w];rfl)|(simp [errW_none,errW_some] <;> rfl)|(simp [*,errW_none,errW_some] <;> rfl),by repeat (first|(with_reducible first|exact HB.out|apply bA|apply bN|apply bD|refine below_set ?_ GE129.out)|exact HB.out)⟩

/-! ### spec_l6In: function 41 -/
def spec_l6In.f (a0 : Int) (a1 : Int) (a2 : Int) : Option (Bool):=if a0 ≥ a1 then (some (decide (a0 ≤ a2))) else (some false)
set_option maxHeartbeats 8000000 in
set_option maxRecDepth 100000 in
theorem spec_l6In.calls (a0 : Int) (a1 : Int) (a2 : Int) (r : Bool) (w : World) (h : spec_l6In.f a0 a1 a2 = some r) :
  Calls Try.prog 41 #[.int .i64 a0,.int .i64 a1,.int .i64 a2] w fun e w' => e = .returned (.bool r) ∧ Drawn0 w w':=by
 have H : (if a0 ≥ a1 then (some (decide (a0 ≤ a2))) else (some false)) = some r:=h
 clear h
 by_cases c4 : a0 ≥ a1
 ·rw [if_pos c4] at H
  have c4b0 : decide (a1 ≤ a0) = true:=decide_eq_true c4
  clear c4
  obtain rfl:=Option.some.inj H
  go_enter Try.func41,Try.ntmps41
  go_wp2
  go_ret
  exact ⟨by first|rfl|(simp;done)|(simp [*];done),by repeat (first|exact Drawn0.refl _|apply Drawn0.step)⟩
 ·rw [if_neg c4] at H
  have c4b0 : decide (a1 ≤ a0) = false:=decide_eq_false c4
  clear c4
  obtain rfl:=Option.some.inj H
  go_enter Try.func41,Try.ntmps41
  go_wp2
  go_ret
  exact ⟨by first|rfl|(simp;done)|(simp [*];done),by repeat (first|exact Drawn0.refl _|apply Drawn0.step)⟩

/-! ### spec_PayOk: function 66 -/
def spec_PayOk.f (a0_0 : Int) (a0_1 : Int) (a0_2 : Int) : Option (Bool):=(spec_l6In.f a0_0 1 3).bind fun t132 => (if t132 = true then ((spec_l6In.f a0_1 1 3).bind fun t133 => (if t133 = true then (if a0_0 = a0_1 then (some false) else ((spec_l6In.f a0_2 1 9).bind fun t134 => (some t134))) else (some false))) else (some false))
set_option maxHeartbeats 8000000 in
set_option maxRecDepth 100000 in
theorem spec_PayOk.calls (a0_0 : Int) (a0_1 : Int) (a0_2 : Int) (r : Bool) (w : World) (h : spec_PayOk.f a0_0 a0_1 a0_2 = some r) :
  Calls Try.prog 66 #[.agg #[.int .i64 a0_0,.int .i64 a0_1,.int .i64 a0_2]] w fun e w' => e = .returned (.bool r) ∧ Below w.heap.size w w':=by
 have hu63:=Try.underlying63
 have HB:=aM (Below.refl w.heap.size w)
 have H : ((spec_l6In.f a0_0 1 3).bind fun t132 => (if t132 = true then ((spec_l6In.f a0_1 1 3).bind fun t133 => (if t133 = true then (if a0_0 = a0_1 then (some false) else ((spec_l6In.f a0_2 1 9).bind fun t134 => (some t134))) else (some false))) else (some false))) = some r:=h
 clear h
 replace H:=Option.bind_eq_some_iff.mp H
 obtain ⟨t132,A20,H⟩:=H
 replace H : (if t132 = true then ((spec_l6In.f a0_1 1 3).bind fun t133 => (if t133 = true then (if a0_0 = a0_1 then (some false) else ((spec_l6In.f a0_2 1 9).bind fun t134 => (some t134))) else (some false))) else (some false)) = some r:=H
 have A2:=aM A20
 clear A20
 by_cases c3 : t132 = true
 ·subst c3
  have H1 : ((spec_l6In.f a0_1 1 3).bind fun t133 => (if t133 = true then (if a0_0 = a0_1 then (some false) else ((spec_l6In.f a0_2 1 9).bind fun t134 => (some t134))) else (some false))) = some r:=by rw [if_pos rfl] at H;exact H
  clear H
  have H:=H1
  clear H1
  replace H:=Option.bind_eq_some_iff.mp H
  obtain ⟨t133,A40,H⟩:=H
  replace H : (if t133 = true then (if a0_0 = a0_1 then (some false) else ((spec_l6In.f a0_2 1 9).bind fun t134 => (some t134))) else (some false)) = some r:=H
  have A4:=aM A40
  clear A40
  by_cases c5 : t133 = true
  ·subst c5
   have H1 : (if a0_0 = a0_1 then (some false) else ((spec_l6In.f a0_2 1 9).bind fun t134 => (some t134))) = some r:=by rw [if_pos rfl] at H;exact H
   clear H
   have H:=H1
   clear H1
   by_cases c6 : a0_0 = a0_1
   ·rw [if_pos c6] at H
    have c6b0 : (a0_0 == a0_1) = true:=beq_iff_eq.mpr c6
    have c6b1 : (a0_0 != a0_1) = false:=bne_eq_false_iff_eq.mpr c6
    clear c6
    obtain rfl:=Option.some.inj H
    go_enter Try.func66,Try.ntmps66
    go_wp2_with (first|((with_reducible refine gate_dst (N:=1) rfl ?_);refine box_event ?hg (N:=1) ?hd (cs:=#[.int .i64 a0_0,.int .i64 a0_1,.int .i64 a0_2]) (t:=63) ?hr ?_;(case hd => rfl);(case hg => rfl);(case hr => first|(go_simp;done)|(go_simp;rfl));intro gb131 hg w7 hbox hb;have n0_:=aM (below_step (by repeat (first|(with_reducible first|exact HB.out|apply bA|apply bN|apply bD)|exact HB.out)) hb);have n1_:=aM (hbox);have n2_:=aM ((by rw [hg];exact (below_size (by repeat (first|(with_reducible first|exact HB.out|apply bA|apply bN|apply bD)|exact HB.out))) : w.heap.size ≤ gb131));have n3_:=aM ((by rw [hg];exact (below_size (by repeat (first|(with_reducible first|exact HB.out|apply bA|apply bN|apply bD)|exact HB.out))) : w.heap.size ≤ gb131));clear HB;have HB:=n0_;have BK131:=n1_;have GW131:=n2_;have GE131:=n3_;clear n0_ n1_ n2_ n3_;clear hb hbox hg;have hcz8_0 : w7.cell? ⟨gb131,0,none⟩ = some (.int .i64 a0_0):=(blk_cell BK131.out 0).trans rfl;have hcz8_1 : w7.cell? ⟨gb131,1,none⟩ = some (.int .i64 a0_1):=(blk_cell BK131.out 1).trans rfl;have hcz8_2 : w7.cell? ⟨gb131,2,none⟩ = some (.int .i64 a0_2):=(blk_cell BK131.out 2).trans rfl;have hfz8_0:=blk_frozen BK131.out 0;have hfz8_1:=blk_frozen BK131.out 1;have hfz8_2:=blk_frozen BK131.out 2)|((with_reducible refine gate_callee (f:=41) rfl ?_);refine goesL_ (some 5) rfl rfl Try.func41 (by kernel_rfl) rfl #[.int .i64 a0_0,.int .i64 1,.int .i64 3] rfl (by (try simp only [List.map_toArray,List.map_cons,List.map_nil]);first|done|rfl|(simp only [List.length_drop,List.length_take];rfl)) ?_;(with_reducible refine (spec_l6In.calls a0_0 1 3 true _ A2.out).mono ?_);rintro e w' ⟨rfl,⟨nd,rfl⟩⟩;refine ⟨_,rfl,?_⟩)|(go_at_call 41;(with_reducible refine (spec_l6In.calls a0_1 1 3 true _ A4.out).mono ?_);rintro e w' ⟨rfl,⟨nd,rfl⟩⟩))
    go_ret
    exact ⟨by first|rfl|(simp only [i64_w,i32_w];done)|(simp only [i64_w,i32_w];rfl)|(simp [errW_none,errW_some] <;> rfl)|(simp [*,errW_none,errW_some] <;> rfl),by repeat (first|(with_reducible first|exact HB.out|apply bA|apply bN|apply bD|refine below_set ?_ GE131.out)|exact HB.out)⟩
   ·rw [if_neg c6] at H
    have c6b0 : (a0_0 == a0_1) = false:=beq_eq_false_iff_ne.mpr c6
    have c6b1 : (a0_0 != a0_1) = true:=bne_iff_ne.mpr c6
    replace H:=Option.bind_eq_some_iff.mp H
    obtain ⟨t134,A90,H⟩:=H
    replace H : (some t134) = some r:=H
    have A9:=aM A90
    clear A90
    obtain rfl:=Option.some.inj H
    go_enter Try.func66,Try.ntmps66
    go_wp2_with (first|((with_reducible refine gate_dst (N:=1) rfl ?_);refine box_event ?hg (N:=1) ?hd (cs:=#[.int .i64 a0_0,.int .i64 a0_1,.int .i64 a0_2]) (t:=63) ?hr ?_;(case hd => rfl);(case hg => rfl);(case hr => first|(go_simp;done)|(go_simp;rfl));intro gb131 hg w10 hbox hb;have n0_:=aM (below_step (by repeat (first|(with_reducible first|exact HB.out|apply bA|apply bN|apply bD)|exact HB.out)) hb);have n1_:=aM (hbox);have n2_:=aM ((by rw [hg];exact (below_size (by repeat (first|(with_reducible first|exact HB.out|apply bA|apply bN|apply bD)|exact HB.out))) : w.heap.size ≤ gb131));have n3_:=aM ((by rw [hg];exact (below_size (by repeat (first|(with_reducible first|exact HB.out|apply bA|apply bN|apply bD)|exact HB.out))) : w.heap.size ≤ gb131));clear HB;have HB:=n0_;have BK131:=n1_;have GW131:=n2_;have GE131:=n3_;clear n0_ n1_ n2_ n3_;clear hb hbox hg;have hcz11_0 : w10.cell? ⟨gb131,0,none⟩ = some (.int .i64 a0_0):=(blk_cell BK131.out 0).trans rfl;have hcz11_1 : w10.cell? ⟨gb131,1,none⟩ = some (.int .i64 a0_1):=(blk_cell BK131.out 1).trans rfl;have hcz11_2 : w10.cell? ⟨gb131,2,none⟩ = some (.int .i64 a0_2):=(blk_cell BK131.out 2).trans rfl;have hfz11_0:=blk_frozen BK131.out 0;have hfz11_1:=blk_frozen BK131.out 1;have hfz11_2:=blk_frozen BK131.out 2)|((with_reducible refine gate_callee (f:=41) rfl ?_);refine goesL_ (some 5) rfl rfl Try.func41 (by kernel_rfl) rfl #[.int .i64 a0_0,.int .i64 1,.int .i64 3] rfl (by (try simp only [List.map_toArray,List.map_cons,List.map_nil]);first|done|rfl|(simp only [List.length_drop,List.length_take];rfl)) ?_;(with_reducible refine (spec_l6In.calls a0_0 1 3 true _ A2.out).mono ?_);rintro e w' ⟨rfl,⟨nd,rfl⟩⟩;refine ⟨_,rfl,?_⟩)|(go_at_call 41;(with_reducible refine (spec_l6In.calls a0_1 1 3 true _ A4.out).mono ?_);rintro e w' ⟨rfl,⟨nd,rfl⟩⟩)|(go_at_call 41;(with_reducible refine (spec_l6In.calls a0_2 1 9 t134 _ A9.out).mono ?_);rintro e w' ⟨rfl,⟨nd,rfl⟩⟩))
    go_ret
    exact ⟨by first|rfl|(simp only [i64_w,i32_w];done)|(simp only [i64_w,i32_w];rfl)|(simp [errW_none,errW_some] <;> rfl)|(simp [*,errW_none,errW_some] <;> rfl),by repeat (first|(with_reducible first|exact HB.out|apply bA|apply bN|apply bD|refine below_set ?_ GE131.out)|exact HB.out)⟩
  ·replace c5:=Bool.eq_false_iff.mpr c5
   subst c5
   have H1 : (some false) = some r:=by rw [if_neg (show ¬ (false = true) by decide)] at H;exact H
   clear H
   have H:=H1
   clear H1
   obtain rfl:=Option.some.inj H
   go_enter Try.func66,Try.ntmps66
   go_wp2_with (first|((with_reducible refine gate_dst (N:=1) rfl ?_);refine box_event ?hg (N:=1) ?hd (cs:=#[.int .i64 a0_0,.int .i64 a0_1,.int .i64 a0_2]) (t:=63) ?hr ?_;(case hd => rfl);(case hg => rfl);(case hr => first|(go_simp;done)|(go_simp;rfl));intro gb131 hg w12 hbox hb;have n0_:=aM (below_step (by repeat (first|(with_reducible first|exact HB.out|apply bA|apply bN|apply bD)|exact HB.out)) hb);have n1_:=aM (hbox);have n2_:=aM ((by rw [hg];exact (below_size (by repeat (first|(with_reducible first|exact HB.out|apply bA|apply bN|apply bD)|exact HB.out))) : w.heap.size ≤ gb131));have n3_:=aM ((by rw [hg];exact (below_size (by repeat (first|(with_reducible first|exact HB.out|apply bA|apply bN|apply bD)|exact HB.out))) : w.heap.size ≤ gb131));clear HB;have HB:=n0_;have BK131:=n1_;have GW131:=n2_;have GE131:=n3_;clear n0_ n1_ n2_ n3_;clear hb hbox hg;have hcz13_0 : w12.cell? ⟨gb131,0,none⟩ = some (.int .i64 a0_0):=(blk_cell BK131.out 0).trans rfl;have hcz13_1 : w12.cell? ⟨gb131,1,none⟩ = some (.int .i64 a0_1):=(blk_cell BK131.out 1).trans rfl;have hcz13_2 : w12.cell? ⟨gb131,2,none⟩ = some (.int .i64 a0_2):=(blk_cell BK131.out 2).trans rfl;have hfz13_0:=blk_frozen BK131.out 0;have hfz13_1:=blk_frozen BK131.out 1;have hfz13_2:=blk_frozen BK131.out 2)|((with_reducible refine gate_callee (f:=41) rfl ?_);refine goesL_ (some 5) rfl rfl Try.func41 (by kernel_rfl) rfl #[.int .i64 a0_0,.int .i64 1,.int .i64 3] rfl (by (try simp only [List.map_toArray,List.map_cons,List.map_nil]);first|done|rfl|(simp only [List.length_drop,List.length_take];rfl)) ?_;(with_reducible refine (spec_l6In.calls a0_0 1 3 true _ A2.out).mono ?_);rintro e w' ⟨rfl,⟨nd,rfl⟩⟩;refine ⟨_,rfl,?_⟩)|(go_at_call 41;(with_reducible refine (spec_l6In.calls a0_1 1 3 false _ A4.out).mono ?_);rintro e w' ⟨rfl,⟨nd,rfl⟩⟩))
   go_ret
   exact ⟨by first|rfl|(simp only [i64_w,i32_w];done)|(simp only [i64_w,i32_w];rfl)|(simp [errW_none,errW_some] <;> rfl)|(simp [*,errW_none,errW_some] <;> rfl),by repeat (first|(with_reducible first|exact HB.out|apply bA|apply bN|apply bD|refine below_set ?_ GE131.out)|exact HB.out)⟩
 ·replace c3:=Bool.eq_false_iff.mpr c3
  subst c3
  have H1 : (some false) = some r:=by rw [if_neg (show ¬ (false = true) by decide)] at H;exact H
  clear H
  have H:=H1
  clear H1
  obtain rfl:=Option.some.inj H
  go_enter Try.func66,Try.ntmps66
  go_wp2_with (first|((with_reducible refine gate_dst (N:=1) rfl ?_);refine box_event ?hg (N:=1) ?hd (cs:=#[.int .i64 a0_0,.int .i64 a0_1,.int .i64 a0_2]) (t:=63) ?hr ?_;(case hd => rfl);(case hg => rfl);(case hr => first|(go_simp;done)|(go_simp;rfl));intro gb131 hg w14 hbox hb;have n0_:=aM (below_step (by repeat (first|(with_reducible first|exact HB.out|apply bA|apply bN|apply bD)|exact HB.out)) hb);have n1_:=aM (hbox);have n2_:=aM ((by rw [hg];exact (below_size (by repeat (first|(with_reducible first|exact HB.out|apply bA|apply bN|apply bD)|exact HB.out))) : w.heap.size ≤ gb131));have n3_:=aM ((by rw [hg];exact (below_size (by repeat (first|(with_reducible first|exact HB.out|apply bA|apply bN|apply bD)|exact HB.out))) : w.heap.size ≤ gb131));clear HB;have HB:=n0_;have BK131:=n1_;have GW131:=n2_;have GE131:=n3_;clear n0_ n1_ n2_ n3_;clear hb hbox hg;have hcz15_0 : w14.cell? ⟨gb131,0,none⟩ = some (.int .i64 a0_0):=(blk_cell BK131.out 0).trans rfl;have hcz15_1 : w14.cell? ⟨gb131,1,none⟩ = some (.int .i64 a0_1):=(blk_cell BK131.out 1).trans rfl;have hcz15_2 : w14.cell? ⟨gb131,2,none⟩ = some (.int .i64 a0_2):=(blk_cell BK131.out 2).trans rfl;have hfz15_0:=blk_frozen BK131.out 0;have hfz15_1:=blk_frozen BK131.out 1;have hfz15_2:=blk_frozen BK131.out 2)|((with_reducible refine gate_callee (f:=41) rfl ?_);refine goesL_ (some 5) rfl rfl Try.func41 (by kernel_rfl) rfl #[.int .i64 a0_0,.int .i64 1,.int .i64 3] rfl (by (try simp only [List.map_toArray,List.map_cons,List.map_nil]);first|done|rfl|(simp only [List.length_drop,List.length_take];rfl)) ?_;(with_reducible refine (spec_l6In.calls a0_0 1 3 false _ A2.out).mono ?_);rintro e w' ⟨rfl,⟨nd,rfl⟩⟩;refine ⟨_,rfl,?_⟩))
  go_ret
  exact ⟨by first|rfl|(simp only [i64_w,i32_w];done)|(simp only [i64_w,i32_w];rfl)|(simp [errW_none,errW_some] <;> rfl)|(simp [*,errW_none,errW_some] <;> rfl),by repeat (first|(with_reducible first|exact HB.out|apply bA|apply bN|apply bD|refine below_set ?_ GE131.out)|exact HB.out)⟩

end Go.Proofs.Ytaccamnoacdiiaa.P
