/- The printed functions: what each Go function computes, as a Lean function, and that the Go code comes to just that. Conditions: none beyond each contract's own. -/
import Derived.Test.YthjpkfcejdddkaaDoorShelfB
import Derived.Test.YthjpkfcejdddkaaDoorShelf
import Derived.Test.YthjpkfcejdddkaaDoorPx0
import Derived.Test.YthjpkfcejdddkaaDoorPx1
import Derived.Test.YthjpkfcejdddkaaDoorPx2
namespace Go.Proofs.YthjpkfcejdddkaaDoor.P
open Go.RowKit Go.Proofs.YthjpkfcejdddkaaDoorW.PrintWords Go.Proofs.YthjpkfcejdddkaaDoorW.PrintLast Go.Proofs.YthjpkfcejdddkaaDoorW.PrintMore
attribute [local go_sem] max2_int min2_int max_two min_two max_three min_three max_four min_four   -- for this text's walks alone
set_option linter.unusedVariables false
set_option linter.unusedSimpArgs false

-- NOT PRINTED: function 58 (abi_NoEscape)

-- NOT PRINTED: function 47 (strings_Builder_copyCheck)

-- NOT PRINTED: function 26 (strings_Builder_WriteString)

-- NOT PRINTED: function 62 (strconv_small)

-- NOT PRINTED: function 73 (strconv_log10Pow2)

-- NOT PRINTED: function 74 (bits_Len64)

-- NOT PRINTED: function 75 (strconv_bool2_int)

-- NOT PRINTED: function 63 (strconv_numDigits)

-- NOT PRINTED: function 64 (strconv_formatBase10)

-- NOT PRINTED: function 76 (strconv_isPowerOfTwo)

-- NOT PRINTED: function 83 (bits_TrailingZeros32)

-- NOT PRINTED: function 84 (bits_TrailingZeros64)

-- NOT PRINTED: function 77 (bits_TrailingZeros)

-- NOT PRINTED: function 65 (strconv_formatBits)

-- NOT PRINTED: function 59 (strconv_FormatInt)

-- NOT PRINTED: function 48 (strconv_Itoa_48)

-- NOT PRINTED: function 27 (strconv_Itoa_27)

-- NOT PRINTED: function 28 (strings_Builder_String)

/-! ### impl_ChainText: function 10 -/
/-- The digits of a number. -/
def impl_ChainText.dec (n : Int) : ByteArray:=⟨(Lib.decDigits n.toNat).toArray⟩
/-- The text of an item. -/
def impl_ChainText.item (x : S48) : ByteArray:=(((((impl_ChainText.dec x.f0 ++ (⟨#[58]⟩ : ByteArray)) ++ impl_ChainText.dec x.f1.f0) ++ impl_ChainText.dec x.f1.f1) ++ impl_ChainText.dec x.f1.f2) ++ (⟨#[10]⟩ : ByteArray))
/-- The text of items. -/
def impl_ChainText.txt (l : List (S48)) : List UInt8:=l.flatMap fun x => (impl_ChainText.item x).data.toList
def impl_ChainText.low (n : Int) : Prop:=(0 ≤ n ∧ n < 100) ∧ (impl_ChainText.dec n).size ≤ 100
def impl_ChainText.small (x : S48) : Prop:=impl_ChainText.low x.f0 ∧ impl_ChainText.low x.f1.f0 ∧ impl_ChainText.low x.f1.f1 ∧ impl_ChainText.low x.f1.f2
instance (n : Int) : Decidable (impl_ChainText.low n):=by unfold impl_ChainText.low;infer_instance
instance (x : S48) : Decidable (impl_ChainText.small x):=by unfold impl_ChainText.small;infer_instance
def impl_ChainText.f (k : Nat) (l0 : List (S48)) : Option ByteArray:=(impl_ChainOk.f k l0).bind fun t => (if t = true then (if l0.length ≤ 1000 ∧ ∀ x ∈ l0,impl_ChainText.small x then (some (⟨(impl_ChainText.txt l0).toArray⟩ : ByteArray)) else (none)) else (some (⟨#[]⟩ : ByteArray)))
theorem impl_ChainText.mono : ∀ a0 k,LeO (impl_ChainText.f k a0) (impl_ChainText.f (k + 1) a0):=by
 intro a0 k
 unfold impl_ChainText.f
 exact LeO.bind (impl_ChainOk.mono _ _) (fun _ => LeO.refl _)
theorem impl_ChainText.itoa (n : Int) (h0 : 0 ≤ n) (h1 : n < 100) (w : World) : Calls Tryd.prog 27 #[.int .i64 n] w fun e w' => e = .returned (.string (impl_ChainText.dec n)) ∧ w' = w:=by
 obtain ⟨i,rfl⟩:=Int.eq_ofNat_of_zero_le h0
 exact Sh.strconv_Itoa_small i (by omega) w
theorem impl_ChainText.size_add (a b : ByteArray) : (a ++ b).size = a.size + b.size:=ByteArray.size_append
theorem impl_ChainText.item_size {x : S48} (h : impl_ChainText.small x) : (impl_ChainText.item x).size ≤ 402:=by
 obtain ⟨⟨_,h0⟩,⟨_,h1⟩,⟨_,h2⟩,⟨_,h3⟩⟩:=h
 simp only [impl_ChainText.item,impl_ChainText.size_add]
 have e1 : (⟨#[58]⟩ : ByteArray).size = 1:=rfl
 have e2 : (⟨#[10]⟩ : ByteArray).size = 1:=rfl
 omega
theorem impl_ChainText.txt_snoc (l : List (S48)) (i : Nat) (h : i < l.length) : impl_ChainText.txt (l.take (i + 1)) = impl_ChainText.txt (l.take i) ++ (impl_ChainText.item l[i]).data.toList:=by
 rw [impl_ChainText.txt,List.take_succ_eq_append_getElem h,List.flatMap_append,List.flatMap_singleton]
 rfl
theorem impl_ChainText.builder_alloc {T e B b : Nat} {bs : List Value} {w : World} (h : Lib.IsBuilder T e B b bs w) (o : Obj) : Lib.IsBuilder T e B b bs (w.alloc o).drew:=by
 have one : ∀ p,Lib.BuilderAt T e B b p bs w → Lib.BuilderAt T e B b p bs (w.alloc o).drew:=fun p h => by
  have hlt:=h.lt
  obtain ⟨hB,v,hb,hown,hne⟩:=h
  exact ⟨hB,v,(Lib.alloc_old w o b hlt).trans hb,hown.alloc o,hne⟩
 rcases h with h|h
 ·exact .inl (one _ h)
 ·exact .inr (one _ h)
theorem impl_ChainText.new_cell (w : World) (cs : Array Value) (t : TypeId) (j : Nat) : (w.alloc (.cells cs t)).drew.cell? ⟨w.heap.size,j,none⟩ = cs[j]?:=Lib.cell_of_heap (T:=t) (fr:=(0,0)) (show (w.alloc (.cells cs t)).heap[w.heap.size]? = _ from heap_alloc_new w _) j
theorem impl_ChainText.wrap_low {n : Int} (h0 : -4611686018427387904 ≤ n) (h1 : n ≤ 4611686018427387904) : wrap64 n = n:=by
 unfold wrap64
 omega
theorem impl_ChainText.txt_len : ∀ (l : List (S48)),(∀ x ∈ l,impl_ChainText.small x) → (impl_ChainText.txt l).length ≤ 402 * l.length
 | [],_ => by simp [impl_ChainText.txt]
 | x :: l,h => by
  have h1:=impl_ChainText.txt_len l (fun y hy => h y (List.mem_cons_of_mem _ hy))
  have h2:=impl_ChainText.item_size (h x List.mem_cons_self)
  have e : impl_ChainText.txt (x :: l) = (impl_ChainText.item x).data.toList ++ impl_ChainText.txt l:=rfl
  rw [e,List.length_append,List.length_cons]
  have e2 : (impl_ChainText.item x).data.toList.length = (impl_ChainText.item x).size:=rfl
  omega
def impl_ChainText.T7 : Bool × List (List Nat × List Nat):=(true,[([],[]),([0],[0]),([1],[1]),([2],[2]),([],[]),([4],[4]),([5],[5]),([6,2],[6]),([3,7],[3,7]),([],[]),([9],[9]),([10],[10]),([11,7],[11]),([8,12],[8,12]),([],[]),([14],[14]),([15],[15]),([16,12],[16]),([13,17],[13,17]),([18],[18]),([19,17],[19])])
def impl_ChainText.B7 : List Nat:=[0,1,3,7,0,16,48,119,255,0,512,1536,3831,8191,0,16384,49152,122615,262143,524287,1048575]
theorem impl_ChainText.tab7 : rtab .any (opsOf Tryd.f10 7) = impl_ChainText.T7:=by kernel_rfl
theorem impl_ChainText.bits7 : waitsOk impl_ChainText.T7.2 impl_ChainText.B7 = true:=by kernel_rfl
set_option maxHeartbeats 8000000 in
set_option maxRecDepth 100000 in
theorem impl_ChainText.calls (k : Nat) (A0 : Option Addr) (c0 : Nat) (l0 : List (S48)) (r : ByteArray) (w : World) (hr0 : Kd.C k48 w A0 l0.length l0) (hc0 : l0.length ≤ c0) (h : impl_ChainText.f k l0 = some r) :
 Calls Tryd.prog 10 #[.slice A0 l0.length c0] w fun e w' => e = .returned (.string r) ∧ Below w.heap.size w w':=by
 have HR0:=aM hr0
 have HC0:=aM hc0
 clear hr0 hc0
 unfold impl_ChainText.f at h
 obtain ⟨t,A20,H⟩:=Option.bind_eq_some_iff.mp h
 clear h
 have A2:=aM A20
 clear A20
 cases t with
 | false =>
  have H1 : (some (⟨#[]⟩ : ByteArray)) = some r:=by rw [if_neg (show ¬ (false = true) by decide)] at H;exact H
  clear H
  obtain rfl:=Option.some.inj H1
  go_enter Tryd.func10,Tryd.ntmps10
  go_wp2_with (go_at_call 19;refine (impl_ChainOk.calls k _ _ l0 false _ HR0.out HC0.out A2.out).mono ?_)
  first|(rintro e w4 ⟨rfl,hb⟩;have HB:=aM hb;clear hb)|(rintro e w4 rfl hb;have HB:=aM hb;clear hb)
  go_wp2
  go_ret
  exact ⟨rfl,HB.out⟩
 | true =>
  have H1 : (if l0.length ≤ 1000 ∧ ∀ x ∈ l0,impl_ChainText.small x then (some (⟨(impl_ChainText.txt l0).toArray⟩ : ByteArray)) else (none)) = some r:=by rw [if_pos rfl] at H;exact H
  clear H
  by_cases hs : l0.length ≤ 1000 ∧ ∀ x ∈ l0,impl_ChainText.small x
  case neg => rw [if_neg hs] at H1;exact absurd H1 (by simp)
  rw [if_pos hs] at H1
  obtain rfl:=Option.some.inj H1
  clear H1
  have HS:=aM hs
  clear hs
  go_enter Tryd.func10,Tryd.ntmps10
  go_wp2_with (go_at_call 19;refine (impl_ChainOk.calls k _ _ l0 true _ HR0.out HC0.out A2.out).mono ?_)
  first|(rintro e w4 ⟨rfl,hb⟩;have HB:=aM hb;clear hb)|(rintro e w4 rfl hb;have HB:=aM hb;clear hb)
  go_wp2
  go_loopg [11] l0.length (fun m v11 w' => ∃ x : Int,v11 = .int .i64 x ∧ Aside0 (0 ≤ x) ∧ Aside0 (x.toNat + m = l0.length) ∧ Aside0 (Lib.IsBuilder 44 5 w4.heap.size w4.heap.size (Lib.byteCells (impl_ChainText.txt (l0.take x.toNat))) w') ∧ Aside0 (Below w4.heap.size w4 w') ∧ Aside0 (w4.heap.size ≤ w'.heap.size))
  case atStart => exact ⟨0,rfl,⟨Int.le_refl _⟩,⟨by simp⟩,⟨Lib.fresh_isBuilder 44 5 w4⟩,⟨bA (Below.refl _ _) _⟩,⟨(bA (Below.refl _ _) _).size⟩⟩
  case round =>
   obtain ⟨x,rfl,H0,HM,HI,HW,HZ⟩:=hrel
   by_cases c4 : x < (l0.length : Int)
   ·have c4b0 : decide (x < (l0.length : Int)) = true:=decide_eq_true c4
    have h0:=H0.out
    have h0b0 : decide (0 ≤ x) = true:=decide_eq_true h0
    obtain ⟨ad,e0,hx0,hx1,hx2,hx3⟩:=at_T48 HR0.out x h0 c4
    subst e0
    have hm : rd_T48 l0 x ∈ l0:=by
     have : x.toNat < l0.length:=by omega
     have e : rd_T48 l0 x = l0[x.toNat]:=by simp [rd_T48,List.getElem?_eq_getElem this]
     rw [e];exact List.getElem_mem this
    have hsm:=HS.out.2 _ hm
    have hit : l0[x.toNat]'(by omega) = rd_T48 l0 x:=by
     have : x.toNat < l0.length:=by omega
     simp [rd_T48,List.getElem?_eq_getElem this]
    have HSN:=aM (impl_ChainText.txt_snoc l0 x.toNat (by omega))
    rw [hit] at HSN
    replace hx0:=(HW.out.cell (World.block_lt_of_cell? w4 _ ((HB.out.cell (bL w hx0)).trans hx0))).trans ((HB.out.cell (bL w hx0)).trans hx0)
    replace hx1:=(HW.out.cell (World.block_lt_of_cell? w4 _ ((HB.out.cell (bL w hx1)).trans hx1))).trans ((HB.out.cell (bL w hx1)).trans hx1)
    replace hx2:=(HW.out.cell (World.block_lt_of_cell? w4 _ ((HB.out.cell (bL w hx2)).trans hx2))).trans ((HB.out.cell (bL w hx2)).trans hx2)
    replace hx3:=(HW.out.cell (World.block_lt_of_cell? w4 _ ((HB.out.cell (bL w hx3)).trans hx3))).trans ((HB.out.cell (bL w hx3)).trans hx3)
    generalize hg : rd_T48 l0 x = it at hx0 hx1 hx2 hx3 hsm HSN
    clear hit hm hg
    obtain ⟨n0,n1,n2,n3⟩:=it
    obtain ⟨⟨hn0,hz0⟩,⟨hn1,hz1⟩,⟨hn2,hz2⟩,⟨hn3,hz3⟩⟩:=hsm
    replace hz0 : (impl_ChainText.dec n0).size ≤ 100:=hz0
    replace hz1 : (impl_ChainText.dec n1).size ≤ 100:=hz1
    replace hz2 : (impl_ChainText.dec n2).size ≤ 100:=hz2
    replace hz3 : (impl_ChainText.dec n3).size ≤ 100:=hz3
    have z3 : (9223372036854775807 < (impl_ChainText.dec n0).size + 1) = False:=eq_false (by omega)
    have z8 : (9223372036854775807 < (impl_ChainText.dec n0).size + 1 + (impl_ChainText.dec n1).size) = False:=eq_false (by omega)
    have z13 : (9223372036854775807 < (impl_ChainText.dec n0).size + 1 + (impl_ChainText.dec n1).size + (impl_ChainText.dec n2).size) = False:=eq_false (by omega)
    have z18 : (9223372036854775807 < (impl_ChainText.dec n0).size + 1 + (impl_ChainText.dec n1).size + (impl_ChainText.dec n2).size + (impl_ChainText.dec n3).size) = False:=eq_false (by omega)
    have z19 : (9223372036854775807 < (impl_ChainText.dec n0).size + 1 + (impl_ChainText.dec n1).size + (impl_ChainText.dec n2).size + (impl_ChainText.dec n3).size + 1) = False:=eq_false (by omega)
    cases gk with
    | zero => exact absurd HM.out (by omega)
    | succ k1 =>
    go_wp2
    have HI7 : Aside0 (Lib.IsBuilder 44 5 w4.heap.size w4.heap.size (Lib.byteCells (impl_ChainText.txt (l0.take x.toNat))) (wr.alloc (.cells #[.int .i64 n0,.int .i64 n1,.int .i64 n2,.int .i64 n3] 48)).drew):=⟨impl_ChainText.builder_alloc HI.out _⟩
    have HW7 : Aside0 (Below w4.heap.size w4 (wr.alloc (.cells #[.int .i64 n0,.int .i64 n1,.int .i64 n2,.int .i64 n3] 48)).drew):=⟨bD (bA HW.out _)⟩
    have HZ7 : Aside0 (w4.heap.size ≤ (wr.alloc (.cells #[.int .i64 n0,.int .i64 n1,.int .i64 n2,.int .i64 n3] 48)).drew.heap.size):=⟨HW7.out.size⟩
    refine start_ (n:=21) (S:=fun w' => w'.cell? ⟨wr.heap.size,0,none⟩ = some (.int .i64 n0) ∧ w'.cell? ⟨wr.heap.size,1,none⟩ = some (.int .i64 n1) ∧ w'.cell? ⟨wr.heap.size,2,none⟩ = some (.int .i64 n2) ∧ w'.cell? ⟨wr.heap.size,3,none⟩ = some (.int .i64 n3)) (ds:=[20]) #[bF,bF,bF,bF,bF,bF,bF,bF,bF,bF,bF,bF,bF,bF,bF,bF,bF,bF,bF,bF,bF] (by kernel_rfl) rfl rfl ⟨impl_ChainText.new_cell wr _ _ 0,impl_ChainText.new_cell wr _ _ 1,impl_ChainText.new_cell wr _ _ 2,impl_ChainText.new_cell wr _ _ 3⟩ (fun hHeld => ?_)
    refine with_tabW impl_ChainText.tab7 impl_ChainText.bits7 (fun HT_ HW_ => ?_)
    generalize (wr.alloc (.cells #[.int .i64 n0,.int .i64 n1,.int .i64 n2,.int .i64 n3] 48)).drew = w7 at HI7 HW7 HZ7 hHeld ⊢
    clear HI HW HZ hx0 hx1 hx2 hx3
    refine pure_ (i:=0) (N:=some 15) (v:=?_) (a':=?_) #[bT,bF,bF,bF,bF,bF,bF,bF,bF,bF,bF,bF,bF,bF,bF,bF,bF,bF,bF,bF,bF] rfl rfl (any_of HT_.out (by kernel_rfl)) (fun _ _ _ h => h) (Or.inl ⟨by rfl,?_⟩) ?_ ?_
    rotate_left;(· intro w';go_simp;with_reducible rfl);rotate_left;(· simp only [Act.put,sI,sZ,sS,i64_w,i32_w];rfl)
    refine pure_ (i:=4) (N:=some 19) (v:=?_) (a':=?_) #[bT,bF,bF,bF,bT,bF,bF,bF,bF,bF,bF,bF,bF,bF,bF,bF,bF,bF,bF,bF,bF] rfl rfl (any_of HT_.out (by kernel_rfl)) (fun _ _ _ h => h) (Or.inl ⟨by rfl,?_⟩) ?_ ?_
    rotate_left;(· intro w';go_simp;with_reducible rfl);rotate_left;(· simp only [Act.put,sI,sZ,sS,i64_w,i32_w];rfl)
    refine pure_ (i:=5) (N:=some 20) (v:=?_) (a':=?_) #[bT,bF,bF,bF,bT,bT,bF,bF,bF,bF,bF,bF,bF,bF,bF,bF,bF,bF,bF,bF,bF] rfl rfl (any_of HT_.out (by kernel_rfl)) (fun _ _ _ h => h) (Or.inl ⟨by rfl,?_⟩) ?_ ?_
    rotate_left;(· intro w';go_simp;with_reducible rfl);rotate_left;(· simp only [Act.put,sI,sZ,sS,i64_w,i32_w];rfl)
    refine pure_ (i:=9) (N:=some 24) (v:=?_) (a':=?_) #[bT,bF,bF,bF,bT,bT,bF,bF,bF,bT,bF,bF,bF,bF,bF,bF,bF,bF,bF,bF,bF] rfl rfl (any_of HT_.out (by kernel_rfl)) (fun _ _ _ h => h) (Or.inl ⟨by rfl,?_⟩) ?_ ?_
    rotate_left;(· intro w';go_simp;with_reducible rfl);rotate_left;(· simp only [Act.put,sI,sZ,sS,i64_w,i32_w];rfl)
    refine pure_ (i:=10) (N:=some 25) (v:=?_) (a':=?_) #[bT,bF,bF,bF,bT,bT,bF,bF,bF,bT,bT,bF,bF,bF,bF,bF,bF,bF,bF,bF,bF] rfl rfl (any_of HT_.out (by kernel_rfl)) (fun _ _ _ h => h) (Or.inl ⟨by rfl,?_⟩) ?_ ?_
    rotate_left;(· intro w';go_simp;with_reducible rfl);rotate_left;(· simp only [Act.put,sI,sZ,sS,i64_w,i32_w];rfl)
    refine pure_ (i:=14) (N:=some 29) (v:=?_) (a':=?_) #[bT,bF,bF,bF,bT,bT,bF,bF,bF,bT,bT,bF,bF,bF,bT,bF,bF,bF,bF,bF,bF] rfl rfl (any_of HT_.out (by kernel_rfl)) (fun _ _ _ h => h) (Or.inl ⟨by rfl,?_⟩) ?_ ?_
    rotate_left;(· intro w';go_simp;with_reducible rfl);rotate_left;(· simp only [Act.put,sI,sZ,sS,i64_w,i32_w];rfl)
    refine pure_ (i:=15) (N:=some 30) (v:=?_) (a':=?_) #[bT,bF,bF,bF,bT,bT,bF,bF,bF,bT,bT,bF,bF,bF,bT,bT,bF,bF,bF,bF,bF] rfl rfl (any_of HT_.out (by kernel_rfl)) (fun _ _ _ h => h) (Or.inl ⟨by rfl,?_⟩) ?_ ?_
    rotate_left;(· intro w';go_simp;with_reducible rfl);rotate_left;(· simp only [Act.put,sI,sZ,sS,i64_w,i32_w];rfl)
    refine take_ (i:=1) (N:=some 16) (v:=?_) (a':=?_) #[bT,bT,bF,bF,bT,bT,bF,bF,bF,bT,bT,bF,bF,bF,bT,bT,bF,bF,bF,bF,bF] rfl rfl (take_ofW HT_.out HW_.out (by kernel_rfl)) (fun _ _ _ h => h) (Or.inl ⟨by rfl,?_⟩) hHeld ?_ ?_
    rotate_left
    ·rintro w' ⟨s0,s1,s2,s3⟩
     (try simp only [Int.toNat_natCast] at s0 s1 s2 s3)
     go_simp
     with_reducible rfl
    rotate_left
    ·simp only [Act.put,sI,sZ,sS,i64_w,i32_w]
     rfl
    refine take_ (i:=6) (N:=some 21) (v:=?_) (a':=?_) #[bT,bT,bF,bF,bT,bT,bT,bF,bF,bT,bT,bF,bF,bF,bT,bT,bF,bF,bF,bF,bF] rfl rfl (take_ofW HT_.out HW_.out (by kernel_rfl)) (fun _ _ _ h => h) (Or.inl ⟨by rfl,?_⟩) hHeld ?_ ?_
    rotate_left
    ·rintro w' ⟨s0,s1,s2,s3⟩
     (try simp only [Int.toNat_natCast] at s0 s1 s2 s3)
     go_simp
     with_reducible rfl
    rotate_left
    ·simp only [Act.put,sI,sZ,sS,i64_w,i32_w]
     rfl
    refine take_ (i:=11) (N:=some 26) (v:=?_) (a':=?_) #[bT,bT,bF,bF,bT,bT,bT,bF,bF,bT,bT,bT,bF,bF,bT,bT,bF,bF,bF,bF,bF] rfl rfl (take_ofW HT_.out HW_.out (by kernel_rfl)) (fun _ _ _ h => h) (Or.inl ⟨by rfl,?_⟩) hHeld ?_ ?_
    rotate_left
    ·rintro w' ⟨s0,s1,s2,s3⟩
     (try simp only [Int.toNat_natCast] at s0 s1 s2 s3)
     go_simp
     with_reducible rfl
    rotate_left
    ·simp only [Act.put,sI,sZ,sS,i64_w,i32_w]
     rfl
    refine take_ (i:=16) (N:=some 31) (v:=?_) (a':=?_) #[bT,bT,bF,bF,bT,bT,bT,bF,bF,bT,bT,bT,bF,bF,bT,bT,bT,bF,bF,bF,bF] rfl rfl (take_ofW HT_.out HW_.out (by kernel_rfl)) (fun _ _ _ h => h) (Or.inl ⟨by rfl,?_⟩) hHeld ?_ ?_
    rotate_left
    ·rintro w' ⟨s0,s1,s2,s3⟩
     (try simp only [Int.toNat_natCast] at s0 s1 s2 s3)
     go_simp
     with_reducible rfl
    rotate_left
    ·simp only [Act.put,sI,sZ,sS,i64_w,i32_w]
     rfl
    refine one_ (i:=2) (N:=some 17) #[bT,bT,bT,bF,bT,bT,bT,bF,bF,bT,bT,bT,bF,bF,bT,bT,bT,bF,bF,bF,bF] rfl rfl (one_of HT_.out (by kernel_rfl)) (by decide) (fun K hK => ?_)
    refine goes_ Tryd.func27 (by kernel_rfl) rfl #[.int .i64 n0] (by rfl) rfl rfl (by (try simp only [List.map_toArray,List.map_cons,List.map_nil]);rfl) ?_
    refine (impl_ChainText.itoa n0 hn0.1 hn0.2 _).mono ?_
    rintro e _ ⟨rfl,rfl⟩
    refine ⟨_,rfl,?_⟩
    refine hK.out _ _ hHeld (fun hHeld => ?_)
    refine pure_ (i:=3) (N:=some 18) (v:=?_) (a':=?_) #[bT,bT,bT,bT,bT,bT,bT,bF,bF,bT,bT,bT,bF,bF,bT,bT,bT,bF,bF,bF,bF] rfl rfl (any_of HT_.out (by kernel_rfl)) (fun _ _ _ h => h) (Or.inl ⟨by rfl,?_⟩) ?_ ?_
    rotate_left;(· intro w';go_simp;with_reducible rfl);rotate_left;(· simp only [Act.put,sI,sZ,sS,i64_w,i32_w];rfl)
    refine one_ (i:=7) (N:=some 22) #[bT,bT,bT,bT,bT,bT,bT,bT,bF,bT,bT,bT,bF,bF,bT,bT,bT,bF,bF,bF,bF] rfl rfl (one_of HT_.out (by kernel_rfl)) (by decide) (fun K hK => ?_)
    refine goes_ Tryd.func27 (by kernel_rfl) rfl #[.int .i64 n1] (by rfl) rfl rfl (by (try simp only [List.map_toArray,List.map_cons,List.map_nil]);rfl) ?_
    refine (impl_ChainText.itoa n1 hn1.1 hn1.2 _).mono ?_
    rintro e _ ⟨rfl,rfl⟩
    refine ⟨_,rfl,?_⟩
    refine hK.out _ _ hHeld (fun hHeld => ?_)
    refine pure_ (i:=8) (N:=some 23) (v:=?_) (a':=?_) #[bT,bT,bT,bT,bT,bT,bT,bT,bT,bT,bT,bT,bF,bF,bT,bT,bT,bF,bF,bF,bF] rfl rfl (any_of HT_.out (by kernel_rfl)) (fun _ _ _ h => h) (Or.inl ⟨by rfl,?_⟩) ?_ ?_
    rotate_left;(· intro w';go_simp;with_reducible rfl);rotate_left;(· simp only [Act.put,sI,sZ,sS,i64_w,i32_w];rfl)
    refine one_ (i:=12) (N:=some 27) #[bT,bT,bT,bT,bT,bT,bT,bT,bT,bT,bT,bT,bT,bF,bT,bT,bT,bF,bF,bF,bF] rfl rfl (one_of HT_.out (by kernel_rfl)) (by decide) (fun K hK => ?_)
    refine goes_ Tryd.func27 (by kernel_rfl) rfl #[.int .i64 n2] (by rfl) rfl rfl (by (try simp only [List.map_toArray,List.map_cons,List.map_nil]);rfl) ?_
    refine (impl_ChainText.itoa n2 hn2.1 hn2.2 _).mono ?_
    rintro e _ ⟨rfl,rfl⟩
    refine ⟨_,rfl,?_⟩
    refine hK.out _ _ hHeld (fun hHeld => ?_)
    refine pure_ (i:=13) (N:=some 28) (v:=?_) (a':=?_) #[bT,bT,bT,bT,bT,bT,bT,bT,bT,bT,bT,bT,bT,bT,bT,bT,bT,bF,bF,bF,bF] rfl rfl (any_of HT_.out (by kernel_rfl)) (fun _ _ _ h => h) (Or.inl ⟨by rfl,?_⟩) ?_ ?_
    rotate_left;(· intro w';go_simp;with_reducible rfl);rotate_left;(· simp only [Act.put,sI,sZ,sS,i64_w,i32_w];rfl)
    refine one_ (i:=17) (N:=some 32) #[bT,bT,bT,bT,bT,bT,bT,bT,bT,bT,bT,bT,bT,bT,bT,bT,bT,bT,bF,bF,bF] rfl rfl (one_of HT_.out (by kernel_rfl)) (by decide) (fun K hK => ?_)
    refine goes_ Tryd.func27 (by kernel_rfl) rfl #[.int .i64 n3] (by rfl) rfl rfl (by (try simp only [List.map_toArray,List.map_cons,List.map_nil]);rfl) ?_
    refine (impl_ChainText.itoa n3 hn3.1 hn3.2 _).mono ?_
    rintro e _ ⟨rfl,rfl⟩
    refine ⟨_,rfl,?_⟩
    refine hK.out _ _ hHeld (fun hHeld => ?_)
    refine pure_ (i:=18) (N:=some 33) (v:=?_) (a':=?_) #[bT,bT,bT,bT,bT,bT,bT,bT,bT,bT,bT,bT,bT,bT,bT,bT,bT,bT,bT,bF,bF] rfl rfl (any_of HT_.out (by kernel_rfl)) (fun _ _ _ h => h) (Or.inl ⟨by rfl,?_⟩) ?_ ?_
    rotate_left;(· intro w';go_simp;with_reducible rfl);rotate_left;(· simp only [Act.put,sI,sZ,sS,i64_w,i32_w];rfl)
    refine pure_ (i:=19) (N:=some 34) (v:=?_) (a':=?_) #[bT,bT,bT,bT,bT,bT,bT,bT,bT,bT,bT,bT,bT,bT,bT,bT,bT,bT,bT,bT,bF] rfl rfl (any_of HT_.out (by kernel_rfl)) (fun _ _ _ h => h) (Or.inl ⟨by rfl,?_⟩) ?_ ?_
    rotate_left;(· intro w';go_simp;with_reducible rfl);rotate_left;(· simp only [Act.put,sI,sZ,sS,i64_w,i32_w];rfl)
    refine last_ (i:=20) (N:=some 35) #[bT,bT,bT,bT,bT,bT,bT,bT,bT,bT,bT,bT,bT,bT,bT,bT,bT,bT,bT,bT,bT] rfl rfl (one_of HT_.out (by kernel_rfl)) (by decide) (fun K hK => ?_)
    refine goes_ Tryd.func26 (by kernel_rfl) rfl #[.pointer (some ⟨w4.heap.size,0,none⟩),.string (impl_ChainText.item ⟨n0,⟨n1,n2,n3⟩⟩)] (by rfl) rfl rfl (by (try simp only [List.map_toArray,List.map_cons,List.map_nil]);rfl) ?_
    refine (Sh.WriteString _ _ _ _ _ HI7.out ?hlen HZ7.out).mono ?_
    case hlen =>
     rw [Lib.byteCells_length]
     have e1:=impl_ChainText.txt_len (l0.take x.toNat) (fun y hy => HS.out.2 y (List.mem_of_mem_take hy))
     have e2:=impl_ChainText.item_size (x:=⟨n0,⟨n1,n2,n3⟩⟩) ⟨⟨hn0,hz0⟩,⟨hn1,hz1⟩,⟨hn2,hz2⟩,⟨hn3,hz3⟩⟩
     have e3 : (l0.take x.toNat).length ≤ 1000:=Nat.le_trans (by rw [List.length_take];omega) HS.out.1
     omega
    rintro e w8 ⟨he,hbt,hbb⟩
    subst he
    refine ⟨_,rfl,?_⟩
    refine hK.out _ _ ?_
    refine done_ (done_of HT_.out (by kernel_rfl)) ?_
    have HI8 : Aside0 (Lib.IsBuilder 44 5 w4.heap.size w4.heap.size (Lib.byteCells (impl_ChainText.txt (l0.take (x.toNat + 1)))) w8):=⟨.inr (by rw [HSN.out,Lib.byteCells_append];exact hbt)⟩
    have HW8 : Aside0 (Below w4.heap.size w4 w8):=⟨HW7.out.trans hbb⟩
    have HZ8 : Aside0 (w4.heap.size ≤ w8.heap.size):=⟨Nat.le_trans HZ7.out hbb.size⟩
    clear HI7 HW7 HZ7 hbt hbb hHeld
    go_wp2
    go_roundg k1
    case measure => omega
    case rel =>
     have hx : (x + 1).toNat = x.toNat + 1:=by omega
     have hw : wrap64 (x + 1) = x + 1:=impl_ChainText.wrap_low (by have:=HS.out.1;omega) (by have:=HS.out.1;omega)
     exact ⟨x + 1,by rw [hw],⟨by omega⟩,⟨by have:=HM.out;omega⟩,⟨by rw [hx];exact HI8.out⟩,HW8,HZ8⟩
   ·have c4b0 : decide (x < (l0.length : Int)) = false:=decide_eq_false c4
    go_wp2_with (go_at_call 28;refine (Sh.Builder_String_any _ _ _ _ HI.out HZ.out).mono ?_)
    first|(rintro e w9 ⟨rfl,hb⟩;have HB9:=aM hb;clear hb)|(rintro e w9 rfl hb;have HB9:=aM hb;clear hb)
    have ht : l0.take x.toNat = l0:=List.take_of_length_le (by omega)
    go_wp2
    go_ret
    exact ⟨by first|rfl|rw [ht],below_step HB.out (HW.out.trans HB9.out)⟩

-- NOT PRINTED: function 78 (bytealg_IndexByteString)

-- NOT PRINTED: function 66 (stringslite_IndexByte)

-- NOT PRINTED: function 67 (bytealg_IndexString)

-- NOT PRINTED: function 68 (bytealg_Cutover)

-- NOT PRINTED: function 79 (bytealg_hashStr_string)

-- NOT PRINTED: function 69 (bytealg_IndexRabinKarp_string)

-- NOT PRINTED: function 60 (stringslite_Index)

-- NOT PRINTED: function 49 (stringslite_Cut)

/-! ### strings_Cut: function 30 -/
/-- At a separator of one byte. -/
def strings_Cut.f (s sep : ByteArray) : Option (ByteArray × ByteArray × Bool):=if sep.size = 1 ∧ s.size < 1000000 then some (⟨(Lib.cut s.data.toList sep.data.toList).1.toArray⟩,⟨(Lib.cut s.data.toList sep.data.toList).2.1.toArray⟩,(Lib.cut s.data.toList sep.data.toList).2.2) else none
theorem strings_Cut.calls (a0 : ByteArray) (a1 : ByteArray) (r1 : ByteArray) (r2 : ByteArray) (r3 : Bool) (w : World) (h : strings_Cut.f a0 a1 = some (r1,r2,r3)) :
  Calls Tryd.prog 30 #[.string a0,.string a1] w fun e w' => e = .returned (.tuple #[.string r1,.string r2,.bool r3]) ∧ Below w.heap.size w w':=by
 unfold strings_Cut.f at h
 by_cases hx : a1.size = 1 ∧ a0.size < 1000000
 case neg => rw [if_neg hx] at h;cases h
 rw [if_pos hx] at h
 have h2:=Option.some.inj h
 simp only [Prod.mk.injEq] at h2
 obtain ⟨rfl,rfl,rfl⟩:=h2
 obtain ⟨c,rfl⟩ : ∃ c,a1 = (⟨#[c]⟩ : ByteArray):=by
  obtain ⟨⟨l⟩⟩:=a1
  match l,hx.1 with
  | [c],_ => exact ⟨c,rfl⟩
 refine (Sh.Cut_one a0 c w (by omega)).mono ?_
 rintro e w' ⟨rfl,n,rfl⟩
 exact ⟨rfl,bN (Below.refl _ _) n⟩

-- NOT PRINTED: function 80 (utf8_RuneCountInString)

-- NOT PRINTED: function 85 (utf8_decodeRuneInStringSlow)

-- NOT PRINTED: function 81 (utf8_DecodeRuneInString)

-- NOT PRINTED: function 70 (strings_explode)

-- NOT PRINTED: function 72 (strings_Index)

-- NOT PRINTED: function 82 (bytealg_CountString)

-- NOT PRINTED: function 71 (strings_Count)

-- NOT PRINTED: function 61 (strings_genSplit)

/-! ### strings_Split: function 50 -/
/-- At a separator of one byte. -/
def strings_Split.f (s sep : ByteArray) : Option (List ByteArray):=if sep.size = 1 ∧ s.size < 1000000 then some (Lib.splitB sep 0 (Lib.countB s sep) s) else none
set_option maxHeartbeats 8000000 in
set_option maxRecDepth 100000 in
theorem strings_Split.calls (a0 : ByteArray) (a1 : ByteArray) (r : List ByteArray) (w : World) (h : strings_Split.f a0 a1 = some r) :
  Calls Tryd.prog 50 #[.string a0,.string a1] w fun e w' => ∃ v0_ : Value,e = .returned (v0_) ∧ Kd.R Kd.string 9 w' w.heap.size (fun _ => True) v0_ r ∧ Below w.heap.size w w':=by
 unfold strings_Split.f at h
 by_cases hx : a1.size = 1 ∧ a0.size < 1000000
 case neg => rw [if_neg hx] at h;cases h
 rw [if_pos hx] at h
 obtain rfl:=Option.some.inj h
 obtain ⟨c,rfl⟩ : ∃ c,a1 = (⟨#[c]⟩ : ByteArray):=by
  obtain ⟨⟨l⟩⟩:=a1
  match l,hx.1 with
  | [c],_ => exact ⟨c,rfl⟩
 refine (Sh.Split_one a0 c w (by omega)).mono ?_
 rintro e w' ⟨rfl,rfl⟩
 have hlen:=Lib.splitB_all (⟨#[c]⟩ : ByteArray) (Nat.le_refl _) 0 _ a0 rfl
 have hle:=Lib.countB_le (⟨#[c]⟩ : ByteArray) (Nat.le_refl _) a0.size a0 (Nat.le_refl _)
 rw [← hlen]
 refine ⟨_,rfl,?_,bA (Below.refl _ _) _⟩
 refine Kd.R_of_own ⟨by simp [encs],.inr ⟨w.heap.size,_,_,rfl,Nat.le_refl _,heap_alloc_new w _,Nat.le_refl _,?_,by simp,by simp [encs,List.take_of_length_le]⟩⟩ (fun _ _ => trivial)
 unfold maxLen
 omega

/-! ### impl_digits: function 51 -/
def impl_digits.digL : List UInt8 → Int → Int × Bool
 | [],n => (n,true)
 | b :: l,n => if b.toNat < 48 ∨ 57 < b.toNat then (0,false) else impl_digits.digL l (10 * n + ((b.toNat : Int) - 48))
def impl_digits.res (s : ByteArray) (lo hi : Int) : Int × Bool:=if lo ≤ (s.size : Int) ∧ (s.size : Int) ≤ hi then impl_digits.digL s.data.toList 0 else (0,false)
theorem impl_digits.low1 (n : Int) (h0 : 0 ≤ n) (h1 : n ≤ 100000) : wrap64 n = n:=by
 unfold wrap64
 omega
theorem impl_digits.within (a b c : Int) : impl_within.f a b c = some (decide (b ≤ a ∧ a ≤ c)):=by
 unfold impl_within.f
 by_cases h1 : a ≥ b
 ·by_cases h2 : a ≤ c
  ·simp [h1,h2,show b ≤ a from h1]
  ·simp [h1,h2]
 ·simp [show ¬ b ≤ a from h1]
theorem impl_digits.drewN_size (w : World) (n : Nat) : (w.drewN n).heap.size = w.heap.size:=by simp
theorem impl_digits.bytesB (w : World) (nd : Nat) (s : ByteArray) : Below w.heap.size w (Lib.bytesWorld (w.drewN nd) 5 s) :=
 (bN (Below.refl _ w) nd).trans ⟨rfl,rfl,rfl,by rw [Lib.bytesWorld_size];omega,fun i hi => Lib.bytesWorld_at_old _ 5 s i (Nat.lt_of_lt_of_le hi (bN (Below.refl 0 w) nd).size)⟩
set_option maxHeartbeats 8000000 in
set_option maxRecDepth 100000 in
theorem impl_digits.walk (s : ByteArray) (lo hi : Int) (w : World) (hhi : hi ≤ 3) : Calls Tryd.prog 51 #[.string s,.int .i64 lo,.int .i64 hi] w fun e w' => e = .returned (.tuple #[.int .i64 (impl_digits.res s lo hi).1,.bool (impl_digits.res s lo hi).2]) ∧ Below w.heap.size w w':=by
 have hin:=impl_digits.within (s.size : Int) lo hi
 by_cases hd : lo ≤ (s.size : Int) ∧ (s.size : Int) ≤ hi
 case neg =>
  rw [impl_digits.res,if_neg hd]
  rw [decide_eq_false hd] at hin
  go_enter Tryd.func51,Tryd.ntmps51
  go_wp2_with (go_at_call 54;refine (impl_within.calls _ _ _ false _ hin).mono ?_)
  rintro e w4 ⟨rfl,⟨nd,rfl⟩⟩
  go_wp2
  go_ret2
  exact ⟨rfl,bN (Below.refl _ _) nd⟩
 case pos =>
  rw [impl_digits.res,if_pos hd]
  rw [decide_eq_true hd] at hin
  have hs3 : s.size ≤ 3:=by omega
  have kb:=fun W => Lib.run_convert_string_bytes (P:=Tryd.prog) W 9 22 5 s Tryd.underlying9 Tryd.underlying22 Tryd.underlying5
  go_enter Tryd.func51,Tryd.ntmps51
  go_wp2_with (go_at_call 54;refine (impl_within.calls _ _ _ true _ hin).mono ?_)
  rintro e w4 ⟨rfl,⟨nd,rfl⟩⟩
  go_wp2
  go_loopg [8,20] s.size (fun m v8 v20 w' => ∃ (n : Int) (i : Nat),v8 = .int .i64 n ∧ v20 = .int .i64 (i : Int) ∧ Aside0 (i + m = s.size) ∧ Aside0 (0 ≤ n ∧ n + 1 ≤ ((10 ^ i : Nat) : Int)) ∧ Aside0 (impl_digits.digL (s.data.toList.drop i) n = impl_digits.digL s.data.toList 0) ∧ Aside0 (w' = Lib.bytesWorld (w.drewN nd) 5 s))
  case atStart => exact ⟨0,0,rfl,rfl,⟨by omega⟩,⟨by simp⟩,⟨rfl⟩,⟨rfl⟩⟩
  case round =>
   obtain ⟨n,i,rfl,rfl,HM,HN,HD,HW⟩:=hrel
   cases gk with
   | zero =>
    have hm:=HM.out
    have c0 : decide ((i : Int) < (s.size : Int)) = false:=decide_eq_false (by omega)
    have e : impl_digits.digL s.data.toList 0 = (n,true):=by
     rw [← HD.out,List.drop_eq_nil_of_le (by show s.size ≤ i;omega)];rfl
    go_wp2
    go_ret2
    rw [e]
    exact ⟨rfl,by rw [HW.out];exact impl_digits.bytesB w nd s⟩
   | succ k1 =>
    have hm:=HM.out
    have c0 : decide ((i : Int) < (s.size : Int)) = true:=decide_eq_true (by omega)
    have hcell:=Lib.bytesWorld_cell (w.drewN nd) 5 s i (by omega)
    rw [← HW.out,impl_digits.drewN_size] at hcell
    have hdr : s.data.toList.drop i = s.data.toList.getD i 0 :: s.data.toList.drop (i + 1):=by
     have hi : i < s.data.toList.length:=by show i < s.size;omega
     rw [List.drop_eq_getElem_cons hi,List.getD_eq_getElem?_getD,List.getElem?_eq_getElem hi];rfl
    have HE:=aM hdr
    generalize hb : s.data.toList.getD i 0 = b at hcell HE
    clear hdr hb
    have ret0 : (b.toNat < 48 ∨ 57 < b.toNat) → impl_digits.digL s.data.toList 0 = (0,false):=fun hx => by
     rw [← HD.out,HE.out,impl_digits.digL,if_pos hx]
    by_cases h1 : b.toNat < 48
    ·have c1 : decide ((b.toNat : Int) < 48) = true:=decide_eq_true (by omega)
     have e:=ret0 (.inl h1)
     clear ret0
     go_wp2
     go_ret2
     rw [e]
     exact ⟨rfl,by rw [HW.out];exact impl_digits.bytesB w nd s⟩
    have c1 : decide ((b.toNat : Int) < 48) = false:=decide_eq_false (by omega)
    by_cases h2 : 57 < b.toNat
    ·have c2 : decide (57 < (b.toNat : Int)) = true:=decide_eq_true (by omega)
     have e:=ret0 (.inr h2)
     clear ret0
     go_wp2
     go_ret2
     rw [e]
     exact ⟨rfl,by rw [HW.out];exact impl_digits.bytesB w nd s⟩
    have c2 : decide (57 < (b.toNat : Int)) = false:=decide_eq_false (by omega)
    clear ret0
    go_wp2
    go_roundg k1
    case measure => omega
    case rel =>
     have hN:=HN.out
     have hp : 10 ^ i ≤ 10 ^ 3:=Nat.pow_le_pow_right (by omega) (by omega)
     have hq : (10 ^ (i + 1) : Nat) = 10 ^ i * 10:=Nat.pow_succ _ _
     generalize 10 ^ i = p at hN hp hq
     have e1 : wrap64 (10 * n) = 10 * n:=impl_digits.low1 _ (by omega) (by omega)
     have e2 : wrap64 (10 * n + ((b.toNat : Int) - 48)) = 10 * n + ((b.toNat : Int) - 48):=impl_digits.low1 _ (by omega) (by omega)
     have e3 : impl_digits.digL (s.data.toList.drop (i + 1)) (10 * n + ((b.toNat : Int) - 48)) = impl_digits.digL s.data.toList 0:=by
      rw [← HD.out,HE.out,impl_digits.digL,if_neg (by omega)]
     exact ⟨10 * n + ((b.toNat : Int) - 48),i + 1,by rw [e1,e2],by simp,⟨by omega⟩,⟨by rw [hq];omega⟩,⟨e3⟩,HW⟩
def impl_digits.f (s : ByteArray) (a1 a2 : Int) : Option (Int × Bool):=if a2 ≤ 3 then some (impl_digits.res s a1 a2) else none
theorem impl_digits.calls (a0 : ByteArray) (a1 : Int) (a2 : Int) (r1 : Int) (r2 : Bool) (w : World) (h : impl_digits.f a0 a1 a2 = some (r1,r2)) :
  Calls Tryd.prog 51 #[.string a0,.int .i64 a1,.int .i64 a2] w fun e w' => e = .returned (.tuple #[.int .i64 r1,.bool r2]) ∧ Below w.heap.size w w':=by
 unfold impl_digits.f at h
 by_cases hx : a2 ≤ 3
 case neg => rw [if_neg hx] at h;cases h
 rw [if_pos hx] at h
 have h2:=Option.some.inj h
 have e1 : (impl_digits.res a0 a1 a2).1 = r1:=by rw [h2]
 have e2 : (impl_digits.res a0 a1 a2).2 = r2:=by rw [h2]
 rw [← e1,← e2]
 exact impl_digits.walk a0 a1 a2 w hx

/-! ### impl_readPay: function 52 -/
def impl_readPay.f (a0 : ByteArray) : Option (Int × Int × Int):=(impl_digits.f a0 3 3).bind fun bt112 => (if bt112.2 = true then (some (wrap64 (Int.tdiv bt112.1 100),Int.tmod (wrap64 (Int.tdiv bt112.1 10)) 10,Int.tmod bt112.1 10)) else (some (0,0,0)))
set_option maxHeartbeats 8000000 in
set_option maxRecDepth 100000 in
theorem impl_readPay.calls (a0 : ByteArray) (r1 : Int) (r2 : Int) (r3 : Int) (w : World) (h : impl_readPay.f a0 = some (r1,r2,r3)) :
  Calls Tryd.prog 52 #[.string a0] w fun e w' => e = .returned (.agg #[.int .i64 r1,.int .i64 r2,.int .i64 r3]) ∧ Below w.heap.size w w':=by
 have hu46:=Tryd.underlying46
 have HB:=aM (Below.refl w.heap.size w)
 have H : ((impl_digits.f a0 3 3).bind fun bt112 => (if bt112.2 = true then (some (wrap64 (Int.tdiv bt112.1 100),Int.tmod (wrap64 (Int.tdiv bt112.1 10)) 10,Int.tmod bt112.1 10)) else (some (0,0,0)))) = some (r1,r2,r3):=h
 clear h
 replace H:=Option.bind_eq_some_iff.mp H
 obtain ⟨⟨t112,t113⟩,A20,H⟩:=H
 replace H : (if t113 = true then (some (wrap64 (Int.tdiv t112 100),Int.tmod (wrap64 (Int.tdiv t112 10)) 10,Int.tmod t112 10)) else (some (0,0,0))) = some (r1,r2,r3):=H
 have A2:=aM A20
 clear A20
 by_cases c3 : t113 = true
 ·subst c3
  have H1 : (some (wrap64 (Int.tdiv t112 100),Int.tmod (wrap64 (Int.tdiv t112 10)) 10,Int.tmod t112 10)) = some (r1,r2,r3):=by rw [if_pos rfl] at H;exact H
  clear H
  have H:=H1
  clear H1
  simp only [Option.some.injEq,Prod.mk.injEq] at H
  obtain ⟨rfl,rfl,rfl⟩:=H
  go_enter Tryd.func52,Tryd.ntmps52
  go_wp2_with (first|((with_reducible refine gate_dst (N:=2) rfl ?_);refine box_event ?hg (N:=2) ?hd (cs:=#[.int .i64 0,.int .i64 0,.int .i64 0]) (t:=46) ?hr ?_;(case hd => rfl);(case hg => rfl);(case hr => first|(go_simp;done)|(go_simp;rfl));intro gb111 hg w4 hbox hb;have n0_:=aM (below_step (by repeat (first|(with_reducible first|exact HB.out|apply bA|apply bN|apply bD)|exact HB.out)) hb);have n1_:=aM (hbox);have n2_:=aM ((by rw [hg];exact (below_size (by repeat (first|(with_reducible first|exact HB.out|apply bA|apply bN|apply bD)|exact HB.out))) : w.heap.size ≤ gb111));have n3_:=aM ((by rw [hg];exact (below_size (by repeat (first|(with_reducible first|exact HB.out|apply bA|apply bN|apply bD)|exact HB.out))) : w.heap.size ≤ gb111));clear HB;have HB:=n0_;have BK111:=n1_;have GW111:=n2_;have GE111:=n3_;clear n0_ n1_ n2_ n3_;clear hb hbox hg)|((with_reducible refine gate_callee (f:=51) rfl ?_);refine goesL_ (some 7) rfl rfl Tryd.func51 (by kernel_rfl) rfl #[.string a0,.int .i64 3,.int .i64 3] rfl (by (try simp only [List.map_toArray,List.map_cons,List.map_nil]);first|done|rfl|(simp only [List.length_drop,List.length_take];rfl)) ?_;(with_reducible refine (impl_digits.calls a0 3 3 t112 true _ A2.out).mono ?_);rintro e w5 ⟨rfl,hb⟩;refine ⟨_,rfl,?_⟩;have n0_:=aM (blk_below (g:=gb111) (o:=.cells #[.int .i64 0,.int .i64 0,.int .i64 0] 46 (0,0)) (by (with_reducible repeat (first|refine blk_drewN ?_ _|refine blk_drew ?_|refine blk_alloc ?_ _));exact BK111.out) hb);have n1_:=aM (below_step (by repeat (first|(with_reducible first|exact HB.out|apply bA|apply bN|apply bD|refine below_set ?_ GE111.out)|exact HB.out)) hb);clear BK111;clear HB;have BK111:=n0_;have HB:=n1_;clear n0_ n1_;(try clear hb);(try clear hb2);(try clear hk);(try clear hi);have hcz6_0 : w5.cell? ⟨gb111,0,none⟩ = some (.int .i64 0):=(blk_cell BK111.out 0).trans rfl;have hcz6_1 : w5.cell? ⟨gb111,1,none⟩ = some (.int .i64 0):=(blk_cell BK111.out 1).trans rfl;have hcz6_2 : w5.cell? ⟨gb111,2,none⟩ = some (.int .i64 0):=(blk_cell BK111.out 2).trans rfl;have hfz6_0:=blk_frozen BK111.out 0;have hfz6_1:=blk_frozen BK111.out 1;have hfz6_2:=blk_frozen BK111.out 2))
  refine bodyPost_ret (results_cell_row rfl _ _ gb111 46 #[.int .i64 (wrap64 (Int.tdiv t112 100)),.int .i64 (Int.tmod (wrap64 (Int.tdiv t112 10)) 10),.int .i64 (Int.tmod t112 10)] (0,0) _ rfl (by (with_reducible repeat (first|refine blk_drewN ?_ _|refine blk_drew ?_|refine blk_alloc ?_ _));refine blk_put (cs:=#[.int .i64 (wrap64 (Int.tdiv t112 100)),.int .i64 (Int.tmod (wrap64 (Int.tdiv t112 10)) 10),.int .i64 0]) ?_ 2 _ rfl;(with_reducible repeat (first|refine blk_drewN ?_ _|refine blk_drew ?_|refine blk_alloc ?_ _));refine blk_put (cs:=#[.int .i64 (wrap64 (Int.tdiv t112 100)),.int .i64 0,.int .i64 0]) ?_ 1 _ rfl;(with_reducible repeat (first|refine blk_drewN ?_ _|refine blk_drew ?_|refine blk_alloc ?_ _));refine blk_put (cs:=#[.int .i64 0,.int .i64 0,.int .i64 0]) ?_ 0 _ rfl;(with_reducible repeat (first|refine blk_drewN ?_ _|refine blk_drew ?_|refine blk_alloc ?_ _));exact BK111.out) Tryd.underlying46 rfl (by kernel_rfl)) rfl ?_
  exact ⟨by first|rfl|(simp only [i64_w,i32_w];done)|(simp only [i64_w,i32_w];rfl)|(simp [errW_none,errW_some] <;> rfl)|(simp [*,errW_none,errW_some] <;> rfl),by repeat (first|(with_reducible first|exact HB.out|apply bA|apply bN|apply bD|refine below_set ?_ GE111.out)|exact HB.out)⟩
 ·replace c3:=Bool.eq_false_iff.mpr c3
  subst c3
  have H1 : (some (0,0,0)) = some (r1,r2,r3):=by rw [if_neg (show ¬ (false = true) by decide)] at H;exact H
  clear H
  have H:=H1
  clear H1
  simp only [Option.some.injEq,Prod.mk.injEq] at H
  obtain ⟨rfl,rfl,rfl⟩:=H
  go_enter Tryd.func52,Tryd.ntmps52
  go_wp2_with (first|((with_reducible refine gate_dst (N:=2) rfl ?_);refine box_event ?hg (N:=2) ?hd (cs:=#[.int .i64 0,.int .i64 0,.int .i64 0]) (t:=46) ?hr ?_;(case hd => rfl);(case hg => rfl);(case hr => first|(go_simp;done)|(go_simp;rfl));intro gb111 hg w7 hbox hb;have n0_:=aM (below_step (by repeat (first|(with_reducible first|exact HB.out|apply bA|apply bN|apply bD)|exact HB.out)) hb);have n1_:=aM (hbox);have n2_:=aM ((by rw [hg];exact (below_size (by repeat (first|(with_reducible first|exact HB.out|apply bA|apply bN|apply bD)|exact HB.out))) : w.heap.size ≤ gb111));have n3_:=aM ((by rw [hg];exact (below_size (by repeat (first|(with_reducible first|exact HB.out|apply bA|apply bN|apply bD)|exact HB.out))) : w.heap.size ≤ gb111));clear HB;have HB:=n0_;have BK111:=n1_;have GW111:=n2_;have GE111:=n3_;clear n0_ n1_ n2_ n3_;clear hb hbox hg)|((with_reducible refine gate_callee (f:=51) rfl ?_);refine goesL_ (some 7) rfl rfl Tryd.func51 (by kernel_rfl) rfl #[.string a0,.int .i64 3,.int .i64 3] rfl (by (try simp only [List.map_toArray,List.map_cons,List.map_nil]);first|done|rfl|(simp only [List.length_drop,List.length_take];rfl)) ?_;(with_reducible refine (impl_digits.calls a0 3 3 t112 false _ A2.out).mono ?_);rintro e w8 ⟨rfl,hb⟩;refine ⟨_,rfl,?_⟩;have n0_:=aM (blk_below (g:=gb111) (o:=.cells #[.int .i64 0,.int .i64 0,.int .i64 0] 46 (0,0)) (by (with_reducible repeat (first|refine blk_drewN ?_ _|refine blk_drew ?_|refine blk_alloc ?_ _));exact BK111.out) hb);have n1_:=aM (below_step (by repeat (first|(with_reducible first|exact HB.out|apply bA|apply bN|apply bD|refine below_set ?_ GE111.out)|exact HB.out)) hb);clear BK111;clear HB;have BK111:=n0_;have HB:=n1_;clear n0_ n1_;(try clear hb);(try clear hb2);(try clear hk);(try clear hi);have hcz9_0 : w8.cell? ⟨gb111,0,none⟩ = some (.int .i64 0):=(blk_cell BK111.out 0).trans rfl;have hcz9_1 : w8.cell? ⟨gb111,1,none⟩ = some (.int .i64 0):=(blk_cell BK111.out 1).trans rfl;have hcz9_2 : w8.cell? ⟨gb111,2,none⟩ = some (.int .i64 0):=(blk_cell BK111.out 2).trans rfl;have hfz9_0:=blk_frozen BK111.out 0;have hfz9_1:=blk_frozen BK111.out 1;have hfz9_2:=blk_frozen BK111.out 2))
  refine bodyPost_ret (results_cell_row rfl _ _ gb111 46 #[.int .i64 0,.int .i64 0,.int .i64 0] (0,0) _ rfl (by (with_reducible repeat (first|refine blk_drewN ?_ _|refine blk_drew ?_|refine blk_alloc ?_ _));refine blk_put (cs:=#[.int .i64 0,.int .i64 0,.int .i64 0]) ?_ 2 _ rfl;(with_reducible repeat (first|refine blk_drewN ?_ _|refine blk_drew ?_|refine blk_alloc ?_ _));refine blk_put (cs:=#[.int .i64 0,.int .i64 0,.int .i64 0]) ?_ 1 _ rfl;(with_reducible repeat (first|refine blk_drewN ?_ _|refine blk_drew ?_|refine blk_alloc ?_ _));refine blk_put (cs:=#[.int .i64 0,.int .i64 0,.int .i64 0]) ?_ 0 _ rfl;(with_reducible repeat (first|refine blk_drewN ?_ _|refine blk_drew ?_|refine blk_alloc ?_ _));exact BK111.out) Tryd.underlying46 rfl (by kernel_rfl)) rfl ?_
  exact ⟨by first|rfl|(simp only [i64_w,i32_w];done)|(simp only [i64_w,i32_w];rfl)|(simp [errW_none,errW_some] <;> rfl)|(simp [*,errW_none,errW_some] <;> rfl),by repeat (first|(with_reducible first|exact HB.out|apply bA|apply bN|apply bD|refine below_set ?_ GE111.out)|exact HB.out)⟩

/-! ### impl_readItem: function 31 -/
def impl_readItem.f (a0 : ByteArray) : Option (Int × Int × Int × Int):=(strings_Split.f a0 (⟨#[58]⟩ : ByteArray)).bind fun t115 => (if (t115.length : Int) = 2 then (if 0 < (t115.length : Int) then ((impl_digits.f (rdOf ByteArray.empty t115 0) 1 2).bind fun bt119 => (if bt119.2 = true then (if 1 < (t115.length : Int) then ((impl_readPay.f (rdOf ByteArray.empty t115 1)).bind fun bt122 => (some (bt119.1,bt122.1,bt122.2.1,bt122.2.2))) else (none)) else (if 1 < (t115.length : Int) then ((impl_readPay.f (rdOf ByteArray.empty t115 1)).bind fun bt126 => (some ((-1),bt126.1,bt126.2.1,bt126.2.2))) else (none)))) else (none)) else (some (0,0,0,0)))
set_option maxHeartbeats 8000000 in
set_option maxRecDepth 100000 in
theorem impl_readItem.calls (a0 : ByteArray) (r1 : Int) (r2 : Int) (r3 : Int) (r4 : Int) (w : World) (h : impl_readItem.f a0 = some (r1,r2,r3,r4)) :
  Calls Tryd.prog 31 #[.string a0] w fun e w' => e = .returned (.agg #[.int .i64 r1,.int .i64 r2,.int .i64 r3,.int .i64 r4]) ∧ Below w.heap.size w w':=by
 have hu48:=Tryd.underlying48
 have HB:=aM (Below.refl w.heap.size w)
 have H : ((strings_Split.f a0 (⟨#[58]⟩ : ByteArray)).bind fun t115 => (if (t115.length : Int) = 2 then (if 0 < (t115.length : Int) then ((impl_digits.f (rdOf ByteArray.empty t115 0) 1 2).bind fun bt119 => (if bt119.2 = true then (if 1 < (t115.length : Int) then ((impl_readPay.f (rdOf ByteArray.empty t115 1)).bind fun bt122 => (some (bt119.1,bt122.1,bt122.2.1,bt122.2.2))) else (none)) else (if 1 < (t115.length : Int) then ((impl_readPay.f (rdOf ByteArray.empty t115 1)).bind fun bt126 => (some ((-1),bt126.1,bt126.2.1,bt126.2.2))) else (none)))) else (none)) else (some (0,0,0,0)))) = some (r1,r2,r3,r4):=h
 clear h
 replace H:=Option.bind_eq_some_iff.mp H
 obtain ⟨t115,A20,H⟩:=H
 replace H : (if (t115.length : Int) = 2 then (if 0 < (t115.length : Int) then ((impl_digits.f (rdOf ByteArray.empty t115 0) 1 2).bind fun bt119 => (if bt119.2 = true then (if 1 < (t115.length : Int) then ((impl_readPay.f (rdOf ByteArray.empty t115 1)).bind fun bt122 => (some (bt119.1,bt122.1,bt122.2.1,bt122.2.2))) else (none)) else (if 1 < (t115.length : Int) then ((impl_readPay.f (rdOf ByteArray.empty t115 1)).bind fun bt126 => (some ((-1),bt126.1,bt126.2.1,bt126.2.2))) else (none)))) else (none)) else (some (0,0,0,0))) = some (r1,r2,r3,r4):=H
 have A2:=aM A20
 clear A20
 by_cases c3 : (t115.length : Int) = 2
 ·rw [if_pos c3] at H
  have c3b0 : ((t115.length : Int) == 2) = true:=beq_iff_eq.mpr c3
  have c3b1 : ((t115.length : Int) != 2) = false:=bne_eq_false_iff_eq.mpr c3
  clear c3
  by_cases c4 : 0 < (t115.length : Int)
  case neg => rw [if_neg c4] at H;exact absurd H (by simp)
  rw [if_pos c4] at H
  have c4b0 : decide (0 < (t115.length : Int)) = true:=decide_eq_true c4
  have c4b1 : decide (0 < t115.length) = true:=decide_eq_true (by omega)
  clear c4
  replace H:=Option.bind_eq_some_iff.mp H
  obtain ⟨⟨t119,t120⟩,A50,H⟩:=H
  replace H : (if t120 = true then (if 1 < (t115.length : Int) then ((impl_readPay.f (rdOf ByteArray.empty t115 1)).bind fun bt122 => (some (t119,bt122.1,bt122.2.1,bt122.2.2))) else (none)) else (if 1 < (t115.length : Int) then ((impl_readPay.f (rdOf ByteArray.empty t115 1)).bind fun bt126 => (some ((-1),bt126.1,bt126.2.1,bt126.2.2))) else (none))) = some (r1,r2,r3,r4):=H
  have A5:=aM A50
  clear A50
  by_cases c6 : t120 = true
  ·subst c6
   have H1 : (if 1 < (t115.length : Int) then ((impl_readPay.f (rdOf ByteArray.empty t115 1)).bind fun bt122 => (some (t119,bt122.1,bt122.2.1,bt122.2.2))) else (none)) = some (r1,r2,r3,r4):=by rw [if_pos rfl] at H;exact H
   clear H
   have H:=H1
   clear H1
   by_cases c7 : 1 < (t115.length : Int)
   case neg => rw [if_neg c7] at H;exact absurd H (by simp)
   rw [if_pos c7] at H
   have c7b0 : decide (1 < (t115.length : Int)) = true:=decide_eq_true c7
   have c7b1 : decide (1 < t115.length) = true:=decide_eq_true (by omega)
   clear c7
   replace H:=Option.bind_eq_some_iff.mp H
   obtain ⟨⟨t122,t123,t124⟩,A80,H⟩:=H
   replace H : (some (t119,t122,t123,t124)) = some (r1,r2,r3,r4):=H
   have A8:=aM A80
   clear A80
   simp only [Option.some.injEq,Prod.mk.injEq] at H
   obtain ⟨rfl,rfl,rfl,rfl⟩:=H
   go_enter Tryd.func31,Tryd.ntmps31
   go_wp2_with (first|((with_reducible refine gate_dst (N:=2) rfl ?_);refine box_event ?hg (N:=2) ?hd (cs:=#[.int .i64 0,.int .i64 0,.int .i64 0,.int .i64 0]) (t:=48) ?hr ?_;(case hd => rfl);(case hg => rfl);(case hr => first|(go_simp;done)|(go_simp;rfl));intro gb114 hg w9 hbox hb;have n0_:=aM (below_step (by repeat (first|(with_reducible first|exact HB.out|apply bA|apply bN|apply bD)|exact HB.out)) hb);have n1_:=aM (hbox);have n2_:=aM ((by rw [hg];exact (below_size (by repeat (first|(with_reducible first|exact HB.out|apply bA|apply bN|apply bD)|exact HB.out))) : w.heap.size ≤ gb114));have n3_:=aM ((by rw [hg];exact (below_size (by repeat (first|(with_reducible first|exact HB.out|apply bA|apply bN|apply bD)|exact HB.out))) : w.heap.size ≤ gb114));clear HB;have HB:=n0_;have BK114:=n1_;have GW114:=n2_;have GE114:=n3_;clear n0_ n1_ n2_ n3_;clear hb hbox hg)|((with_reducible refine gate_callee (f:=50) rfl ?_);refine goesL_ (some 7) rfl rfl Tryd.func50 (by kernel_rfl) rfl #[.string a0,.string (⟨#[58]⟩ : ByteArray)] rfl (by (try simp only [List.map_toArray,List.map_cons,List.map_nil]);first|done|rfl|(simp only [List.length_drop,List.length_take];rfl)) ?_;(with_reducible refine (strings_Split.calls a0 (⟨#[58]⟩ : ByteArray) t115 _ A2.out).mono ?_);rintro e w10 ⟨v116,rfl,ho0,hb⟩;refine ⟨_,rfl,?_⟩;have n0_:=aM (Kd.R_lower ho0 (below_size (by repeat (first|(with_reducible first|exact HB.out|apply bA|apply bN|apply bD|refine below_set ?_ GE114.out)|exact HB.out))));have n1_:=aM (blk_below (g:=gb114) (o:=.cells #[.int .i64 0,.int .i64 0,.int .i64 0,.int .i64 0] 48 (0,0)) (by (with_reducible repeat (first|refine blk_drewN ?_ _|refine blk_drew ?_|refine blk_alloc ?_ _));exact BK114.out) hb);have n2_:=aM (below_step (by repeat (first|(with_reducible first|exact HB.out|apply bA|apply bN|apply bD|refine below_set ?_ GE114.out)|exact HB.out)) hb);clear BK114;clear HB;have HO117:=n0_;have BK114:=n1_;have HB:=n2_;clear n0_ n1_ n2_;(try clear hb);(try clear hb2);(try clear hk);(try clear hi);(try clear ho0);obtain ⟨Ao11,co11,eo11⟩:=Kd.R_slice HO117.out;subst eo11;have p118 : 0 ≤ (0 : Int):=(by omega);have q118 : 0 < (t115.length : Int):=of_decide_eq_true (by first|(with_reducible assumption)|assumption);obtain ⟨ad118,e118,hx118_0⟩:=Kd.at_string (Kd.R_reads' HO117.out).2.2 0 p118 q118;cases e118;have qi118 : (0 < t115.length) = True:=eq_true (by omega);(try rw [show ((0 : Int)).toNat = 0 from rfl] at hx118_0);(try rw [Addr.add_zero'] at hx118_0);replace p118:=eq_true p118;replace q118:=eq_true q118)|((with_reducible refine gate_callee (f:=51) rfl ?_);refine goesL_ (some 16) rfl rfl Tryd.func51 (by kernel_rfl) rfl #[.string (rdOf ByteArray.empty t115 0),.int .i64 1,.int .i64 2] rfl (by (try simp only [List.map_toArray,List.map_cons,List.map_nil]);first|done|rfl|(simp only [List.length_drop,List.length_take];rfl)) ?_;(with_reducible refine (impl_digits.calls (rdOf ByteArray.empty t115 0) 1 2 t119 true _ A5.out).mono ?_);rintro e w12 ⟨rfl,hb⟩;refine ⟨_,rfl,?_⟩;have n0_:=aM (Kd.R_below (by (with_reducible repeat (first|apply Kd.R_alloc|apply Kd.R_drewN|apply Kd.R_drew));exact HO117.out) hb);have n1_:=aM (blk_below (g:=gb114) (o:=.cells #[.int .i64 0,.int .i64 0,.int .i64 0,.int .i64 0] 48 (0,0)) (by (with_reducible repeat (first|refine blk_drewN ?_ _|refine blk_drew ?_|refine blk_alloc ?_ _));exact BK114.out) hb);have n2_:=aM (below_step (by repeat (first|(with_reducible first|exact HB.out|apply bA|apply bN|apply bD|refine below_set ?_ GE114.out)|exact HB.out)) hb);clear HO117;clear BK114;clear HB;have HO117:=n0_;have BK114:=n1_;have HB:=n2_;clear n0_ n1_ n2_;(try clear hb);(try clear hb2);(try clear hk);(try clear hi);have p121 : 0 ≤ (1 : Int):=(by omega);have q121 : 1 < (t115.length : Int):=of_decide_eq_true (by first|(with_reducible assumption)|assumption);obtain ⟨ad121,e121,hx121_0⟩:=Kd.at_string (Kd.R_reads' HO117.out).2.2 1 p121 q121;obtain rfl : ad118 = ad121:=(by injection e121);(try simp only [show (1 : Int).toNat = 1 from rfl,Nat.reduceMul,Nat.reduceEqDiff,Go.Addr.add,↓reduceIte] at hx121_0);have qi121 : (1 < t115.length) = True:=eq_true (by omega);(try rw [show ((1 : Int)).toNat = 1 from rfl] at hx121_0);replace p121:=eq_true p121;replace q121:=eq_true q121)|((with_reducible refine gate_callee (f:=52) rfl ?_);refine goesL_ (some 25) rfl rfl Tryd.func52 (by kernel_rfl) rfl #[.string (rdOf ByteArray.empty t115 1)] rfl (by (try simp only [List.map_toArray,List.map_cons,List.map_nil]);first|done|rfl|(simp only [List.length_drop,List.length_take];rfl)) ?_;(with_reducible refine (impl_readPay.calls (rdOf ByteArray.empty t115 1) t122 t123 t124 _ A8.out).mono ?_);rintro e w13 ⟨rfl,hb⟩;refine ⟨_,rfl,?_⟩;have n0_:=aM (Kd.R_below (by (with_reducible repeat (first|apply Kd.R_alloc|apply Kd.R_drewN|apply Kd.R_drew));exact HO117.out) hb);have n1_:=aM (blk_below (g:=gb114) (o:=.cells #[.int .i64 0,.int .i64 0,.int .i64 0,.int .i64 0] 48 (0,0)) (by (with_reducible repeat (first|refine blk_drewN ?_ _|refine blk_drew ?_|refine blk_alloc ?_ _));exact BK114.out) hb);have n2_:=aM (below_step (by repeat (first|(with_reducible first|exact HB.out|apply bA|apply bN|apply bD|refine below_set ?_ GE114.out)|exact HB.out)) hb);clear HO117;clear BK114;clear HB;have HO117:=n0_;have BK114:=n1_;have HB:=n2_;clear n0_ n1_ n2_;(try clear hb);(try clear hb2);(try clear hk);(try clear hi);have hcz14_0 : w13.cell? ⟨gb114,0,none⟩ = some (.int .i64 0):=(blk_cell BK114.out 0).trans rfl;have hcz14_1 : w13.cell? ⟨gb114,1,none⟩ = some (.int .i64 0):=(blk_cell BK114.out 1).trans rfl;have hcz14_2 : w13.cell? ⟨gb114,2,none⟩ = some (.int .i64 0):=(blk_cell BK114.out 2).trans rfl;have hcz14_3 : w13.cell? ⟨gb114,3,none⟩ = some (.int .i64 0):=(blk_cell BK114.out 3).trans rfl;have hfz14_0:=blk_frozen BK114.out 0;have hfz14_1:=blk_frozen BK114.out 1;have hfz14_2:=blk_frozen BK114.out 2;have hfz14_3:=blk_frozen BK114.out 3))
   refine bodyPost_ret (results_cell_row rfl _ _ gb114 48 #[.int .i64 t119,.int .i64 t122,.int .i64 t123,.int .i64 t124] (0,0) _ rfl (by (with_reducible repeat (first|refine blk_drewN ?_ _|refine blk_drew ?_|refine blk_alloc ?_ _));refine blk_put (cs:=#[.int .i64 t119,.int .i64 t122,.int .i64 t123,.int .i64 0]) ?_ 3 _ rfl;(with_reducible repeat (first|refine blk_drewN ?_ _|refine blk_drew ?_|refine blk_alloc ?_ _));refine blk_put (cs:=#[.int .i64 t119,.int .i64 t122,.int .i64 0,.int .i64 0]) ?_ 2 _ rfl;(with_reducible repeat (first|refine blk_drewN ?_ _|refine blk_drew ?_|refine blk_alloc ?_ _));refine blk_put (cs:=#[.int .i64 t119,.int .i64 0,.int .i64 0,.int .i64 0]) ?_ 1 _ rfl;(with_reducible repeat (first|refine blk_drewN ?_ _|refine blk_drew ?_|refine blk_alloc ?_ _));refine blk_put (cs:=#[.int .i64 0,.int .i64 0,.int .i64 0,.int .i64 0]) ?_ 0 _ rfl;(with_reducible repeat (first|refine blk_drewN ?_ _|refine blk_drew ?_|refine blk_alloc ?_ _));exact BK114.out) Tryd.underlying48 rfl (by kernel_rfl)) rfl ?_
   exact ⟨by first|rfl|(simp only [i64_w,i32_w];done)|(simp only [i64_w,i32_w];rfl)|(simp [errW_none,errW_some] <;> rfl)|(simp [*,errW_none,errW_some] <;> rfl),by repeat (first|(with_reducible first|exact HB.out|apply bA|apply bN|apply bD|refine below_set ?_ GE114.out)|exact HB.out)⟩
  ·replace c6:=Bool.eq_false_iff.mpr c6
   subst c6
   have H1 : (if 1 < (t115.length : Int) then ((impl_readPay.f (rdOf ByteArray.empty t115 1)).bind fun bt126 => (some ((-1),bt126.1,bt126.2.1,bt126.2.2))) else (none)) = some (r1,r2,r3,r4):=by rw [if_neg (show ¬ (false = true) by decide)] at H;exact H
   clear H
   have H:=H1
   clear H1
   by_cases c15 : 1 < (t115.length : Int)
   case neg => rw [if_neg c15] at H;exact absurd H (by simp)
   rw [if_pos c15] at H
   have c15b0 : decide (1 < (t115.length : Int)) = true:=decide_eq_true c15
   have c15b1 : decide (1 < t115.length) = true:=decide_eq_true (by omega)
   clear c15
   replace H:=Option.bind_eq_some_iff.mp H
   obtain ⟨⟨t126,t127,t128⟩,A160,H⟩:=H
   replace H : (some ((-1),t126,t127,t128)) = some (r1,r2,r3,r4):=H
   have A16:=aM A160
   clear A160
   simp only [Option.some.injEq,Prod.mk.injEq] at H
   obtain ⟨rfl,rfl,rfl,rfl⟩:=H
   go_enter Tryd.func31,Tryd.ntmps31
   go_wp2_with (first|((with_reducible refine gate_dst (N:=2) rfl ?_);refine box_event ?hg (N:=2) ?hd (cs:=#[.int .i64 0,.int .i64 0,.int .i64 0,.int .i64 0]) (t:=48) ?hr ?_;(case hd => rfl);(case hg => rfl);(case hr => first|(go_simp;done)|(go_simp;rfl));intro gb114 hg w17 hbox hb;have n0_:=aM (below_step (by repeat (first|(with_reducible first|exact HB.out|apply bA|apply bN|apply bD)|exact HB.out)) hb);have n1_:=aM (hbox);have n2_:=aM ((by rw [hg];exact (below_size (by repeat (first|(with_reducible first|exact HB.out|apply bA|apply bN|apply bD)|exact HB.out))) : w.heap.size ≤ gb114));have n3_:=aM ((by rw [hg];exact (below_size (by repeat (first|(with_reducible first|exact HB.out|apply bA|apply bN|apply bD)|exact HB.out))) : w.heap.size ≤ gb114));clear HB;have HB:=n0_;have BK114:=n1_;have GW114:=n2_;have GE114:=n3_;clear n0_ n1_ n2_ n3_;clear hb hbox hg)|((with_reducible refine gate_callee (f:=50) rfl ?_);refine goesL_ (some 7) rfl rfl Tryd.func50 (by kernel_rfl) rfl #[.string a0,.string (⟨#[58]⟩ : ByteArray)] rfl (by (try simp only [List.map_toArray,List.map_cons,List.map_nil]);first|done|rfl|(simp only [List.length_drop,List.length_take];rfl)) ?_;(with_reducible refine (strings_Split.calls a0 (⟨#[58]⟩ : ByteArray) t115 _ A2.out).mono ?_);rintro e w18 ⟨v116,rfl,ho0,hb⟩;refine ⟨_,rfl,?_⟩;have n0_:=aM (Kd.R_lower ho0 (below_size (by repeat (first|(with_reducible first|exact HB.out|apply bA|apply bN|apply bD|refine below_set ?_ GE114.out)|exact HB.out))));have n1_:=aM (blk_below (g:=gb114) (o:=.cells #[.int .i64 0,.int .i64 0,.int .i64 0,.int .i64 0] 48 (0,0)) (by (with_reducible repeat (first|refine blk_drewN ?_ _|refine blk_drew ?_|refine blk_alloc ?_ _));exact BK114.out) hb);have n2_:=aM (below_step (by repeat (first|(with_reducible first|exact HB.out|apply bA|apply bN|apply bD|refine below_set ?_ GE114.out)|exact HB.out)) hb);clear BK114;clear HB;have HO117:=n0_;have BK114:=n1_;have HB:=n2_;clear n0_ n1_ n2_;(try clear hb);(try clear hb2);(try clear hk);(try clear hi);(try clear ho0);obtain ⟨Ao19,co19,eo19⟩:=Kd.R_slice HO117.out;subst eo19;have p118 : 0 ≤ (0 : Int):=(by omega);have q118 : 0 < (t115.length : Int):=of_decide_eq_true (by first|(with_reducible assumption)|assumption);obtain ⟨ad118,e118,hx118_0⟩:=Kd.at_string (Kd.R_reads' HO117.out).2.2 0 p118 q118;cases e118;have qi118 : (0 < t115.length) = True:=eq_true (by omega);(try rw [show ((0 : Int)).toNat = 0 from rfl] at hx118_0);(try rw [Addr.add_zero'] at hx118_0);replace p118:=eq_true p118;replace q118:=eq_true q118)|((with_reducible refine gate_callee (f:=51) rfl ?_);refine goesL_ (some 16) rfl rfl Tryd.func51 (by kernel_rfl) rfl #[.string (rdOf ByteArray.empty t115 0),.int .i64 1,.int .i64 2] rfl (by (try simp only [List.map_toArray,List.map_cons,List.map_nil]);first|done|rfl|(simp only [List.length_drop,List.length_take];rfl)) ?_;(with_reducible refine (impl_digits.calls (rdOf ByteArray.empty t115 0) 1 2 t119 false _ A5.out).mono ?_);rintro e w20 ⟨rfl,hb⟩;refine ⟨_,rfl,?_⟩;have n0_:=aM (Kd.R_below (by (with_reducible repeat (first|apply Kd.R_alloc|apply Kd.R_drewN|apply Kd.R_drew));exact HO117.out) hb);have n1_:=aM (blk_below (g:=gb114) (o:=.cells #[.int .i64 0,.int .i64 0,.int .i64 0,.int .i64 0] 48 (0,0)) (by (with_reducible repeat (first|refine blk_drewN ?_ _|refine blk_drew ?_|refine blk_alloc ?_ _));exact BK114.out) hb);have n2_:=aM (below_step (by repeat (first|(with_reducible first|exact HB.out|apply bA|apply bN|apply bD|refine below_set ?_ GE114.out)|exact HB.out)) hb);clear HO117;clear BK114;clear HB;have HO117:=n0_;have BK114:=n1_;have HB:=n2_;clear n0_ n1_ n2_;(try clear hb);(try clear hb2);(try clear hk);(try clear hi);have p125 : 0 ≤ (1 : Int):=(by omega);have q125 : 1 < (t115.length : Int):=of_decide_eq_true (by first|(with_reducible assumption)|assumption);obtain ⟨ad125,e125,hx125_0⟩:=Kd.at_string (Kd.R_reads' HO117.out).2.2 1 p125 q125;obtain rfl : ad118 = ad125:=(by injection e125);(try simp only [show (1 : Int).toNat = 1 from rfl,Nat.reduceMul,Nat.reduceEqDiff,Go.Addr.add,↓reduceIte] at hx125_0);have qi125 : (1 < t115.length) = True:=eq_true (by omega);(try rw [show ((1 : Int)).toNat = 1 from rfl] at hx125_0);replace p125:=eq_true p125;replace q125:=eq_true q125)|((with_reducible refine gate_callee (f:=52) rfl ?_);refine goesL_ (some 25) rfl rfl Tryd.func52 (by kernel_rfl) rfl #[.string (rdOf ByteArray.empty t115 1)] rfl (by (try simp only [List.map_toArray,List.map_cons,List.map_nil]);first|done|rfl|(simp only [List.length_drop,List.length_take];rfl)) ?_;(with_reducible refine (impl_readPay.calls (rdOf ByteArray.empty t115 1) t126 t127 t128 _ A16.out).mono ?_);rintro e w21 ⟨rfl,hb⟩;refine ⟨_,rfl,?_⟩;have n0_:=aM (Kd.R_below (by (with_reducible repeat (first|apply Kd.R_alloc|apply Kd.R_drewN|apply Kd.R_drew));exact HO117.out) hb);have n1_:=aM (blk_below (g:=gb114) (o:=.cells #[.int .i64 0,.int .i64 0,.int .i64 0,.int .i64 0] 48 (0,0)) (by (with_reducible repeat (first|refine blk_drewN ?_ _|refine blk_drew ?_|refine blk_alloc ?_ _));exact BK114.out) hb);have n2_:=aM (below_step (by repeat (first|(with_reducible first|exact HB.out|apply bA|apply bN|apply bD|refine below_set ?_ GE114.out)|exact HB.out)) hb);clear HO117;clear BK114;clear HB;have HO117:=n0_;have BK114:=n1_;have HB:=n2_;clear n0_ n1_ n2_;(try clear hb);(try clear hb2);(try clear hk);(try clear hi);have hcz22_0 : w21.cell? ⟨gb114,0,none⟩ = some (.int .i64 0):=(blk_cell BK114.out 0).trans rfl;have hcz22_1 : w21.cell? ⟨gb114,1,none⟩ = some (.int .i64 0):=(blk_cell BK114.out 1).trans rfl;have hcz22_2 : w21.cell? ⟨gb114,2,none⟩ = some (.int .i64 0):=(blk_cell BK114.out 2).trans rfl;have hcz22_3 : w21.cell? ⟨gb114,3,none⟩ = some (.int .i64 0):=(blk_cell BK114.out 3).trans rfl;have hfz22_0:=blk_frozen BK114.out 0;have hfz22_1:=blk_frozen BK114.out 1;have hfz22_2:=blk_frozen BK114.out 2;have hfz22_3:=blk_frozen BK114.out 3))
   refine bodyPost_ret (results_cell_row rfl _ _ gb114 48 #[.int .i64 (-1),.int .i64 t126,.int .i64 t127,.int .i64 t128] (0,0) _ rfl (by (with_reducible repeat (first|refine blk_drewN ?_ _|refine blk_drew ?_|refine blk_alloc ?_ _));refine blk_put (cs:=#[.int .i64 (-1),.int .i64 t126,.int .i64 t127,.int .i64 0]) ?_ 3 _ rfl;(with_reducible repeat (first|refine blk_drewN ?_ _|refine blk_drew ?_|refine blk_alloc ?_ _));refine blk_put (cs:=#[.int .i64 (-1),.int .i64 t126,.int .i64 0,.int .i64 0]) ?_ 2 _ rfl;(with_reducible repeat (first|refine blk_drewN ?_ _|refine blk_drew ?_|refine blk_alloc ?_ _));refine blk_put (cs:=#[.int .i64 (-1),.int .i64 0,.int .i64 0,.int .i64 0]) ?_ 1 _ rfl;(with_reducible repeat (first|refine blk_drewN ?_ _|refine blk_drew ?_|refine blk_alloc ?_ _));refine blk_put (cs:=#[.int .i64 0,.int .i64 0,.int .i64 0,.int .i64 0]) ?_ 0 _ rfl;(with_reducible repeat (first|refine blk_drewN ?_ _|refine blk_drew ?_|refine blk_alloc ?_ _));exact BK114.out) Tryd.underlying48 rfl (by kernel_rfl)) rfl ?_
   exact ⟨by first|rfl|(simp only [i64_w,i32_w];done)|(simp only [i64_w,i32_w];rfl)|(simp [errW_none,errW_some] <;> rfl)|(simp [*,errW_none,errW_some] <;> rfl),by repeat (first|(with_reducible first|exact HB.out|apply bA|apply bN|apply bD|refine below_set ?_ GE114.out)|exact HB.out)⟩
 ·rw [if_neg c3] at H
  have c3b0 : ((t115.length : Int) == 2) = false:=beq_eq_false_iff_ne.mpr c3
  have c3b1 : ((t115.length : Int) != 2) = true:=bne_iff_ne.mpr c3
  simp only [Option.some.injEq,Prod.mk.injEq] at H
  obtain ⟨rfl,rfl,rfl,rfl⟩:=H
  go_enter Tryd.func31,Tryd.ntmps31
  go_wp2_with (first|((with_reducible refine gate_dst (N:=2) rfl ?_);refine box_event ?hg (N:=2) ?hd (cs:=#[.int .i64 0,.int .i64 0,.int .i64 0,.int .i64 0]) (t:=48) ?hr ?_;(case hd => rfl);(case hg => rfl);(case hr => first|(go_simp;done)|(go_simp;rfl));intro gb114 hg w23 hbox hb;have n0_:=aM (below_step (by repeat (first|(with_reducible first|exact HB.out|apply bA|apply bN|apply bD)|exact HB.out)) hb);have n1_:=aM (hbox);have n2_:=aM ((by rw [hg];exact (below_size (by repeat (first|(with_reducible first|exact HB.out|apply bA|apply bN|apply bD)|exact HB.out))) : w.heap.size ≤ gb114));have n3_:=aM ((by rw [hg];exact (below_size (by repeat (first|(with_reducible first|exact HB.out|apply bA|apply bN|apply bD)|exact HB.out))) : w.heap.size ≤ gb114));clear HB;have HB:=n0_;have BK114:=n1_;have GW114:=n2_;have GE114:=n3_;clear n0_ n1_ n2_ n3_;clear hb hbox hg)|((with_reducible refine gate_callee (f:=50) rfl ?_);refine goesL_ (some 7) rfl rfl Tryd.func50 (by kernel_rfl) rfl #[.string a0,.string (⟨#[58]⟩ : ByteArray)] rfl (by (try simp only [List.map_toArray,List.map_cons,List.map_nil]);first|done|rfl|(simp only [List.length_drop,List.length_take];rfl)) ?_;(with_reducible refine (strings_Split.calls a0 (⟨#[58]⟩ : ByteArray) t115 _ A2.out).mono ?_);rintro e w24 ⟨v116,rfl,ho0,hb⟩;refine ⟨_,rfl,?_⟩;have n0_:=aM (Kd.R_lower ho0 (below_size (by repeat (first|(with_reducible first|exact HB.out|apply bA|apply bN|apply bD|refine below_set ?_ GE114.out)|exact HB.out))));have n1_:=aM (blk_below (g:=gb114) (o:=.cells #[.int .i64 0,.int .i64 0,.int .i64 0,.int .i64 0] 48 (0,0)) (by (with_reducible repeat (first|refine blk_drewN ?_ _|refine blk_drew ?_|refine blk_alloc ?_ _));exact BK114.out) hb);have n2_:=aM (below_step (by repeat (first|(with_reducible first|exact HB.out|apply bA|apply bN|apply bD|refine below_set ?_ GE114.out)|exact HB.out)) hb);clear BK114;clear HB;have HO117:=n0_;have BK114:=n1_;have HB:=n2_;clear n0_ n1_ n2_;(try clear hb);(try clear hb2);(try clear hk);(try clear hi);(try clear ho0);obtain ⟨Ao25,co25,eo25⟩:=Kd.R_slice HO117.out;subst eo25;have hcz26_0 : w24.cell? ⟨gb114,0,none⟩ = some (.int .i64 0):=(blk_cell BK114.out 0).trans rfl;have hcz26_1 : w24.cell? ⟨gb114,1,none⟩ = some (.int .i64 0):=(blk_cell BK114.out 1).trans rfl;have hcz26_2 : w24.cell? ⟨gb114,2,none⟩ = some (.int .i64 0):=(blk_cell BK114.out 2).trans rfl;have hcz26_3 : w24.cell? ⟨gb114,3,none⟩ = some (.int .i64 0):=(blk_cell BK114.out 3).trans rfl;have hfz26_0:=blk_frozen BK114.out 0;have hfz26_1:=blk_frozen BK114.out 1;have hfz26_2:=blk_frozen BK114.out 2;have hfz26_3:=blk_frozen BK114.out 3))
  refine bodyPost_ret (results_cell_row rfl _ _ gb114 48 #[.int .i64 0,.int .i64 0,.int .i64 0,.int .i64 0] (0,0) _ rfl (by (with_reducible repeat (first|refine blk_drewN ?_ _|refine blk_drew ?_|refine blk_alloc ?_ _));refine blk_put (cs:=#[.int .i64 0,.int .i64 0,.int .i64 0,.int .i64 0]) ?_ 3 _ rfl;(with_reducible repeat (first|refine blk_drewN ?_ _|refine blk_drew ?_|refine blk_alloc ?_ _));refine blk_put (cs:=#[.int .i64 0,.int .i64 0,.int .i64 0,.int .i64 0]) ?_ 2 _ rfl;(with_reducible repeat (first|refine blk_drewN ?_ _|refine blk_drew ?_|refine blk_alloc ?_ _));refine blk_put (cs:=#[.int .i64 0,.int .i64 0,.int .i64 0,.int .i64 0]) ?_ 1 _ rfl;(with_reducible repeat (first|refine blk_drewN ?_ _|refine blk_drew ?_|refine blk_alloc ?_ _));refine blk_put (cs:=#[.int .i64 0,.int .i64 0,.int .i64 0,.int .i64 0]) ?_ 0 _ rfl;(with_reducible repeat (first|refine blk_drewN ?_ _|refine blk_drew ?_|refine blk_alloc ?_ _));exact BK114.out) Tryd.underlying48 rfl (by kernel_rfl)) rfl ?_
  exact ⟨by first|rfl|(simp only [i64_w,i32_w];done)|(simp only [i64_w,i32_w];rfl)|(simp [errW_none,errW_some] <;> rfl)|(simp [*,errW_none,errW_some] <;> rfl),by repeat (first|(with_reducible first|exact HB.out|apply bA|apply bN|apply bD|refine below_set ?_ GE114.out)|exact HB.out)⟩

-- NOT PRINTED: function 32 (impl_Item)

/-! ### impl_ChainRead: function 12 -/
set_option maxHeartbeats 1000000 in
set_option maxRecDepth 100000 in
theorem impl_ChainRead.clip (A : Option Addr) (n c : Nat) (w : World) (hn : n ≤ c) (hc : c ≤ 9223372036854775807) :
  Calls Tryd.prog 32 #[.slice A n c] w fun e w' => e = .returned (.slice A n n) ∧ w = w':=by
 go_enter Tryd.func32,Tryd.ntmps32
 go_wp2
 go_ret
 exact ⟨rfl,rfl⟩
def impl_ChainRead.l0 : Nat → ByteArray → List (S48) → ByteArray → Option ((List (S48)) × Bool)
 | 0,_,_,_ => none
 | k + 1,x0,x4,x5 => if x5.toList = ([] : List UInt8) then ((impl_ChainOk.f k x4).bind fun t256 => (if t256 = true then ((impl_ChainText.f k x4).bind fun t257 => (if t257.toList = x0.toList then ((some x4 : Option (List (S48))).bind fun t258 => (some (t258,true))) else (some (([] : List (S48)),false)))) else (some (([] : List (S48)),false)))) else ((strings_Cut.f x5 (⟨#[10]⟩ : ByteArray)).bind fun bt246 => ((impl_readItem.f bt246.1).bind fun bt249 => (if x4.length < 4398046511104 then (impl_ChainRead.l0 k x0 (x4 ++ [(⟨bt249.1,(⟨bt249.2.1,bt249.2.2.1,bt249.2.2.2⟩ : S46)⟩ : S48)]) bt246.2.1) else (none))))
def impl_ChainRead.f (k : Nat) (a0 : ByteArray) : Option ((List (S48)) × Bool):=if (a0.size : Int) > 130 then (some (([] : List (S48)),false)) else (impl_ChainRead.l0 k a0 (([] : List (S48))) a0)
theorem impl_ChainRead.mono_l : ∀ k,(∀ y0 y1 y2,LeO (impl_ChainRead.l0 k y0 y1 y2) (impl_ChainRead.l0 (k + 1) y0 y1 y2))
 | 0 => fun _ _ _ r h => by simp [impl_ChainRead.l0] at h
 | k + 1 => by
  have ih0:=impl_ChainRead.mono_l k
  ·intro y0 y1 y2
   unfold impl_ChainRead.l0
   repeat' first
   | (with_reducible exact ih0 _ _ _)
   | (with_reducible exact impl_ChainOk.mono _ _)
   | (with_reducible exact impl_ChainText.mono _ _)
   | (with_reducible exact LeO.refl _)
   | (with_reducible exact LeO.none _)
   | (with_reducible refine LeO.ite ?_ ?_)
   | (with_reducible refine LeO.bind ?_ (fun _ => ?_))
   | exact ih0 _ _ _
   | exact impl_ChainOk.mono _ _
   | exact impl_ChainText.mono _ _
   | exact LeO.none _
   | refine LeO.ite ?_ ?_
   | refine LeO.bind ?_ (fun _ => ?_)
theorem impl_ChainRead.mono : ∀ a0 k,LeO (impl_ChainRead.f k a0) (impl_ChainRead.f (k + 1) a0):=by
 intro a0 k
 have ih0:=impl_ChainRead.mono_l k
 unfold impl_ChainRead.f
 repeat' first
   | (with_reducible exact ih0 _ _ _)
   | (with_reducible exact impl_ChainOk.mono _ _)
   | (with_reducible exact impl_ChainText.mono _ _)
   | (with_reducible exact LeO.refl _)
   | (with_reducible exact LeO.none _)
   | (with_reducible refine LeO.ite ?_ ?_)
   | (with_reducible refine LeO.bind ?_ (fun _ => ?_))
   | exact ih0 _ _ _
   | exact impl_ChainOk.mono _ _
   | exact impl_ChainText.mono _ _
   | exact LeO.none _
   | refine LeO.ite ?_ ?_
   | refine LeO.bind ?_ (fun _ => ?_)
set_option maxHeartbeats 8000000 in
set_option maxRecDepth 100000 in
theorem impl_ChainRead.callsX (k : Nat) (a0 : ByteArray) (r1 : List (S48)) (r2 : Bool) (w : World) (h : impl_ChainRead.f k a0 = some (r1,r2)) :
  Calls Tryd.prog 12 #[.string a0] w fun e w' => ∃ (A : Option Addr) (c c' : Nat),e = .returned (.tuple #[.slice A r1.length c,.bool r2]) ∧ (r1.length ≤ c ∧ c ≤ c') ∧ Kd.R k48 48 w' w.heap.size (fun _ => True) (.slice A r1.length c') r1 ∧ Below w.heap.size w w':=by
 have HB:=aM (Below.refl w.heap.size w)
 have H : (if (a0.size : Int) > 130 then (some (([] : List (S48)),false)) else (impl_ChainRead.l0 k a0 (([] : List (S48))) a0)) = some (r1,r2):=h
 clear h
 by_cases c2 : (a0.size : Int) > 130
 ·rw [if_pos c2] at H
  have c2b0 : decide (130 < (a0.size : Int)) = true:=decide_eq_true c2
  have c2b1 : decide (130 < a0.size) = true:=decide_eq_true (by omega)
  clear c2
  simp only [Option.some.injEq,Prod.mk.injEq] at H
  obtain ⟨rfl,rfl⟩:=H
  go_enter Tryd.func12,Tryd.ntmps12
  go_wp2
  go_ret2
  exact ⟨_,_,_,by first|rfl|(simp only [i64_w,i32_w];done)|(simp only [i64_w,i32_w];rfl)|(simp [errW_none,errW_some] <;> rfl)|(simp [*,errW_none,errW_some] <;> rfl),⟨Nat.le_refl _,Nat.le_refl _⟩,Kd.R_nil _ _ _ _ _,by repeat (first|(with_reducible first|exact HB.out|apply bA|apply bN|apply bD)|exact HB.out)⟩
 ·rw [if_neg c2] at H
  have c2b0 : decide (130 < (a0.size : Int)) = false:=decide_eq_false c2
  have c2b1 : decide (130 < a0.size) = false:=decide_eq_false (by omega)
  clear c2
  obtain ⟨y243,hy243⟩ : ∃ y_ : List (S48),y_ = (([] : List (S48))):=⟨_,rfl⟩
  replace H : (impl_ChainRead.l0 k a0 y243 a0) = some (r1,r2):=by first|(rw [hy243];with_reducible exact H)|(have H2_:=(Option.bind_some _ _).symm.trans H;rw [hy243];with_reducible exact H2_)|(have H2_:=(Option.bind_some _ _).symm.trans H;with_reducible exact H2_)|with_reducible exact H|(rw [hy243];exact H)|exact H
  have Ny243:=aM hy243
  clear hy243
  have H':=aM H
  clear H
  go_enter Tryd.func12,Tryd.ntmps12
  go_wp2_with (first|((with_reducible refine gate_dst (N:=12) rfl ?_);refine Kd.R_lit k48 _ 48 ?hg (N:=12) ?hd (xs:=([] : List (S48))) (inner:=[]) (ok:=fun _ => True) (okp:=fun _ => True) ?hr ?hp (fun _ hk => hk) trivial (Below.refl _ _) (Nat.le_refl _) (by simp) ?_;(case hd => rfl);(case hg => rfl);(case hr => first|(go_simp;done)|(go_simp;rfl));(case hp => exact (Reps.none _ _));intro v244 w3 ho4 hb hg_ hnew_;clear hg_ hnew_;(first|rw [← Ny243.out] at ho4|(simp only [Int.reduceToNat] at ho4;rw [← Ny243.out] at ho4));have n0_:=aM (Kd.R_lower ho4 (below_size (by repeat (first|(with_reducible first|exact HB.out|apply bA|apply bN|apply bD)|exact HB.out))));have n1_:=aM (below_step (by repeat (first|(with_reducible first|exact HB.out|apply bA|apply bN|apply bD)|exact HB.out)) hb);clear HB;have HO245:=n0_;have HB:=n1_;clear n0_ n1_;clear hb ho4))
  go_loopg [4,5] k (fun kq v4 v5 w' => ∃ (x4_1 : List (S48)) (x5_1 : ByteArray),v5 = .string x5_1 ∧ Aside0 (impl_ChainRead.l0 kq a0 x4_1 x5_1 = some (r1,r2)) ∧ Aside0 (kq ≤ k) ∧ Aside0 (Kd.R k48 48 w' w.heap.size (fun _ => True) v4 x4_1) ∧ Aside0 (Below w.heap.size w w'))
  case atStart => exact ⟨(y243),(a0),(by first|rfl|(simp;done)|(simp [*];done)),H',⟨Nat.le_refl _⟩,⟨by (with_reducible repeat (first|apply Kd.R_alloc|apply Kd.R_drewN|apply Kd.R_drew));exact HO245.out⟩,⟨by repeat (first|(with_reducible first|exact HB.out|apply bA|apply bN|apply bD)|exact HB.out)⟩⟩
  case round =>
   clear H'
   try clear c1
   try clear c2
   try clear c2b0
   try clear c2b1
   try clear p2
   obtain ⟨x4_1,x5_1,rfl,HA,HK1,HO_4,HB⟩:=hrel
   cases gk with
   | zero => exact absurd HA.out (by simp [impl_ChainRead.l0])
   | succ k1 =>
    have H:=HA.out
    clear HA
    simp only [impl_ChainRead.l0] at H
    by_cases c5 : x5_1.toList = ([] : List UInt8)
    ·rw [if_pos c5] at H
     have c5b0 : (x5_1.toList == ([] : List UInt8)) = true:=beq_iff_eq.mpr c5
     have c5b1 : (x5_1.toList != ([] : List UInt8)) = false:=bne_eq_false_iff_eq.mpr c5
     clear c5
     replace H:=Option.bind_eq_some_iff.mp H
     obtain ⟨t256,A60,H⟩:=H
     replace H : (if t256 = true then ((impl_ChainText.f k1 x4_1).bind fun t257 => (if t257.toList = a0.toList then (((some x4_1 : Option (List (S48)))).bind fun t258 => (some (t258,true))) else (some (([] : List (S48)),false)))) else (some (([] : List (S48)),false))) = some (r1,r2):=H
     have A6:=aM A60
     clear A60
     by_cases c7 : t256 = true
     ·subst c7
      have H1 : ((impl_ChainText.f k1 x4_1).bind fun t257 => (if t257.toList = a0.toList then (((some x4_1 : Option (List (S48)))).bind fun t258 => (some (t258,true))) else (some (([] : List (S48)),false)))) = some (r1,r2):=by rw [if_pos rfl] at H;exact H
      clear H
      have H:=H1
      clear H1
      replace H:=Option.bind_eq_some_iff.mp H
      obtain ⟨t257,A80,H⟩:=H
      replace H : (if t257.toList = a0.toList then (((some x4_1 : Option (List (S48)))).bind fun t258 => (some (t258,true))) else (some (([] : List (S48)),false))) = some (r1,r2):=H
      have A8:=aM A80
      clear A80
      by_cases c9 : t257.toList = a0.toList
      ·rw [if_pos c9] at H
       have c9b0 : (t257.toList == a0.toList) = true:=beq_iff_eq.mpr c9
       have c9b1 : (t257.toList != a0.toList) = false:=bne_eq_false_iff_eq.mpr c9
       clear c9
       replace H:=Option.bind_eq_some_iff.mp H
       obtain ⟨t258,A100,H⟩:=H
       obtain rfl:=Option.some.inj A100
       replace H : (some (x4_1,true)) = some (r1,r2):=H
       have A10:=aM A100
       clear A100
       simp only [Option.some.injEq,Prod.mk.injEq] at H
       obtain ⟨rfl,rfl⟩:=H
       obtain ⟨Ao11,co11,eo11⟩:=Kd.R_slice HO_4.out
       subst eo11
       go_wp2_with (first|((with_reducible refine gate_callee (f:=19) rfl ?_);refine goesL_ (some 29) rfl rfl Tryd.func19 (by kernel_rfl) rfl #[.slice Ao11 x4_1.length co11] rfl (by (try simp only [List.map_toArray,List.map_cons,List.map_nil]);first|done|rfl|(simp only [List.length_drop,List.length_take];rfl)) ?_;(with_reducible refine (impl_ChainOk.calls k1 _ _ x4_1 true _ ?side1 ?side2 A6.out).mono ?_);(case side1 => repeat (first|exact (Kd.R_reads' HO_4.out).2.2|(with_reducible refine Kd.C_alloc ?_ _)|(with_reducible refine Kd.C_drewN ?_ _)|(with_reducible refine Kd.C_drew ?_)));(case side2 => exact (Kd.R_reads' HO_4.out).2.1);rintro e w12 ⟨rfl,hb⟩;refine ⟨_,rfl,?_⟩;have n0_:=aM (Kd.R_below (by (with_reducible repeat (first|apply Kd.R_alloc|apply Kd.R_drewN|apply Kd.R_drew));exact HO_4.out) hb);have n1_:=aM (below_step (by repeat (first|(with_reducible first|exact HB.out|apply bA|apply bN|apply bD)|exact HB.out)) hb);clear HO_4;clear HB;have HO_4:=n0_;have HB:=n1_;clear n0_ n1_;(try clear hb);(try clear hb2);(try clear hk);(try clear hi))|(go_at_call 10;(with_reducible refine (impl_ChainText.calls k1 _ _ x4_1 t257 _ ?side1 ?side2 A8.out).mono ?_);(case side1 => repeat (first|exact (Kd.R_reads' HO_4.out).2.2|(with_reducible refine Kd.C_alloc ?_ _)|(with_reducible refine Kd.C_drewN ?_ _)|(with_reducible refine Kd.C_drew ?_)));(case side2 => exact (Kd.R_reads' HO_4.out).2.1);rintro e w13 ⟨rfl,hb⟩;have n0_:=aM (Kd.R_below (by (with_reducible repeat (first|apply Kd.R_alloc|apply Kd.R_drewN|apply Kd.R_drew));exact HO_4.out) hb);have n1_:=aM (below_step (by repeat (first|(with_reducible first|exact HB.out|apply bA|apply bN|apply bD)|exact HB.out)) hb);clear HO_4;clear HB;have HO_4:=n0_;have HB:=n1_;clear n0_ n1_;(try clear hb);(try clear hb2);(try clear hk);(try clear hi))|((with_reducible refine gate_callee (f:=32) rfl ?_);refine goesL_ (some 38) rfl rfl Tryd.func32 (by kernel_rfl) rfl #[.slice Ao11 x4_1.length co11] rfl (by (try simp only [List.map_toArray,List.map_cons,List.map_nil]);first|done|rfl|(simp only [List.length_drop,List.length_take];rfl)) ?_;refine (impl_ChainRead.clip Ao11 x4_1.length co11 _ (Kd.R_reads' HO_4.out).2.1 (row_cap HO_4.out rfl)).mono ?_;rintro e w14 ⟨rfl,rfl⟩;refine ⟨_,rfl,?_⟩))
       go_ret2
       exact ⟨_,_,_,by first|rfl|(simp only [i64_w,i32_w];done)|(simp only [i64_w,i32_w];rfl)|(simp [errW_none,errW_some] <;> rfl)|(simp [*,errW_none,errW_some] <;> rfl),⟨Nat.le_refl _,(Kd.R_reads' HO_4.out).2.1⟩,HO_4.out,by repeat (first|(with_reducible first|exact HB.out|apply bA|apply bN|apply bD)|exact HB.out)⟩
      ·rw [if_neg c9] at H
       have c9b0 : (t257.toList == a0.toList) = false:=beq_eq_false_iff_ne.mpr c9
       have c9b1 : (t257.toList != a0.toList) = true:=bne_iff_ne.mpr c9
       simp only [Option.some.injEq,Prod.mk.injEq] at H
       obtain ⟨rfl,rfl⟩:=H
       obtain ⟨Ao15,co15,eo15⟩:=Kd.R_slice HO_4.out
       subst eo15
       go_wp2_with (first|((with_reducible refine gate_callee (f:=19) rfl ?_);refine goesL_ (some 29) rfl rfl Tryd.func19 (by kernel_rfl) rfl #[.slice Ao15 x4_1.length co15] rfl (by (try simp only [List.map_toArray,List.map_cons,List.map_nil]);first|done|rfl|(simp only [List.length_drop,List.length_take];rfl)) ?_;(with_reducible refine (impl_ChainOk.calls k1 _ _ x4_1 true _ ?side1 ?side2 A6.out).mono ?_);(case side1 => repeat (first|exact (Kd.R_reads' HO_4.out).2.2|(with_reducible refine Kd.C_alloc ?_ _)|(with_reducible refine Kd.C_drewN ?_ _)|(with_reducible refine Kd.C_drew ?_)));(case side2 => exact (Kd.R_reads' HO_4.out).2.1);rintro e w16 ⟨rfl,hb⟩;refine ⟨_,rfl,?_⟩;have n0_:=aM (Kd.R_below (by (with_reducible repeat (first|apply Kd.R_alloc|apply Kd.R_drewN|apply Kd.R_drew));exact HO_4.out) hb);have n1_:=aM (below_step (by repeat (first|(with_reducible first|exact HB.out|apply bA|apply bN|apply bD)|exact HB.out)) hb);clear HO_4;clear HB;have HO_4:=n0_;have HB:=n1_;clear n0_ n1_;(try clear hb);(try clear hb2);(try clear hk);(try clear hi))|(go_at_call 10;(with_reducible refine (impl_ChainText.calls k1 _ _ x4_1 t257 _ ?side1 ?side2 A8.out).mono ?_);(case side1 => repeat (first|exact (Kd.R_reads' HO_4.out).2.2|(with_reducible refine Kd.C_alloc ?_ _)|(with_reducible refine Kd.C_drewN ?_ _)|(with_reducible refine Kd.C_drew ?_)));(case side2 => exact (Kd.R_reads' HO_4.out).2.1);rintro e w17 ⟨rfl,hb⟩;have n0_:=aM (Kd.R_below (by (with_reducible repeat (first|apply Kd.R_alloc|apply Kd.R_drewN|apply Kd.R_drew));exact HO_4.out) hb);have n1_:=aM (below_step (by repeat (first|(with_reducible first|exact HB.out|apply bA|apply bN|apply bD)|exact HB.out)) hb);clear HO_4;clear HB;have HO_4:=n0_;have HB:=n1_;clear n0_ n1_;(try clear hb);(try clear hb2);(try clear hk);(try clear hi)))
       go_ret2
       exact ⟨_,_,_,by first|rfl|(simp only [i64_w,i32_w];done)|(simp only [i64_w,i32_w];rfl)|(simp [errW_none,errW_some] <;> rfl)|(simp [*,errW_none,errW_some] <;> rfl),⟨Nat.le_refl _,Nat.le_refl _⟩,Kd.R_nil _ _ _ _ _,by repeat (first|(with_reducible first|exact HB.out|apply bA|apply bN|apply bD)|exact HB.out)⟩
     ·replace c7:=Bool.eq_false_iff.mpr c7
      subst c7
      have H1 : (some (([] : List (S48)),false)) = some (r1,r2):=by rw [if_neg (show ¬ (false = true) by decide)] at H;exact H
      clear H
      have H:=H1
      clear H1
      simp only [Option.some.injEq,Prod.mk.injEq] at H
      obtain ⟨rfl,rfl⟩:=H
      obtain ⟨Ao18,co18,eo18⟩:=Kd.R_slice HO_4.out
      subst eo18
      go_wp2_with (first|((with_reducible refine gate_callee (f:=19) rfl ?_);refine goesL_ (some 29) rfl rfl Tryd.func19 (by kernel_rfl) rfl #[.slice Ao18 x4_1.length co18] rfl (by (try simp only [List.map_toArray,List.map_cons,List.map_nil]);first|done|rfl|(simp only [List.length_drop,List.length_take];rfl)) ?_;(with_reducible refine (impl_ChainOk.calls k1 _ _ x4_1 false _ ?side1 ?side2 A6.out).mono ?_);(case side1 => repeat (first|exact (Kd.R_reads' HO_4.out).2.2|(with_reducible refine Kd.C_alloc ?_ _)|(with_reducible refine Kd.C_drewN ?_ _)|(with_reducible refine Kd.C_drew ?_)));(case side2 => exact (Kd.R_reads' HO_4.out).2.1);rintro e w19 ⟨rfl,hb⟩;refine ⟨_,rfl,?_⟩;have n0_:=aM (Kd.R_below (by (with_reducible repeat (first|apply Kd.R_alloc|apply Kd.R_drewN|apply Kd.R_drew));exact HO_4.out) hb);have n1_:=aM (below_step (by repeat (first|(with_reducible first|exact HB.out|apply bA|apply bN|apply bD)|exact HB.out)) hb);clear HO_4;clear HB;have HO_4:=n0_;have HB:=n1_;clear n0_ n1_;(try clear hb);(try clear hb2);(try clear hk);(try clear hi)))
      go_ret2
      exact ⟨_,_,_,by first|rfl|(simp only [i64_w,i32_w];done)|(simp only [i64_w,i32_w];rfl)|(simp [errW_none,errW_some] <;> rfl)|(simp [*,errW_none,errW_some] <;> rfl),⟨Nat.le_refl _,Nat.le_refl _⟩,Kd.R_nil _ _ _ _ _,by repeat (first|(with_reducible first|exact HB.out|apply bA|apply bN|apply bD)|exact HB.out)⟩
    ·rw [if_neg c5] at H
     have c5b0 : (x5_1.toList == ([] : List UInt8)) = false:=beq_eq_false_iff_ne.mpr c5
     have c5b1 : (x5_1.toList != ([] : List UInt8)) = true:=bne_iff_ne.mpr c5
     replace H:=Option.bind_eq_some_iff.mp H
     obtain ⟨⟨t246,t247,t248⟩,A200,H⟩:=H
     replace H : ((impl_readItem.f t246).bind fun bt249 => (if x4_1.length < 4398046511104 then (impl_ChainRead.l0 k1 a0 (x4_1 ++ [(⟨bt249.1,(⟨bt249.2.1,bt249.2.2.1,bt249.2.2.2⟩ : S46)⟩ : S48)]) t247) else (none))) = some (r1,r2):=H
     have A20:=aM A200
     clear A200
     replace H:=Option.bind_eq_some_iff.mp H
     obtain ⟨⟨t249,t250,t251,t252⟩,A210,H⟩:=H
     replace H : (if x4_1.length < 4398046511104 then (impl_ChainRead.l0 k1 a0 (x4_1 ++ [(⟨t249,(⟨t250,t251,t252⟩ : S46)⟩ : S48)]) t247) else (none)) = some (r1,r2):=H
     have A21:=aM A210
     clear A210
     by_cases c22 : x4_1.length < 4398046511104
     case neg => rw [if_neg c22] at H;exact absurd H (by simp)
     rw [if_pos c22] at H
     have LMc22:=aM c22
     clear c22
     obtain ⟨y253,hy253⟩ : ∃ y_ : List (S48),y_ = (x4_1 ++ [(⟨t249,(⟨t250,t251,t252⟩ : S46)⟩ : S48)]):=⟨_,rfl⟩
     replace H : (impl_ChainRead.l0 k1 a0 y253 t247) = some (r1,r2):=by first|(rw [hy253];with_reducible exact H)|(have H2_:=(Option.bind_some _ _).symm.trans H;rw [hy253];with_reducible exact H2_)|(have H2_:=(Option.bind_some _ _).symm.trans H;with_reducible exact H2_)|with_reducible exact H|(rw [hy253];exact H)|exact H
     have Ny253:=aM hy253
     clear hy253
     have H':=aM H
     clear H
     go_wp2_with (first|((with_reducible refine gate_callee (f:=30) rfl ?_);refine goesL_ (some 18) rfl rfl Tryd.func30 (by kernel_rfl) rfl #[.string x5_1,.string (⟨#[10]⟩ : ByteArray)] rfl (by (try simp only [List.map_toArray,List.map_cons,List.map_nil]);first|done|rfl|(simp only [List.length_drop,List.length_take];rfl)) ?_;(with_reducible refine (strings_Cut.calls x5_1 (⟨#[10]⟩ : ByteArray) t246 t247 t248 _ A20.out).mono ?_);rintro e w23 ⟨rfl,hb⟩;refine ⟨_,rfl,?_⟩;have n0_:=aM (Kd.R_below (by (with_reducible repeat (first|apply Kd.R_alloc|apply Kd.R_drewN|apply Kd.R_drew));exact HO_4.out) hb);have n1_:=aM (below_step (by repeat (first|(with_reducible first|exact HB.out|apply bA|apply bN|apply bD)|exact HB.out)) hb);clear HO_4;clear HB;have HO_4:=n0_;have HB:=n1_;clear n0_ n1_;(try clear hb);(try clear hb2);(try clear hk);(try clear hi))|((with_reducible refine gate_callee (f:=31) rfl ?_);refine goesL_ (some 24) rfl rfl Tryd.func31 (by kernel_rfl) rfl #[.string t246] rfl (by (try simp only [List.map_toArray,List.map_cons,List.map_nil]);first|done|rfl|(simp only [List.length_drop,List.length_take];rfl)) ?_;(with_reducible refine (impl_readItem.calls t246 t249 t250 t251 t252 _ A21.out).mono ?_);rintro e w24 ⟨rfl,hb⟩;refine ⟨_,rfl,?_⟩;have n0_:=aM (Kd.R_below (by (with_reducible repeat (first|apply Kd.R_alloc|apply Kd.R_drewN|apply Kd.R_drew));exact HO_4.out) hb);have n1_:=aM (below_step (by repeat (first|(with_reducible first|exact HB.out|apply bA|apply bN|apply bD)|exact HB.out)) hb);clear HO_4;clear HB;have HO_4:=n0_;have HB:=n1_;clear n0_ n1_;(try clear hb);(try clear hb2);(try clear hk);(try clear hi))|((with_reducible refine gate_builtin (b:=.append) (xs:=#[.tmp 22,.tmp 25]) rfl ?_);at_builtin;refine Kd.R_append k48 (w0:=w) w.heap.size rfl (.tmp 22) (.tmp 25) 23 48 (.agg #[(.int .i64 0),(.int .i64 0),(.int .i64 0),(.int .i64 0)]) 32 rfl Tryd.underlying23 info48 rfl (by decide) (by omega) u4 x4_1 (⟨t249,(⟨t250,t251,t252⟩ : S46)⟩ : S48) [.int .i64 t249,.int .i64 t250,.int .i64 t251,.int .i64 t252] (fun _ => True) (fun _ => False) rfl rfl ?aP (fun _ hk => hk.elim) ?aF ?aO ?aB ?aS ?aL ?_;(case aP => exact k48_mkM _ _ _ (⟨t249,(⟨t250,t251,t252⟩ : S46)⟩ : S48));(case aB => exact (by repeat (first|(with_reducible first|exact HB.out|apply bA|apply bN|apply bD)|exact HB.out)));(case aF => exact (fun _ _ => trivial));(case aO => exact (by (with_reducible repeat (first|apply Kd.R_alloc|apply Kd.R_drewN|apply Kd.R_drew));exact HO_4.out));(case aS => exact (below_size (by repeat (first|(with_reducible first|exact HB.out|apply bA|apply bN|apply bD)|exact HB.out))));(case aL => have:=LMc22.out;omega);intro v254 w25 ho hb hg hat;rw [← Ny253.out] at ho;have n0_:=aM (hb);have n1_:=aM (ho);clear HB;clear HO_4;have HB:=n0_;have HO255:=n1_;clear n0_ n1_;clear ho hb hg hat))
     go_roundg k1
     case measure => have:=HK1.out;omega
     case rel => exact ⟨(y253),(t247),(by first|rfl|(simp;done)|(simp [*];done)),H',⟨by have:=HK1.out;omega⟩,⟨by (with_reducible repeat (first|apply Kd.R_alloc|apply Kd.R_drewN|apply Kd.R_drew));exact HO255.out⟩,⟨by repeat (first|(with_reducible first|exact HB.out|apply bA|apply bN|apply bD)|exact HB.out)⟩⟩
theorem impl_ChainRead.calls (k : Nat) (a0 : ByteArray) (r1 : List (S48)) (r2 : Bool) (w : World) (h : impl_ChainRead.f k a0 = some (r1,r2)) :
  Calls Tryd.prog 12 #[.string a0] w fun e w' => ∃ v0_ : Value,e = .returned (.tuple #[v0_,.bool r2]) ∧ Kd.V k48 48 w' w.heap.size (fun k_ => (w.heap.size ≤ k_)) v0_ r1 ∧ Below w.heap.size w w':=by
 refine (impl_ChainRead.callsX k a0 r1 r2 w h).mono ?_
 rintro e w' ⟨A,c,c',he,hl,ho,hb⟩
 exact ⟨_,he,Kd.V_mk hl.1 (Kd.F_mono (Kd.R_F (Kd.R_bound ho)) (fun k hk => hk.2.1)),hb⟩

/-! ### spec_l6In: function 42 -/
def spec_l6In.f (a0 : Int) (a1 : Int) (a2 : Int) : Option (Bool):=if a0 ≥ a1 then (some (decide (a0 ≤ a2))) else (some false)
set_option maxHeartbeats 8000000 in
set_option maxRecDepth 100000 in
theorem spec_l6In.calls (a0 : Int) (a1 : Int) (a2 : Int) (r : Bool) (w : World) (h : spec_l6In.f a0 a1 a2 = some r) :
  Calls Tryd.prog 42 #[.int .i64 a0,.int .i64 a1,.int .i64 a2] w fun e w' => e = .returned (.bool r) ∧ Drawn0 w w':=by
 have H : (if a0 ≥ a1 then (some (decide (a0 ≤ a2))) else (some false)) = some r:=h
 clear h
 by_cases c4 : a0 ≥ a1
 ·rw [if_pos c4] at H
  have c4b0 : decide (a1 ≤ a0) = true:=decide_eq_true c4
  clear c4
  obtain rfl:=Option.some.inj H
  go_enter Tryd.func42,Tryd.ntmps42
  go_wp2
  go_ret
  exact ⟨by first|rfl|(simp;done)|(simp [*];done),by repeat (first|exact Drawn0.refl _|apply Drawn0.step)⟩
 ·rw [if_neg c4] at H
  have c4b0 : decide (a1 ≤ a0) = false:=decide_eq_false c4
  clear c4
  obtain rfl:=Option.some.inj H
  go_enter Tryd.func42,Tryd.ntmps42
  go_wp2
  go_ret
  exact ⟨by first|rfl|(simp;done)|(simp [*];done),by repeat (first|exact Drawn0.refl _|apply Drawn0.step)⟩

end Go.Proofs.YthjpkfcejdddkaaDoor.P
