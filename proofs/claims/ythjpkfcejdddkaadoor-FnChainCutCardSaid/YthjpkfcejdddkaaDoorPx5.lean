/- The printed functions: what each Go function computes, as a Lean function, and that the Go code comes to just that. Conditions: none beyond each contract's own. -/
import Derived.Test.YthjpkfcejdddkaaDoorShelf
import Derived.Test.YthjpkfcejdddkaaDoorPx0
import Derived.Test.YthjpkfcejdddkaaDoorPx4
namespace Go.Proofs.YthjpkfcejdddkaaDoor.P
open Go.RowKit Go.Proofs.YthjpkfcejdddkaaDoorW.PrintWords Go.Proofs.YthjpkfcejdddkaaDoorW.PrintLast Go.Proofs.YthjpkfcejdddkaaDoorW.PrintMore
attribute [local go_sem] max2_int min2_int max_two min_two max_three min_three max_four min_four   -- for this text's walks alone
set_option linter.unusedVariables false
set_option linter.unusedSimpArgs false

-- NOT PRINTED: function 58 (abi_NoEscape)

-- NOT PRINTED: function 47 (strings_Builder_copyCheck)

-- NOT PRINTED: function 26 (strings_Builder_WriteString)

-- NOT PRINTED: function 62 (strconv_small)

-- NOT PRINTED: function 73 (strconv_log10Pow2)

-- NOT PRINTED: function 74 (bits_Len64)

-- NOT PRINTED: function 75 (strconv_bool2_int)

-- NOT PRINTED: function 63 (strconv_numDigits)

-- NOT PRINTED: function 64 (strconv_formatBase10)

-- NOT PRINTED: function 76 (strconv_isPowerOfTwo)

-- NOT PRINTED: function 83 (bits_TrailingZeros32)

-- NOT PRINTED: function 84 (bits_TrailingZeros64)

-- NOT PRINTED: function 77 (bits_TrailingZeros)

-- NOT PRINTED: function 65 (strconv_formatBits)

-- NOT PRINTED: function 59 (strconv_FormatInt)

-- NOT PRINTED: function 48 (strconv_Itoa_48)

-- NOT PRINTED: function 27 (strconv_Itoa_27)

-- NOT PRINTED: function 28 (strings_Builder_String)

/-! ### impl_ChainText: function 10 -/
/-- The digits of a number. -/
def impl_ChainText.dec (n : Int) : ByteArray := ⟨(Lib.decDigits n.toNat).toArray⟩
/-- The text of an item. -/
def impl_ChainText.item (x : S48) : ByteArray := (((((impl_ChainText.dec x.f0 ++ (⟨#[58]⟩ : ByteArray)) ++ impl_ChainText.dec x.f1.f0) ++ impl_ChainText.dec x.f1.f1) ++ impl_ChainText.dec x.f1.f2) ++ (⟨#[10]⟩ : ByteArray))
/-- The text of items. -/
def impl_ChainText.txt (l : List (S48)) : List UInt8 := l.flatMap fun x => (impl_ChainText.item x).data.toList
def impl_ChainText.low (n : Int) : Prop := (0 ≤ n ∧ n < 100) ∧ (impl_ChainText.dec n).size ≤ 100
def impl_ChainText.small (x : S48) : Prop := impl_ChainText.low x.f0 ∧ impl_ChainText.low x.f1.f0 ∧ impl_ChainText.low x.f1.f1 ∧ impl_ChainText.low x.f1.f2
instance (n : Int) : Decidable (impl_ChainText.low n) := by unfold impl_ChainText.low; infer_instance
instance (x : S48) : Decidable (impl_ChainText.small x) := by unfold impl_ChainText.small; infer_instance
def impl_ChainText.f (k : Nat) (l0 : List (S48)) : Option ByteArray := (impl_ChainOk.f k l0).bind fun t => (if t = true then (if l0.length ≤ 1000 ∧ ∀ x ∈ l0, impl_ChainText.small x then (some (⟨(impl_ChainText.txt l0).toArray⟩ : ByteArray)) else (none)) else (some (⟨#[]⟩ : ByteArray)))
theorem impl_ChainText.mono : ∀ a0 k, LeO (impl_ChainText.f k a0) (impl_ChainText.f (k + 1) a0) := by
 intro a0 k
 unfold impl_ChainText.f
 exact LeO.bind (impl_ChainOk.mono _ _) (fun _ => LeO.refl _)
theorem impl_ChainText.itoa (n : Int) (h0 : 0 ≤ n) (h1 : n < 100) (w : World) : Calls Tryd.prog 27 #[.int .i64 n] w fun e w' => e = .returned (.string (impl_ChainText.dec n)) ∧ w' = w := by
 obtain ⟨i, rfl⟩ := Int.eq_ofNat_of_zero_le h0
 exact Sh.strconv_Itoa_small i (by omega) w
theorem impl_ChainText.size_add (a b : ByteArray) : (a ++ b).size = a.size + b.size := ByteArray.size_append
theorem impl_ChainText.item_size {x : S48} (h : impl_ChainText.small x) : (impl_ChainText.item x).size ≤ 402 := by
 obtain ⟨⟨_, h0⟩, ⟨_, h1⟩, ⟨_, h2⟩, ⟨_, h3⟩⟩ := h
 simp only [impl_ChainText.item, impl_ChainText.size_add]
 have e1 : (⟨#[58]⟩ : ByteArray).size = 1 := rfl
 have e2 : (⟨#[10]⟩ : ByteArray).size = 1 := rfl
 omega
theorem impl_ChainText.txt_snoc (l : List (S48)) (i : Nat) (h : i < l.length) : impl_ChainText.txt (l.take (i + 1)) = impl_ChainText.txt (l.take i) ++ (impl_ChainText.item l[i]).data.toList := by
 rw [impl_ChainText.txt, List.take_succ_eq_append_getElem h, List.flatMap_append, List.flatMap_singleton]
 rfl
theorem impl_ChainText.builder_alloc {T e B b : Nat} {bs : List Value} {w : World} (h : Lib.IsBuilder T e B b bs w) (o : Obj) : Lib.IsBuilder T e B b bs (w.alloc o).drew := by
 have one : ∀ p, Lib.BuilderAt T e B b p bs w → Lib.BuilderAt T e B b p bs (w.alloc o).drew := fun p h => by
  have hlt := h.lt
  obtain ⟨hB, v, hb, hown, hne⟩ := h
  exact ⟨hB, v, (Lib.alloc_old w o b hlt).trans hb, hown.alloc o, hne⟩
 rcases h with h | h
 ·exact .inl (one _ h)
 ·exact .inr (one _ h)
theorem impl_ChainText.new_cell (w : World) (cs : Array Value) (t : TypeId) (j : Nat) : (w.alloc (.cells cs t)).drew.cell? ⟨w.heap.size, j, none⟩ = cs[j]? := Lib.cell_of_heap (T := t) (fr := (0, 0)) (show (w.alloc (.cells cs t)).heap[w.heap.size]? = _ from heap_alloc_new w _) j
theorem impl_ChainText.wrap_low {n : Int} (h0 : -4611686018427387904 ≤ n) (h1 : n ≤ 4611686018427387904) : wrap64 n = n := by
 unfold wrap64
 omega
theorem impl_ChainText.txt_len : ∀ (l : List (S48)), (∀ x ∈ l, impl_ChainText.small x) → (impl_ChainText.txt l).length ≤ 402 * l.length
 | [], _ => by simp [impl_ChainText.txt]
 | x :: l, h => by
  have h1 := impl_ChainText.txt_len l (fun y hy => h y (List.mem_cons_of_mem _ hy))
  have h2 := impl_ChainText.item_size (h x List.mem_cons_self)
  have e : impl_ChainText.txt (x :: l) = (impl_ChainText.item x).data.toList ++ impl_ChainText.txt l := rfl
  rw [e, List.length_append, List.length_cons]
  have e2 : (impl_ChainText.item x).data.toList.length = (impl_ChainText.item x).size := rfl
  omega
def impl_ChainText.T7 : Bool × List (List Nat × List Nat) := (true, [([], []), ([0], [0]), ([1], [1]), ([2], [2]), ([], []), ([4], [4]), ([5], [5]), ([6, 2], [6]), ([3, 7], [3, 7]), ([], []), ([9], [9]), ([10], [10]), ([11, 7], [11]), ([8, 12], [8, 12]), ([], []), ([14], [14]), ([15], [15]), ([16, 12], [16]), ([13, 17], [13, 17]), ([18], [18]), ([19, 17], [19])])
def impl_ChainText.B7 : List Nat := [0, 1, 3, 7, 0, 16, 48, 119, 255, 0, 512, 1536, 3831, 8191, 0, 16384, 49152, 122615, 262143, 524287, 1048575]
theorem impl_ChainText.tab7 : rtab .any (opsOf Tryd.f10 7) = impl_ChainText.T7 := by kernel_rfl
theorem impl_ChainText.bits7 : waitsOk impl_ChainText.T7.2 impl_ChainText.B7 = true := by kernel_rfl
set_option maxHeartbeats 8000000 in
set_option maxRecDepth 100000 in
theorem impl_ChainText.calls (k : Nat) (A0 : Option Addr) (c0 : Nat) (l0 : List (S48)) (r : ByteArray) (w : World) (hr0 : Kd.C k48 w A0 l0.length l0) (hc0 : l0.length ≤ c0) (h : impl_ChainText.f k l0 = some r) :
 Calls Tryd.prog 10 #[.slice A0 l0.length c0] w fun e w' => e = .returned (.string r) ∧ Below w.heap.size w w' := by
 have HR0 := Aside0.mk hr0
 have HC0 := Aside0.mk hc0
 clear hr0 hc0
 unfold impl_ChainText.f at h
 obtain ⟨t, A20, H⟩ := Option.bind_eq_some_iff.mp h
 clear h
 have A2 := Aside0.mk A20
 clear A20
 cases t with
 | false =>
  have H1 : (some (⟨#[]⟩ : ByteArray)) = some r := by rw [if_neg (show ¬ (false = true) by decide)] at H; exact H
  clear H
  obtain rfl := Option.some.inj H1
  go_enter Tryd.func10, Tryd.ntmps10
  go_wp2_with (go_at_call 19; refine (impl_ChainOk.calls k _ _ l0 false _ HR0.out HC0.out A2.out).mono ?_)
  first | (rintro e w4 ⟨rfl, hb⟩; have HB := Aside0.mk hb; clear hb) | (rintro e w4 rfl hb; have HB := Aside0.mk hb; clear hb)
  go_wp2
  go_ret
  exact ⟨rfl, HB.out⟩
 | true =>
  have H1 : (if l0.length ≤ 1000 ∧ ∀ x ∈ l0, impl_ChainText.small x then (some (⟨(impl_ChainText.txt l0).toArray⟩ : ByteArray)) else (none)) = some r := by rw [if_pos rfl] at H; exact H
  clear H
  by_cases hs : l0.length ≤ 1000 ∧ ∀ x ∈ l0, impl_ChainText.small x
  case neg => rw [if_neg hs] at H1; exact absurd H1 (by simp)
  rw [if_pos hs] at H1
  obtain rfl := Option.some.inj H1
  clear H1
  have HS := Aside0.mk hs
  clear hs
  go_enter Tryd.func10, Tryd.ntmps10
  go_wp2_with (go_at_call 19; refine (impl_ChainOk.calls k _ _ l0 true _ HR0.out HC0.out A2.out).mono ?_)
  first | (rintro e w4 ⟨rfl, hb⟩; have HB := Aside0.mk hb; clear hb) | (rintro e w4 rfl hb; have HB := Aside0.mk hb; clear hb)
  go_wp2
  go_loopg [11] l0.length (fun m v11 w' => ∃ x : Int, v11 = .int .i64 x ∧ Aside0 (0 ≤ x) ∧ Aside0 (x.toNat + m = l0.length) ∧ Aside0 (Lib.IsBuilder 44 5 w4.heap.size w4.heap.size (Lib.byteCells (impl_ChainText.txt (l0.take x.toNat))) w') ∧ Aside0 (Below w4.heap.size w4 w') ∧ Aside0 (w4.heap.size ≤ w'.heap.size))
  case atStart => exact ⟨0, rfl, ⟨Int.le_refl _⟩, ⟨by simp⟩, ⟨Lib.fresh_isBuilder 44 5 w4⟩, ⟨below_alloc (Below.refl _ _) _⟩, ⟨(below_alloc (Below.refl _ _) _).size⟩⟩
  case round =>
   obtain ⟨x, rfl, H0, HM, HI, HW, HZ⟩ := hrel
   by_cases c4 : x < (l0.length : Int)
   ·have c4b0 : decide (x < (l0.length : Int)) = true := decide_eq_true c4
    have h0 := H0.out
    have h0b0 : decide (0 ≤ x) = true := decide_eq_true h0
    obtain ⟨ad, e0, hx0, hx1, hx2, hx3⟩ := at_T48 HR0.out x h0 c4
    subst e0
    have hm : rd_T48 l0 x ∈ l0 := by
     have : x.toNat < l0.length := by omega
     have e : rd_T48 l0 x = l0[x.toNat] := by simp [rd_T48, List.getElem?_eq_getElem this]
     rw [e]; exact List.getElem_mem this
    have hsm := HS.out.2 _ hm
    have hit : l0[x.toNat]'(by omega) = rd_T48 l0 x := by
     have : x.toNat < l0.length := by omega
     simp [rd_T48, List.getElem?_eq_getElem this]
    have HSN := Aside0.mk (impl_ChainText.txt_snoc l0 x.toNat (by omega))
    rw [hit] at HSN
    replace hx0 := (HW.out.cell (World.block_lt_of_cell? w4 _ ((HB.out.cell (World.block_lt_of_cell? w _ hx0)).trans hx0))).trans ((HB.out.cell (World.block_lt_of_cell? w _ hx0)).trans hx0)
    replace hx1 := (HW.out.cell (World.block_lt_of_cell? w4 _ ((HB.out.cell (World.block_lt_of_cell? w _ hx1)).trans hx1))).trans ((HB.out.cell (World.block_lt_of_cell? w _ hx1)).trans hx1)
    replace hx2 := (HW.out.cell (World.block_lt_of_cell? w4 _ ((HB.out.cell (World.block_lt_of_cell? w _ hx2)).trans hx2))).trans ((HB.out.cell (World.block_lt_of_cell? w _ hx2)).trans hx2)
    replace hx3 := (HW.out.cell (World.block_lt_of_cell? w4 _ ((HB.out.cell (World.block_lt_of_cell? w _ hx3)).trans hx3))).trans ((HB.out.cell (World.block_lt_of_cell? w _ hx3)).trans hx3)
    generalize hg : rd_T48 l0 x = it at hx0 hx1 hx2 hx3 hsm HSN
    clear hit hm hg
    obtain ⟨n0, n1, n2, n3⟩ := it
    obtain ⟨⟨hn0, hz0⟩, ⟨hn1, hz1⟩, ⟨hn2, hz2⟩, ⟨hn3, hz3⟩⟩ := hsm
    replace hz0 : (impl_ChainText.dec n0).size ≤ 100 := hz0
    replace hz1 : (impl_ChainText.dec n1).size ≤ 100 := hz1
    replace hz2 : (impl_ChainText.dec n2).size ≤ 100 := hz2
    replace hz3 : (impl_ChainText.dec n3).size ≤ 100 := hz3
    have z3 : (9223372036854775807 < (impl_ChainText.dec n0).size + 1) = False := eq_false (by omega)
    have z8 : (9223372036854775807 < (impl_ChainText.dec n0).size + 1 + (impl_ChainText.dec n1).size) = False := eq_false (by omega)
    have z13 : (9223372036854775807 < (impl_ChainText.dec n0).size + 1 + (impl_ChainText.dec n1).size + (impl_ChainText.dec n2).size) = False := eq_false (by omega)
    have z18 : (9223372036854775807 < (impl_ChainText.dec n0).size + 1 + (impl_ChainText.dec n1).size + (impl_ChainText.dec n2).size + (impl_ChainText.dec n3).size) = False := eq_false (by omega)
    have z19 : (9223372036854775807 < (impl_ChainText.dec n0).size + 1 + (impl_ChainText.dec n1).size + (impl_ChainText.dec n2).size + (impl_ChainText.dec n3).size + 1) = False := eq_false (by omega)
    cases gk with
    | zero => exact absurd HM.out (by omega)
    | succ k1 =>
    go_wp2
    have HI7 : Aside0 (Lib.IsBuilder 44 5 w4.heap.size w4.heap.size (Lib.byteCells (impl_ChainText.txt (l0.take x.toNat))) (wr.alloc (.cells #[.int .i64 n0, .int .i64 n1, .int .i64 n2, .int .i64 n3] 48)).drew) := ⟨impl_ChainText.builder_alloc HI.out _⟩
    have HW7 : Aside0 (Below w4.heap.size w4 (wr.alloc (.cells #[.int .i64 n0, .int .i64 n1, .int .i64 n2, .int .i64 n3] 48)).drew) := ⟨below_drew1 (below_alloc HW.out _)⟩
    have HZ7 : Aside0 (w4.heap.size ≤ (wr.alloc (.cells #[.int .i64 n0, .int .i64 n1, .int .i64 n2, .int .i64 n3] 48)).drew.heap.size) := ⟨HW7.out.size⟩
    refine start_ (n := 21) (S := fun w' => w'.cell? ⟨wr.heap.size, 0, none⟩ = some (.int .i64 n0) ∧ w'.cell? ⟨wr.heap.size, 1, none⟩ = some (.int .i64 n1) ∧ w'.cell? ⟨wr.heap.size, 2, none⟩ = some (.int .i64 n2) ∧ w'.cell? ⟨wr.heap.size, 3, none⟩ = some (.int .i64 n3)) (ds := [20]) #[false, false, false, false, false, false, false, false, false, false, false, false, false, false, false, false, false, false, false, false, false] (by kernel_rfl) rfl rfl ⟨impl_ChainText.new_cell wr _ _ 0, impl_ChainText.new_cell wr _ _ 1, impl_ChainText.new_cell wr _ _ 2, impl_ChainText.new_cell wr _ _ 3⟩ (fun hHeld => ?_)
    refine with_tabW impl_ChainText.tab7 impl_ChainText.bits7 (fun HT_ HW_ => ?_)
    generalize (wr.alloc (.cells #[.int .i64 n0, .int .i64 n1, .int .i64 n2, .int .i64 n3] 48)).drew = w7 at HI7 HW7 HZ7 hHeld ⊢
    clear HI HW HZ hx0 hx1 hx2 hx3
    refine pure_ (i := 0) (N := some 15) (v := ?_) (a' := ?_) #[true, false, false, false, false, false, false, false, false, false, false, false, false, false, false, false, false, false, false, false, false] rfl rfl (any_of HT_.out (by kernel_rfl)) (fun _ _ _ h => h) (Or.inl ⟨by rfl, ?_⟩) ?_ ?_
    rotate_left
    ·intro w'
     go_simp
     with_reducible rfl
    rotate_left
    ·simp only [Act.put, List.setIfInBounds_toArray, List.set_cons_zero, List.set_cons_succ, i64_w, i32_w]
     rfl
    refine pure_ (i := 4) (N := some 19) (v := ?_) (a' := ?_) #[true, false, false, false, true, false, false, false, false, false, false, false, false, false, false, false, false, false, false, false, false] rfl rfl (any_of HT_.out (by kernel_rfl)) (fun _ _ _ h => h) (Or.inl ⟨by rfl, ?_⟩) ?_ ?_
    rotate_left
    ·intro w'
     go_simp
     with_reducible rfl
    rotate_left
    ·simp only [Act.put, List.setIfInBounds_toArray, List.set_cons_zero, List.set_cons_succ, i64_w, i32_w]
     rfl
    refine pure_ (i := 5) (N := some 20) (v := ?_) (a' := ?_) #[true, false, false, false, true, true, false, false, false, false, false, false, false, false, false, false, false, false, false, false, false] rfl rfl (any_of HT_.out (by kernel_rfl)) (fun _ _ _ h => h) (Or.inl ⟨by rfl, ?_⟩) ?_ ?_
    rotate_left
    ·intro w'
     go_simp
     with_reducible rfl
    rotate_left
    ·simp only [Act.put, List.setIfInBounds_toArray, List.set_cons_zero, List.set_cons_succ, i64_w, i32_w]
     rfl
    refine pure_ (i := 9) (N := some 24) (v := ?_) (a' := ?_) #[true, false, false, false, true, true, false, false, false, true, false, false, false, false, false, false, false, false, false, false, false] rfl rfl (any_of HT_.out (by kernel_rfl)) (fun _ _ _ h => h) (Or.inl ⟨by rfl, ?_⟩) ?_ ?_
    rotate_left
    ·intro w'
     go_simp
     with_reducible rfl
    rotate_left
    ·simp only [Act.put, List.setIfInBounds_toArray, List.set_cons_zero, List.set_cons_succ, i64_w, i32_w]
     rfl
    refine pure_ (i := 10) (N := some 25) (v := ?_) (a' := ?_) #[true, false, false, false, true, true, false, false, false, true, true, false, false, false, false, false, false, false, false, false, false] rfl rfl (any_of HT_.out (by kernel_rfl)) (fun _ _ _ h => h) (Or.inl ⟨by rfl, ?_⟩) ?_ ?_
    rotate_left
    ·intro w'
     go_simp
     with_reducible rfl
    rotate_left
    ·simp only [Act.put, List.setIfInBounds_toArray, List.set_cons_zero, List.set_cons_succ, i64_w, i32_w]
     rfl
    refine pure_ (i := 14) (N := some 29) (v := ?_) (a' := ?_) #[true, false, false, false, true, true, false, false, false, true, true, false, false, false, true, false, false, false, false, false, false] rfl rfl (any_of HT_.out (by kernel_rfl)) (fun _ _ _ h => h) (Or.inl ⟨by rfl, ?_⟩) ?_ ?_
    rotate_left
    ·intro w'
     go_simp
     with_reducible rfl
    rotate_left
    ·simp only [Act.put, List.setIfInBounds_toArray, List.set_cons_zero, List.set_cons_succ, i64_w, i32_w]
     rfl
    refine pure_ (i := 15) (N := some 30) (v := ?_) (a' := ?_) #[true, false, false, false, true, true, false, false, false, true, true, false, false, false, true, true, false, false, false, false, false] rfl rfl (any_of HT_.out (by kernel_rfl)) (fun _ _ _ h => h) (Or.inl ⟨by rfl, ?_⟩) ?_ ?_
    rotate_left
    ·intro w'
     go_simp
     with_reducible rfl
    rotate_left
    ·simp only [Act.put, List.setIfInBounds_toArray, List.set_cons_zero, List.set_cons_succ, i64_w, i32_w]
     rfl
    refine take_ (i := 1) (N := some 16) (v := ?_) (a' := ?_) #[true, true, false, false, true, true, false, false, false, true, true, false, false, false, true, true, false, false, false, false, false] rfl rfl (take_ofW HT_.out HW_.out (by kernel_rfl)) (fun _ _ _ h => h) (Or.inl ⟨by rfl, ?_⟩) hHeld ?_ ?_
    rotate_left
    ·rintro w' ⟨s0, s1, s2, s3⟩
     (try simp only [Int.toNat_natCast] at s0 s1 s2 s3)
     go_simp
     with_reducible rfl
    rotate_left
    ·simp only [Act.put, List.setIfInBounds_toArray, List.set_cons_zero, List.set_cons_succ, i64_w, i32_w]
     rfl
    refine take_ (i := 6) (N := some 21) (v := ?_) (a' := ?_) #[true, true, false, false, true, true, true, false, false, true, true, false, false, false, true, true, false, false, false, false, false] rfl rfl (take_ofW HT_.out HW_.out (by kernel_rfl)) (fun _ _ _ h => h) (Or.inl ⟨by rfl, ?_⟩) hHeld ?_ ?_
    rotate_left
    ·rintro w' ⟨s0, s1, s2, s3⟩
     (try simp only [Int.toNat_natCast] at s0 s1 s2 s3)
     go_simp
     with_reducible rfl
    rotate_left
    ·simp only [Act.put, List.setIfInBounds_toArray, List.set_cons_zero, List.set_cons_succ, i64_w, i32_w]
     rfl
    refine take_ (i := 11) (N := some 26) (v := ?_) (a' := ?_) #[true, true, false, false, true, true, true, false, false, true, true, true, false, false, true, true, false, false, false, false, false] rfl rfl (take_ofW HT_.out HW_.out (by kernel_rfl)) (fun _ _ _ h => h) (Or.inl ⟨by rfl, ?_⟩) hHeld ?_ ?_
    rotate_left
    ·rintro w' ⟨s0, s1, s2, s3⟩
     (try simp only [Int.toNat_natCast] at s0 s1 s2 s3)
     go_simp
     with_reducible rfl
    rotate_left
    ·simp only [Act.put, List.setIfInBounds_toArray, List.set_cons_zero, List.set_cons_succ, i64_w, i32_w]
     rfl
    refine take_ (i := 16) (N := some 31) (v := ?_) (a' := ?_) #[true, true, false, false, true, true, true, false, false, true, true, true, false, false, true, true, true, false, false, false, false] rfl rfl (take_ofW HT_.out HW_.out (by kernel_rfl)) (fun _ _ _ h => h) (Or.inl ⟨by rfl, ?_⟩) hHeld ?_ ?_
    rotate_left
    ·rintro w' ⟨s0, s1, s2, s3⟩
     (try simp only [Int.toNat_natCast] at s0 s1 s2 s3)
     go_simp
     with_reducible rfl
    rotate_left
    ·simp only [Act.put, List.setIfInBounds_toArray, List.set_cons_zero, List.set_cons_succ, i64_w, i32_w]
     rfl
    refine one_ (i := 2) (N := some 17) #[true, true, true, false, true, true, true, false, false, true, true, true, false, false, true, true, true, false, false, false, false] rfl rfl (one_of HT_.out (by kernel_rfl)) (by decide) (fun K hK => ?_)
    refine goes_ Tryd.func27 (by kernel_rfl) rfl #[.int .i64 n0] (by rfl) rfl rfl (by (try simp only [List.map_toArray, List.map_cons, List.map_nil]); rfl) ?_
    refine (impl_ChainText.itoa n0 hn0.1 hn0.2 _).mono ?_
    rintro e _ ⟨rfl, rfl⟩
    refine ⟨_, rfl, ?_⟩
    refine hK.out _ _ hHeld (fun hHeld => ?_)
    refine pure_ (i := 3) (N := some 18) (v := ?_) (a' := ?_) #[true, true, true, true, true, true, true, false, false, true, true, true, false, false, true, true, true, false, false, false, false] rfl rfl (any_of HT_.out (by kernel_rfl)) (fun _ _ _ h => h) (Or.inl ⟨by rfl, ?_⟩) ?_ ?_
    rotate_left
    ·intro w'
     go_simp
     with_reducible rfl
    rotate_left
    ·simp only [Act.put, List.setIfInBounds_toArray, List.set_cons_zero, List.set_cons_succ, i64_w, i32_w]
     rfl
    refine one_ (i := 7) (N := some 22) #[true, true, true, true, true, true, true, true, false, true, true, true, false, false, true, true, true, false, false, false, false] rfl rfl (one_of HT_.out (by kernel_rfl)) (by decide) (fun K hK => ?_)
    refine goes_ Tryd.func27 (by kernel_rfl) rfl #[.int .i64 n1] (by rfl) rfl rfl (by (try simp only [List.map_toArray, List.map_cons, List.map_nil]); rfl) ?_
    refine (impl_ChainText.itoa n1 hn1.1 hn1.2 _).mono ?_
    rintro e _ ⟨rfl, rfl⟩
    refine ⟨_, rfl, ?_⟩
    refine hK.out _ _ hHeld (fun hHeld => ?_)
    refine pure_ (i := 8) (N := some 23) (v := ?_) (a' := ?_) #[true, true, true, true, true, true, true, true, true, true, true, true, false, false, true, true, true, false, false, false, false] rfl rfl (any_of HT_.out (by kernel_rfl)) (fun _ _ _ h => h) (Or.inl ⟨by rfl, ?_⟩) ?_ ?_
    rotate_left
    ·intro w'
     go_simp
     with_reducible rfl
    rotate_left
    ·simp only [Act.put, List.setIfInBounds_toArray, List.set_cons_zero, List.set_cons_succ, i64_w, i32_w]
     rfl
    refine one_ (i := 12) (N := some 27) #[true, true, true, true, true, true, true, true, true, true, true, true, true, false, true, true, true, false, false, false, false] rfl rfl (one_of HT_.out (by kernel_rfl)) (by decide) (fun K hK => ?_)
    refine goes_ Tryd.func27 (by kernel_rfl) rfl #[.int .i64 n2] (by rfl) rfl rfl (by (try simp only [List.map_toArray, List.map_cons, List.map_nil]); rfl) ?_
    refine (impl_ChainText.itoa n2 hn2.1 hn2.2 _).mono ?_
    rintro e _ ⟨rfl, rfl⟩
    refine ⟨_, rfl, ?_⟩
    refine hK.out _ _ hHeld (fun hHeld => ?_)
    refine pure_ (i := 13) (N := some 28) (v := ?_) (a' := ?_) #[true, true, true, true, true, true, true, true, true, true, true, true, true, true, true, true, true, false, false, false, false] rfl rfl (any_of HT_.out (by kernel_rfl)) (fun _ _ _ h => h) (Or.inl ⟨by rfl, ?_⟩) ?_ ?_
    rotate_left
    ·intro w'
     go_simp
     with_reducible rfl
    rotate_left
    ·simp only [Act.put, List.setIfInBounds_toArray, List.set_cons_zero, List.set_cons_succ, i64_w, i32_w]
     rfl
    refine one_ (i := 17) (N := some 32) #[true, true, true, true, true, true, true, true, true, true, true, true, true, true, true, true, true, true, false, false, false] rfl rfl (one_of HT_.out (by kernel_rfl)) (by decide) (fun K hK => ?_)
    refine goes_ Tryd.func27 (by kernel_rfl) rfl #[.int .i64 n3] (by rfl) rfl rfl (by (try simp only [List.map_toArray, List.map_cons, List.map_nil]); rfl) ?_
    refine (impl_ChainText.itoa n3 hn3.1 hn3.2 _).mono ?_
    rintro e _ ⟨rfl, rfl⟩
    refine ⟨_, rfl, ?_⟩
    refine hK.out _ _ hHeld (fun hHeld => ?_)
    refine pure_ (i := 18) (N := some 33) (v := ?_) (a' := ?_) #[true, true, true, true, true, true, true, true, true, true, true, true, true, true, true, true, true, true, true, false, false] rfl rfl (any_of HT_.out (by kernel_rfl)) (fun _ _ _ h => h) (Or.inl ⟨by rfl, ?_⟩) ?_ ?_
    rotate_left
    ·intro w'
     go_simp
     with_reducible rfl
    rotate_left
    ·simp only [Act.put, List.setIfInBounds_toArray, List.set_cons_zero, List.set_cons_succ, i64_w, i32_w]
     rfl
    refine pure_ (i := 19) (N := some 34) (v := ?_) (a' := ?_) #[true, true, true, true, true, true, true, true, true, true, true, true, true, true, true, true, true, true, true, true, false] rfl rfl (any_of HT_.out (by kernel_rfl)) (fun _ _ _ h => h) (Or.inl ⟨by rfl, ?_⟩) ?_ ?_
    rotate_left
    ·intro w'
     go_simp
     with_reducible rfl
    rotate_left
    ·simp only [Act.put, List.setIfInBounds_toArray, List.set_cons_zero, List.set_cons_succ, i64_w, i32_w]
     rfl
    refine last_ (i := 20) (N := some 35) #[true, true, true, true, true, true, true, true, true, true, true, true, true, true, true, true, true, true, true, true, true] rfl rfl (one_of HT_.out (by kernel_rfl)) (by decide) (fun K hK => ?_)
    refine goes_ Tryd.func26 (by kernel_rfl) rfl #[.pointer (some ⟨w4.heap.size, 0, none⟩), .string (impl_ChainText.item ⟨n0, ⟨n1, n2, n3⟩⟩)] (by rfl) rfl rfl (by (try simp only [List.map_toArray, List.map_cons, List.map_nil]); rfl) ?_
    refine (Sh.WriteString _ _ _ _ _ HI7.out ?hlen HZ7.out).mono ?_
    case hlen =>
     rw [Lib.byteCells_length]
     have e1 := impl_ChainText.txt_len (l0.take x.toNat) (fun y hy => HS.out.2 y (List.mem_of_mem_take hy))
     have e2 := impl_ChainText.item_size (x := ⟨n0, ⟨n1, n2, n3⟩⟩) ⟨⟨hn0, hz0⟩, ⟨hn1, hz1⟩, ⟨hn2, hz2⟩, ⟨hn3, hz3⟩⟩
     have e3 : (l0.take x.toNat).length ≤ 1000 := Nat.le_trans (by rw [List.length_take]; omega) HS.out.1
     omega
    rintro e w8 ⟨he, hbt, hbb⟩
    subst he
    refine ⟨_, rfl, ?_⟩
    refine hK.out _ _ ?_
    refine done_ (done_of HT_.out (by kernel_rfl)) ?_
    have HI8 : Aside0 (Lib.IsBuilder 44 5 w4.heap.size w4.heap.size (Lib.byteCells (impl_ChainText.txt (l0.take (x.toNat + 1)))) w8) := ⟨.inr (by rw [HSN.out, Lib.byteCells_append]; exact hbt)⟩
    have HW8 : Aside0 (Below w4.heap.size w4 w8) := ⟨HW7.out.trans hbb⟩
    have HZ8 : Aside0 (w4.heap.size ≤ w8.heap.size) := ⟨Nat.le_trans HZ7.out hbb.size⟩
    clear HI7 HW7 HZ7 hbt hbb hHeld
    go_wp2
    go_roundg k1
    case measure => omega
    case rel =>
     have hx : (x + 1).toNat = x.toNat + 1 := by omega
     have hw : wrap64 (x + 1) = x + 1 := impl_ChainText.wrap_low (by have := HS.out.1; omega) (by have := HS.out.1; omega)
     exact ⟨x + 1, by rw [hw], ⟨by omega⟩, ⟨by have := HM.out; omega⟩, ⟨by rw [hx]; exact HI8.out⟩, HW8, HZ8⟩
   ·have c4b0 : decide (x < (l0.length : Int)) = false := decide_eq_false c4
    go_wp2_with (go_at_call 28; refine (Sh.Builder_String_any _ _ _ _ HI.out HZ.out).mono ?_)
    first | (rintro e w9 ⟨rfl, hb⟩; have HB9 := Aside0.mk hb; clear hb) | (rintro e w9 rfl hb; have HB9 := Aside0.mk hb; clear hb)
    have ht : l0.take x.toNat = l0 := List.take_of_length_le (by omega)
    go_wp2
    go_ret
    exact ⟨by first | rfl | rw [ht], below_step HB.out (HW.out.trans HB9.out)⟩

/-! ### spec_l6In: function 42 -/
def spec_l6In.f (a0 : Int) (a1 : Int) (a2 : Int) : Option (Bool) := if a0 ≥ a1 then (some (decide (a0 ≤ a2))) else (some false)
set_option maxHeartbeats 8000000 in
set_option maxRecDepth 100000 in
theorem spec_l6In.calls (a0 : Int) (a1 : Int) (a2 : Int) (r : Bool) (w : World) (h : spec_l6In.f a0 a1 a2 = some r) :
  Calls Tryd.prog 42 #[.int .i64 a0, .int .i64 a1, .int .i64 a2] w fun e w' => e = .returned (.bool r) ∧ Drawn0 w w' := by
 have H : (if a0 ≥ a1 then (some (decide (a0 ≤ a2))) else (some false)) = some r := h
 clear h
 by_cases c4 : a0 ≥ a1
 ·rw [if_pos c4] at H
  have c4b0 : decide (a1 ≤ a0) = true := decide_eq_true c4
  clear c4
  obtain rfl := Option.some.inj H
  go_enter Tryd.func42, Tryd.ntmps42
  go_wp2
  go_ret
  exact ⟨by first | rfl | (simp; done) | (simp [*]; done), by repeat (first | exact Drawn0.refl _ | apply Drawn0.step)⟩
 ·rw [if_neg c4] at H
  have c4b0 : decide (a1 ≤ a0) = false := decide_eq_false c4
  clear c4
  obtain rfl := Option.some.inj H
  go_enter Tryd.func42, Tryd.ntmps42
  go_wp2
  go_ret
  exact ⟨by first | rfl | (simp; done) | (simp [*]; done), by repeat (first | exact Drawn0.refl _ | apply Drawn0.step)⟩

/-! ### spec_PayOk: function 43 -/
def spec_PayOk.f (a0_0 : Int) (a0_1 : Int) (a0_2 : Int) : Option (Bool) := (spec_l6In.f a0_0 1 3).bind fun t199 => (if t199 = true then ((spec_l6In.f a0_1 1 3).bind fun t200 => (if t200 = true then (if a0_0 = a0_1 then (some false) else ((spec_l6In.f a0_2 1 9).bind fun t201 => (some t201))) else (some false))) else (some false))
set_option maxHeartbeats 8000000 in
set_option maxRecDepth 100000 in
theorem spec_PayOk.calls (a0_0 : Int) (a0_1 : Int) (a0_2 : Int) (r : Bool) (w : World) (h : spec_PayOk.f a0_0 a0_1 a0_2 = some r) :
  Calls Tryd.prog 43 #[.agg #[.int .i64 a0_0, .int .i64 a0_1, .int .i64 a0_2]] w fun e w' => e = .returned (.bool r) ∧ Below w.heap.size w w' := by
 have hu46 := Tryd.underlying46
 have HB := Aside0.mk (Below.refl w.heap.size w)
 have H : ((spec_l6In.f a0_0 1 3).bind fun t199 => (if t199 = true then ((spec_l6In.f a0_1 1 3).bind fun t200 => (if t200 = true then (if a0_0 = a0_1 then (some false) else ((spec_l6In.f a0_2 1 9).bind fun t201 => (some t201))) else (some false))) else (some false))) = some r := h
 clear h
 replace H := Option.bind_eq_some_iff.mp H
 obtain ⟨t199, A20, H⟩ := H
 replace H : (if t199 = true then ((spec_l6In.f a0_1 1 3).bind fun t200 => (if t200 = true then (if a0_0 = a0_1 then (some false) else ((spec_l6In.f a0_2 1 9).bind fun t201 => (some t201))) else (some false))) else (some false)) = some r := H
 have A2 := Aside0.mk A20
 clear A20
 by_cases c3 : t199 = true
 ·subst c3
  have H1 : ((spec_l6In.f a0_1 1 3).bind fun t200 => (if t200 = true then (if a0_0 = a0_1 then (some false) else ((spec_l6In.f a0_2 1 9).bind fun t201 => (some t201))) else (some false))) = some r := by rw [if_pos rfl] at H; exact H
  clear H
  have H := H1
  clear H1
  replace H := Option.bind_eq_some_iff.mp H
  obtain ⟨t200, A40, H⟩ := H
  replace H : (if t200 = true then (if a0_0 = a0_1 then (some false) else ((spec_l6In.f a0_2 1 9).bind fun t201 => (some t201))) else (some false)) = some r := H
  have A4 := Aside0.mk A40
  clear A40
  by_cases c5 : t200 = true
  ·subst c5
   have H1 : (if a0_0 = a0_1 then (some false) else ((spec_l6In.f a0_2 1 9).bind fun t201 => (some t201))) = some r := by rw [if_pos rfl] at H; exact H
   clear H
   have H := H1
   clear H1
   by_cases c6 : a0_0 = a0_1
   ·rw [if_pos c6] at H
    have c6b0 : (a0_0 == a0_1) = true := beq_iff_eq.mpr c6
    have c6b1 : (a0_0 != a0_1) = false := bne_eq_false_iff_eq.mpr c6
    clear c6
    obtain rfl := Option.some.inj H
    go_enter Tryd.func43, Tryd.ntmps43
    go_wp2_with (first | ((with_reducible refine gate_dst (N := 1) rfl ?_); refine box_event ?hg (N := 1) ?hd (cs := #[.int .i64 a0_0, .int .i64 a0_1, .int .i64 a0_2]) (t := 46) ?hr ?_; (case hd => rfl); (case hg => rfl); (case hr => first | (go_simp; done) | (go_simp; rfl)); intro gb198 hg w7 hbox hb; have n0_ := Aside0.mk (below_step (by repeat (first | (with_reducible first | exact HB.out | apply below_alloc | apply pw_below_drewN | apply below_drew1) | exact HB.out)) hb); have n1_ := Aside0.mk (hbox); have n2_ := Aside0.mk ((by rw [hg]; exact (below_size (by repeat (first | (with_reducible first | exact HB.out | apply below_alloc | apply pw_below_drewN | apply below_drew1) | exact HB.out))) : w.heap.size ≤ gb198)); have n3_ := Aside0.mk ((by rw [hg]; exact (below_size (by repeat (first | (with_reducible first | exact HB.out | apply below_alloc | apply pw_below_drewN | apply below_drew1) | exact HB.out))) : w.heap.size ≤ gb198)); clear HB; have HB := n0_; have BK198 := n1_; have GW198 := n2_; have GE198 := n3_; clear n0_ n1_ n2_ n3_; clear hb hbox hg; have hcz8_0 : w7.cell? ⟨gb198, 0, none⟩ = some (.int .i64 a0_0) := (blk_cell BK198.out 0).trans rfl; have hcz8_1 : w7.cell? ⟨gb198, 1, none⟩ = some (.int .i64 a0_1) := (blk_cell BK198.out 1).trans rfl; have hcz8_2 : w7.cell? ⟨gb198, 2, none⟩ = some (.int .i64 a0_2) := (blk_cell BK198.out 2).trans rfl; have hfz8_0 := blk_frozen BK198.out 0; have hfz8_1 := blk_frozen BK198.out 1; have hfz8_2 := blk_frozen BK198.out 2) | ((with_reducible refine gate_callee (f := 42) rfl ?_); refine goesL_ (some 5) rfl rfl Tryd.func42 (by kernel_rfl) rfl #[.int .i64 a0_0, .int .i64 1, .int .i64 3] rfl (by (try simp only [List.map_toArray, List.map_cons, List.map_nil]); first | done | rfl | (simp only [List.length_drop, List.length_take]; rfl)) ?_; (with_reducible refine (spec_l6In.calls a0_0 1 3 true _ A2.out).mono ?_); rintro e w' ⟨rfl, ⟨nd, rfl⟩⟩; refine ⟨_, rfl, ?_⟩) | (go_at_call 42; (with_reducible refine (spec_l6In.calls a0_1 1 3 true _ A4.out).mono ?_); rintro e w' ⟨rfl, ⟨nd, rfl⟩⟩))
    go_ret
    exact ⟨by first | rfl | (simp only [i64_w, i32_w]; done) | (simp only [i64_w, i32_w]; rfl) | (simp [errW_none, errW_some] <;> rfl) | (simp [*, errW_none, errW_some] <;> rfl), by repeat (first | (with_reducible first | exact HB.out | apply below_alloc | apply pw_below_drewN | apply below_drew1 | refine below_set ?_ GE198.out) | exact HB.out)⟩
   ·rw [if_neg c6] at H
    have c6b0 : (a0_0 == a0_1) = false := beq_eq_false_iff_ne.mpr c6
    have c6b1 : (a0_0 != a0_1) = true := bne_iff_ne.mpr c6
    replace H := Option.bind_eq_some_iff.mp H
    obtain ⟨t201, A90, H⟩ := H
    replace H : (some t201) = some r := H
    have A9 := Aside0.mk A90
    clear A90
    obtain rfl := Option.some.inj H
    go_enter Tryd.func43, Tryd.ntmps43
    go_wp2_with (first | ((with_reducible refine gate_dst (N := 1) rfl ?_); refine box_event ?hg (N := 1) ?hd (cs := #[.int .i64 a0_0, .int .i64 a0_1, .int .i64 a0_2]) (t := 46) ?hr ?_; (case hd => rfl); (case hg => rfl); (case hr => first | (go_simp; done) | (go_simp; rfl)); intro gb198 hg w10 hbox hb; have n0_ := Aside0.mk (below_step (by repeat (first | (with_reducible first | exact HB.out | apply below_alloc | apply pw_below_drewN | apply below_drew1) | exact HB.out)) hb); have n1_ := Aside0.mk (hbox); have n2_ := Aside0.mk ((by rw [hg]; exact (below_size (by repeat (first | (with_reducible first | exact HB.out | apply below_alloc | apply pw_below_drewN | apply below_drew1) | exact HB.out))) : w.heap.size ≤ gb198)); have n3_ := Aside0.mk ((by rw [hg]; exact (below_size (by repeat (first | (with_reducible first | exact HB.out | apply below_alloc | apply pw_below_drewN | apply below_drew1) | exact HB.out))) : w.heap.size ≤ gb198)); clear HB; have HB := n0_; have BK198 := n1_; have GW198 := n2_; have GE198 := n3_; clear n0_ n1_ n2_ n3_; clear hb hbox hg; have hcz11_0 : w10.cell? ⟨gb198, 0, none⟩ = some (.int .i64 a0_0) := (blk_cell BK198.out 0).trans rfl; have hcz11_1 : w10.cell? ⟨gb198, 1, none⟩ = some (.int .i64 a0_1) := (blk_cell BK198.out 1).trans rfl; have hcz11_2 : w10.cell? ⟨gb198, 2, none⟩ = some (.int .i64 a0_2) := (blk_cell BK198.out 2).trans rfl; have hfz11_0 := blk_frozen BK198.out 0; have hfz11_1 := blk_frozen BK198.out 1; have hfz11_2 := blk_frozen BK198.out 2) | ((with_reducible refine gate_callee (f := 42) rfl ?_); refine goesL_ (some 5) rfl rfl Tryd.func42 (by kernel_rfl) rfl #[.int .i64 a0_0, .int .i64 1, .int .i64 3] rfl (by (try simp only [List.map_toArray, List.map_cons, List.map_nil]); first | done | rfl | (simp only [List.length_drop, List.length_take]; rfl)) ?_; (with_reducible refine (spec_l6In.calls a0_0 1 3 true _ A2.out).mono ?_); rintro e w' ⟨rfl, ⟨nd, rfl⟩⟩; refine ⟨_, rfl, ?_⟩) | (go_at_call 42; (with_reducible refine (spec_l6In.calls a0_1 1 3 true _ A4.out).mono ?_); rintro e w' ⟨rfl, ⟨nd, rfl⟩⟩) | (go_at_call 42; (with_reducible refine (spec_l6In.calls a0_2 1 9 t201 _ A9.out).mono ?_); rintro e w' ⟨rfl, ⟨nd, rfl⟩⟩))
    go_ret
    exact ⟨by first | rfl | (simp only [i64_w, i32_w]; done) | (simp only [i64_w, i32_w]; rfl) | (simp [errW_none, errW_some] <;> rfl) | (simp [*, errW_none, errW_some] <;> rfl), by repeat (first | (with_reducible first | exact HB.out | apply below_alloc | apply pw_below_drewN | apply below_drew1 | refine below_set ?_ GE198.out) | exact HB.out)⟩
  ·replace c5 := Bool.eq_false_iff.mpr c5
   subst c5
   have H1 : (some false) = some r := by rw [if_neg (show ¬ (false = true) by decide)] at H; exact H
   clear H
   have H := H1
   clear H1
   obtain rfl := Option.some.inj H
   go_enter Tryd.func43, Tryd.ntmps43
   go_wp2_with (first | ((with_reducible refine gate_dst (N := 1) rfl ?_); refine box_event ?hg (N := 1) ?hd (cs := #[.int .i64 a0_0, .int .i64 a0_1, .int .i64 a0_2]) (t := 46) ?hr ?_; (case hd => rfl); (case hg => rfl); (case hr => first | (go_simp; done) | (go_simp; rfl)); intro gb198 hg w12 hbox hb; have n0_ := Aside0.mk (below_step (by repeat (first | (with_reducible first | exact HB.out | apply below_alloc | apply pw_below_drewN | apply below_drew1) | exact HB.out)) hb); have n1_ := Aside0.mk (hbox); have n2_ := Aside0.mk ((by rw [hg]; exact (below_size (by repeat (first | (with_reducible first | exact HB.out | apply below_alloc | apply pw_below_drewN | apply below_drew1) | exact HB.out))) : w.heap.size ≤ gb198)); have n3_ := Aside0.mk ((by rw [hg]; exact (below_size (by repeat (first | (with_reducible first | exact HB.out | apply below_alloc | apply pw_below_drewN | apply below_drew1) | exact HB.out))) : w.heap.size ≤ gb198)); clear HB; have HB := n0_; have BK198 := n1_; have GW198 := n2_; have GE198 := n3_; clear n0_ n1_ n2_ n3_; clear hb hbox hg; have hcz13_0 : w12.cell? ⟨gb198, 0, none⟩ = some (.int .i64 a0_0) := (blk_cell BK198.out 0).trans rfl; have hcz13_1 : w12.cell? ⟨gb198, 1, none⟩ = some (.int .i64 a0_1) := (blk_cell BK198.out 1).trans rfl; have hcz13_2 : w12.cell? ⟨gb198, 2, none⟩ = some (.int .i64 a0_2) := (blk_cell BK198.out 2).trans rfl; have hfz13_0 := blk_frozen BK198.out 0; have hfz13_1 := blk_frozen BK198.out 1; have hfz13_2 := blk_frozen BK198.out 2) | ((with_reducible refine gate_callee (f := 42) rfl ?_); refine goesL_ (some 5) rfl rfl Tryd.func42 (by kernel_rfl) rfl #[.int .i64 a0_0, .int .i64 1, .int .i64 3] rfl (by (try simp only [List.map_toArray, List.map_cons, List.map_nil]); first | done | rfl | (simp only [List.length_drop, List.length_take]; rfl)) ?_; (with_reducible refine (spec_l6In.calls a0_0 1 3 true _ A2.out).mono ?_); rintro e w' ⟨rfl, ⟨nd, rfl⟩⟩; refine ⟨_, rfl, ?_⟩) | (go_at_call 42; (with_reducible refine (spec_l6In.calls a0_1 1 3 false _ A4.out).mono ?_); rintro e w' ⟨rfl, ⟨nd, rfl⟩⟩))
   go_ret
   exact ⟨by first | rfl | (simp only [i64_w, i32_w]; done) | (simp only [i64_w, i32_w]; rfl) | (simp [errW_none, errW_some] <;> rfl) | (simp [*, errW_none, errW_some] <;> rfl), by repeat (first | (with_reducible first | exact HB.out | apply below_alloc | apply pw_below_drewN | apply below_drew1 | refine below_set ?_ GE198.out) | exact HB.out)⟩
 ·replace c3 := Bool.eq_false_iff.mpr c3
  subst c3
  have H1 : (some false) = some r := by rw [if_neg (show ¬ (false = true) by decide)] at H; exact H
  clear H
  have H := H1
  clear H1
  obtain rfl := Option.some.inj H
  go_enter Tryd.func43, Tryd.ntmps43
  go_wp2_with (first | ((with_reducible refine gate_dst (N := 1) rfl ?_); refine box_event ?hg (N := 1) ?hd (cs := #[.int .i64 a0_0, .int .i64 a0_1, .int .i64 a0_2]) (t := 46) ?hr ?_; (case hd => rfl); (case hg => rfl); (case hr => first | (go_simp; done) | (go_simp; rfl)); intro gb198 hg w14 hbox hb; have n0_ := Aside0.mk (below_step (by repeat (first | (with_reducible first | exact HB.out | apply below_alloc | apply pw_below_drewN | apply below_drew1) | exact HB.out)) hb); have n1_ := Aside0.mk (hbox); have n2_ := Aside0.mk ((by rw [hg]; exact (below_size (by repeat (first | (with_reducible first | exact HB.out | apply below_alloc | apply pw_below_drewN | apply below_drew1) | exact HB.out))) : w.heap.size ≤ gb198)); have n3_ := Aside0.mk ((by rw [hg]; exact (below_size (by repeat (first | (with_reducible first | exact HB.out | apply below_alloc | apply pw_below_drewN | apply below_drew1) | exact HB.out))) : w.heap.size ≤ gb198)); clear HB; have HB := n0_; have BK198 := n1_; have GW198 := n2_; have GE198 := n3_; clear n0_ n1_ n2_ n3_; clear hb hbox hg; have hcz15_0 : w14.cell? ⟨gb198, 0, none⟩ = some (.int .i64 a0_0) := (blk_cell BK198.out 0).trans rfl; have hcz15_1 : w14.cell? ⟨gb198, 1, none⟩ = some (.int .i64 a0_1) := (blk_cell BK198.out 1).trans rfl; have hcz15_2 : w14.cell? ⟨gb198, 2, none⟩ = some (.int .i64 a0_2) := (blk_cell BK198.out 2).trans rfl; have hfz15_0 := blk_frozen BK198.out 0; have hfz15_1 := blk_frozen BK198.out 1; have hfz15_2 := blk_frozen BK198.out 2) | ((with_reducible refine gate_callee (f := 42) rfl ?_); refine goesL_ (some 5) rfl rfl Tryd.func42 (by kernel_rfl) rfl #[.int .i64 a0_0, .int .i64 1, .int .i64 3] rfl (by (try simp only [List.map_toArray, List.map_cons, List.map_nil]); first | done | rfl | (simp only [List.length_drop, List.length_take]; rfl)) ?_; (with_reducible refine (spec_l6In.calls a0_0 1 3 false _ A2.out).mono ?_); rintro e w' ⟨rfl, ⟨nd, rfl⟩⟩; refine ⟨_, rfl, ?_⟩))
  go_ret
  exact ⟨by first | rfl | (simp only [i64_w, i32_w]; done) | (simp only [i64_w, i32_w]; rfl) | (simp [errW_none, errW_some] <;> rfl) | (simp [*, errW_none, errW_some] <;> rfl), by repeat (first | (with_reducible first | exact HB.out | apply below_alloc | apply pw_below_drewN | apply below_drew1 | refine below_set ?_ GE198.out) | exact HB.out)⟩

end Go.Proofs.YthjpkfcejdddkaaDoor.P
