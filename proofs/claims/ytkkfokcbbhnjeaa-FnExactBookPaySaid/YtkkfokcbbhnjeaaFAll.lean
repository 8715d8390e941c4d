/- Plain facts on what the printed functions compute (within bookok payok paystep bookpay eqints ints marks). Conditions: each theorem's own. -/
import Derived.Test.YtkkfokcbbhnjeaaPx2
import Derived.Test.YtkkfokcbbhnjeaaPx3
import Derived.Test.YtkkfokcbbhnjeaaPx4
import Derived.Test.YtkkfokcbbhnjeaaPx5
import Derived.Test.YtkkfokcbbhnjeaaXBook
import Derived.Test.YtkkfokcbbhnjeaaPlain
namespace Go.Proofs.Ytkkfokcbbhnjeaa.Pure
open Go.RowKit Go.Proofs.Ytkkfokcbbhnjeaa.P Go.Proofs.YtkkfokcbbhnjeaaW.PrintWords Go.Proofs.YtkkfokcbbhnjeaaW.PrintLast Go.Proofs.YtkkfokcbbhnjeaaW.PrintMore Go.Proofs.YtkkfokcbbhnjeaaE
set_option linter.unusedVariables false
set_option linter.unusedSimpArgs false

theorem within_eq (n lo hi : Int) : impl_within.f n lo hi = some (decide (lo ≤ n ∧ n ≤ hi)):=by
  unfold impl_within.f
  by_cases h : n ≥ lo
  · rw [if_pos h]
    by_cases h2 : n ≤ hi
    · simp [h2,show lo ≤ n from h]
    · simp [h2]
  · rw [if_neg h]
    simp [show ¬ lo ≤ n from h]
theorem l6In_eq (n lo hi : Int) : spec_l6In.f n lo hi = some (decide (lo ≤ n ∧ n ≤ hi)):=by
  unfold spec_l6In.f
  by_cases h : n ≥ lo
  · rw [if_pos h]
    by_cases h2 : n ≤ hi
    · simp [h2,show lo ≤ n from h]
    · simp [h2]
  · rw [if_neg h]
    simp [show ¬ lo ≤ n from h]
/-- A book, from a sum on. -/
def bk (n : Nat) : List Int → Int → Bool
  | [],s => decide (n = 3) && (s == 27)
  | x :: xs,s => decide (0 ≤ x ∧ x ≤ 27) && bk n xs (wrap64 (s + x))
def bookOk (l : List Int) : Bool:=bk l.length l 0
theorem bookOk_impl (l : List Int) (hl : l.length ≤ 4611686018427387900) : Evt (fun k => impl_BookOk.f k l) (fun r => r = bookOk l):=by
  have key : ∀ (d i : Nat) (s : Int),i + d = l.length → Evt (fun k => impl_BookOk.l0 k l s l (l.length : Int) (i : Int)) (fun r => r = bk l.length (l.drop i) s):=by
    intro d
    induction d with
    | zero =>
      intro i s hd
      rw [List.drop_eq_nil_of_le (by omega)]
      by_cases h3 : (l.length : Int) = 3
      · refine Evt.step (f:=fun _ => some (s == 27)) (fun k => by simp only [impl_BookOk.l0];rw [if_neg (by omega),if_pos h3]) (Evt.now _ ?_)
        simp [bk,show l.length = 3 by omega]
      · refine Evt.step (f:=fun _ => some false) (fun k => by simp only [impl_BookOk.l0];rw [if_neg (by omega),if_neg h3]) (Evt.now _ ?_)
        simp [bk,show ¬ l.length = 3 by omega]
    | succ d ih =>
      intro i s hd
      rw [drop_rd (l:=l) (i:=i) (by omega)]
      by_cases hx : 0 ≤ rd l (i : Int) ∧ rd l (i : Int) ≤ 27
      · refine Evt.step (f:=fun k => impl_BookOk.l0 k l (wrap64 (s + rd l (i : Int))) l (l.length : Int) ((i + 1 : Nat) : Int)) (fun k => by
          simp only [impl_BookOk.l0,within_eq,Option.bind_some]
          rw [if_pos (by omega),if_pos (by omega),if_pos (by omega),if_pos (by simp [hx]),wrap_succ (by omega)]) ?_
        refine (ih (i + 1) _ (by omega)).mono (fun r hr => ?_)
        rw [hr]
        simp [bk,hx]
      · refine Evt.step (f:=fun _ => some false) (fun k => by
          simp only [impl_BookOk.l0,within_eq,Option.bind_some]
          rw [if_pos (by omega),if_pos (by omega),if_pos (by omega),if_neg (by simpa using hx)]) (Evt.now _ ?_)
        simp [bk,hx]
  refine (Evt.congr (fun k => by unfold impl_BookOk.f;rfl) (key l.length 0 0 (by omega))).mono (fun r hr => ?_)
  simpa [bookOk] using hr
theorem bookOk_spec (l : List Int) (hl : l.length ≤ 4611686018427387900) : Evt (fun k => spec_BookOk.f k l) (fun r => r = bookOk l):=by
  have key : ∀ (d i : Nat) (s : Int),i + d = l.length → Evt (fun k => spec_BookOk.l0 k l s (i : Int)) (fun r => r = bk l.length (l.drop i) s):=by
    intro d
    induction d with
    | zero =>
      intro i s hd
      rw [List.drop_eq_nil_of_le (by omega)]
      by_cases h3 : (l.length : Int) = 3
      · refine Evt.step (f:=fun _ => some (s == 27)) (fun k => by simp only [spec_BookOk.l0];rw [if_neg (by omega),if_pos h3]) (Evt.now _ ?_)
        simp [bk,show l.length = 3 by omega]
      · refine Evt.step (f:=fun _ => some false) (fun k => by simp only [spec_BookOk.l0];rw [if_neg (by omega),if_neg h3]) (Evt.now _ ?_)
        simp [bk,show ¬ l.length = 3 by omega]
    | succ d ih =>
      intro i s hd
      rw [drop_rd (l:=l) (i:=i) (by omega)]
      by_cases hx : 0 ≤ rd l (i : Int) ∧ rd l (i : Int) ≤ 27
      · refine Evt.step (f:=fun k => spec_BookOk.l0 k l (wrap64 (s + rd l (i : Int))) ((i + 1 : Nat) : Int)) (fun k => by
          simp only [spec_BookOk.l0,l6In_eq,Option.bind_some]
          rw [if_pos (by omega),if_pos (by omega),if_pos (by simp [hx]),wrap_succ (by omega)]) ?_
        refine (ih (i + 1) _ (by omega)).mono (fun r hr => ?_)
        rw [hr]
        simp [bk,hx]
      · refine Evt.step (f:=fun _ => some false) (fun k => by
          simp only [spec_BookOk.l0,l6In_eq,Option.bind_some]
          rw [if_pos (by omega),if_pos (by omega),if_neg (by simpa using hx)]) (Evt.now _ ?_)
        simp [bk,hx]
  refine (Evt.congr (fun k => by unfold spec_BookOk.f;rfl) (key l.length 0 0 (by omega))).mono (fun r hr => ?_)
  simpa [bookOk] using hr
def payOk (a b c : Int) : Bool:=decide ((1 ≤ a ∧ a ≤ 3) ∧ (1 ≤ b ∧ b ≤ 3) ∧ a ≠ b ∧ (1 ≤ c ∧ c ≤ 9))
theorem payOk_impl (a b c : Int) : impl_PayOk.f a b c = some (payOk a b c):=by
  unfold impl_PayOk.f payOk
  simp only [within_eq,Option.bind_some]
  by_cases h1 : 1 ≤ a ∧ a ≤ 3
  · by_cases h2 : 1 ≤ b ∧ b ≤ 3
    · by_cases h3 : a = b
      · simp [h1,h2,h3]
      · simp [h1,h2,h3]
    · simp [h1,h2]
  · simp [h1]
theorem payOk_spec (a b c : Int) : spec_PayOk.f a b c = some (payOk a b c):=by
  unfold spec_PayOk.f payOk
  simp only [l6In_eq,Option.bind_some]
  by_cases h1 : 1 ≤ a ∧ a ≤ 3
  · by_cases h2 : 1 ≤ b ∧ b ≤ 3
    · by_cases h3 : a = b
      · simp [h1,h2,h3]
      · simp [h1,h2,h3]
    · simp [h1,h2]
  · simp [h1]
/-- A payment, made. -/
def payL (l : List Int) (a b c : Int) : List Int :=
  if rd l (a - 1) ≥ c then (l.set (a - 1).toNat (wrap64 (rd l (a - 1) - c))).set (b - 1).toNat (wrap64 (rd (l.set (a - 1).toNat (wrap64 (rd l (a - 1) - c))) (b - 1) + c)) else l
theorem payL_length (l : List Int) (a b c : Int) : (payL l a b c).length = l.length:=by
  unfold payL
  split <;> simp
theorem pay_impl {l : List Int} {a b : Int} (c : Int) (hl : l.length = 3) (ha : 1 ≤ a ∧ a ≤ 3) (hb : 1 ≤ b ∧ b ≤ 3) : impl_pay.f l a b c = some (payL l a b c):=by
  have e1 : wrap64 (a - 1) = a - 1:=wrap64_small (by omega) (by omega)
  have e2 : wrap64 (b - 1) = b - 1:=wrap64_small (by omega) (by omega)
  unfold impl_pay.f payL
  rw [e1,e2,if_pos (by omega),if_pos (by omega)]
  by_cases h : rd l (a - 1) ≥ c
  · rw [if_pos h,if_pos h,Option.bind_some,if_pos (by omega),if_pos (by omega)]
  · rw [if_neg h,if_neg h]
theorem pay_spec {l : List Int} {a b : Int} (c : Int) (hl : l.length = 3) (ha : 1 ≤ a ∧ a ≤ 3) (hb : 1 ≤ b ∧ b ≤ 3) : spec_l2Pay.f l a b c = some (payL l a b c):=by
  have e1 : wrap64 (a - 1) = a - 1:=wrap64_small (by omega) (by omega)
  have e2 : wrap64 (b - 1) = b - 1:=wrap64_small (by omega) (by omega)
  unfold spec_l2Pay.f payL
  simp only [Option.bind_some,List.nil_append,List.length_nil,Nat.zero_add]
  rw [e1,e2,if_pos (by omega),if_pos (by omega),if_pos (by omega)]
  by_cases h : rd l (a - 1) ≥ c
  · rw [if_pos h,if_pos h,if_pos (by omega),if_pos (by omega)]
  · rw [if_neg h,if_neg h]
theorem payOk_iff {a b c : Int} : payOk a b c = true ↔ (1 ≤ a ∧ a ≤ 3) ∧ (1 ≤ b ∧ b ≤ 3) ∧ a ≠ b ∧ (1 ≤ c ∧ c ≤ 9):=by
  unfold payOk
  exact decide_eq_true_iff
theorem bookOk_three {l : List Int} (h : bookOk l = true) : ∃ x y z,l = [x,y,z] ∧ (0 ≤ x ∧ x ≤ 27) ∧ (0 ≤ y ∧ y ≤ 27) ∧ (0 ≤ z ∧ z ≤ 27) ∧ x + y + z = 27:=by
  have hlen : ∀ (n : Nat) (l : List Int) (s : Int),bk n l s = true → n = 3:=by
    intro n l
    induction l with
    | nil => intro s h;simp [bk] at h;exact h.1
    | cons x xs ih => intro s h;simp [bk] at h;exact ih _ h.2
  have h3:=hlen _ _ _ h
  match l,h3,h with
  | [x,y,z],_,h =>
    simp only [bookOk,bk,Bool.and_eq_true,decide_eq_true_iff,beq_iff_eq] at h
    obtain ⟨hx,hy,hz,_,hs⟩:=h
    refine ⟨x,y,z,rfl,hx,hy,hz,?_⟩
    rw [wrap64_small (n:=0 + x) (by omega) (by omega),wrap64_small (n:=0 + x + y) (by omega) (by omega),wrap64_small (n:=0 + x + y + z) (by omega) (by omega)] at hs
    omega
theorem bookOk_of {x y z : Int} (hx : 0 ≤ x) (hy : 0 ≤ y) (hz : 0 ≤ z) (hs : x + y + z = 27) : bookOk [x,y,z] = true:=by
  simp only [bookOk,bk,Bool.and_eq_true,decide_eq_true_iff,beq_iff_eq]
  rw [wrap64_small (n:=0 + x) (by omega) (by omega),wrap64_small (n:=0 + x + y) (by omega) (by omega),wrap64_small (n:=0 + x + y + z) (by omega) (by omega)]
  exact ⟨by omega,by omega,by omega,rfl,by omega⟩
/-- BookPay, as both have it. -/
def bookPay (l : List Int) (a b c : Int) : List Int:=if bookOk l = true then (if payOk a b c = true then payL l a b c else []) else []
theorem bookPay_impl (l : List Int) (a b c : Int) (hl : l.length ≤ 1048576) : Evt (fun k => impl_BookPay.f k l a b c) (fun r => r = bookPay l a b c):=by
  simp only [impl_BookPay.f]
  refine Evt.bind (bookOk_impl l (by omega)) fun t ht => ?_
  rw [ht]
  cases hb : bookOk l with
  | false =>
    refine Evt.neg (by decide) (Evt.step (f:=fun _ => some []) (fun k => by simp only [impl_BookPay.j0];rw [if_pos trivial]) (Evt.now _ ?_))
    simp [bookPay,hb]
  | true =>
    refine Evt.pos rfl ?_
    simp only [payOk_impl,Option.bind_some]
    obtain ⟨x,y,z,rfl,_⟩:=bookOk_three hb
    cases hp : payOk a b c with
    | false =>
      refine Evt.step (f:=fun _ => some []) (fun k => by simp only [impl_BookPay.j0];rw [if_pos (by decide)]) (Evt.now _ ?_)
      simp [bookPay,hp]
    | true =>
      obtain ⟨ha,hb',_⟩:=payOk_iff.1 hp
      refine Evt.step (f:=fun _ => some (payL [x,y,z] a b c)) (fun k => by
        simp only [impl_BookPay.j0,slices_Clone_int_int.f,slices_Clip_int_int.f]
        rw [if_neg (by decide),if_pos (by simp)]
        simp only [Option.bind_some]
        rw [pay_impl c rfl ha hb']
        rfl) (Evt.now _ ?_)
      simp [bookPay,hb,hp]
theorem bookPay_spec (l : List Int) (a b c : Int) (hl : l.length ≤ 1048576) : Evt (fun k => spec_BookPay.f k l a b c) (fun r => r = bookPay l a b c):=by
  simp only [spec_BookPay.f]
  refine Evt.bind (bookOk_spec l (by omega)) fun t ht => ?_
  rw [ht]
  cases hb : bookOk l with
  | false => exact Evt.neg (by decide) (Evt.now _ (by simp [bookPay,hb]))
  | true =>
    refine Evt.pos rfl ?_
    simp only [payOk_spec,Option.bind_some]
    obtain ⟨x,y,z,rfl,_⟩:=bookOk_three hb
    cases hp : payOk a b c with
    | false => exact Evt.neg (by decide) (Evt.now _ (by simp [bookPay,hp]))
    | true =>
      obtain ⟨ha,hb',_⟩:=payOk_iff.1 hp
      refine Evt.pos rfl ?_
      rw [pay_spec c rfl ha hb']
      exact Evt.now _ (by simp [bookPay,hb,hp])
/-- A payment of two of three, place by place. -/
theorem payL_cases {x y z a b c : Int} (hx : 0 ≤ x ∧ x ≤ 27) (hy : 0 ≤ y ∧ y ≤ 27) (hz : 0 ≤ z ∧ z ≤ 27) (hp : payOk a b c = true) :
    (a = 1 ∧ b = 2 ∧ payL [x,y,z] a b c = if x ≥ c then [x - c,y + c,z] else [x,y,z]) ∨ (a = 1 ∧ b = 3 ∧ payL [x,y,z] a b c = if x ≥ c then [x - c,y,z + c] else [x,y,z]) ∨
    (a = 2 ∧ b = 1 ∧ payL [x,y,z] a b c = if y ≥ c then [x + c,y - c,z] else [x,y,z]) ∨ (a = 2 ∧ b = 3 ∧ payL [x,y,z] a b c = if y ≥ c then [x,y - c,z + c] else [x,y,z]) ∨
    (a = 3 ∧ b = 1 ∧ payL [x,y,z] a b c = if z ≥ c then [x + c,y,z - c] else [x,y,z]) ∨ (a = 3 ∧ b = 2 ∧ payL [x,y,z] a b c = if z ≥ c then [x,y + c,z - c] else [x,y,z]):=by
  obtain ⟨ha,hb,hne,hc⟩:=payOk_iff.1 hp
  have w1 : ∀ t : Int,0 ≤ t ∧ t ≤ 27 → wrap64 (t - c) = t - c:=fun t ht => wrap64_small (by omega) (by omega)
  have w2 : ∀ t : Int,0 ≤ t ∧ t ≤ 27 → wrap64 (t + c) = t + c:=fun t ht => wrap64_small (by omega) (by omega)
  have e : (a = 1 ∧ b = 2) ∨ (a = 1 ∧ b = 3) ∨ (a = 2 ∧ b = 1) ∨ (a = 2 ∧ b = 3) ∨ (a = 3 ∧ b = 1) ∨ (a = 3 ∧ b = 2):=by omega
  rcases e with ⟨rfl,rfl⟩|⟨rfl,rfl⟩|⟨rfl,rfl⟩|⟨rfl,rfl⟩|⟨rfl,rfl⟩|⟨rfl,rfl⟩ <;> simp [payL,rd,w1 _ hx,w1 _ hy,w1 _ hz,w2 _ hx,w2 _ hy,w2 _ hz]
theorem eqIntS_ends (a b : List Int) (hl : a.length ≤ 4611686018427387900) : Evt (fun k => laws_eqIntS.f k a b) (fun r => r = decide (a = b)):=by
  by_cases h : (a.length : Int) = (b.length : Int)
  · have hn : a.length = b.length:=by omega
    have key : ∀ (d i : Nat),i + d = a.length → Evt (fun k => laws_eqIntS.l0 k a b (i : Int)) (fun r => r = decide (a.drop i = b.drop i)):=by
      intro d
      induction d with
      | zero =>
        intro i hd
        refine Evt.step (f:=fun _ => some true) (fun k => by simp only [laws_eqIntS.l0];rw [if_neg (by omega)]) (Evt.now _ ?_)
        rw [List.drop_eq_nil_of_le (by omega),List.drop_eq_nil_of_le (by omega)]
        simp
      | succ d ih =>
        intro i hd
        rw [drop_rd (l:=a) (i:=i) (by omega),drop_rd (l:=b) (i:=i) (by omega)]
        by_cases hx : rd a (i : Int) = rd b (i : Int)
        · refine Evt.step (f:=fun k => laws_eqIntS.l0 k a b ((i + 1 : Nat) : Int)) (fun k => by
            simp only [laws_eqIntS.l0]
            rw [if_pos (by omega),if_pos (by omega),if_pos (by omega),if_pos hx,wrap_succ (by omega)]) ?_
          refine (ih (i + 1) (by omega)).mono (fun r hr => ?_)
          rw [hr]
          simp [hx]
        · refine Evt.step (f:=fun _ => some false) (fun k => by
            simp only [laws_eqIntS.l0]
            rw [if_pos (by omega),if_pos (by omega),if_pos (by omega),if_neg hx]) (Evt.now _ ?_)
          simp [hx]
    refine (Evt.congr (fun k => by unfold laws_eqIntS.f;rw [if_pos h];rfl) (key a.length 0 (by omega))).mono (fun r hr => ?_)
    simpa using hr
  · refine Evt.congr (fun k => by unfold laws_eqIntS.f;rw [if_neg h]) (Evt.now _ ?_)
    have : a ≠ b:=by
      rintro rfl
      exact h rfl
    simp [this]
theorem toIntS_ends (l : List Int) (hl : l.length ≤ 1048576) : Evt (fun k => laws_toIntS.f k l) (fun r => r = l):=by
  have key : ∀ (d i : Nat) (xs : List Int),i + d = l.length → xs.length = l.length → xs.take i = l.take i → Evt (fun k => laws_toIntS.l0 k l xs (i : Int)) (fun r => r = l):=by
    intro d
    induction d with
    | zero =>
      intro i xs hd hx ht
      refine Evt.step (f:=fun _ => some xs) (fun k => by simp only [laws_toIntS.l0];rw [if_neg (by omega)]) (Evt.now _ ?_)
      rwa [List.take_of_length_le (by omega),List.take_of_length_le (by omega)] at ht
    | succ d ih =>
      intro i xs hd hx ht
      refine Evt.step (f:=fun k => laws_toIntS.l0 k l (xs.set i (rd l (i : Int))) ((i + 1 : Nat) : Int)) (fun k => by
        simp only [laws_toIntS.l0]
        rw [if_pos (by omega),if_pos (by omega),if_pos (by omega),wrap_succ (by omega),Int.toNat_natCast]) ?_
      exact ih (i + 1) _ (by omega) (by rw [List.length_set];exact hx) (take_set_succ hx (by omega) ht (rd_get (by omega)))
  refine Evt.congr (fun k => by unfold laws_toIntS.f;rw [if_pos (by omega),if_pos (by omega),Int.toNat_natCast];rfl) (key l.length 0 (List.replicate l.length 0) (by omega) (by simp) (by simp))
/-- Numbers from a on. -/
def ups (a : Int) : Nat → List Int
  | 0 => []
  | n + 1 => a :: ups (a + 1) n
theorem ups_length (n : Nat) : ∀ a,(ups a n).length = n:=by
  induction n with
  | zero => intro a;rfl
  | succ n ih => intro a;rw [ups,List.length_cons,ih]
theorem ups_get (n : Nat) : ∀ (a : Int) (i : Nat),i < n → (ups a n)[i]? = some (a + (i : Int)):=by
  induction n with
  | zero => intro a i h;omega
  | succ n ih =>
    intro a i h
    cases i with
    | zero => rw [ups];simp
    | succ i =>
      rw [ups,List.getElem?_cons_succ,ih (a + 1) i (by omega)]
      congr 1
      omega
theorem ups_rd {a : Int} {n i : Nat} (h : i < n) : rd (ups a n) (i : Int) = a + (i : Int):=by
  have h1:=ups_get n a i h
  have h2:=rd_get (l:=ups a n) (i:=i) (by rw [ups_length];exact h)
  rw [h1] at h2
  exact (Option.some.inj h2).symm
theorem markIntS_ends (l : List Int) (a : Int) (h0 : 0 ≤ a) (h1 : a ≤ 1000000000) (hl : l.length ≤ 1048576) : Evt (fun k => laws_markIntS.f k l a) (fun r => r = (a + (l.length : Int),ups a l.length)):=by
  have key : ∀ (d i : Nat) (x : List Int),i + d = l.length → x.length = l.length → x.take i = (ups a l.length).take i → Evt (fun k => laws_markIntS.l0 k x (a + (i : Int)) (i : Int)) (fun r => r = (a + (l.length : Int),ups a l.length)):=by
    intro d
    induction d with
    | zero =>
      intro i x hd hx ht
      have e : i = l.length:=by omega
      subst e
      refine Evt.step (f:=fun _ => some (a + (l.length : Int),x)) (fun k => by simp only [laws_markIntS.l0];rw [if_neg (by omega)]) (Evt.now _ ?_)
      rw [List.take_of_length_le (by omega),List.take_of_length_le (by rw [ups_length];omega)] at ht
      rw [ht]
    | succ d ih =>
      intro i x hd hx ht
      have w : wrap64 (a + (i : Int) + 1) = a + ((i + 1 : Nat) : Int):=by unfold wrap64;omega
      refine Evt.step (fun k => by simp only [laws_markIntS.l0,w];rw [if_pos (by omega),if_pos (by omega),wrap_succ (by omega),Int.toNat_natCast]) ?_
      exact ih (i + 1) _ (by omega) (by rw [List.length_set];exact hx) (take_set_succ (by rw [ups_length,hx]) (by rw [ups_length];omega) ht (ups_get _ _ _ (by omega)))
  simp only [laws_markIntS.f]
  have:=key l.length 0 l (by omega) rfl (by simp)
  simpa using this
theorem heldIntS_ends (n : Nat) (a : Int) (h0 : 0 ≤ a) (h1 : a ≤ 1000000000) (hl : n ≤ 1048576) : Evt (fun k => laws_heldIntS.f k (ups a n) a) (fun r => r = a + (n : Int)):=by
  have hn:=ups_length n a
  have key : ∀ (d i : Nat),i + d = n → Evt (fun k => laws_heldIntS.l0 k (ups a n) (a + (i : Int)) (i : Int)) (fun r => r = a + (n : Int)):=by
    intro d
    induction d with
    | zero =>
      intro i hd
      have e : i = n:=by omega
      subst e
      exact Evt.step (f:=fun _ => some (a + (i : Int))) (fun k => by simp only [laws_heldIntS.l0];rw [if_neg (by omega)]) (Evt.now _ rfl)
    | succ d ih =>
      intro i hd
      have w : wrap64 (a + (i : Int) + 1) = a + ((i + 1 : Nat) : Int):=by unfold wrap64;omega
      refine Evt.step (fun k => by simp only [laws_heldIntS.l0,w];rw [if_pos (by omega),if_pos (by omega),if_pos (ups_rd (by omega)),wrap_succ (by omega)]) ?_
      exact ih (i + 1) (by omega)
  simp only [laws_heldIntS.f]
  have:=key n 0 (by omega)
  simpa using this

end Go.Proofs.Ytkkfokcbbhnjeaa.Pure
