/- Plain facts on what the printed functions compute (within payok paystep chain bookof eqints marks items marksitem). Conditions: each theorem's own. -/
import Derived.Test.YtkkfokcbbhnjeaaPx0
import Derived.Test.YtkkfokcbbhnjeaaPx2
import Derived.Test.YtkkfokcbbhnjeaaPx3
import Derived.Test.YtkkfokcbbhnjeaaPx4
import Derived.Test.YtkkfokcbbhnjeaaPx5
import Derived.Test.YtkkfokcbbhnjeaaPx6
import Derived.Test.YtkkfokcbbhnjeaaPx7
import Derived.Test.YtkkfokcbbhnjeaaPx8
import Derived.Test.YtkkfokcbbhnjeaaPlain
namespace Go.Proofs.Ytkkfokcbbhnjeaa.Pure
open Go.RowKit Go.Proofs.Ytkkfokcbbhnjeaa.P Go.Proofs.YtkkfokcbbhnjeaaW.PrintWords Go.Proofs.YtkkfokcbbhnjeaaW.PrintLast Go.Proofs.YtkkfokcbbhnjeaaW.PrintMore Go.Proofs.YtkkfokcbbhnjeaaE
set_option linter.unusedVariables false
set_option linter.unusedSimpArgs false

theorem within_eq (n lo hi : Int) : impl_within.f n lo hi = some (decide (lo ≤ n ∧ n ≤ hi)):=by
  unfold impl_within.f
  by_cases h : n ≥ lo
  · rw [if_pos h]
    by_cases h2 : n ≤ hi
    · simp [h2,show lo ≤ n from h]
    · simp [h2]
  · rw [if_neg h]
    simp [show ¬ lo ≤ n from h]
theorem l6In_eq (n lo hi : Int) : spec_l6In.f n lo hi = some (decide (lo ≤ n ∧ n ≤ hi)):=by
  unfold spec_l6In.f
  by_cases h : n ≥ lo
  · rw [if_pos h]
    by_cases h2 : n ≤ hi
    · simp [h2,show lo ≤ n from h]
    · simp [h2]
  · rw [if_neg h]
    simp [show ¬ lo ≤ n from h]
def payOk (a b c : Int) : Bool:=decide ((1 ≤ a ∧ a ≤ 3) ∧ (1 ≤ b ∧ b ≤ 3) ∧ a ≠ b ∧ (1 ≤ c ∧ c ≤ 9))
theorem payOk_impl (a b c : Int) : impl_PayOk.f a b c = some (payOk a b c):=by
  unfold impl_PayOk.f payOk
  simp only [within_eq,Option.bind_some]
  by_cases h1 : 1 ≤ a ∧ a ≤ 3
  · by_cases h2 : 1 ≤ b ∧ b ≤ 3
    · by_cases h3 : a = b
      · simp [h1,h2,h3]
      · simp [h1,h2,h3]
    · simp [h1,h2]
  · simp [h1]
theorem payOk_spec (a b c : Int) : spec_PayOk.f a b c = some (payOk a b c):=by
  unfold spec_PayOk.f payOk
  simp only [l6In_eq,Option.bind_some]
  by_cases h1 : 1 ≤ a ∧ a ≤ 3
  · by_cases h2 : 1 ≤ b ∧ b ≤ 3
    · by_cases h3 : a = b
      · simp [h1,h2,h3]
      · simp [h1,h2,h3]
    · simp [h1,h2]
  · simp [h1]
/-- A payment, made. -/
def payL (l : List Int) (a b c : Int) : List Int :=
  if rd l (a - 1) ≥ c then (l.set (a - 1).toNat (wrap64 (rd l (a - 1) - c))).set (b - 1).toNat (wrap64 (rd (l.set (a - 1).toNat (wrap64 (rd l (a - 1) - c))) (b - 1) + c)) else l
theorem payL_length (l : List Int) (a b c : Int) : (payL l a b c).length = l.length:=by
  unfold payL
  split <;> simp
theorem pay_impl {l : List Int} {a b : Int} (c : Int) (hl : l.length = 3) (ha : 1 ≤ a ∧ a ≤ 3) (hb : 1 ≤ b ∧ b ≤ 3) : impl_pay.f l a b c = some (payL l a b c):=by
  have e1 : wrap64 (a - 1) = a - 1:=wrap64_small (by omega) (by omega)
  have e2 : wrap64 (b - 1) = b - 1:=wrap64_small (by omega) (by omega)
  unfold impl_pay.f payL
  rw [e1,e2,if_pos (by omega),if_pos (by omega)]
  by_cases h : rd l (a - 1) ≥ c
  · rw [if_pos h,if_pos h,Option.bind_some,if_pos (by omega),if_pos (by omega)]
  · rw [if_neg h,if_neg h]
theorem pay_spec {l : List Int} {a b : Int} (c : Int) (hl : l.length = 3) (ha : 1 ≤ a ∧ a ≤ 3) (hb : 1 ≤ b ∧ b ≤ 3) : spec_l2Pay.f l a b c = some (payL l a b c):=by
  have e1 : wrap64 (a - 1) = a - 1:=wrap64_small (by omega) (by omega)
  have e2 : wrap64 (b - 1) = b - 1:=wrap64_small (by omega) (by omega)
  unfold spec_l2Pay.f payL
  simp only [Option.bind_some,List.nil_append,List.length_nil,Nat.zero_add]
  rw [e1,e2,if_pos (by omega),if_pos (by omega),if_pos (by omega)]
  by_cases h : rd l (a - 1) ≥ c
  · rw [if_pos h,if_pos h,if_pos (by omega),if_pos (by omega)]
  · rw [if_neg h,if_neg h]
theorem payOk_iff {a b c : Int} : payOk a b c = true ↔ (1 ≤ a ∧ a ≤ 3) ∧ (1 ≤ b ∧ b ≤ 3) ∧ a ≠ b ∧ (1 ≤ c ∧ c ≤ 9):=by
  unfold payOk
  exact decide_eq_true_iff
abbrev It:=S56
instance : DecidableEq S44:=fun ⟨a,b,c⟩ ⟨a',b',c'⟩ => decidable_of_iff (a = a' ∧ b = b' ∧ c = c') (by simp)
instance : DecidableEq It:=fun ⟨a,b⟩ ⟨a',b'⟩ => decidable_of_iff (a = a' ∧ b = b') (by simp)
theorem rdIt_get {l : List It} {i : Nat} (h : i < l.length) : l[i]? = some (rd_T56 l (i : Int)):=by
  show _ = some (l.getD ((i : Int)).toNat _)
  rw [Int.toNat_natCast,List.getD_eq_getElem?_getD,List.getElem?_eq_getElem h]
  rfl
theorem drop_it {l : List It} {i : Nat} (h : i < l.length) : l.drop i = rd_T56 l (i : Int) :: l.drop (i + 1):=by
  have e:=rdIt_get h
  rw [List.getElem?_eq_getElem h] at e
  rw [List.drop_eq_getElem_cons h,Option.some.inj e]
theorem neq_it (x y : It) : ((!(x.f0 == y.f0) || ((!(x.f1.f0 == y.f1.f0) || (!(x.f1.f1 == y.f1.f1) || (!(x.f1.f2 == y.f1.f2)))))) = true) ↔ x ≠ y:=by
  obtain ⟨a,b,c,d⟩:=x
  obtain ⟨a',b',c',d'⟩:=y
  simp
  omega
theorem eq_it (x y : It) : ((x.f0 == y.f0) && ((x.f1.f0 == y.f1.f0) && ((x.f1.f1 == y.f1.f1) && (x.f1.f2 == y.f1.f2)))) = true ↔ x = y:=by
  obtain ⟨a,b,c,d⟩:=x
  obtain ⟨a',b',c',d'⟩:=y
  simp
def itemOk (x : It) : Bool:=decide (1 ≤ x.f0 ∧ x.f0 ≤ 30) && payOk x.f1.f0 x.f1.f1 x.f1.f2
/-- Items go on behind epoch e. -/
def okFrom : Int → List It → Bool
  | _,[] => true
  | e,x :: xs => itemOk x && (decide (e < x.f0) && okFrom x.f0 xs)
def chainOk (c : List It) : Bool:=okFrom 0 c && decide (c.length ≤ 16)
def prevE (l : List It) (i : Nat) : Int:=if i = 0 then 0 else (rd_T56 l ((i - 1 : Nat) : Int)).f0
theorem prevE_succ (l : List It) (i : Nat) : prevE l (i + 1) = (rd_T56 l (i : Int)).f0:=by simp [prevE]
theorem epochOk_eq (e : Int) : impl_epochOk.f e = some (decide (1 ≤ e ∧ e ≤ 30)):=by
  unfold impl_epochOk.f
  simp [within_eq]
theorem chainOk_impl (l : List It) (hl : l.length ≤ 4611686018427387900) : Evt (fun k => impl_ChainOk.f k l) (fun r => r = chainOk l):=by
  have key : ∀ (d i : Nat),i + d = l.length → Evt (fun k => impl_ChainOk.l0 k l l (l.length : Int) (i : Int)) (fun r => r = (okFrom (prevE l i) (l.drop i) && decide (l.length ≤ 16))):=by
    intro d
    induction d with
    | zero =>
      intro i hd
      rw [List.drop_eq_nil_of_le (by omega)]
      refine Evt.step (f:=fun _ => some (decide ((l.length : Int) ≤ 16))) (fun k => by simp only [impl_ChainOk.l0];rw [if_neg (by omega)]) (Evt.now _ ?_)
      by_cases h : l.length ≤ 16
      · simp [okFrom,h,show (l.length : Int) ≤ 16 by omega]
      · simp [okFrom,h,show ¬ (l.length : Int) ≤ 16 by omega]
    | succ d ih =>
      intro i hd
      have ihs:=ih (i + 1) (by omega)
      rw [prevE_succ] at ihs
      rw [drop_it (l:=l) (i:=i) (by omega)]
      by_cases he : 1 ≤ (rd_T56 l (i : Int)).f0 ∧ (rd_T56 l (i : Int)).f0 ≤ 30
      · cases hp : payOk (rd_T56 l (i : Int)).f1.f0 (rd_T56 l (i : Int)).f1.f1 (rd_T56 l (i : Int)).f1.f2 with
        | false =>
          refine Evt.step (f:=fun _ => some false) (fun k => by
            simp only [impl_ChainOk.l0,epochOk_eq,payOk_impl,Option.bind_some]
            rw [if_pos (by omega),if_pos (by omega),if_pos (by omega),if_pos (by simpa using he),hp,if_neg (by decide)]) (Evt.now _ ?_)
          simp [okFrom,itemOk,hp]
        | true =>
          by_cases hi : i = 0
          · subst hi
            refine Evt.step (f:=fun k => impl_ChainOk.l0 k l l (l.length : Int) ((0 + 1 : Nat) : Int)) (fun k => by
              simp only [impl_ChainOk.l0,epochOk_eq,payOk_impl,Option.bind_some]
              rw [if_pos (by omega),if_pos (by omega),if_pos (by omega),if_pos (by simpa using he),hp,if_pos rfl,if_neg (by omega),wrap_succ (by omega)]) ?_
            refine ihs.mono fun r hr => ?_
            rw [hr]
            have h0 : (0 : Int) < (rd_T56 l ((0 : Nat) : Int)).f0:=by omega
            simp only [okFrom,itemOk,prevE,hp,he,h0,decide_true,and_self,if_true,Bool.true_and,Bool.and_true]
          · have hw : wrap64 ((i : Int) - 1) = ((i - 1 : Nat) : Int):=by unfold wrap64;omega
            by_cases hlt : (rd_T56 l ((i - 1 : Nat) : Int)).f0 < (rd_T56 l (i : Int)).f0
            · refine Evt.step (f:=fun k => impl_ChainOk.l0 k l l (l.length : Int) ((i + 1 : Nat) : Int)) (fun k => by
                simp only [impl_ChainOk.l0,epochOk_eq,payOk_impl,Option.bind_some]
                rw [if_pos (by omega),if_pos (by omega),if_pos (by omega),if_pos (by simpa using he),hp,if_pos rfl,if_pos (by omega),hw,if_pos (by omega),if_pos (by omega),if_neg (by omega),wrap_succ (by omega)]) ?_
              refine ihs.mono fun r hr => ?_
              rw [hr]
              simp [okFrom,itemOk,prevE,hp,he,hi,hlt]
            · refine Evt.step (f:=fun _ => some false) (fun k => by
                simp only [impl_ChainOk.l0,epochOk_eq,payOk_impl,Option.bind_some]
                rw [if_pos (by omega),if_pos (by omega),if_pos (by omega),if_pos (by simpa using he),hp,if_pos rfl,if_pos (by omega),hw,if_pos (by omega),if_pos (by omega),if_pos (by omega)]) (Evt.now _ ?_)
              simp [okFrom,itemOk,prevE,hi,hlt]
      · refine Evt.step (f:=fun _ => some false) (fun k => by
          simp only [impl_ChainOk.l0,epochOk_eq,Option.bind_some]
          rw [if_pos (by omega),if_pos (by omega),if_pos (by omega),if_neg (by simpa using he)]) (Evt.now _ ?_)
        simp [okFrom,itemOk,he]
  refine (Evt.congr (fun k => by unfold impl_ChainOk.f;rfl) (key l.length 0 (by omega))).mono fun r hr => ?_
  simpa [chainOk,prevE] using hr
theorem chainOk_spec (l : List It) (hl : l.length ≤ 4611686018427387900) : Evt (fun k => spec_ChainOk.f k l) (fun r => r = chainOk l):=by
  have key : ∀ (d i : Nat),i + d = l.length → Evt (fun k => spec_ChainOk.l0 k l (i : Int)) (fun r => r = (okFrom (prevE l i) (l.drop i) && decide (l.length ≤ 16))):=by
    intro d
    induction d with
    | zero =>
      intro i hd
      rw [List.drop_eq_nil_of_le (by omega)]
      refine Evt.step (f:=fun _ => some (decide ((l.length : Int) ≤ 16))) (fun k => by simp only [spec_ChainOk.l0];rw [if_neg (by omega)]) (Evt.now _ ?_)
      by_cases h : l.length ≤ 16
      · simp [okFrom,h,show (l.length : Int) ≤ 16 by omega]
      · simp [okFrom,h,show ¬ (l.length : Int) ≤ 16 by omega]
    | succ d ih =>
      intro i hd
      have ihs:=ih (i + 1) (by omega)
      rw [prevE_succ] at ihs
      rw [drop_it (l:=l) (i:=i) (by omega)]
      by_cases he : 1 ≤ (rd_T56 l (i : Int)).f0 ∧ (rd_T56 l (i : Int)).f0 ≤ 30
      · cases hp : payOk (rd_T56 l (i : Int)).f1.f0 (rd_T56 l (i : Int)).f1.f1 (rd_T56 l (i : Int)).f1.f2 with
        | false =>
          refine Evt.step (f:=fun _ => some false) (fun k => by
            simp only [spec_ChainOk.l0,l6In_eq,payOk_spec,Option.bind_some]
            rw [if_pos (by omega),if_pos (by omega),if_pos (by simpa using he),hp,if_neg (by decide)]) (Evt.now _ ?_)
          simp [okFrom,itemOk,hp]
        | true =>
          by_cases hi : i = 0
          · subst hi
            refine Evt.step (f:=fun k => spec_ChainOk.l0 k l ((0 + 1 : Nat) : Int)) (fun k => by
              simp only [spec_ChainOk.l0,l6In_eq,payOk_spec,Option.bind_some]
              rw [if_pos (by omega),if_pos (by omega),if_pos (by simpa using he),hp,if_pos rfl,if_neg (by omega),wrap_succ (by omega)]) ?_
            refine ihs.mono fun r hr => ?_
            rw [hr]
            have h0 : (0 : Int) < (rd_T56 l ((0 : Nat) : Int)).f0:=by omega
            simp only [okFrom,itemOk,prevE,hp,he,h0,decide_true,and_self,if_true,Bool.true_and,Bool.and_true]
          · have hw : wrap64 ((i : Int) - 1) = ((i - 1 : Nat) : Int):=by unfold wrap64;omega
            by_cases hlt : (rd_T56 l ((i - 1 : Nat) : Int)).f0 < (rd_T56 l (i : Int)).f0
            · refine Evt.step (f:=fun k => spec_ChainOk.l0 k l ((i + 1 : Nat) : Int)) (fun k => by
                simp only [spec_ChainOk.l0,l6In_eq,payOk_spec,Option.bind_some]
                rw [if_pos (by omega),if_pos (by omega),if_pos (by simpa using he),hp,if_pos rfl,if_pos (by omega),hw,if_pos (by omega),if_pos (by omega),if_neg (by omega),wrap_succ (by omega)]) ?_
              refine ihs.mono fun r hr => ?_
              rw [hr]
              simp [okFrom,itemOk,prevE,hp,he,hi,hlt]
            · refine Evt.step (f:=fun _ => some false) (fun k => by
                simp only [spec_ChainOk.l0,l6In_eq,payOk_spec,Option.bind_some]
                rw [if_pos (by omega),if_pos (by omega),if_pos (by simpa using he),hp,if_pos rfl,if_pos (by omega),hw,if_pos (by omega),if_pos (by omega),if_pos (by omega)]) (Evt.now _ ?_)
              simp [okFrom,itemOk,prevE,hi,hlt]
      · refine Evt.step (f:=fun _ => some false) (fun k => by
          simp only [spec_ChainOk.l0,l6In_eq,Option.bind_some]
          rw [if_pos (by omega),if_pos (by omega),if_neg (by simpa using he)]) (Evt.now _ ?_)
        simp [okFrom,itemOk,he]
  refine (Evt.congr (fun k => by unfold spec_ChainOk.f;rfl) (key l.length 0 (by omega))).mono fun r hr => ?_
  simpa [chainOk,prevE] using hr
def payAll (b : List Int) (c : List It) : List Int:=c.foldl (fun b x => payL b x.f1.f0 x.f1.f1 x.f1.f2) b
def bookOf (c : List It) : List Int:=if chainOk c = true then payAll [9,9,9] c else []
theorem payAll_length (c : List It) : ∀ b,(payAll b c).length = b.length:=by
  induction c with
  | nil => intro b;rfl
  | cons x xs ih => intro b;exact (ih _).trans (payL_length _ _ _ _)
theorem okFrom_item {e : Int} {c : List It} (h : okFrom e c = true) : ∀ x,x ∈ c → itemOk x = true:=by
  induction c generalizing e with
  | nil => intro x hx;cases hx
  | cons y ys ih =>
    intro x hx
    simp only [okFrom,Bool.and_eq_true] at h
    rcases List.mem_cons.1 hx with rfl|hx
    · exact h.1
    · exact ih h.2.2 x hx
theorem item_pay {x : It} (h : itemOk x = true) : payOk x.f1.f0 x.f1.f1 x.f1.f2 = true:=by
  simp only [itemOk,Bool.and_eq_true] at h
  exact h.2
theorem chain_items {c : List It} (h : chainOk c = true) : ∀ x,x ∈ c → payOk x.f1.f0 x.f1.f1 x.f1.f2 = true:=by
  simp only [chainOk,Bool.and_eq_true] at h
  exact fun x hx => item_pay (okFrom_item h.1 x hx)
theorem chain_len {c : List It} (h : chainOk c = true) : c.length ≤ 16:=by
  simp only [chainOk,Bool.and_eq_true,decide_eq_true_iff] at h
  exact h.2
theorem rdIt_mem {c : List It} {i : Nat} (h : i < c.length) : rd_T56 c (i : Int) ∈ c:=List.mem_of_getElem? (rdIt_get h)
theorem bookOf_impl (c : List It) (hl : c.length ≤ 4611686018427387900) : Evt (fun k => impl_BookOf.f k c) (fun r => r = bookOf c):=by
  simp only [impl_BookOf.f]
  refine Evt.bind (chainOk_impl c hl) fun t ht => ?_
  rw [ht]
  cases hc : chainOk c with
  | false => exact Evt.neg (by decide) (Evt.now _ (by simp [bookOf,hc]))
  | true =>
    refine Evt.pos rfl ?_
    have hi:=chain_items hc
    have key : ∀ (d i : Nat) (b : List Int),i + d = c.length → b.length = 3 → Evt (fun k => impl_BookOf.l0 k b c (c.length : Int) (i : Int)) (fun r => r = payAll b (c.drop i)):=by
      intro d
      induction d with
      | zero =>
        intro i b hd hb
        rw [List.drop_eq_nil_of_le (by omega)]
        exact Evt.step (f:=fun _ => some b) (fun k => by simp only [impl_BookOf.l0];rw [if_neg (by omega)]) (Evt.now _ rfl)
      | succ d ih =>
        intro i b hd hb
        rw [drop_it (l:=c) (i:=i) (by omega)]
        obtain ⟨h1,h2,_⟩:=payOk_iff.1 (hi _ (rdIt_mem (c:=c) (i:=i) (by omega)))
        refine Evt.step (f:=fun k => impl_BookOf.l0 k (payL b (rd_T56 c (i : Int)).f1.f0 (rd_T56 c (i : Int)).f1.f1 (rd_T56 c (i : Int)).f1.f2) c (c.length : Int) ((i + 1 : Nat) : Int)) (fun k => by
          simp only [impl_BookOf.l0]
          rw [if_pos (by omega),if_pos (by omega),if_pos (by omega),pay_impl _ hb h1 h2,Option.bind_some,wrap_succ (by omega)]) ?_
        exact (ih (i + 1) _ (by omega) (by rw [payL_length];exact hb)).mono fun r hr => by rw [hr];rfl
    simp only [impl_BookNew.f,Option.bind_some]
    refine (key c.length 0 [9,9,9] (by omega) rfl).mono fun r hr => ?_
    rw [hr]
    simp [bookOf,hc]
theorem bookOf_spec (c : List It) (hl : c.length ≤ 4611686018427387900) : Evt (fun k => spec_BookOf.f k c) (fun r => r = bookOf c):=by
  simp only [spec_BookOf.f]
  refine Evt.bind (chainOk_spec c hl) fun t ht => ?_
  rw [ht]
  cases hc : chainOk c with
  | false => exact Evt.neg (by decide) (Evt.now _ (by simp [bookOf,hc]))
  | true =>
    refine Evt.pos rfl ?_
    have hi:=chain_items hc
    have key : ∀ (d i : Nat) (b : List Int),i + d = c.length → b.length = 3 → Evt (fun k => spec_BookOf.l0 k c b (i : Int)) (fun r => r = payAll b (c.drop i)):=by
      intro d
      induction d with
      | zero =>
        intro i b hd hb
        rw [List.drop_eq_nil_of_le (by omega)]
        exact Evt.step (f:=fun _ => some b) (fun k => by simp only [spec_BookOf.l0];rw [if_neg (by omega)]) (Evt.now _ rfl)
      | succ d ih =>
        intro i b hd hb
        rw [drop_it (l:=c) (i:=i) (by omega)]
        obtain ⟨h1,h2,_⟩:=payOk_iff.1 (hi _ (rdIt_mem (c:=c) (i:=i) (by omega)))
        refine Evt.step (f:=fun k => spec_BookOf.l0 k c (payL b (rd_T56 c (i : Int)).f1.f0 (rd_T56 c (i : Int)).f1.f1 (rd_T56 c (i : Int)).f1.f2) ((i + 1 : Nat) : Int)) (fun k => by
          simp only [spec_BookOf.l0]
          rw [if_pos (by omega),if_pos (by omega),pay_spec _ hb h1 h2,Option.bind_some,wrap_succ (by omega)]) ?_
        exact (ih (i + 1) _ (by omega) (by rw [payL_length];exact hb)).mono fun r hr => by rw [hr];rfl
    simp only [spec_BookNew.f,Option.bind_some]
    refine (key c.length 0 [9,9,9] (by omega) rfl).mono fun r hr => ?_
    rw [hr]
    simp [bookOf,hc]
theorem eqIntS_ends (a b : List Int) (hl : a.length ≤ 4611686018427387900) : Evt (fun k => laws_eqIntS.f k a b) (fun r => r = decide (a = b)):=by
  by_cases h : (a.length : Int) = (b.length : Int)
  · have hn : a.length = b.length:=by omega
    have key : ∀ (d i : Nat),i + d = a.length → Evt (fun k => laws_eqIntS.l0 k a b (i : Int)) (fun r => r = decide (a.drop i = b.drop i)):=by
      intro d
      induction d with
      | zero =>
        intro i hd
        refine Evt.step (f:=fun _ => some true) (fun k => by simp only [laws_eqIntS.l0];rw [if_neg (by omega)]) (Evt.now _ ?_)
        rw [List.drop_eq_nil_of_le (by omega),List.drop_eq_nil_of_le (by omega)]
        simp
      | succ d ih =>
        intro i hd
        rw [drop_rd (l:=a) (i:=i) (by omega),drop_rd (l:=b) (i:=i) (by omega)]
        by_cases hx : rd a (i : Int) = rd b (i : Int)
        · refine Evt.step (f:=fun k => laws_eqIntS.l0 k a b ((i + 1 : Nat) : Int)) (fun k => by
            simp only [laws_eqIntS.l0]
            rw [if_pos (by omega),if_pos (by omega),if_pos (by omega),if_pos hx,wrap_succ (by omega)]) ?_
          refine (ih (i + 1) (by omega)).mono (fun r hr => ?_)
          rw [hr]
          simp [hx]
        · refine Evt.step (f:=fun _ => some false) (fun k => by
            simp only [laws_eqIntS.l0]
            rw [if_pos (by omega),if_pos (by omega),if_pos (by omega),if_neg hx]) (Evt.now _ ?_)
          simp [hx]
    refine (Evt.congr (fun k => by unfold laws_eqIntS.f;rw [if_pos h];rfl) (key a.length 0 (by omega))).mono (fun r hr => ?_)
    simpa using hr
  · refine Evt.congr (fun k => by unfold laws_eqIntS.f;rw [if_neg h]) (Evt.now _ ?_)
    have : a ≠ b:=by
      rintro rfl
      exact h rfl
    simp [this]
/-- Numbers from a on. -/
def ups (a : Int) : Nat → List Int
  | 0 => []
  | n + 1 => a :: ups (a + 1) n
theorem ups_length (n : Nat) : ∀ a,(ups a n).length = n:=by
  induction n with
  | zero => intro a;rfl
  | succ n ih => intro a;rw [ups,List.length_cons,ih]
theorem ups_get (n : Nat) : ∀ (a : Int) (i : Nat),i < n → (ups a n)[i]? = some (a + (i : Int)):=by
  induction n with
  | zero => intro a i h;omega
  | succ n ih =>
    intro a i h
    cases i with
    | zero => rw [ups];simp
    | succ i =>
      rw [ups,List.getElem?_cons_succ,ih (a + 1) i (by omega)]
      congr 1
      omega
theorem ups_rd {a : Int} {n i : Nat} (h : i < n) : rd (ups a n) (i : Int) = a + (i : Int):=by
  have h1:=ups_get n a i h
  have h2:=rd_get (l:=ups a n) (i:=i) (by rw [ups_length];exact h)
  rw [h1] at h2
  exact (Option.some.inj h2).symm
theorem markIntS_ends (l : List Int) (a : Int) (h0 : 0 ≤ a) (h1 : a ≤ 1000000000) (hl : l.length ≤ 1048576) : Evt (fun k => laws_markIntS.f k l a) (fun r => r = (a + (l.length : Int),ups a l.length)):=by
  have key : ∀ (d i : Nat) (x : List Int),i + d = l.length → x.length = l.length → x.take i = (ups a l.length).take i → Evt (fun k => laws_markIntS.l0 k x (a + (i : Int)) (i : Int)) (fun r => r = (a + (l.length : Int),ups a l.length)):=by
    intro d
    induction d with
    | zero =>
      intro i x hd hx ht
      have e : i = l.length:=by omega
      subst e
      refine Evt.step (f:=fun _ => some (a + (l.length : Int),x)) (fun k => by simp only [laws_markIntS.l0];rw [if_neg (by omega)]) (Evt.now _ ?_)
      rw [List.take_of_length_le (by omega),List.take_of_length_le (by rw [ups_length];omega)] at ht
      rw [ht]
    | succ d ih =>
      intro i x hd hx ht
      have w : wrap64 (a + (i : Int) + 1) = a + ((i + 1 : Nat) : Int):=by unfold wrap64;omega
      refine Evt.step (fun k => by simp only [laws_markIntS.l0,w];rw [if_pos (by omega),if_pos (by omega),wrap_succ (by omega),Int.toNat_natCast]) ?_
      exact ih (i + 1) _ (by omega) (by rw [List.length_set];exact hx) (take_set_succ (by rw [ups_length,hx]) (by rw [ups_length];omega) ht (ups_get _ _ _ (by omega)))
  simp only [laws_markIntS.f]
  have:=key l.length 0 l (by omega) rfl (by simp)
  simpa using this
theorem heldIntS_ends (n : Nat) (a : Int) (h0 : 0 ≤ a) (h1 : a ≤ 1000000000) (hl : n ≤ 1048576) : Evt (fun k => laws_heldIntS.f k (ups a n) a) (fun r => r = a + (n : Int)):=by
  have hn:=ups_length n a
  have key : ∀ (d i : Nat),i + d = n → Evt (fun k => laws_heldIntS.l0 k (ups a n) (a + (i : Int)) (i : Int)) (fun r => r = a + (n : Int)):=by
    intro d
    induction d with
    | zero =>
      intro i hd
      have e : i = n:=by omega
      subst e
      exact Evt.step (f:=fun _ => some (a + (i : Int))) (fun k => by simp only [laws_heldIntS.l0];rw [if_neg (by omega)]) (Evt.now _ rfl)
    | succ d ih =>
      intro i hd
      have w : wrap64 (a + (i : Int) + 1) = a + ((i + 1 : Nat) : Int):=by unfold wrap64;omega
      refine Evt.step (fun k => by simp only [laws_heldIntS.l0,w];rw [if_pos (by omega),if_pos (by omega),if_pos (ups_rd (by omega)),wrap_succ (by omega)]) ?_
      exact ih (i + 1) (by omega)
  simp only [laws_heldIntS.f]
  have:=key n 0 (by omega)
  simpa using this
abbrev LIt:=S61
def toIt (x : LIt) : It:=⟨x.f0,⟨x.f1.f0,x.f1.f1,x.f1.f2⟩⟩
theorem rdLIt_get {l : List LIt} {i : Nat} {x : LIt} (h : l[i]? = some x) : rd_T61 l (i : Int) = x:=by
  show l.getD ((i : Int)).toNat _ = x
  rw [Int.toNat_natCast,List.getD_eq_getElem?_getD,h]
  rfl
theorem toItem_eq (a b c d : Int) : laws_toItem.f a b c d = some (a,b,c,d):=rfl
theorem toItemS_ends (l : List LIt) (hl : l.length ≤ 1048576) : Evt (fun k => laws_toItemS.f k l) (fun r => r = l.map toIt):=by
  have h:=copy_loop toIt l (fun k xs i => laws_toItemS.l0 k l xs (i : Int)) (fun k xs => by simp only [laws_toItemS.l0];rw [if_neg (by omega)])
    (fun i x hx k xs hxs => by
      have hil : i < l.length:=(List.getElem?_eq_some_iff.1 hx).1
      simp only [laws_toItemS.l0,toItem_eq,Option.bind_some]
      rw [if_pos (by omega),if_pos (by omega),if_pos (by omega),wrap_succ (by omega),Int.toNat_natCast,rdLIt_get hx]
      rfl) (List.replicate l.length z56) (by simp)
  exact Evt.congr (fun k => by unfold laws_toItemS.f;rw [if_pos (by omega),if_pos (by omega),Int.toNat_natCast];rfl) h
theorem eqItem_eq (x y : It) : laws_eqItem.f x.f0 x.f1.f0 x.f1.f1 x.f1.f2 y.f0 y.f1.f0 y.f1.f1 y.f1.f2 = some (decide (x = y)):=by
  obtain ⟨a,b,c,d⟩:=x
  obtain ⟨a',b',c',d'⟩:=y
  unfold laws_eqItem.f laws_eqPay.f
  simp only
  by_cases h1 : a = a' <;> by_cases h2 : b = b' <;> by_cases h3 : c = c' <;> by_cases h4 : d = d' <;> simp [h1,h2,h3,h4]
theorem eqItemS_ends (a b : List It) (hl : a.length ≤ 4611686018427387900) : Evt (fun k => laws_eqItemS.f k a b) (fun r => r = decide (a = b)):=by
  by_cases h : (a.length : Int) = (b.length : Int)
  · have hn : a.length = b.length:=by omega
    have hc:=cmp_loop a b a.length (fun k i => laws_eqItemS.l0 k a b (i : Int)) (fun k => by simp only [laws_eqItemS.l0];rw [if_neg (by omega)])
      (fun i hi he k => by
        rw [rdIt_get (l:=a) hi,rdIt_get (l:=b) (by omega)] at he
        have he':=Option.some.inj he
        simp only [laws_eqItemS.l0]
        rw [if_pos (by omega),if_pos (by omega),if_pos (by omega),eqItem_eq,Option.bind_some,if_pos (by simp [he']),wrap_succ (by omega)])
      (fun i hi he k => by
        rw [rdIt_get (l:=a) hi,rdIt_get (l:=b) (by omega)] at he
        have he' : ¬ rd_T56 a (i : Int) = rd_T56 b (i : Int):=fun e => he (by rw [e])
        simp only [laws_eqItemS.l0]
        rw [if_pos (by omega),if_pos (by omega),if_pos (by omega),eqItem_eq,Option.bind_some,if_neg (by simpa using he')])
    refine (Evt.congr (fun k => by unfold laws_eqItemS.f;rw [if_pos h];rfl) hc).mono fun r hr => decide_of ?_
    rw [hr,List.take_of_length_le (Nat.le_refl _),List.take_of_length_le (by omega)]
  · refine Evt.congr (fun k => by unfold laws_eqItemS.f;rw [if_neg h]) (Evt.now _ ?_)
    have : a ≠ b:=by
      rintro rfl
      exact h rfl
    simp [this]
theorem szItemS_eq (l : List LIt) (n : Int) (h0 : 0 ≤ n) (h1 : n ≤ 1048576) (hl : l.length ≤ 9223372036854775807) : laws_szItemS.f l n = some (if n - (l.length : Int) < 0 then -1 else n - (l.length : Int)):=by
  unfold laws_szItemS.f
  have e : wrap64 (n - (l.length : Int)) = n - (l.length : Int):=by unfold wrap64;omega
  rw [e]
  split <;> rfl
def mk4 (a : Int) : It:=⟨a,⟨a + 1,a + 2,a + 3⟩⟩
/-- Items of numbers from a on. -/
def upsI (a : Int) : Nat → List It
  | 0 => []
  | n + 1 => mk4 a :: upsI (a + 4) n
theorem upsI_length (n : Nat) : ∀ a,(upsI a n).length = n:=by
  induction n with
  | zero => intro a;rfl
  | succ n ih => intro a;rw [upsI,List.length_cons,ih]
theorem upsI_get (n : Nat) : ∀ (a : Int) (i : Nat),i < n → (upsI a n)[i]? = some (mk4 (a + 4 * (i : Int))):=by
  induction n with
  | zero => intro a i h;omega
  | succ n ih =>
    intro a i h
    cases i with
    | zero => rw [upsI];simp
    | succ i =>
      rw [upsI,List.getElem?_cons_succ,ih (a + 4) i (by omega)]
      congr 2
      omega
theorem upsI_rd {a : Int} {n i : Nat} (h : i < n) : rd_T56 (upsI a n) (i : Int) = mk4 (a + 4 * (i : Int)):=by
  have h1:=upsI_get n a i h
  have h2:=rdIt_get (l:=upsI a n) (i:=i) (by rw [upsI_length];exact h)
  rw [h1] at h2
  exact (Option.some.inj h2).symm
theorem rdIt_set {l : List It} {i : Nat} (x : It) (h : i < l.length) : rd_T56 (l.set i x) (i : Int) = x:=by
  have h2:=rdIt_get (l:=l.set i x) (i:=i) (by rw [List.length_set];exact h)
  rw [List.getElem?_set_self h] at h2
  exact (Option.some.inj h2).symm
theorem markItemS_ends (l : List It) (a : Int) (h0 : 0 ≤ a) (h1 : a ≤ 1000000000) (hl : l.length ≤ 1048576) : Evt (fun k => laws_markItemS.f k l a) (fun r => r = (a + 4 * (l.length : Int),upsI a l.length)):=by
  have key : ∀ (d i : Nat) (x : List It),i + d = l.length → x.length = l.length → x.take i = (upsI a l.length).take i → Evt (fun k => laws_markItemS.l0 k x (a + 4 * (i : Int)) (i : Int)) (fun r => r = (a + 4 * (l.length : Int),upsI a l.length)):=by
    intro d
    induction d with
    | zero =>
      intro i x hd hx ht
      have e : i = l.length:=by omega
      subst e
      refine Evt.step (f:=fun _ => some (a + 4 * (l.length : Int),x)) (fun k => by simp only [laws_markItemS.l0];rw [if_neg (by omega)]) (Evt.now _ ?_)
      rw [List.take_of_length_le (by omega),List.take_of_length_le (by rw [upsI_length];omega)] at ht
      rw [ht]
    | succ d ih =>
      intro i x hd hx ht
      have hi : i < x.length:=by omega
      have w1 : wrap64 (a + 4 * (i : Int) + 1) = a + 4 * (i : Int) + 1:=wrap64_small (by omega) (by omega)
      have w2 : wrap64 (a + 4 * (i : Int) + 1 + 1) = a + 4 * (i : Int) + 2:=by rw [wrap64_small (by omega) (by omega)];omega
      have w3 : wrap64 (a + 4 * (i : Int) + 2 + 1) = a + 4 * (i : Int) + 3:=by rw [wrap64_small (by omega) (by omega)];omega
      have w4 : wrap64 (a + 4 * (i : Int) + 3 + 1) = a + 4 * ((i + 1 : Nat) : Int):=by rw [wrap64_small (by omega) (by omega)];omega
      refine Evt.step (fun k => by simp only [laws_markItemS.l0,w1,w2,w3,w4,Int.toNat_natCast];rw [if_pos (by omega),if_pos (by omega),wrap_succ (by omega)]) ?_
      refine Evt.bind (P:=fun r => r = x.set i _) (Evt.now _ rfl) fun y1 hy1 => ?_
      refine Evt.bind (P:=fun r => r = y1.set i _) (Evt.now _ rfl) fun y2 hy2 => ?_
      refine Evt.bind (P:=fun r => r = y2.set i _) (Evt.now _ rfl) fun y3 hy3 => ?_
      have e1:=rdIt_set (l:=x) _ hi ▸ congrArg (fun z => rd_T56 z (i : Int)) hy1
      try simp only at e1
      rw [e1,hy1,List.set_set] at hy2
      have e2:=rdIt_set (l:=x) _ hi ▸ congrArg (fun z => rd_T56 z (i : Int)) hy2
      try simp only at e2
      rw [e2,hy2,List.set_set] at hy3
      have e3:=rdIt_set (l:=x) _ hi ▸ congrArg (fun z => rd_T56 z (i : Int)) hy3
      try simp only at e3
      rw [e3,hy3,List.set_set]
      exact ih (i + 1) _ (by omega) (by rw [List.length_set];exact hx) (take_set_succ (by rw [upsI_length,hx]) (by rw [upsI_length];omega) ht (upsI_get _ _ _ (by omega)))
  simp only [laws_markItemS.f]
  have:=key l.length 0 l (by omega) rfl (by simp)
  simpa using this

end Go.Proofs.Ytkkfokcbbhnjeaa.Pure
