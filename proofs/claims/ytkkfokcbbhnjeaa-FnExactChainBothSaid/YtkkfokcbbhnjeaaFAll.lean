/- Plain facts on what the printed functions compute (within payok chain chaintake cp items marksitem helditem). Conditions: each theorem's own. -/
import Derived.Test.YtkkfokcbbhnjeaaPx0
import Derived.Test.YtkkfokcbbhnjeaaPx3
import Derived.Test.YtkkfokcbbhnjeaaPx4
import Derived.Test.YtkkfokcbbhnjeaaPx5
import Derived.Test.YtkkfokcbbhnjeaaPx6
import Derived.Test.YtkkfokcbbhnjeaaPx7
import Derived.Test.YtkkfokcbbhnjeaaPx8
import Derived.Test.YtkkfokcbbhnjeaaPx9
import Derived.Test.YtkkfokcbbhnjeaaPlain
namespace Go.Proofs.Ytkkfokcbbhnjeaa.Pure
open Go.RowKit Go.Proofs.Ytkkfokcbbhnjeaa.P Go.Proofs.YtkkfokcbbhnjeaaW.PrintWords Go.Proofs.YtkkfokcbbhnjeaaW.PrintLast Go.Proofs.YtkkfokcbbhnjeaaW.PrintMore Go.Proofs.YtkkfokcbbhnjeaaE
set_option linter.unusedVariables false
set_option linter.unusedSimpArgs false

theorem within_eq (n lo hi : Int) : impl_within.f n lo hi = some (decide (lo ≤ n ∧ n ≤ hi)):=by
  unfold impl_within.f
  by_cases h : n ≥ lo
  · rw [if_pos h]
    by_cases h2 : n ≤ hi
    · simp [h2,show lo ≤ n from h]
    · simp [h2]
  · rw [if_neg h]
    simp [show ¬ lo ≤ n from h]
theorem l6In_eq (n lo hi : Int) : spec_l6In.f n lo hi = some (decide (lo ≤ n ∧ n ≤ hi)):=by
  unfold spec_l6In.f
  by_cases h : n ≥ lo
  · rw [if_pos h]
    by_cases h2 : n ≤ hi
    · simp [h2,show lo ≤ n from h]
    · simp [h2]
  · rw [if_neg h]
    simp [show ¬ lo ≤ n from h]
def payOk (a b c : Int) : Bool:=decide ((1 ≤ a ∧ a ≤ 3) ∧ (1 ≤ b ∧ b ≤ 3) ∧ a ≠ b ∧ (1 ≤ c ∧ c ≤ 9))
theorem payOk_impl (a b c : Int) : impl_PayOk.f a b c = some (payOk a b c):=by
  unfold impl_PayOk.f payOk
  simp only [within_eq,Option.bind_some]
  by_cases h1 : 1 ≤ a ∧ a ≤ 3
  · by_cases h2 : 1 ≤ b ∧ b ≤ 3
    · by_cases h3 : a = b
      · simp [h1,h2,h3]
      · simp [h1,h2,h3]
    · simp [h1,h2]
  · simp [h1]
theorem payOk_spec (a b c : Int) : spec_PayOk.f a b c = some (payOk a b c):=by
  unfold spec_PayOk.f payOk
  simp only [l6In_eq,Option.bind_some]
  by_cases h1 : 1 ≤ a ∧ a ≤ 3
  · by_cases h2 : 1 ≤ b ∧ b ≤ 3
    · by_cases h3 : a = b
      · simp [h1,h2,h3]
      · simp [h1,h2,h3]
    · simp [h1,h2]
  · simp [h1]
abbrev It:=S56
instance : DecidableEq S44:=fun ⟨a,b,c⟩ ⟨a',b',c'⟩ => decidable_of_iff (a = a' ∧ b = b' ∧ c = c') (by simp)
instance : DecidableEq It:=fun ⟨a,b⟩ ⟨a',b'⟩ => decidable_of_iff (a = a' ∧ b = b') (by simp)
theorem rdIt_get {l : List It} {i : Nat} (h : i < l.length) : l[i]? = some (rd_T56 l (i : Int)):=by
  show _ = some (l.getD ((i : Int)).toNat _)
  rw [Int.toNat_natCast,List.getD_eq_getElem?_getD,List.getElem?_eq_getElem h]
  rfl
theorem drop_it {l : List It} {i : Nat} (h : i < l.length) : l.drop i = rd_T56 l (i : Int) :: l.drop (i + 1):=by
  have e:=rdIt_get h
  rw [List.getElem?_eq_getElem h] at e
  rw [List.drop_eq_getElem_cons h,Option.some.inj e]
theorem neq_it (x y : It) : ((!(x.f0 == y.f0) || ((!(x.f1.f0 == y.f1.f0) || (!(x.f1.f1 == y.f1.f1) || (!(x.f1.f2 == y.f1.f2)))))) = true) ↔ x ≠ y:=by
  obtain ⟨a,b,c,d⟩:=x
  obtain ⟨a',b',c',d'⟩:=y
  simp
  omega
theorem eq_it (x y : It) : ((x.f0 == y.f0) && ((x.f1.f0 == y.f1.f0) && ((x.f1.f1 == y.f1.f1) && (x.f1.f2 == y.f1.f2)))) = true ↔ x = y:=by
  obtain ⟨a,b,c,d⟩:=x
  obtain ⟨a',b',c',d'⟩:=y
  simp
def itemOk (x : It) : Bool:=decide (1 ≤ x.f0 ∧ x.f0 ≤ 30) && payOk x.f1.f0 x.f1.f1 x.f1.f2
/-- Items go on behind epoch e. -/
def okFrom : Int → List It → Bool
  | _,[] => true
  | e,x :: xs => itemOk x && (decide (e < x.f0) && okFrom x.f0 xs)
def chainOk (c : List It) : Bool:=okFrom 0 c && decide (c.length ≤ 16)
def prevE (l : List It) (i : Nat) : Int:=if i = 0 then 0 else (rd_T56 l ((i - 1 : Nat) : Int)).f0
theorem prevE_succ (l : List It) (i : Nat) : prevE l (i + 1) = (rd_T56 l (i : Int)).f0:=by simp [prevE]
theorem epochOk_eq (e : Int) : impl_epochOk.f e = some (decide (1 ≤ e ∧ e ≤ 30)):=by
  unfold impl_epochOk.f
  simp [within_eq]
theorem chainOk_impl (l : List It) (hl : l.length ≤ 4611686018427387900) : Evt (fun k => impl_ChainOk.f k l) (fun r => r = chainOk l):=by
  have key : ∀ (d i : Nat),i + d = l.length → Evt (fun k => impl_ChainOk.l0 k l l (l.length : Int) (i : Int)) (fun r => r = (okFrom (prevE l i) (l.drop i) && decide (l.length ≤ 16))):=by
    intro d
    induction d with
    | zero =>
      intro i hd
      rw [List.drop_eq_nil_of_le (by omega)]
      refine Evt.step (f:=fun _ => some (decide ((l.length : Int) ≤ 16))) (fun k => by simp only [impl_ChainOk.l0];rw [if_neg (by omega)]) (Evt.now _ ?_)
      by_cases h : l.length ≤ 16
      · simp [okFrom,h,show (l.length : Int) ≤ 16 by omega]
      · simp [okFrom,h,show ¬ (l.length : Int) ≤ 16 by omega]
    | succ d ih =>
      intro i hd
      have ihs:=ih (i + 1) (by omega)
      rw [prevE_succ] at ihs
      rw [drop_it (l:=l) (i:=i) (by omega)]
      by_cases he : 1 ≤ (rd_T56 l (i : Int)).f0 ∧ (rd_T56 l (i : Int)).f0 ≤ 30
      · cases hp : payOk (rd_T56 l (i : Int)).f1.f0 (rd_T56 l (i : Int)).f1.f1 (rd_T56 l (i : Int)).f1.f2 with
        | false =>
          refine Evt.step (f:=fun _ => some false) (fun k => by
            simp only [impl_ChainOk.l0,epochOk_eq,payOk_impl,Option.bind_some]
            rw [if_pos (by omega),if_pos (by omega),if_pos (by omega),if_pos (by simpa using he),hp,if_neg (by decide)]) (Evt.now _ ?_)
          simp [okFrom,itemOk,hp]
        | true =>
          by_cases hi : i = 0
          · subst hi
            refine Evt.step (f:=fun k => impl_ChainOk.l0 k l l (l.length : Int) ((0 + 1 : Nat) : Int)) (fun k => by
              simp only [impl_ChainOk.l0,epochOk_eq,payOk_impl,Option.bind_some]
              rw [if_pos (by omega),if_pos (by omega),if_pos (by omega),if_pos (by simpa using he),hp,if_pos rfl,if_neg (by omega),wrap_succ (by omega)]) ?_
            refine ihs.mono fun r hr => ?_
            rw [hr]
            have h0 : (0 : Int) < (rd_T56 l ((0 : Nat) : Int)).f0:=by omega
            simp only [okFrom,itemOk,prevE,hp,he,h0,decide_true,and_self,if_true,Bool.true_and,Bool.and_true]
          · have hw : wrap64 ((i : Int) - 1) = ((i - 1 : Nat) : Int):=by unfold wrap64;omega
            by_cases hlt : (rd_T56 l ((i - 1 : Nat) : Int)).f0 < (rd_T56 l (i : Int)).f0
            · refine Evt.step (f:=fun k => impl_ChainOk.l0 k l l (l.length : Int) ((i + 1 : Nat) : Int)) (fun k => by
                simp only [impl_ChainOk.l0,epochOk_eq,payOk_impl,Option.bind_some]
                rw [if_pos (by omega),if_pos (by omega),if_pos (by omega),if_pos (by simpa using he),hp,if_pos rfl,if_pos (by omega),hw,if_pos (by omega),if_pos (by omega),if_neg (by omega),wrap_succ (by omega)]) ?_
              refine ihs.mono fun r hr => ?_
              rw [hr]
              simp [okFrom,itemOk,prevE,hp,he,hi,hlt]
            · refine Evt.step (f:=fun _ => some false) (fun k => by
                simp only [impl_ChainOk.l0,epochOk_eq,payOk_impl,Option.bind_some]
                rw [if_pos (by omega),if_pos (by omega),if_pos (by omega),if_pos (by simpa using he),hp,if_pos rfl,if_pos (by omega),hw,if_pos (by omega),if_pos (by omega),if_pos (by omega)]) (Evt.now _ ?_)
              simp [okFrom,itemOk,prevE,hi,hlt]
      · refine Evt.step (f:=fun _ => some false) (fun k => by
          simp only [impl_ChainOk.l0,epochOk_eq,Option.bind_some]
          rw [if_pos (by omega),if_pos (by omega),if_pos (by omega),if_neg (by simpa using he)]) (Evt.now _ ?_)
        simp [okFrom,itemOk,he]
  refine (Evt.congr (fun k => by unfold impl_ChainOk.f;rfl) (key l.length 0 (by omega))).mono fun r hr => ?_
  simpa [chainOk,prevE] using hr
theorem chainOk_spec (l : List It) (hl : l.length ≤ 4611686018427387900) : Evt (fun k => spec_ChainOk.f k l) (fun r => r = chainOk l):=by
  have key : ∀ (d i : Nat),i + d = l.length → Evt (fun k => spec_ChainOk.l0 k l (i : Int)) (fun r => r = (okFrom (prevE l i) (l.drop i) && decide (l.length ≤ 16))):=by
    intro d
    induction d with
    | zero =>
      intro i hd
      rw [List.drop_eq_nil_of_le (by omega)]
      refine Evt.step (f:=fun _ => some (decide ((l.length : Int) ≤ 16))) (fun k => by simp only [spec_ChainOk.l0];rw [if_neg (by omega)]) (Evt.now _ ?_)
      by_cases h : l.length ≤ 16
      · simp [okFrom,h,show (l.length : Int) ≤ 16 by omega]
      · simp [okFrom,h,show ¬ (l.length : Int) ≤ 16 by omega]
    | succ d ih =>
      intro i hd
      have ihs:=ih (i + 1) (by omega)
      rw [prevE_succ] at ihs
      rw [drop_it (l:=l) (i:=i) (by omega)]
      by_cases he : 1 ≤ (rd_T56 l (i : Int)).f0 ∧ (rd_T56 l (i : Int)).f0 ≤ 30
      · cases hp : payOk (rd_T56 l (i : Int)).f1.f0 (rd_T56 l (i : Int)).f1.f1 (rd_T56 l (i : Int)).f1.f2 with
        | false =>
          refine Evt.step (f:=fun _ => some false) (fun k => by
            simp only [spec_ChainOk.l0,l6In_eq,payOk_spec,Option.bind_some]
            rw [if_pos (by omega),if_pos (by omega),if_pos (by simpa using he),hp,if_neg (by decide)]) (Evt.now _ ?_)
          simp [okFrom,itemOk,hp]
        | true =>
          by_cases hi : i = 0
          · subst hi
            refine Evt.step (f:=fun k => spec_ChainOk.l0 k l ((0 + 1 : Nat) : Int)) (fun k => by
              simp only [spec_ChainOk.l0,l6In_eq,payOk_spec,Option.bind_some]
              rw [if_pos (by omega),if_pos (by omega),if_pos (by simpa using he),hp,if_pos rfl,if_neg (by omega),wrap_succ (by omega)]) ?_
            refine ihs.mono fun r hr => ?_
            rw [hr]
            have h0 : (0 : Int) < (rd_T56 l ((0 : Nat) : Int)).f0:=by omega
            simp only [okFrom,itemOk,prevE,hp,he,h0,decide_true,and_self,if_true,Bool.true_and,Bool.and_true]
          · have hw : wrap64 ((i : Int) - 1) = ((i - 1 : Nat) : Int):=by unfold wrap64;omega
            by_cases hlt : (rd_T56 l ((i - 1 : Nat) : Int)).f0 < (rd_T56 l (i : Int)).f0
            · refine Evt.step (f:=fun k => spec_ChainOk.l0 k l ((i + 1 : Nat) : Int)) (fun k => by
                simp only [spec_ChainOk.l0,l6In_eq,payOk_spec,Option.bind_some]
                rw [if_pos (by omega),if_pos (by omega),if_pos (by simpa using he),hp,if_pos rfl,if_pos (by omega),hw,if_pos (by omega),if_pos (by omega),if_neg (by omega),wrap_succ (by omega)]) ?_
              refine ihs.mono fun r hr => ?_
              rw [hr]
              simp [okFrom,itemOk,prevE,hp,he,hi,hlt]
            · refine Evt.step (f:=fun _ => some false) (fun k => by
                simp only [spec_ChainOk.l0,l6In_eq,payOk_spec,Option.bind_some]
                rw [if_pos (by omega),if_pos (by omega),if_pos (by simpa using he),hp,if_pos rfl,if_pos (by omega),hw,if_pos (by omega),if_pos (by omega),if_pos (by omega)]) (Evt.now _ ?_)
              simp [okFrom,itemOk,prevE,hi,hlt]
      · refine Evt.step (f:=fun _ => some false) (fun k => by
          simp only [spec_ChainOk.l0,l6In_eq,Option.bind_some]
          rw [if_pos (by omega),if_pos (by omega),if_neg (by simpa using he)]) (Evt.now _ ?_)
        simp [okFrom,itemOk,he]
  refine (Evt.congr (fun k => by unfold spec_ChainOk.f;rfl) (key l.length 0 (by omega))).mono fun r hr => ?_
  simpa [chainOk,prevE] using hr
theorem okFrom_take (n : Nat) {c : List It} : ∀ {e : Int},okFrom e c = true → okFrom e (c.take n) = true:=by
  induction n generalizing c with
  | zero => intro e _;rfl
  | succ n ih =>
    intro e h
    cases c with
    | nil => rfl
    | cons x xs =>
      simp only [okFrom,List.take_succ_cons,Bool.and_eq_true] at h ⊢
      exact ⟨h.1,h.2.1,ih h.2.2⟩
theorem chainOk_take (n : Nat) {c : List It} (h : chainOk c = true) : chainOk (c.take n) = true:=by
  simp only [chainOk,Bool.and_eq_true,decide_eq_true_iff] at h ⊢
  exact ⟨okFrom_take n h.1,by rw [List.length_take];omega⟩
/-- How both begin. -/
def cp : List It → List It → List It
  | x :: xs,y :: ys => if x = y then x :: cp xs ys else []
  | _,_ => []
theorem cp_nil (a : List It) : cp a [] = []:=by cases a <;> rfl
theorem cp_cons_self (x : It) (xs ys : List It) : cp (x :: xs) (x :: ys) = x :: cp xs ys:=by rw [cp,if_pos rfl]
theorem cp_cons_ne {x y : It} (h : x ≠ y) (xs ys : List It) : cp (x :: xs) (y :: ys) = []:=by rw [cp,if_neg h]
theorem cp_self (a : List It) : cp a a = a:=by
  induction a with
  | nil => rfl
  | cons x xs ih => rw [cp_cons_self,ih]
theorem cp_comm (a : List It) : ∀ b,cp a b = cp b a:=by
  induction a with
  | nil => intro b;rw [cp_nil];rfl
  | cons x xs ih =>
    intro b
    cases b with
    | nil => rfl
    | cons y ys =>
      by_cases h : x = y
      · subst h;rw [cp_cons_self,cp_cons_self,ih]
      · rw [cp_cons_ne h,cp_cons_ne (fun e => h e.symm)]
theorem cp_assoc (a : List It) : ∀ b c,cp (cp a b) c = cp a (cp b c):=by
  induction a with
  | nil => intro b c;rfl
  | cons x xs ih =>
    intro b c
    cases b with
    | nil => rfl
    | cons y ys =>
      cases c with
      | nil => rw [cp_nil,cp_nil,cp_nil]
      | cons z zs =>
        by_cases h : x = y
        · subst h
          by_cases h2 : x = z
          · subst h2;rw [cp_cons_self,cp_cons_self,cp_cons_self,cp_cons_self,ih]
          · rw [cp_cons_self,cp_cons_ne h2,cp_cons_ne h2,cp_nil]
        · rw [cp_cons_ne h]
          by_cases h2 : y = z
          · subst h2;rw [cp_cons_self,cp_cons_ne h];rfl
          · rw [cp_cons_ne h2];rfl
theorem cp_prefix (a : List It) : ∀ b,cp a b <+: a:=by
  induction a with
  | nil => intro b;exact List.nil_prefix
  | cons x xs ih =>
    intro b
    cases b with
    | nil => exact List.nil_prefix
    | cons y ys =>
      by_cases h : x = y
      · subst h;rw [cp_cons_self];exact (List.prefix_cons_inj _).2 (ih ys)
      · rw [cp_cons_ne h];exact List.nil_prefix
theorem cp_len (a b : List It) : (cp a b).length ≤ a.length:=(cp_prefix a b).length_le
theorem cp_eq_iff (a : List It) : ∀ b,cp a b = a ↔ a <+: b:=by
  induction a with
  | nil => intro b;exact ⟨fun _ => List.nil_prefix,fun _ => rfl⟩
  | cons x xs ih =>
    intro b
    cases b with
    | nil => exact ⟨fun h => (by cases h),fun h => absurd h.length_le (by simp)⟩
    | cons y ys =>
      by_cases h : x = y
      · subst h;rw [cp_cons_self,List.prefix_cons_inj,← ih ys];simp
      · rw [cp_cons_ne h]
        exact ⟨fun h => (by cases h),fun h2 => absurd (List.cons_prefix_cons.1 h2).1 h⟩
theorem chainOk_cp {a : List It} (b : List It) (h : chainOk a = true) : chainOk (cp a b) = true:=by
  rw [List.prefix_iff_eq_take.1 (cp_prefix a b)]
  exact chainOk_take _ h
/-- Behind it the two differ, or one of them ends. -/
theorem cp_stop (a : List It) : ∀ b,(cp a b).length < a.length → (cp a b).length < b.length → rd_T56 a ((cp a b).length : Int) ≠ rd_T56 b ((cp a b).length : Int):=by
  induction a with
  | nil => intro b h;exact absurd h (Nat.not_lt_zero _)
  | cons x xs ih =>
    intro b
    cases b with
    | nil => intro _ h;exact absurd h (Nat.not_lt_zero _)
    | cons y ys =>
      by_cases h : x = y
      · subst h
        rw [cp_cons_self]
        intro h1 h2
        exact ih ys (Nat.lt_of_succ_lt_succ h1) (Nat.lt_of_succ_lt_succ h2)
      · rw [cp_cons_ne h]
        intro _ _
        exact h
def both (a b : List It) : List It:=if chainOk a = true then (if chainOk b = true then cp a b else []) else []
theorem both_len (a b : List It) : (both a b).length ≤ a.length:=by
  unfold both
  split
  · split
    · exact cp_len a b
    · simp
  · simp
theorem both_of {a b : List It} (ha : chainOk a = true) (hb : chainOk b = true) : both a b = cp a b:=by rw [both,if_pos ha,if_pos hb]
theorem take_snoc {a : List It} {i : Nat} (h : i < a.length) (t : List It) : a.take i ++ rd_T56 a (i : Int) :: t = a.take (i + 1) ++ t:=by
  rw [List.take_add_one,rdIt_get h]
  simp
theorem copied_eq (l : List It) (h : l.length ≤ 1000000000) : impl_copied.f l = some l:=by
  unfold impl_copied.f impl_Item_57.f
  rw [if_pos (by omega)]
theorem l1Copy_eq (l : List It) (h : l.length ≤ 1000000000) : spec_l1Copy.f l = some l:=by
  unfold spec_l1Copy.f
  rw [Option.bind_some,if_pos (by simp;omega)]
  rfl
theorem both_impl (a b : List It) (ha : a.length ≤ 1000000000) (hb : b.length ≤ 1000000000) : Evt (fun k => impl_ChainBoth.f k a b) (fun r => r = both a b):=by
  have key : ∀ (d i : Nat),i + d = a.length → Evt (fun k => impl_ChainBoth.l0 k a b (i : Int)) (fun r => r = a.take i ++ cp (a.drop i) (b.drop i)):=by
    intro d
    induction d with
    | zero =>
      intro i hd
      have stop : a.take i ++ cp (a.drop i) (b.drop i) = a.take i:=by
        rw [List.drop_eq_nil_of_le (show a.length ≤ i by omega)]
        show a.take i ++ [] = _
        rw [List.append_nil]
      refine Evt.step (f:=fun _ => some (a.take i)) (fun k => ?_) (Evt.now _ stop.symm)
      simp only [impl_ChainBoth.l0,Int.toNat_natCast]
      by_cases h : (b.length : Int) < (a.length : Int)
      · rw [if_pos h,if_neg (by omega),if_pos (by omega),if_pos (by omega),copied_eq _ (by rw [List.length_take];omega)]
        rfl
      · rw [if_neg h,if_neg (by omega),if_pos (by omega),if_pos (by omega),copied_eq _ (by rw [List.length_take];omega)]
        rfl
    | succ d ih =>
      intro i hd
      have hi : i < a.length:=by omega
      by_cases hb' : i < b.length
      · rw [drop_it hi,drop_it hb']
        by_cases he : rd_T56 a (i : Int) = rd_T56 b (i : Int)
        · rw [← he,cp_cons_self,take_snoc hi]
          refine Evt.step (f:=fun k => impl_ChainBoth.l0 k a b ((i + 1 : Nat) : Int)) (fun k => ?_) (ih (i + 1) (by omega))
          simp only [impl_ChainBoth.l0]
          by_cases h : (b.length : Int) < (a.length : Int)
          · rw [if_pos h,if_pos (by omega),if_pos (by omega),if_pos (by omega),if_pos (by rw [eq_it];exact he),wrap_succ (by omega)]
          · rw [if_neg h,if_pos (by omega),if_pos (by omega),if_pos (by omega),if_pos (by rw [eq_it];exact he),wrap_succ (by omega)]
        · rw [cp_cons_ne he,List.append_nil]
          refine Evt.step (f:=fun _ => some (a.take i)) (fun k => ?_) (Evt.now _ rfl)
          simp only [impl_ChainBoth.l0,Int.toNat_natCast]
          by_cases h : (b.length : Int) < (a.length : Int)
          · rw [if_pos h,if_pos (by omega),if_pos (by omega),if_pos (by omega),if_neg (by rw [eq_it];exact he),if_pos (by omega),copied_eq _ (by rw [List.length_take];omega)]
            rfl
          · rw [if_neg h,if_pos (by omega),if_pos (by omega),if_pos (by omega),if_neg (by rw [eq_it];exact he),if_pos (by omega),copied_eq _ (by rw [List.length_take];omega)]
            rfl
      · rw [List.drop_eq_nil_of_le (show b.length ≤ i by omega),cp_nil,List.append_nil]
        refine Evt.step (f:=fun _ => some (a.take i)) (fun k => ?_) (Evt.now _ rfl)
        simp only [impl_ChainBoth.l0,Int.toNat_natCast]
        rw [if_pos (by omega),if_neg (by omega),if_pos (by omega),if_pos (by omega),copied_eq _ (by rw [List.length_take];omega)]
        rfl
  simp only [impl_ChainBoth.f]
  have none : Evt (fun k => impl_ChainBoth.j0 k a b true) (fun r => r = []):=Evt.step (f:=fun _ => some []) (fun k => by simp only [impl_ChainBoth.j0,if_true]) (Evt.now _ rfl)
  refine Evt.bind (chainOk_impl a (by omega)) fun s hs => ?_
  subst hs
  unfold both
  cases h1 : chainOk a with
  | false => exact Evt.neg (by decide) none
  | true =>
    refine Evt.pos rfl (Evt.bind (chainOk_impl b (by omega)) fun t ht => ?_)
    subst ht
    cases h2 : chainOk b with
    | false => exact none
    | true =>
      refine Evt.step (f:=fun k => impl_ChainBoth.l0 k a b ((0 : Nat) : Int)) (fun k => by simp only [impl_ChainBoth.j0];rw [if_neg (by decide)];rfl) ?_
      exact key a.length 0 (by omega)
theorem both_spec (a b : List It) (ha : a.length ≤ 1000000000) (hb : b.length ≤ 1000000000) : Evt (fun k => spec_ChainBoth.f k a b) (fun r => r = both a b):=by
  have key : ∀ (d i : Nat),i + d = a.length → Evt (fun k => spec_ChainBoth.l0 k a b (i : Int)) (fun r => r = a.take i ++ cp (a.drop i) (b.drop i)):=by
    intro d
    induction d with
    | zero =>
      intro i hd
      have stop : a.take i ++ cp (a.drop i) (b.drop i) = a.take i:=by
        rw [List.drop_eq_nil_of_le (show a.length ≤ i by omega)]
        show a.take i ++ [] = _
        rw [List.append_nil]
      refine Evt.step (f:=fun _ => some (a.take i)) (fun k => ?_) (Evt.now _ stop.symm)
      simp only [spec_ChainBoth.l0,Int.toNat_natCast]
      rw [if_neg (by omega),if_pos (by omega),if_pos (by omega),l1Copy_eq _ (by rw [List.length_take];omega)]
      rfl
    | succ d ih =>
      intro i hd
      have hi : i < a.length:=by omega
      by_cases hb' : i < b.length
      · rw [drop_it hi,drop_it hb']
        by_cases he : rd_T56 a (i : Int) = rd_T56 b (i : Int)
        · rw [← he,cp_cons_self,take_snoc hi]
          refine Evt.step (f:=fun k => spec_ChainBoth.l0 k a b ((i + 1 : Nat) : Int)) (fun k => ?_) (ih (i + 1) (by omega))
          simp only [spec_ChainBoth.l0]
          rw [if_pos (by omega),if_pos (by omega),if_pos (by omega),if_pos (by rw [eq_it];exact he),wrap_succ (by omega)]
        · rw [cp_cons_ne he,List.append_nil]
          refine Evt.step (f:=fun _ => some (a.take i)) (fun k => ?_) (Evt.now _ rfl)
          simp only [spec_ChainBoth.l0,Int.toNat_natCast]
          rw [if_pos (by omega),if_pos (by omega),if_pos (by omega),if_neg (by rw [eq_it];exact he),if_pos (by omega),l1Copy_eq _ (by rw [List.length_take];omega)]
          rfl
      · rw [List.drop_eq_nil_of_le (show b.length ≤ i by omega),cp_nil,List.append_nil]
        refine Evt.step (f:=fun _ => some (a.take i)) (fun k => ?_) (Evt.now _ rfl)
        simp only [spec_ChainBoth.l0,Int.toNat_natCast]
        rw [if_pos (by omega),if_neg (by omega),if_pos (by omega),if_pos (by omega),l1Copy_eq _ (by rw [List.length_take];omega)]
        rfl
  simp only [spec_ChainBoth.f]
  have none : Evt (fun k => spec_ChainBoth.j0 k a b 0 true) (fun r => r = []):=Evt.step (f:=fun _ => some []) (fun k => by simp only [spec_ChainBoth.j0,if_true]) (Evt.now _ rfl)
  refine Evt.bind (chainOk_spec a (by omega)) fun s hs => ?_
  subst hs
  unfold both
  cases h1 : chainOk a with
  | false => exact Evt.neg (by decide) none
  | true =>
    refine Evt.pos rfl (Evt.bind (chainOk_spec b (by omega)) fun t ht => ?_)
    subst ht
    cases h2 : chainOk b with
    | false => exact none
    | true =>
      refine Evt.step (f:=fun k => spec_ChainBoth.l0 k a b ((0 : Nat) : Int)) (fun k => by simp only [spec_ChainBoth.j0];rw [if_neg (by decide)];rfl) ?_
      exact key a.length 0 (by omega)
abbrev LIt:=S61
def toIt (x : LIt) : It:=⟨x.f0,⟨x.f1.f0,x.f1.f1,x.f1.f2⟩⟩
theorem rdLIt_get {l : List LIt} {i : Nat} {x : LIt} (h : l[i]? = some x) : rd_T61 l (i : Int) = x:=by
  show l.getD ((i : Int)).toNat _ = x
  rw [Int.toNat_natCast,List.getD_eq_getElem?_getD,h]
  rfl
theorem toItem_eq (a b c d : Int) : laws_toItem.f a b c d = some (a,b,c,d):=rfl
theorem toItemS_ends (l : List LIt) (hl : l.length ≤ 1048576) : Evt (fun k => laws_toItemS.f k l) (fun r => r = l.map toIt):=by
  have h:=copy_loop toIt l (fun k xs i => laws_toItemS.l0 k l xs (i : Int)) (fun k xs => by simp only [laws_toItemS.l0];rw [if_neg (by omega)])
    (fun i x hx k xs hxs => by
      have hil : i < l.length:=(List.getElem?_eq_some_iff.1 hx).1
      simp only [laws_toItemS.l0,toItem_eq,Option.bind_some]
      rw [if_pos (by omega),if_pos (by omega),if_pos (by omega),wrap_succ (by omega),Int.toNat_natCast,rdLIt_get hx]
      rfl) (List.replicate l.length z56) (by simp)
  exact Evt.congr (fun k => by unfold laws_toItemS.f;rw [if_pos (by omega),if_pos (by omega),Int.toNat_natCast];rfl) h
theorem eqItem_eq (x y : It) : laws_eqItem.f x.f0 x.f1.f0 x.f1.f1 x.f1.f2 y.f0 y.f1.f0 y.f1.f1 y.f1.f2 = some (decide (x = y)):=by
  obtain ⟨a,b,c,d⟩:=x
  obtain ⟨a',b',c',d'⟩:=y
  unfold laws_eqItem.f laws_eqPay.f
  simp only
  by_cases h1 : a = a' <;> by_cases h2 : b = b' <;> by_cases h3 : c = c' <;> by_cases h4 : d = d' <;> simp [h1,h2,h3,h4]
theorem eqItemS_ends (a b : List It) (hl : a.length ≤ 4611686018427387900) : Evt (fun k => laws_eqItemS.f k a b) (fun r => r = decide (a = b)):=by
  by_cases h : (a.length : Int) = (b.length : Int)
  · have hn : a.length = b.length:=by omega
    have hc:=cmp_loop a b a.length (fun k i => laws_eqItemS.l0 k a b (i : Int)) (fun k => by simp only [laws_eqItemS.l0];rw [if_neg (by omega)])
      (fun i hi he k => by
        rw [rdIt_get (l:=a) hi,rdIt_get (l:=b) (by omega)] at he
        have he':=Option.some.inj he
        simp only [laws_eqItemS.l0]
        rw [if_pos (by omega),if_pos (by omega),if_pos (by omega),eqItem_eq,Option.bind_some,if_pos (by simp [he']),wrap_succ (by omega)])
      (fun i hi he k => by
        rw [rdIt_get (l:=a) hi,rdIt_get (l:=b) (by omega)] at he
        have he' : ¬ rd_T56 a (i : Int) = rd_T56 b (i : Int):=fun e => he (by rw [e])
        simp only [laws_eqItemS.l0]
        rw [if_pos (by omega),if_pos (by omega),if_pos (by omega),eqItem_eq,Option.bind_some,if_neg (by simpa using he')])
    refine (Evt.congr (fun k => by unfold laws_eqItemS.f;rw [if_pos h];rfl) hc).mono fun r hr => decide_of ?_
    rw [hr,List.take_of_length_le (Nat.le_refl _),List.take_of_length_le (by omega)]
  · refine Evt.congr (fun k => by unfold laws_eqItemS.f;rw [if_neg h]) (Evt.now _ ?_)
    have : a ≠ b:=by
      rintro rfl
      exact h rfl
    simp [this]
theorem szItemS_eq (l : List LIt) (n : Int) (h0 : 0 ≤ n) (h1 : n ≤ 1048576) (hl : l.length ≤ 9223372036854775807) : laws_szItemS.f l n = some (if n - (l.length : Int) < 0 then -1 else n - (l.length : Int)):=by
  unfold laws_szItemS.f
  have e : wrap64 (n - (l.length : Int)) = n - (l.length : Int):=by unfold wrap64;omega
  rw [e]
  split <;> rfl
def mk4 (a : Int) : It:=⟨a,⟨a + 1,a + 2,a + 3⟩⟩
/-- Items of numbers from a on. -/
def upsI (a : Int) : Nat → List It
  | 0 => []
  | n + 1 => mk4 a :: upsI (a + 4) n
theorem upsI_length (n : Nat) : ∀ a,(upsI a n).length = n:=by
  induction n with
  | zero => intro a;rfl
  | succ n ih => intro a;rw [upsI,List.length_cons,ih]
theorem upsI_get (n : Nat) : ∀ (a : Int) (i : Nat),i < n → (upsI a n)[i]? = some (mk4 (a + 4 * (i : Int))):=by
  induction n with
  | zero => intro a i h;omega
  | succ n ih =>
    intro a i h
    cases i with
    | zero => rw [upsI];simp
    | succ i =>
      rw [upsI,List.getElem?_cons_succ,ih (a + 4) i (by omega)]
      congr 2
      omega
theorem upsI_rd {a : Int} {n i : Nat} (h : i < n) : rd_T56 (upsI a n) (i : Int) = mk4 (a + 4 * (i : Int)):=by
  have h1:=upsI_get n a i h
  have h2:=rdIt_get (l:=upsI a n) (i:=i) (by rw [upsI_length];exact h)
  rw [h1] at h2
  exact (Option.some.inj h2).symm
theorem rdIt_set {l : List It} {i : Nat} (x : It) (h : i < l.length) : rd_T56 (l.set i x) (i : Int) = x:=by
  have h2:=rdIt_get (l:=l.set i x) (i:=i) (by rw [List.length_set];exact h)
  rw [List.getElem?_set_self h] at h2
  exact (Option.some.inj h2).symm
theorem markItemS_ends (l : List It) (a : Int) (h0 : 0 ≤ a) (h1 : a ≤ 1000000000) (hl : l.length ≤ 1048576) : Evt (fun k => laws_markItemS.f k l a) (fun r => r = (a + 4 * (l.length : Int),upsI a l.length)):=by
  have key : ∀ (d i : Nat) (x : List It),i + d = l.length → x.length = l.length → x.take i = (upsI a l.length).take i → Evt (fun k => laws_markItemS.l0 k x (a + 4 * (i : Int)) (i : Int)) (fun r => r = (a + 4 * (l.length : Int),upsI a l.length)):=by
    intro d
    induction d with
    | zero =>
      intro i x hd hx ht
      have e : i = l.length:=by omega
      subst e
      refine Evt.step (f:=fun _ => some (a + 4 * (l.length : Int),x)) (fun k => by simp only [laws_markItemS.l0];rw [if_neg (by omega)]) (Evt.now _ ?_)
      rw [List.take_of_length_le (by omega),List.take_of_length_le (by rw [upsI_length];omega)] at ht
      rw [ht]
    | succ d ih =>
      intro i x hd hx ht
      have hi : i < x.length:=by omega
      have w1 : wrap64 (a + 4 * (i : Int) + 1) = a + 4 * (i : Int) + 1:=wrap64_small (by omega) (by omega)
      have w2 : wrap64 (a + 4 * (i : Int) + 1 + 1) = a + 4 * (i : Int) + 2:=by rw [wrap64_small (by omega) (by omega)];omega
      have w3 : wrap64 (a + 4 * (i : Int) + 2 + 1) = a + 4 * (i : Int) + 3:=by rw [wrap64_small (by omega) (by omega)];omega
      have w4 : wrap64 (a + 4 * (i : Int) + 3 + 1) = a + 4 * ((i + 1 : Nat) : Int):=by rw [wrap64_small (by omega) (by omega)];omega
      refine Evt.step (fun k => by simp only [laws_markItemS.l0,w1,w2,w3,w4,Int.toNat_natCast];rw [if_pos (by omega),if_pos (by omega),wrap_succ (by omega)]) ?_
      refine Evt.bind (P:=fun r => r = x.set i _) (Evt.now _ rfl) fun y1 hy1 => ?_
      refine Evt.bind (P:=fun r => r = y1.set i _) (Evt.now _ rfl) fun y2 hy2 => ?_
      refine Evt.bind (P:=fun r => r = y2.set i _) (Evt.now _ rfl) fun y3 hy3 => ?_
      have e1:=rdIt_set (l:=x) _ hi ▸ congrArg (fun z => rd_T56 z (i : Int)) hy1
      try simp only at e1
      rw [e1,hy1,List.set_set] at hy2
      have e2:=rdIt_set (l:=x) _ hi ▸ congrArg (fun z => rd_T56 z (i : Int)) hy2
      try simp only at e2
      rw [e2,hy2,List.set_set] at hy3
      have e3:=rdIt_set (l:=x) _ hi ▸ congrArg (fun z => rd_T56 z (i : Int)) hy3
      try simp only at e3
      rw [e3,hy3,List.set_set]
      exact ih (i + 1) _ (by omega) (by rw [List.length_set];exact hx) (take_set_succ (by rw [upsI_length,hx]) (by rw [upsI_length];omega) ht (upsI_get _ _ _ (by omega)))
  simp only [laws_markItemS.f]
  have:=key l.length 0 l (by omega) rfl (by simp)
  simpa using this
theorem heldItemS_ends (n : Nat) (a : Int) (h0 : 0 ≤ a) (h1 : a ≤ 1000000000) (hl : n ≤ 1048576) : Evt (fun k => laws_heldItemS.f k (upsI a n) a) (fun r => r = a + 4 * (n : Int)):=by
  have hn:=upsI_length n a
  have key : ∀ (d i : Nat),i + d = n → Evt (fun k => laws_heldItemS.l0 k (upsI a n) (a + 4 * (i : Int)) (i : Int)) (fun r => r = a + 4 * (n : Int)):=by
    intro d
    induction d with
    | zero =>
      intro i hd
      have e : i = n:=by omega
      subst e
      exact Evt.step (f:=fun _ => some (a + 4 * (i : Int))) (fun k => by simp only [laws_heldItemS.l0];rw [if_neg (by omega)]) (Evt.now _ rfl)
    | succ d ih =>
      intro i hd
      have w1 : wrap64 (a + 4 * (i : Int) + 1) = a + 4 * (i : Int) + 1:=wrap64_small (by omega) (by omega)
      have w2 : wrap64 (a + 4 * (i : Int) + 1 + 1) = a + 4 * (i : Int) + 2:=by rw [wrap64_small (by omega) (by omega)];omega
      have w3 : wrap64 (a + 4 * (i : Int) + 2 + 1) = a + 4 * (i : Int) + 3:=by rw [wrap64_small (by omega) (by omega)];omega
      have w4 : wrap64 (a + 4 * (i : Int) + 3 + 1) = a + 4 * ((i + 1 : Nat) : Int):=by rw [wrap64_small (by omega) (by omega)];omega
      have er:=upsI_rd (a:=a) (n:=n) (i:=i) (by omega)
      have w5 : wrap64 ((i : Int) + 1) = ((i + 1 : Nat) : Int):=wrap_succ (by omega)
      refine Evt.step (fun k => by simp only [laws_heldItemS.l0,w1,w2,w3,w4,w5,er,mk4,if_true];rw [if_pos (by omega),if_pos (by omega)]) ?_
      exact ih (i + 1) (by omega)
  simp only [laws_heldItemS.f]
  have:=key n 0 (by omega)
  simpa using this

end Go.Proofs.Ytkkfokcbbhnjeaa.Pure
