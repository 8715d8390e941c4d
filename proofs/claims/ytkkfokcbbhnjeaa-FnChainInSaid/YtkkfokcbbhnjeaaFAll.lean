/- Plain facts on what the printed functions compute (within payok chain equal prefix chainin l1in chaininspec chaintake lwsame pick pay draws two drawchainin). Conditions: each theorem's own. -/
import Derived.Test.YtkkfokcbbhnjeaaPx0
import Derived.Test.YtkkfokcbbhnjeaaPx2
import Derived.Test.YtkkfokcbbhnjeaaPx3
import Derived.Test.YtkkfokcbbhnjeaaPx4
import Derived.Test.YtkkfokcbbhnjeaaPx5
import Derived.Test.YtkkfokcbbhnjeaaPx6
import Derived.Test.YtkkfokcbbhnjeaaPx7
import Derived.Test.YtkkfokcbbhnjeaaPx8
import Derived.Test.YtkkfokcbbhnjeaaPlain
namespace Go.Proofs.Ytkkfokcbbhnjeaa.Pure
open Go.RowKit Go.Proofs.Ytkkfokcbbhnjeaa.P Go.Proofs.YtkkfokcbbhnjeaaW.PrintWords Go.Proofs.YtkkfokcbbhnjeaaW.PrintLast Go.Proofs.YtkkfokcbbhnjeaaW.PrintMore Go.Proofs.YtkkfokcbbhnjeaaE
set_option linter.unusedVariables false
set_option linter.unusedSimpArgs false

theorem within_eq (n lo hi : Int) : impl_within.f n lo hi = some (decide (lo ≤ n ∧ n ≤ hi)):=by
  unfold impl_within.f
  by_cases h : n ≥ lo
  · rw [if_pos h]
    by_cases h2 : n ≤ hi
    · simp [h2,show lo ≤ n from h]
    · simp [h2]
  · rw [if_neg h]
    simp [show ¬ lo ≤ n from h]
theorem l6In_eq (n lo hi : Int) : spec_l6In.f n lo hi = some (decide (lo ≤ n ∧ n ≤ hi)):=by
  unfold spec_l6In.f
  by_cases h : n ≥ lo
  · rw [if_pos h]
    by_cases h2 : n ≤ hi
    · simp [h2,show lo ≤ n from h]
    · simp [h2]
  · rw [if_neg h]
    simp [show ¬ lo ≤ n from h]
def payOk (a b c : Int) : Bool:=decide ((1 ≤ a ∧ a ≤ 3) ∧ (1 ≤ b ∧ b ≤ 3) ∧ a ≠ b ∧ (1 ≤ c ∧ c ≤ 9))
theorem payOk_impl (a b c : Int) : impl_PayOk.f a b c = some (payOk a b c):=by
  unfold impl_PayOk.f payOk
  simp only [within_eq,Option.bind_some]
  by_cases h1 : 1 ≤ a ∧ a ≤ 3
  · by_cases h2 : 1 ≤ b ∧ b ≤ 3
    · by_cases h3 : a = b
      · simp [h1,h2,h3]
      · simp [h1,h2,h3]
    · simp [h1,h2]
  · simp [h1]
theorem payOk_spec (a b c : Int) : spec_PayOk.f a b c = some (payOk a b c):=by
  unfold spec_PayOk.f payOk
  simp only [l6In_eq,Option.bind_some]
  by_cases h1 : 1 ≤ a ∧ a ≤ 3
  · by_cases h2 : 1 ≤ b ∧ b ≤ 3
    · by_cases h3 : a = b
      · simp [h1,h2,h3]
      · simp [h1,h2,h3]
    · simp [h1,h2]
  · simp [h1]
abbrev It:=S56
instance : DecidableEq S44:=fun ⟨a,b,c⟩ ⟨a',b',c'⟩ => decidable_of_iff (a = a' ∧ b = b' ∧ c = c') (by simp)
instance : DecidableEq It:=fun ⟨a,b⟩ ⟨a',b'⟩ => decidable_of_iff (a = a' ∧ b = b') (by simp)
theorem rdIt_get {l : List It} {i : Nat} (h : i < l.length) : l[i]? = some (rd_T56 l (i : Int)):=by
  show _ = some (l.getD ((i : Int)).toNat _)
  rw [Int.toNat_natCast,List.getD_eq_getElem?_getD,List.getElem?_eq_getElem h]
  rfl
theorem drop_it {l : List It} {i : Nat} (h : i < l.length) : l.drop i = rd_T56 l (i : Int) :: l.drop (i + 1):=by
  have e:=rdIt_get h
  rw [List.getElem?_eq_getElem h] at e
  rw [List.drop_eq_getElem_cons h,Option.some.inj e]
theorem neq_it (x y : It) : ((!(x.f0 == y.f0) || ((!(x.f1.f0 == y.f1.f0) || (!(x.f1.f1 == y.f1.f1) || (!(x.f1.f2 == y.f1.f2)))))) = true) ↔ x ≠ y:=by
  obtain ⟨a,b,c,d⟩:=x
  obtain ⟨a',b',c',d'⟩:=y
  simp
  omega
theorem eq_it (x y : It) : ((x.f0 == y.f0) && ((x.f1.f0 == y.f1.f0) && ((x.f1.f1 == y.f1.f1) && (x.f1.f2 == y.f1.f2)))) = true ↔ x = y:=by
  obtain ⟨a,b,c,d⟩:=x
  obtain ⟨a',b',c',d'⟩:=y
  simp
def itemOk (x : It) : Bool:=decide (1 ≤ x.f0 ∧ x.f0 ≤ 30) && payOk x.f1.f0 x.f1.f1 x.f1.f2
/-- Items go on behind epoch e. -/
def okFrom : Int → List It → Bool
  | _,[] => true
  | e,x :: xs => itemOk x && (decide (e < x.f0) && okFrom x.f0 xs)
def chainOk (c : List It) : Bool:=okFrom 0 c && decide (c.length ≤ 16)
def prevE (l : List It) (i : Nat) : Int:=if i = 0 then 0 else (rd_T56 l ((i - 1 : Nat) : Int)).f0
theorem prevE_succ (l : List It) (i : Nat) : prevE l (i + 1) = (rd_T56 l (i : Int)).f0:=by simp [prevE]
theorem epochOk_eq (e : Int) : impl_epochOk.f e = some (decide (1 ≤ e ∧ e ≤ 30)):=by
  unfold impl_epochOk.f
  simp [within_eq]
theorem chainOk_impl (l : List It) (hl : l.length ≤ 4611686018427387900) : Evt (fun k => impl_ChainOk.f k l) (fun r => r = chainOk l):=by
  have key : ∀ (d i : Nat),i + d = l.length → Evt (fun k => impl_ChainOk.l0 k l l (l.length : Int) (i : Int)) (fun r => r = (okFrom (prevE l i) (l.drop i) && decide (l.length ≤ 16))):=by
    intro d
    induction d with
    | zero =>
      intro i hd
      rw [List.drop_eq_nil_of_le (by omega)]
      refine Evt.step (f:=fun _ => some (decide ((l.length : Int) ≤ 16))) (fun k => by simp only [impl_ChainOk.l0];rw [if_neg (by omega)]) (Evt.now _ ?_)
      by_cases h : l.length ≤ 16
      · simp [okFrom,h,show (l.length : Int) ≤ 16 by omega]
      · simp [okFrom,h,show ¬ (l.length : Int) ≤ 16 by omega]
    | succ d ih =>
      intro i hd
      have ihs:=ih (i + 1) (by omega)
      rw [prevE_succ] at ihs
      rw [drop_it (l:=l) (i:=i) (by omega)]
      by_cases he : 1 ≤ (rd_T56 l (i : Int)).f0 ∧ (rd_T56 l (i : Int)).f0 ≤ 30
      · cases hp : payOk (rd_T56 l (i : Int)).f1.f0 (rd_T56 l (i : Int)).f1.f1 (rd_T56 l (i : Int)).f1.f2 with
        | false =>
          refine Evt.step (f:=fun _ => some false) (fun k => by
            simp only [impl_ChainOk.l0,epochOk_eq,payOk_impl,Option.bind_some]
            rw [if_pos (by omega),if_pos (by omega),if_pos (by omega),if_pos (by simpa using he),hp,if_neg (by decide)]) (Evt.now _ ?_)
          simp [okFrom,itemOk,hp]
        | true =>
          by_cases hi : i = 0
          · subst hi
            refine Evt.step (f:=fun k => impl_ChainOk.l0 k l l (l.length : Int) ((0 + 1 : Nat) : Int)) (fun k => by
              simp only [impl_ChainOk.l0,epochOk_eq,payOk_impl,Option.bind_some]
              rw [if_pos (by omega),if_pos (by omega),if_pos (by omega),if_pos (by simpa using he),hp,if_pos rfl,if_neg (by omega),wrap_succ (by omega)]) ?_
            refine ihs.mono fun r hr => ?_
            rw [hr]
            have h0 : (0 : Int) < (rd_T56 l ((0 : Nat) : Int)).f0:=by omega
            simp only [okFrom,itemOk,prevE,hp,he,h0,decide_true,and_self,if_true,Bool.true_and,Bool.and_true]
          · have hw : wrap64 ((i : Int) - 1) = ((i - 1 : Nat) : Int):=by unfold wrap64;omega
            by_cases hlt : (rd_T56 l ((i - 1 : Nat) : Int)).f0 < (rd_T56 l (i : Int)).f0
            · refine Evt.step (f:=fun k => impl_ChainOk.l0 k l l (l.length : Int) ((i + 1 : Nat) : Int)) (fun k => by
                simp only [impl_ChainOk.l0,epochOk_eq,payOk_impl,Option.bind_some]
                rw [if_pos (by omega),if_pos (by omega),if_pos (by omega),if_pos (by simpa using he),hp,if_pos rfl,if_pos (by omega),hw,if_pos (by omega),if_pos (by omega),if_neg (by omega),wrap_succ (by omega)]) ?_
              refine ihs.mono fun r hr => ?_
              rw [hr]
              simp [okFrom,itemOk,prevE,hp,he,hi,hlt]
            · refine Evt.step (f:=fun _ => some false) (fun k => by
                simp only [impl_ChainOk.l0,epochOk_eq,payOk_impl,Option.bind_some]
                rw [if_pos (by omega),if_pos (by omega),if_pos (by omega),if_pos (by simpa using he),hp,if_pos rfl,if_pos (by omega),hw,if_pos (by omega),if_pos (by omega),if_pos (by omega)]) (Evt.now _ ?_)
              simp [okFrom,itemOk,prevE,hi,hlt]
      · refine Evt.step (f:=fun _ => some false) (fun k => by
          simp only [impl_ChainOk.l0,epochOk_eq,Option.bind_some]
          rw [if_pos (by omega),if_pos (by omega),if_pos (by omega),if_neg (by simpa using he)]) (Evt.now _ ?_)
        simp [okFrom,itemOk,he]
  refine (Evt.congr (fun k => by unfold impl_ChainOk.f;rfl) (key l.length 0 (by omega))).mono fun r hr => ?_
  simpa [chainOk,prevE] using hr
theorem chainOk_spec (l : List It) (hl : l.length ≤ 4611686018427387900) : Evt (fun k => spec_ChainOk.f k l) (fun r => r = chainOk l):=by
  have key : ∀ (d i : Nat),i + d = l.length → Evt (fun k => spec_ChainOk.l0 k l (i : Int)) (fun r => r = (okFrom (prevE l i) (l.drop i) && decide (l.length ≤ 16))):=by
    intro d
    induction d with
    | zero =>
      intro i hd
      rw [List.drop_eq_nil_of_le (by omega)]
      refine Evt.step (f:=fun _ => some (decide ((l.length : Int) ≤ 16))) (fun k => by simp only [spec_ChainOk.l0];rw [if_neg (by omega)]) (Evt.now _ ?_)
      by_cases h : l.length ≤ 16
      · simp [okFrom,h,show (l.length : Int) ≤ 16 by omega]
      · simp [okFrom,h,show ¬ (l.length : Int) ≤ 16 by omega]
    | succ d ih =>
      intro i hd
      have ihs:=ih (i + 1) (by omega)
      rw [prevE_succ] at ihs
      rw [drop_it (l:=l) (i:=i) (by omega)]
      by_cases he : 1 ≤ (rd_T56 l (i : Int)).f0 ∧ (rd_T56 l (i : Int)).f0 ≤ 30
      · cases hp : payOk (rd_T56 l (i : Int)).f1.f0 (rd_T56 l (i : Int)).f1.f1 (rd_T56 l (i : Int)).f1.f2 with
        | false =>
          refine Evt.step (f:=fun _ => some false) (fun k => by
            simp only [spec_ChainOk.l0,l6In_eq,payOk_spec,Option.bind_some]
            rw [if_pos (by omega),if_pos (by omega),if_pos (by simpa using he),hp,if_neg (by decide)]) (Evt.now _ ?_)
          simp [okFrom,itemOk,hp]
        | true =>
          by_cases hi : i = 0
          · subst hi
            refine Evt.step (f:=fun k => spec_ChainOk.l0 k l ((0 + 1 : Nat) : Int)) (fun k => by
              simp only [spec_ChainOk.l0,l6In_eq,payOk_spec,Option.bind_some]
              rw [if_pos (by omega),if_pos (by omega),if_pos (by simpa using he),hp,if_pos rfl,if_neg (by omega),wrap_succ (by omega)]) ?_
            refine ihs.mono fun r hr => ?_
            rw [hr]
            have h0 : (0 : Int) < (rd_T56 l ((0 : Nat) : Int)).f0:=by omega
            simp only [okFrom,itemOk,prevE,hp,he,h0,decide_true,and_self,if_true,Bool.true_and,Bool.and_true]
          · have hw : wrap64 ((i : Int) - 1) = ((i - 1 : Nat) : Int):=by unfold wrap64;omega
            by_cases hlt : (rd_T56 l ((i - 1 : Nat) : Int)).f0 < (rd_T56 l (i : Int)).f0
            · refine Evt.step (f:=fun k => spec_ChainOk.l0 k l ((i + 1 : Nat) : Int)) (fun k => by
                simp only [spec_ChainOk.l0,l6In_eq,payOk_spec,Option.bind_some]
                rw [if_pos (by omega),if_pos (by omega),if_pos (by simpa using he),hp,if_pos rfl,if_pos (by omega),hw,if_pos (by omega),if_pos (by omega),if_neg (by omega),wrap_succ (by omega)]) ?_
              refine ihs.mono fun r hr => ?_
              rw [hr]
              simp [okFrom,itemOk,prevE,hp,he,hi,hlt]
            · refine Evt.step (f:=fun _ => some false) (fun k => by
                simp only [spec_ChainOk.l0,l6In_eq,payOk_spec,Option.bind_some]
                rw [if_pos (by omega),if_pos (by omega),if_pos (by simpa using he),hp,if_pos rfl,if_pos (by omega),hw,if_pos (by omega),if_pos (by omega),if_pos (by omega)]) (Evt.now _ ?_)
              simp [okFrom,itemOk,prevE,hi,hlt]
      · refine Evt.step (f:=fun _ => some false) (fun k => by
          simp only [spec_ChainOk.l0,l6In_eq,Option.bind_some]
          rw [if_pos (by omega),if_pos (by omega),if_neg (by simpa using he)]) (Evt.now _ ?_)
        simp [okFrom,itemOk,he]
  refine (Evt.congr (fun k => by unfold spec_ChainOk.f;rfl) (key l.length 0 (by omega))).mono fun r hr => ?_
  simpa [chainOk,prevE] using hr
theorem equal_ends (a b : List It) (hl : a.length ≤ 4611686018427387900) : Evt (fun k => impl_Item_55.f k a b) (fun r => r = decide (a = b)):=by
  by_cases h : (a.length : Int) = (b.length : Int)
  · have hn : a.length = b.length:=by omega
    have hc:=cmp_loop a b a.length (fun k i => impl_Item_55.l0 k a b (a.length : Int) (i : Int)) (fun k => by simp only [impl_Item_55.l0];rw [if_neg (by omega)])
      (fun i hi he k => by
        rw [rdIt_get (l:=a) hi,rdIt_get (l:=b) (by omega)] at he
        have he':=Option.some.inj he
        simp only [impl_Item_55.l0]
        rw [if_pos (by omega),if_pos (by omega),if_pos (by omega),if_pos (by omega),if_neg (by rw [neq_it];exact fun h2 => h2 he'),wrap_succ (by omega)])
      (fun i hi he k => by
        rw [rdIt_get (l:=a) hi,rdIt_get (l:=b) (by omega)] at he
        have he' : ¬ rd_T56 a (i : Int) = rd_T56 b (i : Int):=fun e => he (by rw [e])
        simp only [impl_Item_55.l0]
        rw [if_pos (by omega),if_pos (by omega),if_pos (by omega),if_pos (by omega),if_pos (by rw [neq_it];exact he')])
    refine (Evt.congr (fun k => by unfold impl_Item_55.f;rw [if_pos h];rfl) hc).mono fun r hr => decide_of ?_
    rw [hr,List.take_of_length_le (Nat.le_refl _),List.take_of_length_le (by omega)]
  · refine Evt.congr (fun k => by unfold impl_Item_55.f;rw [if_neg h]) (Evt.now _ ?_)
    have : a ≠ b:=by
      rintro rfl
      exact h rfl
    simp [this]
theorem pre_iff (a b : List It) : a <+: b ↔ a.length ≤ b.length ∧ a.take a.length = b.take a.length:=by
  rw [List.take_of_length_le (Nat.le_refl _)]
  constructor
  · intro h
    exact ⟨h.length_le,List.prefix_iff_eq_take.1 h⟩
  · rintro ⟨_,h⟩
    exact List.prefix_iff_eq_take.2 h
/-- a and b are chains, and a begins b. -/
def inn (a b : List It) : Bool:=chainOk a && (chainOk b && decide (a <+: b))
theorem begins_ends (a b : List It) (hl : a.length ≤ 4611686018427387900) : Evt (fun k => impl_begins.f k a b) (fun r => r = decide (a <+: b)):=by
  by_cases h : (a.length : Int) ≤ (b.length : Int)
  · refine Evt.congr (f:=fun k => (impl_Item_55.f k a (b.take a.length)).bind fun t => some t) (fun k => by unfold impl_begins.f;rw [if_pos h,if_pos (by omega),Int.toNat_natCast]) ?_
    refine Evt.bind (equal_ends a (b.take a.length) hl) fun t ht => Evt.now _ ?_
    rw [ht]
    apply decide_of
    rw [decide_eq_true_iff,pre_iff,List.take_of_length_le (Nat.le_refl _)]
    exact ⟨fun h2 => ⟨by omega,h2⟩,fun h2 => h2.2⟩
  · refine Evt.congr (fun k => by unfold impl_begins.f;rw [if_neg h]) (Evt.now _ ?_)
    apply decide_of
    rw [pre_iff]
    exact ⟨fun h2 => (by cases h2),fun h2 => absurd h2.1 (by omega)⟩
theorem chainIn_impl (a b : List It) (ha : a.length ≤ 4611686018427387900) (hb : b.length ≤ 4611686018427387900) : Evt (fun k => impl_ChainIn.f k a b) (fun r => r = inn a b):=by
  simp only [impl_ChainIn.f]
  refine Evt.bind (chainOk_impl a ha) fun t ht => ?_
  rw [ht]
  cases h1 : chainOk a with
  | false => exact Evt.neg (by decide) (Evt.now _ (by simp [inn,h1]))
  | true =>
    refine Evt.pos rfl (Evt.bind (chainOk_impl b hb) fun t ht => ?_)
    rw [ht]
    cases h2 : chainOk b with
    | false => exact Evt.neg (by decide) (Evt.now _ (by simp [inn,h2]))
    | true => exact Evt.pos rfl (Evt.bind (begins_ends a b ha) fun t ht => Evt.now _ (by rw [ht];simp [inn,h1,h2]))
theorem l1In_ends (a b : List It) (hl : a.length ≤ 4611686018427387900) : Evt (fun k => spec_l1In.f k a b) (fun r => r = decide (a <+: b)):=by
  by_cases h : (a.length : Int) > (b.length : Int)
  · refine Evt.congr (fun k => by unfold spec_l1In.f;rw [if_pos h]) (Evt.now _ ?_)
    apply decide_of
    rw [pre_iff]
    exact ⟨fun h2 => (by cases h2),fun h2 => absurd h2.1 (by omega)⟩
  · have hc:=cmp_loop a b a.length (fun k i => spec_l1In.l0 k a b (i : Int)) (fun k => by simp only [spec_l1In.l0];rw [if_neg (by omega)])
      (fun i hi he k => by
        rw [rdIt_get (l:=a) hi,rdIt_get (l:=b) (by omega)] at he
        have he':=Option.some.inj he
        simp only [spec_l1In.l0]
        rw [if_pos (by omega),if_pos (by omega),if_pos (by omega),if_neg (by rw [neq_it];exact fun h2 => h2 he'),wrap_succ (by omega)])
      (fun i hi he k => by
        rw [rdIt_get (l:=a) hi,rdIt_get (l:=b) (by omega)] at he
        have he' : ¬ rd_T56 a (i : Int) = rd_T56 b (i : Int):=fun e => he (by rw [e])
        simp only [spec_l1In.l0]
        rw [if_pos (by omega),if_pos (by omega),if_pos (by omega),if_pos (by rw [neq_it];exact he')])
    refine (Evt.congr (fun k => by unfold spec_l1In.f;rw [if_neg h];rfl) hc).mono fun r hr => decide_of ?_
    rw [hr,pre_iff]
    exact ⟨fun h2 => ⟨by omega,h2⟩,fun h2 => h2.2⟩
theorem chainIn_spec (a b : List It) (ha : a.length ≤ 4611686018427387900) (hb : b.length ≤ 4611686018427387900) : Evt (fun k => spec_ChainIn.f k a b) (fun r => r = inn a b):=by
  simp only [spec_ChainIn.f]
  refine Evt.bind (chainOk_spec a ha) fun t ht => ?_
  rw [ht]
  cases h1 : chainOk a with
  | false => exact Evt.neg (by decide) (Evt.now _ (by simp [inn,h1]))
  | true =>
    refine Evt.pos rfl (Evt.bind (chainOk_spec b hb) fun t ht => ?_)
    rw [ht]
    cases h2 : chainOk b with
    | false => exact Evt.neg (by decide) (Evt.now _ (by simp [inn,h2]))
    | true => exact Evt.pos rfl (Evt.bind (l1In_ends a b ha) fun t ht => Evt.now _ (by rw [ht];simp [inn,h1,h2]))
theorem okFrom_take (n : Nat) {c : List It} : ∀ {e : Int},okFrom e c = true → okFrom e (c.take n) = true:=by
  induction n generalizing c with
  | zero => intro e _;rfl
  | succ n ih =>
    intro e h
    cases c with
    | nil => rfl
    | cons x xs =>
      simp only [okFrom,List.take_succ_cons,Bool.and_eq_true] at h ⊢
      exact ⟨h.1,h.2.1,ih h.2.2⟩
theorem chainOk_take (n : Nat) {c : List It} (h : chainOk c = true) : chainOk (c.take n) = true:=by
  simp only [chainOk,Bool.and_eq_true,decide_eq_true_iff] at h ⊢
  exact ⟨okFrom_take n h.1,by rw [List.length_take];omega⟩
theorem lwSame_ends (a b : List It) (hl : a.length ≤ 4611686018427387900) : Evt (fun k => laws_lwSame.f k a b) (fun r => r = decide (a = b)):=by
  by_cases h : (a.length : Int) = (b.length : Int)
  · have hn : a.length = b.length:=by omega
    have hc:=cmp_loop a b a.length (fun k i => laws_lwSame.l0 k a b (i : Int)) (fun k => by simp only [laws_lwSame.l0];rw [if_neg (by omega)])
      (fun i hi he k => by
        rw [rdIt_get (l:=a) hi,rdIt_get (l:=b) (by omega)] at he
        have he':=Option.some.inj he
        simp only [laws_lwSame.l0]
        rw [if_pos (by omega),if_pos (by omega),if_pos (by omega),if_neg (by rw [neq_it];exact fun h2 => h2 he'),wrap_succ (by omega)])
      (fun i hi he k => by
        rw [rdIt_get (l:=a) hi,rdIt_get (l:=b) (by omega)] at he
        have he' : ¬ rd_T56 a (i : Int) = rd_T56 b (i : Int):=fun e => he (by rw [e])
        simp only [laws_lwSame.l0]
        rw [if_pos (by omega),if_pos (by omega),if_pos (by omega),if_pos (by rw [neq_it];exact he')])
    refine (Evt.congr (fun k => by unfold laws_lwSame.f;rw [if_pos h];rfl) hc).mono fun r hr => decide_of ?_
    rw [hr,List.take_of_length_le (Nat.le_refl _),List.take_of_length_le (by omega)]
  · refine Evt.congr (fun k => by unfold laws_lwSame.f;rw [if_neg h]) (Evt.now _ ?_)
    have : a ≠ b:=by
      rintro rfl
      exact h rfl
    simp [this]
theorem xor_nonneg {a b : Int} (ha : 0 ≤ a) (ha2 : a < 4611686018427387904) (hb : 0 ≤ b) (hb2 : b < 4611686018427387904) : 0 ≤ Go.bits .xor .i64 a b:=by
  obtain ⟨x,rfl⟩:=Int.eq_ofNat_of_zero_le ha
  obtain ⟨y,rfl⟩:=Int.eq_ofNat_of_zero_le hb
  have hx : x < 2 ^ 62:=by omega
  have hy : y < 2 ^ 62:=by omega
  have e : Go.bits .xor .i64 (x : Int) (y : Int) = ((x ^^^ y : Nat) : Int):=by
    have hz : x ^^^ y < 2 ^ 62:=Nat.xor_lt_two_pow hx hy
    have h1 : (BitVec.ofInt 64 (x : Int)).toNat = x:=by
      rw [BitVec.ofInt_natCast,BitVec.toNat_ofNat];exact Nat.mod_eq_of_lt (by omega)
    have h2 : (BitVec.ofInt 64 (y : Int)).toNat = y:=by
      rw [BitVec.ofInt_natCast,BitVec.toNat_ofNat];exact Nat.mod_eq_of_lt (by omega)
    show IntKind.i64.wrap ((BitVec.ofInt 64 (x : Int) ^^^ BitVec.ofInt 64 (y : Int)).toNat : Int) = _
    rw [BitVec.toNat_xor,h1,h2,IntKind.wrap_i64]
    omega
  rw [e]
  omega
theorem rd_byte {l : List Int} (hl : ∀ x ∈ l,0 ≤ x ∧ x ≤ 255) (i : Int) : 0 ≤ rd l i ∧ rd l i ≤ 255:=by
  unfold rd
  rw [List.getD_eq_getElem?_getD]
  cases h : l[i.toNat]? with
  | none => simp
  | some x => exact hl x (List.mem_of_getElem? h)
theorem tmod_range {x n : Int} (hx : 0 ≤ x) (hn : 1 ≤ n) : 0 ≤ Int.tmod x n ∧ Int.tmod x n < n:=by
  rw [Int.tmod_eq_emod_of_nonneg hx]
  exact ⟨Int.emod_nonneg _ (by omega),Int.emod_lt_of_pos _ (by omega)⟩
/-- A pick answers, and steps on by one. -/
theorem pick_ends {l : List Int} (hl : ∀ x ∈ l,0 ≤ x ∧ x ≤ 255) (p n : Int) (h0 : 0 ≤ p) (h1 : p ≤ 1000000000) :
    Evt (fun k => spec_l6Rd_pick.f k l p n) (fun r => r.2 = p + 1 ∧ 0 ≤ r.1 ∧ (1 ≤ n → r.1 < n)):=by
  have hw : wrap64 (p + 1) = p + 1:=by unfold wrap64;omega
  have hw1 : wrap64 (p + 1 - 1) = p:=by unfold wrap64;omega
  by_cases hn : n < 1
  · refine Evt.congr (f:=fun k => spec_l6Rd_pick.j0 k n true l (p + 1)) (fun k => by unfold spec_l6Rd_pick.f;rw [if_pos hn,hw]) ?_
    refine Evt.step (f:=fun _ => some (0,p + 1)) (fun k => by simp only [spec_l6Rd_pick.j0];rw [if_pos trivial]) ?_
    exact Evt.now _ ⟨rfl,by simp,fun h => by omega⟩
  · by_cases he : l = []
    · subst he
      refine Evt.congr (f:=fun k => spec_l6Rd_pick.j0 k n true [] (p + 1)) (fun k => by unfold spec_l6Rd_pick.f;rw [if_neg hn,hw];simp) ?_
      refine Evt.step (f:=fun _ => some (0,p + 1)) (fun k => by simp only [spec_l6Rd_pick.j0];rw [if_pos trivial]) ?_
      exact Evt.now _ ⟨rfl,by simp,fun h => by show (0 : Int) < n;omega⟩
    · have hlen : 0 < l.length:=List.length_pos_iff.2 he
      have hb : ((l.length : Int) == 0) = false:=by simp;omega
      refine Evt.congr (f:=fun k => spec_l6Rd_pick.j0 k n false l (p + 1)) (fun k => by unfold spec_l6Rd_pick.f;rw [if_neg hn,hw,hb]) ?_
      by_cases hp : p < (l.length : Int)
      · have hr:=rd_byte hl p
        have hwr : wrap64 (rd l p) = rd l p:=by unfold wrap64;omega
        refine Evt.step (f:=fun _ => some (Int.tmod (rd l p) n,p + 1)) (fun k => by
          simp only [spec_l6Rd_pick.j0,hw1]
          rw [if_neg (by decide),if_pos hp,if_pos h0,if_neg (by omega),hwr]) ?_
        have ht:=tmod_range hr.1 (show 1 ≤ n by omega)
        exact Evt.now _ ⟨rfl,ht.1,fun _ => ht.2⟩
      · have hL : (1 : Int) ≤ (l.length : Int):=by omega
        have ht1:=tmod_range h0 hL
        have w7 : wrap64 (p * 7) = p * 7:=by unfold wrap64;omega
        have w73 : wrap64 (p * 7 + 3) = p * 7 + 3:=by unfold wrap64;omega
        have ht2:=tmod_range (show 0 ≤ p * 7 + 3 by omega) hL
        have r1:=rd_byte hl (Int.tmod p (l.length : Int))
        have r2:=rd_byte hl (Int.tmod (p * 7 + 3) (l.length : Int))
        have hq : 0 ≤ Int.tdiv p (l.length : Int) ∧ Int.tdiv p (l.length : Int) ≤ p:=by
          rw [Int.tdiv_eq_ediv_of_nonneg h0]
          exact ⟨Int.ediv_nonneg h0 (by omega),Int.ediv_le_self _ h0⟩
        generalize hA : rd l (Int.tmod p (l.length : Int)) = A at r1
        generalize hB : rd l (Int.tmod (p * 7 + 3) (l.length : Int)) = B at r2
        generalize hQ : Int.tdiv p (l.length : Int) = Q at hq
        have e1 : wrap64 A = A:=by unfold wrap64;omega
        have e2 : wrap64 B = B:=by unfold wrap64;omega
        have e3 : wrap64 Q = Q:=by unfold wrap64;omega
        have e4 : wrap64 (A * 131) = A * 131:=by unfold wrap64;omega
        have e5 : wrap64 (B * 1117) = B * 1117:=by unfold wrap64;omega
        have e6 : wrap64 (p * 29) = p * 29:=by unfold wrap64;omega
        have e7 : wrap64 (Q * 53) = Q * 53:=by unfold wrap64;omega
        have e8 : wrap64 (A * 131 + B * 1117) = A * 131 + B * 1117:=by unfold wrap64;omega
        have e9 : wrap64 (A * 131 + B * 1117 + p * 29) = A * 131 + B * 1117 + p * 29:=by unfold wrap64;omega
        obtain ⟨X,hXd⟩ : ∃ X,X = A * 131 + B * 1117 + p * 29 + Q * 53:=⟨_,rfl⟩
        have e10 : wrap64 (A * 131 + B * 1117 + p * 29 + Q * 53) = X:=by rw [hXd];unfold wrap64;omega
        have hX : 0 ≤ X ∧ X < 4611686018427387904:=by omega
        have hd : Int.tdiv X 64 = X / 64:=Int.tdiv_eq_ediv_of_nonneg hX.1
        have e11 : wrap64 (X / 64) = X / 64:=by unfold wrap64;omega
        have hx:=xor_nonneg hX.1 hX.2 (show 0 ≤ X / 64 by omega) (show X / 64 < 4611686018427387904 by omega)
        refine Evt.step (f:=fun _ => some (Int.tmod (Go.bits .xor .i64 X (X / 64)) n,p + 1)) (fun k => by
          simp only [spec_l6Rd_pick.j0,hw1,w7,w73]
          rw [if_neg (by decide),if_neg hp,if_neg (by omega),if_pos ht1.1,if_pos ht1.2,if_pos ht2.1,if_pos ht2.2,if_neg (by omega)]
          rw [hA,hB,hQ,e1,e2,e3,e4,e5,e6,e7,e8,e9,e10,hd,e11]) ?_
        have ht:=tmod_range hx (show 1 ≤ n by omega)
        exact Evt.now _ ⟨rfl,ht.1,fun _ => ht.2⟩
theorem open_bytes {l : List Int} (hl : ∀ x ∈ l,0 ≤ x ∧ x ≤ 255) : ∃ l',spec_l6Open.f l = some (l',0) ∧ ∀ x ∈ l',0 ≤ x ∧ x ≤ 255:=by
  unfold spec_l6Open.f
  by_cases h : (l.length : Int) > 2000
  · rw [if_pos h,if_pos (by omega)]
    exact ⟨_,rfl,fun x hx => hl x (List.mem_of_mem_take hx)⟩
  · rw [if_neg h]
    exact ⟨_,rfl,hl⟩
theorem bytes_of {l : List Int} (h : ∀ x ∈ l,(Lit.int .u8 x).wf = true) : ∀ x ∈ l,0 ≤ x ∧ x ≤ 255:=by
  intro x hx
  have:=h x hx
  simp [Lit.wf,IntKind.min,IntKind.max,IntKind.bits,IntKind.signed] at this
  omega
theorem pay_ends {l : List Int} (hl : ∀ x ∈ l,0 ≤ x ∧ x ≤ 255) (p : Int) (h0 : 0 ≤ p) (h1 : p ≤ 999999990) :
    Evt (fun k => spec_l71Pay.f k l p) (fun r => r.2.2.2 = p + 3 ∧ (1 ≤ r.1 ∧ r.1 ≤ 3) ∧ (1 ≤ r.2.1 ∧ r.2.1 ≤ 3) ∧ r.1 ≠ r.2.1 ∧ (1 ≤ r.2.2.1 ∧ r.2.2.1 ≤ 9)):=by
  simp only [spec_l71Pay.f]
  refine Evt.bind (pick_ends hl p 3 h0 (by omega)) (fun a ha => ?_)
  refine Evt.bind (pick_ends hl a.2 2 (by omega) (by omega)) (fun b hb => ?_)
  refine Evt.bind (pick_ends hl b.2 9 (by omega) (by omega)) (fun c hc => ?_)
  obtain ⟨a1,a2⟩:=a
  obtain ⟨b1,b2⟩:=b
  obtain ⟨c1,c2⟩:=c
  simp only at ha hb hc ⊢
  have e1 : wrap64 (1 + a1) = 1 + a1:=by unfold wrap64;omega
  have e2 : wrap64 (1 + a1 + b1) = 1 + a1 + b1:=by unfold wrap64;omega
  have e3 : wrap64 (1 + c1) = 1 + c1:=by unfold wrap64;omega
  have e4 : Int.tmod (1 + a1 + b1) 3 = (1 + a1 + b1) % 3:=Int.tmod_eq_emod_of_nonneg (by omega)
  have e5 : wrap64 ((1 + a1 + b1) % 3 + 1) = (1 + a1 + b1) % 3 + 1:=by unfold wrap64;omega
  rw [e1,e2,e3,e4,e5]
  refine Evt.now _ ?_
  simp only
  omega
theorem anyPay_ends {l : List Int} (hl : ∀ x ∈ l,0 ≤ x ∧ x ≤ 255) (p : Int) (h0 : 0 ≤ p) (h1 : p ≤ 999999980) :
    Evt (fun k => spec_l71AnyPay.f k l p) (fun r => p ≤ r.2.2.2 ∧ r.2.2.2 ≤ p + 5):=by
  simp only [spec_l71AnyPay.f]
  refine Evt.bind (pay_ends hl p h0 (by omega)) (fun a ha => ?_)
  refine Evt.bind (pick_ends hl a.2.2.2 12 (by omega) (by omega)) (fun b hb => ?_)
  refine Evt.ite (fun _ => Evt.now _ (by simp only;omega)) (fun _ => ?_)
  refine Evt.ite (fun _ => ?_) (fun _ => ?_)
  · simp only [Option.bind_some]
    refine Evt.bind (pick_ends hl b.2 2 (by omega) (by omega)) (fun c hc => ?_)
    refine Evt.pos hc.2.1 (Evt.pos (by have:=hc.2.2 (by omega);simp;omega) (Evt.now _ (by simp only;omega)))
  · refine Evt.ite (fun _ => ?_) (fun _ => Evt.now _ (by simp only;omega))
    simp only [Option.bind_some]
    refine Evt.bind (pick_ends hl b.2 2 (by omega) (by omega)) (fun c hc => ?_)
    refine Evt.pos hc.2.1 (Evt.pos (by have:=hc.2.2 (by omega);simp;omega) (Evt.now _ (by simp only;omega)))
/-- The last epoch, from e on. -/
def lastE : Int → List It → Int
  | e,[] => e
  | _,x :: xs => lastE x.f0 xs
theorem okFrom_snoc (c : List It) (x : It) : ∀ e,okFrom e (c ++ [x]) = (okFrom e c && (itemOk x && decide (lastE e c < x.f0))):=by
  induction c with
  | nil => intro e;simp [okFrom,lastE];rfl
  | cons y ys ih =>
    intro e
    simp only [List.cons_append,okFrom,lastE,ih]
    cases itemOk y <;> cases decide (e < y.f0) <;> first|(simp;done)|(simp;rfl)
theorem lastE_snoc (c : List It) (x : It) : ∀ e,lastE e (c ++ [x]) = x.f0:=by
  induction c with
  | nil => intro e;rfl
  | cons y ys ih => intro e;simp only [List.cons_append,lastE,ih]
theorem chain_ends {l : List Int} (hl : ∀ x ∈ l,0 ≤ x ∧ x ≤ 255) (p : Int) (h0 : 0 ≤ p) (h1 : p ≤ 999999000) :
    Evt (fun k => spec_l71Chain.f k l p) (fun r => chainOk r.1 = true ∧ r.1.length ≤ 6 ∧ p ≤ r.2 ∧ r.2 ≤ p + 40):=by
  have key : ∀ (d : Nat) (c : List It) (e q : Int),d + c.length ≤ 6 → okFrom 0 c = true → e = lastE 0 c → 0 ≤ e → e ≤ 3 * (c.length : Int) → p ≤ q → q ≤ p + 1 + 5 * (c.length : Int) →
      Evt (fun k => spec_l71Chain.l0 k c e (d : Int) l q) (fun r => chainOk r.1 = true ∧ r.1.length ≤ 6 ∧ p ≤ r.2 ∧ r.2 ≤ p + 40):=by
    intro d
    induction d with
    | zero =>
      intro c e q hd hc he he0 he3 hq hq2
      refine Evt.step (f:=fun _ => some (c,q)) (fun k => by simp only [spec_l71Chain.l0];rw [if_neg (by decide)]) (Evt.now _ ⟨?_,by show c.length ≤ 6;omega,hq,by show q ≤ p + 40;omega⟩)
      simp [chainOk,hc]
      omega
    | succ d ih =>
      intro c e q hd hc he he0 he3 hq hq2
      refine Evt.step (fun k => by simp only [spec_l71Chain.l0];rw [if_pos (by omega)]) ?_
      refine Evt.bind (pick_ends hl q 6 (by omega) (by omega)) fun a ha => ?_
      refine Evt.bind (pick_ends hl a.2 3 (by omega) (by omega)) fun b hb => ?_
      refine Evt.bind (pay_ends hl b.2 (by omega) (by omega)) fun y hy => ?_
      obtain ⟨a1,a2⟩:=a
      obtain ⟨b1,b2⟩:=b
      obtain ⟨y1,y2,y3,y4⟩:=y
      simp only at ha hb hy ⊢
      have e5 : Int.tdiv a1 5 = a1 / 5:=Int.tdiv_eq_ediv_of_nonneg (by omega)
      have hab : 0 ≤ a1 / 5 * b1 ∧ a1 / 5 * b1 ≤ 2:=by
        have h5 : a1 / 5 = 0 ∨ a1 / 5 = 1:=by omega
        rcases h5 with h5|h5 <;> rw [h5] <;> omega
      have w1 : wrap64 (e + 1) = e + 1:=wrap64_small (by omega) (by omega)
      have w2 : wrap64 (a1 / 5) = a1 / 5:=wrap64_small (by omega) (by omega)
      have w3 : wrap64 (a1 / 5 * b1) = a1 / 5 * b1:=wrap64_small (by omega) (by omega)
      rw [e5,w1,w2,w3]
      generalize a1 / 5 * b1 = m at hab ⊢
      have w4 : wrap64 (e + 1 + m) = e + 1 + m:=wrap64_small (by omega) (by omega)
      have w5 : wrap64 (((d + 1 : Nat) : Int) - 1) = (d : Int):=by unfold wrap64;omega
      rw [w4,w5]
      refine Evt.pos (by omega) ?_
      refine ih _ _ _ (by simp;omega) ?_ (by rw [lastE_snoc]) (by omega) (by simp;omega) (by omega) (by simp;omega)
      rw [okFrom_snoc,hc,← he]
      have hp : payOk y1 y2 y3 = true:=by unfold payOk;exact decide_eq_true (by omega)
      simp [itemOk,hp]
      omega
  simp only [spec_l71Chain.f]
  refine Evt.bind (pick_ends hl p 7 h0 (by omega)) fun a ha => ?_
  obtain ⟨a1,a2⟩:=a
  simp only at ha ⊢
  obtain ⟨d,rfl⟩:=Int.eq_ofNat_of_zero_le ha.2.1
  have:=ha.2.2 (by omega)
  exact key d [] 0 a2 (by simp;omega) rfl rfl (by omega) (by simp) (by omega) (by simp;omega)
theorem off_ends {l : List Int} (hl : ∀ x ∈ l,0 ≤ x ∧ x ≤ 255) (p : Int) (h0 : 0 ≤ p) (h1 : p ≤ 999998000) :
    Evt (fun k => spec_l71Off.f k l p) (fun r => r.1.length ≤ 7 ∧ p ≤ r.2 ∧ r.2 ≤ p + 60):=by
  simp only [spec_l71Off.f]
  refine Evt.bind (chain_ends hl p h0 (by omega)) fun c hc => ?_
  obtain ⟨c1,c2⟩:=c
  obtain ⟨_,hcl,hc1,hc2⟩:=hc
  simp only at hcl hc1 hc2 ⊢
  refine Evt.bind (pick_ends hl c2 16 (by omega) (by omega)) fun a ha => ?_
  refine Evt.ite (fun _ => ?_) fun _ => Evt.ite (fun _ => ?_) fun _ => Evt.ite (fun _ => ?_) fun _ => Evt.now _ ⟨by show c1.length ≤ 7;omega,by omega,by omega⟩
  · refine Evt.bind (pick_ends hl a.2 4 (by omega) (by omega)) fun b hb => ?_
    refine Evt.bind (anyPay_ends hl b.2 (by omega) (by omega)) fun y hy => ?_
    refine Evt.pos (by omega) (Evt.now _ ⟨by simp;omega,by show p ≤ y.2.2.2;omega,by show y.2.2.2 ≤ p + 60;omega⟩)
  · refine Evt.ite (fun hpos => ?_) fun _ => Evt.now _ ⟨by show c1.length ≤ 7;omega,by omega,by omega⟩
    refine Evt.bind (pick_ends hl a.2 (c1.length : Int) (by omega) (by omega)) fun b hb => ?_
    simp only [Option.bind_some]
    refine Evt.bind (pick_ends hl b.2 3 (by omega) (by omega)) fun d hd => ?_
    have hb2:=hb.2.2 (by omega)
    have hd2:=hd.2.2 (by omega)
    refine Evt.pos hd.2.1 (Evt.pos (by simp;omega) (Evt.pos hb.2.1 (Evt.pos hb2 (Evt.now _ ⟨by simp;omega,by show p ≤ d.2;omega,by show d.2 ≤ p + 60;omega⟩))))
  · refine Evt.ite (fun hpos => ?_) fun _ => Evt.now _ ⟨by show c1.length ≤ 7;omega,by omega,by omega⟩
    refine Evt.bind (pick_ends hl a.2 (c1.length : Int) (by omega) (by omega)) fun b hb => ?_
    refine Evt.bind (anyPay_ends hl b.2 (by omega) (by omega)) fun y hy => ?_
    have hb2:=hb.2.2 (by omega)
    refine Evt.pos hb.2.1 (Evt.pos hb2 (Evt.now _ ⟨by simp;omega,by show p ≤ y.2.2.2;omega,by show y.2.2.2 ≤ p + 60;omega⟩))
theorem two_ends {l : List Int} (hl : ∀ x ∈ l,0 ≤ x ∧ x ≤ 255) (p : Int) (h0 : 0 ≤ p) (h1 : p ≤ 999990000) :
    Evt (fun k => spec_l71Two.f k l p) (fun r => r.1.length ≤ 9 ∧ r.2.1.length ≤ 9 ∧ p ≤ r.2.2 ∧ r.2.2 ≤ p + 200):=by
  simp only [spec_l71Two.f]
  refine Evt.bind (off_ends hl p h0 (by omega)) fun a ha => ?_
  obtain ⟨a,a2⟩:=a
  simp only at ha ⊢
  refine Evt.bind (off_ends hl a2 (by omega) (by omega)) fun b hb => ?_
  obtain ⟨b,b2⟩:=b
  simp only at hb ⊢
  refine Evt.bind (pick_ends hl b2 4 (by omega) (by omega)) fun c hc => ?_
  have key : ∀ (d : Nat) (x : List It) (q : Int),d + x.length ≤ 9 → p ≤ q → q + 20 * (d : Int) ≤ p + 190 → Evt (fun k => spec_l71Two.l0 k a x (d : Int) l q) (fun r => r.1.length ≤ 9 ∧ r.2.1.length ≤ 9 ∧ p ≤ r.2.2 ∧ r.2.2 ≤ p + 200):=by
    intro d
    induction d with
    | zero =>
      intro x q hd hq1 hq2
      refine Evt.step (fun k => by simp only [spec_l71Two.l0];rw [if_neg (by decide)]) ?_
      refine Evt.bind (pick_ends hl q 2 (by omega) (by omega)) fun e he => ?_
      exact Evt.ite (fun _ => Evt.now _ ⟨by show x.length ≤ 9;omega,by show a.length ≤ 9;omega,by show p ≤ e.2;omega,by show e.2 ≤ p + 200;omega⟩) fun _ => Evt.now _ ⟨by show a.length ≤ 9;omega,by show x.length ≤ 9;omega,by show p ≤ e.2;omega,by show e.2 ≤ p + 200;omega⟩
    | succ d ih =>
      intro x q hd hq1 hq2
      have w : wrap64 (((d + 1 : Nat) : Int) - 1) = (d : Int):=by unfold wrap64;omega
      refine Evt.step (fun k => by simp only [spec_l71Two.l0,w];rw [if_pos (by omega)]) ?_
      refine Evt.ite (fun hx => ?_) fun _ => ?_
      · have w1 : wrap64 ((x.length : Int) - 1) = (x.length : Int) - 1:=wrap64_small (by omega) (by omega)
        rw [w1]
        refine Evt.pos (by omega) (Evt.pos (by omega) ?_)
        refine Evt.bind (pick_ends hl q 2 (by omega) (by omega)) fun e he => ?_
        refine Evt.bind (pay_ends hl e.2 (by omega) (by omega)) fun y hy => ?_
        exact Evt.pos (by omega) (ih _ _ (by simp;omega) (by omega) (by omega))
      · refine Evt.bind (pick_ends hl q 2 (by omega) (by omega)) fun e he => ?_
        refine Evt.bind (pay_ends hl e.2 (by omega) (by omega)) fun y hy => ?_
        exact Evt.pos (by omega) (ih _ _ (by simp;omega) (by omega) (by omega))
  refine Evt.ite (fun _ => ?_) fun _ => ?_
  · refine Evt.bind (P:=fun r => r = []) (Evt.now [] rfl) fun y0 hy0 => ?_
    have w1 : wrap64 ((a.length : Int) + 1) = (a.length : Int) + 1:=wrap64_small (by omega) (by omega)
    rw [w1]
    refine Evt.bind (pick_ends hl c.2 ((a.length : Int) + 1) (by omega) (by omega)) fun e he => ?_
    have he':=he.2.2 (by omega)
    refine Evt.pos he.2.1 (Evt.pos (by omega) ?_)
    refine Evt.bind (P:=fun r => r = a.take e.1.toNat) (Evt.now _ rfl) fun x hx => ?_
    have hx7 : (y0 ++ x).length ≤ 7:=by rw [hy0,hx,List.nil_append,List.length_take];omega
    have hx8 : y0.length + x.length ≤ 7:=by rw [← List.length_append];exact hx7
    refine Evt.pos (by omega) ?_
    refine Evt.bind (pick_ends hl e.2 3 (by omega) (by omega)) fun f hf => ?_
    obtain ⟨f1,f2⟩:=f
    simp only at hf ⊢
    have hf':=hf.2.2 (by omega)
    obtain ⟨d,rfl⟩:=Int.eq_ofNat_of_zero_le hf.2.1
    exact key d (y0 ++ x) f2 (by omega) (by omega) (by omega)
  · refine Evt.bind (pick_ends hl c.2 2 (by omega) (by omega)) fun e he => ?_
    exact Evt.ite (fun _ => Evt.now _ ⟨by show b.length ≤ 9;omega,by show a.length ≤ 9;omega,by show p ≤ e.2;omega,by show e.2 ≤ p + 200;omega⟩) fun _ => Evt.now _ ⟨by show a.length ≤ 9;omega,by show b.length ≤ 9;omega,by show p ≤ e.2;omega,by show e.2 ≤ p + 200;omega⟩
theorem drawChainIn_ends {l : List Int} (hl : ∀ x ∈ l,0 ≤ x ∧ x ≤ 255) : Evt (fun k => spec_DrawChainIn.f k l) (fun r => r.1.length ≤ 9 ∧ r.2.length ≤ 9):=by
  simp only [spec_DrawChainIn.f]
  obtain ⟨l',e,hl'⟩:=open_bytes hl
  rw [e]
  simp only [Option.bind_some]
  refine Evt.bind (two_ends hl' 0 (by omega) (by omega)) fun r hr => ?_
  obtain ⟨a,b,q⟩:=r
  simp only at hr ⊢
  refine Evt.bind (pick_ends hl' q 2 (by omega) (by omega)) fun p hp => ?_
  refine Evt.ite (fun _ => ?_) fun _ => Evt.now _ ⟨hr.1,hr.2.1⟩
  rw [wrap64_small (n:=(a.length : Int) + 1) (by omega) (by omega)]
  refine Evt.bind (pick_ends hl' p.2 ((a.length : Int) + 1) (by omega) (by omega)) fun s hs => ?_
  have:=hs.2.2 (by omega)
  exact Evt.pos hs.2.1 (Evt.pos (by omega) (Evt.now _ ⟨by simp;omega,hr.1⟩))

end Go.Proofs.Ytkkfokcbbhnjeaa.Pure
