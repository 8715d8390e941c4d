/- Plain facts on what the printed functions compute (within payok chain ll certok vote0 votes prefix l1in l3has l3add pick pay draws two votesdraw certdraw certmore). Conditions: each theorem's own. -/
import Derived.Test.YtlcfalecbpnhbaaPx0
import Derived.Test.YtlcfalecbpnhbaaPx2
import Derived.Test.YtlcfalecbpnhbaaPx3
import Derived.Test.YtlcfalecbpnhbaaPx4
import Derived.Test.YtlcfalecbpnhbaaPx5
import Derived.Test.YtlcfalecbpnhbaaPx6
import Derived.Test.YtlcfalecbpnhbaaPx7
import Derived.Test.YtlcfalecbpnhbaaPx8
import Derived.Test.YtlcfalecbpnhbaaPx9
import Derived.Test.YtlcfalecbpnhbaaPx10
import Derived.Test.YtlcfalecbpnhbaaPx11
import Derived.Test.YtlcfalecbpnhbaaPx12
import Derived.Test.YtlcfalecbpnhbaaPx13
import Derived.Test.YtlcfalecbpnhbaaPx14
import Derived.Test.YtlcfalecbpnhbaaPlain
namespace Go.Proofs.Ytlcfalecbpnhbaa.Pure
open Go.RowKit Go.Proofs.Ytlcfalecbpnhbaa.P Go.Proofs.YtlcfalecbpnhbaaW.PrintWords Go.Proofs.YtlcfalecbpnhbaaW.PrintLast Go.Proofs.YtlcfalecbpnhbaaW.PrintMore Go.Proofs.YtlcfalecbpnhbaaE
set_option linter.unusedVariables false
set_option linter.unusedSimpArgs false

theorem within_eq (n lo hi : Int) : impl_within.f n lo hi = some (decide (lo ≤ n ∧ n ≤ hi)):=by
  unfold impl_within.f
  by_cases h : n ≥ lo
  · rw [if_pos h]
    by_cases h2 : n ≤ hi
    · simp [h2,show lo ≤ n from h]
    · simp [h2]
  · rw [if_neg h]
    simp [show ¬ lo ≤ n from h]
theorem l6In_eq (n lo hi : Int) : spec_l6In.f n lo hi = some (decide (lo ≤ n ∧ n ≤ hi)):=by
  unfold spec_l6In.f
  by_cases h : n ≥ lo
  · rw [if_pos h]
    by_cases h2 : n ≤ hi
    · simp [h2,show lo ≤ n from h]
    · simp [h2]
  · rw [if_neg h]
    simp [show ¬ lo ≤ n from h]
def payOk (a b c : Int) : Bool:=decide ((1 ≤ a ∧ a ≤ 3) ∧ (1 ≤ b ∧ b ≤ 3) ∧ a ≠ b ∧ (1 ≤ c ∧ c ≤ 9))
theorem payOk_impl (a b c : Int) : impl_PayOk.f a b c = some (payOk a b c):=by
  unfold impl_PayOk.f payOk
  simp only [within_eq,Option.bind_some]
  by_cases h1 : 1 ≤ a ∧ a ≤ 3
  · by_cases h2 : 1 ≤ b ∧ b ≤ 3
    · by_cases h3 : a = b
      · simp [h1,h2,h3]
      · simp [h1,h2,h3]
    · simp [h1,h2]
  · simp [h1]
theorem payOk_spec (a b c : Int) : spec_PayOk.f a b c = some (payOk a b c):=by
  unfold spec_PayOk.f payOk
  simp only [l6In_eq,Option.bind_some]
  by_cases h1 : 1 ≤ a ∧ a ≤ 3
  · by_cases h2 : 1 ≤ b ∧ b ≤ 3
    · by_cases h3 : a = b
      · simp [h1,h2,h3]
      · simp [h1,h2,h3]
    · simp [h1,h2]
  · simp [h1]
abbrev It:=S40
instance : DecidableEq S38:=fun ⟨a,b,c⟩ ⟨a',b',c'⟩ => decidable_of_iff (a = a' ∧ b = b' ∧ c = c') Q51
instance : DecidableEq It:=fun ⟨a,b⟩ ⟨a',b'⟩ => decidable_of_iff (a = a' ∧ b = b') Q51
theorem rdIt_get {l : List It} {i : Nat} (h : i < l.length) : l[i]? = some (rd_T40 l (i : Int)):=by
  show _ = some (l.getD ((i : Int)).toNat _)
  rw [Int.toNat_natCast,List.getD_eq_getElem?_getD,List.getElem?_eq_getElem h]
  rfl
theorem drop_it {l : List It} {i : Nat} (h : i < l.length) : l.drop i = rd_T40 l (i : Int) :: l.drop (i + 1):=by
  have e:=rdIt_get h
  rw [List.getElem?_eq_getElem h] at e
  rw [List.drop_eq_getElem_cons h,Option.some.inj e]
theorem neq_it (x y : It) : ((!(x.f0 == y.f0) || ((!(x.f1.f0 == y.f1.f0) || (!(x.f1.f1 == y.f1.f1) || (!(x.f1.f2 == y.f1.f2)))))) = true) ↔ x ≠ y:=by
  obtain ⟨a,b,c,d⟩:=x
  obtain ⟨a',b',c',d'⟩:=y
  simp
  omega
theorem eq_it (x y : It) : ((x.f0 == y.f0) && ((x.f1.f0 == y.f1.f0) && ((x.f1.f1 == y.f1.f1) && (x.f1.f2 == y.f1.f2)))) = true ↔ x = y:=by
  obtain ⟨a,b,c,d⟩:=x
  obtain ⟨a',b',c',d'⟩:=y
  simp
def itemOk (x : It) : Bool:=decide (1 ≤ x.f0 ∧ x.f0 ≤ 30) && payOk x.f1.f0 x.f1.f1 x.f1.f2
/-- Items go on behind epoch e. -/
def okFrom : Int → List It → Bool
  | _,[] => true
  | e,x :: xs => itemOk x && (decide (e < x.f0) && okFrom x.f0 xs)
def chainOk (c : List It) : Bool:=okFrom 0 c && decide (c.length ≤ 16)
def prevE (l : List It) (i : Nat) : Int:=if i = 0 then 0 else (rd_T40 l ((i - 1 : Nat) : Int)).f0
theorem prevE_succ (l : List It) (i : Nat) : prevE l (i + 1) = (rd_T40 l (i : Int)).f0:=by simp [prevE]
theorem epochOk_eq (e : Int) : impl_epochOk.f e = some (decide (1 ≤ e ∧ e ≤ 30)):=by
  unfold impl_epochOk.f
  simp [within_eq]
theorem chainOk_impl (l : List It) (hl : l.length ≤ 4611686018427387900) : Evt (fun k => impl_ChainOk.f k l) (fun r => r = chainOk l):=by
  have key : ∀ (d i : Nat),i + d = l.length → Evt (fun k => impl_ChainOk.l0 k l l (l.length : Int) (i : Int)) (fun r => r = (okFrom (prevE l i) (l.drop i) && decide (l.length ≤ 16))):=by
    intro d
    induction d with
    | zero =>
      intro i hd
      rw [List.drop_eq_nil_of_le Q17]
      refine Evt.step (f:=fun _ => some (decide ((l.length : Int) ≤ 16))) (fun k => by simp only [impl_ChainOk.l0];rw [if_neg Q17]) (Evt.now _ ?_)
      by_cases h : l.length ≤ 16
      · simp [okFrom,h,show (l.length : Int) ≤ 16 by omega]
      · simp [okFrom,h,show ¬ (l.length : Int) ≤ 16 by omega]
    | succ d ih =>
      intro i hd
      have ihs:=ih (i + 1) Q17
      rw [prevE_succ] at ihs
      rw [drop_it (l:=l) (i:=i) Q17]
      by_cases he : 1 ≤ (rd_T40 l (i : Int)).f0 ∧ (rd_T40 l (i : Int)).f0 ≤ 30
      · cases hp : payOk (rd_T40 l (i : Int)).f1.f0 (rd_T40 l (i : Int)).f1.f1 (rd_T40 l (i : Int)).f1.f2 with
        | false =>
          refine Evt.step (f:=fun _ => some false) (fun k => by
            simp only [impl_ChainOk.l0,epochOk_eq,payOk_impl,Option.bind_some]
            rw [if_pos Q17,if_pos Q17,if_pos Q17,if_pos Q151,hp,if_neg Q36]) (Evt.now _ ?_)
          simp [okFrom,itemOk,hp]
        | true =>
          by_cases hi : i = 0
          · subst hi
            refine Evt.step (f:=fun k => impl_ChainOk.l0 k l l (l.length : Int) ((0 + 1 : Nat) : Int)) (fun k => by
              simp only [impl_ChainOk.l0,epochOk_eq,payOk_impl,Option.bind_some]
              rw [if_pos Q17,if_pos Q17,if_pos Q17,if_pos Q151,hp,if_pos rfl,if_neg Q17,wrap_succ Q17]) ?_
            refine ihs.mono fun r hr => ?_
            rw [hr]
            have h0 : (0 : Int) < (rd_T40 l ((0 : Nat) : Int)).f0:=by omega
            simp only [okFrom,itemOk,prevE,hp,he,h0,decide_true,and_self,if_true,Bool.true_and,Bool.and_true]
          · have hw : wrap64 ((i : Int) - 1) = ((i - 1 : Nat) : Int):=by unfold wrap64;omega
            by_cases hlt : (rd_T40 l ((i - 1 : Nat) : Int)).f0 < (rd_T40 l (i : Int)).f0
            · refine Evt.step (f:=fun k => impl_ChainOk.l0 k l l (l.length : Int) ((i + 1 : Nat) : Int)) (fun k => by
                simp only [impl_ChainOk.l0,epochOk_eq,payOk_impl,Option.bind_some]
                rw [if_pos Q17,if_pos Q17,if_pos Q17,if_pos Q151,hp,if_pos rfl,if_pos Q17,hw,if_pos Q17,if_pos Q17,if_neg Q17,wrap_succ Q17]) ?_
              refine ihs.mono fun r hr => ?_
              rw [hr]
              simp [okFrom,itemOk,prevE,hp,he,hi,hlt]
            · refine Evt.step (f:=fun _ => some false) (fun k => by
                simp only [impl_ChainOk.l0,epochOk_eq,payOk_impl,Option.bind_some]
                rw [if_pos Q17,if_pos Q17,if_pos Q17,if_pos Q151,hp,if_pos rfl,if_pos Q17,hw,if_pos Q17,if_pos Q17,if_pos Q17]) (Evt.now _ ?_)
              simp [okFrom,itemOk,prevE,hi,hlt]
      · refine Evt.step (f:=fun _ => some false) (fun k => by
          simp only [impl_ChainOk.l0,epochOk_eq,Option.bind_some]
          rw [if_pos Q17,if_pos Q17,if_pos Q17,if_neg Q151]) (Evt.now _ ?_)
        simp [okFrom,itemOk,he]
  refine (Evt.congr (fun k => by unfold impl_ChainOk.f;rfl) (key l.length 0 Q17)).mono fun r hr => ?_
  simpa [chainOk,prevE] using hr
theorem chainOk_spec (l : List It) (hl : l.length ≤ 4611686018427387900) : Evt (fun k => spec_ChainOk.f k l) (fun r => r = chainOk l):=by
  have key : ∀ (d i : Nat),i + d = l.length → Evt (fun k => spec_ChainOk.l0 k l (i : Int)) (fun r => r = (okFrom (prevE l i) (l.drop i) && decide (l.length ≤ 16))):=by
    intro d
    induction d with
    | zero =>
      intro i hd
      rw [List.drop_eq_nil_of_le Q17]
      refine Evt.step (f:=fun _ => some (decide ((l.length : Int) ≤ 16))) (fun k => by simp only [spec_ChainOk.l0];rw [if_neg Q17]) (Evt.now _ ?_)
      by_cases h : l.length ≤ 16
      · simp [okFrom,h,show (l.length : Int) ≤ 16 by omega]
      · simp [okFrom,h,show ¬ (l.length : Int) ≤ 16 by omega]
    | succ d ih =>
      intro i hd
      have ihs:=ih (i + 1) Q17
      rw [prevE_succ] at ihs
      rw [drop_it (l:=l) (i:=i) Q17]
      by_cases he : 1 ≤ (rd_T40 l (i : Int)).f0 ∧ (rd_T40 l (i : Int)).f0 ≤ 30
      · cases hp : payOk (rd_T40 l (i : Int)).f1.f0 (rd_T40 l (i : Int)).f1.f1 (rd_T40 l (i : Int)).f1.f2 with
        | false =>
          refine Evt.step (f:=fun _ => some false) (fun k => by
            simp only [spec_ChainOk.l0,l6In_eq,payOk_spec,Option.bind_some]
            rw [if_pos Q17,if_pos Q17,if_pos Q151,hp,if_neg Q36]) (Evt.now _ ?_)
          simp [okFrom,itemOk,hp]
        | true =>
          by_cases hi : i = 0
          · subst hi
            refine Evt.step (f:=fun k => spec_ChainOk.l0 k l ((0 + 1 : Nat) : Int)) (fun k => by
              simp only [spec_ChainOk.l0,l6In_eq,payOk_spec,Option.bind_some]
              rw [if_pos Q17,if_pos Q17,if_pos Q151,hp,if_pos rfl,if_neg Q17,wrap_succ Q17]) ?_
            refine ihs.mono fun r hr => ?_
            rw [hr]
            have h0 : (0 : Int) < (rd_T40 l ((0 : Nat) : Int)).f0:=by omega
            simp only [okFrom,itemOk,prevE,hp,he,h0,decide_true,and_self,if_true,Bool.true_and,Bool.and_true]
          · have hw : wrap64 ((i : Int) - 1) = ((i - 1 : Nat) : Int):=by unfold wrap64;omega
            by_cases hlt : (rd_T40 l ((i - 1 : Nat) : Int)).f0 < (rd_T40 l (i : Int)).f0
            · refine Evt.step (f:=fun k => spec_ChainOk.l0 k l ((i + 1 : Nat) : Int)) (fun k => by
                simp only [spec_ChainOk.l0,l6In_eq,payOk_spec,Option.bind_some]
                rw [if_pos Q17,if_pos Q17,if_pos Q151,hp,if_pos rfl,if_pos Q17,hw,if_pos Q17,if_pos Q17,if_neg Q17,wrap_succ Q17]) ?_
              refine ihs.mono fun r hr => ?_
              rw [hr]
              simp [okFrom,itemOk,prevE,hp,he,hi,hlt]
            · refine Evt.step (f:=fun _ => some false) (fun k => by
                simp only [spec_ChainOk.l0,l6In_eq,payOk_spec,Option.bind_some]
                rw [if_pos Q17,if_pos Q17,if_pos Q151,hp,if_pos rfl,if_pos Q17,hw,if_pos Q17,if_pos Q17,if_pos Q17]) (Evt.now _ ?_)
              simp [okFrom,itemOk,prevE,hi,hlt]
      · refine Evt.step (f:=fun _ => some false) (fun k => by
          simp only [spec_ChainOk.l0,l6In_eq,Option.bind_some]
          rw [if_pos Q17,if_pos Q17,if_neg Q151]) (Evt.now _ ?_)
        simp [okFrom,itemOk,he]
  refine (Evt.congr (fun k => by unfold spec_ChainOk.f;rfl) (key l.length 0 Q17)).mono fun r hr => ?_
  simpa [chainOk,prevE] using hr
theorem rdLL_get {l : List (List Int)} {i : Nat} (h : i < l.length) : l[i]? = some (rd_L3 l (i : Int)):=by
  show _ = some (l.getD ((i : Int)).toNat _)
  rw [Int.toNat_natCast,List.getD_eq_getElem?_getD,List.getElem?_eq_getElem h]
  rfl
theorem drop_LL {l : List (List Int)} {i : Nat} (h : i < l.length) : l.drop i = rd_L3 l (i : Int) :: l.drop (i + 1):=by
  have e:=rdLL_get h
  rw [List.getElem?_eq_getElem h] at e
  rw [List.drop_eq_getElem_cons h,Option.some.inj e]
theorem take_LL {l : List (List Int)} {i : Nat} (h : i < l.length) : l.take (i + 1) = l.take i ++ [rd_L3 l (i : Int)]:=by
  rw [List.take_add_one,rdLL_get h]
  rfl
theorem rdLL_mem {l : List (List Int)} {i : Nat} (h : i < l.length) : rd_L3 l (i : Int) ∈ l:=List.mem_of_getElem? (rdLL_get h)
/-- Nodes that ascend behind e. -/
def ascB : Int → List Int → Bool
  | _,[] => true
  | e,x :: xs => decide (1 ≤ x ∧ x ≤ 4) && (decide (e < x) && ascB x xs)
def byOk (l : List Int) : Bool:=ascB 0 l && decide (3 ≤ l.length)
def prevI (l : List Int) (i : Nat) : Int:=if i = 0 then 0 else rd l ((i - 1 : Nat) : Int)
theorem prevI_succ (l : List Int) (i : Nat) : prevI l (i + 1) = rd l (i : Int):=by simp [prevI]
theorem nodeOk_eq (n : Int) : impl_nodeOk.f n = some (decide (1 ≤ n ∧ n ≤ 4)):=by
  unfold impl_nodeOk.f
  rw [within_eq]
  rfl
theorem ge3 (l : List Int) : decide ((l.length : Int) ≥ 3) = decide (3 ≤ l.length):=decide_eq_decide.2 Q17
theorem votersOk_ends (l : List Int) (hl : l.length ≤ 4611686018427387900) : Evt (fun k => impl_votersOk.f k l) (fun r => r = byOk l):=by
  have key : ∀ (d i : Nat),i + d = l.length → Evt (fun k => impl_votersOk.l0 k l l (l.length : Int) (i : Int)) (fun r => r = (ascB (prevI l i) (l.drop i) && decide (3 ≤ l.length))):=by
    intro d
    induction d with
    | zero =>
      intro i hd
      rw [List.drop_eq_nil_of_le Q17]
      exact Evt.step (f:=fun _ => some _) (fun k => by simp only [impl_votersOk.l0];rw [if_neg Q17]) (Evt.now _ (ge3 l))
    | succ d ih =>
      intro i hd
      have ihs:=ih (i + 1) Q17
      rw [prevI_succ] at ihs
      rw [drop_rd (l:=l) (i:=i) Q17,ascB]
      refine Evt.step (fun k => by simp only [impl_votersOk.l0,nodeOk_eq];rw [if_pos Q17,if_pos Q17,if_pos Q17,wrap_succ Q17]) ?_
      refine Evt.bind (P:=fun r => r = decide (1 ≤ rd l (i : Int) ∧ rd l (i : Int) ≤ 4)) (Evt.now _ rfl) fun t ht => ?_
      rw [← ht]
      refine Evt.ite (fun h => ?_) fun h => Evt.now _ Q117
      rw [h]
      have h1 : 1 ≤ rd l (i : Int):=by rw [ht,decide_eq_true_iff] at h;exact h.1
      by_cases hi : i = 0
      · subst hi
        refine Evt.neg Q17 (ihs.mono fun r hr => ?_)
        rw [hr,prevI,if_pos rfl,decide_eq_true (show (0 : Int) < rd l ((0 : Nat) : Int) by omega)]
        rfl
      · have hw : wrap64 ((i : Int) - 1) = ((i - 1 : Nat) : Int):=by unfold wrap64;omega
        rw [hw,prevI,if_neg hi]
        refine Evt.pos Q17 (Evt.pos Q17 (Evt.pos Q17 ?_))
        refine Evt.ite (fun h2 => Evt.now _ ?_) fun h2 => ihs.mono fun r hr => ?_
        · rw [decide_eq_false (show ¬ rd l ((i - 1 : Nat) : Int) < rd l (i : Int) by omega)];rfl
        · rw [hr,decide_eq_true (show rd l ((i - 1 : Nat) : Int) < rd l (i : Int) by omega)];rfl
  simp only [impl_votersOk.f]
  exact key l.length 0 Q17
theorem l13By_ends (l : List Int) (hl : l.length ≤ 4611686018427387900) : Evt (fun k => spec_l13By.f k l) (fun r => r = byOk l):=by
  have key : ∀ (d i : Nat),i + d = l.length → Evt (fun k => spec_l13By.l0 k l (i : Int)) (fun r => r = (ascB (prevI l i) (l.drop i) && decide (3 ≤ l.length))):=by
    intro d
    induction d with
    | zero =>
      intro i hd
      rw [List.drop_eq_nil_of_le Q17]
      exact Evt.step (f:=fun _ => some _) (fun k => by simp only [spec_l13By.l0];rw [if_neg Q17]) (Evt.now _ (ge3 l))
    | succ d ih =>
      intro i hd
      have ihs:=ih (i + 1) Q17
      rw [prevI_succ] at ihs
      rw [drop_rd (l:=l) (i:=i) Q17,ascB]
      refine Evt.step (fun k => by simp only [spec_l13By.l0,l6In_eq];rw [if_pos Q17,if_pos Q17,wrap_succ Q17]) ?_
      refine Evt.bind (P:=fun r => r = decide (1 ≤ rd l (i : Int) ∧ rd l (i : Int) ≤ 4)) (Evt.now _ rfl) fun t ht => ?_
      rw [← ht]
      refine Evt.ite (fun h => ?_) fun h => Evt.now _ Q117
      rw [h]
      have h1 : 1 ≤ rd l (i : Int):=by rw [ht,decide_eq_true_iff] at h;exact h.1
      by_cases hi : i = 0
      · subst hi
        refine Evt.neg Q17 (ihs.mono fun r hr => ?_)
        rw [hr,prevI,if_pos rfl,decide_eq_true (show (0 : Int) < rd l ((0 : Nat) : Int) by omega)]
        rfl
      · have hw : wrap64 ((i : Int) - 1) = ((i - 1 : Nat) : Int):=by unfold wrap64;omega
        rw [hw,prevI,if_neg hi]
        refine Evt.pos Q17 (Evt.pos Q17 (Evt.pos Q17 ?_))
        refine Evt.ite (fun h2 => Evt.now _ ?_) fun h2 => ihs.mono fun r hr => ?_
        · rw [decide_eq_false (show ¬ rd l ((i - 1 : Nat) : Int) < rd l (i : Int) by omega)];rfl
        · rw [hr,decide_eq_true (show rd l ((i - 1 : Nat) : Int) < rd l (i : Int) by omega)];rfl
  simp only [spec_l13By.f]
  exact key l.length 0 Q17
/-- The last three are of epochs one behind the other. -/
def lastThree (c : List It) : Bool:=decide ((rd_T40 c ((c.length - 3 : Nat) : Int)).f0 + 1 = (rd_T40 c ((c.length - 2 : Nat) : Int)).f0) && decide ((rd_T40 c ((c.length - 2 : Nat) : Int)).f0 + 1 = (rd_T40 c ((c.length - 1 : Nat) : Int)).f0)
def certOk (c : List It) (b : List (List Int)) : Bool:=chainOk c && (decide (3 ≤ c.length) && (decide (b.length = 3) && (b.all byOk && lastThree c)))
theorem okFrom_e {c : List It} : ∀ {e : Int},okFrom e c = true → ∀ x,x ∈ c → 1 ≤ x.f0 ∧ x.f0 ≤ 30:=by
  induction c with
  | nil => intro e _ x hx;cases hx
  | cons y ys ih =>
    intro e h x hx
    simp only [okFrom,itemOk,Bool.and_eq_true,decide_eq_true_iff] at h
    rcases List.mem_cons.1 hx with rfl|hx
    · exact h.1.1
    · exact ih h.2.2 x hx
theorem chainOk_e {c : List It} (h : chainOk c = true) {i : Nat} (hi : i < c.length) : wrap64 ((rd_T40 c (i : Int)).f0 + 1) = (rd_T40 c (i : Int)).f0 + 1:=by
  simp only [chainOk,Bool.and_eq_true] at h
  have:=okFrom_e h.1 _ (List.mem_of_getElem? (rdIt_get hi))
  exact wrap64_small Q17 Q17
theorem chainOk_len16 {c : List It} (h : chainOk c = true) : c.length ≤ 16:=by
  simp only [chainOk,Bool.and_eq_true,decide_eq_true_iff] at h
  exact h.2
theorem final_ends (c : List It) (hok : chainOk c = true) (h3 : 3 ≤ c.length) : Evt (fun k => impl_final.f k c) (fun r => r = (c.length : Int) - 1 ↔ lastThree c = true):=by
  have hl:=chainOk_len16 hok
  have w3 : ∀ i : Nat,2 < i → i ≤ c.length → wrap64 ((i : Int) - 3) = ((i - 3 : Nat) : Int) ∧ wrap64 ((i : Int) - 2) = ((i - 2 : Nat) : Int) ∧ wrap64 ((i : Int) - 1) = ((i - 1 : Nat) : Int):=by
    intro i h1 h2
    refine ⟨?_,?_,?_⟩ <;> (unfold wrap64;omega)
  have low : ∀ i : Nat,i < c.length → Evt (fun k => impl_final.l0 k c (i : Int)) (fun r => r ≤ (c.length : Int) - 2):=by
    intro i
    induction i with
    | zero =>
      intro hi
      exact Evt.step (f:=fun _ => some 0) (fun k => by simp only [impl_final.l0];rw [if_neg Q17]) (Evt.now _ Q17)
    | succ i ih =>
      intro hi
      by_cases h2 : 2 < i + 1
      · obtain ⟨a,b,d⟩:=w3 (i + 1) h2 Q17
        have ihs:=ih Q17
        rw [show i = i + 1 - 1 by omega] at ihs
        have e1:=chainOk_e hok (i:=i + 1 - 3) Q17
        have e2:=chainOk_e hok (i:=i + 1 - 2) Q17
        refine Evt.step (fun k => by simp only [impl_final.l0,a,b,d,e1,e2];rw [if_pos Q17,if_pos Q17,if_pos Q17,if_pos Q17,if_pos Q17]) ?_
        refine Evt.ite (fun _ => Evt.pos Q17 (Evt.pos Q17 ?_)) fun _ => ihs
        exact Evt.ite (fun _ => Evt.now _ Q17) fun _ => ihs
      · exact Evt.step (f:=fun _ => some 0) (fun k => by simp only [impl_final.l0];rw [if_neg Q17]) (Evt.now _ Q17)
  obtain ⟨a,b,d⟩:=w3 c.length Q17 (Nat.le_refl _)
  have e1:=chainOk_e hok (i:=c.length - 3) Q17
  have e2:=chainOk_e hok (i:=c.length - 2) Q17
  have lows:=low (c.length - 1) Q17
  simp only [impl_final.f]
  refine Evt.step (fun k => by simp only [impl_final.l0,a,b,d,e1,e2];rw [if_pos Q17,if_pos Q17,if_pos Q17,if_pos Q17,if_pos Q17]) ?_
  unfold lastThree
  refine Evt.ite (fun h1 => Evt.pos Q17 (Evt.pos Q17 ?_)) fun h1 => lows.mono fun r hr => ?_
  · rw [decide_eq_true h1,Bool.true_and,decide_eq_true_iff]
    exact Evt.ite (fun h2 => Evt.now _ ⟨fun _ => h2,fun _ => Q17⟩) fun h2 => lows.mono fun r hr => ⟨fun h4 => Q17,fun h4 => absurd h4 h2⟩
  · rw [decide_eq_false h1,Bool.false_and]
    exact ⟨fun h4 => Q17,fun h4 => (by cases h4)⟩
theorem containsBy_ends (b : List (List Int)) (hl : b.length ≤ 4611686018427387900) (hb : ∀ v,v ∈ b → v.length ≤ 4611686018427387900) : Evt (fun k => slices_ContainsFunc_int_int.f k b) (fun r => r = !(b.all byOk)):=by
  have key : ∀ (d i : Nat),i + d = b.length → Evt (fun k => slices_ContainsFunc_int_int.l0 k b (i : Int)) (fun r => r = !((b.drop i).all byOk)):=by
    intro d
    induction d with
    | zero =>
      intro i hd
      rw [List.drop_eq_nil_of_le Q17]
      exact Evt.step (f:=fun _ => some false) (fun k => by simp only [slices_ContainsFunc_int_int.l0];rw [if_neg Q17]) (Evt.now _ rfl)
    | succ d ih =>
      intro i hd
      have hi : i < b.length:=by omega
      rw [drop_LL hi,List.all_cons]
      refine Evt.step (fun k => by simp only [slices_ContainsFunc_int_int.l0];rw [if_pos Q17,if_pos Q17,wrap_succ Q17]) ?_
      refine Evt.bind (P:=fun r => r = byOk (rd_L3 b (i : Int))) (votersOk_ends (rd_L3 b (i : Int)) (hb _ (rdLL_mem hi))) fun t ht => ?_
      rw [← ht]
      exact Evt.ite (fun h => (ih (i + 1) Q17).mono fun r hr => by rw [hr,h];rfl) fun h => Evt.now _ Q117
  simp only [slices_ContainsFunc_int_int.f]
  exact key b.length 0 Q17
theorem certOk_impl (c : List It) (b : List (List Int)) (hc : c.length ≤ 4611686018427387900) (hl : b.length ≤ 4611686018427387900) (hb : ∀ v,v ∈ b → v.length ≤ 4611686018427387900) : Evt (fun k => impl_CertOk.f k c b) (fun r => r = certOk c b):=by
  simp only [impl_CertOk.f]
  unfold certOk
  refine Evt.bind (chainOk_impl c hc) fun t ht => ?_
  rw [← ht]
  refine Evt.ite (fun h => ?_) fun h => Evt.now _ Q117
  have hok : chainOk c = true:=by rw [← ht];exact h
  rw [h]
  refine Evt.ite (fun h2 => Evt.now _ (by rw [decide_eq_false (show ¬ 3 ≤ c.length by omega)];rfl)) fun h2 => ?_
  have h3 : 3 ≤ c.length:=by omega
  have hl16:=chainOk_len16 hok
  have w : wrap64 ((c.length : Int) - 1) = (c.length : Int) - 1:=wrap64_small Q17 Q17
  rw [decide_eq_true h3,w]
  refine Evt.bind (final_ends c hok h3) fun f hf => ?_
  refine Evt.ite (fun h4 => ?_) fun h4 => Evt.now _ ?_
  · rw [hf.1 h4]
    refine Evt.ite (fun h5 => ?_) fun h5 => Evt.now _ (by rw [decide_eq_false (show ¬ b.length = 3 by omega)];rfl)
    rw [decide_eq_true (show b.length = 3 by omega)]
    exact Evt.bind (containsBy_ends b hl hb) fun u hu => Evt.now _ (by rw [hu];simp)
  · have : lastThree c = false:=Bool.eq_false_iff.2 fun h6 => h4 (hf.2 h6)
    rw [this]
    simp
theorem certOk_spec (c : List It) (b : List (List Int)) (hc : c.length ≤ 4611686018427387900) (hl : b.length ≤ 4611686018427387900) (hb : ∀ v,v ∈ b → v.length ≤ 4611686018427387900) : Evt (fun k => spec_CertOk.f k c b) (fun r => r = certOk c b):=by
  simp only [spec_CertOk.f]
  unfold certOk
  have out : Evt (fun k => spec_CertOk.j0 k (c.length : Int) true c b) (fun r => r = false):=Evt.step (f:=fun _ => some false) (fun k => by simp only [spec_CertOk.j0];rw [if_pos trivial]) (Evt.now _ rfl)
  refine Evt.bind (chainOk_spec c hc) fun t ht => ?_
  rw [← ht]
  refine Evt.ite (fun h => ?_) fun h => out.mono fun r hr => (by rw [hr,Bool.eq_false_iff.2 h];rfl)
  have hok : chainOk c = true:=by rw [← ht];exact h
  rw [h]
  refine Evt.ite (fun h2 => out.mono fun r hr => (by rw [hr,decide_eq_false (show ¬ 3 ≤ c.length by omega)];rfl)) fun h2 => ?_
  have h3 : 3 ≤ c.length:=by omega
  have hl16:=chainOk_len16 hok
  rw [decide_eq_true h3]
  by_cases h5 : b.length = 3
  · have hf : ((b.length : Int) != 3) = false:=by simp;omega
    rw [hf,decide_eq_true h5]
    refine Evt.step (f:=fun k => spec_CertOk.l0 k (c.length : Int) ((0 : Nat) : Int) c b) (fun k => by simp only [spec_CertOk.j0];rw [if_neg Q36];rfl) ?_
    have key : ∀ (d i : Nat),i + d = b.length → Evt (fun k => spec_CertOk.l0 k (c.length : Int) (i : Int) c b) (fun r => r = ((b.drop i).all byOk && lastThree c)):=by
      intro d
      induction d with
      | zero =>
        intro i hd
        rw [List.drop_eq_nil_of_le Q17]
        have a1 : wrap64 ((c.length : Int) - 3) = ((c.length - 3 : Nat) : Int):=by unfold wrap64;omega
        have a2 : wrap64 ((c.length : Int) - 2) = ((c.length - 2 : Nat) : Int):=by unfold wrap64;omega
        have a3 : wrap64 ((c.length : Int) - 1) = ((c.length - 1 : Nat) : Int):=by unfold wrap64;omega
        have e1:=chainOk_e hok (i:=c.length - 3) Q17
        have e2:=chainOk_e hok (i:=c.length - 2) Q17
        refine Evt.step (fun k => by simp only [spec_CertOk.l0,a1,a2,a3,e1,e2];rw [if_neg Q17,if_pos Q17,if_pos Q17,if_pos Q17,if_pos Q17]) ?_
        unfold lastThree
        refine Evt.ite (fun h6 => Evt.pos Q17 (Evt.pos Q17 (Evt.now _ ?_))) fun h6 => Evt.now _ (by rw [decide_eq_false h6];rfl)
        rw [decide_eq_true h6,List.all_nil]
        rfl
      | succ d ih =>
        intro i hd
        have hi : i < b.length:=by omega
        rw [drop_LL hi,List.all_cons]
        refine Evt.step (fun k => by simp only [spec_CertOk.l0];rw [if_pos Q17,if_pos Q17,if_pos Q17,wrap_succ Q17]) ?_
        refine Evt.bind (l13By_ends _ (hb _ (rdLL_mem hi))) fun t ht => ?_
        rw [← ht]
        exact Evt.ite (fun h => (ih (i + 1) Q17).mono fun r hr => by rw [hr,h];rfl) fun h => Evt.now _ Q117
    exact key b.length 0 Q17
  · have hf : ((b.length : Int) != 3) = true:=by simp;omega
    rw [hf,decide_eq_false h5]
    exact out
def voteOk (n : Int) (c : List It) : Bool:=decide (1 ≤ n ∧ n ≤ 4) && (decide (0 < c.length) && chainOk c)
theorem l3Vote_ends (n : Int) (c : List It) (hl : c.length ≤ 4611686018427387900) : Evt (fun k => spec_l3Vote.f k n c) (fun r => r = voteOk n c):=by
  simp only [spec_l3Vote.f,l6In_eq,Option.bind_some]
  unfold voteOk
  refine Evt.ite (fun h => ?_) fun h => Evt.now _ Q117
  rw [h]
  refine Evt.bind (chainOk_spec c hl) fun t ht => ?_
  rw [ht]
  refine Evt.ite (fun h2 => Evt.now _ ?_) fun h2 => Evt.now _ (by rw [Bool.eq_false_iff.2 h2];simp)
  rw [h2]
  simp only [Bool.true_and,Bool.and_true]
  exact decide_of (by rw [decide_eq_true_iff];omega)
abbrev Vt:=S82
instance : DecidableEq Vt:=fun ⟨a,b⟩ ⟨a',b'⟩ => decidable_of_iff (a = a' ∧ b = b') Q51
theorem rdVt_get {l : List Vt} {i : Nat} (h : i < l.length) : l[i]? = some (rd_T82 l (i : Int)):=by
  show _ = some (l.getD ((i : Int)).toNat _)
  rw [Int.toNat_natCast,List.getD_eq_getElem?_getD,List.getElem?_eq_getElem h]
  rfl
theorem drop_vt {l : List Vt} {i : Nat} (h : i < l.length) : l.drop i = rd_T82 l (i : Int) :: l.drop (i + 1):=by
  have e:=rdVt_get h
  rw [List.getElem?_eq_getElem h] at e
  rw [List.drop_eq_getElem_cons h,Option.some.inj e]
theorem take_vt {l : List Vt} {i : Nat} (h : i < l.length) : l.take (i + 1) = l.take i ++ [rd_T82 l (i : Int)]:=by
  rw [List.take_add_one,rdVt_get h]
  rfl
theorem rdVt_mem {l : List Vt} {i : Nat} (h : i < l.length) : rd_T82 l (i : Int) ∈ l:=List.mem_of_getElem? (rdVt_get h)
/-- A vote of node n for chain c is among them. -/
def hasV (l : List Vt) (n : Int) (c : List It) : Bool:=l.any fun v => decide (v.f0 = n) && decide (v.f1 = c)
def votesFrom (p : List Vt) : List Vt → Bool
  | [] => true
  | v :: vs => voteOk v.f0 v.f1 && (!hasV p v.f0 v.f1 && votesFrom (p ++ [v]) vs)
def votesOk (l : List Vt) : Bool:=votesFrom [] l
theorem pre_iff (a b : List It) : a <+: b ↔ a.length ≤ b.length ∧ a.take a.length = b.take a.length:=by
  rw [List.take_of_length_le (Nat.le_refl _)]
  constructor
  · intro h
    exact ⟨h.length_le,List.prefix_iff_eq_take.1 h⟩
  · rintro ⟨_,h⟩
    exact List.prefix_iff_eq_take.2 h
theorem l1In_ends (a b : List It) (hl : a.length ≤ 4611686018427387900) : Evt (fun k => spec_l1In.f k a b) (fun r => r = decide (a <+: b)):=by
  by_cases h : (a.length : Int) > (b.length : Int)
  · refine Evt.congr (fun k => by unfold spec_l1In.f;rw [if_pos h]) (Evt.now _ ?_)
    apply decide_of
    rw [pre_iff]
    exact ⟨fun h2 => (by cases h2),fun h2 => absurd h2.1 Q17⟩
  · have hc:=cmp_loop a b a.length (fun k i => spec_l1In.l0 k a b (i : Int)) (fun k => by simp only [spec_l1In.l0];rw [if_neg Q17])
      (fun i hi he k => by
        rw [rdIt_get (l:=a) hi,rdIt_get (l:=b) Q17] at he
        have he':=Option.some.inj he
        simp only [spec_l1In.l0]
        rw [if_pos Q17,if_pos Q17,if_pos Q17,if_neg (by rw [neq_it];exact fun h2 => h2 he'),wrap_succ Q17])
      (fun i hi he k => by
        rw [rdIt_get (l:=a) hi,rdIt_get (l:=b) Q17] at he
        have he' : ¬ rd_T40 a (i : Int) = rd_T40 b (i : Int):=fun e => he (by rw [e])
        simp only [spec_l1In.l0]
        rw [if_pos Q17,if_pos Q17,if_pos Q17,if_pos (by rw [neq_it];exact he')])
    refine (Evt.congr (fun k => by unfold spec_l1In.f;rw [if_neg h];rfl) hc).mono fun r hr => decide_of ?_
    rw [hr,pre_iff]
    exact ⟨fun h2 => ⟨Q17,h2⟩,fun h2 => h2.2⟩
theorem l3Same_ends (a b : List It) (ha : a.length ≤ 4611686018427387900) : Evt (fun k => spec_l3Same.f k a b) (fun r => r = decide (a = b)):=by
  simp only [spec_l3Same.f]
  refine Evt.ite (fun h => ?_) fun h => Evt.now _ ?_
  · refine Evt.bind (l1In_ends a b ha) fun t ht => Evt.now _ ?_
    rw [ht]
    exact decide_eq_decide.2 ⟨fun hp => hp.eq_of_length Q17,fun e => e ▸ List.prefix_rfl⟩
  · exact (decide_eq_false fun e => h (by rw [e])).symm
theorem l3Has_ends (l : List Vt) (n : Int) (c : List It) (hl : l.length ≤ 4611686018427387900) (hb : ∀ v,v ∈ l → v.f1.length ≤ 4611686018427387900) : Evt (fun k => spec_l3Has.f k l n c) (fun r => r = hasV l n c):=by
  have key : ∀ (d i : Nat),i + d = l.length → Evt (fun k => spec_l3Has.l0 k l (i : Int) n c) (fun r => r = hasV (l.drop i) n c):=by
    intro d
    induction d with
    | zero =>
      intro i hd
      rw [List.drop_eq_nil_of_le Q17]
      exact Evt.step (f:=fun _ => some false) (fun k => by simp only [spec_l3Has.l0];rw [if_neg Q17]) (Evt.now _ rfl)
    | succ d ih =>
      intro i hd
      have hi : i < l.length:=by omega
      rw [drop_vt hi]
      refine Evt.step (fun k => by simp only [spec_l3Has.l0];rw [if_pos Q17,if_pos Q17,wrap_succ Q17]) ?_
      refine Evt.ite (fun hn => ?_) fun hn => (ih (i + 1) Q17).mono fun r hr => ?_
      · refine Evt.bind (l3Same_ends _ c (hb _ (rdVt_mem hi))) fun t ht => ?_
        refine Evt.ite (fun h => Evt.now _ ?_) fun h => (ih (i + 1) Q17).mono fun r hr => ?_
        · rw [hasV,List.any_cons,decide_eq_true hn,← ht,h];rfl
        · rw [hr,hasV,hasV,List.any_cons,← ht,Bool.eq_false_iff.2 h];simp
      · rw [hr,hasV,hasV,List.any_cons,decide_eq_false hn];rfl
  exact key l.length 0 Q17
theorem votesOk_spec (l : List Vt) (hl : l.length ≤ 4611686018427387900) (hb : ∀ v,v ∈ l → v.f1.length ≤ 4611686018427387900) : Evt (fun k => spec_VotesOk.f k l) (fun r => r = votesOk l):=by
  have key : ∀ (d i : Nat),i + d = l.length → Evt (fun k => spec_VotesOk.l0 k l (i : Int)) (fun r => r = votesFrom (l.take i) (l.drop i)):=by
    intro d
    induction d with
    | zero =>
      intro i hd
      rw [List.drop_eq_nil_of_le Q17]
      exact Evt.step (f:=fun _ => some true) (fun k => by simp only [spec_VotesOk.l0];rw [if_neg Q17]) (Evt.now _ rfl)
    | succ d ih =>
      intro i hd
      have hi : i < l.length:=by omega
      have ihs:=ih (i + 1) Q17
      rw [take_vt hi] at ihs
      rw [drop_vt hi,votesFrom]
      refine Evt.step (fun k => by simp only [spec_VotesOk.l0];rw [if_pos Q17,if_pos Q17,wrap_succ Q17,Int.toNat_natCast]) ?_
      refine Evt.bind (l3Vote_ends _ _ (hb _ (rdVt_mem hi))) fun t ht => ?_
      rw [← ht]
      refine Evt.ite (fun h => ?_) fun h => Evt.now _ Q117
      rw [h]
      refine Evt.pos Q17 ?_
      refine Evt.bind (l3Has_ends (l.take i) _ _ (by rw [List.length_take];omega) (fun v hv => hb v (List.mem_of_mem_take hv))) fun u hu => ?_
      rw [← hu]
      refine Evt.ite (fun h => Evt.now _ (by rw [h];rfl)) fun h => ihs.mono fun r hr => ?_
      rw [hr,Bool.eq_false_iff.2 h]
      rfl
  exact key l.length 0 Q17
theorem l1Copy_eq (c : List It) (h : c.length ≤ 1048576) : spec_l1Copy.f c = some c:=by
  unfold spec_l1Copy.f
  show (if ([] : List It).length + c.length < 4398046511104 then some ([] ++ c) else none) = some c
  rw [if_pos (by rw [List.length_nil];omega)]
  rfl
theorem l3VoteCopy_eq (n : Int) (c : List It) (h : c.length ≤ 1048576) : spec_l3VoteCopy.f n c = some (n,c):=by
  unfold spec_l3VoteCopy.f
  rw [l1Copy_eq c h]
  rfl
/-- A list of so many votes at most, each for a chain of no more than 16. -/
def VB (l : List Vt) (m : Nat) : Prop:=l.length ≤ m ∧ ∀ v,v ∈ l → v.f1.length ≤ 16
theorem VB.nil (m : Nat) : VB [] m:=⟨Q51,fun v h => by cases h⟩
theorem VB.mono {l : List Vt} {m n : Nat} (h : VB l m) (hm : m ≤ n) : VB l n:=⟨by have:=h.1;omega,h.2⟩
theorem VB.snoc {l : List Vt} {m : Nat} (h : VB l m) {n : Int} {c : List It} (hc : c.length ≤ 16) : VB (l ++ [⟨n,c⟩]) (m + 1):=by
  refine ⟨by have:=h.1;simp;omega,fun v hv => ?_⟩
  rcases List.mem_append.1 hv with hv|hv
  · exact h.2 v hv
  · rw [List.mem_singleton.1 hv];exact hc
theorem VB.sub {l k : List Vt} {m : Nat} (h : VB l m) (hl : k.length ≤ m) (hs : ∀ v,v ∈ k → v ∈ l) : VB k m:=⟨hl,fun v hv => h.2 v (hs v hv)⟩
theorem VB.big {l : List Vt} {m : Nat} (h : VB l m) : ∀ v,v ∈ l → v.f1.length ≤ 4611686018427387900:=fun v hv => by have:=h.2 v hv;omega
theorem l3Add_ends (l : List Vt) (n : Int) (c : List It) {m : Nat} (hl : VB l m) (hm : m ≤ 1048576) (hc : c.length ≤ 16) : Evt (fun k => spec_l3Add.f k l n c) (fun r => VB r.1 (m + 1)):=by
  have h1:=hl.1
  simp only [spec_l3Add.f,l3VoteCopy_eq n c Q17]
  refine Evt.bind (l3Has_ends l n c Q17 hl.big) fun t _ => ?_
  refine Evt.ite (fun _ => Evt.now _ (hl.mono Q17)) fun _ => ?_
  refine Evt.bind (P:=fun r => r = (n,c)) (Evt.now _ rfl) fun b hb => ?_
  subst hb
  exact Evt.pos Q17 (Evt.now _ (hl.snoc hc))
theorem xor_nonneg {a b : Int} (ha : 0 ≤ a) (ha2 : a < 4611686018427387904) (hb : 0 ≤ b) (hb2 : b < 4611686018427387904) : 0 ≤ Go.bits .xor .i64 a b:=by
  obtain ⟨x,rfl⟩:=Int.eq_ofNat_of_zero_le ha
  obtain ⟨y,rfl⟩:=Int.eq_ofNat_of_zero_le hb
  have hx : x < 2 ^ 62:=by omega
  have hy : y < 2 ^ 62:=by omega
  have e : Go.bits .xor .i64 (x : Int) (y : Int) = ((x ^^^ y : Nat) : Int):=by
    have hz : x ^^^ y < 2 ^ 62:=Nat.xor_lt_two_pow hx hy
    have h1 : (BitVec.ofInt 64 (x : Int)).toNat = x:=by
      rw [BitVec.ofInt_natCast,BitVec.toNat_ofNat];exact Nat.mod_eq_of_lt Q17
    have h2 : (BitVec.ofInt 64 (y : Int)).toNat = y:=by
      rw [BitVec.ofInt_natCast,BitVec.toNat_ofNat];exact Nat.mod_eq_of_lt Q17
    show IntKind.i64.wrap ((BitVec.ofInt 64 (x : Int) ^^^ BitVec.ofInt 64 (y : Int)).toNat : Int) = _
    rw [BitVec.toNat_xor,h1,h2,IntKind.wrap_i64]
    omega
  rw [e]
  omega
theorem rd_byte {l : List Int} (hl : ∀ x ∈ l,0 ≤ x ∧ x ≤ 255) (i : Int) : 0 ≤ rd l i ∧ rd l i ≤ 255:=by
  unfold rd
  rw [List.getD_eq_getElem?_getD]
  cases h : l[i.toNat]? with
  | none => simp
  | some x => exact hl x (List.mem_of_getElem? h)
theorem tmod_range {x n : Int} (hx : 0 ≤ x) (hn : 1 ≤ n) : 0 ≤ Int.tmod x n ∧ Int.tmod x n < n:=by
  rw [Int.tmod_eq_emod_of_nonneg hx]
  exact ⟨Int.emod_nonneg _ Q17,Int.emod_lt_of_pos _ Q17⟩
/-- A pick answers, and steps on by one. -/
theorem pick_ends {l : List Int} (hl : ∀ x ∈ l,0 ≤ x ∧ x ≤ 255) (p n : Int) (h0 : 0 ≤ p) (h1 : p ≤ 1000000000) :
    Evt (fun k => spec_l6Rd_pick.f k l p n) (fun r => r.2 = p + 1 ∧ 0 ≤ r.1 ∧ (1 ≤ n → r.1 < n)):=by
  have hw : wrap64 (p + 1) = p + 1:=by unfold wrap64;omega
  have hw1 : wrap64 (p + 1 - 1) = p:=by unfold wrap64;omega
  by_cases hn : n < 1
  · refine Evt.congr (f:=fun k => spec_l6Rd_pick.j0 k n true l (p + 1)) (fun k => by unfold spec_l6Rd_pick.f;rw [if_pos hn,hw]) ?_
    refine Evt.step (f:=fun _ => some (0,p + 1)) (fun k => by simp only [spec_l6Rd_pick.j0];rw [if_pos trivial]) ?_
    exact Evt.now _ ⟨rfl,Q51,fun h => Q17⟩
  · by_cases he : l = []
    · subst he
      refine Evt.congr (f:=fun k => spec_l6Rd_pick.j0 k n true [] (p + 1)) (fun k => by unfold spec_l6Rd_pick.f;rw [if_neg hn,hw];simp) ?_
      refine Evt.step (f:=fun _ => some (0,p + 1)) (fun k => by simp only [spec_l6Rd_pick.j0];rw [if_pos trivial]) ?_
      exact Evt.now _ ⟨rfl,Q51,fun h => by show (0 : Int) < n;omega⟩
    · have hlen : 0 < l.length:=List.length_pos_iff.2 he
      have hb : ((l.length : Int) == 0) = false:=by simp;omega
      refine Evt.congr (f:=fun k => spec_l6Rd_pick.j0 k n false l (p + 1)) (fun k => by unfold spec_l6Rd_pick.f;rw [if_neg hn,hw,hb]) ?_
      by_cases hp : p < (l.length : Int)
      · have hr:=rd_byte hl p
        have hwr : wrap64 (rd l p) = rd l p:=by unfold wrap64;omega
        refine Evt.step (f:=fun _ => some (Int.tmod (rd l p) n,p + 1)) (fun k => by
          simp only [spec_l6Rd_pick.j0,hw1]
          rw [if_neg Q36,if_pos hp,if_pos h0,if_neg Q17,hwr]) ?_
        have ht:=tmod_range hr.1 (show 1 ≤ n by omega)
        exact Evt.now _ ⟨rfl,ht.1,fun _ => ht.2⟩
      · have hL : (1 : Int) ≤ (l.length : Int):=by omega
        have ht1:=tmod_range h0 hL
        have w7 : wrap64 (p * 7) = p * 7:=by unfold wrap64;omega
        have w73 : wrap64 (p * 7 + 3) = p * 7 + 3:=by unfold wrap64;omega
        have ht2:=tmod_range (show 0 ≤ p * 7 + 3 by omega) hL
        have r1:=rd_byte hl (Int.tmod p (l.length : Int))
        have r2:=rd_byte hl (Int.tmod (p * 7 + 3) (l.length : Int))
        have hq : 0 ≤ Int.tdiv p (l.length : Int) ∧ Int.tdiv p (l.length : Int) ≤ p:=by
          rw [Int.tdiv_eq_ediv_of_nonneg h0]
          exact ⟨Int.ediv_nonneg h0 Q17,Int.ediv_le_self _ h0⟩
        generalize hA : rd l (Int.tmod p (l.length : Int)) = A at r1
        generalize hB : rd l (Int.tmod (p * 7 + 3) (l.length : Int)) = B at r2
        generalize hQ : Int.tdiv p (l.length : Int) = Q at hq
        have e1 : wrap64 A = A:=by unfold wrap64;omega
        have e2 : wrap64 B = B:=by unfold wrap64;omega
        have e3 : wrap64 Q = Q:=by unfold wrap64;omega
        have e4 : wrap64 (A * 131) = A * 131:=by unfold wrap64;omega
        have e5 : wrap64 (B * 1117) = B * 1117:=by unfold wrap64;omega
        have e6 : wrap64 (p * 29) = p * 29:=by unfold wrap64;omega
        have e7 : wrap64 (Q * 53) = Q * 53:=by unfold wrap64;omega
        have e8 : wrap64 (A * 131 + B * 1117) = A * 131 + B * 1117:=by unfold wrap64;omega
        have e9 : wrap64 (A * 131 + B * 1117 + p * 29) = A * 131 + B * 1117 + p * 29:=by unfold wrap64;omega
        obtain ⟨X,hXd⟩ : ∃ X,X = A * 131 + B * 1117 + p * 29 + Q * 53:=⟨_,rfl⟩
        have e10 : wrap64 (A * 131 + B * 1117 + p * 29 + Q * 53) = X:=by rw [hXd];unfold wrap64;omega
        have hX : 0 ≤ X ∧ X < 4611686018427387904:=by omega
        have hd : Int.tdiv X 64 = X / 64:=Int.tdiv_eq_ediv_of_nonneg hX.1
        have e11 : wrap64 (X / 64) = X / 64:=by unfold wrap64;omega
        have hx:=xor_nonneg hX.1 hX.2 (show 0 ≤ X / 64 by omega) (show X / 64 < 4611686018427387904 by omega)
        refine Evt.step (f:=fun _ => some (Int.tmod (Go.bits .xor .i64 X (X / 64)) n,p + 1)) (fun k => by
          simp only [spec_l6Rd_pick.j0,hw1,w7,w73]
          rw [if_neg Q36,if_neg hp,if_neg Q17,if_pos ht1.1,if_pos ht1.2,if_pos ht2.1,if_pos ht2.2,if_neg Q17]
          rw [hA,hB,hQ,e1,e2,e3,e4,e5,e6,e7,e8,e9,e10,hd,e11]) ?_
        have ht:=tmod_range hx (show 1 ≤ n by omega)
        exact Evt.now _ ⟨rfl,ht.1,fun _ => ht.2⟩
theorem open_bytes {l : List Int} (hl : ∀ x ∈ l,0 ≤ x ∧ x ≤ 255) : ∃ l',spec_l6Open.f l = some (l',0) ∧ ∀ x ∈ l',0 ≤ x ∧ x ≤ 255:=by
  unfold spec_l6Open.f
  by_cases h : (l.length : Int) > 2000
  · rw [if_pos h,if_pos Q17]
    exact ⟨_,rfl,fun x hx => hl x (List.mem_of_mem_take hx)⟩
  · rw [if_neg h]
    exact ⟨_,rfl,hl⟩
theorem bytes_of {l : List Int} (h : ∀ x ∈ l,(Lit.int .u8 x).wf = true) : ∀ x ∈ l,0 ≤ x ∧ x ≤ 255:=by
  intro x hx
  have:=h x hx
  simp [Lit.wf,IntKind.min,IntKind.max,IntKind.bits,IntKind.signed] at this
  omega
theorem pay_ends {l : List Int} (hl : ∀ x ∈ l,0 ≤ x ∧ x ≤ 255) (p : Int) (h0 : 0 ≤ p) (h1 : p ≤ 999999990) :
    Evt (fun k => spec_l71Pay.f k l p) (fun r => r.2.2.2 = p + 3 ∧ (1 ≤ r.1 ∧ r.1 ≤ 3) ∧ (1 ≤ r.2.1 ∧ r.2.1 ≤ 3) ∧ r.1 ≠ r.2.1 ∧ (1 ≤ r.2.2.1 ∧ r.2.2.1 ≤ 9)):=by
  simp only [spec_l71Pay.f]
  refine Evt.bind (pick_ends hl p 3 h0 Q17) (fun a ha => ?_)
  refine Evt.bind (pick_ends hl a.2 2 Q17 Q17) (fun b hb => ?_)
  refine Evt.bind (pick_ends hl b.2 9 Q17 Q17) (fun c hc => ?_)
  obtain ⟨a1,a2⟩:=a
  obtain ⟨b1,b2⟩:=b
  obtain ⟨c1,c2⟩:=c
  simp only at ha hb hc ⊢
  have e1 : wrap64 (1 + a1) = 1 + a1:=by unfold wrap64;omega
  have e2 : wrap64 (1 + a1 + b1) = 1 + a1 + b1:=by unfold wrap64;omega
  have e3 : wrap64 (1 + c1) = 1 + c1:=by unfold wrap64;omega
  have e4 : Int.tmod (1 + a1 + b1) 3 = (1 + a1 + b1) % 3:=Int.tmod_eq_emod_of_nonneg Q17
  have e5 : wrap64 ((1 + a1 + b1) % 3 + 1) = (1 + a1 + b1) % 3 + 1:=by unfold wrap64;omega
  rw [e1,e2,e3,e4,e5]
  refine Evt.now _ ?_
  simp only
  omega
theorem anyPay_ends {l : List Int} (hl : ∀ x ∈ l,0 ≤ x ∧ x ≤ 255) (p : Int) (h0 : 0 ≤ p) (h1 : p ≤ 999999980) :
    Evt (fun k => spec_l71AnyPay.f k l p) (fun r => p ≤ r.2.2.2 ∧ r.2.2.2 ≤ p + 5):=by
  simp only [spec_l71AnyPay.f]
  refine Evt.bind (pay_ends hl p h0 Q17) (fun a ha => ?_)
  refine Evt.bind (pick_ends hl a.2.2.2 12 Q17 Q17) (fun b hb => ?_)
  refine Evt.ite (fun _ => Evt.now _ (by simp only;omega)) (fun _ => ?_)
  refine Evt.ite (fun _ => ?_) (fun _ => ?_)
  · simp only [Option.bind_some]
    refine Evt.bind (pick_ends hl b.2 2 Q17 Q17) (fun c hc => ?_)
    refine Evt.pos hc.2.1 (Evt.pos (by have:=hc.2.2 Q17;simp;omega) (Evt.now _ (by simp only;omega)))
  · refine Evt.ite (fun _ => ?_) (fun _ => Evt.now _ (by simp only;omega))
    simp only [Option.bind_some]
    refine Evt.bind (pick_ends hl b.2 2 Q17 Q17) (fun c hc => ?_)
    refine Evt.pos hc.2.1 (Evt.pos (by have:=hc.2.2 Q17;simp;omega) (Evt.now _ (by simp only;omega)))
/-- The last epoch, from e on. -/
def lastE : Int → List It → Int
  | e,[] => e
  | _,x :: xs => lastE x.f0 xs
theorem okFrom_snoc (c : List It) (x : It) : ∀ e,okFrom e (c ++ [x]) = (okFrom e c && (itemOk x && decide (lastE e c < x.f0))):=by
  induction c with
  | nil => intro e;simp [okFrom,lastE];rfl
  | cons y ys ih =>
    intro e
    simp only [List.cons_append,okFrom,lastE,ih]
    cases itemOk y <;> cases decide (e < y.f0) <;> first|(simp;done)|(simp;rfl)
theorem lastE_snoc (c : List It) (x : It) : ∀ e,lastE e (c ++ [x]) = x.f0:=by
  induction c with
  | nil => intro e;rfl
  | cons y ys ih => intro e;simp only [List.cons_append,lastE,ih]
theorem chain_ends {l : List Int} (hl : ∀ x ∈ l,0 ≤ x ∧ x ≤ 255) (p : Int) (h0 : 0 ≤ p) (h1 : p ≤ 999999000) :
    Evt (fun k => spec_l71Chain.f k l p) (fun r => chainOk r.1 = true ∧ r.1.length ≤ 6 ∧ p ≤ r.2 ∧ r.2 ≤ p + 40):=by
  have key : ∀ (d : Nat) (c : List It) (e q : Int),d + c.length ≤ 6 → okFrom 0 c = true → e = lastE 0 c → 0 ≤ e → e ≤ 3 * (c.length : Int) → p ≤ q → q ≤ p + 1 + 5 * (c.length : Int) →
      Evt (fun k => spec_l71Chain.l0 k c e (d : Int) l q) (fun r => chainOk r.1 = true ∧ r.1.length ≤ 6 ∧ p ≤ r.2 ∧ r.2 ≤ p + 40):=by
    intro d
    induction d with
    | zero =>
      intro c e q hd hc he he0 he3 hq hq2
      refine Evt.step (f:=fun _ => some (c,q)) (fun k => by simp only [spec_l71Chain.l0];rw [if_neg Q36]) (Evt.now _ ⟨?_,by show c.length ≤ 6;omega,hq,by show q ≤ p + 40;omega⟩)
      simp [chainOk,hc]
      omega
    | succ d ih =>
      intro c e q hd hc he he0 he3 hq hq2
      refine Evt.step (fun k => by simp only [spec_l71Chain.l0];rw [if_pos Q17]) ?_
      refine Evt.bind (pick_ends hl q 6 Q17 Q17) fun a ha => ?_
      refine Evt.bind (pick_ends hl a.2 3 Q17 Q17) fun b hb => ?_
      refine Evt.bind (pay_ends hl b.2 Q17 Q17) fun y hy => ?_
      obtain ⟨a1,a2⟩:=a
      obtain ⟨b1,b2⟩:=b
      obtain ⟨y1,y2,y3,y4⟩:=y
      simp only at ha hb hy ⊢
      have e5 : Int.tdiv a1 5 = a1 / 5:=Int.tdiv_eq_ediv_of_nonneg Q17
      have hab : 0 ≤ a1 / 5 * b1 ∧ a1 / 5 * b1 ≤ 2:=by
        have h5 : a1 / 5 = 0 ∨ a1 / 5 = 1:=by omega
        rcases h5 with h5|h5 <;> rw [h5] <;> omega
      have w1 : wrap64 (e + 1) = e + 1:=wrap64_small Q17 Q17
      have w2 : wrap64 (a1 / 5) = a1 / 5:=wrap64_small Q17 Q17
      have w3 : wrap64 (a1 / 5 * b1) = a1 / 5 * b1:=wrap64_small Q17 Q17
      rw [e5,w1,w2,w3]
      generalize a1 / 5 * b1 = m at hab ⊢
      have w4 : wrap64 (e + 1 + m) = e + 1 + m:=wrap64_small Q17 Q17
      have w5 : wrap64 (((d + 1 : Nat) : Int) - 1) = (d : Int):=by unfold wrap64;omega
      rw [w4,w5]
      refine Evt.pos Q17 ?_
      refine ih _ _ _ Q111 ?_ (by rw [lastE_snoc]) Q17 Q111 Q17 Q111
      rw [okFrom_snoc,hc,← he]
      have hp : payOk y1 y2 y3 = true:=by unfold payOk;exact decide_eq_true Q17
      simp [itemOk,hp]
      omega
  simp only [spec_l71Chain.f]
  refine Evt.bind (pick_ends hl p 7 h0 Q17) fun a ha => ?_
  obtain ⟨a1,a2⟩:=a
  simp only at ha ⊢
  obtain ⟨d,rfl⟩:=Int.eq_ofNat_of_zero_le ha.2.1
  have:=ha.2.2 Q17
  exact key d [] 0 a2 Q111 rfl rfl Q17 Q51 Q17 Q111
theorem off_ends {l : List Int} (hl : ∀ x ∈ l,0 ≤ x ∧ x ≤ 255) (p : Int) (h0 : 0 ≤ p) (h1 : p ≤ 999998000) :
    Evt (fun k => spec_l71Off.f k l p) (fun r => r.1.length ≤ 7 ∧ p ≤ r.2 ∧ r.2 ≤ p + 60):=by
  simp only [spec_l71Off.f]
  refine Evt.bind (chain_ends hl p h0 Q17) fun c hc => ?_
  obtain ⟨c1,c2⟩:=c
  obtain ⟨_,hcl,hc1,hc2⟩:=hc
  simp only at hcl hc1 hc2 ⊢
  refine Evt.bind (pick_ends hl c2 16 Q17 Q17) fun a ha => ?_
  refine Evt.ite (fun _ => ?_) fun _ => Evt.ite (fun _ => ?_) fun _ => Evt.ite (fun _ => ?_) fun _ => Evt.now _ ⟨by show c1.length ≤ 7;omega,Q17,Q17⟩
  · refine Evt.bind (pick_ends hl a.2 4 Q17 Q17) fun b hb => ?_
    refine Evt.bind (anyPay_ends hl b.2 Q17 Q17) fun y hy => ?_
    refine Evt.pos Q17 (Evt.now _ ⟨Q111,by show p ≤ y.2.2.2;omega,by show y.2.2.2 ≤ p + 60;omega⟩)
  · refine Evt.ite (fun hpos => ?_) fun _ => Evt.now _ ⟨by show c1.length ≤ 7;omega,Q17,Q17⟩
    refine Evt.bind (pick_ends hl a.2 (c1.length : Int) Q17 Q17) fun b hb => ?_
    simp only [Option.bind_some]
    refine Evt.bind (pick_ends hl b.2 3 Q17 Q17) fun d hd => ?_
    have hb2:=hb.2.2 Q17
    have hd2:=hd.2.2 Q17
    refine Evt.pos hd.2.1 (Evt.pos Q111 (Evt.pos hb.2.1 (Evt.pos hb2 (Evt.now _ ⟨Q111,by show p ≤ d.2;omega,by show d.2 ≤ p + 60;omega⟩))))
  · refine Evt.ite (fun hpos => ?_) fun _ => Evt.now _ ⟨by show c1.length ≤ 7;omega,Q17,Q17⟩
    refine Evt.bind (pick_ends hl a.2 (c1.length : Int) Q17 Q17) fun b hb => ?_
    refine Evt.bind (anyPay_ends hl b.2 Q17 Q17) fun y hy => ?_
    have hb2:=hb.2.2 Q17
    refine Evt.pos hb.2.1 (Evt.pos hb2 (Evt.now _ ⟨Q111,by show p ≤ y.2.2.2;omega,by show y.2.2.2 ≤ p + 60;omega⟩))
theorem two_ends {l : List Int} (hl : ∀ x ∈ l,0 ≤ x ∧ x ≤ 255) (p : Int) (h0 : 0 ≤ p) (h1 : p ≤ 999990000) :
    Evt (fun k => spec_l71Two.f k l p) (fun r => r.1.length ≤ 9 ∧ r.2.1.length ≤ 9 ∧ p ≤ r.2.2 ∧ r.2.2 ≤ p + 200):=by
  simp only [spec_l71Two.f]
  refine Evt.bind (off_ends hl p h0 Q17) fun a ha => ?_
  obtain ⟨a,a2⟩:=a
  simp only at ha ⊢
  refine Evt.bind (off_ends hl a2 Q17 Q17) fun b hb => ?_
  obtain ⟨b,b2⟩:=b
  simp only at hb ⊢
  refine Evt.bind (pick_ends hl b2 4 Q17 Q17) fun c hc => ?_
  have key : ∀ (d : Nat) (x : List It) (q : Int),d + x.length ≤ 9 → p ≤ q → q + 20 * (d : Int) ≤ p + 190 → Evt (fun k => spec_l71Two.l0 k a x (d : Int) l q) (fun r => r.1.length ≤ 9 ∧ r.2.1.length ≤ 9 ∧ p ≤ r.2.2 ∧ r.2.2 ≤ p + 200):=by
    intro d
    induction d with
    | zero =>
      intro x q hd hq1 hq2
      refine Evt.step (fun k => by simp only [spec_l71Two.l0];rw [if_neg Q36]) ?_
      refine Evt.bind (pick_ends hl q 2 Q17 Q17) fun e he => ?_
      exact Evt.ite (fun _ => Evt.now _ ⟨by show x.length ≤ 9;omega,by show a.length ≤ 9;omega,by show p ≤ e.2;omega,by show e.2 ≤ p + 200;omega⟩) fun _ => Evt.now _ ⟨by show a.length ≤ 9;omega,by show x.length ≤ 9;omega,by show p ≤ e.2;omega,by show e.2 ≤ p + 200;omega⟩
    | succ d ih =>
      intro x q hd hq1 hq2
      have w : wrap64 (((d + 1 : Nat) : Int) - 1) = (d : Int):=by unfold wrap64;omega
      refine Evt.step (fun k => by simp only [spec_l71Two.l0,w];rw [if_pos Q17]) ?_
      refine Evt.ite (fun hx => ?_) fun _ => ?_
      · have w1 : wrap64 ((x.length : Int) - 1) = (x.length : Int) - 1:=wrap64_small Q17 Q17
        rw [w1]
        refine Evt.pos Q17 (Evt.pos Q17 ?_)
        refine Evt.bind (pick_ends hl q 2 Q17 Q17) fun e he => ?_
        refine Evt.bind (pay_ends hl e.2 Q17 Q17) fun y hy => ?_
        exact Evt.pos Q17 (ih _ _ Q111 Q17 Q17)
      · refine Evt.bind (pick_ends hl q 2 Q17 Q17) fun e he => ?_
        refine Evt.bind (pay_ends hl e.2 Q17 Q17) fun y hy => ?_
        exact Evt.pos Q17 (ih _ _ Q111 Q17 Q17)
  refine Evt.ite (fun _ => ?_) fun _ => ?_
  · refine Evt.bind (P:=fun r => r = []) (Evt.now [] rfl) fun y0 hy0 => ?_
    have w1 : wrap64 ((a.length : Int) + 1) = (a.length : Int) + 1:=wrap64_small Q17 Q17
    rw [w1]
    refine Evt.bind (pick_ends hl c.2 ((a.length : Int) + 1) Q17 Q17) fun e he => ?_
    have he':=he.2.2 Q17
    refine Evt.pos he.2.1 (Evt.pos Q17 ?_)
    refine Evt.bind (P:=fun r => r = a.take e.1.toNat) (Evt.now _ rfl) fun x hx => ?_
    have hx7 : (y0 ++ x).length ≤ 7:=by rw [hy0,hx,List.nil_append,List.length_take];omega
    have hx8 : y0.length + x.length ≤ 7:=by rw [← List.length_append];exact hx7
    refine Evt.pos Q17 ?_
    refine Evt.bind (pick_ends hl e.2 3 Q17 Q17) fun f hf => ?_
    obtain ⟨f1,f2⟩:=f
    simp only at hf ⊢
    have hf':=hf.2.2 Q17
    obtain ⟨d,rfl⟩:=Int.eq_ofNat_of_zero_le hf.2.1
    exact key d (y0 ++ x) f2 Q17 Q17 Q17
  · refine Evt.bind (pick_ends hl c.2 2 Q17 Q17) fun e he => ?_
    exact Evt.ite (fun _ => Evt.now _ ⟨by show b.length ≤ 9;omega,by show a.length ≤ 9;omega,by show p ≤ e.2;omega,by show e.2 ≤ p + 200;omega⟩) fun _ => Evt.now _ ⟨by show a.length ≤ 9;omega,by show b.length ≤ 9;omega,by show p ≤ e.2;omega,by show e.2 ≤ p + 200;omega⟩
theorem chainOk_len {c : List It} (h : chainOk c = true) : c.length ≤ 16:=by
  simp only [chainOk,Bool.and_eq_true,decide_eq_true_iff] at h
  exact h.2
theorem votesL2 {l : List Int} (hl : ∀ x ∈ l,0 ≤ x ∧ x ≤ 255) (c : List It) (n i : Int) (hc : c.length ≤ 16) (hi : 0 ≤ i) (hi2 : i ≤ (c.length : Int)) (Q : List Vt × Int → Prop) :
    ∀ (d m : Nat) (x : List Vt) (q : Int),VB x m → m + d ≤ 1000 → 0 ≤ q → q + d ≤ 999990000 →
    (∀ (y : List Vt) (q' : Int),VB y (m + d) → q ≤ q' → q' ≤ q + d → Evt (fun k => spec_l71Votes.l1 k y c n (wrap64 (i + 1)) l q') Q) →
    d ≤ 4 → Evt (fun k => spec_l71Votes.l2 k x c n i (5 - (d : Int)) l q) Q:=by
  intro d
  induction d with
  | zero =>
    intro m x q hx hm hq0 hq1 hk hd
    exact Evt.step (fun k => by simp only [spec_l71Votes.l2];rw [if_neg Q17]) (hk x q hx Q17 Q17)
  | succ d ih =>
    intro m x q hx hm hq0 hq1 hk hd
    have w : wrap64 (5 - ((d + 1 : Nat) : Int) + 1) = 5 - (d : Int):=by unfold wrap64;omega
    refine Evt.step (fun k => by simp only [spec_l71Votes.l2,w];rw [if_pos Q17]) ?_
    refine Evt.bind (pick_ends hl q 9 hq0 Q17) fun a ha => ?_
    refine Evt.ite (fun _ => Evt.pos hi (Evt.pos hi2 ?_)) fun _ => ?_
    · refine Evt.bind (l3Add_ends x _ (c.take i.toNat) hx Q17 (by rw [List.length_take];omega)) fun b hb => ?_
      exact ih (m + 1) b.1 a.2 hb Q17 Q17 Q17 (fun y q' hy h1 h2 => hk y q' (hy.mono Q17) Q17 Q17) Q17
    · exact ih m x a.2 hx Q17 Q17 Q17 (fun y q' hy h1 h2 => hk y q' (hy.mono Q17) Q17 Q17) Q17
theorem votesL1 {l : List Int} (hl : ∀ x ∈ l,0 ≤ x ∧ x ≤ 255) (c : List It) (n : Int) (hc : c.length ≤ 16) (Q : List Vt × Int → Prop) :
    ∀ (d i m : Nat) (x : List Vt) (q : Int),d + i = c.length + 1 → VB x m → m + 4 * d ≤ 1000 → 0 ≤ q → q + 4 * d ≤ 999990000 →
    (∀ (y : List Vt) (q' : Int),VB y (m + 4 * d) → q ≤ q' → q' ≤ q + 4 * d → Evt (fun k => spec_l71Votes.l1 k y c n ((c.length + 1 : Nat) : Int) l q') Q) →
    Evt (fun k => spec_l71Votes.l1 k x c n (i : Int) l q) Q:=by
  intro d
  induction d with
  | zero =>
    intro i m x q hd hx hm hq0 hq1 hk
    have e : i = c.length + 1:=by omega
    subst e
    exact hk x q hx Q17 Q17
  | succ d ih =>
    intro i m x q hd hx hm hq0 hq1 hk
    refine Evt.step (f:=fun k => spec_l71Votes.l2 k x c n (i : Int) (5 - ((4 : Nat) : Int)) l q) (fun k => by simp only [spec_l71Votes.l1];rw [if_pos Q17];rfl) ?_
    refine votesL2 hl c n i hc Q17 Q17 Q 4 m x q hx Q17 hq0 Q17 (fun y q' hy h1 h2 => ?_) Q17
    rw [wrap_succ Q17]
    exact ih (i + 1) (m + 4) y q' Q17 hy Q17 Q17 Q17 fun z q2 hz h3 h4 => hk z q2 (hz.mono Q17) Q17 Q17
theorem votesL0 {l : List Int} (hl : ∀ x ∈ l,0 ≤ x ∧ x ≤ 255) : ∀ (d m : Nat) (x : List Vt) (c : List It) (q : Int),c.length ≤ 16 → VB x m → m + 68 * d ≤ 1000 → 0 ≤ q → q + 300 * d ≤ 999980000 →
    Evt (fun k => spec_l71Votes.l0 k x c (d : Int) l q) (fun r => VB r.1 (m + 68 * d) ∧ q ≤ r.2 ∧ r.2 ≤ q + 300 * d):=by
  intro d
  induction d with
  | zero =>
    intro m x c q hc hx hm hq0 hq1
    exact Evt.step (f:=fun _ => some (x,q)) (fun k => by simp only [spec_l71Votes.l0];rw [if_neg Q36]) (Evt.now _ ⟨hx,by show q ≤ q;omega,by show q ≤ _;omega⟩)
  | succ d ih =>
    intro m x c q hc hx hm hq0 hq1
    have w : wrap64 (((d + 1 : Nat) : Int) - 1) = (d : Int):=by unfold wrap64;omega
    have next : ∀ (y : List Vt) (c' : List It) (q' : Int),VB y (m + 68) → c'.length ≤ 16 → q ≤ q' → q' ≤ q + 300 → Evt (fun k => spec_l71Votes.l0 k y c' (d : Int) l q') (fun r => VB r.1 (m + 68 * (d + 1)) ∧ q ≤ r.2 ∧ r.2 ≤ q + 300 * ((d + 1 : Nat) : Int)):=by
      intro y c' q' hy hc' h1 h2
      exact (ih (m + 68) y c' q' hc' hy Q17 Q17 Q17).mono fun r hr => ⟨hr.1.mono Q17,Q17,Q17⟩
    refine Evt.step (f:=fun k => spec_l71Votes.l1 k x c ((d + 1 : Nat) : Int) ((1 : Nat) : Int) l q) (fun k => by simp only [spec_l71Votes.l0];rw [if_pos Q17];rfl) ?_
    refine votesL1 hl c _ hc _ c.length 1 m x q Q17 hx Q17 hq0 Q17 fun y q1 hy h1 h2 => ?_
    have hy68:=hy.mono (show m + 4 * c.length ≤ m + 68 by omega)
    refine Evt.step (fun k => by simp only [spec_l71Votes.l1];rw [if_neg Q17]) ?_
    refine Evt.bind (two_ends hl q1 Q17 Q17) fun b hb => ?_
    have hb2:=hb.2.1
    have hb3:=hb.2.2
    have skip : ∀ q2 : Int,q ≤ q2 → q2 ≤ q + 300 → Evt (fun k => spec_l71Votes.j3 k y c ((d + 1 : Nat) : Int) b.2.1 false l q2) (fun r => VB r.1 (m + 68 * (d + 1)) ∧ q ≤ r.2 ∧ r.2 ≤ q + 300 * ((d + 1 : Nat) : Int)):=by
      intro q2 h3 h4
      refine Evt.step (fun k => by simp only [spec_l71Votes.j3,w];rw [if_neg Q36]) ?_
      refine Evt.bind (chainOk_spec b.2.1 Q17) fun t ht => ?_
      exact Evt.ite (fun _ => next y b.2.1 q2 hy68 Q17 h3 h4) fun _ => next y c q2 hy68 hc h3 h4
    refine Evt.ite (fun hpos => ?_) fun _ => skip b.2.2 Q17 Q17
    refine Evt.bind (pick_ends hl b.2.2 2 Q17 Q17) fun a ha => ?_
    cases hf : (a.1 == 0) with
    | false => exact skip a.2 Q17 Q17
    | true =>
      refine Evt.step (fun k => by simp only [spec_l71Votes.j3,w];rw [if_pos trivial]) ?_
      refine Evt.bind (pick_ends hl a.2 (c.length : Int) Q17 Q17) fun e he => ?_
      have he2:=he.2.2 Q17
      have hw : wrap64 ((c.length : Int) - 1) = (c.length : Int) - 1:=wrap64_small Q17 Q17
      rw [l1Copy_eq _ (by rw [List.length_take];omega),hw]
      refine Evt.pos he.2.1 (Evt.pos Q17 ?_)
      refine Evt.bind (P:=fun r => r = c.take e.1.toNat) (Evt.now _ rfl) fun t ht => ?_
      have htl : t.length ≤ 15:=by rw [ht,List.length_take];omega
      refine Evt.pos Q17 (Evt.pos Q17 ?_)
      refine Evt.bind (pay_ends hl e.2 Q17 Q17) fun f hf => ?_
      refine Evt.pos Q17 ?_
      refine Evt.bind (P:=fun r : List It => r.length ≤ 16) (Evt.now _ Q111) fun z hz => ?_
      refine Evt.bind (chainOk_spec z Q17) fun u hu => ?_
      exact Evt.ite (fun _ => next y z f.2.2.2 hy68 Q17 Q17 Q17) fun _ => next y c f.2.2.2 hy68 hc Q17 Q17
theorem votes_ends {l : List Int} (hl : ∀ x ∈ l,0 ≤ x ∧ x ≤ 255) (p : Int) (h0 : 0 ≤ p) (h1 : p ≤ 999970000) :
    Evt (fun k => spec_l71Votes.f k l p) (fun r => VB r.1 204 ∧ p ≤ r.2 ∧ r.2 ≤ p + 1000):=by
  simp only [spec_l71Votes.f]
  refine Evt.bind (chain_ends hl p h0 Q17) fun c hc => ?_
  obtain ⟨_,hcl,hc1,hc2⟩:=hc
  refine Evt.bind (pick_ends hl c.2 3 Q17 Q17) fun a ha => ?_
  have ha2:=ha.2.2 Q17
  obtain ⟨d,hd⟩:=Int.eq_ofNat_of_zero_le (show 0 ≤ 1 + a.1 by omega)
  have w : wrap64 (1 + a.1) = (d : Int):=by rw [wrap64_small Q17 Q17];exact hd
  rw [w]
  exact (votesL0 hl d 0 [] c.1 a.2 Q17 (VB.nil 0) Q17 Q17 Q17).mono fun r hr => ⟨hr.1.mono Q17,Q17,Q17⟩
theorem rdC_mem {l : List (List It)} {i : Nat} (h : i < l.length) : rd_L7 l (i : Int) ∈ l:=by
  have e : rd_L7 l (i : Int) = l[i]:=by
    show l.getD ((i : Int)).toNat _ = _
    rw [Int.toNat_natCast,List.getD_eq_getElem?_getD,List.getElem?_eq_getElem h]
    rfl
  rw [e]
  exact List.getElem_mem h
theorem many_any (l : List Vt) (c : List It) (hl : l.length ≤ 4611686018427387900) (hb : ∀ v,v ∈ l → v.f1.length ≤ 4611686018427387900) : Evt (fun k => spec_l3Many.f k l c) (fun _ => True):=by
  have key : ∀ (d i : Nat) (a : Int),i + d = l.length → Evt (fun k => spec_l3Many.l0 k l c a (i : Int)) (fun _ => True):=by
    intro d
    induction d with
    | zero =>
      intro i a hd
      exact Evt.step (f:=fun _ => some a) (fun k => by simp only [spec_l3Many.l0];rw [if_neg Q17]) (Evt.now _ trivial)
    | succ d ih =>
      intro i a hd
      have hi : i < l.length:=by omega
      refine Evt.step (fun k => by simp only [spec_l3Many.l0];rw [if_pos Q17,if_pos Q17,wrap_succ (i:=i) Q17]) ?_
      refine Evt.bind (l3Same_ends _ c (hb _ (rdVt_mem hi))) fun t ht => ?_
      exact Evt.ite (fun h => ih (i + 1) _ Q17) fun h => ih (i + 1) a Q17
  simp only [spec_l3Many.f]
  exact key l.length 0 _ Q17
theorem sure_any (l : List Vt) (c : List It) (hl : l.length ≤ 4611686018427387900) (hb : ∀ v,v ∈ l → v.f1.length ≤ 4611686018427387900) (hc : c.length ≤ 4611686018427387900) : Evt (fun k => spec_l11Sure.f k l c) (fun _ => True):=by
  have key : ∀ (d i : Nat),i + d = c.length + 1 → Evt (fun k => spec_l11Sure.l0 k l c (i : Int)) (fun _ => True):=by
    intro d
    induction d with
    | zero =>
      intro i hd
      exact Evt.step (f:=fun _ => some true) (fun k => by simp only [spec_l11Sure.l0];rw [if_neg Q17]) (Evt.now _ trivial)
    | succ d ih =>
      intro i hd
      refine Evt.step (fun k => by simp only [spec_l11Sure.l0];rw [if_pos Q17,if_pos Q17,wrap_succ Q17,Int.toNat_natCast]) ?_
      refine Evt.bind (many_any l (c.take i) hl hb) fun t ht => ?_
      exact Evt.ite (fun h => Evt.now _ trivial) fun h => ih (i + 1) Q17
  simp only [spec_l11Sure.f]
  exact key c.length 1 Q17
theorem finalIn_ends (c : List It) (hc : c.length ≤ 1000000) : Evt (fun k => spec_l11FinalIn.f k c) (fun r => 0 ≤ r ∧ (r ≠ 0 → 2 ≤ r ∧ r < (c.length : Int))):=by
  have key : ∀ (i : Nat),i ≤ c.length → Evt (fun k => spec_l11FinalIn.l0 k c ((i : Int) - 1)) (fun r => 0 ≤ r ∧ (r ≠ 0 → 2 ≤ r ∧ r < (c.length : Int))):=by
    intro i
    induction i with
    | zero =>
      intro hi
      exact Evt.step (f:=fun _ => some 0) (fun k => by simp only [spec_l11FinalIn.l0];rw [if_neg Q17]) (Evt.now _ ⟨Q17,fun h => absurd rfl h⟩)
    | succ i ih =>
      intro hi
      have e : ((i + 1 : Nat) : Int) - 1 = (i : Int):=by omega
      rw [e]
      have ihs:=ih Q17
      by_cases h2 : 2 ≤ i
      · have w1 : wrap64 ((i : Int) - 2) = (i : Int) - 2:=wrap64_small Q17 Q17
        have w2 : wrap64 ((i : Int) - 1) = (i : Int) - 1:=wrap64_small Q17 Q17
        refine Evt.step (fun k => by simp only [spec_l11FinalIn.l0,w1,w2];rw [if_pos Q17,if_pos Q17,if_pos Q17,if_pos Q17,if_pos Q17]) ?_
        refine Evt.ite (fun _ => Evt.pos Q17 (Evt.pos Q17 ?_)) fun _ => ihs
        exact Evt.ite (fun _ => Evt.now _ ⟨Q17,fun _ => Q17⟩) fun _ => ihs
      · exact Evt.step (f:=fun _ => some 0) (fun k => by simp only [spec_l11FinalIn.l0];rw [if_neg Q17]) (Evt.now _ ⟨Q17,fun h => absurd rfl h⟩)
  simp only [spec_l11FinalIn.f]
  rw [wrap64_small Q17 Q17]
  exact key c.length (Nat.le_refl _)
/-- So many chains at most, none longer than 16. -/
def CB (l : List (List It)) (m : Nat) : Prop:=l.length ≤ m ∧ ∀ c,c ∈ l → c.length ≤ 16
theorem all_ends (l : List Vt) {m : Nat} (hl : VB l m) (hm : m ≤ 100000) : Evt (fun k => spec_l11All.f k l) (fun r => CB r (m + 1)):=by
  have hlm:=hl.1
  have inner : ∀ (x : List (List It)) (i : Nat),i < l.length → x.length ≤ i + 1 → (∀ c,c ∈ x → c.length ≤ 16) →
      (∀ (y : List (List It)),y.length ≤ i + 2 → (∀ c,c ∈ y → c.length ≤ 16) → Evt (fun k => spec_l11All.l0 k l y ((i + 1 : Nat) : Int)) (fun r => CB r (m + 1))) →
      ∀ (d j : Nat) (b : Bool),j + d = x.length → Evt (fun k => spec_l11All.l1 k l x (i : Int) b (j : Int)) (fun r => CB r (m + 1)):=by
    intro x i hi hx hxc next d
    have hmem:=hl.2 _ (rdVt_mem hi)
    induction d with
    | zero =>
      intro j b hd
      cases b with
      | true =>
        refine Evt.step (fun k => by simp only [spec_l11All.l1];rw [if_neg Q17,if_pos trivial,wrap_succ Q17]) ?_
        exact next x Q17 hxc
      | false =>
        refine Evt.step (fun k => by simp only [spec_l11All.l1];rw [if_neg Q17,if_neg Q36,if_pos Q17,if_pos Q17,wrap_succ (i:=i) Q17]) ?_
        refine Evt.bind (sure_any l _ Q17 hl.big Q17) fun t _ => ?_
        refine Evt.ite (fun _ => ?_) fun _ => next x Q17 hxc
        rw [l1Copy_eq _ Q17]
        refine Evt.bind (P:=fun r => r = (rd_T82 l (i : Int)).f1) (Evt.now _ rfl) fun u hu => ?_
        refine Evt.pos Q17 (next _ Q111 fun c hc => ?_)
        rcases List.mem_append.1 hc with hc|hc
        · exact hxc c hc
        · rw [List.mem_singleton.1 hc,hu];exact hmem
    | succ d ih =>
      intro j b hd
      have hj : j < x.length:=by omega
      cases b with
      | true => exact Evt.step (fun k => by simp only [spec_l11All.l1];rw [if_pos Q17,if_pos trivial,wrap_succ Q17]) (ih (j + 1) true Q17)
      | false =>
        refine Evt.step (fun k => by simp only [spec_l11All.l1];rw [if_pos Q17,if_neg Q36,if_pos Q17,if_pos Q17,if_pos Q17,wrap_succ (i:=j) Q17]) ?_
        refine Evt.bind (l3Same_ends _ _ (by have:=hxc _ (rdC_mem hj);omega)) fun t _ => ?_
        exact ih (j + 1) t Q17
  have key : ∀ (d i : Nat) (x : List (List It)),i + d = l.length → x.length ≤ i + 1 → (∀ c,c ∈ x → c.length ≤ 16) → Evt (fun k => spec_l11All.l0 k l x (i : Int)) (fun r => CB r (m + 1)):=by
    intro d
    induction d with
    | zero =>
      intro i x hd hx hxc
      exact Evt.step (f:=fun _ => some x) (fun k => by simp only [spec_l11All.l0];rw [if_neg Q17]) (Evt.now _ ⟨Q17,hxc⟩)
    | succ d ih =>
      intro i x hd hx hxc
      refine Evt.step (f:=fun k => spec_l11All.l1 k l x (i : Int) false ((0 : Nat) : Int)) (fun k => by simp only [spec_l11All.l0];rw [if_pos Q17];rfl) ?_
      exact inner x i Q17 hx hxc (fun y hy hyc => ih (i + 1) y Q17 Q17 hyc) x.length 0 false Q17
  simp only [spec_l11All.f]
  exact key l.length 0 _ Q17 Q51 (fun c hc => by rw [List.mem_singleton.1 hc];simp)
theorem final_any (l : List Vt) {m : Nat} (hl : VB l m) (hm : m ≤ 100000) : Evt (fun k => spec_l11Final.f k l) (fun r => r.length ≤ 16):=by
  simp only [spec_l11Final.f]
  refine Evt.bind (all_ends l hl hm) fun x hx => ?_
  have hx1:=hx.1
  have key : ∀ (d i : Nat) (y : List It),i + d = x.length → y.length ≤ 16 → Evt (fun k => spec_l11Final.l0 k x y (i : Int)) (fun r => r.length ≤ 16):=by
    intro d
    induction d with
    | zero =>
      intro i y hd hy
      exact Evt.step (f:=fun _ => some y) (fun k => by simp only [spec_l11Final.l0];rw [if_neg Q17]) (Evt.now _ hy)
    | succ d ih =>
      intro i y hd hy
      have hc:=hx.2 _ (rdC_mem (show i < x.length by omega))
      refine Evt.step (fun k => by simp only [spec_l11Final.l0];rw [if_pos Q17,if_pos Q17,wrap_succ Q17]) ?_
      refine Evt.bind (finalIn_ends _ (show (rd_L7 x (i : Int)).length ≤ 1000000 by omega)) fun n hn => ?_
      refine Evt.ite (fun h => Evt.pos hn.1 ?_) fun _ => ih (i + 1) y Q17 hy
      have hn2:=hn.2 Q17
      refine Evt.pos Q17 ?_
      have hlt : ((rd_L7 x (i : Int)).take n.toNat).length ≤ 16:=by rw [List.length_take];omega
      rw [l1Copy_eq _ Q17]
      refine Evt.bind (P:=fun r => r.length ≤ 16) (Evt.now _ hlt) fun u hu => ?_
      exact ih (i + 1) u Q17 hu
  exact key x.length 0 _ Q17 Q51
theorem for_any (l : List Vt) (c : List It) (hl : l.length ≤ 4611686018427387900) (hb : ∀ v,v ∈ l → v.f1.length ≤ 4611686018427387900) : Evt (fun k => spec_VotesFor.f k l c) (fun r => r.length ≤ 4):=by
  have step : ∀ (d : Nat) (n : Int) (x : List Int),n + (d : Int) = 5 → x.length + d ≤ 4 → Evt (fun k => spec_VotesFor.l0 k l c x n) (fun r => r.length ≤ 4):=by
    intro d
    induction d with
    | zero =>
      intro n x hn hx
      exact Evt.step (f:=fun _ => some x) (fun k => by simp only [spec_VotesFor.l0];rw [if_neg Q17]) (Evt.now _ Q17)
    | succ d ih =>
      intro n x hn hx
      have w : wrap64 (n + 1) = n + 1:=by unfold wrap64;omega
      refine Evt.step (fun k => by simp only [spec_VotesFor.l0,w];rw [if_pos Q17]) ?_
      refine Evt.bind (l3Has_ends l n c hl hb) fun t _ => ?_
      exact Evt.ite (fun h => Evt.pos Q17 (ih (n + 1) _ Q17 Q111)) fun h => ih (n + 1) x Q17 Q17
  simp only [spec_VotesFor.f]
  refine Evt.bind (P:=fun r => r = []) (Evt.now _ rfl) fun y0 hy0 => ?_
  subst hy0
  refine Evt.bind (votesOk_spec l hl hb) fun t _ => ?_
  exact Evt.ite (fun _ => step 4 1 [] Q17 Q51) fun _ => Evt.now _ Q51
/-- A cert that is not long. -/
def CertB (c : List It) (b : List (List Int)) : Prop:=c.length ≤ 17 ∧ b.length ≤ 4 ∧ ∀ v,v ∈ b → v.length ≤ 4
theorem of_ends (l : List Vt) (c : List It) {m : Nat} (hl : VB l m) (hm : m ≤ 100000) (hc : c.length ≤ 16) : Evt (fun k => spec_l13Of.f k l c) (fun r => CertB r.1 r.2.1 ∧ r.2.1.length ≤ 3):=by
  have hl1:=hl.1
  simp only [spec_l13Of.f]
  refine Evt.bind (finalIn_ends c Q17) fun n hn => ?_
  refine Evt.ite (fun _ => Evt.now _ ⟨⟨Q51,Q51,fun v hv => by cases hv⟩,Q51⟩) fun h0 => ?_
  have hn2:=hn.2 h0
  have w1 : wrap64 (n + 1) = n + 1:=wrap64_small Q17 Q17
  have w2 : wrap64 (n - 1) = n - 1:=wrap64_small Q17 Q17
  rw [w1,w2]
  refine Evt.pos Q17 (Evt.pos Q17 ?_)
  have hlt : (c.take (n + 1).toNat).length ≤ 16:=by rw [List.length_take];omega
  rw [l1Copy_eq _ Q17]
  refine Evt.bind (P:=fun r => r.length ≤ 16) (Evt.now _ hlt) fun u hu => ?_
  have key : ∀ (d : Nat) (i : Int) (x : List (List Int)),i + (d : Int) = n + 2 → n - 1 ≤ i → x.length + d ≤ 3 → (∀ v,v ∈ x → v.length ≤ 4) → Evt (fun k => spec_l13Of.l0 k l c n i u x) (fun r => CertB r.1 r.2.1 ∧ r.2.1.length ≤ 3):=by
    intro d
    induction d with
    | zero =>
      intro i x hi hi2 hx hxv
      exact Evt.step (f:=fun _ => some (u,x,true)) (fun k => by simp only [spec_l13Of.l0,w1];rw [if_neg Q17]) (Evt.now _ ⟨⟨by simp only;omega,by simp only;omega,hxv⟩,by simp only;omega⟩)
    | succ d ih =>
      intro i x hi hi2 hx hxv
      have w3 : wrap64 (i + 1) = i + 1:=wrap64_small Q17 Q17
      refine Evt.step (fun k => by simp only [spec_l13Of.l0,w1,w3];rw [if_pos Q17,if_pos Q17,if_pos Q17]) ?_
      refine Evt.bind (for_any l _ Q17 hl.big) fun t ht => ?_
      refine Evt.pos Q17 (ih (i + 1) _ Q17 Q17 Q111 fun v hv => ?_)
      rcases List.mem_append.1 hv with hv|hv
      · exact hxv v hv
      · rw [List.mem_singleton.1 hv];exact ht
  exact key 3 (n - 1) [] Q17 Q17 Q51 (fun v hv => by cases hv)
theorem certOf_ends (l : List Vt) {m : Nat} (hl : VB l m) (hm : m ≤ 100000) : Evt (fun k => spec_CertOf.f k l) (fun r => CertB r.1 r.2.1 ∧ r.2.1.length ≤ 3):=by
  have hl1:=hl.1
  have none_ : CertB ([] : List It) ([] : List (List Int)) ∧ ([] : List (List Int)).length ≤ 3:=⟨⟨Q51,Q51,fun v hv => by cases hv⟩,Q51⟩
  simp only [spec_CertOf.f]
  refine Evt.bind (votesOk_spec l Q17 hl.big) fun t _ => ?_
  refine Evt.ite (fun _ => ?_) fun _ => Evt.now _ none_
  refine Evt.bind (all_ends l hl hm) fun x hx => ?_
  have hx1:=hx.1
  refine Evt.bind (final_any l hl hm) fun y hy => ?_
  have key : ∀ (d i : Nat),i + d = x.length → Evt (fun k => spec_CertOf.l0 k l x (y.length : Int) (i : Int)) (fun r => CertB r.1 r.2.1 ∧ r.2.1.length ≤ 3):=by
    intro d
    induction d with
    | zero =>
      intro i hd
      exact Evt.step (f:=fun _ => some ([],[],false)) (fun k => by simp only [spec_CertOf.l0];rw [if_neg Q17]) (Evt.now _ none_)
    | succ d ih =>
      intro i hd
      have hc:=hx.2 _ (rdC_mem (show i < x.length by omega))
      have ihs:=ih (i + 1) Q17
      refine Evt.step (fun k => by simp only [spec_CertOf.l0];rw [if_pos Q17,if_pos Q17,wrap_succ Q17]) ?_
      refine Evt.bind (finalIn_ends _ (show (rd_L7 x (i : Int)).length ≤ 1000000 by omega)) fun n hn => ?_
      refine Evt.ite (fun _ => Evt.ite (fun _ => ?_) fun _ => ihs) fun _ => ihs
      exact Evt.bind (of_ends l _ hl hm hc) fun u hu => Evt.now _ hu
  exact key x.length 0 Q17
theorem mem_set {b : List (List Int)} {i : Nat} {x v : List Int} (hb : ∀ v,v ∈ b → v.length ≤ 4) (hx : x.length ≤ 4) (h : v ∈ b.set i x) : v.length ≤ 4:=by
  rcases List.mem_or_eq_of_mem_set h with h|h
  · exact hb v h
  · rw [h];exact hx
theorem cert_ends {l : List Int} (hl : ∀ x ∈ l,0 ≤ x ∧ x ≤ 255) (p : Int) (h0 : 0 ≤ p) (h1 : p ≤ 1000000) : Evt (fun k => spec_l72Cert.f k l p) (fun r => CertB r.1 r.2.1):=by
  simp only [spec_l72Cert.f]
  refine Evt.bind (votes_ends hl p h0 Q17) fun a ha => ?_
  refine Evt.bind (certOf_ends a.1 ha.1 Q17) fun b hb => ?_
  have stop : ∀ (x : List Vt) (i q : Int) (c : List It) (y : List (List Int)),0 ≤ q → q ≤ 10000000 → CertB c y → y.length ≤ 3 → Evt (fun k => spec_l72Cert.j1 k x i false l q c y) (fun r => CertB r.1 r.2.1):=by
    intro x i q c y hq0 hq1 hc hy
    obtain ⟨hc1,hc2,hc3⟩:=hc
    refine Evt.step (fun k => by simp only [spec_l72Cert.j1];rw [if_neg Q36]) ?_
    refine Evt.bind (pick_ends hl q 10 hq0 Q17) fun e he => ?_
    refine Evt.ite (fun _ => Evt.ite (fun _ => Evt.pos Q17 (Evt.now _ ⟨hc1,Q111,fun v hv => mem_set hc3 Q51 hv⟩)) fun _ => Evt.now _ ⟨hc1,hc2,hc3⟩) fun _ => ?_
    refine Evt.ite (fun _ => ?_) fun _ => ?_
    · exact Evt.bind (off_ends hl e.2 Q17 Q17) fun f hf => Evt.now _ ⟨by simp only;omega,hc2,hc3⟩
    refine Evt.ite (fun _ => Evt.pos Q17 (Evt.now _ ⟨hc1,Q111,fun v hv => ?_⟩)) fun _ => ?_
    · rcases List.mem_append.1 hv with hv|hv
      · exact hc3 v hv
      · rw [List.mem_singleton.1 hv];simp
    exact Evt.ite (fun _ => Evt.ite (fun _ => Evt.pos Q17 (Evt.now _ ⟨hc1,Q111,fun v hv => mem_set hc3 Q51 hv⟩)) fun _ => Evt.now _ ⟨hc1,hc2,hc3⟩) fun _ => Evt.now _ ⟨hc1,hc2,hc3⟩
  have key : ∀ (d i : Nat) (x : List Vt) (ok : Bool) (q : Int) (c : List It) (y : List (List Int)),i + d = 6 → 0 ≤ q → q + 1000 * (d : Int) ≤ 10000000 → CertB c y → y.length ≤ 3 → Evt (fun k => spec_l72Cert.l0 k x ok (i : Int) l q c y) (fun r => CertB r.1 r.2.1):=by
    intro d
    induction d with
    | zero =>
      intro i x ok q c y hd hq0 hq1 hc hy
      exact Evt.step (f:=fun k => spec_l72Cert.j1 k x (i : Int) false l q c y) (fun k => by simp only [spec_l72Cert.l0];rw [if_neg Q17]) (stop x _ q c y hq0 Q17 hc hy)
    | succ d ih =>
      intro i x ok q c y hd hq0 hq1 hc hy
      refine Evt.step (f:=fun k => spec_l72Cert.j1 k x (i : Int) (!ok) l q c y) (fun k => by simp only [spec_l72Cert.l0];rw [if_pos Q17]) ?_
      cases ok with
      | true => exact stop x _ q c y hq0 Q17 hc hy
      | false =>
        refine Evt.step (fun k => by simp only [spec_l72Cert.j1,Bool.not_false];rw [if_pos trivial,wrap_succ Q17]) ?_
        refine Evt.bind (votes_ends hl q hq0 Q17) fun e he => ?_
        refine Evt.bind (certOf_ends e.1 he.1 Q17) fun f hf => ?_
        exact ih (i + 1) _ _ _ _ _ Q17 Q17 Q17 hf.1 hf.2
  exact key 6 0 _ _ _ _ _ Q17 Q17 Q17 hb.1 hb.2
theorem drawCert_ends {l : List Int} (hl : ∀ x ∈ l,0 ≤ x ∧ x ≤ 255) : Evt (fun k => spec_DrawCertOk.f k l) (fun r => CertB r.1 r.2):=by
  simp only [spec_DrawCertOk.f]
  obtain ⟨l',e,hl'⟩:=open_bytes hl
  rw [e]
  simp only [Option.bind_some]
  exact Evt.bind (cert_ends hl' 0 Q17 Q17) fun r hr => Evt.now _ hr
theorem asc_len : ∀ (l : List Int) (e : Int),ascB e l = true → l = [] ∨ e + (l.length : Int) ≤ 4
  | [],_,_ => .inl rfl
  | x :: xs,e,h => by
    simp only [ascB,Bool.and_eq_true,decide_eq_true_iff] at h
    obtain ⟨h1,h2,h3⟩:=h
    right
    rcases asc_len xs x h3 with rfl|h4
    · simp;omega
    · simp;omega
theorem asc_low : ∀ (l : List Int) (e e' : Int),ascB e l = true → e' ≤ e → ascB e' l = true
  | [],_,_,_,_ => rfl
  | x :: xs,e,e',h,he => by
    simp only [ascB,Bool.and_eq_true,decide_eq_true_iff] at h ⊢
    exact ⟨h.1,Q17,h.2.2⟩
theorem byOk_len {l : List Int} (h : byOk l = true) : 3 ≤ l.length ∧ l.length ≤ 4:=by
  simp only [byOk,Bool.and_eq_true,decide_eq_true_iff] at h
  refine ⟨h.2,?_⟩
  rcases asc_len l 0 h.1 with rfl|h4
  · simp
  · omega
theorem byOk_tail {l : List Int} (h : byOk l = true) : byOk (l.drop 1) = decide (3 < l.length):=by
  simp only [byOk,Bool.and_eq_true,decide_eq_true_iff] at h
  obtain ⟨h1,h2⟩:=h
  cases l with
  | nil => simp at h2
  | cons x xs =>
    simp only [ascB,Bool.and_eq_true,decide_eq_true_iff] at h1
    have ha:=asc_low xs x 0 h1.2.2 Q17
    rw [List.drop_one,List.tail_cons,byOk,ha,Bool.true_and]
    exact decide_eq_decide.2 Q111
theorem certOk_all {c : List It} (hok : chainOk c = true) (h3 : 3 ≤ c.length) (hl : lastThree c = true) {b : List (List Int)} (hb : b.length = 3) : certOk c b = b.all byOk:=by
  unfold certOk
  rw [hok,hl,decide_eq_true h3,decide_eq_true hb]
  simp only [Bool.true_and,Bool.and_true]

end Go.Proofs.Ytlcfalecbpnhbaa.Pure
