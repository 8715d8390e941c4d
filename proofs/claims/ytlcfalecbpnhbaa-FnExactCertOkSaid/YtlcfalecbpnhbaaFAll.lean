/- Plain facts on what the printed functions compute (within payok chain ints intss certok items). Conditions: each theorem's own. -/
import Derived.Test.YtlcfalecbpnhbaaPx0
import Derived.Test.YtlcfalecbpnhbaaPx1
import Derived.Test.YtlcfalecbpnhbaaPx2
import Derived.Test.YtlcfalecbpnhbaaPx3
import Derived.Test.YtlcfalecbpnhbaaPx4
import Derived.Test.YtlcfalecbpnhbaaPx5
import Derived.Test.YtlcfalecbpnhbaaPx6
import Derived.Test.YtlcfalecbpnhbaaPx7
import Derived.Test.YtlcfalecbpnhbaaPx8
import Derived.Test.YtlcfalecbpnhbaaPlain
namespace Go.Proofs.Ytlcfalecbpnhbaa.Pure
open Go.RowKit Go.Proofs.Ytlcfalecbpnhbaa.P Go.Proofs.YtlcfalecbpnhbaaW.PrintWords Go.Proofs.YtlcfalecbpnhbaaW.PrintLast Go.Proofs.YtlcfalecbpnhbaaW.PrintMore Go.Proofs.YtlcfalecbpnhbaaE
set_option linter.unusedVariables false
set_option linter.unusedSimpArgs false

theorem within_eq (n lo hi : Int) : impl_within.f n lo hi = some (decide (lo ≤ n ∧ n ≤ hi)):=by
  unfold impl_within.f
  by_cases h : n ≥ lo
  · rw [if_pos h]
    by_cases h2 : n ≤ hi
    · simp [h2,show lo ≤ n from h]
    · simp [h2]
  · rw [if_neg h]
    simp [show ¬ lo ≤ n from h]
theorem l6In_eq (n lo hi : Int) : spec_l6In.f n lo hi = some (decide (lo ≤ n ∧ n ≤ hi)):=by
  unfold spec_l6In.f
  by_cases h : n ≥ lo
  · rw [if_pos h]
    by_cases h2 : n ≤ hi
    · simp [h2,show lo ≤ n from h]
    · simp [h2]
  · rw [if_neg h]
    simp [show ¬ lo ≤ n from h]
def payOk (a b c : Int) : Bool:=decide ((1 ≤ a ∧ a ≤ 3) ∧ (1 ≤ b ∧ b ≤ 3) ∧ a ≠ b ∧ (1 ≤ c ∧ c ≤ 9))
theorem payOk_impl (a b c : Int) : impl_PayOk.f a b c = some (payOk a b c):=by
  unfold impl_PayOk.f payOk
  simp only [within_eq,Option.bind_some]
  by_cases h1 : 1 ≤ a ∧ a ≤ 3
  · by_cases h2 : 1 ≤ b ∧ b ≤ 3
    · by_cases h3 : a = b
      · simp [h1,h2,h3]
      · simp [h1,h2,h3]
    · simp [h1,h2]
  · simp [h1]
theorem payOk_spec (a b c : Int) : spec_PayOk.f a b c = some (payOk a b c):=by
  unfold spec_PayOk.f payOk
  simp only [l6In_eq,Option.bind_some]
  by_cases h1 : 1 ≤ a ∧ a ≤ 3
  · by_cases h2 : 1 ≤ b ∧ b ≤ 3
    · by_cases h3 : a = b
      · simp [h1,h2,h3]
      · simp [h1,h2,h3]
    · simp [h1,h2]
  · simp [h1]
abbrev It:=S40
instance : DecidableEq S38:=fun ⟨a,b,c⟩ ⟨a',b',c'⟩ => decidable_of_iff (a = a' ∧ b = b' ∧ c = c') (by simp)
instance : DecidableEq It:=fun ⟨a,b⟩ ⟨a',b'⟩ => decidable_of_iff (a = a' ∧ b = b') (by simp)
theorem rdIt_get {l : List It} {i : Nat} (h : i < l.length) : l[i]? = some (rd_T40 l (i : Int)):=by
  show _ = some (l.getD ((i : Int)).toNat _)
  rw [Int.toNat_natCast,List.getD_eq_getElem?_getD,List.getElem?_eq_getElem h]
  rfl
theorem drop_it {l : List It} {i : Nat} (h : i < l.length) : l.drop i = rd_T40 l (i : Int) :: l.drop (i + 1):=by
  have e:=rdIt_get h
  rw [List.getElem?_eq_getElem h] at e
  rw [List.drop_eq_getElem_cons h,Option.some.inj e]
theorem neq_it (x y : It) : ((!(x.f0 == y.f0) || ((!(x.f1.f0 == y.f1.f0) || (!(x.f1.f1 == y.f1.f1) || (!(x.f1.f2 == y.f1.f2)))))) = true) ↔ x ≠ y:=by
  obtain ⟨a,b,c,d⟩:=x
  obtain ⟨a',b',c',d'⟩:=y
  simp
  omega
theorem eq_it (x y : It) : ((x.f0 == y.f0) && ((x.f1.f0 == y.f1.f0) && ((x.f1.f1 == y.f1.f1) && (x.f1.f2 == y.f1.f2)))) = true ↔ x = y:=by
  obtain ⟨a,b,c,d⟩:=x
  obtain ⟨a',b',c',d'⟩:=y
  simp
def itemOk (x : It) : Bool:=decide (1 ≤ x.f0 ∧ x.f0 ≤ 30) && payOk x.f1.f0 x.f1.f1 x.f1.f2
/-- Items go on behind epoch e. -/
def okFrom : Int → List It → Bool
  | _,[] => true
  | e,x :: xs => itemOk x && (decide (e < x.f0) && okFrom x.f0 xs)
def chainOk (c : List It) : Bool:=okFrom 0 c && decide (c.length ≤ 16)
def prevE (l : List It) (i : Nat) : Int:=if i = 0 then 0 else (rd_T40 l ((i - 1 : Nat) : Int)).f0
theorem prevE_succ (l : List It) (i : Nat) : prevE l (i + 1) = (rd_T40 l (i : Int)).f0:=by simp [prevE]
theorem epochOk_eq (e : Int) : impl_epochOk.f e = some (decide (1 ≤ e ∧ e ≤ 30)):=by
  unfold impl_epochOk.f
  simp [within_eq]
theorem chainOk_impl (l : List It) (hl : l.length ≤ 4611686018427387900) : Evt (fun k => impl_ChainOk.f k l) (fun r => r = chainOk l):=by
  have key : ∀ (d i : Nat),i + d = l.length → Evt (fun k => impl_ChainOk.l0 k l l (l.length : Int) (i : Int)) (fun r => r = (okFrom (prevE l i) (l.drop i) && decide (l.length ≤ 16))):=by
    intro d
    induction d with
    | zero =>
      intro i hd
      rw [List.drop_eq_nil_of_le (by omega)]
      refine Evt.step (f:=fun _ => some (decide ((l.length : Int) ≤ 16))) (fun k => by simp only [impl_ChainOk.l0];rw [if_neg (by omega)]) (Evt.now _ ?_)
      by_cases h : l.length ≤ 16
      · simp [okFrom,h,show (l.length : Int) ≤ 16 by omega]
      · simp [okFrom,h,show ¬ (l.length : Int) ≤ 16 by omega]
    | succ d ih =>
      intro i hd
      have ihs:=ih (i + 1) (by omega)
      rw [prevE_succ] at ihs
      rw [drop_it (l:=l) (i:=i) (by omega)]
      by_cases he : 1 ≤ (rd_T40 l (i : Int)).f0 ∧ (rd_T40 l (i : Int)).f0 ≤ 30
      · cases hp : payOk (rd_T40 l (i : Int)).f1.f0 (rd_T40 l (i : Int)).f1.f1 (rd_T40 l (i : Int)).f1.f2 with
        | false =>
          refine Evt.step (f:=fun _ => some false) (fun k => by
            simp only [impl_ChainOk.l0,epochOk_eq,payOk_impl,Option.bind_some]
            rw [if_pos (by omega),if_pos (by omega),if_pos (by omega),if_pos (by simpa using he),hp,if_neg (by decide)]) (Evt.now _ ?_)
          simp [okFrom,itemOk,hp]
        | true =>
          by_cases hi : i = 0
          · subst hi
            refine Evt.step (f:=fun k => impl_ChainOk.l0 k l l (l.length : Int) ((0 + 1 : Nat) : Int)) (fun k => by
              simp only [impl_ChainOk.l0,epochOk_eq,payOk_impl,Option.bind_some]
              rw [if_pos (by omega),if_pos (by omega),if_pos (by omega),if_pos (by simpa using he),hp,if_pos rfl,if_neg (by omega),wrap_succ (by omega)]) ?_
            refine ihs.mono fun r hr => ?_
            rw [hr]
            have h0 : (0 : Int) < (rd_T40 l ((0 : Nat) : Int)).f0:=by omega
            simp only [okFrom,itemOk,prevE,hp,he,h0,decide_true,and_self,if_true,Bool.true_and,Bool.and_true]
          · have hw : wrap64 ((i : Int) - 1) = ((i - 1 : Nat) : Int):=by unfold wrap64;omega
            by_cases hlt : (rd_T40 l ((i - 1 : Nat) : Int)).f0 < (rd_T40 l (i : Int)).f0
            · refine Evt.step (f:=fun k => impl_ChainOk.l0 k l l (l.length : Int) ((i + 1 : Nat) : Int)) (fun k => by
                simp only [impl_ChainOk.l0,epochOk_eq,payOk_impl,Option.bind_some]
                rw [if_pos (by omega),if_pos (by omega),if_pos (by omega),if_pos (by simpa using he),hp,if_pos rfl,if_pos (by omega),hw,if_pos (by omega),if_pos (by omega),if_neg (by omega),wrap_succ (by omega)]) ?_
              refine ihs.mono fun r hr => ?_
              rw [hr]
              simp [okFrom,itemOk,prevE,hp,he,hi,hlt]
            · refine Evt.step (f:=fun _ => some false) (fun k => by
                simp only [impl_ChainOk.l0,epochOk_eq,payOk_impl,Option.bind_some]
                rw [if_pos (by omega),if_pos (by omega),if_pos (by omega),if_pos (by simpa using he),hp,if_pos rfl,if_pos (by omega),hw,if_pos (by omega),if_pos (by omega),if_pos (by omega)]) (Evt.now _ ?_)
              simp [okFrom,itemOk,prevE,hi,hlt]
      · refine Evt.step (f:=fun _ => some false) (fun k => by
          simp only [impl_ChainOk.l0,epochOk_eq,Option.bind_some]
          rw [if_pos (by omega),if_pos (by omega),if_pos (by omega),if_neg (by simpa using he)]) (Evt.now _ ?_)
        simp [okFrom,itemOk,he]
  refine (Evt.congr (fun k => by unfold impl_ChainOk.f;rfl) (key l.length 0 (by omega))).mono fun r hr => ?_
  simpa [chainOk,prevE] using hr
theorem chainOk_spec (l : List It) (hl : l.length ≤ 4611686018427387900) : Evt (fun k => spec_ChainOk.f k l) (fun r => r = chainOk l):=by
  have key : ∀ (d i : Nat),i + d = l.length → Evt (fun k => spec_ChainOk.l0 k l (i : Int)) (fun r => r = (okFrom (prevE l i) (l.drop i) && decide (l.length ≤ 16))):=by
    intro d
    induction d with
    | zero =>
      intro i hd
      rw [List.drop_eq_nil_of_le (by omega)]
      refine Evt.step (f:=fun _ => some (decide ((l.length : Int) ≤ 16))) (fun k => by simp only [spec_ChainOk.l0];rw [if_neg (by omega)]) (Evt.now _ ?_)
      by_cases h : l.length ≤ 16
      · simp [okFrom,h,show (l.length : Int) ≤ 16 by omega]
      · simp [okFrom,h,show ¬ (l.length : Int) ≤ 16 by omega]
    | succ d ih =>
      intro i hd
      have ihs:=ih (i + 1) (by omega)
      rw [prevE_succ] at ihs
      rw [drop_it (l:=l) (i:=i) (by omega)]
      by_cases he : 1 ≤ (rd_T40 l (i : Int)).f0 ∧ (rd_T40 l (i : Int)).f0 ≤ 30
      · cases hp : payOk (rd_T40 l (i : Int)).f1.f0 (rd_T40 l (i : Int)).f1.f1 (rd_T40 l (i : Int)).f1.f2 with
        | false =>
          refine Evt.step (f:=fun _ => some false) (fun k => by
            simp only [spec_ChainOk.l0,l6In_eq,payOk_spec,Option.bind_some]
            rw [if_pos (by omega),if_pos (by omega),if_pos (by simpa using he),hp,if_neg (by decide)]) (Evt.now _ ?_)
          simp [okFrom,itemOk,hp]
        | true =>
          by_cases hi : i = 0
          · subst hi
            refine Evt.step (f:=fun k => spec_ChainOk.l0 k l ((0 + 1 : Nat) : Int)) (fun k => by
              simp only [spec_ChainOk.l0,l6In_eq,payOk_spec,Option.bind_some]
              rw [if_pos (by omega),if_pos (by omega),if_pos (by simpa using he),hp,if_pos rfl,if_neg (by omega),wrap_succ (by omega)]) ?_
            refine ihs.mono fun r hr => ?_
            rw [hr]
            have h0 : (0 : Int) < (rd_T40 l ((0 : Nat) : Int)).f0:=by omega
            simp only [okFrom,itemOk,prevE,hp,he,h0,decide_true,and_self,if_true,Bool.true_and,Bool.and_true]
          · have hw : wrap64 ((i : Int) - 1) = ((i - 1 : Nat) : Int):=by unfold wrap64;omega
            by_cases hlt : (rd_T40 l ((i - 1 : Nat) : Int)).f0 < (rd_T40 l (i : Int)).f0
            · refine Evt.step (f:=fun k => spec_ChainOk.l0 k l ((i + 1 : Nat) : Int)) (fun k => by
                simp only [spec_ChainOk.l0,l6In_eq,payOk_spec,Option.bind_some]
                rw [if_pos (by omega),if_pos (by omega),if_pos (by simpa using he),hp,if_pos rfl,if_pos (by omega),hw,if_pos (by omega),if_pos (by omega),if_neg (by omega),wrap_succ (by omega)]) ?_
              refine ihs.mono fun r hr => ?_
              rw [hr]
              simp [okFrom,itemOk,prevE,hp,he,hi,hlt]
            · refine Evt.step (f:=fun _ => some false) (fun k => by
                simp only [spec_ChainOk.l0,l6In_eq,payOk_spec,Option.bind_some]
                rw [if_pos (by omega),if_pos (by omega),if_pos (by simpa using he),hp,if_pos rfl,if_pos (by omega),hw,if_pos (by omega),if_pos (by omega),if_pos (by omega)]) (Evt.now _ ?_)
              simp [okFrom,itemOk,prevE,hi,hlt]
      · refine Evt.step (f:=fun _ => some false) (fun k => by
          simp only [spec_ChainOk.l0,l6In_eq,Option.bind_some]
          rw [if_pos (by omega),if_pos (by omega),if_neg (by simpa using he)]) (Evt.now _ ?_)
        simp [okFrom,itemOk,he]
  refine (Evt.congr (fun k => by unfold spec_ChainOk.f;rfl) (key l.length 0 (by omega))).mono fun r hr => ?_
  simpa [chainOk,prevE] using hr
theorem toIntS_ends (l : List Int) (hl : l.length ≤ 1048576) : Evt (fun k => laws_toIntS.f k l) (fun r => r = l):=by
  have key : ∀ (d i : Nat) (xs : List Int),i + d = l.length → xs.length = l.length → xs.take i = l.take i → Evt (fun k => laws_toIntS.l0 k l xs (i : Int)) (fun r => r = l):=by
    intro d
    induction d with
    | zero =>
      intro i xs hd hx ht
      refine Evt.step (f:=fun _ => some xs) (fun k => by simp only [laws_toIntS.l0];rw [if_neg (by omega)]) (Evt.now _ ?_)
      rwa [List.take_of_length_le (by omega),List.take_of_length_le (by omega)] at ht
    | succ d ih =>
      intro i xs hd hx ht
      refine Evt.step (f:=fun k => laws_toIntS.l0 k l (xs.set i (rd l (i : Int))) ((i + 1 : Nat) : Int)) (fun k => by
        simp only [laws_toIntS.l0]
        rw [if_pos (by omega),if_pos (by omega),if_pos (by omega),wrap_succ (by omega),Int.toNat_natCast]) ?_
      exact ih (i + 1) _ (by omega) (by rw [List.length_set];exact hx) (take_set_succ hx (by omega) ht (rd_get (by omega)))
  refine Evt.congr (fun k => by unfold laws_toIntS.f;rw [if_pos (by omega),if_pos (by omega),Int.toNat_natCast];rfl) (key l.length 0 (List.replicate l.length 0) (by omega) (by simp) (by simp))
theorem eqIntS_ends (a b : List Int) (hl : a.length ≤ 4611686018427387900) : Evt (fun k => laws_eqIntS.f k a b) (fun r => r = decide (a = b)):=by
  by_cases h : (a.length : Int) = (b.length : Int)
  · have hn : a.length = b.length:=by omega
    have key : ∀ (d i : Nat),i + d = a.length → Evt (fun k => laws_eqIntS.l0 k a b (i : Int)) (fun r => r = decide (a.drop i = b.drop i)):=by
      intro d
      induction d with
      | zero =>
        intro i hd
        refine Evt.step (f:=fun _ => some true) (fun k => by simp only [laws_eqIntS.l0];rw [if_neg (by omega)]) (Evt.now _ ?_)
        rw [List.drop_eq_nil_of_le (by omega),List.drop_eq_nil_of_le (by omega)]
        simp
      | succ d ih =>
        intro i hd
        rw [drop_rd (l:=a) (i:=i) (by omega),drop_rd (l:=b) (i:=i) (by omega)]
        by_cases hx : rd a (i : Int) = rd b (i : Int)
        · refine Evt.step (f:=fun k => laws_eqIntS.l0 k a b ((i + 1 : Nat) : Int)) (fun k => by
            simp only [laws_eqIntS.l0]
            rw [if_pos (by omega),if_pos (by omega),if_pos (by omega),if_pos hx,wrap_succ (by omega)]) ?_
          refine (ih (i + 1) (by omega)).mono (fun r hr => ?_)
          rw [hr]
          simp [hx]
        · refine Evt.step (f:=fun _ => some false) (fun k => by
            simp only [laws_eqIntS.l0]
            rw [if_pos (by omega),if_pos (by omega),if_pos (by omega),if_neg hx]) (Evt.now _ ?_)
          simp [hx]
    refine (Evt.congr (fun k => by unfold laws_eqIntS.f;rw [if_pos h];rfl) (key a.length 0 (by omega))).mono (fun r hr => ?_)
    simpa using hr
  · refine Evt.congr (fun k => by unfold laws_eqIntS.f;rw [if_neg h]) (Evt.now _ ?_)
    have : a ≠ b:=by
      rintro rfl
      exact h rfl
    simp [this]
theorem rdLL_get {l : List (List Int)} {i : Nat} (h : i < l.length) : l[i]? = some (rd_L3 l (i : Int)):=by
  show _ = some (l.getD ((i : Int)).toNat _)
  rw [Int.toNat_natCast,List.getD_eq_getElem?_getD,List.getElem?_eq_getElem h]
  rfl
theorem drop_LL {l : List (List Int)} {i : Nat} (h : i < l.length) : l.drop i = rd_L3 l (i : Int) :: l.drop (i + 1):=by
  have e:=rdLL_get h
  rw [List.getElem?_eq_getElem h] at e
  rw [List.drop_eq_getElem_cons h,Option.some.inj e]
theorem take_LL {l : List (List Int)} {i : Nat} (h : i < l.length) : l.take (i + 1) = l.take i ++ [rd_L3 l (i : Int)]:=by
  rw [List.take_add_one,rdLL_get h]
  rfl
theorem rdLL_mem {l : List (List Int)} {i : Nat} (h : i < l.length) : rd_L3 l (i : Int) ∈ l:=List.mem_of_getElem? (rdLL_get h)
theorem szIntS_eq (l : List Int) (n : Int) (h0 : 0 ≤ n) (h1 : n ≤ 1048576) (hl : l.length ≤ 9223372036854775807) : laws_szIntS.f l n = some (if n - (l.length : Int) < 0 then -1 else n - (l.length : Int)):=by
  unfold laws_szIntS.f
  have e : wrap64 (n - (l.length : Int)) = n - (l.length : Int):=by unfold wrap64;omega
  rw [e]
  split <;> rfl
theorem szIntSS_ends (l : List (List Int)) (n : Int) (h0 : 0 ≤ n) (h1 : n ≤ 1048576) (hl : l.length ≤ 9223372036854775807) (hb : ∀ v,v ∈ l → v.length ≤ 9223372036854775807) :
    Evt (fun k => laws_szIntSS.f k l n) (fun r => r ≤ n ∧ (0 ≤ r → l.length ≤ 1048576 ∧ ∀ v,v ∈ l → v.length ≤ 1048576)):=by
  have hw : wrap64 (n - (l.length : Int)) = n - (l.length : Int):=by unfold wrap64;omega
  simp only [laws_szIntSS.f,hw]
  refine Evt.ite (fun h => Evt.now _ ⟨by omega,fun h => absurd h (by omega)⟩) fun h => ?_
  have key : ∀ (d i : Nat) (m : Int),i + d = l.length → 0 ≤ m → m ≤ n → (∀ v,v ∈ l.take i → v.length ≤ 1048576) → Evt (fun k => laws_szIntSS.l0 k l m (i : Int)) (fun r => r ≤ n ∧ (0 ≤ r → l.length ≤ 1048576 ∧ ∀ v,v ∈ l → v.length ≤ 1048576)):=by
    intro d
    induction d with
    | zero =>
      intro i m hd hm0 hm1 hA
      rw [List.take_of_length_le (by omega)] at hA
      exact Evt.step (f:=fun _ => some m) (fun k => by simp only [laws_szIntSS.l0];rw [if_neg (by omega)]) (Evt.now _ ⟨hm1,fun _ => ⟨by omega,hA⟩⟩)
    | succ d ih =>
      intro i m hd hm0 hm1 hA
      have hi : i < l.length:=by omega
      have hlen:=hb _ (rdLL_mem hi)
      have e:=szIntS_eq (rd_L3 l (i : Int)) m hm0 (by omega) hlen
      refine Evt.step (fun k => by simp only [laws_szIntSS.l0,e];rw [if_pos (by omega),if_pos (by omega),wrap_succ (by omega)]) ?_
      refine Evt.bind (P:=fun r => r = (if m - ((rd_L3 l (i : Int)).length : Int) < 0 then -1 else m - ((rd_L3 l (i : Int)).length : Int))) (Evt.now _ rfl) fun u hu => ?_
      by_cases hle : m - ((rd_L3 l (i : Int)).length : Int) < 0
      · rw [if_pos hle] at hu
        exact Evt.pos (by omega) (Evt.now _ ⟨by omega,fun h => absurd h (by omega)⟩)
      · rw [if_neg hle] at hu
        refine Evt.neg (by omega) (ih (i + 1) u (by omega) (by omega) (by omega) ?_)
        intro v hv
        rw [take_LL hi] at hv
        rcases List.mem_append.1 hv with hv|hv
        · exact hA v hv
        · rw [List.mem_singleton.1 hv];omega
  exact key l.length 0 _ (by omega) (by omega) (by omega) (by simp)
theorem toIntSS_ends (l : List (List Int)) (hl : l.length ≤ 1048576) (hb : ∀ v,v ∈ l → v.length ≤ 1048576) : Evt (fun k => laws_toIntSS.f k l) (fun r => r = l):=by
  have key : ∀ (d i : Nat) (x : List (List Int)),i + d = l.length → x.length = l.length → x.take i = l.take i → Evt (fun k => laws_toIntSS.l0 k l x (i : Int)) (fun r => r = l):=by
    intro d
    induction d with
    | zero =>
      intro i x hd hx ht
      refine Evt.step (f:=fun _ => some x) (fun k => by simp only [laws_toIntSS.l0];rw [if_neg (by omega)]) (Evt.now _ ?_)
      rwa [List.take_of_length_le (by omega),List.take_of_length_le (by omega)] at ht
    | succ d ih =>
      intro i x hd hx ht
      have hi : i < l.length:=by omega
      refine Evt.step (fun k => by simp only [laws_toIntSS.l0];rw [if_pos (by omega),if_pos (by omega),wrap_succ (by omega),Int.toNat_natCast]) ?_
      refine Evt.bind (toIntS_ends _ (hb _ (rdLL_mem hi))) fun a ha => ?_
      subst ha
      refine Evt.pos (by omega) (ih (i + 1) _ (by omega) (by rw [List.length_set];exact hx) ?_)
      exact take_set_succ hx hi ht (rdLL_get hi)
  simp only [laws_toIntSS.f]
  refine Evt.pos (by omega) (Evt.pos (by omega) ?_)
  rw [Int.toNat_natCast]
  exact key l.length 0 _ (by omega) (by simp) (by simp)
theorem eqIntSS_ends (a b : List (List Int)) (hl : a.length ≤ 4611686018427387900) (hb : ∀ v,v ∈ a → v.length ≤ 4611686018427387900) : Evt (fun k => laws_eqIntSS.f k a b) (fun r => r = decide (a = b)):=by
  simp only [laws_eqIntSS.f]
  refine Evt.ite (fun hab => ?_) fun hab => Evt.now _ (decide_eq_false fun e => hab (by rw [e])).symm
  have key : ∀ (d i : Nat),i + d = a.length → Evt (fun k => laws_eqIntSS.l0 k a b (i : Int)) (fun r => r = decide (a.drop i = b.drop i)):=by
    intro d
    induction d with
    | zero =>
      intro i hd
      rw [List.drop_eq_nil_of_le (by omega),List.drop_eq_nil_of_le (by omega)]
      exact Evt.step (f:=fun _ => some true) (fun k => by simp only [laws_eqIntSS.l0];rw [if_neg (by omega)]) (Evt.now _ (by simp))
    | succ d ih =>
      intro i hd
      have hi : i < a.length:=by omega
      have hi2 : i < b.length:=by omega
      rw [drop_LL hi,drop_LL hi2]
      refine Evt.step (fun k => by simp only [laws_eqIntSS.l0];rw [if_pos (by omega),if_pos (by omega),if_pos (by omega),wrap_succ (by omega)]) ?_
      refine Evt.bind (eqIntS_ends _ _ (hb _ (rdLL_mem hi))) fun t ht => ?_
      refine Evt.ite (fun h => (ih (i + 1) (by omega)).mono fun r hr => ?_) fun h => Evt.now _ ?_
      · rw [ht,decide_eq_true_iff] at h
        rw [hr,h]
        exact decide_eq_decide.2 ⟨fun e => by rw [e],fun e => (List.cons.inj e).2⟩
      · refine (decide_eq_false fun e => h ?_).symm
        rw [ht,(List.cons.inj e).1]
        simp
  exact key a.length 0 (by omega)
/-- Nodes that ascend behind e. -/
def ascB : Int → List Int → Bool
  | _,[] => true
  | e,x :: xs => decide (1 ≤ x ∧ x ≤ 4) && (decide (e < x) && ascB x xs)
def byOk (l : List Int) : Bool:=ascB 0 l && decide (3 ≤ l.length)
def prevI (l : List Int) (i : Nat) : Int:=if i = 0 then 0 else rd l ((i - 1 : Nat) : Int)
theorem prevI_succ (l : List Int) (i : Nat) : prevI l (i + 1) = rd l (i : Int):=by simp [prevI]
theorem nodeOk_eq (n : Int) : impl_nodeOk.f n = some (decide (1 ≤ n ∧ n ≤ 4)):=by
  unfold impl_nodeOk.f
  rw [within_eq]
  rfl
theorem ge3 (l : List Int) : decide ((l.length : Int) ≥ 3) = decide (3 ≤ l.length):=decide_eq_decide.2 (by omega)
theorem votersOk_ends (l : List Int) (hl : l.length ≤ 4611686018427387900) : Evt (fun k => impl_votersOk.f k l) (fun r => r = byOk l):=by
  have key : ∀ (d i : Nat),i + d = l.length → Evt (fun k => impl_votersOk.l0 k l l (l.length : Int) (i : Int)) (fun r => r = (ascB (prevI l i) (l.drop i) && decide (3 ≤ l.length))):=by
    intro d
    induction d with
    | zero =>
      intro i hd
      rw [List.drop_eq_nil_of_le (by omega)]
      exact Evt.step (f:=fun _ => some _) (fun k => by simp only [impl_votersOk.l0];rw [if_neg (by omega)]) (Evt.now _ (ge3 l))
    | succ d ih =>
      intro i hd
      have ihs:=ih (i + 1) (by omega)
      rw [prevI_succ] at ihs
      rw [drop_rd (l:=l) (i:=i) (by omega),ascB]
      refine Evt.step (fun k => by simp only [impl_votersOk.l0,nodeOk_eq];rw [if_pos (by omega),if_pos (by omega),if_pos (by omega),wrap_succ (by omega)]) ?_
      refine Evt.bind (P:=fun r => r = decide (1 ≤ rd l (i : Int) ∧ rd l (i : Int) ≤ 4)) (Evt.now _ rfl) fun t ht => ?_
      rw [← ht]
      refine Evt.ite (fun h => ?_) fun h => Evt.now _ (by rw [Bool.eq_false_iff.2 h];rfl)
      rw [h]
      have h1 : 1 ≤ rd l (i : Int):=by rw [ht,decide_eq_true_iff] at h;exact h.1
      by_cases hi : i = 0
      · subst hi
        refine Evt.neg (by omega) (ihs.mono fun r hr => ?_)
        rw [hr,prevI,if_pos rfl,decide_eq_true (show (0 : Int) < rd l ((0 : Nat) : Int) by omega)]
        rfl
      · have hw : wrap64 ((i : Int) - 1) = ((i - 1 : Nat) : Int):=by unfold wrap64;omega
        rw [hw,prevI,if_neg hi]
        refine Evt.pos (by omega) (Evt.pos (by omega) (Evt.pos (by omega) ?_))
        refine Evt.ite (fun h2 => Evt.now _ ?_) fun h2 => ihs.mono fun r hr => ?_
        · rw [decide_eq_false (show ¬ rd l ((i - 1 : Nat) : Int) < rd l (i : Int) by omega)];rfl
        · rw [hr,decide_eq_true (show rd l ((i - 1 : Nat) : Int) < rd l (i : Int) by omega)];rfl
  simp only [impl_votersOk.f]
  exact key l.length 0 (by omega)
theorem l13By_ends (l : List Int) (hl : l.length ≤ 4611686018427387900) : Evt (fun k => spec_l13By.f k l) (fun r => r = byOk l):=by
  have key : ∀ (d i : Nat),i + d = l.length → Evt (fun k => spec_l13By.l0 k l (i : Int)) (fun r => r = (ascB (prevI l i) (l.drop i) && decide (3 ≤ l.length))):=by
    intro d
    induction d with
    | zero =>
      intro i hd
      rw [List.drop_eq_nil_of_le (by omega)]
      exact Evt.step (f:=fun _ => some _) (fun k => by simp only [spec_l13By.l0];rw [if_neg (by omega)]) (Evt.now _ (ge3 l))
    | succ d ih =>
      intro i hd
      have ihs:=ih (i + 1) (by omega)
      rw [prevI_succ] at ihs
      rw [drop_rd (l:=l) (i:=i) (by omega),ascB]
      refine Evt.step (fun k => by simp only [spec_l13By.l0,l6In_eq];rw [if_pos (by omega),if_pos (by omega),wrap_succ (by omega)]) ?_
      refine Evt.bind (P:=fun r => r = decide (1 ≤ rd l (i : Int) ∧ rd l (i : Int) ≤ 4)) (Evt.now _ rfl) fun t ht => ?_
      rw [← ht]
      refine Evt.ite (fun h => ?_) fun h => Evt.now _ (by rw [Bool.eq_false_iff.2 h];rfl)
      rw [h]
      have h1 : 1 ≤ rd l (i : Int):=by rw [ht,decide_eq_true_iff] at h;exact h.1
      by_cases hi : i = 0
      · subst hi
        refine Evt.neg (by omega) (ihs.mono fun r hr => ?_)
        rw [hr,prevI,if_pos rfl,decide_eq_true (show (0 : Int) < rd l ((0 : Nat) : Int) by omega)]
        rfl
      · have hw : wrap64 ((i : Int) - 1) = ((i - 1 : Nat) : Int):=by unfold wrap64;omega
        rw [hw,prevI,if_neg hi]
        refine Evt.pos (by omega) (Evt.pos (by omega) (Evt.pos (by omega) ?_))
        refine Evt.ite (fun h2 => Evt.now _ ?_) fun h2 => ihs.mono fun r hr => ?_
        · rw [decide_eq_false (show ¬ rd l ((i - 1 : Nat) : Int) < rd l (i : Int) by omega)];rfl
        · rw [hr,decide_eq_true (show rd l ((i - 1 : Nat) : Int) < rd l (i : Int) by omega)];rfl
  simp only [spec_l13By.f]
  exact key l.length 0 (by omega)
/-- The last three are of epochs one behind the other. -/
def lastThree (c : List It) : Bool:=decide ((rd_T40 c ((c.length - 3 : Nat) : Int)).f0 + 1 = (rd_T40 c ((c.length - 2 : Nat) : Int)).f0) && decide ((rd_T40 c ((c.length - 2 : Nat) : Int)).f0 + 1 = (rd_T40 c ((c.length - 1 : Nat) : Int)).f0)
def certOk (c : List It) (b : List (List Int)) : Bool:=chainOk c && (decide (3 ≤ c.length) && (decide (b.length = 3) && (b.all byOk && lastThree c)))
theorem okFrom_e {c : List It} : ∀ {e : Int},okFrom e c = true → ∀ x,x ∈ c → 1 ≤ x.f0 ∧ x.f0 ≤ 30:=by
  induction c with
  | nil => intro e _ x hx;cases hx
  | cons y ys ih =>
    intro e h x hx
    simp only [okFrom,itemOk,Bool.and_eq_true,decide_eq_true_iff] at h
    rcases List.mem_cons.1 hx with rfl|hx
    · exact h.1.1
    · exact ih h.2.2 x hx
theorem chainOk_e {c : List It} (h : chainOk c = true) {i : Nat} (hi : i < c.length) : wrap64 ((rd_T40 c (i : Int)).f0 + 1) = (rd_T40 c (i : Int)).f0 + 1:=by
  simp only [chainOk,Bool.and_eq_true] at h
  have:=okFrom_e h.1 _ (List.mem_of_getElem? (rdIt_get hi))
  exact wrap64_small (by omega) (by omega)
theorem chainOk_len16 {c : List It} (h : chainOk c = true) : c.length ≤ 16:=by
  simp only [chainOk,Bool.and_eq_true,decide_eq_true_iff] at h
  exact h.2
theorem final_ends (c : List It) (hok : chainOk c = true) (h3 : 3 ≤ c.length) : Evt (fun k => impl_final.f k c) (fun r => r = (c.length : Int) - 1 ↔ lastThree c = true):=by
  have hl:=chainOk_len16 hok
  have w3 : ∀ i : Nat,2 < i → i ≤ c.length → wrap64 ((i : Int) - 3) = ((i - 3 : Nat) : Int) ∧ wrap64 ((i : Int) - 2) = ((i - 2 : Nat) : Int) ∧ wrap64 ((i : Int) - 1) = ((i - 1 : Nat) : Int):=by
    intro i h1 h2
    refine ⟨?_,?_,?_⟩ <;> (unfold wrap64;omega)
  have low : ∀ i : Nat,i < c.length → Evt (fun k => impl_final.l0 k c (i : Int)) (fun r => r ≤ (c.length : Int) - 2):=by
    intro i
    induction i with
    | zero =>
      intro hi
      exact Evt.step (f:=fun _ => some 0) (fun k => by simp only [impl_final.l0];rw [if_neg (by omega)]) (Evt.now _ (by omega))
    | succ i ih =>
      intro hi
      by_cases h2 : 2 < i + 1
      · obtain ⟨a,b,d⟩:=w3 (i + 1) h2 (by omega)
        have ihs:=ih (by omega)
        rw [show i = i + 1 - 1 by omega] at ihs
        have e1:=chainOk_e hok (i:=i + 1 - 3) (by omega)
        have e2:=chainOk_e hok (i:=i + 1 - 2) (by omega)
        refine Evt.step (fun k => by simp only [impl_final.l0,a,b,d,e1,e2];rw [if_pos (by omega),if_pos (by omega),if_pos (by omega),if_pos (by omega),if_pos (by omega)]) ?_
        refine Evt.ite (fun _ => Evt.pos (by omega) (Evt.pos (by omega) ?_)) fun _ => ihs
        exact Evt.ite (fun _ => Evt.now _ (by omega)) fun _ => ihs
      · exact Evt.step (f:=fun _ => some 0) (fun k => by simp only [impl_final.l0];rw [if_neg (by omega)]) (Evt.now _ (by omega))
  obtain ⟨a,b,d⟩:=w3 c.length (by omega) (Nat.le_refl _)
  have e1:=chainOk_e hok (i:=c.length - 3) (by omega)
  have e2:=chainOk_e hok (i:=c.length - 2) (by omega)
  have lows:=low (c.length - 1) (by omega)
  simp only [impl_final.f]
  refine Evt.step (fun k => by simp only [impl_final.l0,a,b,d,e1,e2];rw [if_pos (by omega),if_pos (by omega),if_pos (by omega),if_pos (by omega),if_pos (by omega)]) ?_
  unfold lastThree
  refine Evt.ite (fun h1 => Evt.pos (by omega) (Evt.pos (by omega) ?_)) fun h1 => lows.mono fun r hr => ?_
  · rw [decide_eq_true h1,Bool.true_and,decide_eq_true_iff]
    exact Evt.ite (fun h2 => Evt.now _ ⟨fun _ => h2,fun _ => by omega⟩) fun h2 => lows.mono fun r hr => ⟨fun h4 => by omega,fun h4 => absurd h4 h2⟩
  · rw [decide_eq_false h1,Bool.false_and]
    exact ⟨fun h4 => by omega,fun h4 => (by cases h4)⟩
theorem containsBy_ends (b : List (List Int)) (hl : b.length ≤ 4611686018427387900) (hb : ∀ v,v ∈ b → v.length ≤ 4611686018427387900) : Evt (fun k => slices_ContainsFunc_int_int.f k b) (fun r => r = !(b.all byOk)):=by
  have key : ∀ (d i : Nat),i + d = b.length → Evt (fun k => slices_ContainsFunc_int_int.l0 k b (i : Int)) (fun r => r = !((b.drop i).all byOk)):=by
    intro d
    induction d with
    | zero =>
      intro i hd
      rw [List.drop_eq_nil_of_le (by omega)]
      exact Evt.step (f:=fun _ => some false) (fun k => by simp only [slices_ContainsFunc_int_int.l0];rw [if_neg (by omega)]) (Evt.now _ rfl)
    | succ d ih =>
      intro i hd
      have hi : i < b.length:=by omega
      rw [drop_LL hi,List.all_cons]
      refine Evt.step (fun k => by simp only [slices_ContainsFunc_int_int.l0];rw [if_pos (by omega),if_pos (by omega),wrap_succ (by omega)]) ?_
      refine Evt.bind (P:=fun r => r = byOk (rd_L3 b (i : Int))) (votersOk_ends (rd_L3 b (i : Int)) (hb _ (rdLL_mem hi))) fun t ht => ?_
      rw [← ht]
      exact Evt.ite (fun h => (ih (i + 1) (by omega)).mono fun r hr => by rw [hr,h];rfl) fun h => Evt.now _ (by rw [Bool.eq_false_iff.2 h];rfl)
  simp only [slices_ContainsFunc_int_int.f]
  exact key b.length 0 (by omega)
theorem certOk_impl (c : List It) (b : List (List Int)) (hc : c.length ≤ 4611686018427387900) (hl : b.length ≤ 4611686018427387900) (hb : ∀ v,v ∈ b → v.length ≤ 4611686018427387900) : Evt (fun k => impl_CertOk.f k c b) (fun r => r = certOk c b):=by
  simp only [impl_CertOk.f]
  unfold certOk
  refine Evt.bind (chainOk_impl c hc) fun t ht => ?_
  rw [← ht]
  refine Evt.ite (fun h => ?_) fun h => Evt.now _ (by rw [Bool.eq_false_iff.2 h];rfl)
  have hok : chainOk c = true:=by rw [← ht];exact h
  rw [h]
  refine Evt.ite (fun h2 => Evt.now _ (by rw [decide_eq_false (show ¬ 3 ≤ c.length by omega)];rfl)) fun h2 => ?_
  have h3 : 3 ≤ c.length:=by omega
  have hl16:=chainOk_len16 hok
  have w : wrap64 ((c.length : Int) - 1) = (c.length : Int) - 1:=wrap64_small (by omega) (by omega)
  rw [decide_eq_true h3,w]
  refine Evt.bind (final_ends c hok h3) fun f hf => ?_
  refine Evt.ite (fun h4 => ?_) fun h4 => Evt.now _ ?_
  · rw [hf.1 h4]
    refine Evt.ite (fun h5 => ?_) fun h5 => Evt.now _ (by rw [decide_eq_false (show ¬ b.length = 3 by omega)];rfl)
    rw [decide_eq_true (show b.length = 3 by omega)]
    exact Evt.bind (containsBy_ends b hl hb) fun u hu => Evt.now _ (by rw [hu];simp)
  · have : lastThree c = false:=Bool.eq_false_iff.2 fun h6 => h4 (hf.2 h6)
    rw [this]
    simp
theorem certOk_spec (c : List It) (b : List (List Int)) (hc : c.length ≤ 4611686018427387900) (hl : b.length ≤ 4611686018427387900) (hb : ∀ v,v ∈ b → v.length ≤ 4611686018427387900) : Evt (fun k => spec_CertOk.f k c b) (fun r => r = certOk c b):=by
  simp only [spec_CertOk.f]
  unfold certOk
  have out : Evt (fun k => spec_CertOk.j0 k (c.length : Int) true c b) (fun r => r = false):=Evt.step (f:=fun _ => some false) (fun k => by simp only [spec_CertOk.j0];rw [if_pos trivial]) (Evt.now _ rfl)
  refine Evt.bind (chainOk_spec c hc) fun t ht => ?_
  rw [← ht]
  refine Evt.ite (fun h => ?_) fun h => out.mono fun r hr => (by rw [hr,Bool.eq_false_iff.2 h];rfl)
  have hok : chainOk c = true:=by rw [← ht];exact h
  rw [h]
  refine Evt.ite (fun h2 => out.mono fun r hr => (by rw [hr,decide_eq_false (show ¬ 3 ≤ c.length by omega)];rfl)) fun h2 => ?_
  have h3 : 3 ≤ c.length:=by omega
  have hl16:=chainOk_len16 hok
  rw [decide_eq_true h3]
  by_cases h5 : b.length = 3
  · have hf : ((b.length : Int) != 3) = false:=by simp;omega
    rw [hf,decide_eq_true h5]
    refine Evt.step (f:=fun k => spec_CertOk.l0 k (c.length : Int) ((0 : Nat) : Int) c b) (fun k => by simp only [spec_CertOk.j0];rw [if_neg (by decide)];rfl) ?_
    have key : ∀ (d i : Nat),i + d = b.length → Evt (fun k => spec_CertOk.l0 k (c.length : Int) (i : Int) c b) (fun r => r = ((b.drop i).all byOk && lastThree c)):=by
      intro d
      induction d with
      | zero =>
        intro i hd
        rw [List.drop_eq_nil_of_le (by omega)]
        have a1 : wrap64 ((c.length : Int) - 3) = ((c.length - 3 : Nat) : Int):=by unfold wrap64;omega
        have a2 : wrap64 ((c.length : Int) - 2) = ((c.length - 2 : Nat) : Int):=by unfold wrap64;omega
        have a3 : wrap64 ((c.length : Int) - 1) = ((c.length - 1 : Nat) : Int):=by unfold wrap64;omega
        have e1:=chainOk_e hok (i:=c.length - 3) (by omega)
        have e2:=chainOk_e hok (i:=c.length - 2) (by omega)
        refine Evt.step (fun k => by simp only [spec_CertOk.l0,a1,a2,a3,e1,e2];rw [if_neg (by omega),if_pos (by omega),if_pos (by omega),if_pos (by omega),if_pos (by omega)]) ?_
        unfold lastThree
        refine Evt.ite (fun h6 => Evt.pos (by omega) (Evt.pos (by omega) (Evt.now _ ?_))) fun h6 => Evt.now _ (by rw [decide_eq_false h6];rfl)
        rw [decide_eq_true h6,List.all_nil]
        rfl
      | succ d ih =>
        intro i hd
        have hi : i < b.length:=by omega
        rw [drop_LL hi,List.all_cons]
        refine Evt.step (fun k => by simp only [spec_CertOk.l0];rw [if_pos (by omega),if_pos (by omega),if_pos (by omega),wrap_succ (by omega)]) ?_
        refine Evt.bind (l13By_ends _ (hb _ (rdLL_mem hi))) fun t ht => ?_
        rw [← ht]
        exact Evt.ite (fun h => (ih (i + 1) (by omega)).mono fun r hr => by rw [hr,h];rfl) fun h => Evt.now _ (by rw [Bool.eq_false_iff.2 h];rfl)
    exact key b.length 0 (by omega)
  · have hf : ((b.length : Int) != 3) = true:=by simp;omega
    rw [hf,decide_eq_false h5]
    exact out
abbrev LIt:=S64
def toIt (x : LIt) : It:=⟨x.f0,⟨x.f1.f0,x.f1.f1,x.f1.f2⟩⟩
theorem rdLIt_get {l : List LIt} {i : Nat} {x : LIt} (h : l[i]? = some x) : rd_T64 l (i : Int) = x:=by
  show l.getD ((i : Int)).toNat _ = x
  rw [Int.toNat_natCast,List.getD_eq_getElem?_getD,h]
  rfl
theorem toItem_eq (a b c d : Int) : laws_toItem.f a b c d = some (a,b,c,d):=rfl
theorem toItemS_ends (l : List LIt) (hl : l.length ≤ 1048576) : Evt (fun k => laws_toItemS.f k l) (fun r => r = l.map toIt):=by
  have h:=copy_loop toIt l (fun k xs i => laws_toItemS.l0 k l xs (i : Int)) (fun k xs => by simp only [laws_toItemS.l0];rw [if_neg (by omega)])
    (fun i x hx k xs hxs => by
      have hil : i < l.length:=(List.getElem?_eq_some_iff.1 hx).1
      simp only [laws_toItemS.l0,toItem_eq,Option.bind_some]
      rw [if_pos (by omega),if_pos (by omega),if_pos (by omega),wrap_succ (by omega),Int.toNat_natCast,rdLIt_get hx]
      rfl) (List.replicate l.length z40) (by simp)
  exact Evt.congr (fun k => by unfold laws_toItemS.f;rw [if_pos (by omega),if_pos (by omega),Int.toNat_natCast];rfl) h
theorem eqItem_eq (x y : It) : laws_eqItem.f x.f0 x.f1.f0 x.f1.f1 x.f1.f2 y.f0 y.f1.f0 y.f1.f1 y.f1.f2 = some (decide (x = y)):=by
  obtain ⟨a,b,c,d⟩:=x
  obtain ⟨a',b',c',d'⟩:=y
  unfold laws_eqItem.f laws_eqPay.f
  simp only
  by_cases h1 : a = a' <;> by_cases h2 : b = b' <;> by_cases h3 : c = c' <;> by_cases h4 : d = d' <;> simp [h1,h2,h3,h4]
theorem eqItemS_ends (a b : List It) (hl : a.length ≤ 4611686018427387900) : Evt (fun k => laws_eqItemS.f k a b) (fun r => r = decide (a = b)):=by
  by_cases h : (a.length : Int) = (b.length : Int)
  · have hn : a.length = b.length:=by omega
    have hc:=cmp_loop a b a.length (fun k i => laws_eqItemS.l0 k a b (i : Int)) (fun k => by simp only [laws_eqItemS.l0];rw [if_neg (by omega)])
      (fun i hi he k => by
        rw [rdIt_get (l:=a) hi,rdIt_get (l:=b) (by omega)] at he
        have he':=Option.some.inj he
        simp only [laws_eqItemS.l0]
        rw [if_pos (by omega),if_pos (by omega),if_pos (by omega),eqItem_eq,Option.bind_some,if_pos (by simp [he']),wrap_succ (by omega)])
      (fun i hi he k => by
        rw [rdIt_get (l:=a) hi,rdIt_get (l:=b) (by omega)] at he
        have he' : ¬ rd_T40 a (i : Int) = rd_T40 b (i : Int):=fun e => he (by rw [e])
        simp only [laws_eqItemS.l0]
        rw [if_pos (by omega),if_pos (by omega),if_pos (by omega),eqItem_eq,Option.bind_some,if_neg (by simpa using he')])
    refine (Evt.congr (fun k => by unfold laws_eqItemS.f;rw [if_pos h];rfl) hc).mono fun r hr => decide_of ?_
    rw [hr,List.take_of_length_le (Nat.le_refl _),List.take_of_length_le (by omega)]
  · refine Evt.congr (fun k => by unfold laws_eqItemS.f;rw [if_neg h]) (Evt.now _ ?_)
    have : a ≠ b:=by
      rintro rfl
      exact h rfl
    simp [this]
theorem szItemS_eq (l : List LIt) (n : Int) (h0 : 0 ≤ n) (h1 : n ≤ 1048576) (hl : l.length ≤ 9223372036854775807) : laws_szItemS.f l n = some (if n - (l.length : Int) < 0 then -1 else n - (l.length : Int)):=by
  unfold laws_szItemS.f
  have e : wrap64 (n - (l.length : Int)) = n - (l.length : Int):=by unfold wrap64;omega
  rw [e]
  split <;> rfl

end Go.Proofs.Ytlcfalecbpnhbaa.Pure
