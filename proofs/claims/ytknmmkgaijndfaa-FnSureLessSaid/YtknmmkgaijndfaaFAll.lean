/- Plain facts on what the printed functions compute (within payok chain vote votes equal has votesok votesmath votesmath2 voters l1in l3has tree votesfor l3add pick pay draws two votesdraw drawvote spoilt some drawtree chaintake). Conditions: each theorem's own. -/
import Derived.Test.YtknmmkgaijndfaaPx0
import Derived.Test.YtknmmkgaijndfaaPx2
import Derived.Test.YtknmmkgaijndfaaPx3
import Derived.Test.YtknmmkgaijndfaaPx4
import Derived.Test.YtknmmkgaijndfaaPx5
import Derived.Test.YtknmmkgaijndfaaPx6
import Derived.Test.YtknmmkgaijndfaaPx7
import Derived.Test.YtknmmkgaijndfaaPx8
import Derived.Test.YtknmmkgaijndfaaPx9
import Derived.Test.YtknmmkgaijndfaaPx10
import Derived.Test.YtknmmkgaijndfaaPx11
import Derived.Test.YtknmmkgaijndfaaPlain
namespace Go.Proofs.Ytknmmkgaijndfaa.Pure
open Go.RowKit Go.Proofs.Ytknmmkgaijndfaa.P Go.Proofs.YtknmmkgaijndfaaW.PrintWords Go.Proofs.YtknmmkgaijndfaaW.PrintLast Go.Proofs.YtknmmkgaijndfaaW.PrintMore Go.Proofs.YtknmmkgaijndfaaE
set_option linter.unusedVariables false
set_option linter.unusedSimpArgs false

theorem within_eq (n lo hi : Int) : impl_within.f n lo hi = some (decide (lo ≤ n ∧ n ≤ hi)):=by
  unfold impl_within.f
  by_cases h : n ≥ lo
  · rw [if_pos h]
    by_cases h2 : n ≤ hi
    · simp [h2,show lo ≤ n from h]
    · simp [h2]
  · rw [if_neg h]
    simp [show ¬ lo ≤ n from h]
theorem l6In_eq (n lo hi : Int) : spec_l6In.f n lo hi = some (decide (lo ≤ n ∧ n ≤ hi)):=by
  unfold spec_l6In.f
  by_cases h : n ≥ lo
  · rw [if_pos h]
    by_cases h2 : n ≤ hi
    · simp [h2,show lo ≤ n from h]
    · simp [h2]
  · rw [if_neg h]
    simp [show ¬ lo ≤ n from h]
def payOk (a b c : Int) : Bool:=decide ((1 ≤ a ∧ a ≤ 3) ∧ (1 ≤ b ∧ b ≤ 3) ∧ a ≠ b ∧ (1 ≤ c ∧ c ≤ 9))
theorem payOk_impl (a b c : Int) : impl_PayOk.f a b c = some (payOk a b c):=by
  unfold impl_PayOk.f payOk
  simp only [within_eq,Option.bind_some]
  by_cases h1 : 1 ≤ a ∧ a ≤ 3
  · by_cases h2 : 1 ≤ b ∧ b ≤ 3
    · by_cases h3 : a = b
      · simp [h1,h2,h3]
      · simp [h1,h2,h3]
    · simp [h1,h2]
  · simp [h1]
theorem payOk_spec (a b c : Int) : spec_PayOk.f a b c = some (payOk a b c):=by
  unfold spec_PayOk.f payOk
  simp only [l6In_eq,Option.bind_some]
  by_cases h1 : 1 ≤ a ∧ a ≤ 3
  · by_cases h2 : 1 ≤ b ∧ b ≤ 3
    · by_cases h3 : a = b
      · simp [h1,h2,h3]
      · simp [h1,h2,h3]
    · simp [h1,h2]
  · simp [h1]
abbrev It:=S58
instance : DecidableEq S56:=fun ⟨a,b,c⟩ ⟨a',b',c'⟩ => decidable_of_iff (a = a' ∧ b = b' ∧ c = c') (by simp)
instance : DecidableEq It:=fun ⟨a,b⟩ ⟨a',b'⟩ => decidable_of_iff (a = a' ∧ b = b') (by simp)
theorem rdIt_get {l : List It} {i : Nat} (h : i < l.length) : l[i]? = some (rd_T58 l (i : Int)):=by
  show _ = some (l.getD ((i : Int)).toNat _)
  rw [Int.toNat_natCast,List.getD_eq_getElem?_getD,List.getElem?_eq_getElem h]
  rfl
theorem drop_it {l : List It} {i : Nat} (h : i < l.length) : l.drop i = rd_T58 l (i : Int) :: l.drop (i + 1):=by
  have e:=rdIt_get h
  rw [List.getElem?_eq_getElem h] at e
  rw [List.drop_eq_getElem_cons h,Option.some.inj e]
theorem neq_it (x y : It) : ((!(x.f0 == y.f0) || ((!(x.f1.f0 == y.f1.f0) || (!(x.f1.f1 == y.f1.f1) || (!(x.f1.f2 == y.f1.f2)))))) = true) ↔ x ≠ y:=by
  obtain ⟨a,b,c,d⟩:=x
  obtain ⟨a',b',c',d'⟩:=y
  simp
  omega
theorem eq_it (x y : It) : ((x.f0 == y.f0) && ((x.f1.f0 == y.f1.f0) && ((x.f1.f1 == y.f1.f1) && (x.f1.f2 == y.f1.f2)))) = true ↔ x = y:=by
  obtain ⟨a,b,c,d⟩:=x
  obtain ⟨a',b',c',d'⟩:=y
  simp
def itemOk (x : It) : Bool:=decide (1 ≤ x.f0 ∧ x.f0 ≤ 30) && payOk x.f1.f0 x.f1.f1 x.f1.f2
/-- Items go on behind epoch e. -/
def okFrom : Int → List It → Bool
  | _,[] => true
  | e,x :: xs => itemOk x && (decide (e < x.f0) && okFrom x.f0 xs)
def chainOk (c : List It) : Bool:=okFrom 0 c && decide (c.length ≤ 16)
def prevE (l : List It) (i : Nat) : Int:=if i = 0 then 0 else (rd_T58 l ((i - 1 : Nat) : Int)).f0
theorem prevE_succ (l : List It) (i : Nat) : prevE l (i + 1) = (rd_T58 l (i : Int)).f0:=by simp [prevE]
theorem epochOk_eq (e : Int) : impl_epochOk.f e = some (decide (1 ≤ e ∧ e ≤ 30)):=by
  unfold impl_epochOk.f
  simp [within_eq]
theorem chainOk_impl (l : List It) (hl : l.length ≤ 4611686018427387900) : Evt (fun k => impl_ChainOk.f k l) (fun r => r = chainOk l):=by
  have key : ∀ (d i : Nat),i + d = l.length → Evt (fun k => impl_ChainOk.l0 k l l (l.length : Int) (i : Int)) (fun r => r = (okFrom (prevE l i) (l.drop i) && decide (l.length ≤ 16))):=by
    intro d
    induction d with
    | zero =>
      intro i hd
      rw [List.drop_eq_nil_of_le (by omega)]
      refine Evt.step (f:=fun _ => some (decide ((l.length : Int) ≤ 16))) (fun k => by simp only [impl_ChainOk.l0];rw [if_neg (by omega)]) (Evt.now _ ?_)
      by_cases h : l.length ≤ 16
      · simp [okFrom,h,show (l.length : Int) ≤ 16 by omega]
      · simp [okFrom,h,show ¬ (l.length : Int) ≤ 16 by omega]
    | succ d ih =>
      intro i hd
      have ihs:=ih (i + 1) (by omega)
      rw [prevE_succ] at ihs
      rw [drop_it (l:=l) (i:=i) (by omega)]
      by_cases he : 1 ≤ (rd_T58 l (i : Int)).f0 ∧ (rd_T58 l (i : Int)).f0 ≤ 30
      · cases hp : payOk (rd_T58 l (i : Int)).f1.f0 (rd_T58 l (i : Int)).f1.f1 (rd_T58 l (i : Int)).f1.f2 with
        | false =>
          refine Evt.step (f:=fun _ => some false) (fun k => by
            simp only [impl_ChainOk.l0,epochOk_eq,payOk_impl,Option.bind_some]
            rw [if_pos (by omega),if_pos (by omega),if_pos (by omega),if_pos (by simpa using he),hp,if_neg (by decide)]) (Evt.now _ ?_)
          simp [okFrom,itemOk,hp]
        | true =>
          by_cases hi : i = 0
          · subst hi
            refine Evt.step (f:=fun k => impl_ChainOk.l0 k l l (l.length : Int) ((0 + 1 : Nat) : Int)) (fun k => by
              simp only [impl_ChainOk.l0,epochOk_eq,payOk_impl,Option.bind_some]
              rw [if_pos (by omega),if_pos (by omega),if_pos (by omega),if_pos (by simpa using he),hp,if_pos rfl,if_neg (by omega),wrap_succ (by omega)]) ?_
            refine ihs.mono fun r hr => ?_
            rw [hr]
            have h0 : (0 : Int) < (rd_T58 l ((0 : Nat) : Int)).f0:=by omega
            simp only [okFrom,itemOk,prevE,hp,he,h0,decide_true,and_self,if_true,Bool.true_and,Bool.and_true]
          · have hw : wrap64 ((i : Int) - 1) = ((i - 1 : Nat) : Int):=by unfold wrap64;omega
            by_cases hlt : (rd_T58 l ((i - 1 : Nat) : Int)).f0 < (rd_T58 l (i : Int)).f0
            · refine Evt.step (f:=fun k => impl_ChainOk.l0 k l l (l.length : Int) ((i + 1 : Nat) : Int)) (fun k => by
                simp only [impl_ChainOk.l0,epochOk_eq,payOk_impl,Option.bind_some]
                rw [if_pos (by omega),if_pos (by omega),if_pos (by omega),if_pos (by simpa using he),hp,if_pos rfl,if_pos (by omega),hw,if_pos (by omega),if_pos (by omega),if_neg (by omega),wrap_succ (by omega)]) ?_
              refine ihs.mono fun r hr => ?_
              rw [hr]
              simp [okFrom,itemOk,prevE,hp,he,hi,hlt]
            · refine Evt.step (f:=fun _ => some false) (fun k => by
                simp only [impl_ChainOk.l0,epochOk_eq,payOk_impl,Option.bind_some]
                rw [if_pos (by omega),if_pos (by omega),if_pos (by omega),if_pos (by simpa using he),hp,if_pos rfl,if_pos (by omega),hw,if_pos (by omega),if_pos (by omega),if_pos (by omega)]) (Evt.now _ ?_)
              simp [okFrom,itemOk,prevE,hi,hlt]
      · refine Evt.step (f:=fun _ => some false) (fun k => by
          simp only [impl_ChainOk.l0,epochOk_eq,Option.bind_some]
          rw [if_pos (by omega),if_pos (by omega),if_pos (by omega),if_neg (by simpa using he)]) (Evt.now _ ?_)
        simp [okFrom,itemOk,he]
  refine (Evt.congr (fun k => by unfold impl_ChainOk.f;rfl) (key l.length 0 (by omega))).mono fun r hr => ?_
  simpa [chainOk,prevE] using hr
theorem chainOk_spec (l : List It) (hl : l.length ≤ 4611686018427387900) : Evt (fun k => spec_ChainOk.f k l) (fun r => r = chainOk l):=by
  have key : ∀ (d i : Nat),i + d = l.length → Evt (fun k => spec_ChainOk.l0 k l (i : Int)) (fun r => r = (okFrom (prevE l i) (l.drop i) && decide (l.length ≤ 16))):=by
    intro d
    induction d with
    | zero =>
      intro i hd
      rw [List.drop_eq_nil_of_le (by omega)]
      refine Evt.step (f:=fun _ => some (decide ((l.length : Int) ≤ 16))) (fun k => by simp only [spec_ChainOk.l0];rw [if_neg (by omega)]) (Evt.now _ ?_)
      by_cases h : l.length ≤ 16
      · simp [okFrom,h,show (l.length : Int) ≤ 16 by omega]
      · simp [okFrom,h,show ¬ (l.length : Int) ≤ 16 by omega]
    | succ d ih =>
      intro i hd
      have ihs:=ih (i + 1) (by omega)
      rw [prevE_succ] at ihs
      rw [drop_it (l:=l) (i:=i) (by omega)]
      by_cases he : 1 ≤ (rd_T58 l (i : Int)).f0 ∧ (rd_T58 l (i : Int)).f0 ≤ 30
      · cases hp : payOk (rd_T58 l (i : Int)).f1.f0 (rd_T58 l (i : Int)).f1.f1 (rd_T58 l (i : Int)).f1.f2 with
        | false =>
          refine Evt.step (f:=fun _ => some false) (fun k => by
            simp only [spec_ChainOk.l0,l6In_eq,payOk_spec,Option.bind_some]
            rw [if_pos (by omega),if_pos (by omega),if_pos (by simpa using he),hp,if_neg (by decide)]) (Evt.now _ ?_)
          simp [okFrom,itemOk,hp]
        | true =>
          by_cases hi : i = 0
          · subst hi
            refine Evt.step (f:=fun k => spec_ChainOk.l0 k l ((0 + 1 : Nat) : Int)) (fun k => by
              simp only [spec_ChainOk.l0,l6In_eq,payOk_spec,Option.bind_some]
              rw [if_pos (by omega),if_pos (by omega),if_pos (by simpa using he),hp,if_pos rfl,if_neg (by omega),wrap_succ (by omega)]) ?_
            refine ihs.mono fun r hr => ?_
            rw [hr]
            have h0 : (0 : Int) < (rd_T58 l ((0 : Nat) : Int)).f0:=by omega
            simp only [okFrom,itemOk,prevE,hp,he,h0,decide_true,and_self,if_true,Bool.true_and,Bool.and_true]
          · have hw : wrap64 ((i : Int) - 1) = ((i - 1 : Nat) : Int):=by unfold wrap64;omega
            by_cases hlt : (rd_T58 l ((i - 1 : Nat) : Int)).f0 < (rd_T58 l (i : Int)).f0
            · refine Evt.step (f:=fun k => spec_ChainOk.l0 k l ((i + 1 : Nat) : Int)) (fun k => by
                simp only [spec_ChainOk.l0,l6In_eq,payOk_spec,Option.bind_some]
                rw [if_pos (by omega),if_pos (by omega),if_pos (by simpa using he),hp,if_pos rfl,if_pos (by omega),hw,if_pos (by omega),if_pos (by omega),if_neg (by omega),wrap_succ (by omega)]) ?_
              refine ihs.mono fun r hr => ?_
              rw [hr]
              simp [okFrom,itemOk,prevE,hp,he,hi,hlt]
            · refine Evt.step (f:=fun _ => some false) (fun k => by
                simp only [spec_ChainOk.l0,l6In_eq,payOk_spec,Option.bind_some]
                rw [if_pos (by omega),if_pos (by omega),if_pos (by simpa using he),hp,if_pos rfl,if_pos (by omega),hw,if_pos (by omega),if_pos (by omega),if_pos (by omega)]) (Evt.now _ ?_)
              simp [okFrom,itemOk,prevE,hi,hlt]
      · refine Evt.step (f:=fun _ => some false) (fun k => by
          simp only [spec_ChainOk.l0,l6In_eq,Option.bind_some]
          rw [if_pos (by omega),if_pos (by omega),if_neg (by simpa using he)]) (Evt.now _ ?_)
        simp [okFrom,itemOk,he]
  refine (Evt.congr (fun k => by unfold spec_ChainOk.f;rfl) (key l.length 0 (by omega))).mono fun r hr => ?_
  simpa [chainOk,prevE] using hr
def voteOk (n : Int) (c : List It) : Bool:=decide (1 ≤ n ∧ n ≤ 4) && (decide (0 < c.length) && chainOk c)
theorem nodeOk_eq (n : Int) : impl_nodeOk.f n = some (decide (1 ≤ n ∧ n ≤ 4)):=by
  unfold impl_nodeOk.f
  rw [within_eq]
  rfl
theorem voteOk_impl (n : Int) (c : List It) (hl : c.length ≤ 4611686018427387900) : Evt (fun k => impl_VoteOk.f k n c) (fun r => r = voteOk n c):=by
  simp only [impl_VoteOk.f,nodeOk_eq,Option.bind_some]
  unfold voteOk
  refine Evt.ite (fun h => ?_) fun h => Evt.now _ (by rw [Bool.eq_false_iff.2 h];rfl)
  rw [h]
  refine Evt.ite (fun h2 => ?_) fun h2 => Evt.now _ (by rw [decide_eq_false (show ¬ 0 < c.length by omega)];rfl)
  rw [decide_eq_true (show 0 < c.length by omega)]
  exact Evt.bind (chainOk_impl c hl) fun t ht => Evt.now _ (by rw [ht];rfl)
theorem l3Vote_ends (n : Int) (c : List It) (hl : c.length ≤ 4611686018427387900) : Evt (fun k => spec_l3Vote.f k n c) (fun r => r = voteOk n c):=by
  simp only [spec_l3Vote.f,l6In_eq,Option.bind_some]
  unfold voteOk
  refine Evt.ite (fun h => ?_) fun h => Evt.now _ (by rw [Bool.eq_false_iff.2 h];rfl)
  rw [h]
  refine Evt.bind (chainOk_spec c hl) fun t ht => ?_
  rw [ht]
  refine Evt.ite (fun h2 => Evt.now _ ?_) fun h2 => Evt.now _ (by rw [Bool.eq_false_iff.2 h2];simp)
  rw [h2]
  simp only [Bool.true_and,Bool.and_true]
  exact decide_of (by rw [decide_eq_true_iff];omega)
abbrev Vt:=S48
instance : DecidableEq Vt:=fun ⟨a,b⟩ ⟨a',b'⟩ => decidable_of_iff (a = a' ∧ b = b') (by simp)
theorem rdVt_get {l : List Vt} {i : Nat} (h : i < l.length) : l[i]? = some (rd_T48 l (i : Int)):=by
  show _ = some (l.getD ((i : Int)).toNat _)
  rw [Int.toNat_natCast,List.getD_eq_getElem?_getD,List.getElem?_eq_getElem h]
  rfl
theorem drop_vt {l : List Vt} {i : Nat} (h : i < l.length) : l.drop i = rd_T48 l (i : Int) :: l.drop (i + 1):=by
  have e:=rdVt_get h
  rw [List.getElem?_eq_getElem h] at e
  rw [List.drop_eq_getElem_cons h,Option.some.inj e]
theorem take_vt {l : List Vt} {i : Nat} (h : i < l.length) : l.take (i + 1) = l.take i ++ [rd_T48 l (i : Int)]:=by
  rw [List.take_add_one,rdVt_get h]
  rfl
theorem rdVt_mem {l : List Vt} {i : Nat} (h : i < l.length) : rd_T48 l (i : Int) ∈ l:=List.mem_of_getElem? (rdVt_get h)
/-- A vote of node n for chain c is among them. -/
def hasV (l : List Vt) (n : Int) (c : List It) : Bool:=l.any fun v => decide (v.f0 = n) && decide (v.f1 = c)
def votesFrom (p : List Vt) : List Vt → Bool
  | [] => true
  | v :: vs => voteOk v.f0 v.f1 && (!hasV p v.f0 v.f1 && votesFrom (p ++ [v]) vs)
def votesOk (l : List Vt) : Bool:=votesFrom [] l
theorem equal_ends (a b : List It) (hl : a.length ≤ 4611686018427387900) : Evt (fun k => impl_Item.f k a b) (fun r => r = decide (a = b)):=by
  by_cases h : (a.length : Int) = (b.length : Int)
  · have hn : a.length = b.length:=by omega
    have hc:=cmp_loop a b a.length (fun k i => impl_Item.l0 k a b (a.length : Int) (i : Int)) (fun k => by simp only [impl_Item.l0];rw [if_neg (by omega)])
      (fun i hi he k => by
        rw [rdIt_get (l:=a) hi,rdIt_get (l:=b) (by omega)] at he
        have he':=Option.some.inj he
        simp only [impl_Item.l0]
        rw [if_pos (by omega),if_pos (by omega),if_pos (by omega),if_pos (by omega),if_neg (by rw [neq_it];exact fun h2 => h2 he'),wrap_succ (by omega)])
      (fun i hi he k => by
        rw [rdIt_get (l:=a) hi,rdIt_get (l:=b) (by omega)] at he
        have he' : ¬ rd_T58 a (i : Int) = rd_T58 b (i : Int):=fun e => he (by rw [e])
        simp only [impl_Item.l0]
        rw [if_pos (by omega),if_pos (by omega),if_pos (by omega),if_pos (by omega),if_pos (by rw [neq_it];exact he')])
    refine (Evt.congr (fun k => by unfold impl_Item.f;rw [if_pos h];rfl) hc).mono fun r hr => decide_of ?_
    rw [hr,List.take_of_length_le (Nat.le_refl _),List.take_of_length_le (by omega)]
  · refine Evt.congr (fun k => by unfold impl_Item.f;rw [if_neg h]) (Evt.now _ ?_)
    have : a ≠ b:=by
      rintro rfl
      exact h rfl
    simp [this]
theorem same_ends (n : Int) (c : List It) (n' : Int) (c' : List It) (hc : c.length ≤ 4611686018427387900) : Evt (fun k => impl_Vote_same.f k n c n' c') (fun r => r = (decide (n = n') && decide (c = c'))):=by
  simp only [impl_Vote_same.f]
  refine Evt.ite (fun h => ?_) fun h => Evt.now _ (by rw [decide_eq_false h];rfl)
  rw [decide_eq_true h]
  exact Evt.bind (equal_ends c c' hc) fun t ht => Evt.now _ (by rw [ht];rfl)
theorem has_impl (l : List Vt) (n : Int) (c : List It) (hl : l.length ≤ 4611686018427387900) (hc : c.length ≤ 4611686018427387900) : Evt (fun k => impl_votes_has.f k l n c) (fun r => r = hasV l n c):=by
  have key : ∀ (d i : Nat),i + d = l.length → Evt (fun k => impl_votes_has.l0 k l n c (i : Int)) (fun r => r = hasV (l.drop i) n c):=by
    intro d
    induction d with
    | zero =>
      intro i hd
      rw [List.drop_eq_nil_of_le (by omega)]
      exact Evt.step (f:=fun _ => some false) (fun k => by simp only [impl_votes_has.l0];rw [if_neg (by omega)]) (Evt.now _ rfl)
    | succ d ih =>
      intro i hd
      rw [drop_vt (l:=l) (i:=i) (by omega)]
      refine Evt.step (fun k => by simp only [impl_votes_has.l0];rw [if_pos (by omega),if_pos (by omega),wrap_succ (by omega)]) ?_
      refine Evt.bind (same_ends n c _ _ hc) fun t ht => ?_
      have e : (decide ((rd_T48 l (i : Int)).f0 = n) && decide ((rd_T48 l (i : Int)).f1 = c)) = t:=by
        rw [ht]
        congr 1 <;> exact decide_eq_decide.2 ⟨Eq.symm,Eq.symm⟩
      refine Evt.ite (fun h => Evt.now _ ?_) fun h => (ih (i + 1) (by omega)).mono fun r hr => ?_
      · rw [hasV,List.any_cons,e,h];rfl
      · rw [hr,hasV,hasV,List.any_cons,e,Bool.eq_false_iff.2 h];rfl
  exact key l.length 0 (by omega)
theorem votesOk_impl (l : List Vt) (hl : l.length ≤ 4611686018427387900) (hb : ∀ v,v ∈ l → v.f1.length ≤ 4611686018427387900) : Evt (fun k => impl_VotesOk.f k l) (fun r => r = votesOk l):=by
  have key : ∀ (d i : Nat),i + d = l.length → Evt (fun k => impl_VotesOk.l0 k l l (l.length : Int) (i : Int)) (fun r => r = votesFrom (l.take i) (l.drop i)):=by
    intro d
    induction d with
    | zero =>
      intro i hd
      rw [List.drop_eq_nil_of_le (by omega)]
      exact Evt.step (f:=fun _ => some true) (fun k => by simp only [impl_VotesOk.l0];rw [if_neg (by omega)]) (Evt.now _ rfl)
    | succ d ih =>
      intro i hd
      have hi : i < l.length:=by omega
      have ihs:=ih (i + 1) (by omega)
      rw [take_vt hi] at ihs
      rw [drop_vt hi,votesFrom]
      refine Evt.step (fun k => by simp only [impl_VotesOk.l0];rw [if_pos (by omega),if_pos (by omega),if_pos (by omega),wrap_succ (by omega),Int.toNat_natCast]) ?_
      refine Evt.bind (voteOk_impl _ _ (hb _ (rdVt_mem hi))) fun t ht => ?_
      rw [← ht]
      refine Evt.ite (fun h => ?_) fun h => Evt.now _ (by rw [Bool.eq_false_iff.2 h];rfl)
      rw [h]
      refine Evt.pos (by omega) ?_
      refine Evt.bind (has_impl (l.take i) _ _ (by rw [List.length_take];omega) (hb _ (rdVt_mem hi))) fun u hu => ?_
      rw [← hu]
      refine Evt.ite (fun h => Evt.now _ (by rw [h];rfl)) fun h => ihs.mono fun r hr => ?_
      rw [hr,Bool.eq_false_iff.2 h]
      rfl
  exact key l.length 0 (by omega)
theorem hasV_iff (l : List Vt) (n : Int) (c : List It) : hasV l n c = true ↔ (⟨n,c⟩ : Vt) ∈ l:=by
  rw [hasV,List.any_eq_true]
  constructor
  · rintro ⟨⟨a,b⟩,hv,h⟩
    simp only [Bool.and_eq_true,decide_eq_true_iff] at h
    rw [← h.1,← h.2]
    exact hv
  · exact fun h => ⟨_,h,by simp⟩
theorem votesFrom_iff (l : List Vt) : ∀ p,votesFrom p l = true ↔ (∀ v,v ∈ l → voteOk v.f0 v.f1 = true ∧ v ∉ p) ∧ l.Nodup:=by
  induction l with
  | nil => intro p;simp [votesFrom]
  | cons v vs ih =>
    intro p
    rw [votesFrom,Bool.and_eq_true,Bool.and_eq_true,ih,Bool.not_eq_true',← Bool.not_eq_true,hasV_iff,List.nodup_cons]
    constructor
    · rintro ⟨h1,h2,h3,h4⟩
      refine ⟨fun x hx => ?_,fun hm => (h3 v hm).2 (by simp),h4⟩
      rcases List.mem_cons.1 hx with rfl|hx
      · exact ⟨h1,h2⟩
      · exact ⟨(h3 x hx).1,fun hp => (h3 x hx).2 (by simp [hp])⟩
    · rintro ⟨h1,h2,h3⟩
      refine ⟨(h1 v (by simp)).1,(h1 v (by simp)).2,fun x hx => ⟨(h1 x (by simp [hx])).1,fun hp => ?_⟩,h3⟩
      rcases List.mem_append.1 hp with hp|hp
      · exact (h1 x (by simp [hx])).2 hp
      · exact h2 (by rw [← List.mem_singleton.1 hp];exact hx)
theorem votesOk_iff (l : List Vt) : votesOk l = true ↔ (∀ v,v ∈ l → voteOk v.f0 v.f1 = true) ∧ l.Nodup:=by
  rw [votesOk,votesFrom_iff]
  simp
/-- Who is for a chain. -/
def forC (l : List Vt) (c : List It) : List Int:=[1,2,3,4].filter fun n => hasV l n c
/-- How many votes are for a chain. -/
def manyC (l : List Vt) (c : List It) : Nat:=l.countP fun v => decide (v.f1 = c)
theorem voteOk_by {n : Int} {c : List It} (h : voteOk n c = true) : n = 1 ∨ n = 2 ∨ n = 3 ∨ n = 4:=by
  simp only [voteOk,Bool.and_eq_true,decide_eq_true_iff] at h
  omega
theorem hasV_cons (v : Vt) (l : List Vt) (n : Int) (c : List It) : hasV (v :: l) n c = (decide (v.f0 = n) && decide (v.f1 = c) || hasV l n c):=rfl
theorem many_for (l : List Vt) (c : List It) (h1 : ∀ v,v ∈ l → voteOk v.f0 v.f1 = true) (h2 : l.Nodup) : manyC l c = (forC l c).length:=by
  induction l with
  | nil => rfl
  | cons v vs ih =>
    have ih':=ih (fun x hx => h1 x (by simp [hx])) (List.nodup_cons.1 h2).2
    have hn:=(List.nodup_cons.1 h2).1
    unfold manyC at ih' ⊢
    rw [List.countP_cons,ih']
    by_cases hc : v.f1 = c
    · have hv : hasV vs v.f0 c = false:=by
        rw [← Bool.not_eq_true,hasV_iff,← hc]
        exact hn
      rcases voteOk_by (h1 v (by simp)) with hb|hb|hb|hb <;> rw [hb] at hv <;> simp only [forC,List.filter,hasV_cons,hb,hc,hv] <;>
        cases hasV vs 1 c <;> cases hasV vs 2 c <;> cases hasV vs 3 c <;> cases hasV vs 4 c <;> simp_all
    · simp [forC,List.filter,hasV_cons,hc]
theorem for_le (l : List Vt) (c : List It) : (forC l c).length ≤ 4:=List.length_filter_le _ _
theorem votesOk_sub {l m : List Vt} (h : votesOk l = true) (hs : m.Sublist l) : votesOk m = true:=by
  rw [votesOk_iff] at h ⊢
  exact ⟨fun v hv => h.1 v (hs.subset hv),h.2.sublist hs⟩
theorem votesOk_less {l : List Vt} (h : votesOk l = true) (k : Nat) : votesOk (l.take k ++ l.drop (k + 1)) = true :=
  votesOk_sub h (by rw [← List.eraseIdx_eq_take_drop_succ];exact List.eraseIdx_sublist l k)
theorem votesOk_rev {l : List Vt} (h : votesOk l = true) : votesOk l.reverse = true:=by
  rw [votesOk_iff] at h ⊢
  exact ⟨fun v hv => h.1 v (List.mem_reverse.1 hv),(List.reverse_perm l).nodup_iff.2 h.2⟩
theorem votesOk_twice {l : List Vt} {v : Vt} (hv : v ∈ l) : votesOk (l ++ [v]) = false:=by
  rw [← Bool.not_eq_true,votesOk_iff]
  rintro ⟨_,hn⟩
  exact (List.nodup_append.1 hn).2.2 v hv v (by simp) rfl
theorem hasV_rev (l : List Vt) (n : Int) (c : List It) : hasV l.reverse n c = hasV l n c:=by
  rw [Bool.eq_iff_iff,hasV_iff,hasV_iff,List.mem_reverse]
theorem for_rev (l : List Vt) (c : List It) : forC l.reverse c = forC l c:=by
  simp only [forC,hasV_rev]
/-- Enough voted for each beginning. -/
def sureC (l : List Vt) (c : List It) : Bool:=(List.range c.length).all fun i => decide (3 ≤ manyC l (c.take (i + 1)))
theorem sureC_iff (l : List Vt) (c : List It) : sureC l c = true ↔ ∀ i,i < c.length → 3 ≤ manyC l (c.take (i + 1)):=by
  simp [sureC,List.all_eq_true]
theorem sureC_take {l : List Vt} {c : List It} (h : sureC l c = true) (n : Nat) : sureC l (c.take n) = true:=by
  rw [sureC_iff] at h ⊢
  intro i hi
  rw [List.length_take] at hi
  have e : (c.take n).take (i + 1) = c.take (i + 1):=by rw [List.take_take];congr 1;omega
  rw [e]
  exact h i (by omega)
def treeSure (l : List Vt) (c : List It) : Bool:=votesOk l && (chainOk c && sureC l c)
theorem many_for' {l : List Vt} (h : votesOk l = true) (c : List It) : manyC l c = (forC l c).length:=by
  rw [votesOk_iff] at h
  exact many_for l c h.1 h.2
/-- All but the one vote. -/
def lessV (l : List Vt) (n : Int) (c : List It) : List Vt:=l.filter fun v => !(decide (v.f0 = n) && decide (v.f1 = c))
theorem lessV_cons (v : Vt) (l : List Vt) (n : Int) (c : List It) : lessV (v :: l) n c = if v.f0 = n ∧ v.f1 = c then lessV l n c else v :: lessV l n c:=by
  unfold lessV
  rw [List.filter_cons]
  by_cases h : v.f0 = n ∧ v.f1 = c
  · simp [h]
  · rw [if_neg h,if_pos]
    simpa using Decidable.not_and_iff_or_not.1 h
theorem lessV_none {l : List Vt} {n : Int} {c : List It} (h : (⟨n,c⟩ : Vt) ∉ l) : lessV l n c = l:=by
  unfold lessV
  rw [List.filter_eq_self]
  rintro ⟨a,b⟩ hv
  simp only [Bool.not_eq_true',← Bool.not_eq_true,Bool.and_eq_true,decide_eq_true_iff]
  rintro ⟨rfl,rfl⟩
  exact h hv
theorem lessV_len (l : List Vt) (n : Int) (c : List It) (h : l.Nodup) (hm : (⟨n,c⟩ : Vt) ∈ l) : (lessV l n c).length + 1 = l.length ∧ ∀ d,manyC (lessV l n c) d + (if d = c then 1 else 0) = manyC l d:=by
  induction l with
  | nil => cases hm
  | cons v vs ih =>
    obtain ⟨hv,hn⟩:=List.nodup_cons.1 h
    rw [lessV_cons]
    by_cases hx : v.f0 = n ∧ v.f1 = c
    · have e : v = ⟨n,c⟩:=by cases v;simp only at hx;rw [hx.1,hx.2]
      subst e
      rw [if_pos ⟨rfl,rfl⟩,lessV_none hv]
      refine ⟨rfl,fun d => ?_⟩
      unfold manyC
      rw [List.countP_cons]
      by_cases hd : c = d
      · subst hd;simp
      · have hd' : ¬ d = c:=fun e => hd e.symm
        simp [hd,hd']
    · rw [if_neg hx]
      have hm' : (⟨n,c⟩ : Vt) ∈ vs:=by
        rcases List.mem_cons.1 hm with e|e
        · exact absurd (by rw [← e];exact ⟨rfl,rfl⟩) hx
        · exact e
      obtain ⟨h1,h2⟩:=ih hn hm'
      refine ⟨by simp only [List.length_cons];omega,fun d => ?_⟩
      have:=h2 d
      unfold manyC at this ⊢
      rw [List.countP_cons,List.countP_cons]
      omega
theorem lessV_ok {l : List Vt} (h : votesOk l = true) (n : Int) (c : List It) : votesOk (lessV l n c) = true:=votesOk_sub h List.filter_sublist
theorem take_inj {c : List It} {i j : Nat} (hi : i ≤ c.length) (hj : j ≤ c.length) (h : c.take i = c.take j) : i = j:=by
  have:=congrArg List.length h
  rw [List.length_take,List.length_take] at this
  omega
/-- Without one of its votes what was sure is so still just if there was one vote more than enough. -/
theorem sure_less {l : List Vt} {c : List It} (h : treeSure l c = true) {n : Nat} (hn : n < c.length) {b : Int} (hb : hasV l b (c.take (n + 1)) = true) :
    treeSure (lessV l b (c.take (n + 1))) c = decide (3 < (forC l (c.take (n + 1))).length):=by
  simp only [treeSure,Bool.and_eq_true] at h
  obtain ⟨hl,hc,hs⟩:=h
  have hnd:=((votesOk_iff l).1 hl).2
  obtain ⟨_,hm⟩:=lessV_len l b (c.take (n + 1)) hnd ((hasV_iff _ _ _).1 hb)
  simp only [treeSure,lessV_ok hl,hc,Bool.true_and]
  rw [sureC_iff] at hs
  rw [Bool.eq_iff_iff,sureC_iff,decide_eq_true_iff,← many_for' hl]
  constructor
  · intro h
    have h1:=h n hn
    have h2:=hm (c.take (n + 1))
    rw [if_pos rfl] at h2
    omega
  · intro h i hi
    have h1:=hm (c.take (i + 1))
    have h2:=hs i hi
    by_cases e : i = n
    · subst e
      rw [if_pos rfl] at h1
      omega
    · rw [if_neg (fun e2 => e (by have:=take_inj (c:=c) (by omega) (by omega) e2;omega))] at h1
      omega
/-- How many votes are for a chain that is among some. -/
def someC (l : List Vt) (cs : List (List It)) : Nat:=l.countP fun v => decide (v.f1 ∈ cs)
theorem someC_all (l : List Vt) : someC l (l.map fun v => v.f1) = l.length:=by
  unfold someC
  rw [List.countP_eq_length]
  intro v hv
  exact decide_eq_true (List.mem_map.2 ⟨v,hv,rfl⟩)
theorem someC_old (l : List Vt) {cs : List (List It)} {c : List It} (h : c ∈ cs) : someC l (cs ++ [c]) = someC l cs:=by
  unfold someC
  congr 1
  funext v
  exact decide_eq_decide.2 ⟨fun hv => (List.mem_append.1 hv).elim id fun h2 => by rw [List.mem_singleton.1 h2];exact h,fun hv => List.mem_append.2 (.inl hv)⟩
theorem someC_new (l : List Vt) {cs : List (List It)} {c : List It} (h : c ∉ cs) : someC l (cs ++ [c]) = someC l cs + manyC l c:=by
  unfold someC manyC
  induction l with
  | nil => rfl
  | cons v vs ih =>
    rw [List.countP_cons,List.countP_cons,List.countP_cons,ih]
    by_cases h1 : v.f1 ∈ cs
    · have h2 : ¬ v.f1 = c:=fun e => h (e ▸ h1)
      simp [h1,h2];omega
    · by_cases h2 : v.f1 = c
      · simp [h2,h];omega
      · simp [h1,h2]
theorem many_pos {l : List Vt} {v : Vt} (h : v ∈ l) : 1 ≤ manyC l v.f1:=by
  unfold manyC
  exact List.countP_pos_iff.2 ⟨v,h,by simp⟩
theorem forC_eq (l : List Vt) (c : List It) : ((([] ++ (if hasV l 1 c = true then [1] else [])) ++ (if hasV l 2 c = true then [2] else [])) ++ (if hasV l 3 c = true then [3] else [])) ++ (if hasV l 4 c = true then [4] else []) = forC l c:=by
  simp only [forC,List.filter]
  cases hasV l 1 c <;> cases hasV l 2 c <;> cases hasV l 3 c <;> cases hasV l 4 c <;> rfl
theorem voters_ends (l : List Vt) (c : List It) (hl : l.length ≤ 4611686018427387900) (hc : c.length ≤ 4611686018427387900) : Evt (fun k => impl_votes_voters.f k l c) (fun r => r = forC l c):=by
  have step : ∀ (n : Int) (x : List Int) (Q : List Int → Prop),n ≤ 4 → 1 ≤ n → x.length ≤ 4 → Evt (fun k => impl_votes_voters.l0 k l c (x ++ (if hasV l n c = true then [n] else [])) (n + 1)) Q → Evt (fun k => impl_votes_voters.l0 k l c x n) Q:=by
    intro n x Q h1 h2 hx hk
    have w : wrap64 (n + 1) = n + 1:=by unfold wrap64;omega
    refine Evt.step (fun k => by simp only [impl_votes_voters.l0,w];rw [if_pos h1]) ?_
    refine Evt.bind (has_impl l n c hl hc) fun t ht => ?_
    rw [← ht] at hk
    refine Evt.ite (fun h => Evt.pos (by omega) ?_) fun h => ?_
    · rw [if_pos h] at hk;exact hk
    · rw [if_neg h,List.append_nil] at hk;exact hk
  have h1 : ∀ (n : Int) (x : List Int),(x ++ (if hasV l n c = true then [n] else [])).length ≤ x.length + 1:=by
    intro n x;rw [List.length_append];split <;> simp
  simp only [impl_votes_voters.f]
  have a1:=h1 1 []
  have a2:=h1 2 ([] ++ (if hasV l 1 c = true then [1] else []))
  have a3:=h1 3 (([] ++ (if hasV l 1 c = true then [1] else [])) ++ (if hasV l 2 c = true then [2] else []))
  refine step 1 [] _ (by omega) (by omega) (by simp) ?_
  refine step 2 _ _ (by omega) (by omega) (by simp only [List.length_nil] at a1;omega) ?_
  refine step 3 _ _ (by omega) (by omega) (by simp only [List.length_nil] at a1;omega) ?_
  refine step 4 _ _ (by omega) (by omega) (by simp only [List.length_nil] at a1;omega) ?_
  exact Evt.step (f:=fun _ => some _) (fun k => by simp only [impl_votes_voters.l0];rw [if_neg (by omega)]) (Evt.now _ (forC_eq l c))
theorem pre_iff (a b : List It) : a <+: b ↔ a.length ≤ b.length ∧ a.take a.length = b.take a.length:=by
  rw [List.take_of_length_le (Nat.le_refl _)]
  constructor
  · intro h
    exact ⟨h.length_le,List.prefix_iff_eq_take.1 h⟩
  · rintro ⟨_,h⟩
    exact List.prefix_iff_eq_take.2 h
theorem l1In_ends (a b : List It) (hl : a.length ≤ 4611686018427387900) : Evt (fun k => spec_l1In.f k a b) (fun r => r = decide (a <+: b)):=by
  by_cases h : (a.length : Int) > (b.length : Int)
  · refine Evt.congr (fun k => by unfold spec_l1In.f;rw [if_pos h]) (Evt.now _ ?_)
    apply decide_of
    rw [pre_iff]
    exact ⟨fun h2 => (by cases h2),fun h2 => absurd h2.1 (by omega)⟩
  · have hc:=cmp_loop a b a.length (fun k i => spec_l1In.l0 k a b (i : Int)) (fun k => by simp only [spec_l1In.l0];rw [if_neg (by omega)])
      (fun i hi he k => by
        rw [rdIt_get (l:=a) hi,rdIt_get (l:=b) (by omega)] at he
        have he':=Option.some.inj he
        simp only [spec_l1In.l0]
        rw [if_pos (by omega),if_pos (by omega),if_pos (by omega),if_neg (by rw [neq_it];exact fun h2 => h2 he'),wrap_succ (by omega)])
      (fun i hi he k => by
        rw [rdIt_get (l:=a) hi,rdIt_get (l:=b) (by omega)] at he
        have he' : ¬ rd_T58 a (i : Int) = rd_T58 b (i : Int):=fun e => he (by rw [e])
        simp only [spec_l1In.l0]
        rw [if_pos (by omega),if_pos (by omega),if_pos (by omega),if_pos (by rw [neq_it];exact he')])
    refine (Evt.congr (fun k => by unfold spec_l1In.f;rw [if_neg h];rfl) hc).mono fun r hr => decide_of ?_
    rw [hr,pre_iff]
    exact ⟨fun h2 => ⟨by omega,h2⟩,fun h2 => h2.2⟩
theorem l3Same_ends (a b : List It) (ha : a.length ≤ 4611686018427387900) : Evt (fun k => spec_l3Same.f k a b) (fun r => r = decide (a = b)):=by
  simp only [spec_l3Same.f]
  refine Evt.ite (fun h => ?_) fun h => Evt.now _ ?_
  · refine Evt.bind (l1In_ends a b ha) fun t ht => Evt.now _ ?_
    rw [ht]
    exact decide_eq_decide.2 ⟨fun hp => hp.eq_of_length (by omega),fun e => e ▸ List.prefix_rfl⟩
  · exact (decide_eq_false fun e => h (by rw [e])).symm
theorem l3Has_ends (l : List Vt) (n : Int) (c : List It) (hl : l.length ≤ 4611686018427387900) (hb : ∀ v,v ∈ l → v.f1.length ≤ 4611686018427387900) : Evt (fun k => spec_l3Has.f k l n c) (fun r => r = hasV l n c):=by
  have key : ∀ (d i : Nat),i + d = l.length → Evt (fun k => spec_l3Has.l0 k l (i : Int) n c) (fun r => r = hasV (l.drop i) n c):=by
    intro d
    induction d with
    | zero =>
      intro i hd
      rw [List.drop_eq_nil_of_le (by omega)]
      exact Evt.step (f:=fun _ => some false) (fun k => by simp only [spec_l3Has.l0];rw [if_neg (by omega)]) (Evt.now _ rfl)
    | succ d ih =>
      intro i hd
      have hi : i < l.length:=by omega
      rw [drop_vt hi]
      refine Evt.step (fun k => by simp only [spec_l3Has.l0];rw [if_pos (by omega),if_pos (by omega),wrap_succ (by omega)]) ?_
      refine Evt.ite (fun hn => ?_) fun hn => (ih (i + 1) (by omega)).mono fun r hr => ?_
      · refine Evt.bind (l3Same_ends _ c (hb _ (rdVt_mem hi))) fun t ht => ?_
        refine Evt.ite (fun h => Evt.now _ ?_) fun h => (ih (i + 1) (by omega)).mono fun r hr => ?_
        · rw [hasV,List.any_cons,decide_eq_true hn,← ht,h];rfl
        · rw [hr,hasV,hasV,List.any_cons,← ht,Bool.eq_false_iff.2 h];simp
      · rw [hr,hasV,hasV,List.any_cons,decide_eq_false hn];rfl
  exact key l.length 0 (by omega)
theorem votesOk_spec (l : List Vt) (hl : l.length ≤ 4611686018427387900) (hb : ∀ v,v ∈ l → v.f1.length ≤ 4611686018427387900) : Evt (fun k => spec_VotesOk.f k l) (fun r => r = votesOk l):=by
  have key : ∀ (d i : Nat),i + d = l.length → Evt (fun k => spec_VotesOk.l0 k l (i : Int)) (fun r => r = votesFrom (l.take i) (l.drop i)):=by
    intro d
    induction d with
    | zero =>
      intro i hd
      rw [List.drop_eq_nil_of_le (by omega)]
      exact Evt.step (f:=fun _ => some true) (fun k => by simp only [spec_VotesOk.l0];rw [if_neg (by omega)]) (Evt.now _ rfl)
    | succ d ih =>
      intro i hd
      have hi : i < l.length:=by omega
      have ihs:=ih (i + 1) (by omega)
      rw [take_vt hi] at ihs
      rw [drop_vt hi,votesFrom]
      refine Evt.step (fun k => by simp only [spec_VotesOk.l0];rw [if_pos (by omega),if_pos (by omega),wrap_succ (by omega),Int.toNat_natCast]) ?_
      refine Evt.bind (l3Vote_ends _ _ (hb _ (rdVt_mem hi))) fun t ht => ?_
      rw [← ht]
      refine Evt.ite (fun h => ?_) fun h => Evt.now _ (by rw [Bool.eq_false_iff.2 h];rfl)
      rw [h]
      refine Evt.pos (by omega) ?_
      refine Evt.bind (l3Has_ends (l.take i) _ _ (by rw [List.length_take];omega) (fun v hv => hb v (List.mem_of_mem_take hv))) fun u hu => ?_
      rw [← hu]
      refine Evt.ite (fun h => Evt.now _ (by rw [h];rfl)) fun h => ihs.mono fun r hr => ?_
      rw [hr,Bool.eq_false_iff.2 h]
      rfl
  exact key l.length 0 (by omega)
theorem manyC_cons (v : Vt) (l : List Vt) (c : List It) : manyC (v :: l) c = manyC l c + if v.f1 = c then 1 else 0:=by
  unfold manyC
  rw [List.countP_cons]
  by_cases h : v.f1 = c <;> simp [h]
theorem manyC_le (l : List Vt) (c : List It) : manyC l c ≤ l.length:=List.countP_le_length
theorem l3Many_ends (l : List Vt) (c : List It) (hl : l.length ≤ 4611686018427387900) (hb : ∀ v,v ∈ l → v.f1.length ≤ 4611686018427387900) : Evt (fun k => spec_l3Many.f k l c) (fun r => r = (manyC l c : Int)):=by
  have key : ∀ (d i a : Nat),i + d = l.length → a ≤ i → Evt (fun k => spec_l3Many.l0 k l c (a : Int) (i : Int)) (fun r => r = ((a + manyC (l.drop i) c : Nat) : Int)):=by
    intro d
    induction d with
    | zero =>
      intro i a hd ha
      rw [List.drop_eq_nil_of_le (by omega)]
      exact Evt.step (f:=fun _ => some (a : Int)) (fun k => by simp only [spec_l3Many.l0];rw [if_neg (by omega)]) (Evt.now _ rfl)
    | succ d ih =>
      intro i a hd ha
      have hi : i < l.length:=by omega
      rw [drop_vt hi,manyC_cons]
      refine Evt.step (fun k => by simp only [spec_l3Many.l0];rw [if_pos (by omega),if_pos (by omega),wrap_succ (i:=i) (by omega),wrap_succ (i:=a) (by omega)]) ?_
      refine Evt.bind (l3Same_ends _ c (hb _ (rdVt_mem hi))) fun t ht => ?_
      refine Evt.ite (fun h => (ih (i + 1) (a + 1) (by omega) (by omega)).mono fun r hr => ?_) fun h => (ih (i + 1) a (by omega) (by omega)).mono fun r hr => ?_
      · rw [ht,decide_eq_true_iff] at h
        rw [hr,if_pos h]
        omega
      · rw [ht,decide_eq_true_iff] at h
        rw [hr,if_neg h]
        rfl
  simp only [spec_l3Many.f]
  have:=key l.length 0 0 (by omega) (by omega)
  simpa using this
theorem sure_of (l : List Vt) (c : List It) {r : Bool} (h : r = true ↔ ∀ j,1 ≤ j → j ≤ c.length → 3 ≤ manyC l (c.take j)) : r = sureC l c:=by
  refine bool_iff h ?_
  rw [sureC_iff]
  exact ⟨fun h j h1 h2 => by have:=h (j - 1) (by omega);rwa [Nat.sub_add_cancel h1] at this,fun h i hi => h (i + 1) (by omega) (by omega)⟩
theorem l11Sure_ends (l : List Vt) (c : List It) (hl : l.length ≤ 4611686018427387900) (hb : ∀ v,v ∈ l → v.f1.length ≤ 4611686018427387900) (hc : c.length ≤ 4611686018427387900) : Evt (fun k => spec_l11Sure.f k l c) (fun r => r = sureC l c):=by
  have key : ∀ (d i : Nat),i + d = c.length + 1 → Evt (fun k => spec_l11Sure.l0 k l c (i : Int)) (fun r => r = true ↔ ∀ j,i ≤ j → j ≤ c.length → 3 ≤ manyC l (c.take j)):=by
    intro d
    induction d with
    | zero =>
      intro i hd
      exact Evt.step (f:=fun _ => some true) (fun k => by simp only [spec_l11Sure.l0];rw [if_neg (by omega)]) (Evt.now _ ⟨fun _ j h1 h2 => by omega,fun _ => rfl⟩)
    | succ d ih =>
      intro i hd
      refine Evt.step (fun k => by simp only [spec_l11Sure.l0];rw [if_pos (by omega),if_pos (by omega),wrap_succ (by omega),Int.toNat_natCast]) ?_
      refine Evt.bind (l3Many_ends l (c.take i) hl hb) fun t ht => ?_
      refine Evt.ite (fun h => Evt.now _ ⟨fun h2 => (by cases h2),fun h2 => absurd (h2 i (Nat.le_refl _) (by omega)) (by omega)⟩) fun h => (ih (i + 1) (by omega)).mono fun r hr => hr.trans ⟨fun h2 j h3 h4 => ?_,fun h2 j h3 h4 => h2 j (by omega) h4⟩
      by_cases e : j = i
      · rw [e];omega
      · exact h2 j (by omega) h4
  simp only [spec_l11Sure.f]
  exact (key c.length 1 (by omega)).mono fun r hr => sure_of l c hr
theorem treeSure_spec (l : List Vt) (c : List It) (hl : l.length ≤ 4611686018427387900) (hb : ∀ v,v ∈ l → v.f1.length ≤ 4611686018427387900) (hc : c.length ≤ 4611686018427387900) : Evt (fun k => spec_TreeSure.f k l c) (fun r => r = treeSure l c):=by
  simp only [spec_TreeSure.f]
  unfold treeSure
  refine Evt.bind (votesOk_spec l hl hb) fun t ht => ?_
  rw [← ht]
  refine Evt.ite (fun h => ?_) fun h => Evt.now _ (by rw [Bool.eq_false_iff.2 h];rfl)
  rw [h]
  refine Evt.bind (chainOk_spec c hc) fun t ht => ?_
  rw [← ht]
  refine Evt.ite (fun h => ?_) fun h => Evt.now _ (by rw [Bool.eq_false_iff.2 h];rfl)
  rw [h]
  exact Evt.bind (l11Sure_ends l c hl hb hc) fun t ht => Evt.now _ (by rw [ht];rfl)
theorem sure_impl (l : List Vt) (c : List It) (hok : votesOk l = true) (hl : l.length ≤ 4611686018427387900) (hc : c.length ≤ 4611686018427387900) : Evt (fun k => impl_votes_sure.f k l c) (fun r => r = sureC l c):=by
  have key : ∀ (d i : Nat),i + d = c.length + 1 → Evt (fun k => impl_votes_sure.l0 k l c (i : Int)) (fun r => r = true ↔ ∀ j,i ≤ j → j ≤ c.length → 3 ≤ manyC l (c.take j)):=by
    intro d
    induction d with
    | zero =>
      intro i hd
      exact Evt.step (f:=fun _ => some true) (fun k => by simp only [impl_votes_sure.l0];rw [if_neg (by omega)]) (Evt.now _ ⟨fun _ j h1 h2 => by omega,fun _ => rfl⟩)
    | succ d ih =>
      intro i hd
      have hm:=many_for' hok (c.take i)
      refine Evt.step (fun k => by simp only [impl_votes_sure.l0];rw [if_pos (by omega),if_pos (by omega),wrap_succ (by omega),Int.toNat_natCast]) ?_
      refine Evt.bind (voters_ends l (c.take i) hl (by rw [List.length_take];omega)) fun t ht => ?_
      rw [← ht] at hm
      refine Evt.ite (fun h => Evt.now _ ⟨fun h2 => (by cases h2),fun h2 => absurd (h2 i (Nat.le_refl _) (by omega)) (by omega)⟩) fun h => (ih (i + 1) (by omega)).mono fun r hr => hr.trans ⟨fun h2 j h3 h4 => ?_,fun h2 j h3 h4 => h2 j (by omega) h4⟩
      by_cases e : j = i
      · rw [e];omega
      · exact h2 j (by omega) h4
  simp only [impl_votes_sure.f]
  exact (key c.length 1 (by omega)).mono fun r hr => sure_of l c hr
theorem treeSure_impl (l : List Vt) (c : List It) (hl : l.length ≤ 4611686018427387900) (hb : ∀ v,v ∈ l → v.f1.length ≤ 4611686018427387900) (hc : c.length ≤ 4611686018427387900) : Evt (fun k => impl_TreeSure.f k l c) (fun r => r = treeSure l c):=by
  simp only [impl_TreeSure.f]
  unfold treeSure
  refine Evt.bind (votesOk_impl l hl hb) fun t ht => ?_
  rw [← ht]
  refine Evt.ite (fun h => ?_) fun h => Evt.now _ (by rw [Bool.eq_false_iff.2 h];rfl)
  have hok : votesOk l = true:=by rw [← ht];exact h
  rw [h]
  refine Evt.bind (chainOk_impl c hc) fun t ht => ?_
  rw [← ht]
  refine Evt.ite (fun h => ?_) fun h => Evt.now _ (by rw [Bool.eq_false_iff.2 h];rfl)
  rw [h]
  exact Evt.bind (sure_impl l c hok hl hc) fun t ht => Evt.now _ (by rw [ht];rfl)
def votesFor (l : List Vt) (c : List It) : List Int:=if votesOk l = true then forC l c else []
theorem votesFor_le (l : List Vt) (c : List It) : (votesFor l c).length ≤ 4:=by
  unfold votesFor
  split
  · exact for_le l c
  · simp
theorem votesFor_impl (l : List Vt) (c : List It) (hl : l.length ≤ 4611686018427387900) (hb : ∀ v,v ∈ l → v.f1.length ≤ 4611686018427387900) (hc : c.length ≤ 4611686018427387900) : Evt (fun k => impl_VotesFor.f k l c) (fun r => r = votesFor l c):=by
  simp only [impl_VotesFor.f]
  unfold votesFor
  refine Evt.bind (votesOk_impl l hl hb) fun t ht => ?_
  rw [← ht]
  refine Evt.ite (fun h => ?_) fun h => Evt.now _ (if_neg h).symm
  rw [if_pos h]
  exact Evt.bind (voters_ends l c hl hc) fun t ht => Evt.now _ ht
theorem l1Copy_eq (c : List It) (h : c.length ≤ 1048576) : spec_l1Copy.f c = some c:=by
  unfold spec_l1Copy.f
  show (if ([] : List It).length + c.length < 4398046511104 then some ([] ++ c) else none) = some c
  rw [if_pos (by rw [List.length_nil];omega)]
  rfl
theorem l3VoteCopy_eq (n : Int) (c : List It) (h : c.length ≤ 1048576) : spec_l3VoteCopy.f n c = some (n,c):=by
  unfold spec_l3VoteCopy.f
  rw [l1Copy_eq c h]
  rfl
/-- A list of so many votes at most, each for a chain of no more than 16. -/
def VB (l : List Vt) (m : Nat) : Prop:=l.length ≤ m ∧ ∀ v,v ∈ l → v.f1.length ≤ 16
theorem VB.nil (m : Nat) : VB [] m:=⟨by simp,fun v h => by cases h⟩
theorem VB.mono {l : List Vt} {m n : Nat} (h : VB l m) (hm : m ≤ n) : VB l n:=⟨by have:=h.1;omega,h.2⟩
theorem VB.snoc {l : List Vt} {m : Nat} (h : VB l m) {n : Int} {c : List It} (hc : c.length ≤ 16) : VB (l ++ [⟨n,c⟩]) (m + 1):=by
  refine ⟨by have:=h.1;simp;omega,fun v hv => ?_⟩
  rcases List.mem_append.1 hv with hv|hv
  · exact h.2 v hv
  · rw [List.mem_singleton.1 hv];exact hc
theorem VB.sub {l k : List Vt} {m : Nat} (h : VB l m) (hl : k.length ≤ m) (hs : ∀ v,v ∈ k → v ∈ l) : VB k m:=⟨hl,fun v hv => h.2 v (hs v hv)⟩
theorem VB.big {l : List Vt} {m : Nat} (h : VB l m) : ∀ v,v ∈ l → v.f1.length ≤ 4611686018427387900:=fun v hv => by have:=h.2 v hv;omega
theorem l3Add_ends (l : List Vt) (n : Int) (c : List It) {m : Nat} (hl : VB l m) (hm : m ≤ 1048576) (hc : c.length ≤ 16) : Evt (fun k => spec_l3Add.f k l n c) (fun r => VB r.1 (m + 1)):=by
  have h1:=hl.1
  simp only [spec_l3Add.f,l3VoteCopy_eq n c (by omega)]
  refine Evt.bind (l3Has_ends l n c (by omega) hl.big) fun t _ => ?_
  refine Evt.ite (fun _ => Evt.now _ (hl.mono (by omega))) fun _ => ?_
  refine Evt.bind (P:=fun r => r = (n,c)) (Evt.now _ rfl) fun b hb => ?_
  subst hb
  exact Evt.pos (by omega) (Evt.now _ (hl.snoc hc))
theorem xor_nonneg {a b : Int} (ha : 0 ≤ a) (ha2 : a < 4611686018427387904) (hb : 0 ≤ b) (hb2 : b < 4611686018427387904) : 0 ≤ Go.bits .xor .i64 a b:=by
  obtain ⟨x,rfl⟩:=Int.eq_ofNat_of_zero_le ha
  obtain ⟨y,rfl⟩:=Int.eq_ofNat_of_zero_le hb
  have hx : x < 2 ^ 62:=by omega
  have hy : y < 2 ^ 62:=by omega
  have e : Go.bits .xor .i64 (x : Int) (y : Int) = ((x ^^^ y : Nat) : Int):=by
    have hz : x ^^^ y < 2 ^ 62:=Nat.xor_lt_two_pow hx hy
    have h1 : (BitVec.ofInt 64 (x : Int)).toNat = x:=by
      rw [BitVec.ofInt_natCast,BitVec.toNat_ofNat];exact Nat.mod_eq_of_lt (by omega)
    have h2 : (BitVec.ofInt 64 (y : Int)).toNat = y:=by
      rw [BitVec.ofInt_natCast,BitVec.toNat_ofNat];exact Nat.mod_eq_of_lt (by omega)
    show IntKind.i64.wrap ((BitVec.ofInt 64 (x : Int) ^^^ BitVec.ofInt 64 (y : Int)).toNat : Int) = _
    rw [BitVec.toNat_xor,h1,h2,IntKind.wrap_i64]
    omega
  rw [e]
  omega
theorem rd_byte {l : List Int} (hl : ∀ x ∈ l,0 ≤ x ∧ x ≤ 255) (i : Int) : 0 ≤ rd l i ∧ rd l i ≤ 255:=by
  unfold rd
  rw [List.getD_eq_getElem?_getD]
  cases h : l[i.toNat]? with
  | none => simp
  | some x => exact hl x (List.mem_of_getElem? h)
theorem tmod_range {x n : Int} (hx : 0 ≤ x) (hn : 1 ≤ n) : 0 ≤ Int.tmod x n ∧ Int.tmod x n < n:=by
  rw [Int.tmod_eq_emod_of_nonneg hx]
  exact ⟨Int.emod_nonneg _ (by omega),Int.emod_lt_of_pos _ (by omega)⟩
/-- A pick answers, and steps on by one. -/
theorem pick_ends {l : List Int} (hl : ∀ x ∈ l,0 ≤ x ∧ x ≤ 255) (p n : Int) (h0 : 0 ≤ p) (h1 : p ≤ 1000000000) :
    Evt (fun k => spec_l6Rd_pick.f k l p n) (fun r => r.2 = p + 1 ∧ 0 ≤ r.1 ∧ (1 ≤ n → r.1 < n)):=by
  have hw : wrap64 (p + 1) = p + 1:=by unfold wrap64;omega
  have hw1 : wrap64 (p + 1 - 1) = p:=by unfold wrap64;omega
  by_cases hn : n < 1
  · refine Evt.congr (f:=fun k => spec_l6Rd_pick.j0 k n true l (p + 1)) (fun k => by unfold spec_l6Rd_pick.f;rw [if_pos hn,hw]) ?_
    refine Evt.step (f:=fun _ => some (0,p + 1)) (fun k => by simp only [spec_l6Rd_pick.j0];rw [if_pos trivial]) ?_
    exact Evt.now _ ⟨rfl,by simp,fun h => by omega⟩
  · by_cases he : l = []
    · subst he
      refine Evt.congr (f:=fun k => spec_l6Rd_pick.j0 k n true [] (p + 1)) (fun k => by unfold spec_l6Rd_pick.f;rw [if_neg hn,hw];simp) ?_
      refine Evt.step (f:=fun _ => some (0,p + 1)) (fun k => by simp only [spec_l6Rd_pick.j0];rw [if_pos trivial]) ?_
      exact Evt.now _ ⟨rfl,by simp,fun h => by show (0 : Int) < n;omega⟩
    · have hlen : 0 < l.length:=List.length_pos_iff.2 he
      have hb : ((l.length : Int) == 0) = false:=by simp;omega
      refine Evt.congr (f:=fun k => spec_l6Rd_pick.j0 k n false l (p + 1)) (fun k => by unfold spec_l6Rd_pick.f;rw [if_neg hn,hw,hb]) ?_
      by_cases hp : p < (l.length : Int)
      · have hr:=rd_byte hl p
        have hwr : wrap64 (rd l p) = rd l p:=by unfold wrap64;omega
        refine Evt.step (f:=fun _ => some (Int.tmod (rd l p) n,p + 1)) (fun k => by
          simp only [spec_l6Rd_pick.j0,hw1]
          rw [if_neg (by decide),if_pos hp,if_pos h0,if_neg (by omega),hwr]) ?_
        have ht:=tmod_range hr.1 (show 1 ≤ n by omega)
        exact Evt.now _ ⟨rfl,ht.1,fun _ => ht.2⟩
      · have hL : (1 : Int) ≤ (l.length : Int):=by omega
        have ht1:=tmod_range h0 hL
        have w7 : wrap64 (p * 7) = p * 7:=by unfold wrap64;omega
        have w73 : wrap64 (p * 7 + 3) = p * 7 + 3:=by unfold wrap64;omega
        have ht2:=tmod_range (show 0 ≤ p * 7 + 3 by omega) hL
        have r1:=rd_byte hl (Int.tmod p (l.length : Int))
        have r2:=rd_byte hl (Int.tmod (p * 7 + 3) (l.length : Int))
        have hq : 0 ≤ Int.tdiv p (l.length : Int) ∧ Int.tdiv p (l.length : Int) ≤ p:=by
          rw [Int.tdiv_eq_ediv_of_nonneg h0]
          exact ⟨Int.ediv_nonneg h0 (by omega),Int.ediv_le_self _ h0⟩
        generalize hA : rd l (Int.tmod p (l.length : Int)) = A at r1
        generalize hB : rd l (Int.tmod (p * 7 + 3) (l.length : Int)) = B at r2
        generalize hQ : Int.tdiv p (l.length : Int) = Q at hq
        have e1 : wrap64 A = A:=by unfold wrap64;omega
        have e2 : wrap64 B = B:=by unfold wrap64;omega
        have e3 : wrap64 Q = Q:=by unfold wrap64;omega
        have e4 : wrap64 (A * 131) = A * 131:=by unfold wrap64;omega
        have e5 : wrap64 (B * 1117) = B * 1117:=by unfold wrap64;omega
        have e6 : wrap64 (p * 29) = p * 29:=by unfold wrap64;omega
        have e7 : wrap64 (Q * 53) = Q * 53:=by unfold wrap64;omega
        have e8 : wrap64 (A * 131 + B * 1117) = A * 131 + B * 1117:=by unfold wrap64;omega
        have e9 : wrap64 (A * 131 + B * 1117 + p * 29) = A * 131 + B * 1117 + p * 29:=by unfold wrap64;omega
        obtain ⟨X,hXd⟩ : ∃ X,X = A * 131 + B * 1117 + p * 29 + Q * 53:=⟨_,rfl⟩
        have e10 : wrap64 (A * 131 + B * 1117 + p * 29 + Q * 53) = X:=by rw [hXd];unfold wrap64;omega
        have hX : 0 ≤ X ∧ X < 4611686018427387904:=by omega
        have hd : Int.tdiv X 64 = X / 64:=Int.tdiv_eq_ediv_of_nonneg hX.1
        have e11 : wrap64 (X / 64) = X / 64:=by unfold wrap64;omega
        have hx:=xor_nonneg hX.1 hX.2 (show 0 ≤ X / 64 by omega) (show X / 64 < 4611686018427387904 by omega)
        refine Evt.step (f:=fun _ => some (Int.tmod (Go.bits .xor .i64 X (X / 64)) n,p + 1)) (fun k => by
          simp only [spec_l6Rd_pick.j0,hw1,w7,w73]
          rw [if_neg (by decide),if_neg hp,if_neg (by omega),if_pos ht1.1,if_pos ht1.2,if_pos ht2.1,if_pos ht2.2,if_neg (by omega)]
          rw [hA,hB,hQ,e1,e2,e3,e4,e5,e6,e7,e8,e9,e10,hd,e11]) ?_
        have ht:=tmod_range hx (show 1 ≤ n by omega)
        exact Evt.now _ ⟨rfl,ht.1,fun _ => ht.2⟩
theorem open_bytes {l : List Int} (hl : ∀ x ∈ l,0 ≤ x ∧ x ≤ 255) : ∃ l',spec_l6Open.f l = some (l',0) ∧ ∀ x ∈ l',0 ≤ x ∧ x ≤ 255:=by
  unfold spec_l6Open.f
  by_cases h : (l.length : Int) > 2000
  · rw [if_pos h,if_pos (by omega)]
    exact ⟨_,rfl,fun x hx => hl x (List.mem_of_mem_take hx)⟩
  · rw [if_neg h]
    exact ⟨_,rfl,hl⟩
theorem bytes_of {l : List Int} (h : ∀ x ∈ l,(Lit.int .u8 x).wf = true) : ∀ x ∈ l,0 ≤ x ∧ x ≤ 255:=by
  intro x hx
  have:=h x hx
  simp [Lit.wf,IntKind.min,IntKind.max,IntKind.bits,IntKind.signed] at this
  omega
theorem pay_ends {l : List Int} (hl : ∀ x ∈ l,0 ≤ x ∧ x ≤ 255) (p : Int) (h0 : 0 ≤ p) (h1 : p ≤ 999999990) :
    Evt (fun k => spec_l71Pay.f k l p) (fun r => r.2.2.2 = p + 3 ∧ (1 ≤ r.1 ∧ r.1 ≤ 3) ∧ (1 ≤ r.2.1 ∧ r.2.1 ≤ 3) ∧ r.1 ≠ r.2.1 ∧ (1 ≤ r.2.2.1 ∧ r.2.2.1 ≤ 9)):=by
  simp only [spec_l71Pay.f]
  refine Evt.bind (pick_ends hl p 3 h0 (by omega)) (fun a ha => ?_)
  refine Evt.bind (pick_ends hl a.2 2 (by omega) (by omega)) (fun b hb => ?_)
  refine Evt.bind (pick_ends hl b.2 9 (by omega) (by omega)) (fun c hc => ?_)
  obtain ⟨a1,a2⟩:=a
  obtain ⟨b1,b2⟩:=b
  obtain ⟨c1,c2⟩:=c
  simp only at ha hb hc ⊢
  have e1 : wrap64 (1 + a1) = 1 + a1:=by unfold wrap64;omega
  have e2 : wrap64 (1 + a1 + b1) = 1 + a1 + b1:=by unfold wrap64;omega
  have e3 : wrap64 (1 + c1) = 1 + c1:=by unfold wrap64;omega
  have e4 : Int.tmod (1 + a1 + b1) 3 = (1 + a1 + b1) % 3:=Int.tmod_eq_emod_of_nonneg (by omega)
  have e5 : wrap64 ((1 + a1 + b1) % 3 + 1) = (1 + a1 + b1) % 3 + 1:=by unfold wrap64;omega
  rw [e1,e2,e3,e4,e5]
  refine Evt.now _ ?_
  simp only
  omega
theorem anyPay_ends {l : List Int} (hl : ∀ x ∈ l,0 ≤ x ∧ x ≤ 255) (p : Int) (h0 : 0 ≤ p) (h1 : p ≤ 999999980) :
    Evt (fun k => spec_l71AnyPay.f k l p) (fun r => p ≤ r.2.2.2 ∧ r.2.2.2 ≤ p + 5):=by
  simp only [spec_l71AnyPay.f]
  refine Evt.bind (pay_ends hl p h0 (by omega)) (fun a ha => ?_)
  refine Evt.bind (pick_ends hl a.2.2.2 12 (by omega) (by omega)) (fun b hb => ?_)
  refine Evt.ite (fun _ => Evt.now _ (by simp only;omega)) (fun _ => ?_)
  refine Evt.ite (fun _ => ?_) (fun _ => ?_)
  · simp only [Option.bind_some]
    refine Evt.bind (pick_ends hl b.2 2 (by omega) (by omega)) (fun c hc => ?_)
    refine Evt.pos hc.2.1 (Evt.pos (by have:=hc.2.2 (by omega);simp;omega) (Evt.now _ (by simp only;omega)))
  · refine Evt.ite (fun _ => ?_) (fun _ => Evt.now _ (by simp only;omega))
    simp only [Option.bind_some]
    refine Evt.bind (pick_ends hl b.2 2 (by omega) (by omega)) (fun c hc => ?_)
    refine Evt.pos hc.2.1 (Evt.pos (by have:=hc.2.2 (by omega);simp;omega) (Evt.now _ (by simp only;omega)))
/-- The last epoch, from e on. -/
def lastE : Int → List It → Int
  | e,[] => e
  | _,x :: xs => lastE x.f0 xs
theorem okFrom_snoc (c : List It) (x : It) : ∀ e,okFrom e (c ++ [x]) = (okFrom e c && (itemOk x && decide (lastE e c < x.f0))):=by
  induction c with
  | nil => intro e;simp [okFrom,lastE];rfl
  | cons y ys ih =>
    intro e
    simp only [List.cons_append,okFrom,lastE,ih]
    cases itemOk y <;> cases decide (e < y.f0) <;> first|(simp;done)|(simp;rfl)
theorem lastE_snoc (c : List It) (x : It) : ∀ e,lastE e (c ++ [x]) = x.f0:=by
  induction c with
  | nil => intro e;rfl
  | cons y ys ih => intro e;simp only [List.cons_append,lastE,ih]
theorem chain_ends {l : List Int} (hl : ∀ x ∈ l,0 ≤ x ∧ x ≤ 255) (p : Int) (h0 : 0 ≤ p) (h1 : p ≤ 999999000) :
    Evt (fun k => spec_l71Chain.f k l p) (fun r => chainOk r.1 = true ∧ r.1.length ≤ 6 ∧ p ≤ r.2 ∧ r.2 ≤ p + 40):=by
  have key : ∀ (d : Nat) (c : List It) (e q : Int),d + c.length ≤ 6 → okFrom 0 c = true → e = lastE 0 c → 0 ≤ e → e ≤ 3 * (c.length : Int) → p ≤ q → q ≤ p + 1 + 5 * (c.length : Int) →
      Evt (fun k => spec_l71Chain.l0 k c e (d : Int) l q) (fun r => chainOk r.1 = true ∧ r.1.length ≤ 6 ∧ p ≤ r.2 ∧ r.2 ≤ p + 40):=by
    intro d
    induction d with
    | zero =>
      intro c e q hd hc he he0 he3 hq hq2
      refine Evt.step (f:=fun _ => some (c,q)) (fun k => by simp only [spec_l71Chain.l0];rw [if_neg (by decide)]) (Evt.now _ ⟨?_,by show c.length ≤ 6;omega,hq,by show q ≤ p + 40;omega⟩)
      simp [chainOk,hc]
      omega
    | succ d ih =>
      intro c e q hd hc he he0 he3 hq hq2
      refine Evt.step (fun k => by simp only [spec_l71Chain.l0];rw [if_pos (by omega)]) ?_
      refine Evt.bind (pick_ends hl q 6 (by omega) (by omega)) fun a ha => ?_
      refine Evt.bind (pick_ends hl a.2 3 (by omega) (by omega)) fun b hb => ?_
      refine Evt.bind (pay_ends hl b.2 (by omega) (by omega)) fun y hy => ?_
      obtain ⟨a1,a2⟩:=a
      obtain ⟨b1,b2⟩:=b
      obtain ⟨y1,y2,y3,y4⟩:=y
      simp only at ha hb hy ⊢
      have e5 : Int.tdiv a1 5 = a1 / 5:=Int.tdiv_eq_ediv_of_nonneg (by omega)
      have hab : 0 ≤ a1 / 5 * b1 ∧ a1 / 5 * b1 ≤ 2:=by
        have h5 : a1 / 5 = 0 ∨ a1 / 5 = 1:=by omega
        rcases h5 with h5|h5 <;> rw [h5] <;> omega
      have w1 : wrap64 (e + 1) = e + 1:=wrap64_small (by omega) (by omega)
      have w2 : wrap64 (a1 / 5) = a1 / 5:=wrap64_small (by omega) (by omega)
      have w3 : wrap64 (a1 / 5 * b1) = a1 / 5 * b1:=wrap64_small (by omega) (by omega)
      rw [e5,w1,w2,w3]
      generalize a1 / 5 * b1 = m at hab ⊢
      have w4 : wrap64 (e + 1 + m) = e + 1 + m:=wrap64_small (by omega) (by omega)
      have w5 : wrap64 (((d + 1 : Nat) : Int) - 1) = (d : Int):=by unfold wrap64;omega
      rw [w4,w5]
      refine Evt.pos (by omega) ?_
      refine ih _ _ _ (by simp;omega) ?_ (by rw [lastE_snoc]) (by omega) (by simp;omega) (by omega) (by simp;omega)
      rw [okFrom_snoc,hc,← he]
      have hp : payOk y1 y2 y3 = true:=by unfold payOk;exact decide_eq_true (by omega)
      simp [itemOk,hp]
      omega
  simp only [spec_l71Chain.f]
  refine Evt.bind (pick_ends hl p 7 h0 (by omega)) fun a ha => ?_
  obtain ⟨a1,a2⟩:=a
  simp only at ha ⊢
  obtain ⟨d,rfl⟩:=Int.eq_ofNat_of_zero_le ha.2.1
  have:=ha.2.2 (by omega)
  exact key d [] 0 a2 (by simp;omega) rfl rfl (by omega) (by simp) (by omega) (by simp;omega)
theorem off_ends {l : List Int} (hl : ∀ x ∈ l,0 ≤ x ∧ x ≤ 255) (p : Int) (h0 : 0 ≤ p) (h1 : p ≤ 999998000) :
    Evt (fun k => spec_l71Off.f k l p) (fun r => r.1.length ≤ 7 ∧ p ≤ r.2 ∧ r.2 ≤ p + 60):=by
  simp only [spec_l71Off.f]
  refine Evt.bind (chain_ends hl p h0 (by omega)) fun c hc => ?_
  obtain ⟨c1,c2⟩:=c
  obtain ⟨_,hcl,hc1,hc2⟩:=hc
  simp only at hcl hc1 hc2 ⊢
  refine Evt.bind (pick_ends hl c2 16 (by omega) (by omega)) fun a ha => ?_
  refine Evt.ite (fun _ => ?_) fun _ => Evt.ite (fun _ => ?_) fun _ => Evt.ite (fun _ => ?_) fun _ => Evt.now _ ⟨by show c1.length ≤ 7;omega,by omega,by omega⟩
  · refine Evt.bind (pick_ends hl a.2 4 (by omega) (by omega)) fun b hb => ?_
    refine Evt.bind (anyPay_ends hl b.2 (by omega) (by omega)) fun y hy => ?_
    refine Evt.pos (by omega) (Evt.now _ ⟨by simp;omega,by show p ≤ y.2.2.2;omega,by show y.2.2.2 ≤ p + 60;omega⟩)
  · refine Evt.ite (fun hpos => ?_) fun _ => Evt.now _ ⟨by show c1.length ≤ 7;omega,by omega,by omega⟩
    refine Evt.bind (pick_ends hl a.2 (c1.length : Int) (by omega) (by omega)) fun b hb => ?_
    simp only [Option.bind_some]
    refine Evt.bind (pick_ends hl b.2 3 (by omega) (by omega)) fun d hd => ?_
    have hb2:=hb.2.2 (by omega)
    have hd2:=hd.2.2 (by omega)
    refine Evt.pos hd.2.1 (Evt.pos (by simp;omega) (Evt.pos hb.2.1 (Evt.pos hb2 (Evt.now _ ⟨by simp;omega,by show p ≤ d.2;omega,by show d.2 ≤ p + 60;omega⟩))))
  · refine Evt.ite (fun hpos => ?_) fun _ => Evt.now _ ⟨by show c1.length ≤ 7;omega,by omega,by omega⟩
    refine Evt.bind (pick_ends hl a.2 (c1.length : Int) (by omega) (by omega)) fun b hb => ?_
    refine Evt.bind (anyPay_ends hl b.2 (by omega) (by omega)) fun y hy => ?_
    have hb2:=hb.2.2 (by omega)
    refine Evt.pos hb.2.1 (Evt.pos hb2 (Evt.now _ ⟨by simp;omega,by show p ≤ y.2.2.2;omega,by show y.2.2.2 ≤ p + 60;omega⟩))
theorem two_ends {l : List Int} (hl : ∀ x ∈ l,0 ≤ x ∧ x ≤ 255) (p : Int) (h0 : 0 ≤ p) (h1 : p ≤ 999990000) :
    Evt (fun k => spec_l71Two.f k l p) (fun r => r.1.length ≤ 9 ∧ r.2.1.length ≤ 9 ∧ p ≤ r.2.2 ∧ r.2.2 ≤ p + 200):=by
  simp only [spec_l71Two.f]
  refine Evt.bind (off_ends hl p h0 (by omega)) fun a ha => ?_
  obtain ⟨a,a2⟩:=a
  simp only at ha ⊢
  refine Evt.bind (off_ends hl a2 (by omega) (by omega)) fun b hb => ?_
  obtain ⟨b,b2⟩:=b
  simp only at hb ⊢
  refine Evt.bind (pick_ends hl b2 4 (by omega) (by omega)) fun c hc => ?_
  have key : ∀ (d : Nat) (x : List It) (q : Int),d + x.length ≤ 9 → p ≤ q → q + 20 * (d : Int) ≤ p + 190 → Evt (fun k => spec_l71Two.l0 k a x (d : Int) l q) (fun r => r.1.length ≤ 9 ∧ r.2.1.length ≤ 9 ∧ p ≤ r.2.2 ∧ r.2.2 ≤ p + 200):=by
    intro d
    induction d with
    | zero =>
      intro x q hd hq1 hq2
      refine Evt.step (fun k => by simp only [spec_l71Two.l0];rw [if_neg (by decide)]) ?_
      refine Evt.bind (pick_ends hl q 2 (by omega) (by omega)) fun e he => ?_
      exact Evt.ite (fun _ => Evt.now _ ⟨by show x.length ≤ 9;omega,by show a.length ≤ 9;omega,by show p ≤ e.2;omega,by show e.2 ≤ p + 200;omega⟩) fun _ => Evt.now _ ⟨by show a.length ≤ 9;omega,by show x.length ≤ 9;omega,by show p ≤ e.2;omega,by show e.2 ≤ p + 200;omega⟩
    | succ d ih =>
      intro x q hd hq1 hq2
      have w : wrap64 (((d + 1 : Nat) : Int) - 1) = (d : Int):=by unfold wrap64;omega
      refine Evt.step (fun k => by simp only [spec_l71Two.l0,w];rw [if_pos (by omega)]) ?_
      refine Evt.ite (fun hx => ?_) fun _ => ?_
      · have w1 : wrap64 ((x.length : Int) - 1) = (x.length : Int) - 1:=wrap64_small (by omega) (by omega)
        rw [w1]
        refine Evt.pos (by omega) (Evt.pos (by omega) ?_)
        refine Evt.bind (pick_ends hl q 2 (by omega) (by omega)) fun e he => ?_
        refine Evt.bind (pay_ends hl e.2 (by omega) (by omega)) fun y hy => ?_
        exact Evt.pos (by omega) (ih _ _ (by simp;omega) (by omega) (by omega))
      · refine Evt.bind (pick_ends hl q 2 (by omega) (by omega)) fun e he => ?_
        refine Evt.bind (pay_ends hl e.2 (by omega) (by omega)) fun y hy => ?_
        exact Evt.pos (by omega) (ih _ _ (by simp;omega) (by omega) (by omega))
  refine Evt.ite (fun _ => ?_) fun _ => ?_
  · refine Evt.bind (P:=fun r => r = []) (Evt.now [] rfl) fun y0 hy0 => ?_
    have w1 : wrap64 ((a.length : Int) + 1) = (a.length : Int) + 1:=wrap64_small (by omega) (by omega)
    rw [w1]
    refine Evt.bind (pick_ends hl c.2 ((a.length : Int) + 1) (by omega) (by omega)) fun e he => ?_
    have he':=he.2.2 (by omega)
    refine Evt.pos he.2.1 (Evt.pos (by omega) ?_)
    refine Evt.bind (P:=fun r => r = a.take e.1.toNat) (Evt.now _ rfl) fun x hx => ?_
    have hx7 : (y0 ++ x).length ≤ 7:=by rw [hy0,hx,List.nil_append,List.length_take];omega
    have hx8 : y0.length + x.length ≤ 7:=by rw [← List.length_append];exact hx7
    refine Evt.pos (by omega) ?_
    refine Evt.bind (pick_ends hl e.2 3 (by omega) (by omega)) fun f hf => ?_
    obtain ⟨f1,f2⟩:=f
    simp only at hf ⊢
    have hf':=hf.2.2 (by omega)
    obtain ⟨d,rfl⟩:=Int.eq_ofNat_of_zero_le hf.2.1
    exact key d (y0 ++ x) f2 (by omega) (by omega) (by omega)
  · refine Evt.bind (pick_ends hl c.2 2 (by omega) (by omega)) fun e he => ?_
    exact Evt.ite (fun _ => Evt.now _ ⟨by show b.length ≤ 9;omega,by show a.length ≤ 9;omega,by show p ≤ e.2;omega,by show e.2 ≤ p + 200;omega⟩) fun _ => Evt.now _ ⟨by show a.length ≤ 9;omega,by show b.length ≤ 9;omega,by show p ≤ e.2;omega,by show e.2 ≤ p + 200;omega⟩
theorem chainOk_len {c : List It} (h : chainOk c = true) : c.length ≤ 16:=by
  simp only [chainOk,Bool.and_eq_true,decide_eq_true_iff] at h
  exact h.2
theorem votesL2 {l : List Int} (hl : ∀ x ∈ l,0 ≤ x ∧ x ≤ 255) (c : List It) (n i : Int) (hc : c.length ≤ 16) (hi : 0 ≤ i) (hi2 : i ≤ (c.length : Int)) (Q : List Vt × Int → Prop) :
    ∀ (d m : Nat) (x : List Vt) (q : Int),VB x m → m + d ≤ 1000 → 0 ≤ q → q + d ≤ 999990000 →
    (∀ (y : List Vt) (q' : Int),VB y (m + d) → q ≤ q' → q' ≤ q + d → Evt (fun k => spec_l71Votes.l1 k y c n (wrap64 (i + 1)) l q') Q) →
    d ≤ 4 → Evt (fun k => spec_l71Votes.l2 k x c n i (5 - (d : Int)) l q) Q:=by
  intro d
  induction d with
  | zero =>
    intro m x q hx hm hq0 hq1 hk hd
    exact Evt.step (fun k => by simp only [spec_l71Votes.l2];rw [if_neg (by omega)]) (hk x q hx (by omega) (by omega))
  | succ d ih =>
    intro m x q hx hm hq0 hq1 hk hd
    have w : wrap64 (5 - ((d + 1 : Nat) : Int) + 1) = 5 - (d : Int):=by unfold wrap64;omega
    refine Evt.step (fun k => by simp only [spec_l71Votes.l2,w];rw [if_pos (by omega)]) ?_
    refine Evt.bind (pick_ends hl q 9 hq0 (by omega)) fun a ha => ?_
    refine Evt.ite (fun _ => Evt.pos hi (Evt.pos hi2 ?_)) fun _ => ?_
    · refine Evt.bind (l3Add_ends x _ (c.take i.toNat) hx (by omega) (by rw [List.length_take];omega)) fun b hb => ?_
      exact ih (m + 1) b.1 a.2 hb (by omega) (by omega) (by omega) (fun y q' hy h1 h2 => hk y q' (hy.mono (by omega)) (by omega) (by omega)) (by omega)
    · exact ih m x a.2 hx (by omega) (by omega) (by omega) (fun y q' hy h1 h2 => hk y q' (hy.mono (by omega)) (by omega) (by omega)) (by omega)
theorem votesL1 {l : List Int} (hl : ∀ x ∈ l,0 ≤ x ∧ x ≤ 255) (c : List It) (n : Int) (hc : c.length ≤ 16) (Q : List Vt × Int → Prop) :
    ∀ (d i m : Nat) (x : List Vt) (q : Int),d + i = c.length + 1 → VB x m → m + 4 * d ≤ 1000 → 0 ≤ q → q + 4 * d ≤ 999990000 →
    (∀ (y : List Vt) (q' : Int),VB y (m + 4 * d) → q ≤ q' → q' ≤ q + 4 * d → Evt (fun k => spec_l71Votes.l1 k y c n ((c.length + 1 : Nat) : Int) l q') Q) →
    Evt (fun k => spec_l71Votes.l1 k x c n (i : Int) l q) Q:=by
  intro d
  induction d with
  | zero =>
    intro i m x q hd hx hm hq0 hq1 hk
    have e : i = c.length + 1:=by omega
    subst e
    exact hk x q hx (by omega) (by omega)
  | succ d ih =>
    intro i m x q hd hx hm hq0 hq1 hk
    refine Evt.step (f:=fun k => spec_l71Votes.l2 k x c n (i : Int) (5 - ((4 : Nat) : Int)) l q) (fun k => by simp only [spec_l71Votes.l1];rw [if_pos (by omega)];rfl) ?_
    refine votesL2 hl c n i hc (by omega) (by omega) Q 4 m x q hx (by omega) hq0 (by omega) (fun y q' hy h1 h2 => ?_) (by omega)
    rw [wrap_succ (by omega)]
    exact ih (i + 1) (m + 4) y q' (by omega) hy (by omega) (by omega) (by omega) fun z q2 hz h3 h4 => hk z q2 (hz.mono (by omega)) (by omega) (by omega)
theorem votesL0 {l : List Int} (hl : ∀ x ∈ l,0 ≤ x ∧ x ≤ 255) : ∀ (d m : Nat) (x : List Vt) (c : List It) (q : Int),c.length ≤ 16 → VB x m → m + 68 * d ≤ 1000 → 0 ≤ q → q + 300 * d ≤ 999980000 →
    Evt (fun k => spec_l71Votes.l0 k x c (d : Int) l q) (fun r => VB r.1 (m + 68 * d) ∧ q ≤ r.2 ∧ r.2 ≤ q + 300 * d):=by
  intro d
  induction d with
  | zero =>
    intro m x c q hc hx hm hq0 hq1
    exact Evt.step (f:=fun _ => some (x,q)) (fun k => by simp only [spec_l71Votes.l0];rw [if_neg (by decide)]) (Evt.now _ ⟨hx,by show q ≤ q;omega,by show q ≤ _;omega⟩)
  | succ d ih =>
    intro m x c q hc hx hm hq0 hq1
    have w : wrap64 (((d + 1 : Nat) : Int) - 1) = (d : Int):=by unfold wrap64;omega
    have next : ∀ (y : List Vt) (c' : List It) (q' : Int),VB y (m + 68) → c'.length ≤ 16 → q ≤ q' → q' ≤ q + 300 → Evt (fun k => spec_l71Votes.l0 k y c' (d : Int) l q') (fun r => VB r.1 (m + 68 * (d + 1)) ∧ q ≤ r.2 ∧ r.2 ≤ q + 300 * ((d + 1 : Nat) : Int)):=by
      intro y c' q' hy hc' h1 h2
      exact (ih (m + 68) y c' q' hc' hy (by omega) (by omega) (by omega)).mono fun r hr => ⟨hr.1.mono (by omega),by omega,by omega⟩
    refine Evt.step (f:=fun k => spec_l71Votes.l1 k x c ((d + 1 : Nat) : Int) ((1 : Nat) : Int) l q) (fun k => by simp only [spec_l71Votes.l0];rw [if_pos (by omega)];rfl) ?_
    refine votesL1 hl c _ hc _ c.length 1 m x q (by omega) hx (by omega) hq0 (by omega) fun y q1 hy h1 h2 => ?_
    have hy68:=hy.mono (show m + 4 * c.length ≤ m + 68 by omega)
    refine Evt.step (fun k => by simp only [spec_l71Votes.l1];rw [if_neg (by omega)]) ?_
    refine Evt.bind (two_ends hl q1 (by omega) (by omega)) fun b hb => ?_
    have hb2:=hb.2.1
    have hb3:=hb.2.2
    have skip : ∀ q2 : Int,q ≤ q2 → q2 ≤ q + 300 → Evt (fun k => spec_l71Votes.j3 k y c ((d + 1 : Nat) : Int) b.2.1 false l q2) (fun r => VB r.1 (m + 68 * (d + 1)) ∧ q ≤ r.2 ∧ r.2 ≤ q + 300 * ((d + 1 : Nat) : Int)):=by
      intro q2 h3 h4
      refine Evt.step (fun k => by simp only [spec_l71Votes.j3,w];rw [if_neg (by decide)]) ?_
      refine Evt.bind (chainOk_spec b.2.1 (by omega)) fun t ht => ?_
      exact Evt.ite (fun _ => next y b.2.1 q2 hy68 (by omega) h3 h4) fun _ => next y c q2 hy68 hc h3 h4
    refine Evt.ite (fun hpos => ?_) fun _ => skip b.2.2 (by omega) (by omega)
    refine Evt.bind (pick_ends hl b.2.2 2 (by omega) (by omega)) fun a ha => ?_
    cases hf : (a.1 == 0) with
    | false => exact skip a.2 (by omega) (by omega)
    | true =>
      refine Evt.step (fun k => by simp only [spec_l71Votes.j3,w];rw [if_pos trivial]) ?_
      refine Evt.bind (pick_ends hl a.2 (c.length : Int) (by omega) (by omega)) fun e he => ?_
      have he2:=he.2.2 (by omega)
      have hw : wrap64 ((c.length : Int) - 1) = (c.length : Int) - 1:=wrap64_small (by omega) (by omega)
      rw [l1Copy_eq _ (by rw [List.length_take];omega),hw]
      refine Evt.pos he.2.1 (Evt.pos (by omega) ?_)
      refine Evt.bind (P:=fun r => r = c.take e.1.toNat) (Evt.now _ rfl) fun t ht => ?_
      have htl : t.length ≤ 15:=by rw [ht,List.length_take];omega
      refine Evt.pos (by omega) (Evt.pos (by omega) ?_)
      refine Evt.bind (pay_ends hl e.2 (by omega) (by omega)) fun f hf => ?_
      refine Evt.pos (by omega) ?_
      refine Evt.bind (P:=fun r : List It => r.length ≤ 16) (Evt.now _ (by simp;omega)) fun z hz => ?_
      refine Evt.bind (chainOk_spec z (by omega)) fun u hu => ?_
      exact Evt.ite (fun _ => next y z f.2.2.2 hy68 (by omega) (by omega) (by omega)) fun _ => next y c f.2.2.2 hy68 hc (by omega) (by omega)
theorem votes_ends {l : List Int} (hl : ∀ x ∈ l,0 ≤ x ∧ x ≤ 255) (p : Int) (h0 : 0 ≤ p) (h1 : p ≤ 999970000) :
    Evt (fun k => spec_l71Votes.f k l p) (fun r => VB r.1 204 ∧ p ≤ r.2 ∧ r.2 ≤ p + 1000):=by
  simp only [spec_l71Votes.f]
  refine Evt.bind (chain_ends hl p h0 (by omega)) fun c hc => ?_
  obtain ⟨_,hcl,hc1,hc2⟩:=hc
  refine Evt.bind (pick_ends hl c.2 3 (by omega) (by omega)) fun a ha => ?_
  have ha2:=ha.2.2 (by omega)
  obtain ⟨d,hd⟩:=Int.eq_ofNat_of_zero_le (show 0 ≤ 1 + a.1 by omega)
  have w : wrap64 (1 + a.1) = (d : Int):=by rw [wrap64_small (by omega) (by omega)];exact hd
  rw [w]
  exact (votesL0 hl d 0 [] c.1 a.2 (by omega) (VB.nil 0) (by omega) (by omega) (by omega)).mono fun r hr => ⟨hr.1.mono (by omega),by omega,by omega⟩
theorem vote_ends {l : List Int} (hl : ∀ x ∈ l,0 ≤ x ∧ x ≤ 255) (p : Int) (h0 : 0 ≤ p) (h1 : p ≤ 999990000) :
    Evt (fun k => spec_l71Vote.f k l p) (fun r => r.2.1.length ≤ 7 ∧ p ≤ r.2.2 ∧ r.2.2 ≤ p + 100):=by
  have last : ∀ (q n : Int) (c : List It),p ≤ q → q ≤ p + 80 → c.length ≤ 7 → Evt (fun k => spec_l71Vote.j1 k l q n c) (fun r => r.2.1.length ≤ 7 ∧ p ≤ r.2.2 ∧ r.2.2 ≤ p + 100):=by
    intro q n c hq1 hq2 hc
    refine Evt.step (fun k => by simp only [spec_l71Vote.j1];rfl) ?_
    refine Evt.bind (pick_ends hl q 16 (by omega) (by omega)) fun a ha => ?_
    refine Evt.ite (fun _ => ?_) fun _ => Evt.now _ ⟨hc,by show p ≤ a.2;omega,by show a.2 ≤ p + 100;omega⟩
    refine Evt.bind (P:=fun r => r = [0,5]) (Evt.now _ rfl) fun y hy => ?_
    refine Evt.bind (pick_ends hl a.2 2 (by omega) (by omega)) fun b hb => ?_
    have:=hb.2.2 (by omega)
    exact Evt.pos hb.2.1 (Evt.pos (by rw [hy];simp;omega) (Evt.now _ ⟨hc,by show p ≤ b.2;omega,by show b.2 ≤ p + 100;omega⟩))
  simp only [spec_l71Vote.f]
  refine Evt.bind (pick_ends hl p 4 h0 (by omega)) fun a ha => ?_
  refine Evt.bind (off_ends hl a.2 (by omega) (by omega)) fun c hc => ?_
  obtain ⟨c1,c2⟩:=c
  simp only at hc ⊢
  have skip : ∀ (q : Int),p ≤ q → q ≤ p + 75 → Evt (fun k => spec_l71Vote.j0 k false l q (wrap64 (1 + a.1)) c1) (fun r => r.2.1.length ≤ 7 ∧ p ≤ r.2.2 ∧ r.2.2 ≤ p + 100):=by
    intro q h1 h2
    exact Evt.step (fun k => by simp only [spec_l71Vote.j0];rw [if_neg (by decide)]) (last q _ c1 h1 (by omega) hc.1)
  refine Evt.ite (fun _ => ?_) fun _ => skip c2 (by omega) (by omega)
  refine Evt.bind (pick_ends hl c2 4 (by omega) (by omega)) fun b hb => ?_
  by_cases hpos : b.1 > 0
  · rw [decide_eq_true hpos]
    refine Evt.step (fun k => by simp only [spec_l71Vote.j0];rw [if_pos trivial]) ?_
    refine Evt.bind (pick_ends hl b.2 3 (by omega) (by omega)) fun d hd => ?_
    refine Evt.bind (pay_ends hl d.2 (by omega) (by omega)) fun y hy => ?_
    exact last _ _ _ (by omega) (by omega) (by simp)
  · rw [decide_eq_false hpos]
    exact skip b.2 (by omega) (by omega)
theorem spoilt_ends {l : List Int} (hl : ∀ x ∈ l,0 ≤ x ∧ x ≤ 255) (p : Int) (h0 : 0 ≤ p) (h1 : p ≤ 999960000) :
    Evt (fun k => spec_l71Spoilt.f k l p) (fun r => VB r.1 205 ∧ p ≤ r.2 ∧ r.2 ≤ p + 1200):=by
  simp only [spec_l71Spoilt.f]
  refine Evt.bind (votes_ends hl p h0 (by omega)) fun v hv => ?_
  have hvl:=hv.1.1
  refine Evt.bind (pick_ends hl v.2 20 (by omega) (by omega)) fun a ha => ?_
  refine Evt.ite (fun _ => ?_) fun _ => Evt.ite (fun _ => Evt.ite (fun hpos => ?_) fun _ => ?_) fun _ => ?_
  · refine Evt.bind (vote_ends hl a.2 (by omega) (by omega)) fun b hb => ?_
    exact Evt.pos (by omega) (Evt.now _ ⟨hv.1.snoc (by omega),by show p ≤ b.2.2;omega,by show b.2.2 ≤ p + 1200;omega⟩)
  · refine Evt.bind (pick_ends hl a.2 (v.1.length : Int) (by omega) (by omega)) fun b hb => ?_
    have hb2:=hb.2.2 (by omega)
    obtain ⟨i,hi⟩:=Int.eq_ofNat_of_zero_le hb.2.1
    refine Evt.pos hb.2.1 (Evt.pos hb2 (Evt.pos (by omega) (Evt.now _ ⟨hv.1.snoc ?_,by show p ≤ b.2;omega,by show b.2 ≤ p + 1200;omega⟩)))
    rw [hi]
    exact hv.1.2 _ (rdVt_mem (by omega))
  · exact Evt.now _ ⟨hv.1.mono (by omega),by show p ≤ a.2;omega,by show a.2 ≤ p + 1200;omega⟩
  · exact Evt.now _ ⟨hv.1.mono (by omega),by show p ≤ a.2;omega,by show a.2 ≤ p + 1200;omega⟩
theorem some_ends {l : List Int} (hl : ∀ x ∈ l,0 ≤ x ∧ x ≤ 255) (p : Int) (h0 : 0 ≤ p) (h1 : p ≤ 999950000) :
    Evt (fun k => spec_l71Some.f k l p) (fun r => VB r.1 205 ∧ r.2.1.length ≤ 16):=by
  simp only [spec_l71Some.f]
  refine Evt.bind (spoilt_ends hl p h0 (by omega)) fun v hv => ?_
  have skip : ∀ q : Int,p ≤ q → q ≤ p + 1300 → Evt (fun k => spec_l71Some.j0 k v.1 false l q) (fun r => VB r.1 205 ∧ r.2.1.length ≤ 16):=by
    intro q h2 h3
    refine Evt.step (fun k => by simp only [spec_l71Some.j0];rw [if_neg (by decide)]) ?_
    exact Evt.bind (off_ends hl q (by omega) (by omega)) fun a ha => Evt.now _ ⟨hv.1,by show a.1.length ≤ 16;omega⟩
  refine Evt.ite (fun hpos => ?_) fun _ => skip v.2 (by omega) (by omega)
  refine Evt.bind (pick_ends hl v.2 6 (by omega) (by omega)) fun a ha => ?_
  cases hf : decide (a.1 > 0) with
  | false => exact skip a.2 (by omega) (by omega)
  | true =>
    refine Evt.step (fun k => by simp only [spec_l71Some.j0];rw [if_pos trivial]) ?_
    refine Evt.bind (pick_ends hl a.2 (v.1.length : Int) (by omega) (by omega)) fun b hb => ?_
    have hb2:=hb.2.2 (by omega)
    obtain ⟨i,hi⟩:=Int.eq_ofNat_of_zero_le hb.2.1
    have hm:=hv.1.2 _ (rdVt_mem (l:=v.1) (i:=i) (by omega))
    rw [hi]
    rw [hi] at hb2
    rw [l1Copy_eq _ (by omega)]
    refine Evt.pos (by omega) (Evt.pos hb2 ?_)
    refine Evt.bind (P:=fun r : List It => r.length ≤ 16) (Evt.now _ hm) fun c hc => ?_
    exact Evt.now _ ⟨hv.1,hc⟩
theorem drawTree_ends {l : List Int} (hl : ∀ x ∈ l,0 ≤ x ∧ x ≤ 255) : Evt (fun k => spec_DrawTreeSure.f k l) (fun r => VB r.1 205 ∧ r.2.length ≤ 16):=by
  simp only [spec_DrawTreeSure.f]
  obtain ⟨l',e,hl'⟩:=open_bytes hl
  rw [e]
  simp only [Option.bind_some]
  exact Evt.bind (some_ends hl' 0 (by omega) (by omega)) fun r hr => Evt.now _ ⟨hr.1,hr.2⟩
theorem okFrom_take (n : Nat) {c : List It} : ∀ {e : Int},okFrom e c = true → okFrom e (c.take n) = true:=by
  induction n generalizing c with
  | zero => intro e _;rfl
  | succ n ih =>
    intro e h
    cases c with
    | nil => rfl
    | cons x xs =>
      simp only [okFrom,List.take_succ_cons,Bool.and_eq_true] at h ⊢
      exact ⟨h.1,h.2.1,ih h.2.2⟩
theorem chainOk_take (n : Nat) {c : List It} (h : chainOk c = true) : chainOk (c.take n) = true:=by
  simp only [chainOk,Bool.and_eq_true,decide_eq_true_iff] at h ⊢
  exact ⟨okFrom_take n h.1,by rw [List.length_take];omega⟩

end Go.Proofs.Ytknmmkgaijndfaa.Pure
