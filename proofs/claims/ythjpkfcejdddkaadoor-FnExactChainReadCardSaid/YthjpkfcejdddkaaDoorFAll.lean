/- Plain facts on what the printed functions compute (within payok chain chaintext chaintake textinj chainread readany l1cut specread specline specall spectext eqitems marksitem helditem). Conditions: each theorem's own. -/
import Derived.Test.YthjpkfcejdddkaaDoorPx0
import Derived.Test.YthjpkfcejdddkaaDoorPx1
import Derived.Test.YthjpkfcejdddkaaDoorPx2
import Derived.Test.YthjpkfcejdddkaaDoorPx3
import Derived.Test.YthjpkfcejdddkaaDoorPx4
import Derived.Test.YthjpkfcejdddkaaDoorPx5
import Derived.Test.YthjpkfcejdddkaaDoorPx6
import Derived.Test.YthjpkfcejdddkaaDoorPx7
import Derived.Test.YthjpkfcejdddkaaDoorPx8
import Derived.Test.YthjpkfcejdddkaaDoorPx9
import Derived.Test.YthjpkfcejdddkaaDoorPx10
import Derived.Test.YthjpkfcejdddkaaDoorPlain
namespace Go.Proofs.YthjpkfcejdddkaaDoor.Pure
open Go.RowKit Go.Proofs.YthjpkfcejdddkaaDoor.P Go.Proofs.YthjpkfcejdddkaaDoorW.PrintWords Go.Proofs.YthjpkfcejdddkaaDoorW.PrintLast Go.Proofs.YthjpkfcejdddkaaDoorW.PrintMore Go.Proofs.YthjpkfcejdddkaaDoorE
set_option linter.unusedVariables false
set_option linter.unusedSimpArgs false

theorem within_eq (n lo hi : Int) : impl_within.f n lo hi = some (decide (lo ≤ n ∧ n ≤ hi)):=by
  unfold impl_within.f
  by_cases h : n ≥ lo
  · rw [if_pos h]
    by_cases h2 : n ≤ hi
    · simp [h2,show lo ≤ n from h]
    · simp [h2]
  · rw [if_neg h]
    simp [show ¬ lo ≤ n from h]
theorem l6In_eq (n lo hi : Int) : spec_l6In.f n lo hi = some (decide (lo ≤ n ∧ n ≤ hi)):=by
  unfold spec_l6In.f
  by_cases h : n ≥ lo
  · rw [if_pos h]
    by_cases h2 : n ≤ hi
    · simp [h2,show lo ≤ n from h]
    · simp [h2]
  · rw [if_neg h]
    simp [show ¬ lo ≤ n from h]
def payOk (a b c : Int) : Bool:=decide ((1 ≤ a ∧ a ≤ 3) ∧ (1 ≤ b ∧ b ≤ 3) ∧ a ≠ b ∧ (1 ≤ c ∧ c ≤ 9))
theorem payOk_impl (a b c : Int) : impl_PayOk.f a b c = some (payOk a b c):=by
  unfold impl_PayOk.f payOk
  simp only [within_eq,Option.bind_some]
  by_cases h1 : 1 ≤ a ∧ a ≤ 3
  · by_cases h2 : 1 ≤ b ∧ b ≤ 3
    · by_cases h3 : a = b
      · simp [h1,h2,h3]
      · simp [h1,h2,h3]
    · simp [h1,h2]
  · simp [h1]
theorem payOk_spec (a b c : Int) : spec_PayOk.f a b c = some (payOk a b c):=by
  unfold spec_PayOk.f payOk
  simp only [l6In_eq,Option.bind_some]
  by_cases h1 : 1 ≤ a ∧ a ≤ 3
  · by_cases h2 : 1 ≤ b ∧ b ≤ 3
    · by_cases h3 : a = b
      · simp [h1,h2,h3]
      · simp [h1,h2,h3]
    · simp [h1,h2]
  · simp [h1]
abbrev It:=S48
instance : DecidableEq S46:=fun ⟨a,b,c⟩ ⟨a',b',c'⟩ => decidable_of_iff (a = a' ∧ b = b' ∧ c = c') (by simp)
instance : DecidableEq It:=fun ⟨a,b⟩ ⟨a',b'⟩ => decidable_of_iff (a = a' ∧ b = b') (by simp)
theorem rdIt_get {l : List It} {i : Nat} (h : i < l.length) : l[i]? = some (rd_T48 l (i : Int)):=by
  show _ = some (l.getD ((i : Int)).toNat _)
  rw [Int.toNat_natCast,List.getD_eq_getElem?_getD,List.getElem?_eq_getElem h]
  rfl
theorem drop_it {l : List It} {i : Nat} (h : i < l.length) : l.drop i = rd_T48 l (i : Int) :: l.drop (i + 1):=by
  have e:=rdIt_get h
  rw [List.getElem?_eq_getElem h] at e
  rw [List.drop_eq_getElem_cons h,Option.some.inj e]
theorem neq_it (x y : It) : ((!(x.f0 == y.f0) || ((!(x.f1.f0 == y.f1.f0) || (!(x.f1.f1 == y.f1.f1) || (!(x.f1.f2 == y.f1.f2)))))) = true) ↔ x ≠ y:=by
  obtain ⟨a,b,c,d⟩:=x
  obtain ⟨a',b',c',d'⟩:=y
  simp
  omega
theorem eq_it (x y : It) : ((x.f0 == y.f0) && ((x.f1.f0 == y.f1.f0) && ((x.f1.f1 == y.f1.f1) && (x.f1.f2 == y.f1.f2)))) = true ↔ x = y:=by
  obtain ⟨a,b,c,d⟩:=x
  obtain ⟨a',b',c',d'⟩:=y
  simp
def itemOk (x : It) : Bool:=decide (1 ≤ x.f0 ∧ x.f0 ≤ 30) && payOk x.f1.f0 x.f1.f1 x.f1.f2
/-- Items go on behind epoch e. -/
def okFrom : Int → List It → Bool
  | _,[] => true
  | e,x :: xs => itemOk x && (decide (e < x.f0) && okFrom x.f0 xs)
def chainOk (c : List It) : Bool:=okFrom 0 c && decide (c.length ≤ 16)
def prevE (l : List It) (i : Nat) : Int:=if i = 0 then 0 else (rd_T48 l ((i - 1 : Nat) : Int)).f0
theorem prevE_succ (l : List It) (i : Nat) : prevE l (i + 1) = (rd_T48 l (i : Int)).f0:=by simp [prevE]
theorem epochOk_eq (e : Int) : impl_epochOk.f e = some (decide (1 ≤ e ∧ e ≤ 30)):=by
  unfold impl_epochOk.f
  simp [within_eq]
theorem chainOk_impl (l : List It) (hl : l.length ≤ 4611686018427387900) : Evt (fun k => impl_ChainOk.f k l) (fun r => r = chainOk l):=by
  have key : ∀ (d i : Nat),i + d = l.length → Evt (fun k => impl_ChainOk.l0 k l l (l.length : Int) (i : Int)) (fun r => r = (okFrom (prevE l i) (l.drop i) && decide (l.length ≤ 16))):=by
    intro d
    induction d with
    | zero =>
      intro i hd
      rw [List.drop_eq_nil_of_le (by omega)]
      refine Evt.step (f:=fun _ => some (decide ((l.length : Int) ≤ 16))) (fun k => by simp only [impl_ChainOk.l0];rw [if_neg (by omega)]) (Evt.now _ ?_)
      by_cases h : l.length ≤ 16
      · simp [okFrom,h,show (l.length : Int) ≤ 16 by omega]
      · simp [okFrom,h,show ¬ (l.length : Int) ≤ 16 by omega]
    | succ d ih =>
      intro i hd
      have ihs:=ih (i + 1) (by omega)
      rw [prevE_succ] at ihs
      rw [drop_it (l:=l) (i:=i) (by omega)]
      by_cases he : 1 ≤ (rd_T48 l (i : Int)).f0 ∧ (rd_T48 l (i : Int)).f0 ≤ 30
      · cases hp : payOk (rd_T48 l (i : Int)).f1.f0 (rd_T48 l (i : Int)).f1.f1 (rd_T48 l (i : Int)).f1.f2 with
        | false =>
          refine Evt.step (f:=fun _ => some false) (fun k => by
            simp only [impl_ChainOk.l0,epochOk_eq,payOk_impl,Option.bind_some]
            rw [if_pos (by omega),if_pos (by omega),if_pos (by omega),if_pos (by simpa using he),hp,if_neg (by decide)]) (Evt.now _ ?_)
          simp [okFrom,itemOk,hp]
        | true =>
          by_cases hi : i = 0
          · subst hi
            refine Evt.step (f:=fun k => impl_ChainOk.l0 k l l (l.length : Int) ((0 + 1 : Nat) : Int)) (fun k => by
              simp only [impl_ChainOk.l0,epochOk_eq,payOk_impl,Option.bind_some]
              rw [if_pos (by omega),if_pos (by omega),if_pos (by omega),if_pos (by simpa using he),hp,if_pos rfl,if_neg (by omega),wrap_succ (by omega)]) ?_
            refine ihs.mono fun r hr => ?_
            rw [hr]
            have h0 : (0 : Int) < (rd_T48 l ((0 : Nat) : Int)).f0:=by omega
            simp only [okFrom,itemOk,prevE,hp,he,h0,decide_true,and_self,if_true,Bool.true_and,Bool.and_true]
          · have hw : wrap64 ((i : Int) - 1) = ((i - 1 : Nat) : Int):=by unfold wrap64;omega
            by_cases hlt : (rd_T48 l ((i - 1 : Nat) : Int)).f0 < (rd_T48 l (i : Int)).f0
            · refine Evt.step (f:=fun k => impl_ChainOk.l0 k l l (l.length : Int) ((i + 1 : Nat) : Int)) (fun k => by
                simp only [impl_ChainOk.l0,epochOk_eq,payOk_impl,Option.bind_some]
                rw [if_pos (by omega),if_pos (by omega),if_pos (by omega),if_pos (by simpa using he),hp,if_pos rfl,if_pos (by omega),hw,if_pos (by omega),if_pos (by omega),if_neg (by omega),wrap_succ (by omega)]) ?_
              refine ihs.mono fun r hr => ?_
              rw [hr]
              simp [okFrom,itemOk,prevE,hp,he,hi,hlt]
            · refine Evt.step (f:=fun _ => some false) (fun k => by
                simp only [impl_ChainOk.l0,epochOk_eq,payOk_impl,Option.bind_some]
                rw [if_pos (by omega),if_pos (by omega),if_pos (by omega),if_pos (by simpa using he),hp,if_pos rfl,if_pos (by omega),hw,if_pos (by omega),if_pos (by omega),if_pos (by omega)]) (Evt.now _ ?_)
              simp [okFrom,itemOk,prevE,hi,hlt]
      · refine Evt.step (f:=fun _ => some false) (fun k => by
          simp only [impl_ChainOk.l0,epochOk_eq,Option.bind_some]
          rw [if_pos (by omega),if_pos (by omega),if_pos (by omega),if_neg (by simpa using he)]) (Evt.now _ ?_)
        simp [okFrom,itemOk,he]
  refine (Evt.congr (fun k => by unfold impl_ChainOk.f;rfl) (key l.length 0 (by omega))).mono fun r hr => ?_
  simpa [chainOk,prevE] using hr
theorem chainOk_spec (l : List It) (hl : l.length ≤ 4611686018427387900) : Evt (fun k => spec_ChainOk.f k l) (fun r => r = chainOk l):=by
  have key : ∀ (d i : Nat),i + d = l.length → Evt (fun k => spec_ChainOk.l0 k l (i : Int)) (fun r => r = (okFrom (prevE l i) (l.drop i) && decide (l.length ≤ 16))):=by
    intro d
    induction d with
    | zero =>
      intro i hd
      rw [List.drop_eq_nil_of_le (by omega)]
      refine Evt.step (f:=fun _ => some (decide ((l.length : Int) ≤ 16))) (fun k => by simp only [spec_ChainOk.l0];rw [if_neg (by omega)]) (Evt.now _ ?_)
      by_cases h : l.length ≤ 16
      · simp [okFrom,h,show (l.length : Int) ≤ 16 by omega]
      · simp [okFrom,h,show ¬ (l.length : Int) ≤ 16 by omega]
    | succ d ih =>
      intro i hd
      have ihs:=ih (i + 1) (by omega)
      rw [prevE_succ] at ihs
      rw [drop_it (l:=l) (i:=i) (by omega)]
      by_cases he : 1 ≤ (rd_T48 l (i : Int)).f0 ∧ (rd_T48 l (i : Int)).f0 ≤ 30
      · cases hp : payOk (rd_T48 l (i : Int)).f1.f0 (rd_T48 l (i : Int)).f1.f1 (rd_T48 l (i : Int)).f1.f2 with
        | false =>
          refine Evt.step (f:=fun _ => some false) (fun k => by
            simp only [spec_ChainOk.l0,l6In_eq,payOk_spec,Option.bind_some]
            rw [if_pos (by omega),if_pos (by omega),if_pos (by simpa using he),hp,if_neg (by decide)]) (Evt.now _ ?_)
          simp [okFrom,itemOk,hp]
        | true =>
          by_cases hi : i = 0
          · subst hi
            refine Evt.step (f:=fun k => spec_ChainOk.l0 k l ((0 + 1 : Nat) : Int)) (fun k => by
              simp only [spec_ChainOk.l0,l6In_eq,payOk_spec,Option.bind_some]
              rw [if_pos (by omega),if_pos (by omega),if_pos (by simpa using he),hp,if_pos rfl,if_neg (by omega),wrap_succ (by omega)]) ?_
            refine ihs.mono fun r hr => ?_
            rw [hr]
            have h0 : (0 : Int) < (rd_T48 l ((0 : Nat) : Int)).f0:=by omega
            simp only [okFrom,itemOk,prevE,hp,he,h0,decide_true,and_self,if_true,Bool.true_and,Bool.and_true]
          · have hw : wrap64 ((i : Int) - 1) = ((i - 1 : Nat) : Int):=by unfold wrap64;omega
            by_cases hlt : (rd_T48 l ((i - 1 : Nat) : Int)).f0 < (rd_T48 l (i : Int)).f0
            · refine Evt.step (f:=fun k => spec_ChainOk.l0 k l ((i + 1 : Nat) : Int)) (fun k => by
                simp only [spec_ChainOk.l0,l6In_eq,payOk_spec,Option.bind_some]
                rw [if_pos (by omega),if_pos (by omega),if_pos (by simpa using he),hp,if_pos rfl,if_pos (by omega),hw,if_pos (by omega),if_pos (by omega),if_neg (by omega),wrap_succ (by omega)]) ?_
              refine ihs.mono fun r hr => ?_
              rw [hr]
              simp [okFrom,itemOk,prevE,hp,he,hi,hlt]
            · refine Evt.step (f:=fun _ => some false) (fun k => by
                simp only [spec_ChainOk.l0,l6In_eq,payOk_spec,Option.bind_some]
                rw [if_pos (by omega),if_pos (by omega),if_pos (by simpa using he),hp,if_pos rfl,if_pos (by omega),hw,if_pos (by omega),if_pos (by omega),if_pos (by omega)]) (Evt.now _ ?_)
              simp [okFrom,itemOk,prevE,hi,hlt]
      · refine Evt.step (f:=fun _ => some false) (fun k => by
          simp only [spec_ChainOk.l0,l6In_eq,Option.bind_some]
          rw [if_pos (by omega),if_pos (by omega),if_neg (by simpa using he)]) (Evt.now _ ?_)
        simp [okFrom,itemOk,he]
  refine (Evt.congr (fun k => by unfold spec_ChainOk.f;rfl) (key l.length 0 (by omega))).mono fun r hr => ?_
  simpa [chainOk,prevE] using hr
theorem decLow {u : Nat} (h : u < 10) : Lib.decDigits u = [UInt8.ofNat (48 + u)]:=by rw [Lib.decDigits,dif_pos h]
theorem decTwo {u : Nat} (h : 10 ≤ u) (h2 : u < 100) : Lib.decDigits u = [UInt8.ofNat (48 + u / 10),UInt8.ofNat (48 + u % 10)]:=by
  rw [Lib.decDigits,dif_neg (by omega),decLow (by omega)];rfl
theorem dec_size {n : Int} (h0 : 0 ≤ n) (h1 : n < 100) : (impl_ChainText.dec n).size ≤ 2:=by
  show (Lib.decDigits n.toNat).length ≤ 2
  by_cases h : n.toNat < 10
  · rw [decLow h];simp
  · rw [decTwo (by omega) (by omega)];simp
theorem l6Dec_one {n : Int} (h0 : 0 ≤ n) (h1 : n < 10) (k : Nat) : spec_l6Dec.f (k + 1) n = some (impl_ChainText.dec n):=by
  simp only [spec_l6Dec.f]
  rw [if_neg (by omega),if_neg (by omega),if_pos h1,wrap64_small (by omega) (by omega),Int.emod_eq_of_lt (by omega) (by omega)]
  congr 1
  unfold impl_ChainText.dec strOfNums
  rw [decLow (by omega)]
  simp only [List.map_cons,List.map_nil]
  rw [show (48 + n).toNat = 48 + n.toNat by omega]
theorem l6Dec_ends {n : Int} (h0 : 0 ≤ n) (h1 : n < 100) : Evt (fun k => spec_l6Dec.f k n) (fun r => r = impl_ChainText.dec n):=by
  by_cases h : n < 10
  · exact Evt.step (fun k => l6Dec_one h0 h k) (Evt.now _ rfl)
  have e1 : Int.tdiv n 10 = n / 10:=Int.tdiv_eq_ediv_of_nonneg h0
  have e2 : Int.tmod n 10 = n % 10:=Int.tmod_eq_emod_of_nonneg h0
  refine Evt.step (f:=fun k => (spec_l6Dec.f k (n / 10)).bind fun t => ((some (([(wrap64 (48 + (Int.tmod n 10))) % 256] : List Int) : List Int)).bind fun y => (if t.size + (strOfNums y).size ≤ 9223372036854775807 then (some (t ++ (strOfNums y))) else (none)))) (fun k => by
    simp only [spec_l6Dec.f]
    rw [if_neg (by omega),if_neg (by omega),if_neg h,e1,wrap64_small (n:=n / 10) (by omega) (by omega)]) ?_
  refine Evt.bind (P:=fun r => r = impl_ChainText.dec (n / 10)) (Evt.step (fun k => l6Dec_one (by omega) (by omega) k) (Evt.now _ rfl)) fun t ht => ?_
  refine Evt.bind (P:=fun r => r = [48 + n % 10]) (Evt.now _ (by rw [e2,wrap64_small (by omega) (by omega),Int.emod_eq_of_lt (by omega) (by omega)])) fun y hy => ?_
  subst ht hy
  have hs:=dec_size (n:=n / 10) (by omega) (by omega)
  refine Evt.pos (by rw [strOfNums_size];simp only [List.length_cons,List.length_nil];omega) (Evt.now _ ?_)
  refine ByteArray.ext (Array.toList_inj.1 ?_)
  rw [ByteArray.data_append,Array.toList_append,strOfNums_data]
  show Lib.decDigits (n / 10).toNat ++ _ = Lib.decDigits n.toNat
  rw [decLow (by omega),decTwo (u:=n.toNat) (by omega) (by omega)]
  simp only [List.map_cons,List.map_nil,List.cons_append,List.nil_append]
  rw [show (48 + n % 10).toNat = 48 + n.toNat % 10 by omega,show (n / 10).toNat = n.toNat / 10 by omega]
theorem okFrom_mem : ∀ {l : List It} {e : Int},okFrom e l = true → ∀ x ∈ l,itemOk x = true
  | [],_,_,x,hx => by cases hx
  | y :: l,e,h,x,hx => by
    simp only [okFrom,Bool.and_eq_true] at h
    rcases List.mem_cons.1 hx with rfl|hx
    · exact h.1
    · exact okFrom_mem h.2.2 x hx
theorem itemOk_small {x : It} (h : itemOk x = true) : impl_ChainText.small x:=by
  simp only [itemOk,payOk,Bool.and_eq_true,decide_eq_true_eq] at h
  have one : ∀ n : Int,0 ≤ n → n < 100 → impl_ChainText.low n:=fun n h0 h1 => ⟨⟨h0,h1⟩,Nat.le_trans (dec_size h0 h1) (by omega)⟩
  exact ⟨one _ (by omega) (by omega),one _ (by omega) (by omega),one _ (by omega) (by omega),one _ (by omega) (by omega)⟩
theorem chainOk_small {l : List It} (h : chainOk l = true) : l.length ≤ 16 ∧ ∀ x ∈ l,impl_ChainText.small x:=by
  simp only [chainOk,Bool.and_eq_true,decide_eq_true_eq] at h
  exact ⟨h.2,fun x hx => itemOk_small (okFrom_mem h.1 x hx)⟩
/-- The text of a chain. -/
def chainText (l : List It) : List UInt8:=if chainOk l = true then impl_ChainText.txt l else []
theorem chainText_impl (l : List It) (hl : l.length ≤ 4611686018427387900) : Evt (fun k => impl_ChainText.f k l) (fun r => r = ⟨(chainText l).toArray⟩):=by
  unfold impl_ChainText.f chainText
  refine Evt.bind (chainOk_impl l hl) fun t ht => ?_
  rw [ht]
  refine Evt.ite (fun h => ?_) fun h => Evt.now _ (by rw [if_neg h])
  have hs:=chainOk_small h
  exact Evt.pos ⟨by omega,hs.2⟩ (Evt.now _ (by rw [if_pos h]))
theorem chainText_loop (l : List It) (hl : l.length ≤ 16) (hs : ∀ x ∈ l,impl_ChainText.small x) : ∀ (d i : Nat) (x : ByteArray),i + d = l.length → x.size ≤ 1000 * i → Evt (fun k => spec_ChainText.l0 k l x (i : Int)) (fun r => r.data.toList = x.data.toList ++ impl_ChainText.txt (l.drop i)):=by
  intro d
  induction d with
  | zero =>
    intro i x hd _
    rw [List.drop_eq_nil_of_le (by omega)]
    refine Evt.step (f:=fun _ => some x) (fun k => by simp only [spec_ChainText.l0];rw [if_neg (by omega)]) (Evt.now _ ?_)
    simp [impl_ChainText.txt]
  | succ d ih =>
    intro i x hd hx
    have hm : rd_T48 l (i : Int) ∈ l:=List.mem_of_getElem? (rdIt_get (l:=l) (i:=i) (by omega))
    obtain ⟨⟨⟨a0,a1⟩,_⟩,⟨⟨b0,b1⟩,_⟩,⟨⟨c0,c1⟩,_⟩,⟨⟨d0,d1⟩,_⟩⟩:=hs _ hm
    have sa:=dec_size a0 a1
    have sb:=dec_size b0 b1
    have sc:=dec_size c0 c1
    have sd:=dec_size d0 d1
    have e1 : (⟨#[58]⟩ : ByteArray).size = 1:=rfl
    have e2 : (⟨#[10]⟩ : ByteArray).size = 1:=rfl
    have e : ∀ k,spec_ChainText.l0 (k + 1) l x (i : Int) = _:=fun k => by rw [spec_ChainText.l0,if_pos (by omega),if_pos (by omega),wrap_succ (by omega)]
    refine Evt.step e ?_
    refine Evt.bind (l6Dec_ends a0 a1) fun t ht => ?_
    subst ht
    refine Evt.pos (by omega) (Evt.pos (by rw [ByteArray.size_append];omega) ?_)
    refine Evt.bind (l6Dec_ends b0 b1) fun t ht => ?_
    subst ht
    refine Evt.pos (by simp only [ByteArray.size_append,e1];omega) ?_
    refine Evt.bind (l6Dec_ends c0 c1) fun t ht => ?_
    subst ht
    refine Evt.pos (by simp only [ByteArray.size_append,e1];omega) ?_
    refine Evt.bind (l6Dec_ends d0 d1) fun t ht => ?_
    subst ht
    refine Evt.pos (by simp only [ByteArray.size_append,e1];omega) (Evt.pos (by simp only [ByteArray.size_append,e1];omega) ?_)
    refine (ih (i + 1) _ (by omega) (by simp only [ByteArray.size_append,e1,e2];omega)).mono fun r hr => ?_
    rw [hr,drop_it (l:=l) (i:=i) (by omega)]
    have e3 : ∀ y (ys : List It),impl_ChainText.txt (y :: ys) = (impl_ChainText.item y).data.toList ++ impl_ChainText.txt ys:=fun _ _ => rfl
    rw [e3]
    simp only [impl_ChainText.item,ByteArray.data_append,Array.toList_append,List.append_assoc]
theorem chainText_spec (l : List It) (hl : l.length ≤ 4611686018427387900) : Evt (fun k => spec_ChainText.f k l) (fun r => r = ⟨(chainText l).toArray⟩):=by
  unfold spec_ChainText.f chainText
  refine Evt.bind (chainOk_spec l hl) fun t ht => ?_
  rw [ht]
  refine Evt.ite (fun h => ?_) fun h => Evt.now _ (by rw [if_neg h])
  have hs:=chainOk_small h
  refine (chainText_loop l hs.1 hs.2 l.length 0 _ (by omega) (by simp [ByteArray.size])).mono fun r hr => ?_
  rw [if_pos h]
  refine ByteArray.ext (Array.toList_inj.1 ?_)
  rw [hr]
  simp
theorem okFrom_take (n : Nat) {c : List It} : ∀ {e : Int},okFrom e c = true → okFrom e (c.take n) = true:=by
  induction n generalizing c with
  | zero => intro e _;rfl
  | succ n ih =>
    intro e h
    cases c with
    | nil => rfl
    | cons x xs =>
      simp only [okFrom,List.take_succ_cons,Bool.and_eq_true] at h ⊢
      exact ⟨h.1,h.2.1,ih h.2.2⟩
theorem chainOk_take (n : Nat) {c : List It} (h : chainOk c = true) : chainOk (c.take n) = true:=by
  simp only [chainOk,Bool.and_eq_true,decide_eq_true_iff] at h ⊢
  exact ⟨okFrom_take n h.1,by rw [List.length_take];omega⟩
theorem dig_inj {u v : Nat} (hu : u < 10) (hv : v < 10) (h : UInt8.ofNat (48 + u) = UInt8.ofNat (48 + v)) : u = v:=by
  have:=congrArg UInt8.toNat h
  simp only [UInt8.toNat_ofNat'] at this
  omega
theorem dig_ne {u : Nat} (hu : u < 10) : UInt8.ofNat (48 + u) ≠ 10:=by
  intro h
  have:=congrArg UInt8.toNat h
  simp only [UInt8.toNat_ofNat'] at this
  have e : (10 : UInt8).toNat = 10:=rfl
  omega
/-- The line of an item, without its end. -/
def lineOf (x : It) : List UInt8:=Lib.decDigits x.f0.toNat ++ [58,UInt8.ofNat (48 + x.f1.f0.toNat),UInt8.ofNat (48 + x.f1.f1.toNat),UInt8.ofNat (48 + x.f1.f2.toNat)]
theorem itemOk_bounds {x : It} (h : itemOk x = true) : (1 ≤ x.f0 ∧ x.f0 ≤ 30) ∧ (1 ≤ x.f1.f0 ∧ x.f1.f0 ≤ 3) ∧ (1 ≤ x.f1.f1 ∧ x.f1.f1 ≤ 3) ∧ (1 ≤ x.f1.f2 ∧ x.f1.f2 ≤ 9):=by
  simp only [itemOk,payOk,Bool.and_eq_true,decide_eq_true_eq] at h
  exact ⟨h.1,h.2.1,h.2.2.1,h.2.2.2.2⟩
theorem item_line {x : It} (h : itemOk x = true) : (impl_ChainText.item x).data.toList = lineOf x ++ [10]:=by
  obtain ⟨h0,h1,h2,h3⟩:=itemOk_bounds h
  simp only [impl_ChainText.item,ByteArray.data_append,Array.toList_append,impl_ChainText.dec,lineOf]
  rw [decLow (u:=x.f1.f0.toNat) (by omega),decLow (u:=x.f1.f1.toNat) (by omega),decLow (u:=x.f1.f2.toNat) (by omega)]
  simp
theorem dec_mem {n : Nat} (h : n < 100) : ∀ b ∈ Lib.decDigits n,∃ u,u < 10 ∧ b = UInt8.ofNat (48 + u):=by
  intro b hb
  by_cases h1 : n < 10
  · rw [decLow h1] at hb
    simp only [List.mem_cons,List.not_mem_nil,or_false] at hb
    exact ⟨n,h1,hb⟩
  · rw [decTwo (by omega) h] at hb
    simp only [List.mem_cons,List.not_mem_nil,or_false] at hb
    rcases hb with hb|hb
    · exact ⟨n / 10,by omega,hb⟩
    · exact ⟨n % 10,by omega,hb⟩
theorem line_mem {x : It} (h : itemOk x = true) : ∀ b ∈ lineOf x,b = 58 ∨ ∃ u,u < 10 ∧ b = UInt8.ofNat (48 + u):=by
  obtain ⟨h0,h1,h2,h3⟩:=itemOk_bounds h
  intro b hb
  simp only [lineOf,List.mem_append,List.mem_cons,List.not_mem_nil,or_false] at hb
  rcases hb with hb|hb|hb|hb|hb
  · exact .inr (dec_mem (by omega) b hb)
  · exact .inl hb
  · exact .inr ⟨_,by omega,hb⟩
  · exact .inr ⟨_,by omega,hb⟩
  · exact .inr ⟨_,by omega,hb⟩
theorem line_ten {x : It} (h : itemOk x = true) : (10 : UInt8) ∉ lineOf x:=by
  intro hm
  rcases line_mem h _ hm with h1|⟨u,hu,h1⟩
  · exact absurd h1 (by decide)
  · exact dig_ne hu h1.symm
theorem dec_inj {a b : Nat} (ha : a < 100) (hb : b < 100) (h : Lib.decDigits a = Lib.decDigits b) : a = b:=by
  by_cases h1 : a < 10
  · by_cases h2 : b < 10
    · rw [decLow h1,decLow h2] at h
      simp only [List.cons.injEq,and_true] at h
      exact dig_inj h1 h2 h
    · rw [decLow h1,decTwo (by omega) hb] at h
      simp at h
  · by_cases h2 : b < 10
    · rw [decTwo (by omega) ha,decLow h2] at h
      simp at h
    · rw [decTwo (by omega) ha,decTwo (by omega) hb] at h
      simp only [List.cons.injEq,and_true] at h
      have e1:=dig_inj (u:=a / 10) (v:=b / 10) (by omega) (by omega) h.1
      have e2:=dig_inj (u:=a % 10) (v:=b % 10) (by omega) (by omega) h.2
      omega
theorem line_inj {x y : It} (hx : itemOk x = true) (hy : itemOk y = true) (h : lineOf x = lineOf y) : x = y:=by
  obtain ⟨x0,x1,x2,x3⟩:=itemOk_bounds hx
  obtain ⟨y0,y1,y2,y3⟩:=itemOk_bounds hy
  obtain ⟨h1,h2⟩:=List.append_inj' h rfl
  simp only [List.cons.injEq,and_true,true_and] at h2
  have e0:=dec_inj (by omega) (by omega) h1
  have e1:=dig_inj (by omega) (by omega) h2.1
  have e2:=dig_inj (by omega) (by omega) h2.2.1
  have e3:=dig_inj (by omega) (by omega) h2.2.2
  obtain ⟨a,b,c,d⟩:=x
  obtain ⟨a',b',c',d'⟩:=y
  simp only at *
  have f0 : a = a':=by omega
  have f1 : b = b':=by omega
  have f2 : c = c':=by omega
  have f3 : d = d':=by omega
  rw [f0,f1,f2,f3]
theorem split_ten {a b p q : List UInt8} (ha : (10 : UInt8) ∉ a) (hb : (10 : UInt8) ∉ b) : a ++ 10 :: p <+: b ++ 10 :: q ↔ a = b ∧ p <+: q:=by
  induction a generalizing b with
  | nil =>
    cases b with
    | nil => simp [List.cons_prefix_cons]
    | cons y b =>
      have : (10 : UInt8) ≠ y:=fun e => hb (e ▸ List.mem_cons_self)
      simp [List.cons_prefix_cons,this]
  | cons x a ih =>
    have hx : x ≠ 10:=fun e => ha (e ▸ List.mem_cons_self)
    cases b with
    | nil => simp [List.cons_prefix_cons,hx]
    | cons y b =>
      rw [List.cons_append,List.cons_append,List.cons_prefix_cons,ih (fun h => ha (List.mem_cons_of_mem _ h)) (fun h => hb (List.mem_cons_of_mem _ h)),List.cons.injEq,and_assoc]
theorem txt_cons (y : It) (ys : List It) : impl_ChainText.txt (y :: ys) = (impl_ChainText.item y).data.toList ++ impl_ChainText.txt ys:=rfl
theorem txt_pre : ∀ {a b : List It},(∀ x ∈ a,itemOk x = true) → (∀ x ∈ b,itemOk x = true) → (impl_ChainText.txt a <+: impl_ChainText.txt b ↔ a <+: b)
  | [],b,_,_ => by simp [impl_ChainText.txt]
  | x :: a,[],ha,_ => by
    rw [txt_cons,item_line (ha x List.mem_cons_self)]
    simp [impl_ChainText.txt]
  | x :: a,y :: b,ha,hb => by
    have hx:=ha x List.mem_cons_self
    have hy:=hb y List.mem_cons_self
    rw [txt_cons,txt_cons,item_line hx,item_line hy,List.append_assoc,List.append_assoc,List.singleton_append,List.singleton_append,split_ten (line_ten hx) (line_ten hy),List.cons_prefix_cons,txt_pre (fun z hz => ha z (List.mem_cons_of_mem _ hz)) (fun z hz => hb z (List.mem_cons_of_mem _ hz))]
    constructor
    · rintro ⟨h1,h2⟩
      exact ⟨line_inj hx hy h1,h2⟩
    · rintro ⟨h1,h2⟩
      exact ⟨by rw [h1],h2⟩
theorem chainOk_items {l : List It} (h : chainOk l = true) : ∀ x ∈ l,itemOk x = true:=by
  simp only [chainOk,Bool.and_eq_true] at h
  exact okFrom_mem h.1
theorem text_pre {a b : List It} (ha : chainOk a = true) (hb : chainOk b = true) : chainText a <+: chainText b ↔ a <+: b:=by
  rw [chainText,chainText,if_pos ha,if_pos hb]
  exact txt_pre (chainOk_items ha) (chainOk_items hb)
theorem text_inj {a b : List It} (ha : chainOk a = true) (hb : chainOk b = true) : chainText a = chainText b ↔ a = b:=by
  constructor
  · intro h
    have h1:=(text_pre ha hb).1 (h ▸ List.prefix_refl _)
    have h2:=(text_pre hb ha).1 (h ▸ List.prefix_refl _)
    exact h1.eq_of_length (Nat.le_antisymm h1.length_le h2.length_le)
  · rintro rfl
    rfl
theorem text_len {l : List It} : (chainText l).length ≤ 20000:=by
  unfold chainText
  split
  · rename_i h
    have hs:=chainOk_small h
    have:=impl_ChainText.txt_len l hs.2
    omega
  · simp
theorem indexByte_app {a q : List UInt8} {c : UInt8} (h : c ∉ a) : Lib.indexByte (a ++ c :: q) c = (a.length : Int):=by
  induction a with
  | nil => simp [Lib.indexByte]
  | cons x a ih =>
    have hx : (x == c) = false:=beq_eq_false_iff_ne.2 (fun e => h (by rw [e];exact List.mem_cons_self))
    have hi:=ih (fun hm => h (List.mem_cons_of_mem _ hm))
    rw [List.cons_append,Lib.indexByte,hx,hi,if_neg (by decide),if_neg (by first|(simp;done)|(simp;omega)),List.length_cons]
    omega
theorem cut_app {a q : List UInt8} {c : UInt8} (h : c ∉ a) : Lib.cut (a ++ c :: q) [c] = (a,q,true):=by
  unfold Lib.cut
  rw [Lib.index_one,indexByte_app h,if_pos (by omega)]
  simp
theorem split_app {a q : List UInt8} {c : UInt8} (h : c ∉ a) (h2 : c ∉ q) : Lib.splitB ⟨#[c]⟩ 0 (Lib.countB ⟨(a ++ c :: q).toArray⟩ ⟨#[c]⟩) ⟨(a ++ c :: q).toArray⟩ = [⟨a.toArray⟩,⟨q.toArray⟩]:=by
  have e1 : Lib.countB ⟨(a ++ c :: q).toArray⟩ ⟨#[c]⟩ = (a ++ c :: q).count c:=Lib.count_one c _
  have e2 : (a ++ c :: q).count c = 1:=by
    rw [List.count_append,List.count_cons_self,List.count_eq_zero_of_not_mem h,List.count_eq_zero_of_not_mem h2]
  have e3 : Lib.indexB ⟨(a ++ c :: q).toArray⟩ ⟨#[c]⟩ = (a.length : Int):=(Lib.index_one _ _).trans (indexByte_app h)
  rw [e1,e2,Lib.splitB,e3,if_neg (by first|(simp;done)|(simp;omega)),Lib.splitB_zero]
  have e4 : (⟨#[c]⟩ : ByteArray).size = 1:=rfl
  rw [e4]
  simp only [Int.toNat_natCast,Nat.add_zero,List.cons.injEq,and_true]
  constructor
  · refine ByteArray.ext (Array.toList_inj.1 ?_)
    rw [ByteArray.data_extract,Array.toList_extract]
    simp [List.extract]
  · refine ByteArray.ext (Array.toList_inj.1 ?_)
    rw [ByteArray.data_extract,Array.toList_extract]
    have e5 : (⟨(a ++ c :: q).toArray⟩ : ByteArray).size = (a ++ c :: q).length:=rfl
    have e6 : (a ++ c :: q).drop (a.length + 1) = q:=by
      have : a ++ c :: q = (a ++ [c]) ++ q:=by simp
      rw [this];exact List.drop_left' (by simp)
    rw [e5,List.extract_eq_take_drop]
    show ((a ++ c :: q).drop (a.length + 1)).take _ = q
    rw [e6,List.take_of_length_le (by simp only [List.length_append,List.length_cons];omega)]
theorem dig_nat {u : Nat} (h : u < 10) : (UInt8.ofNat (48 + u)).toNat = 48 + u:=by
  simp only [UInt8.toNat_ofNat']
  omega
theorem digL_cons {u : Nat} (h : u < 10) (l : List UInt8) (n : Int) : impl_digits.digL (UInt8.ofNat (48 + u) :: l) n = impl_digits.digL l (10 * n + (u : Int)):=by
  rw [impl_digits.digL,dig_nat h,if_neg (by omega)]
  congr 1
  omega
theorem digits_dec {n : Int} (h0 : 0 ≤ n) (h1 : n < 100) : impl_digits.res ⟨(Lib.decDigits n.toNat).toArray⟩ 1 2 = (n,true):=by
  unfold impl_digits.res
  show (if 1 ≤ ((Lib.decDigits n.toNat).length : Int) ∧ ((Lib.decDigits n.toNat).length : Int) ≤ 2 then impl_digits.digL (Lib.decDigits n.toNat) 0 else (0,false)) = _
  by_cases h : n.toNat < 10
  · rw [decLow h,if_pos (by simp),digL_cons h,impl_digits.digL]
    simp;omega
  · rw [decTwo (by omega) (by omega),if_pos (by simp),digL_cons (by omega),digL_cons (by omega),impl_digits.digL]
    simp only [Prod.mk.injEq,and_true]
    omega
theorem digits_three {a b c : Nat} (ha : a < 10) (hb : b < 10) (hc : c < 10) : impl_digits.res ⟨#[UInt8.ofNat (48 + a),UInt8.ofNat (48 + b),UInt8.ofNat (48 + c)]⟩ 3 3 = (100 * (a : Int) + 10 * b + c,true):=by
  unfold impl_digits.res
  show (if (3 : Int) ≤ ((3 : Nat) : Int) ∧ ((3 : Nat) : Int) ≤ 3 then impl_digits.digL [UInt8.ofNat (48 + a),UInt8.ofNat (48 + b),UInt8.ofNat (48 + c)] 0 else (0,false)) = _
  rw [if_pos (by omega),digL_cons ha,digL_cons hb,digL_cons hc,impl_digits.digL]
  simp only [Prod.mk.injEq,and_true]
  omega
theorem readPay_three {a b c : Int} (ha : 0 ≤ a ∧ a < 10) (hb : 0 ≤ b ∧ b < 10) (hc : 0 ≤ c ∧ c < 10) : impl_readPay.f ⟨#[UInt8.ofNat (48 + a.toNat),UInt8.ofNat (48 + b.toNat),UInt8.ofNat (48 + c.toNat)]⟩ = some (a,b,c):=by
  unfold impl_readPay.f impl_digits.f
  rw [if_pos (by decide),digits_three (by omega) (by omega) (by omega)]
  simp only [Option.bind_some]
  have e0 : 100 * ((a.toNat : Nat) : Int) + 10 * (b.toNat : Int) + (c.toNat : Int) = 100 * a + 10 * b + c:=by omega
  rw [if_pos trivial,e0,Int.tdiv_eq_ediv_of_nonneg (by omega),Int.tdiv_eq_ediv_of_nonneg (by omega),wrap64_small (by omega) (by omega),wrap64_small (by omega) (by omega),Int.tmod_eq_emod_of_nonneg (by omega),Int.tmod_eq_emod_of_nonneg (by omega)]
  congr 2
  · omega
  · congr 1 <;> omega
theorem ten_ne (u : Nat) (h : u < 10) : UInt8.ofNat (48 + u) ≠ 58:=by
  intro e
  have:=congrArg UInt8.toNat e
  rw [dig_nat h] at this
  have e2 : (58 : UInt8).toNat = 58:=rfl
  omega
theorem readItem_line {x : It} (h : itemOk x = true) : impl_readItem.f ⟨(lineOf x).toArray⟩ = some (x.f0,x.f1.f0,x.f1.f1,x.f1.f2):=by
  obtain ⟨h0,h1,h2,h3⟩:=itemOk_bounds h
  have n1 : (58 : UInt8) ∉ Lib.decDigits x.f0.toNat:=fun hm => by
    obtain ⟨u,hu,e⟩:=dec_mem (n:=x.f0.toNat) (by omega) _ hm
    exact ten_ne u hu e.symm
  have n2 : (58 : UInt8) ∉ [UInt8.ofNat (48 + x.f1.f0.toNat),UInt8.ofNat (48 + x.f1.f1.toNat),UInt8.ofNat (48 + x.f1.f2.toNat)]:=fun hm => by
    simp only [List.mem_cons,List.not_mem_nil,or_false] at hm
    rcases hm with e|e|e
    · exact ten_ne _ (by omega) e.symm
    · exact ten_ne _ (by omega) e.symm
    · exact ten_ne _ (by omega) e.symm
  have hl : (⟨(lineOf x).toArray⟩ : ByteArray).size < 1000000:=by
    show (lineOf x).length < 1000000
    have:=dec_size (n:=x.f0) (by omega) (by omega)
    have e : (impl_ChainText.dec x.f0).size = (Lib.decDigits x.f0.toNat).length:=rfl
    rw [lineOf,List.length_append]
    simp only [List.length_cons,List.length_nil]
    omega
  unfold impl_readItem.f strings_Split.f
  rw [if_pos ⟨rfl,hl⟩]
  simp only [Option.bind_some]
  have e1 : Lib.splitB ⟨#[58]⟩ 0 (Lib.countB ⟨(lineOf x).toArray⟩ ⟨#[58]⟩) ⟨(lineOf x).toArray⟩ = _:=split_app n1 n2
  rw [e1]
  have e2 : ∀ a b : ByteArray,rdOf ByteArray.empty [a,b] 0 = a:=fun _ _ => rfl
  have e3 : ∀ a b : ByteArray,rdOf ByteArray.empty [a,b] 1 = b:=fun _ _ => rfl
  rw [if_pos (by simp),if_pos (by simp),e2,e3]
  unfold impl_digits.f
  rw [if_pos (by decide),digits_dec (by omega) (by omega)]
  simp only [Option.bind_some]
  rw [if_pos trivial,if_pos (by simp),readPay_three (a:=x.f1.f0) (b:=x.f1.f1) (c:=x.f1.f2) (by omega) (by omega) (by omega)]
  rfl
/-- The text of a chain is read back. -/
theorem read_loop (c : List It) (hc : chainOk c = true) : ∀ (d i : Nat),i + d = c.length → Evt (fun k => impl_ChainRead.l0 k ⟨(chainText c).toArray⟩ (c.take i) ⟨(impl_ChainText.txt (c.drop i)).toArray⟩) (fun r => r = (c,true)):=by
  have hs:=chainOk_small hc
  have ht : chainText c = impl_ChainText.txt c:=by rw [chainText,if_pos hc]
  intro d
  induction d with
  | zero =>
    intro i hd
    rw [List.drop_eq_nil_of_le (by omega),List.take_of_length_le (by omega)]
    refine Evt.step (fun k => by simp only [impl_ChainRead.l0];rw [if_pos (by simp [ByteArray.toList_eq,impl_ChainText.txt])]) ?_
    refine Evt.bind (chainOk_impl c (by omega)) fun t h1 => ?_
    refine Evt.pos (by rw [h1,hc]) (Evt.bind (chainText_impl c (by omega)) fun t h2 => ?_)
    subst h2
    exact Evt.pos rfl (Evt.now _ rfl)
  | succ d ih =>
    intro i hd
    have hi : i < c.length:=by omega
    have hm : rd_T48 c (i : Int) ∈ c:=List.mem_of_getElem? (rdIt_get hi)
    have hx:=chainOk_items hc _ hm
    have et : impl_ChainText.txt (c.drop i) = lineOf (rd_T48 c (i : Int)) ++ 10 :: impl_ChainText.txt (c.drop (i + 1)):=by
      rw [drop_it hi,txt_cons,item_line hx,List.append_assoc,List.singleton_append]
    have hl : (⟨(impl_ChainText.txt (c.drop i)).toArray⟩ : ByteArray).size < 1000000:=by
      show (impl_ChainText.txt (c.drop i)).length < 1000000
      have:=impl_ChainText.txt_len (c.drop i) (fun y hy => hs.2 y (List.mem_of_mem_drop hy))
      rw [List.length_drop] at this
      omega
    have ecut : strings_Cut.f ⟨(impl_ChainText.txt (c.drop i)).toArray⟩ ⟨#[10]⟩ = some (⟨(lineOf (rd_T48 c (i : Int))).toArray⟩,⟨(impl_ChainText.txt (c.drop (i + 1))).toArray⟩,true):=by
      unfold strings_Cut.f
      rw [if_pos ⟨rfl,hl⟩]
      have e : Lib.cut (impl_ChainText.txt (c.drop i)) [10] = _:=(congrArg (fun z => Lib.cut z [10]) et).trans (cut_app (line_ten hx))
      have e1 : (⟨(impl_ChainText.txt (c.drop i)).toArray⟩ : ByteArray).data.toList = impl_ChainText.txt (c.drop i):=rfl
      have e2 : (⟨#[10]⟩ : ByteArray).data.toList = [10]:=rfl
      rw [e1,e2,e]
    have htk : (c.take i).length < 4398046511104:=by rw [List.length_take];omega
    have hsn : c.take i ++ [rd_T48 c (i : Int)] = c.take (i + 1):=by
      rw [List.take_add_one,rdIt_get hi];rfl
    have ihs:=ih (i + 1) (by omega)
    rw [← hsn] at ihs
    refine Evt.step (fun k => by
      simp only [impl_ChainRead.l0]
      rw [if_neg (by rw [ByteArray.toList_eq];show ¬ impl_ChainText.txt (c.drop i) = [];rw [et];simp),ecut]
      simp only [Option.bind_some]
      rw [readItem_line hx]
      simp only [Option.bind_some]
      rw [if_pos htk]) ihs
theorem read_text (c : List It) (hc : chainOk c = true) (hl : c.length ≤ 9) : Evt (fun k => impl_ChainRead.f k ⟨(chainText c).toArray⟩) (fun r => r = (c,true)):=by
  have ht : chainText c = impl_ChainText.txt c:=by rw [chainText,if_pos hc]
  have hn : (impl_ChainText.txt c).length ≤ 10 * c.length:=by
    clear ht hl
    have hi:=chainOk_items hc
    clear hc
    induction c with
    | nil => simp [impl_ChainText.txt]
    | cons x c ih =>
      have hx:=hi x List.mem_cons_self
      obtain ⟨h0,_⟩:=itemOk_bounds hx
      have:=ih (fun y hy => hi y (List.mem_cons_of_mem _ hy))
      have hd:=dec_size (n:=x.f0) (by omega) (by omega)
      have e : (impl_ChainText.dec x.f0).size = (Lib.decDigits x.f0.toNat).length:=rfl
      rw [txt_cons,item_line hx,List.length_append,List.length_append,lineOf,List.length_append,List.length_cons]
      simp only [List.length_cons,List.length_nil]
      omega
  unfold impl_ChainRead.f
  refine Evt.neg (by show ¬ (((chainText c).length : Nat) : Int) > 130;rw [ht];omega) ?_
  have:=read_loop c hc c.length 0 (by omega)
  rw [ht] at this ⊢
  simpa using this
theorem readPay_some (s : ByteArray) : ∃ q,impl_readPay.f s = some q:=by
  unfold impl_readPay.f impl_digits.f
  rw [if_pos (by decide)]
  simp only [Option.bind_some]
  split <;> exact ⟨_,rfl⟩
theorem readItem_some (s : ByteArray) (h : s.size < 1000000) : ∃ q,impl_readItem.f s = some q:=by
  unfold impl_readItem.f strings_Split.f
  rw [if_pos ⟨rfl,h⟩]
  simp only [Option.bind_some]
  generalize Lib.splitB ⟨#[58]⟩ 0 (Lib.countB s ⟨#[58]⟩) s = t
  by_cases h2 : (t.length : Int) = 2
  · rw [if_pos h2,if_pos (by omega)]
    unfold impl_digits.f
    rw [if_pos (by decide)]
    simp only [Option.bind_some]
    obtain ⟨p,hp⟩:=readPay_some (rdOf ByteArray.empty t 1)
    rw [hp]
    simp only [Option.bind_some]
    split <;> (rw [if_pos (show 1 < (t.length : Int) by omega)];exact ⟨_,rfl⟩)
  · rw [if_neg h2]
    exact ⟨_,rfl⟩
theorem cut_short (t : List UInt8) (h : t ≠ []) : (Lib.cut t [10]).1.length ≤ t.length ∧ (Lib.cut t [10]).2.1.length < t.length:=by
  have hl : 0 < t.length:=List.length_pos_iff.2 h
  unfold Lib.cut
  split
  · simp only [List.length_take,List.length_drop,List.length_cons,List.length_nil]
    omega
  · simp only [List.length_nil]
    omega
/-- Whatever the text: it is read to its end. -/
theorem read_total (x0 : ByteArray) : ∀ (n : Nat) (c : List It) (t : List UInt8),t.length ≤ n → c.length + n ≤ 1000 → ∃ c',Evt (fun k => impl_ChainRead.l0 k x0 c ⟨t.toArray⟩) (fun r => r = if chainOk c' = true then (if chainText c' = x0.toList then (c',true) else ([],false)) else ([],false)):=by
  have stop : ∀ c : List It,c.length ≤ 1000 → Evt (fun k => impl_ChainRead.l0 k x0 c ⟨#[]⟩) (fun r => r = if chainOk c = true then (if chainText c = x0.toList then (c,true) else ([],false)) else ([],false)):=by
    intro c hc
    refine Evt.step (fun k => by simp only [impl_ChainRead.l0];rw [if_pos (by simp [ByteArray.toList_eq])]) ?_
    refine Evt.bind (chainOk_impl c (by omega)) fun t h1 => ?_
    rw [h1]
    refine Evt.ite (fun h => ?_) fun h => Evt.now _ (by rw [if_neg h])
    refine Evt.bind (chainText_impl c (by omega)) fun t h2 => ?_
    subst h2
    have e : (⟨(chainText c).toArray⟩ : ByteArray).toList = chainText c:=by simp [ByteArray.toList_eq]
    rw [e]
    exact Evt.ite (fun h3 => Evt.now _ (by rw [if_pos h,if_pos h3])) fun h3 => Evt.now _ (by rw [if_pos h,if_neg h3])
  intro n
  induction n with
  | zero =>
    intro c t ht hc
    obtain rfl : t = []:=List.eq_nil_of_length_eq_zero (by omega)
    exact ⟨c,stop c (by omega)⟩
  | succ n ih =>
    intro c t ht hc
    by_cases h0 : t = []
    · subst h0
      exact ⟨c,stop c (by omega)⟩
    · obtain ⟨k1,k2⟩:=cut_short t h0
      have hsz : (⟨t.toArray⟩ : ByteArray).size < 1000000:=by show t.length < 1000000;omega
      obtain ⟨q,hq⟩:=readItem_some ⟨(Lib.cut t [10]).1.toArray⟩ (by show (Lib.cut t [10]).1.length < 1000000;omega)
      obtain ⟨c',h'⟩:=ih (c ++ [(⟨q.1,⟨q.2.1,q.2.2.1,q.2.2.2⟩⟩ : It)]) (Lib.cut t [10]).2.1 (by omega) (by simp only [List.length_append,List.length_cons,List.length_nil];omega)
      refine ⟨c',Evt.step (fun k => by
        simp only [impl_ChainRead.l0,strings_Cut.f]
        rw [if_neg (by rw [ByteArray.toList_eq];exact h0),if_pos ⟨rfl,hsz⟩]
        simp only [Option.bind_some]
        have e : impl_readItem.f ⟨(Lib.cut (⟨t.toArray⟩ : ByteArray).data.toList (⟨#[10]⟩ : ByteArray).data.toList).1.toArray⟩ = some q:=hq
        rw [e]
        simp only [Option.bind_some]
        rw [if_pos (by omega)]) h'⟩
theorem txt_last : ∀ (c : List It),c ≠ [] → ∃ p,impl_ChainText.txt c = p ++ [10]
  | [],h => absurd rfl h
  | [x],_ => ⟨((((impl_ChainText.dec x.f0 ++ (⟨#[58]⟩ : ByteArray)) ++ impl_ChainText.dec x.f1.f0) ++ impl_ChainText.dec x.f1.f1) ++ impl_ChainText.dec x.f1.f2).data.toList,by rw [txt_cons,impl_ChainText.item,ByteArray.data_append,Array.toList_append];simp only [impl_ChainText.txt,List.flatMap_nil,List.append_nil]⟩
  | x :: y :: c,_ => by
    obtain ⟨p,hp⟩:=txt_last (y :: c) (by simp)
    exact ⟨(impl_ChainText.item x).data.toList ++ p,by rw [txt_cons,hp,List.append_assoc]⟩
/-- What doesn't end with a line's end is no chain's text. -/
theorem read_not (p : List UInt8) (b : UInt8) (hb : b ≠ 10) (hl : p.length ≤ 900) : Evt (fun k => impl_ChainRead.f k ⟨(p ++ [b]).toArray⟩) (fun r => r.2 = false):=by
  unfold impl_ChainRead.f
  refine Evt.ite (fun _ => Evt.now _ rfl) fun _ => ?_
  obtain ⟨c',h⟩:=read_total ⟨(p ++ [b]).toArray⟩ 901 [] (p ++ [b]) (by simp;omega) (by simp)
  refine h.mono fun r hr => ?_
  rw [hr]
  split
  · rename_i hc
    split
    · rename_i he
      exfalso
      have e : (⟨(p ++ [b]).toArray⟩ : ByteArray).toList = p ++ [b]:=by simp [ByteArray.toList_eq]
      rw [e,chainText,if_pos hc] at he
      by_cases h0 : c' = []
      · subst h0;simp [impl_ChainText.txt] at he
      · obtain ⟨p',hp'⟩:=txt_last c' h0
        rw [hp'] at he
        have:=(List.append_inj' he rfl).2
        simp only [List.cons.injEq,and_true] at this
        exact hb this.symm
    · rfl
  · rfl
/-- The pieces of a text between the bytes c: at least one. -/
def cutsAt (c : UInt8) : List UInt8 → List (List UInt8)
  | [] => [[]]
  | b :: l => if b = c then [] :: cutsAt c l else match cutsAt c l with
    | [] => [[b]]
    | q :: qs => (b :: q) :: qs
def toB (l : List UInt8) : ByteArray:=⟨l.toArray⟩
def glueB (p : List UInt8) : List (List UInt8) → List ByteArray
  | [] => [toB p]
  | q :: qs => toB (p ++ q) :: qs.map toB
theorem cutsAt_ne (c : UInt8) (l : List UInt8) : ∃ q qs,cutsAt c l = q :: qs:=by
  cases l with
  | nil => exact ⟨_,_,rfl⟩
  | cons b l =>
    rw [cutsAt]
    split
    · exact ⟨_,_,rfl⟩
    · split <;> exact ⟨_,_,rfl⟩
theorem bt_at_list (l : List UInt8) (i : Nat) (h : i < l.length) : bt ⟨l.toArray⟩ (i : Int) = ((l[i]'h).toNat : Int):=by
  have hh : ((i : Int)).toNat < (⟨l.toArray⟩ : ByteArray).size:=h
  rw [bt,dif_pos hh]
  rfl
theorem u8_eq (a b : UInt8) : ((a.toNat : Int) = (b.toNat : Int)) ↔ a = b:=by
  constructor
  · intro h
    exact UInt8.toNat.inj (by omega)
  · rintro rfl
    rfl
theorem l1Cut_loop (s : List UInt8) (c : UInt8) (hs : s.length ≤ 100000) : ∀ (d i : Nat) (a : List ByteArray) (p : List UInt8),i + d = s.length → a.length ≤ i → p.length ≤ i →
    Evt (fun k => spec_l1Cut.l0 k ⟨s.toArray⟩ (c.toNat : Int) (a ++ [toB p]) (i : Int)) (fun r => r = a ++ glueB p (cutsAt c (s.drop i))):=by
  have hsz : (⟨s.toArray⟩ : ByteArray).size = s.length:=rfl
  intro d
  induction d with
  | zero =>
    intro i a p hd _ _
    rw [List.drop_eq_nil_of_le (by omega)]
    exact Evt.step (f:=fun _ => some (a ++ [toB p])) (fun k => by simp only [spec_l1Cut.l0];rw [if_neg (by rw [hsz];omega)]) (Evt.now _ (by simp [cutsAt,glueB]))
  | succ d ih =>
    intro i a p hd ha hp
    have hi : i < s.length:=by omega
    have hla : (a ++ [toB p]).length = a.length + 1:=by simp
    obtain ⟨q,qs,hq⟩:=cutsAt_ne c (s.drop (i + 1))
    rw [List.drop_eq_getElem_cons hi,cutsAt]
    by_cases hb : s[i] = c
    · rw [if_pos hb]
      have h:=ih (i + 1) (a ++ [toB p]) [] (by omega) (by omega) (by simp)
      rw [hq] at h ⊢
      refine Evt.step (fun k => by
        simp only [spec_l1Cut.l0]
        rw [if_pos (by rw [hsz];omega),if_pos (by omega),bt_at_list s i hi,if_pos ((u8_eq _ _).2 hb),if_pos (by rw [hla];omega),wrap_succ (by omega)];rfl) (h.mono fun r hr => ?_)
      rw [hr]
      simp [glueB]
    · rw [if_neg hb]
      have h:=ih (i + 1) a (p ++ [s[i]]) (by omega) (by omega) (by simp;omega)
      rw [hq] at h ⊢
      have ew : wrap64 (((a ++ [toB p]).length : Int) - 1) = (a.length : Int):=by rw [hla,wrap64_small (by omega) (by omega)];omega
      have er : rdOf ByteArray.empty (a ++ [toB p]) (a.length : Int) = toB p:=by simp [rdOf]
      have es : (a ++ [toB p]).set a.length (toB (p ++ [s[i]])) = a ++ [toB (p ++ [s[i]])]:=by simp
      have ey : strOfNums [((s[i]).toNat : Int)] = ⟨#[s[i]]⟩:=by
        unfold strOfNums
        simp
      have ez : toB p ++ (⟨#[s[i]]⟩ : ByteArray) = toB (p ++ [s[i]]):=by
        refine ByteArray.ext (Array.toList_inj.1 ?_)
        rw [ByteArray.data_append,Array.toList_append]
        rfl
      have e1 : (⟨#[s[i]]⟩ : ByteArray).size = 1:=rfl
      have e2 : (toB p).size = p.length:=rfl
      refine Evt.step (fun k => by
        simp only [spec_l1Cut.l0]
        rw [if_pos (by rw [hsz];omega),if_pos (by omega),bt_at_list s i hi,if_neg (fun h => hb ((u8_eq _ _).1 h)),ew,if_pos (by omega),if_pos (by rw [hla];omega),er]
        simp only [Option.bind_some,Int.toNat_natCast]
        rw [ey,if_pos (by rw [e1,e2];omega),ez,es,wrap_succ (by omega)]) (h.mono fun r hr => ?_)
      rw [hr]
      simp [glueB]
/-- What l1Cut answers. -/
theorem l1Cut_ends (s : List UInt8) (c : UInt8) (hs : s.length ≤ 100000) : Evt (fun k => spec_l1Cut.f k ⟨s.toArray⟩ (c.toNat : Int)) (fun r => r = (cutsAt c s).map toB):=by
  refine (l1Cut_loop s c hs s.length 0 [] [] (by omega) (by simp) (by simp)).mono fun r hr => ?_
  obtain ⟨q,qs,hq⟩:=cutsAt_ne c s
  rw [hr,List.drop_zero,hq]
  simp [glueB]
theorem cutsAt_app {c : UInt8} {a : List UInt8} (h : c ∉ a) (q : List UInt8) : cutsAt c (a ++ c :: q) = a :: cutsAt c q:=by
  induction a with
  | nil => simp [cutsAt]
  | cons x a ih =>
    have hx : x ≠ c:=fun e => h (e ▸ List.mem_cons_self)
    rw [List.cons_append,cutsAt,if_neg hx,ih (fun hm => h (List.mem_cons_of_mem _ hm))]
theorem cutsAt_none {c : UInt8} {a : List UInt8} (h : c ∉ a) : cutsAt c a = [a]:=by
  induction a with
  | nil => rfl
  | cons x a ih =>
    have hx : x ≠ c:=fun e => h (e ▸ List.mem_cons_self)
    rw [cutsAt,if_neg hx,ih (fun hm => h (List.mem_cons_of_mem _ hm))]
/-- A chain's text: its lines, and nothing behind the last one's end. -/
theorem cutsAt_txt : ∀ (l : List It),(∀ x ∈ l,itemOk x = true) → cutsAt 10 (impl_ChainText.txt l) = l.map lineOf ++ [[]]
  | [],_ => rfl
  | x :: l,h => by
    have hx:=h x List.mem_cons_self
    rw [txt_cons,item_line hx,List.append_assoc,List.singleton_append,cutsAt_app (line_ten hx),cutsAt_txt l (fun y hy => h y (List.mem_cons_of_mem _ hy))]
    rfl
theorem l1Dec_ends (s : List UInt8) : ∃ n,Evt (fun k => spec_l1Dec.f k (toB s)) (fun r => r = n):=by
  have hsz : (toB s).size = s.length:=rfl
  by_cases h : (1 : Int) ≤ ((toB s).size : Int) ∧ ((toB s).size : Int) ≤ 2
  case neg =>
    refine ⟨-1,Evt.congr (f:=fun _ => some (-1)) (fun k => ?_) (Evt.now _ rfl)⟩
    unfold spec_l1Dec.f
    rw [l6In_eq,decide_eq_false h]
    simp
  case pos =>
    have key : ∀ (d i : Nat) (n : Int),i + d = s.length → ∃ m,Evt (fun k => spec_l1Dec.l0 k (toB s) n (i : Int)) (fun r => r = m):=by
      intro d
      induction d with
      | zero =>
        intro i n hd
        exact ⟨n,Evt.step (f:=fun _ => some n) (fun k => by simp only [spec_l1Dec.l0];rw [if_neg (by rw [hsz];omega)]) (Evt.now _ rfl)⟩
      | succ d ih =>
        intro i n hd
        by_cases h1 : bt (toB s) (i : Int) < 48
        · exact ⟨-1,Evt.step (f:=fun _ => some (-1)) (fun k => by simp only [spec_l1Dec.l0];rw [if_pos (by rw [hsz];omega),if_pos (by omega),if_pos h1]) (Evt.now _ rfl)⟩
        by_cases h2 : bt (toB s) (i : Int) > 57
        · exact ⟨-1,Evt.step (f:=fun _ => some (-1)) (fun k => by simp only [spec_l1Dec.l0];rw [if_pos (by rw [hsz];omega),if_pos (by omega),if_neg h1,if_pos h2]) (Evt.now _ rfl)⟩
        obtain ⟨m,hm⟩:=ih (i + 1) (wrap64 ((wrap64 (10 * n)) + (((bt (toB s) (i : Int)) - 48) % 256))) (by omega)
        exact ⟨m,Evt.step (fun k => by simp only [spec_l1Dec.l0];rw [if_pos (by rw [hsz];omega),if_pos (by omega),if_neg h1,if_neg h2,wrap_succ (by omega)]) hm⟩
    obtain ⟨m,hm⟩:=key s.length 0 0 (by omega)
    refine ⟨m,Evt.congr (fun k => ?_) hm⟩
    unfold spec_l1Dec.f
    rw [l6In_eq,decide_eq_true h]
    simp
theorem l1Pay_ends (s : List UInt8) : ∃ q,Evt (fun k => spec_l1Pay.f k (toB s)) (fun r => r = q):=by
  have hsz : (toB s).size = s.length:=rfl
  unfold spec_l1Pay.f
  by_cases h : ((toB s).size : Int) = 3
  case neg => exact ⟨(0,0,0),Evt.neg h (Evt.now _ rfl)⟩
  have cutB : ∀ a b : Nat,(toB s).extract a b = toB (((toB s).extract a b).data.toList):=fun _ _ => rfl
  obtain ⟨n1,h1⟩:=l1Dec_ends ((toB s).extract 0 1).data.toList
  obtain ⟨n2,h2⟩:=l1Dec_ends ((toB s).extract 1 2).data.toList
  obtain ⟨n3,h3⟩:=l1Dec_ends ((toB s).extract 2 (toB s).size).data.toList
  refine ⟨(n1,n2,n3),Evt.pos h (Evt.pos (by omega) (Evt.pos (by omega) ?_))⟩
  refine Evt.bind (P:=fun r => r = n1) h1 fun a ha => ?_
  refine Evt.pos (by omega) (Evt.pos (by omega) ?_)
  refine Evt.bind (P:=fun r => r = n2) h2 fun b hb => ?_
  refine Evt.bind (P:=fun r => r = n3) h3 fun c hc => ?_
  exact Evt.now _ (by rw [ha,hb,hc])
theorem bt_dig (s : List UInt8) (i u : Nat) (h : s[i]? = some (UInt8.ofNat (48 + u))) (hu : u < 10) : bt (toB s) (i : Int) = 48 + (u : Int):=by
  obtain ⟨hi,e⟩:=List.getElem?_eq_some_iff.1 h
  have:=bt_at_list s i hi
  rw [e,dig_nat hu] at this
  show bt ⟨s.toArray⟩ (i : Int) = _
  rw [this]
  omega
theorem l1Dec_step (s : List UInt8) (i u : Nat) (n : Int) (h : s[i]? = some (UInt8.ofNat (48 + u))) (hu : u < 10) (h0 : 0 ≤ n) (h1 : n ≤ 1000) (hi : i ≤ 1000) (k : Nat) :
    spec_l1Dec.l0 (k + 1) (toB s) n (i : Int) = spec_l1Dec.l0 k (toB s) (10 * n + (u : Int)) ((i + 1 : Nat) : Int):=by
  have hsz : (toB s).size = s.length:=rfl
  obtain ⟨hl,_⟩:=List.getElem?_eq_some_iff.1 h
  simp only [spec_l1Dec.l0]
  rw [if_pos (by rw [hsz];omega),if_pos (by omega),bt_dig s i u h hu,if_neg (by omega),if_neg (by omega),wrap_succ (by omega),wrap64_small (n:=10 * n) (by omega) (by omega),wrap64_small (by omega) (by omega)]
  congr 1
  omega
theorem l1Dec_dec {n : Int} (h0 : 0 ≤ n) (h1 : n < 100) : Evt (fun k => spec_l1Dec.f k (toB (Lib.decDigits n.toNat))) (fun r => r = n):=by
  have stop : ∀ (s : List UInt8) (m : Int) (i : Nat),i = s.length → Evt (fun k => spec_l1Dec.l0 k (toB s) m (i : Int)) (fun r => r = m):=by
    intro s m i hi
    have hsz : (toB s).size = s.length:=rfl
    exact Evt.step (f:=fun _ => some m) (fun k => by simp only [spec_l1Dec.l0];rw [if_neg (by rw [hsz];omega)]) (Evt.now _ rfl)
  have start : ∀ s : List UInt8,1 ≤ s.length → s.length ≤ 2 → Evt (fun k => spec_l1Dec.l0 k (toB s) 0 ((0 : Nat) : Int)) (fun r => r = n) → Evt (fun k => spec_l1Dec.f k (toB s)) (fun r => r = n):=by
    intro s a b h
    have hsz : (toB s).size = s.length:=rfl
    refine Evt.congr (fun k => ?_) h
    unfold spec_l1Dec.f
    rw [l6In_eq,decide_eq_true (show (1 : Int) ≤ ((toB s).size : Int) ∧ ((toB s).size : Int) ≤ 2 by rw [hsz];omega)]
    simp
  by_cases h : n.toNat < 10
  · rw [decLow h]
    refine start _ (by simp) (by simp) (Evt.step (fun k => l1Dec_step _ 0 n.toNat 0 rfl h (by omega) (by omega) (by omega) k) ((stop _ _ 1 rfl).mono fun r hr => ?_))
    rw [hr];omega
  · rw [decTwo (by omega) (by omega)]
    refine start _ (by simp) (by simp) (Evt.step (fun k => l1Dec_step _ 0 (n.toNat / 10) 0 rfl (by omega) (by omega) (by omega) (by omega) k) ?_)
    refine Evt.step (fun k => l1Dec_step _ 1 (n.toNat % 10) _ rfl (by omega) (by omega) (by omega) (by omega) k) ((stop _ _ 2 rfl).mono fun r hr => ?_)
    rw [hr];omega
theorem l1Pay_three {a b c : Int} (ha : 0 ≤ a ∧ a < 10) (hb : 0 ≤ b ∧ b < 10) (hc : 0 ≤ c ∧ c < 10) : Evt (fun k => spec_l1Pay.f k (toB [UInt8.ofNat (48 + a.toNat),UInt8.ofNat (48 + b.toNat),UInt8.ofNat (48 + c.toNat)])) (fun r => r = (a,b,c)):=by
  have hsz : (toB [UInt8.ofNat (48 + a.toNat),UInt8.ofNat (48 + b.toNat),UInt8.ofNat (48 + c.toNat)]).size = 3:=rfl
  have one : ∀ x : Int,0 ≤ x ∧ x < 10 → Evt (fun k => spec_l1Dec.f k (toB [UInt8.ofNat (48 + x.toNat)])) (fun r => r = x):=fun x hx => by
    have:=l1Dec_dec (n:=x) hx.1 (by omega)
    rw [decLow (by omega)] at this
    exact this
  unfold spec_l1Pay.f
  rw [hsz]
  refine Evt.pos (by decide) (Evt.pos (by decide) (Evt.pos (by decide) ?_))
  refine Evt.bind (P:=fun r => r = a) (one a ha) fun x hx => ?_
  refine Evt.pos (by decide) (Evt.pos (by decide) ?_)
  refine Evt.bind (P:=fun r => r = b) (one b hb) fun y hy => ?_
  refine Evt.bind (P:=fun r => r = c) (one c hc) fun z hz => ?_
  exact Evt.now _ (by rw [hx,hy,hz])
/-- What a reading answers: a chain whose text it is, or none. -/
def Reads (t : List UInt8) (r : List It × Bool) : Prop:=r = ([],false) ∨ ∃ c,chainOk c = true ∧ chainText c = t ∧ r = (c,true)
theorem toB_list (t : List UInt8) : (toB t).toList = t:=by simp [ByteArray.toList_eq,toB]
theorem impl_reads (t : List UInt8) (ht : t.length ≤ 900) : Evt (fun k => impl_ChainRead.f k (toB t)) (Reads t):=by
  unfold impl_ChainRead.f
  refine Evt.ite (fun _ => Evt.now _ (.inl rfl)) fun _ => ?_
  obtain ⟨c',h⟩:=read_total (toB t) 900 [] t ht (by simp)
  refine Evt.mono (g:=fun k => impl_ChainRead.l0 k (toB t) [] (toB t)) h fun r hr => ?_
  rw [hr]
  split
  · rename_i hc
    split
    · rename_i he
      rw [toB_list] at he
      exact .inr ⟨c',hc,he,rfl⟩
    · exact .inl rfl
  · exact .inl rfl
theorem spec_stop (t : List UInt8) (c : List It) (x5 : List ByteArray) (i : Nat) (hi : i ≤ 100000) (h : x5.length ≤ i + 1) (hc : c.length ≤ 1000) : Evt (fun k => spec_ChainRead.l0 k (toB t) c x5 (i : Int)) (fun r => r = if chainOk c = true then (if chainText c = t then (c,true) else ([],false)) else ([],false)):=by
  refine Evt.step (fun k => by simp only [spec_ChainRead.l0];rw [wrap_succ (by omega),if_neg (by omega)]) ?_
  refine Evt.bind (chainOk_spec c (by omega)) fun s hs => ?_
  rw [hs]
  refine Evt.ite (fun h => ?_) fun h => Evt.now _ (by rw [if_neg h])
  refine Evt.bind (chainText_spec c (by omega)) fun s hs => ?_
  subst hs
  have e : (⟨(chainText c).toArray⟩ : ByteArray).toList = chainText c:=toB_list _
  rw [e,toB_list]
  exact Evt.ite (fun h3 => Evt.now _ (by rw [if_pos h,if_pos h3])) fun h3 => Evt.now _ (by rw [if_pos h,if_neg h3])
theorem rdOf_map (ps : List (List UInt8)) (i : Nat) (h : i < ps.length) : rdOf ByteArray.empty (ps.map toB) (i : Int) = toB (ps[i]'h):=by simp [rdOf,h]
theorem spec_loop (t : List UInt8) (ps : List (List UInt8)) (hps : ps.length ≤ 900) (hp : ∀ p ∈ ps,p.length ≤ 100000) : ∀ (d i : Nat) (c : List It),i + 1 + d = ps.length → c.length ≤ i → Evt (fun k => spec_ChainRead.l0 k (toB t) c (ps.map toB) (i : Int)) (Reads t):=by
  intro d
  induction d with
  | zero =>
    intro i c hd hc
    refine (spec_stop t c (ps.map toB) i (by omega) (by rw [List.length_map];omega) (by omega)).mono fun r hr => ?_
    rw [hr]
    split
    · rename_i h1
      split
      · rename_i h2;exact .inr ⟨c,h1,h2,rfl⟩
      · exact .inl rfl
    · exact .inl rfl
  | succ d ih =>
    intro i c hd hc
    have hi : i < ps.length:=by omega
    have hlen : (ps.map toB).length = ps.length:=List.length_map ..
    refine Evt.step (fun k => by simp only [spec_ChainRead.l0];rw [wrap_succ (by omega),if_pos (by rw [hlen];omega),if_pos (by omega),if_pos (by rw [hlen];omega),rdOf_map ps i hi]) ?_
    refine Evt.bind (l1Cut_ends (ps[i]) 58 (hp _ (List.getElem_mem hi))) fun z hz => ?_
    subst hz
    by_cases h2 : (((cutsAt 58 (ps[i])).map toB).length : Int) = 2
    case neg => exact Evt.neg h2 (Evt.now _ (.inl rfl))
    have hl2 : (cutsAt 58 (ps[i])).length = 2:=by rw [List.length_map] at h2;omega
    obtain ⟨n,hn⟩:=l1Dec_ends ((cutsAt 58 (ps[i]))[0]'(by omega))
    obtain ⟨q,hq⟩:=l1Pay_ends ((cutsAt 58 (ps[i]))[1]'(by omega))
    have r0:=rdOf_map (cutsAt 58 (ps[i])) 0 (by omega)
    have r1:=rdOf_map (cutsAt 58 (ps[i])) 1 (by omega)
    refine Evt.pos h2 (Evt.pos (by omega) ?_)
    have r0' : rdOf ByteArray.empty ((cutsAt 58 (ps[i])).map toB) 0 = _:=r0
    have r1' : rdOf ByteArray.empty ((cutsAt 58 (ps[i])).map toB) 1 = _:=r1
    rw [r0',r1']
    refine Evt.bind hn fun a ha => ?_
    refine Evt.pos (by omega) (Evt.bind hq fun b hb => Evt.pos (by omega) ?_)
    exact ih (i + 1) _ (by omega) (by simp only [List.length_append,List.length_cons,List.length_nil];omega)
theorem cutsAt_len (c : UInt8) : ∀ l : List UInt8,(cutsAt c l).length ≤ l.length + 1 ∧ ∀ p ∈ cutsAt c l,p.length ≤ l.length
  | [] => ⟨by simp [cutsAt],by simp [cutsAt]⟩
  | b :: l => by
    obtain ⟨h1,h2⟩:=cutsAt_len c l
    obtain ⟨q,qs,hq⟩:=cutsAt_ne c l
    rw [cutsAt,hq]
    rw [hq] at h1 h2
    split
    · refine ⟨by simp at h1 ⊢;omega,fun p hp => ?_⟩
      rcases List.mem_cons.1 hp with rfl|hp
      · simp
      · have:=h2 p hp;simp;omega
    · refine ⟨by simp at h1 ⊢;omega,fun p hp => ?_⟩
      rcases List.mem_cons.1 hp with rfl|hp
      · have:=h2 q List.mem_cons_self;simp;omega
      · have:=h2 p (List.mem_cons_of_mem _ hp);simp;omega
theorem spec_reads (t : List UInt8) (ht : t.length ≤ 800) : Evt (fun k => spec_ChainRead.f k (toB t)) (Reads t):=by
  unfold spec_ChainRead.f
  simp only [Option.bind_some]
  refine Evt.ite (fun _ => Evt.now _ (.inl rfl)) fun _ => ?_
  refine Evt.bind (P:=fun r => r = (cutsAt 10 t).map toB) (l1Cut_ends t 10 (by omega)) fun z hz => ?_
  subst hz
  obtain ⟨h1,h2⟩:=cutsAt_len 10 t
  obtain ⟨q,qs,hq⟩:=cutsAt_ne 10 t
  exact spec_loop t (cutsAt 10 t) (by omega) (fun p hp => by have:=h2 p hp;omega) ((cutsAt 10 t).length - 1) 0 [] (by rw [hq];simp;omega) (by simp)
theorem impl_text (c : List It) (hc : chainOk c = true) (hl : (chainText c).length ≤ 130) : Evt (fun k => impl_ChainRead.f k (toB (chainText c))) (fun r => r = (c,true)):=by
  have ht : chainText c = impl_ChainText.txt c:=by rw [chainText,if_pos hc]
  have hsz : (toB (chainText c)).size = (chainText c).length:=rfl
  unfold impl_ChainRead.f
  refine Evt.neg (by rw [hsz];omega) ?_
  have h:=read_loop c hc c.length 0 (by omega)
  rw [List.drop_zero,List.take_zero,← ht] at h
  exact h
theorem spec_text_loop (c : List It) (hc : chainOk c = true) : ∀ (d i : Nat),i + d = c.length → Evt (fun k => spec_ChainRead.l0 k (toB (chainText c)) (c.take i) ((c.map lineOf ++ [[]]).map toB) (i : Int)) (fun r => r = (c,true)):=by
  have hs:=chainOk_small hc
  have hlen : ((c.map lineOf ++ [[]]).map toB).length = c.length + 1:=by simp
  intro d
  induction d with
  | zero =>
    intro i hd
    rw [List.take_of_length_le (by omega)]
    refine (spec_stop (chainText c) c ((c.map lineOf ++ [[]]).map toB) i (by omega) (by rw [hlen];omega) (by omega)).mono fun r hr => ?_
    rw [hr,if_pos hc,if_pos rfl]
  | succ d ih =>
    intro i hd
    have hi : i < c.length:=by omega
    have hm : rd_T48 c (i : Int) ∈ c:=List.mem_of_getElem? (rdIt_get hi)
    have hx:=chainOk_items hc _ hm
    obtain ⟨h0,h1,h2,h3⟩:=itemOk_bounds hx
    have hsn : c.take i ++ [rd_T48 c (i : Int)] = c.take (i + 1):=by
      rw [List.take_add_one,rdIt_get hi];rfl
    have eci : c[i] = rd_T48 c (i : Int):=by
      have h:=rdIt_get hi
      rw [List.getElem?_eq_getElem hi] at h
      exact Option.some.inj h
    have er : rdOf ByteArray.empty ((c.map lineOf ++ [[]]).map toB) (i : Int) = toB (lineOf (rd_T48 c (i : Int))):=by
      rw [rdOf_map _ i (by simp;omega),List.getElem_append_left (by simpa using hi),List.getElem_map,eci]
    have htk : (c.take i).length < 4398046511104:=by rw [List.length_take];omega
    refine Evt.step (fun k => by simp only [spec_ChainRead.l0];rw [wrap_succ (by omega),if_pos (by rw [hlen];omega),if_pos (by omega),if_pos (by rw [hlen];omega),er]) ?_
    generalize hg : rd_T48 c (i : Int) = x at hx h0 h1 h2 h3 hsn
    have n1 : (58 : UInt8) ∉ Lib.decDigits x.f0.toNat:=fun hm => by
      obtain ⟨u,hu,e⟩:=dec_mem (n:=x.f0.toNat) (by omega) _ hm
      exact ten_ne u hu e.symm
    have n2 : (58 : UInt8) ∉ [UInt8.ofNat (48 + x.f1.f0.toNat),UInt8.ofNat (48 + x.f1.f1.toNat),UInt8.ofNat (48 + x.f1.f2.toNat)]:=fun hm => by
      simp only [List.mem_cons,List.not_mem_nil,or_false] at hm
      rcases hm with e|e|e
      · exact ten_ne _ (by omega) e.symm
      · exact ten_ne _ (by omega) e.symm
      · exact ten_ne _ (by omega) e.symm
    have ecut : cutsAt 58 (lineOf x) = [Lib.decDigits x.f0.toNat,[UInt8.ofNat (48 + x.f1.f0.toNat),UInt8.ofNat (48 + x.f1.f1.toNat),UInt8.ofNat (48 + x.f1.f2.toNat)]]:=by
      rw [lineOf,cutsAt_app n1,cutsAt_none n2]
    have hll : (lineOf x).length ≤ 100000:=by
      have:=dec_size (n:=x.f0) (by omega) (by omega)
      have e : (impl_ChainText.dec x.f0).size = (Lib.decDigits x.f0.toNat).length:=rfl
      rw [lineOf,List.length_append]
      simp only [List.length_cons,List.length_nil]
      omega
    refine Evt.bind (P:=fun r => r = (cutsAt 58 (lineOf x)).map toB) (l1Cut_ends (lineOf x) 58 hll) fun z hz => ?_
    rw [ecut] at hz
    subst hz
    have e0 : ∀ a b : ByteArray,rdOf ByteArray.empty [a,b] 0 = a:=fun _ _ => rfl
    have e1 : ∀ a b : ByteArray,rdOf ByteArray.empty [a,b] 1 = b:=fun _ _ => rfl
    simp only [List.map_cons,List.map_nil,e0,e1]
    refine Evt.pos (by simp) (Evt.pos (by simp) ?_)
    refine Evt.bind (l1Dec_dec (n:=x.f0) (by omega) (by omega)) fun a ha => ?_
    refine Evt.pos (by simp) (Evt.bind (l1Pay_three (a:=x.f1.f0) (b:=x.f1.f1) (c:=x.f1.f2) (by omega) (by omega) (by omega)) fun b hb => Evt.pos (by omega) ?_)
    subst ha hb
    have hsn' : c.take i ++ [(⟨x.f0,⟨x.f1.f0,x.f1.f1,x.f1.f2⟩⟩ : It)] = c.take (i + 1):=hsn
    rw [hsn']
    exact ih (i + 1) (by omega)
theorem spec_text (c : List It) (hc : chainOk c = true) (hl : (chainText c).length ≤ 130) : Evt (fun k => spec_ChainRead.f k (toB (chainText c))) (fun r => r = (c,true)):=by
  have ht : chainText c = impl_ChainText.txt c:=by rw [chainText,if_pos hc]
  have hsz : (toB (chainText c)).size = (chainText c).length:=rfl
  unfold spec_ChainRead.f
  simp only [Option.bind_some]
  refine Evt.neg (by rw [hsz];omega) ?_
  refine Evt.bind (P:=fun r => r = (cutsAt 10 (chainText c)).map toB) (l1Cut_ends (chainText c) 10 (by omega)) fun z hz => ?_
  rw [show cutsAt 10 (chainText c) = c.map lineOf ++ [[]] by rw [ht];exact cutsAt_txt c (chainOk_items hc)] at hz
  subst hz
  have h:=spec_text_loop c hc c.length 0 (by omega)
  rw [List.take_zero] at h
  exact h
theorem eqItem_eq (x y : It) : laws_eqItem.f x.f0 x.f1.f0 x.f1.f1 x.f1.f2 y.f0 y.f1.f0 y.f1.f1 y.f1.f2 = some (decide (x = y)):=by
  obtain ⟨a,b,c,d⟩:=x
  obtain ⟨a',b',c',d'⟩:=y
  unfold laws_eqItem.f laws_eqPay.f
  simp only
  by_cases h1 : a = a' <;> by_cases h2 : b = b' <;> by_cases h3 : c = c' <;> by_cases h4 : d = d' <;> simp [h1,h2,h3,h4]
theorem eqItemS_ends (a b : List It) (hl : a.length ≤ 4611686018427387900) : Evt (fun k => laws_eqItemS.f k a b) (fun r => r = decide (a = b)):=by
  by_cases h : (a.length : Int) = (b.length : Int)
  · have hn : a.length = b.length:=by omega
    have hc:=cmp_loop a b a.length (fun k i => laws_eqItemS.l0 k a b (i : Int)) (fun k => by simp only [laws_eqItemS.l0];rw [if_neg (by omega)])
      (fun i hi he k => by
        rw [rdIt_get (l:=a) hi,rdIt_get (l:=b) (by omega)] at he
        have he':=Option.some.inj he
        simp only [laws_eqItemS.l0]
        rw [if_pos (by omega),if_pos (by omega),if_pos (by omega),eqItem_eq,Option.bind_some,if_pos (by simp [he']),wrap_succ (by omega)])
      (fun i hi he k => by
        rw [rdIt_get (l:=a) hi,rdIt_get (l:=b) (by omega)] at he
        have he' : ¬ rd_T48 a (i : Int) = rd_T48 b (i : Int):=fun e => he (by rw [e])
        simp only [laws_eqItemS.l0]
        rw [if_pos (by omega),if_pos (by omega),if_pos (by omega),eqItem_eq,Option.bind_some,if_neg (by simpa using he')])
    refine (Evt.congr (fun k => by unfold laws_eqItemS.f;rw [if_pos h];rfl) hc).mono fun r hr => decide_of ?_
    rw [hr,List.take_of_length_le (Nat.le_refl _),List.take_of_length_le (by omega)]
  · refine Evt.congr (fun k => by unfold laws_eqItemS.f;rw [if_neg h]) (Evt.now _ ?_)
    have : a ≠ b:=by
      rintro rfl
      exact h rfl
    simp [this]
def mk4 (a : Int) : It:=⟨a,⟨a + 1,a + 2,a + 3⟩⟩
/-- Items of numbers from a on. -/
def upsI (a : Int) : Nat → List It
  | 0 => []
  | n + 1 => mk4 a :: upsI (a + 4) n
theorem upsI_length (n : Nat) : ∀ a,(upsI a n).length = n:=by
  induction n with
  | zero => intro a;rfl
  | succ n ih => intro a;rw [upsI,List.length_cons,ih]
theorem upsI_get (n : Nat) : ∀ (a : Int) (i : Nat),i < n → (upsI a n)[i]? = some (mk4 (a + 4 * (i : Int))):=by
  induction n with
  | zero => intro a i h;omega
  | succ n ih =>
    intro a i h
    cases i with
    | zero => rw [upsI];simp
    | succ i =>
      rw [upsI,List.getElem?_cons_succ,ih (a + 4) i (by omega)]
      congr 2
      omega
theorem upsI_rd {a : Int} {n i : Nat} (h : i < n) : rd_T48 (upsI a n) (i : Int) = mk4 (a + 4 * (i : Int)):=by
  have h1:=upsI_get n a i h
  have h2:=rdIt_get (l:=upsI a n) (i:=i) (by rw [upsI_length];exact h)
  rw [h1] at h2
  exact (Option.some.inj h2).symm
theorem rdIt_set {l : List It} {i : Nat} (x : It) (h : i < l.length) : rd_T48 (l.set i x) (i : Int) = x:=by
  have h2:=rdIt_get (l:=l.set i x) (i:=i) (by rw [List.length_set];exact h)
  rw [List.getElem?_set_self h] at h2
  exact (Option.some.inj h2).symm
theorem markItemS_ends (l : List It) (a : Int) (h0 : 0 ≤ a) (h1 : a ≤ 1000000000) (hl : l.length ≤ 1048576) : Evt (fun k => laws_markItemS.f k l a) (fun r => r = (a + 4 * (l.length : Int),upsI a l.length)):=by
  have key : ∀ (d i : Nat) (x : List It),i + d = l.length → x.length = l.length → x.take i = (upsI a l.length).take i → Evt (fun k => laws_markItemS.l0 k x (a + 4 * (i : Int)) (i : Int)) (fun r => r = (a + 4 * (l.length : Int),upsI a l.length)):=by
    intro d
    induction d with
    | zero =>
      intro i x hd hx ht
      have e : i = l.length:=by omega
      subst e
      refine Evt.step (f:=fun _ => some (a + 4 * (l.length : Int),x)) (fun k => by simp only [laws_markItemS.l0];rw [if_neg (by omega)]) (Evt.now _ ?_)
      rw [List.take_of_length_le (by omega),List.take_of_length_le (by rw [upsI_length];omega)] at ht
      rw [ht]
    | succ d ih =>
      intro i x hd hx ht
      have hi : i < x.length:=by omega
      have w1 : wrap64 (a + 4 * (i : Int) + 1) = a + 4 * (i : Int) + 1:=wrap64_small (by omega) (by omega)
      have w2 : wrap64 (a + 4 * (i : Int) + 1 + 1) = a + 4 * (i : Int) + 2:=by rw [wrap64_small (by omega) (by omega)];omega
      have w3 : wrap64 (a + 4 * (i : Int) + 2 + 1) = a + 4 * (i : Int) + 3:=by rw [wrap64_small (by omega) (by omega)];omega
      have w4 : wrap64 (a + 4 * (i : Int) + 3 + 1) = a + 4 * ((i + 1 : Nat) : Int):=by rw [wrap64_small (by omega) (by omega)];omega
      refine Evt.step (fun k => by simp only [laws_markItemS.l0,w1,w2,w3,w4,Int.toNat_natCast];rw [if_pos (by omega),if_pos (by omega),wrap_succ (by omega)]) ?_
      refine Evt.bind (P:=fun r => r = x.set i _) (Evt.now _ rfl) fun y1 hy1 => ?_
      refine Evt.bind (P:=fun r => r = y1.set i _) (Evt.now _ rfl) fun y2 hy2 => ?_
      refine Evt.bind (P:=fun r => r = y2.set i _) (Evt.now _ rfl) fun y3 hy3 => ?_
      have e1:=rdIt_set (l:=x) _ hi ▸ congrArg (fun z => rd_T48 z (i : Int)) hy1
      try simp only at e1
      rw [e1,hy1,List.set_set] at hy2
      have e2:=rdIt_set (l:=x) _ hi ▸ congrArg (fun z => rd_T48 z (i : Int)) hy2
      try simp only at e2
      rw [e2,hy2,List.set_set] at hy3
      have e3:=rdIt_set (l:=x) _ hi ▸ congrArg (fun z => rd_T48 z (i : Int)) hy3
      try simp only at e3
      rw [e3,hy3,List.set_set]
      exact ih (i + 1) _ (by omega) (by rw [List.length_set];exact hx) (take_set_succ (by rw [upsI_length,hx]) (by rw [upsI_length];omega) ht (upsI_get _ _ _ (by omega)))
  simp only [laws_markItemS.f]
  have:=key l.length 0 l (by omega) rfl (by simp)
  simpa using this
theorem heldItemS_ends (n : Nat) (a : Int) (h0 : 0 ≤ a) (h1 : a ≤ 1000000000) (hl : n ≤ 1048576) : Evt (fun k => laws_heldItemS.f k (upsI a n) a) (fun r => r = a + 4 * (n : Int)):=by
  have hn:=upsI_length n a
  have key : ∀ (d i : Nat),i + d = n → Evt (fun k => laws_heldItemS.l0 k (upsI a n) (a + 4 * (i : Int)) (i : Int)) (fun r => r = a + 4 * (n : Int)):=by
    intro d
    induction d with
    | zero =>
      intro i hd
      have e : i = n:=by omega
      subst e
      exact Evt.step (f:=fun _ => some (a + 4 * (i : Int))) (fun k => by simp only [laws_heldItemS.l0];rw [if_neg (by omega)]) (Evt.now _ rfl)
    | succ d ih =>
      intro i hd
      have w1 : wrap64 (a + 4 * (i : Int) + 1) = a + 4 * (i : Int) + 1:=wrap64_small (by omega) (by omega)
      have w2 : wrap64 (a + 4 * (i : Int) + 1 + 1) = a + 4 * (i : Int) + 2:=by rw [wrap64_small (by omega) (by omega)];omega
      have w3 : wrap64 (a + 4 * (i : Int) + 2 + 1) = a + 4 * (i : Int) + 3:=by rw [wrap64_small (by omega) (by omega)];omega
      have w4 : wrap64 (a + 4 * (i : Int) + 3 + 1) = a + 4 * ((i + 1 : Nat) : Int):=by rw [wrap64_small (by omega) (by omega)];omega
      have er:=upsI_rd (a:=a) (n:=n) (i:=i) (by omega)
      have w5 : wrap64 ((i : Int) + 1) = ((i + 1 : Nat) : Int):=wrap_succ (by omega)
      refine Evt.step (fun k => by simp only [laws_heldItemS.l0,w1,w2,w3,w4,w5,er,mk4,if_true];rw [if_pos (by omega),if_pos (by omega)]) ?_
      exact ih (i + 1) (by omega)
  simp only [laws_heldItemS.f]
  have:=key n 0 (by omega)
  simpa using this

end Go.Proofs.YthjpkfcejdddkaaDoor.Pure
