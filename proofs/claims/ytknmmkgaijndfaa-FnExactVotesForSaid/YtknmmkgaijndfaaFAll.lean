/- Plain facts on what the printed functions compute (within payok chain vote0 votes eqitems items votes1 votes2 equal has vote votesok votesmath votesmath2 voters prefix l1in l3has votesfor votesforspec eqints marks marksitem). Conditions: each theorem's own. -/
import Derived.Test.YtknmmkgaijndfaaPx0
import Derived.Test.YtknmmkgaijndfaaPx2
import Derived.Test.YtknmmkgaijndfaaPx3
import Derived.Test.YtknmmkgaijndfaaPx4
import Derived.Test.YtknmmkgaijndfaaPx5
import Derived.Test.YtknmmkgaijndfaaPx6
import Derived.Test.YtknmmkgaijndfaaPx7
import Derived.Test.YtknmmkgaijndfaaPx8
import Derived.Test.YtknmmkgaijndfaaPx9
import Derived.Test.YtknmmkgaijndfaaPx10
import Derived.Test.YtknmmkgaijndfaaPx11
import Derived.Test.YtknmmkgaijndfaaPx12
import Derived.Test.YtknmmkgaijndfaaPx13
import Derived.Test.YtknmmkgaijndfaaPx14
import Derived.Test.YtknmmkgaijndfaaPx15
import Derived.Test.YtknmmkgaijndfaaPx16
import Derived.Test.YtknmmkgaijndfaaPx17
import Derived.Test.YtknmmkgaijndfaaPx18
import Derived.Test.YtknmmkgaijndfaaPx19
import Derived.Test.YtknmmkgaijndfaaPx20
import Derived.Test.YtknmmkgaijndfaaPx21
import Derived.Test.YtknmmkgaijndfaaPlain
namespace Go.Proofs.Ytknmmkgaijndfaa.Pure
open Go.RowKit Go.Proofs.Ytknmmkgaijndfaa.P Go.Proofs.YtknmmkgaijndfaaW.PrintWords Go.Proofs.YtknmmkgaijndfaaW.PrintLast Go.Proofs.YtknmmkgaijndfaaW.PrintMore Go.Proofs.YtknmmkgaijndfaaE
set_option linter.unusedVariables false
set_option linter.unusedSimpArgs false

theorem within_eq (n lo hi : Int) : impl_within.f n lo hi = some (decide (lo ≤ n ∧ n ≤ hi)) := by
  unfold impl_within.f
  by_cases h : n ≥ lo
  · rw [if_pos h]
    by_cases h2 : n ≤ hi
    · simp [h2, show lo ≤ n from h]
    · simp [h2]
  · rw [if_neg h]
    simp [show ¬ lo ≤ n from h]
theorem l6In_eq (n lo hi : Int) : spec_l6In.f n lo hi = some (decide (lo ≤ n ∧ n ≤ hi)) := by
  unfold spec_l6In.f
  by_cases h : n ≥ lo
  · rw [if_pos h]
    by_cases h2 : n ≤ hi
    · simp [h2, show lo ≤ n from h]
    · simp [h2]
  · rw [if_neg h]
    simp [show ¬ lo ≤ n from h]
def payOk (a b c : Int) : Bool := decide ((1 ≤ a ∧ a ≤ 3) ∧ (1 ≤ b ∧ b ≤ 3) ∧ a ≠ b ∧ (1 ≤ c ∧ c ≤ 9))
theorem payOk_impl (a b c : Int) : impl_PayOk.f a b c = some (payOk a b c) := by
  unfold impl_PayOk.f payOk
  simp only [within_eq, Option.bind_some]
  by_cases h1 : 1 ≤ a ∧ a ≤ 3
  · by_cases h2 : 1 ≤ b ∧ b ≤ 3
    · by_cases h3 : a = b
      · simp [h1, h2, h3]
      · simp [h1, h2, h3]
    · simp [h1, h2]
  · simp [h1]
theorem payOk_spec (a b c : Int) : spec_PayOk.f a b c = some (payOk a b c) := by
  unfold spec_PayOk.f payOk
  simp only [l6In_eq, Option.bind_some]
  by_cases h1 : 1 ≤ a ∧ a ≤ 3
  · by_cases h2 : 1 ≤ b ∧ b ≤ 3
    · by_cases h3 : a = b
      · simp [h1, h2, h3]
      · simp [h1, h2, h3]
    · simp [h1, h2]
  · simp [h1]
abbrev It := S58
instance : DecidableEq S56 := fun ⟨a, b, c⟩ ⟨a', b', c'⟩ => decidable_of_iff (a = a' ∧ b = b' ∧ c = c') (by simp)
instance : DecidableEq It := fun ⟨a, b⟩ ⟨a', b'⟩ => decidable_of_iff (a = a' ∧ b = b') (by simp)
theorem rdIt_get {l : List It} {i : Nat} (h : i < l.length) : l[i]? = some (rd_T58 l (i : Int)) := by
  show _ = some (l.getD ((i : Int)).toNat _)
  rw [Int.toNat_natCast, List.getD_eq_getElem?_getD, List.getElem?_eq_getElem h]
  rfl
theorem drop_it {l : List It} {i : Nat} (h : i < l.length) : l.drop i = rd_T58 l (i : Int) :: l.drop (i + 1) := by
  have e := rdIt_get h
  rw [List.getElem?_eq_getElem h] at e
  rw [List.drop_eq_getElem_cons h, Option.some.inj e]
theorem neq_it (x y : It) : ((!(x.f0 == y.f0) || ((!(x.f1.f0 == y.f1.f0) || (!(x.f1.f1 == y.f1.f1) || (!(x.f1.f2 == y.f1.f2)))))) = true) ↔ x ≠ y := by
  obtain ⟨a, b, c, d⟩ := x
  obtain ⟨a', b', c', d'⟩ := y
  simp
  omega
theorem eq_it (x y : It) : ((x.f0 == y.f0) && ((x.f1.f0 == y.f1.f0) && ((x.f1.f1 == y.f1.f1) && (x.f1.f2 == y.f1.f2)))) = true ↔ x = y := by
  obtain ⟨a, b, c, d⟩ := x
  obtain ⟨a', b', c', d'⟩ := y
  simp
def itemOk (x : It) : Bool := decide (1 ≤ x.f0 ∧ x.f0 ≤ 30) && payOk x.f1.f0 x.f1.f1 x.f1.f2
/-- Items go on behind epoch e. -/
def okFrom : Int → List It → Bool
  | _, [] => true
  | e, x :: xs => itemOk x && (decide (e < x.f0) && okFrom x.f0 xs)
def chainOk (c : List It) : Bool := okFrom 0 c && decide (c.length ≤ 16)
def prevE (l : List It) (i : Nat) : Int := if i = 0 then 0 else (rd_T58 l ((i - 1 : Nat) : Int)).f0
theorem prevE_succ (l : List It) (i : Nat) : prevE l (i + 1) = (rd_T58 l (i : Int)).f0 := by simp [prevE]
theorem epochOk_eq (e : Int) : impl_epochOk.f e = some (decide (1 ≤ e ∧ e ≤ 30)) := by
  unfold impl_epochOk.f
  simp [within_eq]
theorem chainOk_impl (l : List It) (hl : l.length ≤ 4611686018427387900) : Evt (fun k => impl_ChainOk.f k l) (fun r => r = chainOk l) := by
  have key : ∀ (d i : Nat), i + d = l.length → Evt (fun k => impl_ChainOk.l0 k l l (l.length : Int) (i : Int)) (fun r => r = (okFrom (prevE l i) (l.drop i) && decide (l.length ≤ 16))) := by
    intro d
    induction d with
    | zero =>
      intro i hd
      rw [List.drop_eq_nil_of_le (by omega)]
      refine Evt.step (f := fun _ => some (decide ((l.length : Int) ≤ 16))) (fun k => by simp only [impl_ChainOk.l0]; rw [if_neg (by omega)]) (Evt.now _ ?_)
      by_cases h : l.length ≤ 16
      · simp [okFrom, h, show (l.length : Int) ≤ 16 by omega]
      · simp [okFrom, h, show ¬ (l.length : Int) ≤ 16 by omega]
    | succ d ih =>
      intro i hd
      have ihs := ih (i + 1) (by omega)
      rw [prevE_succ] at ihs
      rw [drop_it (l := l) (i := i) (by omega)]
      by_cases he : 1 ≤ (rd_T58 l (i : Int)).f0 ∧ (rd_T58 l (i : Int)).f0 ≤ 30
      · cases hp : payOk (rd_T58 l (i : Int)).f1.f0 (rd_T58 l (i : Int)).f1.f1 (rd_T58 l (i : Int)).f1.f2 with
        | false =>
          refine Evt.step (f := fun _ => some false) (fun k => by
            simp only [impl_ChainOk.l0, epochOk_eq, payOk_impl, Option.bind_some]
            rw [if_pos (by omega), if_pos (by omega), if_pos (by omega), if_pos (by simpa using he), hp, if_neg (by decide)]) (Evt.now _ ?_)
          simp [okFrom, itemOk, hp]
        | true =>
          by_cases hi : i = 0
          · subst hi
            refine Evt.step (f := fun k => impl_ChainOk.l0 k l l (l.length : Int) ((0 + 1 : Nat) : Int)) (fun k => by
              simp only [impl_ChainOk.l0, epochOk_eq, payOk_impl, Option.bind_some]
              rw [if_pos (by omega), if_pos (by omega), if_pos (by omega), if_pos (by simpa using he), hp, if_pos rfl, if_neg (by omega), wrap_succ (by omega)]) ?_
            refine ihs.mono fun r hr => ?_
            rw [hr]
            have h0 : (0 : Int) < (rd_T58 l ((0 : Nat) : Int)).f0 := by omega
            simp only [okFrom, itemOk, prevE, hp, he, h0, decide_true, and_self, if_true, Bool.true_and, Bool.and_true]
          · have hw : wrap64 ((i : Int) - 1) = ((i - 1 : Nat) : Int) := by unfold wrap64; omega
            by_cases hlt : (rd_T58 l ((i - 1 : Nat) : Int)).f0 < (rd_T58 l (i : Int)).f0
            · refine Evt.step (f := fun k => impl_ChainOk.l0 k l l (l.length : Int) ((i + 1 : Nat) : Int)) (fun k => by
                simp only [impl_ChainOk.l0, epochOk_eq, payOk_impl, Option.bind_some]
                rw [if_pos (by omega), if_pos (by omega), if_pos (by omega), if_pos (by simpa using he), hp, if_pos rfl, if_pos (by omega), hw, if_pos (by omega), if_pos (by omega), if_neg (by omega), wrap_succ (by omega)]) ?_
              refine ihs.mono fun r hr => ?_
              rw [hr]
              simp [okFrom, itemOk, prevE, hp, he, hi, hlt]
            · refine Evt.step (f := fun _ => some false) (fun k => by
                simp only [impl_ChainOk.l0, epochOk_eq, payOk_impl, Option.bind_some]
                rw [if_pos (by omega), if_pos (by omega), if_pos (by omega), if_pos (by simpa using he), hp, if_pos rfl, if_pos (by omega), hw, if_pos (by omega), if_pos (by omega), if_pos (by omega)]) (Evt.now _ ?_)
              simp [okFrom, itemOk, prevE, hi, hlt]
      · refine Evt.step (f := fun _ => some false) (fun k => by
          simp only [impl_ChainOk.l0, epochOk_eq, Option.bind_some]
          rw [if_pos (by omega), if_pos (by omega), if_pos (by omega), if_neg (by simpa using he)]) (Evt.now _ ?_)
        simp [okFrom, itemOk, he]
  refine (Evt.congr (fun k => by unfold impl_ChainOk.f; rfl) (key l.length 0 (by omega))).mono fun r hr => ?_
  simpa [chainOk, prevE] using hr
theorem chainOk_spec (l : List It) (hl : l.length ≤ 4611686018427387900) : Evt (fun k => spec_ChainOk.f k l) (fun r => r = chainOk l) := by
  have key : ∀ (d i : Nat), i + d = l.length → Evt (fun k => spec_ChainOk.l0 k l (i : Int)) (fun r => r = (okFrom (prevE l i) (l.drop i) && decide (l.length ≤ 16))) := by
    intro d
    induction d with
    | zero =>
      intro i hd
      rw [List.drop_eq_nil_of_le (by omega)]
      refine Evt.step (f := fun _ => some (decide ((l.length : Int) ≤ 16))) (fun k => by simp only [spec_ChainOk.l0]; rw [if_neg (by omega)]) (Evt.now _ ?_)
      by_cases h : l.length ≤ 16
      · simp [okFrom, h, show (l.length : Int) ≤ 16 by omega]
      · simp [okFrom, h, show ¬ (l.length : Int) ≤ 16 by omega]
    | succ d ih =>
      intro i hd
      have ihs := ih (i + 1) (by omega)
      rw [prevE_succ] at ihs
      rw [drop_it (l := l) (i := i) (by omega)]
      by_cases he : 1 ≤ (rd_T58 l (i : Int)).f0 ∧ (rd_T58 l (i : Int)).f0 ≤ 30
      · cases hp : payOk (rd_T58 l (i : Int)).f1.f0 (rd_T58 l (i : Int)).f1.f1 (rd_T58 l (i : Int)).f1.f2 with
        | false =>
          refine Evt.step (f := fun _ => some false) (fun k => by
            simp only [spec_ChainOk.l0, l6In_eq, payOk_spec, Option.bind_some]
            rw [if_pos (by omega), if_pos (by omega), if_pos (by simpa using he), hp, if_neg (by decide)]) (Evt.now _ ?_)
          simp [okFrom, itemOk, hp]
        | true =>
          by_cases hi : i = 0
          · subst hi
            refine Evt.step (f := fun k => spec_ChainOk.l0 k l ((0 + 1 : Nat) : Int)) (fun k => by
              simp only [spec_ChainOk.l0, l6In_eq, payOk_spec, Option.bind_some]
              rw [if_pos (by omega), if_pos (by omega), if_pos (by simpa using he), hp, if_pos rfl, if_neg (by omega), wrap_succ (by omega)]) ?_
            refine ihs.mono fun r hr => ?_
            rw [hr]
            have h0 : (0 : Int) < (rd_T58 l ((0 : Nat) : Int)).f0 := by omega
            simp only [okFrom, itemOk, prevE, hp, he, h0, decide_true, and_self, if_true, Bool.true_and, Bool.and_true]
          · have hw : wrap64 ((i : Int) - 1) = ((i - 1 : Nat) : Int) := by unfold wrap64; omega
            by_cases hlt : (rd_T58 l ((i - 1 : Nat) : Int)).f0 < (rd_T58 l (i : Int)).f0
            · refine Evt.step (f := fun k => spec_ChainOk.l0 k l ((i + 1 : Nat) : Int)) (fun k => by
                simp only [spec_ChainOk.l0, l6In_eq, payOk_spec, Option.bind_some]
                rw [if_pos (by omega), if_pos (by omega), if_pos (by simpa using he), hp, if_pos rfl, if_pos (by omega), hw, if_pos (by omega), if_pos (by omega), if_neg (by omega), wrap_succ (by omega)]) ?_
              refine ihs.mono fun r hr => ?_
              rw [hr]
              simp [okFrom, itemOk, prevE, hp, he, hi, hlt]
            · refine Evt.step (f := fun _ => some false) (fun k => by
                simp only [spec_ChainOk.l0, l6In_eq, payOk_spec, Option.bind_some]
                rw [if_pos (by omega), if_pos (by omega), if_pos (by simpa using he), hp, if_pos rfl, if_pos (by omega), hw, if_pos (by omega), if_pos (by omega), if_pos (by omega)]) (Evt.now _ ?_)
              simp [okFrom, itemOk, prevE, hi, hlt]
      · refine Evt.step (f := fun _ => some false) (fun k => by
          simp only [spec_ChainOk.l0, l6In_eq, Option.bind_some]
          rw [if_pos (by omega), if_pos (by omega), if_neg (by simpa using he)]) (Evt.now _ ?_)
        simp [okFrom, itemOk, he]
  refine (Evt.congr (fun k => by unfold spec_ChainOk.f; rfl) (key l.length 0 (by omega))).mono fun r hr => ?_
  simpa [chainOk, prevE] using hr
def voteOk (n : Int) (c : List It) : Bool := decide (1 ≤ n ∧ n ≤ 4) && (decide (0 < c.length) && chainOk c)
theorem l3Vote_ends (n : Int) (c : List It) (hl : c.length ≤ 4611686018427387900) : Evt (fun k => spec_l3Vote.f k n c) (fun r => r = voteOk n c) := by
  simp only [spec_l3Vote.f, l6In_eq, Option.bind_some]
  unfold voteOk
  refine Evt.ite (fun h => ?_) fun h => Evt.now _ (by rw [Bool.eq_false_iff.2 h]; rfl)
  rw [h]
  refine Evt.bind (chainOk_spec c hl) fun t ht => ?_
  rw [ht]
  refine Evt.ite (fun h2 => Evt.now _ ?_) fun h2 => Evt.now _ (by rw [Bool.eq_false_iff.2 h2]; simp)
  rw [h2]
  simp only [Bool.true_and, Bool.and_true]
  exact decide_of (by rw [decide_eq_true_iff]; omega)
abbrev Vt := S48
instance : DecidableEq Vt := fun ⟨a, b⟩ ⟨a', b'⟩ => decidable_of_iff (a = a' ∧ b = b') (by simp)
theorem rdVt_get {l : List Vt} {i : Nat} (h : i < l.length) : l[i]? = some (rd_T48 l (i : Int)) := by
  show _ = some (l.getD ((i : Int)).toNat _)
  rw [Int.toNat_natCast, List.getD_eq_getElem?_getD, List.getElem?_eq_getElem h]
  rfl
theorem drop_vt {l : List Vt} {i : Nat} (h : i < l.length) : l.drop i = rd_T48 l (i : Int) :: l.drop (i + 1) := by
  have e := rdVt_get h
  rw [List.getElem?_eq_getElem h] at e
  rw [List.drop_eq_getElem_cons h, Option.some.inj e]
theorem take_vt {l : List Vt} {i : Nat} (h : i < l.length) : l.take (i + 1) = l.take i ++ [rd_T48 l (i : Int)] := by
  rw [List.take_add_one, rdVt_get h]
  rfl
theorem rdVt_mem {l : List Vt} {i : Nat} (h : i < l.length) : rd_T48 l (i : Int) ∈ l := List.mem_of_getElem? (rdVt_get h)
/-- A vote of node n for chain c is among them. -/
def hasV (l : List Vt) (n : Int) (c : List It) : Bool := l.any fun v => decide (v.f0 = n) && decide (v.f1 = c)
def votesFrom (p : List Vt) : List Vt → Bool
  | [] => true
  | v :: vs => voteOk v.f0 v.f1 && (!hasV p v.f0 v.f1 && votesFrom (p ++ [v]) vs)
def votesOk (l : List Vt) : Bool := votesFrom [] l
theorem eqItem_eq (x y : It) : laws_eqItem.f x.f0 x.f1.f0 x.f1.f1 x.f1.f2 y.f0 y.f1.f0 y.f1.f1 y.f1.f2 = some (decide (x = y)) := by
  obtain ⟨a, b, c, d⟩ := x
  obtain ⟨a', b', c', d'⟩ := y
  unfold laws_eqItem.f laws_eqPay.f
  simp only
  by_cases h1 : a = a' <;> by_cases h2 : b = b' <;> by_cases h3 : c = c' <;> by_cases h4 : d = d' <;> simp [h1, h2, h3, h4]
theorem eqItemS_ends (a b : List It) (hl : a.length ≤ 4611686018427387900) : Evt (fun k => laws_eqItemS.f k a b) (fun r => r = decide (a = b)) := by
  by_cases h : (a.length : Int) = (b.length : Int)
  · have hn : a.length = b.length := by omega
    have hc := cmp_loop a b a.length (fun k i => laws_eqItemS.l0 k a b (i : Int)) (fun k => by simp only [laws_eqItemS.l0]; rw [if_neg (by omega)])
      (fun i hi he k => by
        rw [rdIt_get (l := a) hi, rdIt_get (l := b) (by omega)] at he
        have he' := Option.some.inj he
        simp only [laws_eqItemS.l0]
        rw [if_pos (by omega), if_pos (by omega), if_pos (by omega), eqItem_eq, Option.bind_some, if_pos (by simp [he']), wrap_succ (by omega)])
      (fun i hi he k => by
        rw [rdIt_get (l := a) hi, rdIt_get (l := b) (by omega)] at he
        have he' : ¬ rd_T58 a (i : Int) = rd_T58 b (i : Int) := fun e => he (by rw [e])
        simp only [laws_eqItemS.l0]
        rw [if_pos (by omega), if_pos (by omega), if_pos (by omega), eqItem_eq, Option.bind_some, if_neg (by simpa using he')])
    refine (Evt.congr (fun k => by unfold laws_eqItemS.f; rw [if_pos h]; rfl) hc).mono fun r hr => decide_of ?_
    rw [hr, List.take_of_length_le (Nat.le_refl _), List.take_of_length_le (by omega)]
  · refine Evt.congr (fun k => by unfold laws_eqItemS.f; rw [if_neg h]) (Evt.now _ ?_)
    have : a ≠ b := by
      rintro rfl
      exact h rfl
    simp [this]
abbrev LIt := S62
def toIt (x : LIt) : It := ⟨x.f0, ⟨x.f1.f0, x.f1.f1, x.f1.f2⟩⟩
theorem rdLIt_get {l : List LIt} {i : Nat} {x : LIt} (h : l[i]? = some x) : rd_T62 l (i : Int) = x := by
  show l.getD ((i : Int)).toNat _ = x
  rw [Int.toNat_natCast, List.getD_eq_getElem?_getD, h]
  rfl
theorem toItem_eq (a b c d : Int) : laws_toItem.f a b c d = some (a, b, c, d) := rfl
theorem toItemS_ends (l : List LIt) (hl : l.length ≤ 1048576) : Evt (fun k => laws_toItemS.f k l) (fun r => r = l.map toIt) := by
  have h := copy_loop toIt l (fun k xs i => laws_toItemS.l0 k l xs (i : Int)) (fun k xs => by simp only [laws_toItemS.l0]; rw [if_neg (by omega)])
    (fun i x hx k xs hxs => by
      have hil : i < l.length := (List.getElem?_eq_some_iff.1 hx).1
      simp only [laws_toItemS.l0, toItem_eq, Option.bind_some]
      rw [if_pos (by omega), if_pos (by omega), if_pos (by omega), wrap_succ (by omega), Int.toNat_natCast, rdLIt_get hx]
      rfl) (List.replicate l.length z58) (by simp)
  exact Evt.congr (fun k => by unfold laws_toItemS.f; rw [if_pos (by omega), if_pos (by omega), Int.toNat_natCast]; rfl) h
theorem szItemS_eq (l : List LIt) (n : Int) (h0 : 0 ≤ n) (h1 : n ≤ 1048576) (hl : l.length ≤ 9223372036854775807) : laws_szItemS.f l n = some (if n - (l.length : Int) < 0 then -1 else n - (l.length : Int)) := by
  unfold laws_szItemS.f
  have e : wrap64 (n - (l.length : Int)) = n - (l.length : Int) := by unfold wrap64; omega
  rw [e]
  split <;> rfl
theorem toVote_ends (n : Int) (l : List LIt) (hl : l.length ≤ 1048576) : Evt (fun k => laws_toVote.f k n l) (fun r => r = (n, l.map toIt)) := by
  simp only [laws_toVote.f]
  exact Evt.bind (toItemS_ends l hl) fun a ha => Evt.now _ (by rw [ha])
theorem eqVote_ends (n : Int) (a : List It) (n' : Int) (b : List It) (hl : a.length ≤ 4611686018427387900) : Evt (fun k => laws_eqVote.f k n a n' b) (fun r => r = (decide (n = n') && decide (a = b))) := by
  simp only [laws_eqVote.f]
  refine Evt.ite (fun h => ?_) fun h => Evt.now _ (by rw [decide_eq_false h]; rfl)
  rw [decide_eq_true h]
  refine Evt.bind (eqItemS_ends a b hl) fun t ht => ?_
  rw [ht]
  exact Evt.ite (fun h => Evt.now _ (by rw [h]; rfl)) fun h => Evt.now _ (by rw [Bool.eq_false_iff.2 h]; rfl)
abbrev LVt := S53
def toVt (v : LVt) : Vt := ⟨v.f0, v.f1.map toIt⟩
theorem rdLVt_get {l : List LVt} {i : Nat} {x : LVt} (h : l[i]? = some x) : rd_T53 l (i : Int) = x := by
  show l.getD ((i : Int)).toNat _ = x
  rw [Int.toNat_natCast, List.getD_eq_getElem?_getD, h]
  rfl
/-- What is left of n, behind all of a list of votes; or it is below nothing. -/
theorem szVoteS_ends (l : List LVt) (n : Int) (h0 : 0 ≤ n) (h1 : n ≤ 1048576) (hl : l.length ≤ 9223372036854775807) (hb : ∀ v, v ∈ l → v.f1.length ≤ 9223372036854775807) :
    Evt (fun k => laws_szVoteS.f k l n) (fun r => r ≤ n ∧ (0 ≤ r → l.length ≤ 1048576 ∧ ∀ v, v ∈ l → v.f1.length ≤ 1048576)) := by
  have hw : wrap64 (n - (l.length : Int)) = n - (l.length : Int) := by unfold wrap64; omega
  simp only [laws_szVoteS.f, hw]
  refine Evt.ite (fun h => Evt.now _ ⟨by omega, fun h => absurd h (by omega)⟩) fun h => ?_
  have key : ∀ (d i : Nat) (m : Int), i + d = l.length → 0 ≤ m → m ≤ n → (∀ v, v ∈ l.take i → v.f1.length ≤ 1048576) → Evt (fun k => laws_szVoteS.l0 k l m (i : Int)) (fun r => r ≤ n ∧ (0 ≤ r → l.length ≤ 1048576 ∧ ∀ v, v ∈ l → v.f1.length ≤ 1048576)) := by
    intro d
    induction d with
    | zero =>
      intro i m hd hm0 hm1 hA
      rw [List.take_of_length_le (by omega)] at hA
      exact Evt.step (f := fun _ => some m) (fun k => by simp only [laws_szVoteS.l0]; rw [if_neg (by omega)]) (Evt.now _ ⟨hm1, fun _ => ⟨by omega, hA⟩⟩)
    | succ d ih =>
      intro i m hd hm0 hm1 hA
      have hi : i < l.length := by omega
      have he : l[i]? = some l[i] := List.getElem?_eq_getElem hi
      have hmem : l[i] ∈ l := List.getElem_mem hi
      have hlen := hb _ hmem
      by_cases hle : m - (l[i].f1.length : Int) < 0
      · refine Evt.step (f := fun _ => some (-1)) (fun k => ?_) (Evt.now _ ⟨by omega, fun h => absurd h (by omega)⟩)
        simp only [laws_szVoteS.l0]
        rw [if_pos (by omega), if_pos (by omega), rdLVt_get he]
        simp only [laws_szVote.f]
        rw [szItemS_eq _ m hm0 (by omega) hlen, if_pos hle]
        rfl
      · refine Evt.step (f := fun k => laws_szVoteS.l0 k l (m - (l[i].f1.length : Int)) ((i + 1 : Nat) : Int)) (fun k => ?_) (ih (i + 1) (m - (l[i].f1.length : Int)) (by omega) (by omega) (by omega) ?_)
        · simp only [laws_szVoteS.l0]
          rw [if_pos (by omega), if_pos (by omega), rdLVt_get he]
          simp only [laws_szVote.f]
          rw [szItemS_eq _ m hm0 (by omega) hlen, if_neg hle]
          simp only [Option.bind_some]
          rw [if_neg hle, wrap_succ (by omega)]
          simp only [Option.bind_some]
          rw [if_neg hle]
        · intro v hv
          rw [List.take_add_one, he] at hv
          rcases List.mem_append.1 hv with hv | hv
          · exact hA v hv
          · have : v = l[i] := by simpa using hv
            rw [this]; omega
  exact key l.length 0 _ (by omega) (by omega) (by omega) (by simp)
theorem toVoteS_ends (l : List LVt) (hl : l.length ≤ 1048576) (hb : ∀ v, v ∈ l → v.f1.length ≤ 1048576) : Evt (fun k => laws_toVoteS.f k l) (fun r => r = l.map toVt) := by
  have key : ∀ (d i : Nat) (x : List Vt), i + d = l.length → x.length = l.length → x.take i = (l.map toVt).take i → Evt (fun k => laws_toVoteS.l0 k l x (i : Int)) (fun r => r = l.map toVt) := by
    intro d
    induction d with
    | zero =>
      intro i x hd hx ht
      refine Evt.step (f := fun _ => some x) (fun k => by simp only [laws_toVoteS.l0]; rw [if_neg (by omega)]) (Evt.now _ ?_)
      rw [List.take_of_length_le (by omega), List.take_of_length_le (by rw [List.length_map]; omega)] at ht
      exact ht
    | succ d ih =>
      intro i x hd hx ht
      have hi : i < l.length := by omega
      have he : l[i]? = some l[i] := List.getElem?_eq_getElem hi
      refine Evt.step (fun k => by
        simp only [laws_toVoteS.l0]
        rw [if_pos (by omega), if_pos (by omega), rdLVt_get he, wrap_succ (by omega), Int.toNat_natCast]) ?_
      refine Evt.bind (toVote_ends _ _ (hb _ (List.getElem_mem hi))) fun a ha => ?_
      subst ha
      refine Evt.pos (by omega) (ih (i + 1) _ (by omega) (by simpa using hx) ?_)
      exact take_set_succ (by rw [List.length_map, hx]) (by rw [List.length_map]; exact hi) ht (by rw [List.getElem?_map, he]; rfl)
  simp only [laws_toVoteS.f]
  refine Evt.pos (by omega) (Evt.pos (by omega) ?_)
  rw [Int.toNat_natCast]
  exact key l.length 0 _ (by omega) (by simp) (by simp)
theorem vt_ext {x y : Vt} (h0 : x.f0 = y.f0) (h1 : x.f1 = y.f1) : x = y := by
  cases x; cases y; simp only at h0 h1; rw [h0, h1]
theorem eqVoteS_ends (a b : List Vt) (hl : a.length ≤ 4611686018427387900) (hb : ∀ v, v ∈ a → v.f1.length ≤ 4611686018427387900) : Evt (fun k => laws_eqVoteS.f k a b) (fun r => r = decide (a = b)) := by
  simp only [laws_eqVoteS.f]
  refine Evt.ite (fun hab => ?_) fun hab => Evt.now _ (decide_eq_false fun e => hab (by rw [e])).symm
  have key : ∀ (d i : Nat), i + d = a.length → Evt (fun k => laws_eqVoteS.l0 k a b (i : Int)) (fun r => r = decide (a.drop i = b.drop i)) := by
    intro d
    induction d with
    | zero =>
      intro i hd
      rw [List.drop_eq_nil_of_le (by omega), List.drop_eq_nil_of_le (by omega)]
      exact Evt.step (f := fun _ => some true) (fun k => by simp only [laws_eqVoteS.l0]; rw [if_neg (by omega)]) (Evt.now _ (by simp))
    | succ d ih =>
      intro i hd
      have hi : i < a.length := by omega
      have hi2 : i < b.length := by omega
      rw [drop_vt hi, drop_vt hi2]
      refine Evt.step (fun k => by simp only [laws_eqVoteS.l0]; rw [if_pos (by omega), if_pos (by omega), if_pos (by omega), wrap_succ (by omega)]) ?_
      refine Evt.bind (eqVote_ends _ _ _ _ (hb _ (rdVt_mem hi))) fun t ht => ?_
      refine Evt.ite (fun h => (ih (i + 1) (by omega)).mono fun r hr => ?_) fun h => Evt.now _ ?_
      · rw [ht] at h
        simp only [Bool.and_eq_true, decide_eq_true_iff] at h
        rw [hr, vt_ext h.1 h.2]
        exact decide_eq_decide.2 ⟨fun e => by rw [e], fun e => (List.cons.inj e).2⟩
      · refine (decide_eq_false fun e => h ?_).symm
        have e1 := (List.cons.inj e).1
        rw [ht, e1]
        simp
  exact key a.length 0 (by omega)
theorem equal_ends (a b : List It) (hl : a.length ≤ 4611686018427387900) : Evt (fun k => impl_Item.f k a b) (fun r => r = decide (a = b)) := by
  by_cases h : (a.length : Int) = (b.length : Int)
  · have hn : a.length = b.length := by omega
    have hc := cmp_loop a b a.length (fun k i => impl_Item.l0 k a b (a.length : Int) (i : Int)) (fun k => by simp only [impl_Item.l0]; rw [if_neg (by omega)])
      (fun i hi he k => by
        rw [rdIt_get (l := a) hi, rdIt_get (l := b) (by omega)] at he
        have he' := Option.some.inj he
        simp only [impl_Item.l0]
        rw [if_pos (by omega), if_pos (by omega), if_pos (by omega), if_pos (by omega), if_neg (by rw [neq_it]; exact fun h2 => h2 he'), wrap_succ (by omega)])
      (fun i hi he k => by
        rw [rdIt_get (l := a) hi, rdIt_get (l := b) (by omega)] at he
        have he' : ¬ rd_T58 a (i : Int) = rd_T58 b (i : Int) := fun e => he (by rw [e])
        simp only [impl_Item.l0]
        rw [if_pos (by omega), if_pos (by omega), if_pos (by omega), if_pos (by omega), if_pos (by rw [neq_it]; exact he')])
    refine (Evt.congr (fun k => by unfold impl_Item.f; rw [if_pos h]; rfl) hc).mono fun r hr => decide_of ?_
    rw [hr, List.take_of_length_le (Nat.le_refl _), List.take_of_length_le (by omega)]
  · refine Evt.congr (fun k => by unfold impl_Item.f; rw [if_neg h]) (Evt.now _ ?_)
    have : a ≠ b := by
      rintro rfl
      exact h rfl
    simp [this]
theorem same_ends (n : Int) (c : List It) (n' : Int) (c' : List It) (hc : c.length ≤ 4611686018427387900) : Evt (fun k => impl_Vote_same.f k n c n' c') (fun r => r = (decide (n = n') && decide (c = c'))) := by
  simp only [impl_Vote_same.f]
  refine Evt.ite (fun h => ?_) fun h => Evt.now _ (by rw [decide_eq_false h]; rfl)
  rw [decide_eq_true h]
  exact Evt.bind (equal_ends c c' hc) fun t ht => Evt.now _ (by rw [ht]; rfl)
theorem has_impl (l : List Vt) (n : Int) (c : List It) (hl : l.length ≤ 4611686018427387900) (hc : c.length ≤ 4611686018427387900) : Evt (fun k => impl_votes_has.f k l n c) (fun r => r = hasV l n c) := by
  have key : ∀ (d i : Nat), i + d = l.length → Evt (fun k => impl_votes_has.l0 k l n c (i : Int)) (fun r => r = hasV (l.drop i) n c) := by
    intro d
    induction d with
    | zero =>
      intro i hd
      rw [List.drop_eq_nil_of_le (by omega)]
      exact Evt.step (f := fun _ => some false) (fun k => by simp only [impl_votes_has.l0]; rw [if_neg (by omega)]) (Evt.now _ rfl)
    | succ d ih =>
      intro i hd
      rw [drop_vt (l := l) (i := i) (by omega)]
      refine Evt.step (fun k => by simp only [impl_votes_has.l0]; rw [if_pos (by omega), if_pos (by omega), wrap_succ (by omega)]) ?_
      refine Evt.bind (same_ends n c _ _ hc) fun t ht => ?_
      have e : (decide ((rd_T48 l (i : Int)).f0 = n) && decide ((rd_T48 l (i : Int)).f1 = c)) = t := by
        rw [ht]
        congr 1 <;> exact decide_eq_decide.2 ⟨Eq.symm, Eq.symm⟩
      refine Evt.ite (fun h => Evt.now _ ?_) fun h => (ih (i + 1) (by omega)).mono fun r hr => ?_
      · rw [hasV, List.any_cons, e, h]; rfl
      · rw [hr, hasV, hasV, List.any_cons, e, Bool.eq_false_iff.2 h]; rfl
  exact key l.length 0 (by omega)
theorem nodeOk_eq (n : Int) : impl_nodeOk.f n = some (decide (1 ≤ n ∧ n ≤ 4)) := by
  unfold impl_nodeOk.f
  rw [within_eq]
  rfl
theorem voteOk_impl (n : Int) (c : List It) (hl : c.length ≤ 4611686018427387900) : Evt (fun k => impl_VoteOk.f k n c) (fun r => r = voteOk n c) := by
  simp only [impl_VoteOk.f, nodeOk_eq, Option.bind_some]
  unfold voteOk
  refine Evt.ite (fun h => ?_) fun h => Evt.now _ (by rw [Bool.eq_false_iff.2 h]; rfl)
  rw [h]
  refine Evt.ite (fun h2 => ?_) fun h2 => Evt.now _ (by rw [decide_eq_false (show ¬ 0 < c.length by omega)]; rfl)
  rw [decide_eq_true (show 0 < c.length by omega)]
  exact Evt.bind (chainOk_impl c hl) fun t ht => Evt.now _ (by rw [ht]; rfl)
theorem votesOk_impl (l : List Vt) (hl : l.length ≤ 4611686018427387900) (hb : ∀ v, v ∈ l → v.f1.length ≤ 4611686018427387900) : Evt (fun k => impl_VotesOk.f k l) (fun r => r = votesOk l) := by
  have key : ∀ (d i : Nat), i + d = l.length → Evt (fun k => impl_VotesOk.l0 k l l (l.length : Int) (i : Int)) (fun r => r = votesFrom (l.take i) (l.drop i)) := by
    intro d
    induction d with
    | zero =>
      intro i hd
      rw [List.drop_eq_nil_of_le (by omega)]
      exact Evt.step (f := fun _ => some true) (fun k => by simp only [impl_VotesOk.l0]; rw [if_neg (by omega)]) (Evt.now _ rfl)
    | succ d ih =>
      intro i hd
      have hi : i < l.length := by omega
      have ihs := ih (i + 1) (by omega)
      rw [take_vt hi] at ihs
      rw [drop_vt hi, votesFrom]
      refine Evt.step (fun k => by simp only [impl_VotesOk.l0]; rw [if_pos (by omega), if_pos (by omega), if_pos (by omega), wrap_succ (by omega), Int.toNat_natCast]) ?_
      refine Evt.bind (voteOk_impl _ _ (hb _ (rdVt_mem hi))) fun t ht => ?_
      rw [← ht]
      refine Evt.ite (fun h => ?_) fun h => Evt.now _ (by rw [Bool.eq_false_iff.2 h]; rfl)
      rw [h]
      refine Evt.pos (by omega) ?_
      refine Evt.bind (has_impl (l.take i) _ _ (by rw [List.length_take]; omega) (hb _ (rdVt_mem hi))) fun u hu => ?_
      rw [← hu]
      refine Evt.ite (fun h => Evt.now _ (by rw [h]; rfl)) fun h => ihs.mono fun r hr => ?_
      rw [hr, Bool.eq_false_iff.2 h]
      rfl
  exact key l.length 0 (by omega)
theorem hasV_iff (l : List Vt) (n : Int) (c : List It) : hasV l n c = true ↔ (⟨n, c⟩ : Vt) ∈ l := by
  rw [hasV, List.any_eq_true]
  constructor
  · rintro ⟨⟨a, b⟩, hv, h⟩
    simp only [Bool.and_eq_true, decide_eq_true_iff] at h
    rw [← h.1, ← h.2]
    exact hv
  · exact fun h => ⟨_, h, by simp⟩
theorem votesFrom_iff (l : List Vt) : ∀ p, votesFrom p l = true ↔ (∀ v, v ∈ l → voteOk v.f0 v.f1 = true ∧ v ∉ p) ∧ l.Nodup := by
  induction l with
  | nil => intro p; simp [votesFrom]
  | cons v vs ih =>
    intro p
    rw [votesFrom, Bool.and_eq_true, Bool.and_eq_true, ih, Bool.not_eq_true', ← Bool.not_eq_true, hasV_iff, List.nodup_cons]
    constructor
    · rintro ⟨h1, h2, h3, h4⟩
      refine ⟨fun x hx => ?_, fun hm => (h3 v hm).2 (by simp), h4⟩
      rcases List.mem_cons.1 hx with rfl | hx
      · exact ⟨h1, h2⟩
      · exact ⟨(h3 x hx).1, fun hp => (h3 x hx).2 (by simp [hp])⟩
    · rintro ⟨h1, h2, h3⟩
      refine ⟨(h1 v (by simp)).1, (h1 v (by simp)).2, fun x hx => ⟨(h1 x (by simp [hx])).1, fun hp => ?_⟩, h3⟩
      rcases List.mem_append.1 hp with hp | hp
      · exact (h1 x (by simp [hx])).2 hp
      · exact h2 (by rw [← List.mem_singleton.1 hp]; exact hx)
theorem votesOk_iff (l : List Vt) : votesOk l = true ↔ (∀ v, v ∈ l → voteOk v.f0 v.f1 = true) ∧ l.Nodup := by
  rw [votesOk, votesFrom_iff]
  simp
/-- Who is for a chain. -/
def forC (l : List Vt) (c : List It) : List Int := [1, 2, 3, 4].filter fun n => hasV l n c
/-- How many votes are for a chain. -/
def manyC (l : List Vt) (c : List It) : Nat := l.countP fun v => decide (v.f1 = c)
theorem voteOk_by {n : Int} {c : List It} (h : voteOk n c = true) : n = 1 ∨ n = 2 ∨ n = 3 ∨ n = 4 := by
  simp only [voteOk, Bool.and_eq_true, decide_eq_true_iff] at h
  omega
theorem hasV_cons (v : Vt) (l : List Vt) (n : Int) (c : List It) : hasV (v :: l) n c = (decide (v.f0 = n) && decide (v.f1 = c) || hasV l n c) := rfl
theorem many_for (l : List Vt) (c : List It) (h1 : ∀ v, v ∈ l → voteOk v.f0 v.f1 = true) (h2 : l.Nodup) : manyC l c = (forC l c).length := by
  induction l with
  | nil => rfl
  | cons v vs ih =>
    have ih' := ih (fun x hx => h1 x (by simp [hx])) (List.nodup_cons.1 h2).2
    have hn := (List.nodup_cons.1 h2).1
    unfold manyC at ih' ⊢
    rw [List.countP_cons, ih']
    by_cases hc : v.f1 = c
    · have hv : hasV vs v.f0 c = false := by
        rw [← Bool.not_eq_true, hasV_iff, ← hc]
        exact hn
      rcases voteOk_by (h1 v (by simp)) with hb | hb | hb | hb <;> rw [hb] at hv <;> simp only [forC, List.filter, hasV_cons, hb, hc, hv] <;>
        cases hasV vs 1 c <;> cases hasV vs 2 c <;> cases hasV vs 3 c <;> cases hasV vs 4 c <;> simp_all
    · simp [forC, List.filter, hasV_cons, hc]
theorem for_le (l : List Vt) (c : List It) : (forC l c).length ≤ 4 := List.length_filter_le _ _
theorem votesOk_sub {l m : List Vt} (h : votesOk l = true) (hs : m.Sublist l) : votesOk m = true := by
  rw [votesOk_iff] at h ⊢
  exact ⟨fun v hv => h.1 v (hs.subset hv), h.2.sublist hs⟩
theorem votesOk_less {l : List Vt} (h : votesOk l = true) (k : Nat) : votesOk (l.take k ++ l.drop (k + 1)) = true :=
  votesOk_sub h (by rw [← List.eraseIdx_eq_take_drop_succ]; exact List.eraseIdx_sublist l k)
theorem votesOk_rev {l : List Vt} (h : votesOk l = true) : votesOk l.reverse = true := by
  rw [votesOk_iff] at h ⊢
  exact ⟨fun v hv => h.1 v (List.mem_reverse.1 hv), (List.reverse_perm l).nodup_iff.2 h.2⟩
theorem votesOk_twice {l : List Vt} {v : Vt} (hv : v ∈ l) : votesOk (l ++ [v]) = false := by
  rw [← Bool.not_eq_true, votesOk_iff]
  rintro ⟨_, hn⟩
  exact (List.nodup_append.1 hn).2.2 v hv v (by simp) rfl
theorem hasV_rev (l : List Vt) (n : Int) (c : List It) : hasV l.reverse n c = hasV l n c := by
  rw [Bool.eq_iff_iff, hasV_iff, hasV_iff, List.mem_reverse]
theorem for_rev (l : List Vt) (c : List It) : forC l.reverse c = forC l c := by
  simp only [forC, hasV_rev]
/-- Enough voted for each beginning. -/
def sureC (l : List Vt) (c : List It) : Bool := (List.range c.length).all fun i => decide (3 ≤ manyC l (c.take (i + 1)))
theorem sureC_iff (l : List Vt) (c : List It) : sureC l c = true ↔ ∀ i, i < c.length → 3 ≤ manyC l (c.take (i + 1)) := by
  simp [sureC, List.all_eq_true]
theorem sureC_take {l : List Vt} {c : List It} (h : sureC l c = true) (n : Nat) : sureC l (c.take n) = true := by
  rw [sureC_iff] at h ⊢
  intro i hi
  rw [List.length_take] at hi
  have e : (c.take n).take (i + 1) = c.take (i + 1) := by rw [List.take_take]; congr 1; omega
  rw [e]
  exact h i (by omega)
def treeSure (l : List Vt) (c : List It) : Bool := votesOk l && (chainOk c && sureC l c)
theorem many_for' {l : List Vt} (h : votesOk l = true) (c : List It) : manyC l c = (forC l c).length := by
  rw [votesOk_iff] at h
  exact many_for l c h.1 h.2
/-- All but the one vote. -/
def lessV (l : List Vt) (n : Int) (c : List It) : List Vt := l.filter fun v => !(decide (v.f0 = n) && decide (v.f1 = c))
theorem lessV_cons (v : Vt) (l : List Vt) (n : Int) (c : List It) : lessV (v :: l) n c = if v.f0 = n ∧ v.f1 = c then lessV l n c else v :: lessV l n c := by
  unfold lessV
  rw [List.filter_cons]
  by_cases h : v.f0 = n ∧ v.f1 = c
  · simp [h]
  · rw [if_neg h, if_pos]
    simpa using Decidable.not_and_iff_or_not.1 h
theorem lessV_none {l : List Vt} {n : Int} {c : List It} (h : (⟨n, c⟩ : Vt) ∉ l) : lessV l n c = l := by
  unfold lessV
  rw [List.filter_eq_self]
  rintro ⟨a, b⟩ hv
  simp only [Bool.not_eq_true', ← Bool.not_eq_true, Bool.and_eq_true, decide_eq_true_iff]
  rintro ⟨rfl, rfl⟩
  exact h hv
theorem lessV_len (l : List Vt) (n : Int) (c : List It) (h : l.Nodup) (hm : (⟨n, c⟩ : Vt) ∈ l) : (lessV l n c).length + 1 = l.length ∧ ∀ d, manyC (lessV l n c) d + (if d = c then 1 else 0) = manyC l d := by
  induction l with
  | nil => cases hm
  | cons v vs ih =>
    obtain ⟨hv, hn⟩ := List.nodup_cons.1 h
    rw [lessV_cons]
    by_cases hx : v.f0 = n ∧ v.f1 = c
    · have e : v = ⟨n, c⟩ := by cases v; simp only at hx; rw [hx.1, hx.2]
      subst e
      rw [if_pos ⟨rfl, rfl⟩, lessV_none hv]
      refine ⟨rfl, fun d => ?_⟩
      unfold manyC
      rw [List.countP_cons]
      by_cases hd : c = d
      · subst hd; simp
      · have hd' : ¬ d = c := fun e => hd e.symm
        simp [hd, hd']
    · rw [if_neg hx]
      have hm' : (⟨n, c⟩ : Vt) ∈ vs := by
        rcases List.mem_cons.1 hm with e | e
        · exact absurd (by rw [← e]; exact ⟨rfl, rfl⟩) hx
        · exact e
      obtain ⟨h1, h2⟩ := ih hn hm'
      refine ⟨by simp only [List.length_cons]; omega, fun d => ?_⟩
      have := h2 d
      unfold manyC at this ⊢
      rw [List.countP_cons, List.countP_cons]
      omega
theorem lessV_ok {l : List Vt} (h : votesOk l = true) (n : Int) (c : List It) : votesOk (lessV l n c) = true := votesOk_sub h List.filter_sublist
theorem take_inj {c : List It} {i j : Nat} (hi : i ≤ c.length) (hj : j ≤ c.length) (h : c.take i = c.take j) : i = j := by
  have := congrArg List.length h
  rw [List.length_take, List.length_take] at this
  omega
/-- Without one of its votes what was sure is so still just if there was one vote more than enough. -/
theorem sure_less {l : List Vt} {c : List It} (h : treeSure l c = true) {n : Nat} (hn : n < c.length) {b : Int} (hb : hasV l b (c.take (n + 1)) = true) :
    treeSure (lessV l b (c.take (n + 1))) c = decide (3 < (forC l (c.take (n + 1))).length) := by
  simp only [treeSure, Bool.and_eq_true] at h
  obtain ⟨hl, hc, hs⟩ := h
  have hnd := ((votesOk_iff l).1 hl).2
  obtain ⟨_, hm⟩ := lessV_len l b (c.take (n + 1)) hnd ((hasV_iff _ _ _).1 hb)
  simp only [treeSure, lessV_ok hl, hc, Bool.true_and]
  rw [sureC_iff] at hs
  rw [Bool.eq_iff_iff, sureC_iff, decide_eq_true_iff, ← many_for' hl]
  constructor
  · intro h
    have h1 := h n hn
    have h2 := hm (c.take (n + 1))
    rw [if_pos rfl] at h2
    omega
  · intro h i hi
    have h1 := hm (c.take (i + 1))
    have h2 := hs i hi
    by_cases e : i = n
    · subst e
      rw [if_pos rfl] at h1
      omega
    · rw [if_neg (fun e2 => e (by have := take_inj (c := c) (by omega) (by omega) e2; omega))] at h1
      omega
/-- How many votes are for a chain that is among some. -/
def someC (l : List Vt) (cs : List (List It)) : Nat := l.countP fun v => decide (v.f1 ∈ cs)
theorem someC_all (l : List Vt) : someC l (l.map fun v => v.f1) = l.length := by
  unfold someC
  rw [List.countP_eq_length]
  intro v hv
  exact decide_eq_true (List.mem_map.2 ⟨v, hv, rfl⟩)
theorem someC_old (l : List Vt) {cs : List (List It)} {c : List It} (h : c ∈ cs) : someC l (cs ++ [c]) = someC l cs := by
  unfold someC
  congr 1
  funext v
  exact decide_eq_decide.2 ⟨fun hv => (List.mem_append.1 hv).elim id fun h2 => by rw [List.mem_singleton.1 h2]; exact h, fun hv => List.mem_append.2 (.inl hv)⟩
theorem someC_new (l : List Vt) {cs : List (List It)} {c : List It} (h : c ∉ cs) : someC l (cs ++ [c]) = someC l cs + manyC l c := by
  unfold someC manyC
  induction l with
  | nil => rfl
  | cons v vs ih =>
    rw [List.countP_cons, List.countP_cons, List.countP_cons, ih]
    by_cases h1 : v.f1 ∈ cs
    · have h2 : ¬ v.f1 = c := fun e => h (e ▸ h1)
      simp [h1, h2]; omega
    · by_cases h2 : v.f1 = c
      · simp [h2, h]; omega
      · simp [h1, h2]
theorem many_pos {l : List Vt} {v : Vt} (h : v ∈ l) : 1 ≤ manyC l v.f1 := by
  unfold manyC
  exact List.countP_pos_iff.2 ⟨v, h, by simp⟩
theorem forC_eq (l : List Vt) (c : List It) : ((([] ++ (if hasV l 1 c = true then [1] else [])) ++ (if hasV l 2 c = true then [2] else [])) ++ (if hasV l 3 c = true then [3] else [])) ++ (if hasV l 4 c = true then [4] else []) = forC l c := by
  simp only [forC, List.filter]
  cases hasV l 1 c <;> cases hasV l 2 c <;> cases hasV l 3 c <;> cases hasV l 4 c <;> rfl
theorem voters_ends (l : List Vt) (c : List It) (hl : l.length ≤ 4611686018427387900) (hc : c.length ≤ 4611686018427387900) : Evt (fun k => impl_votes_voters.f k l c) (fun r => r = forC l c) := by
  have step : ∀ (n : Int) (x : List Int) (Q : List Int → Prop), n ≤ 4 → 1 ≤ n → x.length ≤ 4 → Evt (fun k => impl_votes_voters.l0 k l c (x ++ (if hasV l n c = true then [n] else [])) (n + 1)) Q → Evt (fun k => impl_votes_voters.l0 k l c x n) Q := by
    intro n x Q h1 h2 hx hk
    have w : wrap64 (n + 1) = n + 1 := by unfold wrap64; omega
    refine Evt.step (fun k => by simp only [impl_votes_voters.l0, w]; rw [if_pos h1]) ?_
    refine Evt.bind (has_impl l n c hl hc) fun t ht => ?_
    rw [← ht] at hk
    refine Evt.ite (fun h => Evt.pos (by omega) ?_) fun h => ?_
    · rw [if_pos h] at hk; exact hk
    · rw [if_neg h, List.append_nil] at hk; exact hk
  have h1 : ∀ (n : Int) (x : List Int), (x ++ (if hasV l n c = true then [n] else [])).length ≤ x.length + 1 := by
    intro n x; rw [List.length_append]; split <;> simp
  simp only [impl_votes_voters.f]
  have a1 := h1 1 []
  have a2 := h1 2 ([] ++ (if hasV l 1 c = true then [1] else []))
  have a3 := h1 3 (([] ++ (if hasV l 1 c = true then [1] else [])) ++ (if hasV l 2 c = true then [2] else []))
  refine step 1 [] _ (by omega) (by omega) (by simp) ?_
  refine step 2 _ _ (by omega) (by omega) (by simp only [List.length_nil] at a1; omega) ?_
  refine step 3 _ _ (by omega) (by omega) (by simp only [List.length_nil] at a1; omega) ?_
  refine step 4 _ _ (by omega) (by omega) (by simp only [List.length_nil] at a1; omega) ?_
  exact Evt.step (f := fun _ => some _) (fun k => by simp only [impl_votes_voters.l0]; rw [if_neg (by omega)]) (Evt.now _ (forC_eq l c))
theorem pre_iff (a b : List It) : a <+: b ↔ a.length ≤ b.length ∧ a.take a.length = b.take a.length := by
  rw [List.take_of_length_le (Nat.le_refl _)]
  constructor
  · intro h
    exact ⟨h.length_le, List.prefix_iff_eq_take.1 h⟩
  · rintro ⟨_, h⟩
    exact List.prefix_iff_eq_take.2 h
theorem l1In_ends (a b : List It) (hl : a.length ≤ 4611686018427387900) : Evt (fun k => spec_l1In.f k a b) (fun r => r = decide (a <+: b)) := by
  by_cases h : (a.length : Int) > (b.length : Int)
  · refine Evt.congr (fun k => by unfold spec_l1In.f; rw [if_pos h]) (Evt.now _ ?_)
    apply decide_of
    rw [pre_iff]
    exact ⟨fun h2 => (by cases h2), fun h2 => absurd h2.1 (by omega)⟩
  · have hc := cmp_loop a b a.length (fun k i => spec_l1In.l0 k a b (i : Int)) (fun k => by simp only [spec_l1In.l0]; rw [if_neg (by omega)])
      (fun i hi he k => by
        rw [rdIt_get (l := a) hi, rdIt_get (l := b) (by omega)] at he
        have he' := Option.some.inj he
        simp only [spec_l1In.l0]
        rw [if_pos (by omega), if_pos (by omega), if_pos (by omega), if_neg (by rw [neq_it]; exact fun h2 => h2 he'), wrap_succ (by omega)])
      (fun i hi he k => by
        rw [rdIt_get (l := a) hi, rdIt_get (l := b) (by omega)] at he
        have he' : ¬ rd_T58 a (i : Int) = rd_T58 b (i : Int) := fun e => he (by rw [e])
        simp only [spec_l1In.l0]
        rw [if_pos (by omega), if_pos (by omega), if_pos (by omega), if_pos (by rw [neq_it]; exact he')])
    refine (Evt.congr (fun k => by unfold spec_l1In.f; rw [if_neg h]; rfl) hc).mono fun r hr => decide_of ?_
    rw [hr, pre_iff]
    exact ⟨fun h2 => ⟨by omega, h2⟩, fun h2 => h2.2⟩
theorem l3Same_ends (a b : List It) (ha : a.length ≤ 4611686018427387900) : Evt (fun k => spec_l3Same.f k a b) (fun r => r = decide (a = b)) := by
  simp only [spec_l3Same.f]
  refine Evt.ite (fun h => ?_) fun h => Evt.now _ ?_
  · refine Evt.bind (l1In_ends a b ha) fun t ht => Evt.now _ ?_
    rw [ht]
    exact decide_eq_decide.2 ⟨fun hp => hp.eq_of_length (by omega), fun e => e ▸ List.prefix_rfl⟩
  · exact (decide_eq_false fun e => h (by rw [e])).symm
theorem l3Has_ends (l : List Vt) (n : Int) (c : List It) (hl : l.length ≤ 4611686018427387900) (hb : ∀ v, v ∈ l → v.f1.length ≤ 4611686018427387900) : Evt (fun k => spec_l3Has.f k l n c) (fun r => r = hasV l n c) := by
  have key : ∀ (d i : Nat), i + d = l.length → Evt (fun k => spec_l3Has.l0 k l (i : Int) n c) (fun r => r = hasV (l.drop i) n c) := by
    intro d
    induction d with
    | zero =>
      intro i hd
      rw [List.drop_eq_nil_of_le (by omega)]
      exact Evt.step (f := fun _ => some false) (fun k => by simp only [spec_l3Has.l0]; rw [if_neg (by omega)]) (Evt.now _ rfl)
    | succ d ih =>
      intro i hd
      have hi : i < l.length := by omega
      rw [drop_vt hi]
      refine Evt.step (fun k => by simp only [spec_l3Has.l0]; rw [if_pos (by omega), if_pos (by omega), wrap_succ (by omega)]) ?_
      refine Evt.ite (fun hn => ?_) fun hn => (ih (i + 1) (by omega)).mono fun r hr => ?_
      · refine Evt.bind (l3Same_ends _ c (hb _ (rdVt_mem hi))) fun t ht => ?_
        refine Evt.ite (fun h => Evt.now _ ?_) fun h => (ih (i + 1) (by omega)).mono fun r hr => ?_
        · rw [hasV, List.any_cons, decide_eq_true hn, ← ht, h]; rfl
        · rw [hr, hasV, hasV, List.any_cons, ← ht, Bool.eq_false_iff.2 h]; simp
      · rw [hr, hasV, hasV, List.any_cons, decide_eq_false hn]; rfl
  exact key l.length 0 (by omega)
theorem votesOk_spec (l : List Vt) (hl : l.length ≤ 4611686018427387900) (hb : ∀ v, v ∈ l → v.f1.length ≤ 4611686018427387900) : Evt (fun k => spec_VotesOk.f k l) (fun r => r = votesOk l) := by
  have key : ∀ (d i : Nat), i + d = l.length → Evt (fun k => spec_VotesOk.l0 k l (i : Int)) (fun r => r = votesFrom (l.take i) (l.drop i)) := by
    intro d
    induction d with
    | zero =>
      intro i hd
      rw [List.drop_eq_nil_of_le (by omega)]
      exact Evt.step (f := fun _ => some true) (fun k => by simp only [spec_VotesOk.l0]; rw [if_neg (by omega)]) (Evt.now _ rfl)
    | succ d ih =>
      intro i hd
      have hi : i < l.length := by omega
      have ihs := ih (i + 1) (by omega)
      rw [take_vt hi] at ihs
      rw [drop_vt hi, votesFrom]
      refine Evt.step (fun k => by simp only [spec_VotesOk.l0]; rw [if_pos (by omega), if_pos (by omega), wrap_succ (by omega), Int.toNat_natCast]) ?_
      refine Evt.bind (l3Vote_ends _ _ (hb _ (rdVt_mem hi))) fun t ht => ?_
      rw [← ht]
      refine Evt.ite (fun h => ?_) fun h => Evt.now _ (by rw [Bool.eq_false_iff.2 h]; rfl)
      rw [h]
      refine Evt.pos (by omega) ?_
      refine Evt.bind (l3Has_ends (l.take i) _ _ (by rw [List.length_take]; omega) (fun v hv => hb v (List.mem_of_mem_take hv))) fun u hu => ?_
      rw [← hu]
      refine Evt.ite (fun h => Evt.now _ (by rw [h]; rfl)) fun h => ihs.mono fun r hr => ?_
      rw [hr, Bool.eq_false_iff.2 h]
      rfl
  exact key l.length 0 (by omega)
def votesFor (l : List Vt) (c : List It) : List Int := if votesOk l = true then forC l c else []
theorem votesFor_le (l : List Vt) (c : List It) : (votesFor l c).length ≤ 4 := by
  unfold votesFor
  split
  · exact for_le l c
  · simp
theorem votesFor_impl (l : List Vt) (c : List It) (hl : l.length ≤ 4611686018427387900) (hb : ∀ v, v ∈ l → v.f1.length ≤ 4611686018427387900) (hc : c.length ≤ 4611686018427387900) : Evt (fun k => impl_VotesFor.f k l c) (fun r => r = votesFor l c) := by
  simp only [impl_VotesFor.f]
  unfold votesFor
  refine Evt.bind (votesOk_impl l hl hb) fun t ht => ?_
  rw [← ht]
  refine Evt.ite (fun h => ?_) fun h => Evt.now _ (if_neg h).symm
  rw [if_pos h]
  exact Evt.bind (voters_ends l c hl hc) fun t ht => Evt.now _ ht
theorem votesFor_spec (l : List Vt) (c : List It) (hl : l.length ≤ 4611686018427387900) (hb : ∀ v, v ∈ l → v.f1.length ≤ 4611686018427387900) (hc : c.length ≤ 4611686018427387900) : Evt (fun k => spec_VotesFor.f k l c) (fun r => r = votesFor l c) := by
  have step : ∀ (n : Int) (x : List Int) (Q : List Int → Prop), n ≤ 4 → 1 ≤ n → x.length ≤ 4 → Evt (fun k => spec_VotesFor.l0 k l c (x ++ (if hasV l n c = true then [n] else [])) (n + 1)) Q → Evt (fun k => spec_VotesFor.l0 k l c x n) Q := by
    intro n x Q h1 h2 hx hk
    have w : wrap64 (n + 1) = n + 1 := by unfold wrap64; omega
    refine Evt.step (fun k => by simp only [spec_VotesFor.l0, w]; rw [if_pos h1]) ?_
    refine Evt.bind (l3Has_ends l n c hl hb) fun t ht => ?_
    rw [← ht] at hk
    refine Evt.ite (fun h => Evt.pos (by omega) ?_) fun h => ?_
    · rw [if_pos h] at hk; exact hk
    · rw [if_neg h, List.append_nil] at hk; exact hk
  have h1 : ∀ (n : Int) (x : List Int), (x ++ (if hasV l n c = true then [n] else [])).length ≤ x.length + 1 := by
    intro n x; rw [List.length_append]; split <;> simp
  simp only [spec_VotesFor.f]
  unfold votesFor
  refine Evt.bind (P := fun r => r = []) (Evt.now _ rfl) fun y0 hy0 => ?_
  subst hy0
  refine Evt.bind (votesOk_spec l hl hb) fun t ht => ?_
  rw [← ht]
  refine Evt.ite (fun h => ?_) fun h => Evt.now _ (if_neg h).symm
  rw [if_pos h]
  have a1 := h1 1 []
  have a2 := h1 2 ([] ++ (if hasV l 1 c = true then [1] else []))
  have a3 := h1 3 (([] ++ (if hasV l 1 c = true then [1] else [])) ++ (if hasV l 2 c = true then [2] else []))
  refine step 1 [] _ (by omega) (by omega) (by simp) ?_
  refine step 2 _ _ (by omega) (by omega) (by simp only [List.length_nil] at a1; omega) ?_
  refine step 3 _ _ (by omega) (by omega) (by simp only [List.length_nil] at a1; omega) ?_
  refine step 4 _ _ (by omega) (by omega) (by simp only [List.length_nil] at a1; omega) ?_
  exact Evt.step (f := fun _ => some _) (fun k => by simp only [spec_VotesFor.l0]; rw [if_neg (by omega)]) (Evt.now _ (forC_eq l c))
theorem eqIntS_ends (a b : List Int) (hl : a.length ≤ 4611686018427387900) : Evt (fun k => laws_eqIntS.f k a b) (fun r => r = decide (a = b)) := by
  by_cases h : (a.length : Int) = (b.length : Int)
  · have hn : a.length = b.length := by omega
    have key : ∀ (d i : Nat), i + d = a.length → Evt (fun k => laws_eqIntS.l0 k a b (i : Int)) (fun r => r = decide (a.drop i = b.drop i)) := by
      intro d
      induction d with
      | zero =>
        intro i hd
        refine Evt.step (f := fun _ => some true) (fun k => by simp only [laws_eqIntS.l0]; rw [if_neg (by omega)]) (Evt.now _ ?_)
        rw [List.drop_eq_nil_of_le (by omega), List.drop_eq_nil_of_le (by omega)]
        simp
      | succ d ih =>
        intro i hd
        rw [drop_rd (l := a) (i := i) (by omega), drop_rd (l := b) (i := i) (by omega)]
        by_cases hx : rd a (i : Int) = rd b (i : Int)
        · refine Evt.step (f := fun k => laws_eqIntS.l0 k a b ((i + 1 : Nat) : Int)) (fun k => by
            simp only [laws_eqIntS.l0]
            rw [if_pos (by omega), if_pos (by omega), if_pos (by omega), if_pos hx, wrap_succ (by omega)]) ?_
          refine (ih (i + 1) (by omega)).mono (fun r hr => ?_)
          rw [hr]
          simp [hx]
        · refine Evt.step (f := fun _ => some false) (fun k => by
            simp only [laws_eqIntS.l0]
            rw [if_pos (by omega), if_pos (by omega), if_pos (by omega), if_neg hx]) (Evt.now _ ?_)
          simp [hx]
    refine (Evt.congr (fun k => by unfold laws_eqIntS.f; rw [if_pos h]; rfl) (key a.length 0 (by omega))).mono (fun r hr => ?_)
    simpa using hr
  · refine Evt.congr (fun k => by unfold laws_eqIntS.f; rw [if_neg h]) (Evt.now _ ?_)
    have : a ≠ b := by
      rintro rfl
      exact h rfl
    simp [this]
/-- Numbers from a on. -/
def ups (a : Int) : Nat → List Int
  | 0 => []
  | n + 1 => a :: ups (a + 1) n
theorem ups_length (n : Nat) : ∀ a, (ups a n).length = n := by
  induction n with
  | zero => intro a; rfl
  | succ n ih => intro a; rw [ups, List.length_cons, ih]
theorem ups_get (n : Nat) : ∀ (a : Int) (i : Nat), i < n → (ups a n)[i]? = some (a + (i : Int)) := by
  induction n with
  | zero => intro a i h; omega
  | succ n ih =>
    intro a i h
    cases i with
    | zero => rw [ups]; simp
    | succ i =>
      rw [ups, List.getElem?_cons_succ, ih (a + 1) i (by omega)]
      congr 1
      omega
theorem ups_rd {a : Int} {n i : Nat} (h : i < n) : rd (ups a n) (i : Int) = a + (i : Int) := by
  have h1 := ups_get n a i h
  have h2 := rd_get (l := ups a n) (i := i) (by rw [ups_length]; exact h)
  rw [h1] at h2
  exact (Option.some.inj h2).symm
theorem markIntS_ends (l : List Int) (a : Int) (h0 : 0 ≤ a) (h1 : a ≤ 1000000000) (hl : l.length ≤ 1048576) : Evt (fun k => laws_markIntS.f k l a) (fun r => r = (a + (l.length : Int), ups a l.length)) := by
  have key : ∀ (d i : Nat) (x : List Int), i + d = l.length → x.length = l.length → x.take i = (ups a l.length).take i → Evt (fun k => laws_markIntS.l0 k x (a + (i : Int)) (i : Int)) (fun r => r = (a + (l.length : Int), ups a l.length)) := by
    intro d
    induction d with
    | zero =>
      intro i x hd hx ht
      have e : i = l.length := by omega
      subst e
      refine Evt.step (f := fun _ => some (a + (l.length : Int), x)) (fun k => by simp only [laws_markIntS.l0]; rw [if_neg (by omega)]) (Evt.now _ ?_)
      rw [List.take_of_length_le (by omega), List.take_of_length_le (by rw [ups_length]; omega)] at ht
      rw [ht]
    | succ d ih =>
      intro i x hd hx ht
      have w : wrap64 (a + (i : Int) + 1) = a + ((i + 1 : Nat) : Int) := by unfold wrap64; omega
      refine Evt.step (fun k => by simp only [laws_markIntS.l0, w]; rw [if_pos (by omega), if_pos (by omega), wrap_succ (by omega), Int.toNat_natCast]) ?_
      exact ih (i + 1) _ (by omega) (by rw [List.length_set]; exact hx) (take_set_succ (by rw [ups_length, hx]) (by rw [ups_length]; omega) ht (ups_get _ _ _ (by omega)))
  simp only [laws_markIntS.f]
  have := key l.length 0 l (by omega) rfl (by simp)
  simpa using this
theorem heldIntS_ends (n : Nat) (a : Int) (h0 : 0 ≤ a) (h1 : a ≤ 1000000000) (hl : n ≤ 1048576) : Evt (fun k => laws_heldIntS.f k (ups a n) a) (fun r => r = a + (n : Int)) := by
  have hn := ups_length n a
  have key : ∀ (d i : Nat), i + d = n → Evt (fun k => laws_heldIntS.l0 k (ups a n) (a + (i : Int)) (i : Int)) (fun r => r = a + (n : Int)) := by
    intro d
    induction d with
    | zero =>
      intro i hd
      have e : i = n := by omega
      subst e
      exact Evt.step (f := fun _ => some (a + (i : Int))) (fun k => by simp only [laws_heldIntS.l0]; rw [if_neg (by omega)]) (Evt.now _ rfl)
    | succ d ih =>
      intro i hd
      have w : wrap64 (a + (i : Int) + 1) = a + ((i + 1 : Nat) : Int) := by unfold wrap64; omega
      refine Evt.step (fun k => by simp only [laws_heldIntS.l0, w]; rw [if_pos (by omega), if_pos (by omega), if_pos (ups_rd (by omega)), wrap_succ (by omega)]) ?_
      exact ih (i + 1) (by omega)
  simp only [laws_heldIntS.f]
  have := key n 0 (by omega)
  simpa using this
def mk4 (a : Int) : It := ⟨a, ⟨a + 1, a + 2, a + 3⟩⟩
/-- Items of numbers from a on. -/
def upsI (a : Int) : Nat → List It
  | 0 => []
  | n + 1 => mk4 a :: upsI (a + 4) n
theorem upsI_length (n : Nat) : ∀ a, (upsI a n).length = n := by
  induction n with
  | zero => intro a; rfl
  | succ n ih => intro a; rw [upsI, List.length_cons, ih]
theorem upsI_get (n : Nat) : ∀ (a : Int) (i : Nat), i < n → (upsI a n)[i]? = some (mk4 (a + 4 * (i : Int))) := by
  induction n with
  | zero => intro a i h; omega
  | succ n ih =>
    intro a i h
    cases i with
    | zero => rw [upsI]; simp
    | succ i =>
      rw [upsI, List.getElem?_cons_succ, ih (a + 4) i (by omega)]
      congr 2
      omega
theorem upsI_rd {a : Int} {n i : Nat} (h : i < n) : rd_T58 (upsI a n) (i : Int) = mk4 (a + 4 * (i : Int)) := by
  have h1 := upsI_get n a i h
  have h2 := rdIt_get (l := upsI a n) (i := i) (by rw [upsI_length]; exact h)
  rw [h1] at h2
  exact (Option.some.inj h2).symm
theorem rdIt_set {l : List It} {i : Nat} (x : It) (h : i < l.length) : rd_T58 (l.set i x) (i : Int) = x := by
  have h2 := rdIt_get (l := l.set i x) (i := i) (by rw [List.length_set]; exact h)
  rw [List.getElem?_set_self h] at h2
  exact (Option.some.inj h2).symm
theorem markItemS_ends (l : List It) (a : Int) (h0 : 0 ≤ a) (h1 : a ≤ 1000000000000000) (hl : l.length ≤ 1048576) : Evt (fun k => laws_markItemS.f k l a) (fun r => r = (a + 4 * (l.length : Int), upsI a l.length)) := by
  have key : ∀ (d i : Nat) (x : List It), i + d = l.length → x.length = l.length → x.take i = (upsI a l.length).take i → Evt (fun k => laws_markItemS.l0 k x (a + 4 * (i : Int)) (i : Int)) (fun r => r = (a + 4 * (l.length : Int), upsI a l.length)) := by
    intro d
    induction d with
    | zero =>
      intro i x hd hx ht
      have e : i = l.length := by omega
      subst e
      refine Evt.step (f := fun _ => some (a + 4 * (l.length : Int), x)) (fun k => by simp only [laws_markItemS.l0]; rw [if_neg (by omega)]) (Evt.now _ ?_)
      rw [List.take_of_length_le (by omega), List.take_of_length_le (by rw [upsI_length]; omega)] at ht
      rw [ht]
    | succ d ih =>
      intro i x hd hx ht
      have hi : i < x.length := by omega
      have w1 : wrap64 (a + 4 * (i : Int) + 1) = a + 4 * (i : Int) + 1 := wrap64_small (by omega) (by omega)
      have w2 : wrap64 (a + 4 * (i : Int) + 1 + 1) = a + 4 * (i : Int) + 2 := by rw [wrap64_small (by omega) (by omega)]; omega
      have w3 : wrap64 (a + 4 * (i : Int) + 2 + 1) = a + 4 * (i : Int) + 3 := by rw [wrap64_small (by omega) (by omega)]; omega
      have w4 : wrap64 (a + 4 * (i : Int) + 3 + 1) = a + 4 * ((i + 1 : Nat) : Int) := by rw [wrap64_small (by omega) (by omega)]; omega
      refine Evt.step (fun k => by simp only [laws_markItemS.l0, w1, w2, w3, w4, Int.toNat_natCast]; rw [if_pos (by omega), if_pos (by omega), wrap_succ (by omega)]) ?_
      refine Evt.bind (P := fun r => r = x.set i _) (Evt.now _ rfl) fun y1 hy1 => ?_
      refine Evt.bind (P := fun r => r = y1.set i _) (Evt.now _ rfl) fun y2 hy2 => ?_
      refine Evt.bind (P := fun r => r = y2.set i _) (Evt.now _ rfl) fun y3 hy3 => ?_
      have e1 := rdIt_set (l := x) _ hi ▸ congrArg (fun z => rd_T58 z (i : Int)) hy1
      try simp only at e1
      rw [e1, hy1, List.set_set] at hy2
      have e2 := rdIt_set (l := x) _ hi ▸ congrArg (fun z => rd_T58 z (i : Int)) hy2
      try simp only at e2
      rw [e2, hy2, List.set_set] at hy3
      have e3 := rdIt_set (l := x) _ hi ▸ congrArg (fun z => rd_T58 z (i : Int)) hy3
      try simp only at e3
      rw [e3, hy3, List.set_set]
      exact ih (i + 1) _ (by omega) (by rw [List.length_set]; exact hx) (take_set_succ (by rw [upsI_length, hx]) (by rw [upsI_length]; omega) ht (upsI_get _ _ _ (by omega)))
  simp only [laws_markItemS.f]
  have := key l.length 0 l (by omega) rfl (by simp)
  simpa using this

end Go.Proofs.Ytknmmkgaijndfaa.Pure
