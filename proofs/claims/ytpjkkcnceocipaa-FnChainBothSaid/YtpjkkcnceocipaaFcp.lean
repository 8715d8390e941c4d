/- Plain facts on what the printed functions compute (cp). Conditions: each theorem's own. -/
import Derived.Test.YtpjkkcnceocipaaPx0
import Derived.Test.YtpjkkcnceocipaaPx27
import Derived.Test.YtpjkkcnceocipaaPx28
import Derived.Test.YtpjkkcnceocipaaPx29
import Derived.Test.YtpjkkcnceocipaaPx30
import Derived.Test.YtpjkkcnceocipaaFchainin
import Derived.Test.YtpjkkcnceocipaaFchaintake
import Derived.Test.YtpjkkcnceocipaaPlain
namespace Go.Proofs.Ytpjkkcnceocipaa.Pure
open Go.RowKit Go.Proofs.Ytpjkkcnceocipaa.P Go.Proofs.YtpjkkcnceocipaaW.PrintWords Go.Proofs.YtpjkkcnceocipaaW.PrintLast Go.Proofs.YtpjkkcnceocipaaW.PrintMore Go.Proofs.YtpjkkcnceocipaaE
set_option linter.unusedVariables false
set_option linter.unusedSimpArgs false

/-- How both begin. -/
def cp : List It → List It → List It
  | x :: xs, y :: ys => if x = y then x :: cp xs ys else []
  | _, _ => []
theorem cp_nil (a : List It) : cp a [] = [] := by cases a <;> rfl
theorem cp_cons_self (x : It) (xs ys : List It) : cp (x :: xs) (x :: ys) = x :: cp xs ys := by rw [cp, if_pos rfl]
theorem cp_cons_ne {x y : It} (h : x ≠ y) (xs ys : List It) : cp (x :: xs) (y :: ys) = [] := by rw [cp, if_neg h]
theorem cp_self (a : List It) : cp a a = a := by
  induction a with
  | nil => rfl
  | cons x xs ih => rw [cp_cons_self, ih]
theorem cp_comm (a : List It) : ∀ b, cp a b = cp b a := by
  induction a with
  | nil => intro b; rw [cp_nil]; rfl
  | cons x xs ih =>
    intro b
    cases b with
    | nil => rfl
    | cons y ys =>
      by_cases h : x = y
      · subst h; rw [cp_cons_self, cp_cons_self, ih]
      · rw [cp_cons_ne h, cp_cons_ne (fun e => h e.symm)]
theorem cp_assoc (a : List It) : ∀ b c, cp (cp a b) c = cp a (cp b c) := by
  induction a with
  | nil => intro b c; rfl
  | cons x xs ih =>
    intro b c
    cases b with
    | nil => rfl
    | cons y ys =>
      cases c with
      | nil => rw [cp_nil, cp_nil, cp_nil]
      | cons z zs =>
        by_cases h : x = y
        · subst h
          by_cases h2 : x = z
          · subst h2; rw [cp_cons_self, cp_cons_self, cp_cons_self, cp_cons_self, ih]
          · rw [cp_cons_self, cp_cons_ne h2, cp_cons_ne h2, cp_nil]
        · rw [cp_cons_ne h]
          by_cases h2 : y = z
          · subst h2; rw [cp_cons_self, cp_cons_ne h]; rfl
          · rw [cp_cons_ne h2]; rfl
theorem cp_prefix (a : List It) : ∀ b, cp a b <+: a := by
  induction a with
  | nil => intro b; exact List.nil_prefix
  | cons x xs ih =>
    intro b
    cases b with
    | nil => exact List.nil_prefix
    | cons y ys =>
      by_cases h : x = y
      · subst h; rw [cp_cons_self]; exact (List.prefix_cons_inj _).2 (ih ys)
      · rw [cp_cons_ne h]; exact List.nil_prefix
theorem cp_len (a b : List It) : (cp a b).length ≤ a.length := (cp_prefix a b).length_le
theorem cp_eq_iff (a : List It) : ∀ b, cp a b = a ↔ a <+: b := by
  induction a with
  | nil => intro b; exact ⟨fun _ => List.nil_prefix, fun _ => rfl⟩
  | cons x xs ih =>
    intro b
    cases b with
    | nil => exact ⟨fun h => (by cases h), fun h => absurd h.length_le (by simp)⟩
    | cons y ys =>
      by_cases h : x = y
      · subst h; rw [cp_cons_self, List.prefix_cons_inj, ← ih ys]; simp
      · rw [cp_cons_ne h]
        exact ⟨fun h => (by cases h), fun h2 => absurd (List.cons_prefix_cons.1 h2).1 h⟩
theorem chainOk_cp {a : List It} (b : List It) (h : chainOk a = true) : chainOk (cp a b) = true := by
  rw [List.prefix_iff_eq_take.1 (cp_prefix a b)]
  exact chainOk_take _ h
/-- Behind it the two differ, or one of them ends. -/
theorem cp_stop (a : List It) : ∀ b, (cp a b).length < a.length → (cp a b).length < b.length → rd_T34 a ((cp a b).length : Int) ≠ rd_T34 b ((cp a b).length : Int) := by
  induction a with
  | nil => intro b h; exact absurd h (Nat.not_lt_zero _)
  | cons x xs ih =>
    intro b
    cases b with
    | nil => intro _ h; exact absurd h (Nat.not_lt_zero _)
    | cons y ys =>
      by_cases h : x = y
      · subst h
        rw [cp_cons_self]
        intro h1 h2
        exact ih ys (Nat.lt_of_succ_lt_succ h1) (Nat.lt_of_succ_lt_succ h2)
      · rw [cp_cons_ne h]
        intro _ _
        exact h
def both (a b : List It) : List It := if chainOk a = true then (if chainOk b = true then cp a b else []) else []
theorem both_len (a b : List It) : (both a b).length ≤ a.length := by
  unfold both
  split
  · split
    · exact cp_len a b
    · simp
  · simp
theorem both_of {a b : List It} (ha : chainOk a = true) (hb : chainOk b = true) : both a b = cp a b := by rw [both, if_pos ha, if_pos hb]
theorem take_snoc {a : List It} {i : Nat} (h : i < a.length) (t : List It) : a.take i ++ rd_T34 a (i : Int) :: t = a.take (i + 1) ++ t := by
  rw [List.take_add_one, rdIt_get h]
  simp
theorem copied_eq (l : List It) (h : l.length ≤ 1000000000) : impl_copied.f l = some l := by
  unfold impl_copied.f impl_Item_48.f
  rw [if_pos (by omega)]
theorem l1Copy_eq (l : List It) (h : l.length ≤ 1000000000) : spec_l1Copy.f l = some l := by
  unfold spec_l1Copy.f
  rw [Option.bind_some, if_pos (by simp; omega)]
  rfl
theorem both_impl (a b : List It) (ha : a.length ≤ 1000000000) (hb : b.length ≤ 1000000000) : Evt (fun k => impl_ChainBoth.f k a b) (fun r => r = both a b) := by
  have key : ∀ (d i : Nat), i + d = a.length → Evt (fun k => impl_ChainBoth.l0 k a b (i : Int)) (fun r => r = a.take i ++ cp (a.drop i) (b.drop i)) := by
    intro d
    induction d with
    | zero =>
      intro i hd
      have stop : a.take i ++ cp (a.drop i) (b.drop i) = a.take i := by
        rw [List.drop_eq_nil_of_le (show a.length ≤ i by omega)]
        show a.take i ++ [] = _
        rw [List.append_nil]
      refine Evt.step (f := fun _ => some (a.take i)) (fun k => ?_) (Evt.now _ stop.symm)
      simp only [impl_ChainBoth.l0, Int.toNat_natCast]
      by_cases h : (b.length : Int) < (a.length : Int)
      · rw [if_pos h, if_neg (by omega), if_pos (by omega), if_pos (by omega), copied_eq _ (by rw [List.length_take]; omega)]
        rfl
      · rw [if_neg h, if_neg (by omega), if_pos (by omega), if_pos (by omega), copied_eq _ (by rw [List.length_take]; omega)]
        rfl
    | succ d ih =>
      intro i hd
      have hi : i < a.length := by omega
      by_cases hb' : i < b.length
      · rw [drop_it hi, drop_it hb']
        by_cases he : rd_T34 a (i : Int) = rd_T34 b (i : Int)
        · rw [← he, cp_cons_self, take_snoc hi]
          refine Evt.step (f := fun k => impl_ChainBoth.l0 k a b ((i + 1 : Nat) : Int)) (fun k => ?_) (ih (i + 1) (by omega))
          simp only [impl_ChainBoth.l0]
          by_cases h : (b.length : Int) < (a.length : Int)
          · rw [if_pos h, if_pos (by omega), if_pos (by omega), if_pos (by omega), if_pos (by rw [eq_it]; exact he), wrap_succ (by omega)]
          · rw [if_neg h, if_pos (by omega), if_pos (by omega), if_pos (by omega), if_pos (by rw [eq_it]; exact he), wrap_succ (by omega)]
        · rw [cp_cons_ne he, List.append_nil]
          refine Evt.step (f := fun _ => some (a.take i)) (fun k => ?_) (Evt.now _ rfl)
          simp only [impl_ChainBoth.l0, Int.toNat_natCast]
          by_cases h : (b.length : Int) < (a.length : Int)
          · rw [if_pos h, if_pos (by omega), if_pos (by omega), if_pos (by omega), if_neg (by rw [eq_it]; exact he), if_pos (by omega), copied_eq _ (by rw [List.length_take]; omega)]
            rfl
          · rw [if_neg h, if_pos (by omega), if_pos (by omega), if_pos (by omega), if_neg (by rw [eq_it]; exact he), if_pos (by omega), copied_eq _ (by rw [List.length_take]; omega)]
            rfl
      · rw [List.drop_eq_nil_of_le (show b.length ≤ i by omega), cp_nil, List.append_nil]
        refine Evt.step (f := fun _ => some (a.take i)) (fun k => ?_) (Evt.now _ rfl)
        simp only [impl_ChainBoth.l0, Int.toNat_natCast]
        rw [if_pos (by omega), if_neg (by omega), if_pos (by omega), if_pos (by omega), copied_eq _ (by rw [List.length_take]; omega)]
        rfl
  simp only [impl_ChainBoth.f]
  have none : Evt (fun k => impl_ChainBoth.j0 k a b true) (fun r => r = []) := Evt.step (f := fun _ => some []) (fun k => by simp only [impl_ChainBoth.j0, if_true]) (Evt.now _ rfl)
  refine Evt.bind (chainOk_impl a (by omega)) fun s hs => ?_
  subst hs
  unfold both
  cases h1 : chainOk a with
  | false => exact Evt.neg (by decide) none
  | true =>
    refine Evt.pos rfl (Evt.bind (chainOk_impl b (by omega)) fun t ht => ?_)
    subst ht
    cases h2 : chainOk b with
    | false => exact none
    | true =>
      refine Evt.step (f := fun k => impl_ChainBoth.l0 k a b ((0 : Nat) : Int)) (fun k => by simp only [impl_ChainBoth.j0]; rw [if_neg (by decide)]; rfl) ?_
      exact key a.length 0 (by omega)
theorem both_spec (a b : List It) (ha : a.length ≤ 1000000000) (hb : b.length ≤ 1000000000) : Evt (fun k => spec_ChainBoth.f k a b) (fun r => r = both a b) := by
  have key : ∀ (d i : Nat), i + d = a.length → Evt (fun k => spec_ChainBoth.l0 k a b (i : Int)) (fun r => r = a.take i ++ cp (a.drop i) (b.drop i)) := by
    intro d
    induction d with
    | zero =>
      intro i hd
      have stop : a.take i ++ cp (a.drop i) (b.drop i) = a.take i := by
        rw [List.drop_eq_nil_of_le (show a.length ≤ i by omega)]
        show a.take i ++ [] = _
        rw [List.append_nil]
      refine Evt.step (f := fun _ => some (a.take i)) (fun k => ?_) (Evt.now _ stop.symm)
      simp only [spec_ChainBoth.l0, Int.toNat_natCast]
      rw [if_neg (by omega), if_pos (by omega), if_pos (by omega), l1Copy_eq _ (by rw [List.length_take]; omega)]
      rfl
    | succ d ih =>
      intro i hd
      have hi : i < a.length := by omega
      by_cases hb' : i < b.length
      · rw [drop_it hi, drop_it hb']
        by_cases he : rd_T34 a (i : Int) = rd_T34 b (i : Int)
        · rw [← he, cp_cons_self, take_snoc hi]
          refine Evt.step (f := fun k => spec_ChainBoth.l0 k a b ((i + 1 : Nat) : Int)) (fun k => ?_) (ih (i + 1) (by omega))
          simp only [spec_ChainBoth.l0]
          rw [if_pos (by omega), if_pos (by omega), if_pos (by omega), if_pos (by rw [eq_it]; exact he), wrap_succ (by omega)]
        · rw [cp_cons_ne he, List.append_nil]
          refine Evt.step (f := fun _ => some (a.take i)) (fun k => ?_) (Evt.now _ rfl)
          simp only [spec_ChainBoth.l0, Int.toNat_natCast]
          rw [if_pos (by omega), if_pos (by omega), if_pos (by omega), if_neg (by rw [eq_it]; exact he), if_pos (by omega), l1Copy_eq _ (by rw [List.length_take]; omega)]
          rfl
      · rw [List.drop_eq_nil_of_le (show b.length ≤ i by omega), cp_nil, List.append_nil]
        refine Evt.step (f := fun _ => some (a.take i)) (fun k => ?_) (Evt.now _ rfl)
        simp only [spec_ChainBoth.l0, Int.toNat_natCast]
        rw [if_pos (by omega), if_neg (by omega), if_pos (by omega), if_pos (by omega), l1Copy_eq _ (by rw [List.length_take]; omega)]
        rfl
  simp only [spec_ChainBoth.f]
  have none : Evt (fun k => spec_ChainBoth.j0 k a b 0 true) (fun r => r = []) := Evt.step (f := fun _ => some []) (fun k => by simp only [spec_ChainBoth.j0, if_true]) (Evt.now _ rfl)
  refine Evt.bind (chainOk_spec a (by omega)) fun s hs => ?_
  subst hs
  unfold both
  cases h1 : chainOk a with
  | false => exact Evt.neg (by decide) none
  | true =>
    refine Evt.pos rfl (Evt.bind (chainOk_spec b (by omega)) fun t ht => ?_)
    subst ht
    cases h2 : chainOk b with
    | false => exact none
    | true =>
      refine Evt.step (f := fun k => spec_ChainBoth.l0 k a b ((0 : Nat) : Int)) (fun k => by simp only [spec_ChainBoth.j0]; rw [if_neg (by decide)]; rfl) ?_
      exact key a.length 0 (by omega)

end Go.Proofs.Ytpjkkcnceocipaa.Pure
