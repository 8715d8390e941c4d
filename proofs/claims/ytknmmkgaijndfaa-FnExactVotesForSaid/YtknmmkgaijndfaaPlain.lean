/- Plain lemmas on lists and numbers: no program in sight. -/
import Derived.Test.YtknmmkgaijndfaaEnds
namespace Go.Proofs.YtknmmkgaijndfaaE
open Go.RowKit Go.Proofs.YtknmmkgaijndfaaW.PrintWords
theorem wrap64_small {n : Int} (h0 : -4611686018427387904 ≤ n) (h1 : n ≤ 4611686018427387904) : wrap64 n = n := by
  unfold wrap64
  omega
theorem wrap_succ {i : Nat} (h : i ≤ 4611686018427387903) : wrap64 ((i : Int) + 1) = ((i + 1 : Nat) : Int) := by
  unfold wrap64
  omega
theorem take_set_succ {α : Type} {xs l : List α} {i : Nat} {v : α} (hl : xs.length = l.length) (hi : i < l.length) (ht : xs.take i = l.take i) (hv : l[i]? = some v) : (xs.set i v).take (i + 1) = l.take (i + 1) := by
  rw [List.take_succ_eq_append_getElem (by rw [List.length_set]; omega), List.take_succ_eq_append_getElem hi]
  have h1 : (xs.set i v).take i = xs.take i := by rw [List.take_set_of_le (Nat.le_refl _)]
  rw [h1, ht]
  congr 1
  have h2 : l[i] = v := by
    rw [List.getElem?_eq_getElem hi] at hv
    exact Option.some.inj hv
  simp [h2]
theorem rd_get {l : List Int} {i : Nat} (h : i < l.length) : l[i]? = some (rd l (i : Int)) := by
  unfold rd
  rw [Int.toNat_natCast, List.getD_eq_getElem?_getD, List.getElem?_eq_getElem h]
  rfl
theorem drop_rd {l : List Int} {i : Nat} (h : i < l.length) : l.drop i = rd l (i : Int) :: l.drop (i + 1) := by
  have e := rd_get h
  rw [List.getElem?_eq_getElem h] at e
  rw [List.drop_eq_getElem_cons h, Option.some.inj e]
/-- A loop that compares two lists, place by place. -/
theorem cmp_loop {α : Type} (a b : List α) (n : Nat) (G : Nat → Nat → Option Bool) (hstop : ∀ k, G (k + 1) n = some true) (hstep : ∀ i, i < n → a[i]? = b[i]? → ∀ k, G (k + 1) i = G k (i + 1)) (hne : ∀ i, i < n → a[i]? ≠ b[i]? → ∀ k, G (k + 1) i = some false) :
    Evt (fun k => G k 0) (fun r => r = true ↔ a.take n = b.take n) := by
  have key : ∀ (d i : Nat), i + d = n → Evt (fun k => G k i) (fun r => r = true ↔ ∀ j, i ≤ j → j < n → a[j]? = b[j]?) := by
    intro d
    induction d with
    | zero =>
      intro i hd
      have hi : i = n := by omega
      subst hi
      exact Evt.step (f := fun _ => some true) hstop (Evt.now _ ⟨fun _ j h1 h2 => by omega, fun _ => rfl⟩)
    | succ d ih =>
      intro i hd
      by_cases he : a[i]? = b[i]?
      · refine Evt.step (hstep i (by omega) he) ((ih (i + 1) (by omega)).mono fun r hr => hr.trans ⟨fun h j h1 h2 => ?_, fun h j h1 h2 => h j (by omega) h2⟩)
        rcases Nat.lt_or_ge i j with hlt | hge
        · exact h j hlt h2
        · have hij : j = i := by omega
          rw [hij]
          exact he
      · refine Evt.step (f := fun _ => some false) (hne i (by omega) he) (Evt.now _ ⟨fun h => (by cases h), fun h => absurd (h i (Nat.le_refl _) (by omega)) he⟩)
  refine (key n 0 (by omega)).mono fun r hr => hr.trans ⟨fun h => ?_, fun h j _ h2 => ?_⟩
  · apply List.ext_getElem?
    intro j
    rw [List.getElem?_take, List.getElem?_take]
    by_cases hj : j < n
    · rw [if_pos hj, if_pos hj]
      exact h j (Nat.zero_le _) hj
    · rw [if_neg hj, if_neg hj]
  · have := congrArg (fun l => l[j]?) h
    simpa [List.getElem?_take, h2] using this
/-- A loop that fills a list, place by place. -/
theorem copy_loop {α β : Type} (f : α → β) (l : List α) (G : Nat → List β → Nat → Option (List β)) (hstop : ∀ k xs, G (k + 1) xs l.length = some xs) (hstep : ∀ i x, l[i]? = some x → ∀ k xs, xs.length = l.length → G (k + 1) xs i = G k (xs.set i (f x)) (i + 1)) (xs0 : List β) (h0 : xs0.length = l.length) :
    Evt (fun k => G k xs0 0) (fun r => r = l.map f) := by
  have key : ∀ (d i : Nat) (xs : List β), i + d = l.length → xs.length = l.length → xs.take i = (l.map f).take i → Evt (fun k => G k xs i) (fun r => r = l.map f) := by
    intro d
    induction d with
    | zero =>
      intro i xs hd hx ht
      have hi : i = l.length := by omega
      subst hi
      refine Evt.step (f := fun _ => some xs) (fun k => hstop k xs) (Evt.now _ ?_)
      rwa [List.take_of_length_le (by omega), List.take_of_length_le (by simp)] at ht
    | succ d ih =>
      intro i xs hd hx ht
      have hil : i < l.length := by omega
      have hg : l[i]? = some l[i] := List.getElem?_eq_getElem hil
      refine Evt.step (fun k => hstep i _ hg k xs hx) (ih (i + 1) _ (by omega) (by rw [List.length_set]; exact hx) ?_)
      exact take_set_succ (by simp [hx]) (by simpa using hil) ht (by simp [hil])
  exact key l.length 0 xs0 (by omega) h0 (by simp)
theorem drop_getD {α : Type} {l : List α} {i : Nat} (d : α) (h : i < l.length) : l.drop i = l.getD i d :: l.drop (i + 1) := by
  rw [List.getD_eq_getElem?_getD, List.getElem?_eq_getElem h]
  exact List.drop_eq_getElem_cons h
theorem bool_iff {a b : Bool} {P : Prop} (ha : a = true ↔ P) (hb : b = true ↔ P) : a = b := by
  cases a <;> cases b <;> simp_all
theorem decide_of {a : Bool} {P : Prop} [Decidable P] (ha : a = true ↔ P) : a = decide P := by
  cases a <;> simp_all
end Go.Proofs.YtknmmkgaijndfaaE
