/- Arguments of any kind are opened: what reads as data reads as a Lean value of its kind. Conditions: none. -/
import Derived.Test.YtknmmkgaijndfaaUMore
import Derived.Deep.Slices
import Derived.ChangeArms
namespace Go.Proofs.YtknmmkgaijndfaaE
open Go.ChangeShapes Go.WideShapes Go.Deep Go.Proofs.YtknmmkgaijndfaaW.PrintWords
/-- Whatever reads as data of type t is a value of the kind d, and Q holds of it. -/
structure Opn {H : Type} (enc : TypeId × Value → H) (P : Program) (t : TypeId) {α : Type} (d : Kd α) (Q : α → Prop) : Prop where
  sz : P.cellsOf t = d.sz
  op : ∀ {w : World} {base : Nat} {spare : Nat → Bool} {held : Bool} {fuel : Nat} {cs : List Value} {x : DataW H × List MemPlace}, DataW.trod enc P w base spare held fuel t cs = some x → ∃ a, d.K w a cs ∧ Q a
section
variable {H : Type} {enc : TypeId × Value → H} {P : Program} {t e : TypeId} {α β : Type} {d : Kd α} {d2 : Kd β} {Q : α → Prop} {Q2 : β → Prop}
theorem Opn.int {k : IntKind} (ht : P.underlying t = some (.int k)) (hC : P.cellsOf t = 1) : Opn enc P t (Kd.int k) (fun n => (Lit.int k n).wf = true) :=
  ⟨hC, fun h => by
    obtain ⟨n, rfl, _, hw⟩ := DataW.trod_int ht h
    exact ⟨n, rfl, hw⟩⟩
theorem Opn.bool (ht : P.underlying t = some .bool) (hC : P.cellsOf t = 1) : Opn enc P t Kd.bool (fun _ => True) :=
  ⟨hC, fun h => by
    obtain ⟨n, rfl, _⟩ := DataW.trod_bool ht h
    exact ⟨n, rfl, trivial⟩⟩
theorem Opn.string (ht : P.underlying t = some .string) (hC : P.cellsOf t = 1) : Opn enc P t Kd.string (fun s => s.size ≤ 9223372036854775807) :=
  ⟨hC, fun h => by
    obtain ⟨n, rfl, _, hs⟩ := DataW.trod_string ht h
    exact ⟨n, rfl, hs⟩⟩
theorem listOf {Q : Nat → α → Prop} : ∀ m : Nat, (∀ i, i < m → ∃ a, Q i a) → ∃ xs : List α, xs.length = m ∧ ∀ (j : Nat) (p : α), xs[j]? = some p → Q j p
  | 0, _ => ⟨[], rfl, fun j p h => by simp at h⟩
  | m + 1, h => by
    obtain ⟨xs, hl, hx⟩ := listOf m (fun i hi => h i (by omega))
    obtain ⟨a, ha⟩ := h m (by omega)
    refine ⟨xs ++ [a], by simp [hl], fun j p hj => ?_⟩
    rcases Nat.lt_or_ge j xs.length with hlt | hge
    · rw [List.getElem?_append_left hlt] at hj
      exact hx j p hj
    · rw [List.getElem?_append_right hge] at hj
      have hj0 : j - xs.length = 0 := by
        have := (List.getElem?_eq_some_iff.1 hj).1
        simp at this
        omega
      rw [hj0] at hj
      have hp : a = p := by simpa using hj
      have hjm : j = m := by omega
      rw [← hp, hjm]
      exact ha
theorem Opn.slice (ht : P.underlying t = some (.slice e)) (hC : P.cellsOf t = 1) (hd : Opn enc P e d Q) : Opn enc P t (Kd.slice e d) (fun xs => ∀ x, x ∈ xs → Q x) :=
  ⟨hC, fun {w} {base} {spare} {held} {fuel} {cs} {x} h => by
    rcases open_slice ht h with ⟨rfl, _⟩ | ⟨a, len, cap, m, n, D, Pl, rfl, _, hl, hm, hmm, _, hi⟩
    · exact ⟨[], ⟨none, 0, rfl, Nat.le_refl _, Kd.C_nil _ _⟩, fun x hx => by cases hx⟩
    · have hlm : len ≤ m := by rw [hmm]; split <;> omega
      have he : ∀ i, i < len → ∃ x : α, Q x ∧ ∃ c, c.length = d.sz ∧ d.K w x c ∧ ∀ j u, c[j]? = some u → w.cell? (a.add (i * d.sz + j)) = some u := by
        intro i hil
        obtain ⟨cs', hc, ht'⟩ := hi i (by omega)
        obtain ⟨y, hy, hQ⟩ := hd.op ht'
        obtain ⟨_, hcl, hat⟩ := World.cells?_some hc
        rw [hd.sz] at hcl hat
        refine ⟨y, hQ, cs', hcl, hy, fun j u hu => ?_⟩
        have hj : j < d.sz := by
          have := (List.getElem?_eq_some_iff.1 hu).1
          omega
        have h2 := hat j hj
        rw [Go.Deep.add_add, hu] at h2
        exact h2
      obtain ⟨xs, hxl, hx⟩ := listOf len he
      have hmx : maxLen = 9223372036854775807 := rfl
      exact ⟨xs, ⟨some a, cap, by rw [hxl], by omega, rfl, by omega, fun _ => ⟨a, rfl, fun j p hj => (hx j p hj).2⟩⟩, fun x hxm => by
        obtain ⟨j, hj⟩ := List.getElem?_of_mem hxm
        exact (hx j x hj).1⟩⟩
/-- The fields of a struct, from the one at 'off' on. -/
structure OpnF {H : Type} (enc : TypeId × Value → H) (P : Program) (fs : List Field) (off : Nat) {α : Type} (d : Kd α) (Q : α → Prop) : Prop where
  op : ∀ {w : World} {base : Nat} {spare : Nat → Bool} {held : Bool} {n : Nat} (cs : List Value), cs.length = off + d.sz → (∀ f, f ∈ fs → ∃ y, DataW.trod enc P w base spare held n f.type ((cs.drop f.offset).take (P.cellsOf f.type)) = some y) → ∃ a, d.K w a (cs.drop off) ∧ Q a
theorem OpnF.last {f : Field} {off : Nat} (ho : f.offset = off) (h : Opn enc P f.type d Q) : OpnF enc P [f] off d Q :=
  ⟨fun {w} {base} {spare} {held} {n} cs hl hf => by
    obtain ⟨y, hy⟩ := hf f (List.mem_singleton.2 rfl)
    rw [ho, h.sz, List.take_of_length_le (by rw [List.length_drop]; omega)] at hy
    exact h.op hy⟩
theorem OpnF.cons {f : Field} {fs : List Field} {off : Nat} (ho : f.offset = off) (h : Opn enc P f.type d Q) (hr : OpnF enc P fs (off + d.sz) d2 Q2) : OpnF enc P (f :: fs) off (Kd.pair d d2) (fun p => Q p.1 ∧ Q2 p.2) :=
  ⟨fun {w} {base} {spare} {held} {n} cs hl hf => by
    obtain ⟨y, hy⟩ := hf f List.mem_cons_self
    rw [ho, h.sz] at hy
    obtain ⟨a, ha, hqa⟩ := h.op hy
    have hl2 : cs.length = off + (d.sz + d2.sz) := hl
    obtain ⟨b, hb, hqb⟩ := hr.op cs (by omega) (fun g hg => hf g (List.mem_cons_of_mem _ hg))
    refine ⟨(a, b), ⟨_, _, ?_, ha, hb⟩, hqa, hqb⟩
    rw [← List.drop_drop, List.take_append_drop]⟩
theorem Opn.struct {fs : Array Field} {f : β → α} (ht : P.underlying t = some (.struct fs)) (hC : P.cellsOf t = d.sz) (hs : ∀ a, ∃ x, f x = a) (h : OpnF enc P fs.toList 0 d Q) : Opn enc P t (Kd.iso d f) (fun b => Q (f b)) :=
  ⟨hC, fun {w} {base} {spare} {held} {fuel} {cs} {x} hx => by
    obtain ⟨ys, n, _, _, hlen, hyl, hg⟩ := DataW.trod_struct ht hx
    obtain ⟨a, ha, hqa⟩ := h.op (w := w) (base := base) (spare := spare) (held := held) (n := n) cs (by omega) (fun g hgm => by
      obtain ⟨i, hi⟩ := List.getElem?_of_mem hgm
      have hi' : fs[i]? = some g := by simpa using hi
      have hil : i < ys.length := by
        have := (Array.getElem?_eq_some_iff.1 hi').1
        omega
      exact ⟨_, (hg i g hi').trans (List.getElem?_eq_getElem hil)⟩)
    obtain ⟨b, rfl⟩ := hs a
    exact ⟨b, ha, hqa⟩⟩
theorem Opn.weak (h : Opn enc P t d Q) : Opn enc P t d (fun _ => True) := ⟨h.sz, fun hx => by
  obtain ⟨a, ha, _⟩ := h.op hx
  exact ⟨a, ha, trivial⟩⟩
theorem Opn.value {w : World} {base : Nat} {spare : Nat → Bool} {held : Bool} {v : Value} {dd : DataW H} {ps : List MemPlace} (ho : Opn enc P t d Q) (h : DataW.Trod enc P w base spare held t v dd ps) : ∃ a, d.K w a v.cells.toList ∧ Q a := by
  obtain ⟨fuel, hf⟩ := h
  exact ho.op hf
theorem agg_of {cs : Array Value} {l : List Value} (h : (Value.agg cs).cells.toList = l) : Value.agg cs = .agg l.toArray := by
  subst h
  simp [Value.cells]
end
end Go.Proofs.YtknmmkgaijndfaaE
