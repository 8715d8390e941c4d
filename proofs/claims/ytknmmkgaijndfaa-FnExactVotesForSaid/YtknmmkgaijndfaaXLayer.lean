/- Rows of the call's own whose capacity may have been cut: what is known of them, under the names that the printed contracts use. Conditions: each theorem's own. -/
import Derived.Test.YtknmmkgaijndfaaUExtra
namespace Go.Proofs.Ytknmmkgaijndfaa.PX
open Go.RowKit Go.Proofs.YtknmmkgaijndfaaW.PrintWords
namespace Kd
/-- A row of the call's own, its capacity perhaps cut. -/
def R {α : Type} (d : Go.Proofs.YtknmmkgaijndfaaW.PrintWords.Kd α) (e : Nat) (w : World) (base : Nat) (ok : Nat → Prop) (v : Value) (xs : List α) : Prop :=
  ∃ A c c', v = .slice A xs.length c ∧ (xs.length ≤ c ∧ c ≤ c') ∧ Go.Proofs.YtknmmkgaijndfaaW.PrintWords.Kd.R d e w base ok (.slice A xs.length c') xs
section
variable {α : Type} {d : Go.Proofs.YtknmmkgaijndfaaW.PrintWords.Kd α} {e : Nat} {w w1 W W2 : World} {base base' n cap g : Nat} {ok ok' S : Nat → Prop} {v u : Value} {xs ys : List α}
theorem blk_cap (A : Option Addr) (n c c' : Nat) : (Value.slice A n c).ownBlock = (Value.slice A n c').ownBlock := by cases A <;> rfl
theorem of_R (h : Go.Proofs.YtknmmkgaijndfaaW.PrintWords.Kd.R d e w base ok v xs) : R d e w base ok v xs := by
  obtain ⟨A, c, rfl, hl, _⟩ := Go.Proofs.YtknmmkgaijndfaaW.PrintWords.Kd.R_reads h
  exact ⟨A, c, c, rfl, ⟨hl, Nat.le_refl _⟩, h⟩
theorem clip {A : Option Addr} {c c2 : Nat} (h : R d e w base ok (.slice A n c) xs) (hc : n ≤ c2) (hc2 : c2 ≤ c) : R d e w base ok (.slice A n c2) xs := by
  obtain ⟨A', c1, c', hv, hl, hr⟩ := h
  injection hv with h1 h2 h3
  subst h1; subst h2; subst h3
  exact ⟨A, c2, c', rfl, ⟨hc, Nat.le_trans hc2 hl.2⟩, hr⟩
/-- What holds of every own row holds here. -/
theorem R_map (h : R d e w base ok v xs) (f : ∀ v', v'.ownBlock = v.ownBlock → Go.Proofs.YtknmmkgaijndfaaW.PrintWords.Kd.R d e w base ok v' xs → Go.Proofs.YtknmmkgaijndfaaW.PrintWords.Kd.R d e w1 base' ok' v' xs) : R d e w1 base' ok' v xs := by
  obtain ⟨A, c, c', rfl, hl, hr⟩ := h
  exact ⟨A, c, c', rfl, hl, f _ (blk_cap A _ _ _) hr⟩
theorem R_nil (d : Go.Proofs.YtknmmkgaijndfaaW.PrintWords.Kd α) (e : Nat) (w : World) (base : Nat) (ok : Nat → Prop) : R d e w base ok (.slice none 0 0) [] := of_R (Go.Proofs.YtknmmkgaijndfaaW.PrintWords.Kd.R_nil d e w base ok)
theorem R_mono (h : R d e w base ok v xs) (hok : ∀ k, ok k → ok' k) : R d e w base ok' v xs := R_map h fun _ _ hr => Go.Proofs.YtknmmkgaijndfaaW.PrintWords.Kd.R_mono hr hok
theorem R_bound (h : R d e w base ok v xs) : R d e w base (fun k => ok k ∧ base ≤ k ∧ k < w.heap.size ∧ ∃ q, q ∈ e :: d.E ∧ ∃ cells, w.heap[k]? = some (.cells cells q (0, 0))) v xs := R_map h fun _ _ hr => Go.Proofs.YtknmmkgaijndfaaW.PrintWords.Kd.R_bound hr
theorem R_step (h : R d e w base ok v xs) (hm : ∀ k, ok k → k < w.heap.size → w1.heap[k]? = w.heap[k]?) : R d e w1 base ok v xs := R_map h fun _ _ hr => Go.Proofs.YtknmmkgaijndfaaW.PrintWords.Kd.R_step hr hm
theorem R_below (h : R d e w base ok v xs) (hb : Below w.heap.size w w1) : R d e w1 base ok v xs := R_map h fun _ _ hr => Go.Proofs.YtknmmkgaijndfaaW.PrintWords.Kd.R_below hr hb
theorem R_lower (h : R d e w base ok v xs) (hb : base' ≤ base) : R d e w base' ok v xs := R_map h fun _ _ hr => Go.Proofs.YtknmmkgaijndfaaW.PrintWords.Kd.R_lower hr hb
theorem R_alloc (h : R d e w base ok v xs) (o : Obj) : R d e (w.alloc o) base ok v xs := R_map h fun _ _ hr => Go.Proofs.YtknmmkgaijndfaaW.PrintWords.Kd.R_alloc hr o
theorem R_drew (h : R d e w base ok v xs) : R d e w.drew base ok v xs := R_map h fun _ _ hr => Go.Proofs.YtknmmkgaijndfaaW.PrintWords.Kd.R_drew hr
theorem R_drewN (h : R d e w base ok v xs) (m : Nat) : R d e (w.drewN m) base ok v xs := R_map h fun _ _ hr => Go.Proofs.YtknmmkgaijndfaaW.PrintWords.Kd.R_drewN hr m
theorem R_grown (h : R d e w base ok v xs) {row : Option Nat} (hg : w.grownBy w1 row) (hok : ∀ k, ok k → some k ≠ row) : R d e w1 base ok v xs := R_map h fun _ _ hr => Go.Proofs.YtknmmkgaijndfaaW.PrintWords.Kd.R_grown hr hg hok
theorem R_far (h : R d e w base ok v xs) {p : Addr} (hok : ∀ k, ok k → k ≠ p.block) (x : Value) : R d e (w.setCell p x) base ok v xs := R_map h fun _ _ hr => Go.Proofs.YtknmmkgaijndfaaW.PrintWords.Kd.R_far hr hok x
theorem R_keep (h : R d e w base ok v xs) (hk : KeepBut w w1 g none) (hok : ∀ k, ok k → k ≠ g) : R d e w1 base ok v xs := R_map h fun _ _ hr => Go.Proofs.YtknmmkgaijndfaaW.PrintWords.Kd.R_keep hr hk hok
theorem R_kept (h : R d e W base ok v xs) (hk : Kept W W2 S) (hne : ∀ k, ok k → ¬ S k) : R d e W2 base ok v xs := R_map h fun _ _ hr => Go.Proofs.YtknmmkgaijndfaaW.PrintWords.Kd.R_kept hr hk hne
theorem R_types (h : R d e w base ok v xs) {t : Nat} {cells : Array Value} (hb : w.heap[g]? = some (.cells cells t (0, 0))) (ht : ∀ q, q ∈ e :: d.E → q ≠ t) : R d e w base (fun k => ok k ∧ k ≠ g) v xs := R_map h fun _ _ hr => Go.Proofs.YtknmmkgaijndfaaW.PrintWords.Kd.R_types hr hb ht
theorem R_elder' (hu : R d e W base ok u xs) (hbase : ∀ k, v.ownBlock = some k → W.heap.size ≤ k) (hb : Below W.heap.size W w1) : R d e w1 base (fun k => ok k ∧ some k ≠ v.ownBlock) u xs := R_map hu fun _ _ hr => Go.Proofs.YtknmmkgaijndfaaW.PrintWords.Kd.R_elder' hr hbase hb
theorem R_new' (h : R d e w1 W.heap.size ok v xs) (hlt : ∀ k, u.ownBlock = some k → k < W.heap.size) : R d e w1 W.heap.size (fun k => ok k ∧ some k ≠ u.ownBlock) v xs := R_map h fun _ _ hr => Go.Proofs.YtknmmkgaijndfaaW.PrintWords.Kd.R_new' hr hlt
theorem R_drop (h : R d e w base (fun k => ok k ∧ ok' k) u xs) : R d e w base ok u xs := R_mono h fun _ hk => hk.1
theorem R_apart_nil (h : R d e w base ok u xs) : R d e w base (fun k => ok k ∧ some k ≠ (Value.slice none 0 0).ownBlock) u xs := R_map h fun _ _ hr => Go.Proofs.YtknmmkgaijndfaaW.PrintWords.Kd.R_apart_nil hr
theorem R_keptB (h : R d e W base ok v xs) (hk : Kept W W2 S) (hne : ∀ k, ok k → ¬ S k) : R d e W2 base (fun k => ok k ∧ (¬ S k ∧ k < W.heap.size)) v xs := R_map h fun _ _ hr => Go.Proofs.YtknmmkgaijndfaaW.PrintWords.Kd.R_keptB hr hk hne
theorem R_own1 (h : R d e w base ok v xs) (k : Nat) (hk : v.ownBlock = some k) : ok k := by
  obtain ⟨A, c, c', rfl, hl, hr⟩ := h
  exact hr.1 k ((blk_cap A _ _ _).trans hk)
theorem R_typed (h : R d e w base ok v xs) : ∀ k, v.ownBlock = some k → ∃ cells, w.heap[k]? = some (.cells cells e (0, 0)) := by
  obtain ⟨A, c, c', rfl, hl, hr⟩ := h
  exact fun k hk => Go.Proofs.YtknmmkgaijndfaaW.PrintWords.Kd.R_typed hr k ((blk_cap A _ _ _).trans hk)
theorem R_apart' {e' : Nat} (h : R d e W base ok u xs) (hty : ∀ k, v.ownBlock = some k → ∃ cells, W.heap[k]? = some (.cells cells e' (0, 0))) (ht : ∀ q, q ∈ e :: d.E → q ≠ e') : R d e W base (fun k => ok k ∧ some k ≠ v.ownBlock) u xs := R_map h fun _ _ hr => Go.Proofs.YtknmmkgaijndfaaW.PrintWords.Kd.R_apart' hr hty ht
theorem R_tight (hE : d.E = []) (h : R d e w base ok v xs) : R d e w base (fun k => some k = v.ownBlock) v xs := by
  obtain ⟨A, c, c', rfl, hl, hr⟩ := h
  rw [blk_cap A _ c c']
  exact ⟨A, c, c', rfl, hl, Go.Proofs.YtknmmkgaijndfaaW.PrintWords.Kd.R_tight hE hr⟩
theorem R_reok {ok1 : Nat → Prop} (hE : d.E = []) (h : R d e W base ok1 v xs) (hok : ∀ k, v.ownBlock = some k → ok k) : R d e W base ok v xs := R_mono (R_tight hE h) (fun k hk => hok k hk.symm)
theorem R_tight2 (hE : d.E = []) (h : R d e W base ok v xs) : R d e W base (fun k => some k = v.ownBlock ∧ ok k) v xs := R_mono (R_tight hE h) (fun k hk => ⟨hk, R_own1 h k hk.symm⟩)
theorem R_base (h : R d e w base ok v xs) : ∀ k, v.ownBlock = some k → base ≤ k := by
  obtain ⟨A, c, c', rfl, hl, hr⟩ := h
  exact fun k hk => Go.Proofs.YtknmmkgaijndfaaW.PrintWords.Kd.R_base hr k ((blk_cap A _ _ _).trans hk)
theorem R_base2 (h : R d e w base ok v xs) : v.ownBlock = none ∨ ∃ k, v.ownBlock = some k ∧ base ≤ k := by
  obtain ⟨A, c, c', rfl, hl, hr⟩ := h
  rw [blk_cap A _ c c']
  exact Go.Proofs.YtknmmkgaijndfaaW.PrintWords.Kd.R_base2 hr
theorem R_lt (h : R d e w base ok v xs) : ∀ k, v.ownBlock = some k → k < w.heap.size := by
  obtain ⟨A, c, c', rfl, hl, hr⟩ := h
  exact fun k hk => Go.Proofs.YtknmmkgaijndfaaW.PrintWords.Kd.R_lt hr k ((blk_cap A _ _ _).trans hk)
theorem R_ne (h : R d e w base ok v xs) {t : Nat} {cells : Array Value} (hb : w.heap[g]? = some (.cells cells t (0, 0))) (ht : e ≠ t) : some g ≠ v.ownBlock := by
  obtain ⟨A, c, c', rfl, hl, hr⟩ := h
  rw [blk_cap A _ c c']
  exact Go.Proofs.YtknmmkgaijndfaaW.PrintWords.Kd.R_ne hr hb ht
theorem R_slice (h : R d e w base ok v xs) : ∃ A c, v = .slice A xs.length c := by
  obtain ⟨A, c, c', rfl, hl, hr⟩ := h
  exact ⟨A, c, rfl⟩
theorem R_reads (h : R d e w base ok v xs) : ∃ A c, v = .slice A xs.length c ∧ xs.length ≤ c ∧ d.C w A xs.length xs := by
  obtain ⟨A, c, c', rfl, hl, hr⟩ := h
  exact ⟨A, c, rfl, hl.1, (Go.Proofs.YtknmmkgaijndfaaW.PrintWords.Kd.R_reads' hr).2.2⟩
theorem R_reads' {A : Option Addr} {c : Nat} (h : R d e w base ok (.slice A n c) xs) : n = xs.length ∧ n ≤ c ∧ d.C w A xs.length xs := by
  obtain ⟨A', c1, c', hv, hl, hr⟩ := h
  injection hv with h1 h2 h3
  subst h1; subst h2; subst h3
  exact ⟨rfl, hl.1, (Go.Proofs.YtknmmkgaijndfaaW.PrintWords.Kd.R_reads' hr).2.2⟩
theorem cap_le {A : Option Addr} {c : Nat} (h : R d e w base ok (.slice A n c) xs) : c ≤ 9223372036854775807 := by
  obtain ⟨A', c1, c', hv, hl, hr⟩ := h
  injection hv with h1 h2 h3
  subst h1; subst h2; subst h3
  exact Nat.le_trans hl.2 (row_cap hr rfl)
theorem R_F {A : Option Addr} {c : Nat} (h : R d e W base ok (.slice A n c) xs) : Go.Proofs.YtknmmkgaijndfaaW.PrintWords.Kd.F d W ok A n xs := by
  obtain ⟨A', c1, c', hv, hl, hr⟩ := h
  injection hv with h1 h2 h3
  subst h1; subst h2; subst h3
  exact Go.Proofs.YtknmmkgaijndfaaW.PrintWords.Kd.R_F hr
theorem R_V (h : R d e w base ok v xs) : Go.Proofs.YtknmmkgaijndfaaW.PrintWords.Kd.V d e w base' ok v xs := by
  obtain ⟨A, c, c', rfl, hl, hr⟩ := h
  exact ⟨A, c, rfl, hl.1, Go.Proofs.YtknmmkgaijndfaaW.PrintWords.Kd.R_F hr⟩
theorem R_form (h : R d e w base ok v xs) (hp : 0 < xs.length) : ∃ g cap, v = .slice (some ⟨g, 0, none⟩) xs.length cap ∧ base ≤ g ∧ g < w.heap.size ∧ ∃ cells, w.heap[g]? = some (.cells cells e (0, 0)) := by
  obtain ⟨A, c, c', rfl, hl, hr⟩ := h
  obtain ⟨g, cap, hv, h1, h2, h3⟩ := Go.Proofs.YtknmmkgaijndfaaW.PrintWords.Kd.R_form hr hp
  injection hv with h4 _ _
  exact ⟨g, c, by rw [h4], h1, h2, h3⟩
theorem open_any {A : Option Addr} {c : Nat} (h : R d e W base ok (.slice A n c) xs) : n = xs.length ∧ ∃ c', (xs.length ≤ c ∧ c ≤ c') ∧ Go.Proofs.YtknmmkgaijndfaaW.PrintWords.Kd.R d e W base ok (.slice A n c') xs := by
  obtain ⟨A', c1, c', hv, hl, hr⟩ := h
  injection hv with h1 h2 h3
  subst h1; subst h2; subst h3
  exact ⟨rfl, c', hl, hr⟩
theorem R_elem (h : R d e W base ok (.slice (some ⟨g, 0, none⟩) n cap) xs) (z : α) (i : Int) (h0 : 0 ≤ i) (h1 : i < n) :
    ∃ c, c.length = d.sz ∧ d.M W base (fun k => ok k ∧ k ≠ g) (xs.getD i.toNat z) c ∧ (∀ j u, c[j]? = some u → W.cell? ⟨g, i.toNat * d.sz + j, none⟩ = some u) ∧ ∀ j, W.frozen? ⟨g, i.toNat * d.sz + j, none⟩ = false := by
  obtain ⟨_, c', _, hr⟩ := open_any h
  exact Go.Proofs.YtknmmkgaijndfaaW.PrintWords.Kd.R_elem hr z i h0 h1
theorem R_seg {okp : Nat → Prop} (h : R d e W base ok (.slice (some ⟨g, 0, none⟩) n cap) xs) (i : Int) (h0 : 0 ≤ i) (h1 : i < n) {c seg : List Value} {j : Nat} (hcl : c.length = d.sz) (hcc : ∀ j u, c[j]? = some u → W.cell? ⟨g, i.toNat * d.sz + j, none⟩ = some u)
    (hj : j + seg.length ≤ d.sz) {x' : α} (hM : d.M W base okp x' (c.take j ++ seg ++ c.drop (j + seg.length))) (hokp : ∀ k, okp k → ok k ∧ k ≠ g) :
    R d e (W.setCells g (i.toNat * d.sz + j) seg) base ok (.slice (some ⟨g, 0, none⟩) n cap) (xs.set i.toNat x') ∧ W.grownBy (W.setCells g (i.toNat * d.sz + j) seg) (some g) := by
  obtain ⟨hn, c', hl, hr⟩ := open_any h
  obtain ⟨h2, h3⟩ := Go.Proofs.YtknmmkgaijndfaaW.PrintWords.Kd.R_seg hr i h0 h1 hcl hcc hj hM hokp
  refine ⟨⟨_, _, c', by rw [List.length_set, hn], by rw [List.length_set]; exact hl, ?_⟩, h3⟩
  rw [List.length_set, ← hn]
  exact h2
end
section
variable {α : Type} {enc : α → Value} {h1 : ∀ x, (enc x).oneCell' = true} {e : Nat} {W : World} {base n cap g : Nat} {ok : Nat → Prop} {xs : List α}
theorem open_at (h : R (Go.Proofs.YtknmmkgaijndfaaW.PrintWords.Kd.scalar enc h1) e W base ok (.slice (some ⟨g, 0, none⟩) n cap) xs) : n = xs.length ∧ ∃ c', (xs.length ≤ cap ∧ cap ≤ c') ∧ Go.Proofs.YtknmmkgaijndfaaW.PrintWords.Kd.R (Go.Proofs.YtknmmkgaijndfaaW.PrintWords.Kd.scalar enc h1) e W base ok (.slice (some ⟨g, 0, none⟩) n c') xs := by
  obtain ⟨A', c1, c', hv, hl, hr⟩ := h
  injection hv with h1 h2 h3
  subst h1; subst h2; subst h3
  exact ⟨rfl, c', hl, hr⟩
theorem R_celln (d : α) (h : R (Go.Proofs.YtknmmkgaijndfaaW.PrintWords.Kd.scalar enc h1) e W base ok (.slice (some ⟨g, 0, none⟩) n cap) xs) (i : Int) (h0 : 0 ≤ i) (hi : i < n) : W.cell? ⟨g, i.toNat, none⟩ = some (enc (rdOf d xs i)) ∧ W.frozen? ⟨g, i.toNat, none⟩ = false := by
  obtain ⟨_, c', _, hr⟩ := open_at h
  exact Go.Proofs.YtknmmkgaijndfaaW.PrintWords.Kd.R_celln d hr i h0 hi
theorem R_putn (h : R (Go.Proofs.YtknmmkgaijndfaaW.PrintWords.Kd.scalar enc h1) e W base ok (.slice (some ⟨g, 0, none⟩) n cap) xs) (i : Int) (x : α) : R (Go.Proofs.YtknmmkgaijndfaaW.PrintWords.Kd.scalar enc h1) e (W.setCell ⟨g, i.toNat, none⟩ (enc x)) base ok (.slice (some ⟨g, 0, none⟩) n cap) (xs.set i.toNat x) := by
  obtain ⟨hn, c', hl, hr⟩ := open_at h
  subst hn
  refine ⟨_, _, c', by rw [List.length_set], by rw [List.length_set]; exact hl, ?_⟩
  rw [List.length_set]
  exact Go.Proofs.YtknmmkgaijndfaaW.PrintWords.Kd.R_putn hr i x
theorem R_putg (h : R (Go.Proofs.YtknmmkgaijndfaaW.PrintWords.Kd.scalar enc h1) e W base ok (.slice (some ⟨g, 0, none⟩) n cap) xs) (i : Int) (x : α) : R (Go.Proofs.YtknmmkgaijndfaaW.PrintWords.Kd.scalar enc h1) e (W.setCell ⟨g, i.toNat, none⟩ (enc x)) base ok (.slice (some ⟨g, 0, none⟩) n cap) (xs.set i.toNat x) ∧ W.grownBy (W.setCell ⟨g, i.toNat, none⟩ (enc x)) (some g) := by
  obtain ⟨hn, c', hl, hr⟩ := open_at h
  exact ⟨R_putn h i x, (Go.Proofs.YtknmmkgaijndfaaW.PrintWords.Kd.R_putg hr i x).2⟩
end
end Kd
end Go.Proofs.Ytknmmkgaijndfaa.PX
