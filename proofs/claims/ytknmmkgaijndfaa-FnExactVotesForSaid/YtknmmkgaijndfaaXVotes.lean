/- Contracts over rows whose capacity may have been cut. Conditions: each contract's own. -/
import Derived.Test.YtknmmkgaijndfaaPx0
import Derived.Test.YtknmmkgaijndfaaPx1
import Derived.Test.YtknmmkgaijndfaaPx2
import Derived.Test.YtknmmkgaijndfaaPx3
import Derived.Test.YtknmmkgaijndfaaPx4
import Derived.Test.YtknmmkgaijndfaaPx5
import Derived.Test.YtknmmkgaijndfaaPx6
import Derived.Test.YtknmmkgaijndfaaPx8
import Derived.Test.YtknmmkgaijndfaaPx15
import Derived.Test.YtknmmkgaijndfaaPx18
import Derived.Test.YtknmmkgaijndfaaPx19
import Derived.Test.YtknmmkgaijndfaaPx20
import Derived.Test.YtknmmkgaijndfaaPx21
import Derived.Test.YtknmmkgaijndfaaXLayer
namespace Go.Proofs.Ytknmmkgaijndfaa.P
open Go.RowKit Go.Proofs.YtknmmkgaijndfaaW.PrintWords Go.Proofs.YtknmmkgaijndfaaW.PrintLast Go.Proofs.YtknmmkgaijndfaaW.PrintMore
attribute [local go_sem] max2_int min2_int max_two min_two max_three min_three max_four min_four   -- for this text's walks alone
set_option linter.unusedVariables false
set_option linter.unusedSimpArgs false
def laws_markVoteS.f (l0 : List (S48)) (a1 : Int) : Option Int := if 0 ≤ a1 ∧ a1 + (l0.map fun v => 1 + 4 * (v.f1.length : Int)).sum ≤ 4000000000000000000 then some (a1 + (l0.map fun v => 1 + 4 * (v.f1.length : Int)).sum) else none
def laws_FnExactVotesFor.j0 : Nat → List (S53) → List (S62) → List Int → List Int → Bool → Option (Bool)
 | 0, _, _, _, _, _ => none
 | k + 1, x0, x1, x6, x9, x63 => if x63 = true then (some false) else ((laws_markIntS.f k x9 1).bind fun bt267 => ((laws_heldIntS.f k bt267.2 1).bind fun t269 => (if t269 < 0 then (some false) else (if t269 = bt267.1 then ((laws_toVoteS.f k x0).bind fun t270 => ((laws_toItemS.f k x1).bind fun t273 => ((impl_VotesFor.f k t270 t273).bind fun t276 => ((laws_eqIntS.f k t276 x6).bind fun t279 => (if t279 = true then ((laws_heldIntS.f k bt267.2 1).bind fun t280 => (if t280 < 0 then (some false) else (if t280 = bt267.1 then (some true) else (some false)))) else (some false)))))) else (some false)))))
def laws_FnExactVotesFor.f (k : Nat) (l0 : List (S53)) (l1 : List (S62)) : Option (Bool) := (laws_szVoteS.f k l0 1048576).bind fun t234 => (if t234 < 0 then (some true) else ((laws_szItemS.f l1 t234).bind fun t235 => (if t235 < 0 then (some true) else ((laws_toVoteS.f k l0).bind fun t236 => ((laws_toItemS.f k l1).bind fun t239 => ((spec_VotesFor.f k t236 t239).bind fun t242 => ((laws_toVoteS.f k l0).bind fun t245 => ((laws_toItemS.f k l1).bind fun t248 => ((impl_VotesFor.f k t245 t248).bind fun t251 => ((laws_eqIntS.f k t251 t242).bind fun t254 => (if t254 = true then ((laws_toVoteS.f k l0).bind fun t255 => ((laws_eqVoteS.f k t245 t255).bind fun t258 => (if t258 = true then ((laws_toItemS.f k l1).bind fun t259 => ((laws_eqItemS.f k t248 t259).bind fun t262 => (if t262 = true then ((laws_markVoteS.f t245 1).bind fun t263 => ((laws_markItemS.f k t248 t263).bind fun bt264 => (if bt264.1 < 0 then (laws_FnExactVotesFor.j0 k l0 l1 t242 t251 true) else ((laws_eqIntS.f k t251 t242).bind fun t266 => (laws_FnExactVotesFor.j0 k l0 l1 t242 t251 (!t266)))))) else (some false)))) else (some false)))) else (some false))))))))))))
theorem laws_FnExactVotesFor.mono_l : ∀ k, (∀ y0 y1 y2 y3 y4, LeO (laws_FnExactVotesFor.j0 k y0 y1 y2 y3 y4) (laws_FnExactVotesFor.j0 (k + 1) y0 y1 y2 y3 y4))
 | 0 => fun _ _ _ _ _ r h => by simp [laws_FnExactVotesFor.j0] at h
 | k + 1 => by
  have ih0 := laws_FnExactVotesFor.mono_l k
  ·intro y0 y1 y2 y3 y4
   unfold laws_FnExactVotesFor.j0
   repeat' first
   | (with_reducible exact ih0 _ _ _ _ _)
   | (with_reducible exact impl_VotesFor.mono _ _ _)
   | (with_reducible exact laws_eqIntS.mono _ _ _)
   | (with_reducible exact laws_eqItemS.mono _ _ _)
   | (with_reducible exact laws_eqVoteS.mono _ _ _)
   | (with_reducible exact laws_heldIntS.mono _ _ _)
   | (with_reducible exact laws_markIntS.mono _ _ _)
   | (with_reducible exact laws_markItemS.mono _ _ _)
   | (with_reducible exact laws_szVoteS.mono _ _ _)
   | (with_reducible exact laws_toItemS.mono _ _)
   | (with_reducible exact laws_toVoteS.mono _ _)
   | (with_reducible exact spec_VotesFor.mono _ _ _)
   | (with_reducible exact LeO.refl _)
   | (with_reducible exact LeO.none _)
   | (with_reducible refine LeO.ite ?_ ?_)
   | (with_reducible refine LeO.bind ?_ (fun _ => ?_))
   | exact ih0 _ _ _ _ _
   | exact impl_VotesFor.mono _ _ _
   | exact laws_eqIntS.mono _ _ _
   | exact laws_eqItemS.mono _ _ _
   | exact laws_eqVoteS.mono _ _ _
   | exact laws_heldIntS.mono _ _ _
   | exact laws_markIntS.mono _ _ _
   | exact laws_markItemS.mono _ _ _
   | exact laws_szVoteS.mono _ _ _
   | exact laws_toItemS.mono _ _
   | exact laws_toVoteS.mono _ _
   | exact spec_VotesFor.mono _ _ _
   | exact LeO.none _
   | refine LeO.ite ?_ ?_
   | refine LeO.bind ?_ (fun _ => ?_)
theorem laws_FnExactVotesFor.mono : ∀ a0 a1 k, LeO (laws_FnExactVotesFor.f k a0 a1) (laws_FnExactVotesFor.f (k + 1) a0 a1) := by
 intro a0 a1 k
 have ih0 := laws_FnExactVotesFor.mono_l k
 unfold laws_FnExactVotesFor.f
 repeat' first
   | (with_reducible exact ih0 _ _ _ _ _)
   | (with_reducible exact impl_VotesFor.mono _ _ _)
   | (with_reducible exact laws_eqIntS.mono _ _ _)
   | (with_reducible exact laws_eqItemS.mono _ _ _)
   | (with_reducible exact laws_eqVoteS.mono _ _ _)
   | (with_reducible exact laws_heldIntS.mono _ _ _)
   | (with_reducible exact laws_markIntS.mono _ _ _)
   | (with_reducible exact laws_markItemS.mono _ _ _)
   | (with_reducible exact laws_szVoteS.mono _ _ _)
   | (with_reducible exact laws_toItemS.mono _ _)
   | (with_reducible exact laws_toVoteS.mono _ _)
   | (with_reducible exact spec_VotesFor.mono _ _ _)
   | (with_reducible exact LeO.refl _)
   | (with_reducible exact LeO.none _)
   | (with_reducible refine LeO.ite ?_ ?_)
   | (with_reducible refine LeO.bind ?_ (fun _ => ?_))
   | exact ih0 _ _ _ _ _
   | exact impl_VotesFor.mono _ _ _
   | exact laws_eqIntS.mono _ _ _
   | exact laws_eqItemS.mono _ _ _
   | exact laws_eqVoteS.mono _ _ _
   | exact laws_heldIntS.mono _ _ _
   | exact laws_markIntS.mono _ _ _
   | exact laws_markItemS.mono _ _ _
   | exact laws_szVoteS.mono _ _ _
   | exact laws_toItemS.mono _ _
   | exact laws_toVoteS.mono _ _
   | exact spec_VotesFor.mono _ _ _
   | exact LeO.none _
   | refine LeO.ite ?_ ?_
   | refine LeO.bind ?_ (fun _ => ?_)
/-- What is left to prove of laws_FnExactVotesFor. -/
def laws_FnExactVotesFor.Pure : Prop := ∀ (l0 : List (S53)) (l1 : List (S62)), l0.length ≤ 9223372036854775807 → (∀ v, v ∈ l0 → v.f1.length ≤ 9223372036854775807) → l1.length ≤ 9223372036854775807 → ∃ k, laws_FnExactVotesFor.f k l0 l1 = some true

end Go.Proofs.Ytknmmkgaijndfaa.P
namespace Go.Proofs.Ytknmmkgaijndfaa.PX
open Go.RowKit Go.Proofs.YtknmmkgaijndfaaW.PrintWords Go.Proofs.YtknmmkgaijndfaaW.PrintLast Go.Proofs.YtknmmkgaijndfaaW.PrintMore Go.Proofs.Ytknmmkgaijndfaa.P
attribute [local go_sem] max2_int min2_int max_two min_two max_three min_three max_four min_four   -- for this text's walks alone
set_option linter.unusedVariables false
set_option linter.unusedSimpArgs false
attribute [local go_sem high] eqA56
attribute [local go_sem high] eqA58
theorem impl_votes_voters.calls (k : Nat) (A0 : Option Addr) (c0 : Nat) (l0 : List S48) (A1 : Option Addr) (c1 : Nat) (l1 : List S58) (r : List Int) (w : World) (hr0 : Kd.C k48 w A0 l0.length l0) (hc0 : l0.length ≤ c0) (hr1 : Kd.C k58 w A1 l1.length l1) (hc1 : l1.length ≤ c1) (h : impl_votes_voters.f k l0 l1 = some r) :
    Calls Try.prog 43 #[.slice A0 l0.length c0, .slice A1 l1.length c1] w fun e w' => ∃ v0_ : Value, e = .returned (v0_) ∧ Kd.R (Kd.int .i64) 3 w' w.heap.size (fun _ => True) v0_ r ∧ Below w.heap.size w w' := by
  refine (impl_votes_voters.callsX k A0 c0 l0 A1 c1 l1 r w hr0 hc0 hr1 hc1 h).mono ?_
  rintro e w' ⟨A, c, he, ho, hb⟩
  exact ⟨_, he, ⟨A, r.length, c, rfl, ⟨Nat.le_refl _, (Go.Proofs.YtknmmkgaijndfaaW.PrintWords.Kd.R_reads' ho).2.1⟩, ho⟩, hb⟩
/-- A number stands there, and it may be written. -/
def IntAt (w : World) (g j : Nat) : Prop := ∃ x : Int, w.cell? ⟨g, j, none⟩ = some (.int .i64 x) ∧ w.frozen? ⟨g, j, none⟩ = false
/-- What writes numbers where numbers stand, in blocks of S alone. -/
structure Mk (S : Nat → Prop) (w w' : World) : Prop where
  kept : Kept w w' S
  below : ∀ {B : Nat} {w0 : World}, Below B w0 w → (∀ k, S k → B ≤ k) → Below B w0 w'
  cell : ∀ g j v, w.cell? ⟨g, j, none⟩ = some v → w'.cell? ⟨g, j, none⟩ = some v ∨ ((∃ x, v = .int .i64 x) ∧ ∃ y, w'.cell? ⟨g, j, none⟩ = some (.int .i64 y))
  fro : ∀ g j, w.frozen? ⟨g, j, none⟩ = false → w'.frozen? ⟨g, j, none⟩ = false
section
variable {S : Nat → Prop} {w w1 w2 : World} {g j : Nat}
theorem Mk.refl (S : Nat → Prop) (w : World) : Mk S w w := ⟨Kept.refl w S, fun h _ => h, fun _ _ _ h => .inl h, fun _ _ h => h⟩
theorem Mk.trans (h : Mk S w w1) (k : Mk S w1 w2) : Mk S w w2 := by
  refine ⟨h.kept.then_ k.kept (fun k hk => .inl hk), fun hb hs => k.below (h.below hb hs) hs, fun g j v hv => ?_, fun g j hf => k.fro g j (h.fro g j hf)⟩
  rcases h.cell g j v hv with h1 | ⟨⟨x, rfl⟩, y, h1⟩
  · exact k.cell g j v h1
  · rcases k.cell g j _ h1 with h2 | ⟨_, z, h2⟩
    · exact .inr ⟨⟨x, rfl⟩, y, h2⟩
    · exact .inr ⟨⟨x, rfl⟩, z, h2⟩
theorem Mk.set {x : Int} (y : Int) (hS : S g) (hc : w.cell? ⟨g, j, none⟩ = some (.int .i64 x)) : Mk S w (w.setCell ⟨g, j, none⟩ (.int .i64 y)) := by
  refine ⟨Kept.setCell (Kept.refl w S) (.inl hS) _, fun hb hs => hb.setCell (hs g hS) _, fun g' j' v hv => ?_, fun g' j' hf => by rw [World.frozen?_setCell]; exact hf⟩
  by_cases e : (⟨g, j, none⟩ : Addr) = ⟨g', j', none⟩
  · rw [← e] at hv ⊢
    rw [hc] at hv
    obtain rfl := Option.some.inj hv
    exact .inr ⟨⟨x, rfl⟩, y, World.cell?_setCell_same w _ _ hc⟩
  · exact .inl ((World.cell?_setCell_other w _ _ _ e).trans hv)
theorem Mk.int (h : Mk S w w1) (hi : IntAt w g j) : IntAt w1 g j := by
  obtain ⟨x, hc, hf⟩ := hi
  rcases h.cell g j _ hc with h1 | ⟨_, y, h1⟩
  · exact ⟨x, h1, h.fro g j hf⟩
  · exact ⟨y, h1, h.fro g j hf⟩
theorem Mk.sl (h : Mk S w w1) {A : Option Addr} {n c : Nat} (hc : w.cell? ⟨g, j, none⟩ = some (.slice A n c)) : w1.cell? ⟨g, j, none⟩ = some (.slice A n c) := by
  rcases h.cell g j _ hc with h1 | ⟨⟨x, hx⟩, _⟩
  · exact h1
  · cases hx
end
/-- A row of items may be written. -/
def RowI (S : Nat → Prop) (w : World) (A : Option Addr) (n : Nat) : Prop := 0 < n → ∃ g, A = some ⟨g, 0, none⟩ ∧ S g ∧ ∀ j, j < 4 * n → IntAt w g j
theorem RowI.mk {S : Nat → Prop} {w w1 : World} {A : Option Addr} {n : Nat} (h : RowI S w A n) (hm : Mk S w w1) : RowI S w1 A n := fun hn => by
  obtain ⟨g, hA, hS, hi⟩ := h hn
  exact ⟨g, hA, hS, fun j hj => hm.int (hi j hj)⟩
set_option maxHeartbeats 8000000 in
set_option maxRecDepth 100000 in
theorem markItem_raw (S : Nat → Prop) (A : Option Addr) (n c : Nat) (a1 : Int) (w : World) (ha : 0 ≤ a1) (hb : a1 + 4 * (n : Int) ≤ 4000000000000000000) (hA : RowI S w A n) :
    Calls Try.prog 22 #[.slice A n c, .int .i64 a1] w fun e w' => e = .returned (.int .i64 (a1 + 4 * (n : Int))) ∧ Mk S w w' := by
  have HA := Aside0.mk hA
  have HN := Aside0.mk hb
  have HP := Aside0.mk ha
  clear hA hb ha
  go_enter Try.func22, Try.ntmps22
  go_wp2
  go_loopg [1, 5] (n + 1) (fun kq v1 v5 w' => ∃ (i : Nat) (z : Int), v1 = .int .i64 z ∧ v5 = .int .i64 (i : Int) ∧ Aside0 (z = a1 + 4 * (i : Int)) ∧ Aside0 (i ≤ n) ∧ Aside0 (kq + i = n + 1) ∧ Aside0 (Mk S w w'))
  case atStart => exact ⟨0, a1, rfl, rfl, ⟨by omega⟩, ⟨Nat.zero_le _⟩, ⟨by omega⟩, ⟨Mk.refl S w⟩⟩
  case round =>
    obtain ⟨i, z, rfl, rfl, HZ, HI, HK, HM⟩ := hrel
    cases gk with
    | zero => exact absurd HK.out (by have := HI.out; omega)
    | succ k1 =>
      by_cases hi : i < n
      · obtain ⟨g, rfl, hS, hint⟩ := HA.out (by omega)
        have hz0 : 0 ≤ z := by have := HZ.out; have := HP.out; omega
        have hz1 : z + 4 ≤ 4000000000000000000 := by have := HZ.out; have := HN.out; omega
        have HS := Aside0.mk hS
        have i0 := HM.out.int (hint (i * 4) (by omega))
        have i1 := HM.out.int (hint (i * 4 + 1) (by omega))
        have i2 := HM.out.int (hint (i * 4 + 1 + 1) (by omega))
        have i3 := HM.out.int (hint (i * 4 + 1 + 2) (by omega))
        clear hint hS
        obtain ⟨x0, hx0, hf0⟩ := i0
        have I1 := Aside0.mk i1
        have I2 := Aside0.mk i2
        have I3 := Aside0.mk i3
        clear i1 i2 i3
        have hd1 : decide ((i : Int) < (n : Int)) = true := decide_eq_true (by omega)
        have hd2 : decide (i < n) = true := decide_eq_true hi
        have w1 : IntKind.i64.wrap (z + 1) = z + 1 := (i64_w _).trans (by unfold wrap64; omega)
        have w2 : IntKind.i64.wrap (z + 1 + 1) = z + 1 + 1 := (i64_w _).trans (by unfold wrap64; omega)
        have w3 : IntKind.i64.wrap (z + 1 + 1 + 1) = z + 1 + 1 + 1 := (i64_w _).trans (by unfold wrap64; omega)
        have w4 : IntKind.i64.wrap (z + 1 + 1 + 1 + 1) = z + 1 + 1 + 1 + 1 := (i64_w _).trans (by unfold wrap64; omega)
        go_wp2_with (first | ((with_reducible refine gate_store (t := 3) (p := 16) rfl ?_); refine store_event (t := 3) (p := 16) (v := ?vo_w1_) (w1 := (wr.setCell ⟨g, i * 4, none⟩ (.int .i64 z))) ?hg ?ho ?hn ?hr ?_; (case ho => rfl); (case hg => rfl); (case hn => rfl); (case hr => first | (go_simp; done) | (go_simp; rfl)); intro wa hwa; have m_ := (Mk.set (S := S) z HS.out hx0); rw [← hwa] at m_; have N1 := Aside0.mk m_; clear m_ hx0 hf0 hwa; obtain ⟨x1, hx1, hf1⟩ := N1.out.int I1.out) | ((with_reducible refine gate_store (t := 3) (p := 24) rfl ?_); refine store_event (t := 3) (p := 24) (v := ?vo_w2_) (w1 := (wa.setCell ⟨g, i * 4 + 1, none⟩ (.int .i64 (z + 1)))) ?hg ?ho ?hn ?hr ?_; (case ho => rfl); (case hg => rfl); (case hn => rfl); (case hr => first | (go_simp; done) | (go_simp; rfl)); intro wb hwb; have m_ := (Mk.set (S := S) (z + 1) HS.out hx1); rw [← hwb] at m_; have N2 := Aside0.mk (N1.out.trans m_); clear m_ hx1 hf1 hwb; obtain ⟨x2, hx2, hf2⟩ := N2.out.int I2.out) | ((with_reducible refine gate_store (t := 3) (p := 32) rfl ?_); refine store_event (t := 3) (p := 32) (v := ?vo_w3_) (w1 := (wb.setCell ⟨g, i * 4 + 1 + 1, none⟩ (.int .i64 (z + 1 + 1)))) ?hg ?ho ?hn ?hr ?_; (case ho => rfl); (case hg => rfl); (case hn => rfl); (case hr => first | (go_simp; done) | (go_simp; rfl)); intro wc hwc; have m_ := (Mk.set (S := S) (z + 1 + 1) HS.out hx2); rw [← hwc] at m_; have N3 := Aside0.mk (N2.out.trans m_); clear m_ hx2 hf2 hwc; obtain ⟨x3, hx3, hf3⟩ := N3.out.int I3.out) | ((with_reducible refine gate_store (t := 3) (p := 40) rfl ?_); refine store_event (t := 3) (p := 40) (v := ?vo_w4_) (w1 := (wc.setCell ⟨g, i * 4 + 1 + 2, none⟩ (.int .i64 (z + 1 + 1 + 1)))) ?hg ?ho ?hn ?hr ?_; (case ho => rfl); (case hg => rfl); (case hn => rfl); (case hr => first | (go_simp; done) | (go_simp; rfl)); intro wd hwd; have m_ := (Mk.set (S := S) (z + 1 + 1 + 1) HS.out hx3); rw [← hwd] at m_; have N4 := Aside0.mk (N3.out.trans m_); clear m_ hx3 hf3 hwd))
        go_roundg k1
        case measure => omega
        case rel => exact ⟨i + 1, z + 1 + 1 + 1 + 1, (by first | rfl | (simp; done) | (simp [*]; done)), (by have h_ : wrap64 ((i : Int) + 1) = ((i + 1 : Nat) : Int) := (by have := HN.out; have := HP.out; unfold wrap64; omega); first | rw [h_] | (simp only [i64_w, h_])), ⟨by have := HZ.out; omega⟩, ⟨hi⟩, ⟨by have := HK.out; omega⟩, ⟨HM.out.trans N4.out⟩⟩
      · have hd1 : decide ((i : Int) < (n : Int)) = false := decide_eq_false (by omega)
        have hd2 : decide (i < n) = false := decide_eq_false hi
        go_wp2
        go_ret
        exact ⟨by rw [HZ.out, show i = n from by have := HI.out; omega]; rfl, HM.out⟩
/-- Votes may be written: their numbers, and the items of each. -/
def RowV (S : Nat → Prop) (w : World) (A : Option Addr) (n : Nat) (len : Nat → Nat) : Prop := 0 < n → ∃ g, A = some ⟨g, 0, none⟩ ∧ S g ∧ ∀ i, i < n → IntAt w g (i * 2) ∧ ∃ (Ai : Option Addr) (ci : Nat), w.cell? ⟨g, i * 2 + 1, none⟩ = some (.slice Ai (len i) ci) ∧ RowI S w Ai (len i)
def costN (len : Nat → Nat) : Nat → Int
  | 0 => 0
  | i + 1 => costN len i + (1 + 4 * (len i : Int))
theorem costN_pos (len : Nat → Nat) : ∀ i : Nat, (i : Int) ≤ costN len i
  | 0 => Int.le_refl _
  | i + 1 => by
    have := costN_pos len i
    rw [costN]
    omega
theorem costN_mono (len : Nat → Nat) (i : Nat) : ∀ d : Nat, costN len i ≤ costN len (i + d)
  | 0 => Int.le_refl _
  | d + 1 => by
    have := costN_mono len i d
    rw [← Nat.add_assoc, costN]
    omega
set_option maxHeartbeats 8000000 in
set_option maxRecDepth 100000 in
theorem markVote_raw (S : Nat → Prop) (A : Option Addr) (n c : Nat) (len : Nat → Nat) (a1 : Int) (w : World) (ha : 0 ≤ a1) (hb : a1 + costN len n ≤ 4000000000000000000) (hA : RowV S w A n len) :
    Calls Try.prog 21 #[.slice A n c, .int .i64 a1] w fun e w' => e = .returned (.int .i64 (a1 + costN len n)) ∧ Mk S w w' := by
  have HA := Aside0.mk hA
  have HN := Aside0.mk hb
  have HP := Aside0.mk ha
  have hnn := costN_pos len n
  have HNN := Aside0.mk hnn
  clear hA hb ha hnn
  go_enter Try.func21, Try.ntmps21
  go_wp2
  go_loopg [1, 5] (n + 1) (fun kq v1 v5 w' => ∃ (i : Nat) (z : Int), v1 = .int .i64 z ∧ v5 = .int .i64 (i : Int) ∧ Aside0 (z = a1 + costN len i) ∧ Aside0 (i ≤ n) ∧ Aside0 (kq + i = n + 1) ∧ Aside0 (Mk S w w'))
  case atStart => exact ⟨0, a1, rfl, rfl, ⟨(Int.add_zero a1).symm⟩, ⟨Nat.zero_le _⟩, ⟨by omega⟩, ⟨Mk.refl S w⟩⟩
  case round =>
    obtain ⟨i, z, rfl, rfl, HZ, HI, HK, HM⟩ := hrel
    cases gk with
    | zero => exact absurd HK.out (by have := HI.out; omega)
    | succ k1 =>
      by_cases hi : i < n
      · obtain ⟨g, rfl, hS, hrow⟩ := HA.out (by omega)
        obtain ⟨hby, Ai, ci, hch0, hri0⟩ := hrow i hi
        have hc1 := costN_mono len (i + 1) (n - (i + 1))
        rw [show i + 1 + (n - (i + 1)) = n by omega, costN] at hc1
        have hc0 := costN_pos len i
        obtain ⟨m, hmE⟩ : ∃ m, len i = m := ⟨_, rfl⟩
        rw [hmE] at hch0 hri0 hc1
        have hz0 : 0 ≤ z := by have := HZ.out; have := HP.out; omega
        have hz1 : z + 1 + 4 * (m : Int) ≤ 4000000000000000000 := by have := HZ.out; have := HN.out; omega
        have hin : (i : Int) ≤ 4000000000000000000 := by have := HNN.out; have := HN.out; have := HP.out; omega
        have HME := Aside0.mk hmE
        have HS := Aside0.mk hS
        have hch := HM.out.sl hch0
        have HR1 := Aside0.mk (hri0.mk HM.out)
        obtain ⟨x0, hx0, hf0⟩ := HM.out.int hby
        have HC1 := Aside0.mk hch
        clear hrow hby hch0 hri0 hc1 hc0 hmE hS hch
        have hd1 : decide ((i : Int) < (n : Int)) = true := decide_eq_true (by omega)
        have hd2 : decide (i < n) = true := decide_eq_true hi
        have w1 : IntKind.i64.wrap (z + 1) = z + 1 := (i64_w _).trans (by unfold wrap64; omega)
        go_wp2_with (first | ((with_reducible refine gate_store (t := 3) (p := 16) rfl ?_); refine store_event (t := 3) (p := 16) (v := ?vo_w5_) (w1 := (wr.setCell ⟨g, i * 2, none⟩ (.int .i64 z))) ?hg ?ho ?hn ?hr ?_; (case ho => rfl); (case hg => rfl); (case hn => rfl); (case hr => first | (go_simp; done) | (go_simp; rfl)); intro wa hwa; have m_ := (Mk.set (S := S) z HS.out hx0); rw [← hwa] at m_; have N1 := Aside0.mk m_; have HR2 := Aside0.mk (HR1.out.mk m_); have hch := m_.sl HC1.out; clear m_ hx0 hf0 hwa) | ((with_reducible refine gate_callee (f := 22) rfl ?_); refine goesL_ (some 25) rfl rfl Try.func22 (by kernel_rfl) rfl #[.slice Ai m ci, .int .i64 (z + 1)] rfl (by (try simp only [List.map_toArray, List.map_cons, List.map_nil]); first | done | rfl) ?_; (refine (markItem_raw S Ai m ci (z + 1) _ (by omega) hz1 HR2.out).mono ?_); rintro e wb ⟨rfl, hm⟩; refine ⟨_, rfl, ?_⟩; have N2 := Aside0.mk (N1.out.trans hm); clear hm hch))
        go_roundg k1
        case measure => omega
        case rel => exact ⟨i + 1, z + 1 + 4 * (m : Int), (by first | rfl | (simp; done) | (simp [*]; done)), (by have h_ : wrap64 ((i : Int) + 1) = ((i + 1 : Nat) : Int) := (by unfold wrap64; omega); first | rfl | rw [h_] | (simp only [i64_w, h_])), ⟨by rw [costN, HME.out, HZ.out]; omega⟩, ⟨hi⟩, ⟨by have := HK.out; omega⟩, ⟨HM.out.trans N2.out⟩⟩
      · have hd1 : decide ((i : Int) < (n : Int)) = false := decide_eq_false (by omega)
        have hd2 : decide (i < n) = false := decide_eq_false hi
        go_wp2
        go_ret
        exact ⟨by rw [HZ.out, show i = n from by have := HI.out; omega]; rfl, HM.out⟩
theorem four_cases {P : Nat → Prop} {n : Nat} (h : ∀ q, q < n → P (q * 4) ∧ P (q * 4 + 1) ∧ P (q * 4 + 2) ∧ P (q * 4 + 3)) (j : Nat) (hj : j < 4 * n) : P j := by
  obtain ⟨h0, h1, h2, h3⟩ := h (j / 4) (by omega)
  have : j = j / 4 * 4 ∨ j = j / 4 * 4 + 1 ∨ j = j / 4 * 4 + 2 ∨ j = j / 4 * 4 + 3 := by omega
  rcases this with e | e | e | e
  · rw [e]; exact h0
  · rw [e]; exact h1
  · rw [e]; exact h2
  · rw [e]; exact h3
theorem rowI_of {W : World} {base : Nat} {ok S : Nat → Prop} {A : Option Addr} {n c : Nat} {xs : List S58} (h : Go.Proofs.YtknmmkgaijndfaaW.PrintWords.Kd.R k58 58 W base ok (.slice A n c) xs) (hS : ∀ k, ok k → S k) : RowI S W A n := fun hn => by
  have hnx := (Go.Proofs.YtknmmkgaijndfaaW.PrintWords.Kd.R_reads' h).1
  obtain ⟨g, cap, he, _, _, _⟩ := Go.Proofs.YtknmmkgaijndfaaW.PrintWords.Kd.R_form h (by omega)
  injection he with h1 h2 h3
  subst h1
  refine ⟨g, rfl, hS g (h.1 g rfl), four_cases fun q hq => ?_⟩
  obtain ⟨cs, hcl, hM, hcc, hfr⟩ := Go.Proofs.YtknmmkgaijndfaaW.PrintWords.Kd.R_elem h z58 (q : Int) (by omega) (by omega)
  obtain rfl := k58_openM hM
  rw [Int.toNat_natCast] at hcc hfr
  exact ⟨⟨_, hcc 0 _ rfl, hfr 0⟩, ⟨_, hcc 1 _ rfl, hfr 1⟩, ⟨_, hcc 2 _ rfl, hfr 2⟩, ⟨_, hcc 3 _ rfl, hfr 3⟩⟩
theorem rowV_of {W : World} {base : Nat} {ok : Nat → Prop} {A : Option Addr} {c : Nat} {xs : List S48} (h : Go.Proofs.YtknmmkgaijndfaaW.PrintWords.Kd.R k48 48 W base ok (.slice A xs.length c) xs) : RowV ok W A xs.length (fun i => (xs.getD i z48).f1.length) := fun hn => by
  obtain ⟨g, cap, he, _, _, _⟩ := Go.Proofs.YtknmmkgaijndfaaW.PrintWords.Kd.R_form h (by omega)
  injection he with h1 h2 h3
  subst h1
  refine ⟨g, rfl, h.1 g rfl, fun i hi => ?_⟩
  obtain ⟨cs, hcl, hM, hcc, hfr⟩ := Go.Proofs.YtknmmkgaijndfaaW.PrintWords.Kd.R_elem h z48 (i : Int) (by omega) (by omega)
  obtain ⟨v1, rfl, hR⟩ := k48_openM hM
  rw [Int.toNat_natCast] at hcc hfr hR
  obtain ⟨Ai, ci, rfl⟩ := Go.Proofs.YtknmmkgaijndfaaW.PrintWords.Kd.R_slice hR
  exact ⟨⟨_, hcc 0 _ rfl, hfr 0⟩, Ai, ci, hcc 1 _ rfl, rowI_of hR fun k hk => hk.1⟩
theorem cost_sum (xs : List S48) : ∀ n, n ≤ xs.length → costN (fun i => (xs.getD i z48).f1.length) n = ((xs.take n).map fun v => 1 + 4 * (v.f1.length : Int)).sum
  | 0, _ => by simp [costN]
  | n + 1, h => by
    have hn : n < xs.length := by omega
    rw [costN, cost_sum xs n (by omega), List.take_succ_eq_append_getElem hn, List.map_append, List.sum_append, List.getD_eq_getElem?_getD, List.getElem?_eq_getElem hn]
    simp
/-- Blocks of votes, or of their items. -/
def MB (w : World) (k : Nat) : Prop := ∃ q, q ∈ [48, 58] ∧ ∃ cells, w.heap[k]? = some (.cells cells q (0, 0))
theorem laws_markVoteS.calls (P0_ : Nat → Prop) (v : Value) (l0 : List S48) (a1 r : Int) (w0 w : World) (hB : Below w0.heap.size w0 w) (ho0 : Kd.R k48 48 w w0.heap.size P0_ v l0) (h : laws_markVoteS.f l0 a1 = some r) :
    Calls Try.prog 21 #[v, .int .i64 a1] w fun e w' => e = .returned (.int .i64 r) ∧ Below w0.heap.size w0 w' ∧ Kept w w' (fun k => P0_ k ∧ MB w k) := by
  obtain ⟨A, c, c', rfl, hl, hr⟩ := ho0
  have hb := Go.Proofs.YtknmmkgaijndfaaW.PrintWords.Kd.R_mono (ok' := fun k => (P0_ k ∧ MB w k) ∧ w0.heap.size ≤ k) (Go.Proofs.YtknmmkgaijndfaaW.PrintWords.Kd.R_bound hr) (fun k hk => ⟨⟨hk.1, hk.2.2.2⟩, hk.2.1⟩)
  unfold laws_markVoteS.f at h
  by_cases hc : 0 ≤ a1 ∧ a1 + (l0.map fun v => 1 + 4 * (v.f1.length : Int)).sum ≤ 4000000000000000000
  · rw [if_pos hc] at h
    have e := cost_sum l0 l0.length (Nat.le_refl _)
    rw [List.take_length] at e
    rw [← e] at hc h
    refine (markVote_raw _ A l0.length c _ a1 w hc.1 hc.2 (rowV_of hb)).mono ?_
    rintro e w' ⟨rfl, hm⟩
    exact ⟨by rw [Option.some.inj h], hm.below hB (fun k hk => hk.2), hm.kept.mono (fun k hk => hk.1)⟩
  · rw [if_neg hc] at h
    cases h
theorem int_marked {W W2 : World} {base : Nat} {ok P1 : Nat → Prop} {v : Value} {xs : List Int} (ho : Kd.R (Kd.int .i64) 3 W base ok v xs) (hk : Kept W W2 (fun k => P1 k ∧ MB W k)) : Kd.R (Kd.int .i64) 3 W2 base ok v xs := by
  refine Kd.R_mono (Kd.R_kept (Kd.R_bound ho) hk (fun k h hs => ?_)) (fun k h => h.1)
  obtain ⟨_, _, _, q, hq, cells, hc⟩ := h
  obtain ⟨_, q', hq', cells', hc'⟩ := hs
  rw [hc] at hc'
  injection Option.some.inj hc' with _ e _
  subst e
  have h1 : q ∈ [3] := hq
  simp only [List.mem_cons, List.not_mem_nil, or_false] at h1 hq'
  subst h1
  rcases hq' with h2 | h2 <;> exact absurd h2 (by decide)
theorem laws_toItemS.calls (k : Nat) (A0 : Option Addr) (c0 : Nat) (l0 : List (S62)) (r : List (S58)) (w : World) (hr0 : Kd.C k62 w A0 l0.length l0) (hc0 : l0.length ≤ c0) (h : laws_toItemS.f k l0 = some r) :
    Calls Try.prog 14 #[.slice A0 l0.length c0] w fun e w' => ∃ v0_ : Value, e = .returned (v0_) ∧ Kd.R k58 58 w' w.heap.size (fun _ => True) v0_ r ∧ Below w.heap.size w w' := by
  refine (Go.Proofs.Ytknmmkgaijndfaa.P.laws_toItemS.calls k A0 c0 l0 r w hr0 hc0 h).mono ?_
  rintro e w' ⟨v0, he, h0, hb⟩
  exact ⟨_, he, Kd.of_R h0, hb⟩
theorem laws_toVoteS.calls (k : Nat) (A0 : Option Addr) (c0 : Nat) (l0 : List (S53)) (r : List (S48)) (w : World) (hr0 : Kd.C k53 w A0 l0.length l0) (hc0 : l0.length ≤ c0) (h : laws_toVoteS.f k l0 = some r) :
    Calls Try.prog 13 #[.slice A0 l0.length c0] w fun e w' => ∃ v0_ : Value, e = .returned (v0_) ∧ Kd.R k48 48 w' w.heap.size (fun _ => True) v0_ r ∧ Below w.heap.size w w' := by
  refine (Go.Proofs.Ytknmmkgaijndfaa.P.laws_toVoteS.calls k A0 c0 l0 r w hr0 hc0 h).mono ?_
  rintro e w' ⟨v0, he, h0, hb⟩
  exact ⟨_, he, Kd.of_R h0, hb⟩
theorem spec_VotesFor.calls (k : Nat) (A0 : Option Addr) (c0 : Nat) (l0 : List (S48)) (A1 : Option Addr) (c1 : Nat) (l1 : List (S58)) (r : List Int) (w : World) (hr0 : Kd.C k48 w A0 l0.length l0) (hc0 : l0.length ≤ c0) (hr1 : Kd.C k58 w A1 l1.length l1) (hc1 : l1.length ≤ c1) (h : spec_VotesFor.f k l0 l1 = some r) :
    Calls Try.prog 18 #[.slice A0 l0.length c0, .slice A1 l1.length c1] w fun e w' => ∃ v0_ : Value, e = .returned (v0_) ∧ Kd.R (Kd.int .i64) 3 w' w.heap.size (fun _ => True) v0_ r ∧ Below w.heap.size w w' := by
  refine (Go.Proofs.Ytknmmkgaijndfaa.P.spec_VotesFor.calls k A0 c0 l0 A1 c1 l1 r w hr0 hc0 hr1 hc1 h).mono ?_
  rintro e w' ⟨v0, he, h0, hb⟩
  exact ⟨_, he, Kd.of_R h0, hb⟩
set_option maxHeartbeats 8000000 in
set_option maxRecDepth 100000 in
theorem impl_VotesFor.calls (k : Nat) (A0 : Option Addr) (c0 : Nat) (l0 : List (S48)) (A1 : Option Addr) (c1 : Nat) (l1 : List (S58)) (r : List Int) (w : World) (hr0 : Kd.C k48 w A0 l0.length l0) (hc0 : l0.length ≤ c0) (hr1 : Kd.C k58 w A1 l1.length l1) (hc1 : l1.length ≤ c1) (h : impl_VotesFor.f k l0 l1 = some r) :
  Calls Try.prog 19 #[.slice A0 l0.length c0, .slice A1 l1.length c1] w fun e w' => ∃ v0_ : Value, e = .returned (v0_) ∧ Kd.R (Kd.int .i64) 3 w' w.heap.size (fun _ => True) v0_ r ∧ Below w.heap.size w w' := by
 have HR0 := Aside0.mk hr0
 have HC0 := Aside0.mk hc0
 clear hr0 hc0
 have HR1 := Aside0.mk hr1
 have HC1 := Aside0.mk hc1
 clear hr1 hc1
 have HB := Aside0.mk (Below.refl w.heap.size w)
 have H : ((impl_VotesOk.f k l0).bind fun t222 => (if t222 = true then ((impl_votes_voters.f k l0 l1).bind fun t223 => (some t223)) else (some ([] : List Int)))) = some r := h
 clear h
 replace H := Option.bind_eq_some_iff.mp H
 obtain ⟨t222, A30, H⟩ := H
 replace H : (if t222 = true then ((impl_votes_voters.f k l0 l1).bind fun t223 => (some t223)) else (some ([] : List Int))) = some r := H
 have A3 := Aside0.mk A30
 clear A30
 by_cases c4 : t222 = true
 ·subst c4
  have H1 : ((impl_votes_voters.f k l0 l1).bind fun t223 => (some t223)) = some r := by rw [if_pos rfl] at H; exact H
  clear H
  have H := H1
  clear H1
  replace H := Option.bind_eq_some_iff.mp H
  obtain ⟨t223, A50, H⟩ := H
  replace H : (some t223) = some r := H
  have A5 := Aside0.mk A50
  clear A50
  obtain rfl := Option.some.inj H
  go_enter Try.func19, Try.ntmps19
  go_wp2_with (first | ((with_reducible refine gate_callee (f := 37) rfl ?_); refine goesL_ (some 6) rfl rfl Try.func37 (by kernel_rfl) rfl #[.slice A0 l0.length c0] rfl (by (try simp only [List.map_toArray, List.map_cons, List.map_nil]); first | done | rfl | (simp only [List.length_drop, List.length_take]; rfl)) ?_; (with_reducible refine (impl_VotesOk.calls k _ _ l0 true _ ?side1 ?side2 A3.out).mono ?_); (case side1 => repeat (first | exact HR0.out | (with_reducible refine Kd.C_alloc ?_ _) | (with_reducible refine Kd.C_drewN ?_ _) | (with_reducible refine Kd.C_drew ?_))); (case side2 => exact HC0.out); rintro e w6 ⟨rfl, hb⟩; refine ⟨_, rfl, ?_⟩; have n0_ := Aside0.mk (below_step (by repeat (first | (with_reducible first | exact HB.out | apply below_alloc | apply pw_below_drewN | apply below_drew1) | exact HB.out)) hb); clear HB; have HB := n0_; clear n0_; (try clear hb); (try clear hb2); (try clear hk); (try clear hi)) | ((with_reducible refine gate_callee (f := 43) rfl ?_); refine goesL_ (some 10) rfl rfl Try.func43 (by kernel_rfl) rfl #[.slice A0 l0.length c0, .slice A1 l1.length c1] rfl (by (try simp only [List.map_toArray, List.map_cons, List.map_nil]); first | done | rfl | (simp only [List.length_drop, List.length_take]; rfl)) ?_; (with_reducible refine (impl_votes_voters.calls k _ _ l0 _ _ l1 t223 _ ?side1 ?side2 ?side3 ?side4 A5.out).mono ?_); (case side1 => repeat (first | exact (Kd.C_below HR0.out HB.out) | (with_reducible refine Kd.C_alloc ?_ _) | (with_reducible refine Kd.C_drewN ?_ _) | (with_reducible refine Kd.C_drew ?_))); (case side2 => exact HC0.out); (case side3 => repeat (first | exact (Kd.C_below HR1.out HB.out) | (with_reducible refine Kd.C_alloc ?_ _) | (with_reducible refine Kd.C_drewN ?_ _) | (with_reducible refine Kd.C_drew ?_))); (case side4 => exact HC1.out); rintro e w7 ⟨v224, rfl, ho0, hb⟩; refine ⟨_, rfl, ?_⟩; have n0_ := Aside0.mk (Kd.R_lower ho0 (below_size (by repeat (first | (with_reducible first | exact HB.out | apply below_alloc | apply pw_below_drewN | apply below_drew1) | exact HB.out)))); have n1_ := Aside0.mk (below_step (by repeat (first | (with_reducible first | exact HB.out | apply below_alloc | apply pw_below_drewN | apply below_drew1) | exact HB.out)) hb); clear HB; have HO225 := n0_; have HB := n1_; clear n0_ n1_; (try clear hb); (try clear hb2); (try clear hk); (try clear hi); (try clear ho0)))
  go_ret
  exact ⟨_, by first | rfl | (simp only [i64_w, i32_w]; done) | (simp only [i64_w, i32_w]; rfl) | (simp [errW_none, errW_some] <;> rfl) | (simp [*, errW_none, errW_some] <;> rfl), by (with_reducible repeat (first | apply Kd.R_alloc | apply Kd.R_drewN | apply Kd.R_drew)); exact HO225.out, by repeat (first | (with_reducible first | exact HB.out | apply below_alloc | apply pw_below_drewN | apply below_drew1) | exact HB.out)⟩
 ·replace c4 := Bool.eq_false_iff.mpr c4
  subst c4
  have H1 : (some ([] : List Int)) = some r := by rw [if_neg (show ¬ (false = true) by decide)] at H; exact H
  clear H
  have H := H1
  clear H1
  obtain rfl := Option.some.inj H
  go_enter Try.func19, Try.ntmps19
  go_wp2_with (first | ((with_reducible refine gate_callee (f := 37) rfl ?_); refine goesL_ (some 6) rfl rfl Try.func37 (by kernel_rfl) rfl #[.slice A0 l0.length c0] rfl (by (try simp only [List.map_toArray, List.map_cons, List.map_nil]); first | done | rfl | (simp only [List.length_drop, List.length_take]; rfl)) ?_; (with_reducible refine (impl_VotesOk.calls k _ _ l0 false _ ?side1 ?side2 A3.out).mono ?_); (case side1 => repeat (first | exact HR0.out | (with_reducible refine Kd.C_alloc ?_ _) | (with_reducible refine Kd.C_drewN ?_ _) | (with_reducible refine Kd.C_drew ?_))); (case side2 => exact HC0.out); rintro e w8 ⟨rfl, hb⟩; refine ⟨_, rfl, ?_⟩; have n0_ := Aside0.mk (below_step (by repeat (first | (with_reducible first | exact HB.out | apply below_alloc | apply pw_below_drewN | apply below_drew1) | exact HB.out)) hb); clear HB; have HB := n0_; clear n0_; (try clear hb); (try clear hb2); (try clear hk); (try clear hi)))
  go_ret
  exact ⟨_, by first | rfl | (simp only [i64_w, i32_w]; done) | (simp only [i64_w, i32_w]; rfl) | (simp [errW_none, errW_some] <;> rfl) | (simp [*, errW_none, errW_some] <;> rfl), by first | exact Kd.R_nil _ _ _ _ _ | exact Kd.N_nil _ _ _ _ _ | exact Kd.V_nil _ _ _ _ _ | exact Kd.Q_nil _ _ _ _ _ | exact Kd.S_nil _ _ _ _ _, by repeat (first | (with_reducible first | exact HB.out | apply below_alloc | apply pw_below_drewN | apply below_drew1) | exact HB.out)⟩

set_option maxHeartbeats 8000000 in
set_option maxRecDepth 100000 in
theorem laws_markIntS.calls (k : Nat) (P0_ : Nat → Prop) (u9000_ : Value) (l0 : List Int) (a1 : Int) (r1 : Int) (r2 : List Int) (w0 w : World) (hB : Below w0.heap.size w0 w) (ho0 : Kd.R (Kd.int .i64) 3 w w0.heap.size P0_ u9000_ l0) (h : laws_markIntS.f k l0 a1 = some (r1, r2)) :
  Calls Try.prog 23 #[u9000_, .int .i64 a1] w fun e w' => e = .returned (.int .i64 r1) ∧ Kd.R (Kd.int .i64) 3 w' w0.heap.size (fun k_ => (P0_ k_ ∨ w.heap.size ≤ k_)) u9000_ r2 ∧ Below w0.heap.size w0 w' ∧ Kept w w' (fun k_ => P0_ k_) := by
 have HO0 := Aside0.mk (show Kd.R (Kd.int .i64) 3 w w0.heap.size (fun k_ => (P0_ k_ ∨ w.heap.size ≤ k_)) u9000_ l0 from Kd.R_mono ho0 (fun k_ hk => (.inl hk)))
 have HK := Aside0.mk (Kept.refl w (fun k_ => P0_ k_))
 have HW0 := Aside0.mk hB.size
 have HB := Aside0.mk hB
 clear hB
 have H : (laws_markIntS.l0 k l0 a1 0) = some (r1, r2) := h
 clear h
 have H' := Aside0.mk H
 clear H
 go_enter Try.func23, Try.ntmps23
 go_wp2
 go_loopg [1, 5] k (fun kq v1 v5 w' => ∃ (x0_1 : List Int) (x1_1 : Int) (x5_1 : Int), v1 = .int .i64 x1_1 ∧ v5 = .int .i64 x5_1 ∧ Aside0 (laws_markIntS.l0 kq x0_1 x1_1 x5_1 = some (r1, r2)) ∧ Aside0 (kq ≤ k) ∧ Aside0 (Kd.R (Kd.int .i64) 3 w' w0.heap.size (fun k_ => (P0_ k_ ∨ w.heap.size ≤ k_)) u9000_ x0_1) ∧ Aside0 (Kept w w' (fun k_ => P0_ k_)) ∧ Aside0 (Below w0.heap.size w0 w'))
 case atStart => exact ⟨(l0), (a1), (0), (by first | rfl | (simp; done) | (simp [*]; done)), (by first | rfl | (simp; done) | (simp [*]; done)), H', ⟨Nat.le_refl _⟩, ⟨by (with_reducible repeat (first | apply Kd.R_alloc | apply Kd.R_drewN | apply Kd.R_drew)); exact HO0.out⟩, ⟨by repeat (first | (with_reducible first | exact HK.out | apply Kept.alloc | apply Kept.drewN | apply Kept.drew) | exact HK.out)⟩, ⟨by repeat (first | (with_reducible first | exact HB.out | apply below_alloc | apply pw_below_drewN | apply below_drew1) | exact HB.out)⟩⟩
 case round =>
  clear H'
  try clear c2
  try clear p2
  obtain ⟨x0_1, x1_1, x5_1, rfl, rfl, HA, HK1, HO_0, HK, HB⟩ := hrel
  cases gk with
  | zero => exact absurd HA.out (by simp [laws_markIntS.l0])
  | succ k1 =>
   have H := HA.out
   clear HA
   simp only [laws_markIntS.l0] at H
   by_cases c3 : x5_1 < (x0_1.length : Int)
   ·rw [if_pos c3] at H
    have c3b0 : decide (x5_1 < (x0_1.length : Int)) = true := decide_eq_true c3
    clear c3
    by_cases c4 : 0 ≤ x5_1
    ·rw [if_pos c4] at H
     have c4b0 : decide (0 ≤ x5_1) = true := decide_eq_true c4
     clear c4
     obtain ⟨y232, hy232⟩ : ∃ y_ : List Int, y_ = (x0_1.set (x5_1 : Int).toNat x1_1) := ⟨_, rfl⟩
     replace H : (laws_markIntS.l0 k1 y232 (wrap64 (x1_1 + 1)) (wrap64 (x5_1 + 1))) = some (r1, r2) := by first | (rw [hy232]; with_reducible exact H) | (have H2_ := (Option.bind_some _ _).symm.trans H; rw [hy232]; with_reducible exact H2_) | (have H2_ := (Option.bind_some _ _).symm.trans H; with_reducible exact H2_) | with_reducible exact H | (rw [hy232]; exact H) | exact H
     have Ny232 := Aside0.mk hy232
     clear hy232
     have H' := Aside0.mk H
     clear H
     obtain ⟨Ao6, co6, eo6⟩ := Kd.R_slice HO_0.out
     subst eo6
     have p5 : 0 ≤ (x5_1 : Int) := of_decide_eq_true (by first | (with_reducible assumption) | assumption)
     have q5 : (x5_1 : Int) < ((x0_1.length : Int) : Int) := of_decide_eq_true (by first | (with_reducible assumption) | assumption)
     obtain ⟨go5, co5, eo5, gb5, gl5, cl5, HG5⟩ := Kd.R_form HO_0.out (by omega)
     (first | cases eo5 | (injection eo5 with ea_ en_ ec_; (first | subst ea_ | (injection ea_ with ea_; subst ea_)); subst ec_; clear en_))
     have GB5 := Aside0.mk gb5
     have GG5 := Aside0.mk HG5
     clear gb5 gl5 HG5
     have HMgo5 := Aside0.mk (show (P0_ go5 ∨ w.heap.size ≤ go5) from (Kd.R_own1 HO_0.out _ rfl))
     obtain ⟨hx5_0, hf5_0⟩ := Kd.R_celln 0 HO_0.out (x5_1 : Int) p5 q5
     replace p5 := eq_true p5
     replace q5 := eq_true q5
     have HP7 := Kd.R_putg HO_0.out (x5_1 : Int) x1_1
     go_wp2_with (first | ((with_reducible refine gate_store (t := 3) (p := 15) rfl ?_); refine store_event (t := 3) (p := 15) (v := ?vo_w8) (w1 := (wr.setCell ⟨go5, (x5_1 : Int).toNat, none⟩ (.int .i64 x1_1))) ?hg ?ho ?hn ?hr ?_; (case ho => rfl); (case hg => rfl); (case hn => rfl); (case hr => first | (go_simp; done) | (go_simp; rfl)); intro w8 hw; have hg : wr.grownBy w8 (some go5) := (by rw [hw]; exact HP7.2); have hp_ : Kd.R (Kd.int .i64) 3 w8 w0.heap.size (fun k_ => (P0_ k_ ∨ w.heap.size ≤ k_)) (.slice (some ⟨go5, 0, none⟩) x0_1.length co6) y232 := (by rw [hw, Ny232.out]; exact HP7.1); clear HP7; have n0_ := Aside0.mk (hp_); have n1_ := Aside0.mk ((by rw [hw]; exact below_set (HB.out) GB5.out : Below w0.heap.size w0 w8)); have n2_ := Aside0.mk (Kept.of_grown (S := (fun k_ => P0_ k_)) hg (by repeat (first | (with_reducible first | exact HK.out | apply Kept.alloc | apply Kept.drewN | apply Kept.drew) | exact HK.out)) (fun k_ e_ => (Kd.R_own1 HO_0.out k_ e_))); clear HO_0; clear HB; clear HK; have HO_0 := n0_; have HB := n1_; have HK := n2_; clear n0_ n1_ n2_; clear hg hw hp_))
     go_roundg k1
     case measure => have := HK1.out; omega
     case rel => exact ⟨(y232), (wrap64 (x1_1 + 1)), (wrap64 (x5_1 + 1)), (by first | rfl | (simp; done) | (simp [*]; done)), (by first | rfl | (simp; done) | (simp [*]; done)), H', ⟨by have := HK1.out; omega⟩, ⟨by (with_reducible repeat (first | apply Kd.R_alloc | apply Kd.R_drewN | apply Kd.R_drew)); exact HO_0.out⟩, ⟨by repeat (first | (with_reducible first | exact HK.out | apply Kept.alloc | apply Kept.drewN | apply Kept.drew) | exact HK.out)⟩, ⟨by repeat (first | (with_reducible first | exact HB.out | apply below_alloc | apply pw_below_drewN | apply below_drew1) | exact HB.out)⟩⟩
    ·rw [if_neg c4] at H
     exact absurd H (by simp)
   ·rw [if_neg c3] at H
    have c3b0 : decide (x5_1 < (x0_1.length : Int)) = false := decide_eq_false c3
    clear c3
    simp only [Option.some.injEq, Prod.mk.injEq] at H
    obtain ⟨rfl, rfl⟩ := H
    obtain ⟨Ao9, co9, eo9⟩ := Kd.R_slice HO_0.out
    subst eo9
    go_wp2
    go_ret
    exact ⟨by first | rfl | (simp only [i64_w, i32_w]; done) | (simp only [i64_w, i32_w]; rfl) | (simp [errW_none, errW_some] <;> rfl) | (simp [*, errW_none, errW_some] <;> rfl), by (with_reducible repeat (first | apply Kd.R_alloc | apply Kd.R_drewN | apply Kd.R_drew)); exact HO_0.out, by repeat (first | (with_reducible first | exact HB.out | apply below_alloc | apply pw_below_drewN | apply below_drew1) | exact HB.out), by repeat (first | (with_reducible first | exact HK.out | apply Kept.alloc | apply Kept.drewN | apply Kept.drew) | exact HK.out)⟩

set_option maxHeartbeats 8000000 in
set_option maxRecDepth 100000 in
theorem laws_markItemS.calls (k : Nat) (P0_ : Nat → Prop) (u9000_ : Value) (l0 : List (S58)) (a1 : Int) (r1 : Int) (r2 : List (S58)) (w0 w : World) (hB : Below w0.heap.size w0 w) (ho0 : Kd.R k58 58 w w0.heap.size P0_ u9000_ l0) (h : laws_markItemS.f k l0 a1 = some (r1, r2)) :
  Calls Try.prog 22 #[u9000_, .int .i64 a1] w fun e w' => e = .returned (.int .i64 r1) ∧ Kd.R k58 58 w' w0.heap.size (fun k_ => (P0_ k_ ∨ w.heap.size ≤ k_)) u9000_ r2 ∧ Below w0.heap.size w0 w' ∧ Kept w w' (fun k_ => P0_ k_) := by
 have HO0 := Aside0.mk (show Kd.R k58 58 w w0.heap.size (fun k_ => (P0_ k_ ∨ w.heap.size ≤ k_)) u9000_ l0 from Kd.R_mono ho0 (fun k_ hk => (.inl hk)))
 have HK := Aside0.mk (Kept.refl w (fun k_ => P0_ k_))
 have HW0 := Aside0.mk hB.size
 have HB := Aside0.mk hB
 clear hB
 have H : (laws_markItemS.l0 k l0 a1 0) = some (r1, r2) := h
 clear h
 have H' := Aside0.mk H
 clear H
 go_enter Try.func22, Try.ntmps22
 go_wp2
 go_loopg [1, 5] k (fun kq v1 v5 w' => ∃ (x0_1 : List (S58)) (x1_1 : Int) (x5_1 : Int), v1 = .int .i64 x1_1 ∧ v5 = .int .i64 x5_1 ∧ Aside0 (laws_markItemS.l0 kq x0_1 x1_1 x5_1 = some (r1, r2)) ∧ Aside0 (kq ≤ k) ∧ Aside0 (Kd.R k58 58 w' w0.heap.size (fun k_ => (P0_ k_ ∨ w.heap.size ≤ k_)) u9000_ x0_1) ∧ Aside0 (Kept w w' (fun k_ => P0_ k_)) ∧ Aside0 (Below w0.heap.size w0 w'))
 case atStart => exact ⟨(l0), (a1), (0), (by first | rfl | (simp; done) | (simp [*]; done)), (by first | rfl | (simp; done) | (simp [*]; done)), H', ⟨Nat.le_refl _⟩, ⟨by (with_reducible repeat (first | apply Kd.R_alloc | apply Kd.R_drewN | apply Kd.R_drew)); exact HO0.out⟩, ⟨by repeat (first | (with_reducible first | exact HK.out | apply Kept.alloc | apply Kept.drewN | apply Kept.drew) | exact HK.out)⟩, ⟨by repeat (first | (with_reducible first | exact HB.out | apply below_alloc | apply pw_below_drewN | apply below_drew1) | exact HB.out)⟩⟩
 case round =>
  clear H'
  try clear c2
  try clear p2
  obtain ⟨x0_1, x1_1, x5_1, rfl, rfl, HA, HK1, HO_0, HK, HB⟩ := hrel
  cases gk with
  | zero => exact absurd HA.out (by simp [laws_markItemS.l0])
  | succ k1 =>
   have H := HA.out
   clear HA
   simp only [laws_markItemS.l0] at H
   by_cases c3 : x5_1 < (x0_1.length : Int)
   ·rw [if_pos c3] at H
    have c3b0 : decide (x5_1 < (x0_1.length : Int)) = true := decide_eq_true c3
    clear c3
    by_cases c4 : 0 ≤ x5_1
    ·rw [if_pos c4] at H
     have c4b0 : decide (0 ≤ x5_1) = true := decide_eq_true c4
     clear c4
     obtain ⟨y228, hy228⟩ : ∃ y_ : List (S58), y_ = (x0_1.set (x5_1 : Int).toNat (⟨x1_1, (⟨(rd_T58 x0_1 x5_1).f1.f0, (rd_T58 x0_1 x5_1).f1.f1, (rd_T58 x0_1 x5_1).f1.f2⟩ : S56)⟩ : S58)) := ⟨_, rfl⟩
     replace H : ((some (y228.set (x5_1 : Int).toNat (⟨(rd_T58 y228 x5_1).f0, (⟨wrap64 (x1_1 + 1), (rd_T58 y228 x5_1).f1.f1, (rd_T58 y228 x5_1).f1.f2⟩ : S56)⟩ : S58) : List (S58))).bind fun y229 => ((some (y229.set (x5_1 : Int).toNat (⟨(rd_T58 y229 x5_1).f0, (⟨(rd_T58 y229 x5_1).f1.f0, wrap64 ((wrap64 (x1_1 + 1)) + 1), (rd_T58 y229 x5_1).f1.f2⟩ : S56)⟩ : S58) : List (S58))).bind fun y230 => (laws_markItemS.l0 k1 (y230.set (x5_1 : Int).toNat (⟨(rd_T58 y230 x5_1).f0, (⟨(rd_T58 y230 x5_1).f1.f0, (rd_T58 y230 x5_1).f1.f1, wrap64 ((wrap64 ((wrap64 (x1_1 + 1)) + 1)) + 1)⟩ : S56)⟩ : S58)) (wrap64 ((wrap64 ((wrap64 ((wrap64 (x1_1 + 1)) + 1)) + 1)) + 1)) (wrap64 (x5_1 + 1))))) = some (r1, r2) := by first | (rw [hy228]; with_reducible exact H) | (have H2_ := (Option.bind_some _ _).symm.trans H; rw [hy228]; with_reducible exact H2_) | (have H2_ := (Option.bind_some _ _).symm.trans H; with_reducible exact H2_) | with_reducible exact H | (rw [hy228]; exact H) | exact H
     have Ny228 := Aside0.mk hy228
     clear hy228
     obtain ⟨y229, hy229⟩ : ∃ y_ : List (S58), y_ = (y228.set (x5_1 : Int).toNat (⟨(rd_T58 y228 x5_1).f0, (⟨wrap64 (x1_1 + 1), (rd_T58 y228 x5_1).f1.f1, (rd_T58 y228 x5_1).f1.f2⟩ : S56)⟩ : S58)) := ⟨_, rfl⟩
     replace H : ((some (y229.set (x5_1 : Int).toNat (⟨(rd_T58 y229 x5_1).f0, (⟨(rd_T58 y229 x5_1).f1.f0, wrap64 ((wrap64 (x1_1 + 1)) + 1), (rd_T58 y229 x5_1).f1.f2⟩ : S56)⟩ : S58) : List (S58))).bind fun y230 => (laws_markItemS.l0 k1 (y230.set (x5_1 : Int).toNat (⟨(rd_T58 y230 x5_1).f0, (⟨(rd_T58 y230 x5_1).f1.f0, (rd_T58 y230 x5_1).f1.f1, wrap64 ((wrap64 ((wrap64 (x1_1 + 1)) + 1)) + 1)⟩ : S56)⟩ : S58)) (wrap64 ((wrap64 ((wrap64 ((wrap64 (x1_1 + 1)) + 1)) + 1)) + 1)) (wrap64 (x5_1 + 1)))) = some (r1, r2) := by first | (rw [hy229]; with_reducible exact H) | (have H2_ := (Option.bind_some _ _).symm.trans H; rw [hy229]; with_reducible exact H2_) | (have H2_ := (Option.bind_some _ _).symm.trans H; with_reducible exact H2_) | with_reducible exact H | (rw [hy229]; exact H) | exact H
     have Ny229 := Aside0.mk hy229
     clear hy229
     obtain ⟨y230, hy230⟩ : ∃ y_ : List (S58), y_ = (y229.set (x5_1 : Int).toNat (⟨(rd_T58 y229 x5_1).f0, (⟨(rd_T58 y229 x5_1).f1.f0, wrap64 ((wrap64 (x1_1 + 1)) + 1), (rd_T58 y229 x5_1).f1.f2⟩ : S56)⟩ : S58)) := ⟨_, rfl⟩
     replace H : (laws_markItemS.l0 k1 (y230.set (x5_1 : Int).toNat (⟨(rd_T58 y230 x5_1).f0, (⟨(rd_T58 y230 x5_1).f1.f0, (rd_T58 y230 x5_1).f1.f1, wrap64 ((wrap64 ((wrap64 (x1_1 + 1)) + 1)) + 1)⟩ : S56)⟩ : S58)) (wrap64 ((wrap64 ((wrap64 ((wrap64 (x1_1 + 1)) + 1)) + 1)) + 1)) (wrap64 (x5_1 + 1))) = some (r1, r2) := by first | (rw [hy230]; with_reducible exact H) | (have H2_ := (Option.bind_some _ _).symm.trans H; rw [hy230]; with_reducible exact H2_) | (have H2_ := (Option.bind_some _ _).symm.trans H; with_reducible exact H2_) | with_reducible exact H | (rw [hy230]; exact H) | exact H
     have Ny230 := Aside0.mk hy230
     clear hy230
     obtain ⟨y231, hy231⟩ : ∃ y_ : List (S58), y_ = (y230.set (x5_1 : Int).toNat (⟨(rd_T58 y230 x5_1).f0, (⟨(rd_T58 y230 x5_1).f1.f0, (rd_T58 y230 x5_1).f1.f1, wrap64 ((wrap64 ((wrap64 (x1_1 + 1)) + 1)) + 1)⟩ : S56)⟩ : S58)) := ⟨_, rfl⟩
     replace H : (laws_markItemS.l0 k1 y231 (wrap64 ((wrap64 ((wrap64 ((wrap64 (x1_1 + 1)) + 1)) + 1)) + 1)) (wrap64 (x5_1 + 1))) = some (r1, r2) := by first | (rw [hy231]; with_reducible exact H) | (have H2_ := (Option.bind_some _ _).symm.trans H; rw [hy231]; with_reducible exact H2_) | (have H2_ := (Option.bind_some _ _).symm.trans H; with_reducible exact H2_) | with_reducible exact H | (rw [hy231]; exact H) | exact H
     have Ny231 := Aside0.mk hy231
     clear hy231
     have H' := Aside0.mk H
     clear H
     obtain ⟨Ao9, co9, eo9⟩ := Kd.R_slice HO_0.out
     subst eo9
     have p5 : 0 ≤ (x5_1 : Int) := of_decide_eq_true (by first | (with_reducible assumption) | assumption)
     have q5 : (x5_1 : Int) < ((x0_1.length : Int) : Int) := of_decide_eq_true (by first | (with_reducible assumption) | assumption)
     obtain ⟨go5, co5, eo5, gb5, gl5, cl5, HG5⟩ := Kd.R_form HO_0.out (by omega)
     (first | cases eo5 | (injection eo5 with ea_ en_ ec_; (first | subst ea_ | (injection ea_ with ea_; subst ea_)); subst ec_; clear en_))
     have GB5 := Aside0.mk gb5
     have GG5 := Aside0.mk HG5
     clear gb5 gl5 HG5
     have HMgo5 := Aside0.mk (show (P0_ go5 ∨ w.heap.size ≤ go5) from (Kd.R_own1 HO_0.out _ rfl))
     obtain ⟨ce5, hcl5, hM5, hcc5, hfr5⟩ := Kd.R_elem HO_0.out z58 (x5_1 : Int) p5 q5
     obtain rfl := k58_openM hM5
     have hx5_0 : wr.cell? ⟨go5, (x5_1 : Int).toNat * 4, none⟩ = some (.int .i64 ((rd_T58 x0_1 x5_1).f0)) := hcc5 0 _ rfl
     have hx5_1 : wr.cell? ⟨go5, (x5_1 : Int).toNat * 4 + 1, none⟩ = some (.int .i64 ((rd_T58 x0_1 x5_1).f1.f0)) := hcc5 1 _ rfl
     have hx5_2 : wr.cell? ⟨go5, (x5_1 : Int).toNat * 4 + 2, none⟩ = some (.int .i64 ((rd_T58 x0_1 x5_1).f1.f1)) := hcc5 2 _ rfl
     have hx5_3 : wr.cell? ⟨go5, (x5_1 : Int).toNat * 4 + 3, none⟩ = some (.int .i64 ((rd_T58 x0_1 x5_1).f1.f2)) := hcc5 3 _ rfl
     have hf5_0 : wr.frozen? ⟨go5, (x5_1 : Int).toNat * 4, none⟩ = false := hfr5 0
     have hf5_1 : wr.frozen? ⟨go5, (x5_1 : Int).toNat * 4 + 1, none⟩ = false := hfr5 1
     have hf5_2 : wr.frozen? ⟨go5, (x5_1 : Int).toNat * 4 + 2, none⟩ = false := hfr5 2
     have hf5_3 : wr.frozen? ⟨go5, (x5_1 : Int).toNat * 4 + 3, none⟩ = false := hfr5 3
     clear hcl5 hcc5 hfr5 hM5
     replace p5 := eq_true p5
     replace q5 := eq_true q5
     have HX10 := Aside0.mk (show Kd.R k58 58 wr w0.heap.size (fun k_ => (P0_ k_ ∨ w.heap.size ≤ k_)) (.slice (some ⟨go5, 0, none⟩) x0_1.length co9) x0_1 from (by (with_reducible repeat (first | apply Kd.R_alloc | apply Kd.R_drewN | apply Kd.R_drew)); exact HO_0.out))
     obtain ⟨ce10, hcl10, hM10, hcc10, hfr10⟩ := Kd.R_elem HX10.out z58 (x5_1 : Int) (of_decide_eq_true (by first | (with_reducible assumption) | assumption)) (by have h_ : (x5_1 : Int) < ((x0_1.length : Int) : Int) := of_decide_eq_true (by first | (with_reducible assumption) | assumption); first | exact h_ | (have e_ := (Kd.R_reads' HO_0.out).1; omega) | simpa using h_)
     obtain rfl := k58_openM hM10
     have HP10 := Kd.R_seg HX10.out (x5_1 : Int) (of_decide_eq_true (by first | (with_reducible assumption) | assumption)) (by have h_ : (x5_1 : Int) < ((x0_1.length : Int) : Int) := of_decide_eq_true (by first | (with_reducible assumption) | assumption); first | exact h_ | (have e_ := (Kd.R_reads' HO_0.out).1; omega) | simpa using h_) (seg := [.int .i64 x1_1]) (j := 0) hcl10 hcc10 (show 1 ≤ 4 from by decide) (x' := (⟨x1_1, (⟨(rd_T58 x0_1 x5_1).f1.f0, (rd_T58 x0_1 x5_1).f1.f1, (rd_T58 x0_1 x5_1).f1.f2⟩ : S56)⟩ : S58)) (k58_mkM _ _ _ (⟨x1_1, (⟨(rd_T58 x0_1 x5_1).f1.f0, (rd_T58 x0_1 x5_1).f1.f1, (rd_T58 x0_1 x5_1).f1.f2⟩ : S56)⟩ : S58) ) (fun _ hk => hk)
     have hx10_0 := hcc10 0 _ rfl
     (try simp only [show (k58).sz = 4 from rfl, Nat.mul_one, Nat.add_zero] at hx10_0)
     have hf10_0 := hfr10 0
     (try simp only [show (k58).sz = 4 from rfl, Nat.mul_one, Nat.add_zero] at hf10_0)
     clear hcl10 hcc10 hfr10 hM10
     go_wp2_with (first | ((with_reducible refine gate_store (t := 3) (p := 16) rfl ?_); refine store_event (t := 3) (p := 16) (v := ?vo_w11) (w1 := (wr.setCell ⟨go5, (x5_1 : Int).toNat * 4, none⟩ (.int .i64 x1_1))) ?hg ?ho ?hn ?hr ?_; (case ho => rfl); (case hg => rfl); (case hn => rfl); (case hr => first | (go_simp; done) | (go_simp; rfl)); intro w11 hw; have hg : wr.grownBy w11 (some go5) := (by rw [hw]; exact HP10.2); have hp_ : Kd.R k58 58 w11 w0.heap.size (fun k_ => (P0_ k_ ∨ w.heap.size ≤ k_)) (.slice (some ⟨go5, 0, none⟩) x0_1.length co9) y228 := (by rw [hw, Ny228.out]; exact HP10.1); clear HP10; have n0_ := Aside0.mk (hp_); have n1_ := Aside0.mk ((by rw [hw]; exact below_set (HB.out) GB5.out : Below w0.heap.size w0 w11)); have n2_ := Aside0.mk (Kept.of_grown (S := (fun k_ => P0_ k_)) hg (by repeat (first | (with_reducible first | exact HK.out | apply Kept.alloc | apply Kept.drewN | apply Kept.drew) | exact HK.out)) (fun k_ e_ => (Kd.R_own1 HO_0.out k_ e_))); clear HO_0; clear HB; clear HK; have HO_0 := n0_; have HB := n1_; have HK := n2_; clear n0_ n1_ n2_; clear hg hw hp_; have p6 : 0 ≤ (x5_1 : Int) := of_decide_eq_true (by first | (with_reducible assumption) | assumption); have q6 : (x5_1 : Int) < ((x0_1.length : Int) : Int) := of_decide_eq_true (by first | (with_reducible assumption) | assumption); obtain ⟨ce6, hcl6, hM6, hcc6, hfr6⟩ := Kd.R_elem HO_0.out z58 (x5_1 : Int) p6 q6; obtain rfl := k58_openM hM6; have hx6_0 : w11.cell? ⟨go5, (x5_1 : Int).toNat * 4, none⟩ = some (.int .i64 ((rd_T58 y228 x5_1).f0)) := hcc6 0 _ rfl; have hx6_1 : w11.cell? ⟨go5, (x5_1 : Int).toNat * 4 + 1, none⟩ = some (.int .i64 ((rd_T58 y228 x5_1).f1.f0)) := hcc6 1 _ rfl; have hx6_2 : w11.cell? ⟨go5, (x5_1 : Int).toNat * 4 + 2, none⟩ = some (.int .i64 ((rd_T58 y228 x5_1).f1.f1)) := hcc6 2 _ rfl; have hx6_3 : w11.cell? ⟨go5, (x5_1 : Int).toNat * 4 + 3, none⟩ = some (.int .i64 ((rd_T58 y228 x5_1).f1.f2)) := hcc6 3 _ rfl; have hf6_0 : w11.frozen? ⟨go5, (x5_1 : Int).toNat * 4, none⟩ = false := hfr6 0; have hf6_1 : w11.frozen? ⟨go5, (x5_1 : Int).toNat * 4 + 1, none⟩ = false := hfr6 1; have hf6_2 : w11.frozen? ⟨go5, (x5_1 : Int).toNat * 4 + 2, none⟩ = false := hfr6 2; have hf6_3 : w11.frozen? ⟨go5, (x5_1 : Int).toNat * 4 + 3, none⟩ = false := hfr6 3; clear hcl6 hcc6 hfr6 hM6; replace p6 := eq_true p6; replace q6 := eq_true q6; have HX12 := Aside0.mk (show Kd.R k58 58 w11 w0.heap.size (fun k_ => (P0_ k_ ∨ w.heap.size ≤ k_)) (.slice (some ⟨go5, 0, none⟩) x0_1.length co9) y228 from (by (with_reducible repeat (first | apply Kd.R_alloc | apply Kd.R_drewN | apply Kd.R_drew)); exact HO_0.out)); obtain ⟨ce12, hcl12, hM12, hcc12, hfr12⟩ := Kd.R_elem HX12.out z58 (x5_1 : Int) (of_decide_eq_true (by first | (with_reducible assumption) | assumption)) (by have h_ : (x5_1 : Int) < ((x0_1.length : Int) : Int) := of_decide_eq_true (by first | (with_reducible assumption) | assumption); first | exact h_ | (have e_ := (Kd.R_reads' HO_0.out).1; omega) | simpa using h_); obtain rfl := k58_openM hM12; have HP12 := Kd.R_seg HX12.out (x5_1 : Int) (of_decide_eq_true (by first | (with_reducible assumption) | assumption)) (by have h_ : (x5_1 : Int) < ((x0_1.length : Int) : Int) := of_decide_eq_true (by first | (with_reducible assumption) | assumption); first | exact h_ | (have e_ := (Kd.R_reads' HO_0.out).1; omega) | simpa using h_) (seg := [.int .i64 (wrap64 (x1_1 + 1))]) (j := 1) hcl12 hcc12 (show 2 ≤ 4 from by decide) (x' := (⟨(rd_T58 y228 x5_1).f0, (⟨wrap64 (x1_1 + 1), (rd_T58 y228 x5_1).f1.f1, (rd_T58 y228 x5_1).f1.f2⟩ : S56)⟩ : S58)) (k58_mkM _ _ _ (⟨(rd_T58 y228 x5_1).f0, (⟨wrap64 (x1_1 + 1), (rd_T58 y228 x5_1).f1.f1, (rd_T58 y228 x5_1).f1.f2⟩ : S56)⟩ : S58) ) (fun _ hk => hk); have hx12_1 := hcc12 1 _ rfl; (try simp only [show (k58).sz = 4 from rfl, Nat.mul_one, Nat.add_zero] at hx12_1); have hf12_1 := hfr12 1; (try simp only [show (k58).sz = 4 from rfl, Nat.mul_one, Nat.add_zero] at hf12_1); clear hcl12 hcc12 hfr12 hM12) | ((with_reducible refine gate_store (t := 3) (p := 24) rfl ?_); refine store_event (t := 3) (p := 24) (v := ?vo_w13) (w1 := (w11.setCell ⟨go5, (x5_1 : Int).toNat * 4 + 1, none⟩ (.int .i64 (wrap64 (x1_1 + 1))))) ?hg ?ho ?hn ?hr ?_; (case ho => rfl); (case hg => rfl); (case hn => rfl); (case hr => first | (go_simp; done) | (go_simp; rfl)); intro w13 hw; have hg : w11.grownBy w13 (some go5) := (by rw [hw]; exact HP12.2); have hp_ : Kd.R k58 58 w13 w0.heap.size (fun k_ => (P0_ k_ ∨ w.heap.size ≤ k_)) (.slice (some ⟨go5, 0, none⟩) x0_1.length co9) y229 := (by rw [hw, Ny229.out]; exact HP12.1); clear HP12; have n0_ := Aside0.mk (hp_); have n1_ := Aside0.mk ((by rw [hw]; exact below_set (HB.out) GB5.out : Below w0.heap.size w0 w13)); have n2_ := Aside0.mk (Kept.of_grown (S := (fun k_ => P0_ k_)) hg (by repeat (first | (with_reducible first | exact HK.out | apply Kept.alloc | apply Kept.drewN | apply Kept.drew) | exact HK.out)) (fun k_ e_ => (Kd.R_own1 HO_0.out k_ e_))); clear HO_0; clear HB; clear HK; have HO_0 := n0_; have HB := n1_; have HK := n2_; clear n0_ n1_ n2_; clear hg hw hp_; have p7 : 0 ≤ (x5_1 : Int) := of_decide_eq_true (by first | (with_reducible assumption) | assumption); have q7 : (x5_1 : Int) < ((x0_1.length : Int) : Int) := of_decide_eq_true (by first | (with_reducible assumption) | assumption); obtain ⟨ce7, hcl7, hM7, hcc7, hfr7⟩ := Kd.R_elem HO_0.out z58 (x5_1 : Int) p7 q7; obtain rfl := k58_openM hM7; have hx7_0 : w13.cell? ⟨go5, (x5_1 : Int).toNat * 4, none⟩ = some (.int .i64 ((rd_T58 y229 x5_1).f0)) := hcc7 0 _ rfl; have hx7_1 : w13.cell? ⟨go5, (x5_1 : Int).toNat * 4 + 1, none⟩ = some (.int .i64 ((rd_T58 y229 x5_1).f1.f0)) := hcc7 1 _ rfl; have hx7_2 : w13.cell? ⟨go5, (x5_1 : Int).toNat * 4 + 2, none⟩ = some (.int .i64 ((rd_T58 y229 x5_1).f1.f1)) := hcc7 2 _ rfl; have hx7_3 : w13.cell? ⟨go5, (x5_1 : Int).toNat * 4 + 3, none⟩ = some (.int .i64 ((rd_T58 y229 x5_1).f1.f2)) := hcc7 3 _ rfl; have hf7_0 : w13.frozen? ⟨go5, (x5_1 : Int).toNat * 4, none⟩ = false := hfr7 0; have hf7_1 : w13.frozen? ⟨go5, (x5_1 : Int).toNat * 4 + 1, none⟩ = false := hfr7 1; have hf7_2 : w13.frozen? ⟨go5, (x5_1 : Int).toNat * 4 + 2, none⟩ = false := hfr7 2; have hf7_3 : w13.frozen? ⟨go5, (x5_1 : Int).toNat * 4 + 3, none⟩ = false := hfr7 3; clear hcl7 hcc7 hfr7 hM7; replace p7 := eq_true p7; replace q7 := eq_true q7; have HX14 := Aside0.mk (show Kd.R k58 58 w13 w0.heap.size (fun k_ => (P0_ k_ ∨ w.heap.size ≤ k_)) (.slice (some ⟨go5, 0, none⟩) x0_1.length co9) y229 from (by (with_reducible repeat (first | apply Kd.R_alloc | apply Kd.R_drewN | apply Kd.R_drew)); exact HO_0.out)); obtain ⟨ce14, hcl14, hM14, hcc14, hfr14⟩ := Kd.R_elem HX14.out z58 (x5_1 : Int) (of_decide_eq_true (by first | (with_reducible assumption) | assumption)) (by have h_ : (x5_1 : Int) < ((x0_1.length : Int) : Int) := of_decide_eq_true (by first | (with_reducible assumption) | assumption); first | exact h_ | (have e_ := (Kd.R_reads' HO_0.out).1; omega) | simpa using h_); obtain rfl := k58_openM hM14; have HP14 := Kd.R_seg HX14.out (x5_1 : Int) (of_decide_eq_true (by first | (with_reducible assumption) | assumption)) (by have h_ : (x5_1 : Int) < ((x0_1.length : Int) : Int) := of_decide_eq_true (by first | (with_reducible assumption) | assumption); first | exact h_ | (have e_ := (Kd.R_reads' HO_0.out).1; omega) | simpa using h_) (seg := [.int .i64 (wrap64 ((wrap64 (x1_1 + 1)) + 1))]) (j := 2) hcl14 hcc14 (show 3 ≤ 4 from by decide) (x' := (⟨(rd_T58 y229 x5_1).f0, (⟨(rd_T58 y229 x5_1).f1.f0, wrap64 ((wrap64 (x1_1 + 1)) + 1), (rd_T58 y229 x5_1).f1.f2⟩ : S56)⟩ : S58)) (k58_mkM _ _ _ (⟨(rd_T58 y229 x5_1).f0, (⟨(rd_T58 y229 x5_1).f1.f0, wrap64 ((wrap64 (x1_1 + 1)) + 1), (rd_T58 y229 x5_1).f1.f2⟩ : S56)⟩ : S58) ) (fun _ hk => hk); have hx14_2 := hcc14 2 _ rfl; (try simp only [show (k58).sz = 4 from rfl, Nat.mul_one, Nat.add_zero] at hx14_2); have hf14_2 := hfr14 2; (try simp only [show (k58).sz = 4 from rfl, Nat.mul_one, Nat.add_zero] at hf14_2); clear hcl14 hcc14 hfr14 hM14) | ((with_reducible refine gate_store (t := 3) (p := 32) rfl ?_); refine store_event (t := 3) (p := 32) (v := ?vo_w15) (w1 := (w13.setCell ⟨go5, (x5_1 : Int).toNat * 4 + 2, none⟩ (.int .i64 (wrap64 ((wrap64 (x1_1 + 1)) + 1))))) ?hg ?ho ?hn ?hr ?_; (case ho => rfl); (case hg => rfl); (case hn => rfl); (case hr => first | (go_simp; done) | (go_simp; rfl)); intro w15 hw; have hg : w13.grownBy w15 (some go5) := (by rw [hw]; exact HP14.2); have hp_ : Kd.R k58 58 w15 w0.heap.size (fun k_ => (P0_ k_ ∨ w.heap.size ≤ k_)) (.slice (some ⟨go5, 0, none⟩) x0_1.length co9) y230 := (by rw [hw, Ny230.out]; exact HP14.1); clear HP14; have n0_ := Aside0.mk (hp_); have n1_ := Aside0.mk ((by rw [hw]; exact below_set (HB.out) GB5.out : Below w0.heap.size w0 w15)); have n2_ := Aside0.mk (Kept.of_grown (S := (fun k_ => P0_ k_)) hg (by repeat (first | (with_reducible first | exact HK.out | apply Kept.alloc | apply Kept.drewN | apply Kept.drew) | exact HK.out)) (fun k_ e_ => (Kd.R_own1 HO_0.out k_ e_))); clear HO_0; clear HB; clear HK; have HO_0 := n0_; have HB := n1_; have HK := n2_; clear n0_ n1_ n2_; clear hg hw hp_; have p8 : 0 ≤ (x5_1 : Int) := of_decide_eq_true (by first | (with_reducible assumption) | assumption); have q8 : (x5_1 : Int) < ((x0_1.length : Int) : Int) := of_decide_eq_true (by first | (with_reducible assumption) | assumption); obtain ⟨ce8, hcl8, hM8, hcc8, hfr8⟩ := Kd.R_elem HO_0.out z58 (x5_1 : Int) p8 q8; obtain rfl := k58_openM hM8; have hx8_0 : w15.cell? ⟨go5, (x5_1 : Int).toNat * 4, none⟩ = some (.int .i64 ((rd_T58 y230 x5_1).f0)) := hcc8 0 _ rfl; have hx8_1 : w15.cell? ⟨go5, (x5_1 : Int).toNat * 4 + 1, none⟩ = some (.int .i64 ((rd_T58 y230 x5_1).f1.f0)) := hcc8 1 _ rfl; have hx8_2 : w15.cell? ⟨go5, (x5_1 : Int).toNat * 4 + 2, none⟩ = some (.int .i64 ((rd_T58 y230 x5_1).f1.f1)) := hcc8 2 _ rfl; have hx8_3 : w15.cell? ⟨go5, (x5_1 : Int).toNat * 4 + 3, none⟩ = some (.int .i64 ((rd_T58 y230 x5_1).f1.f2)) := hcc8 3 _ rfl; have hf8_0 : w15.frozen? ⟨go5, (x5_1 : Int).toNat * 4, none⟩ = false := hfr8 0; have hf8_1 : w15.frozen? ⟨go5, (x5_1 : Int).toNat * 4 + 1, none⟩ = false := hfr8 1; have hf8_2 : w15.frozen? ⟨go5, (x5_1 : Int).toNat * 4 + 2, none⟩ = false := hfr8 2; have hf8_3 : w15.frozen? ⟨go5, (x5_1 : Int).toNat * 4 + 3, none⟩ = false := hfr8 3; clear hcl8 hcc8 hfr8 hM8; replace p8 := eq_true p8; replace q8 := eq_true q8; have HX16 := Aside0.mk (show Kd.R k58 58 w15 w0.heap.size (fun k_ => (P0_ k_ ∨ w.heap.size ≤ k_)) (.slice (some ⟨go5, 0, none⟩) x0_1.length co9) y230 from (by (with_reducible repeat (first | apply Kd.R_alloc | apply Kd.R_drewN | apply Kd.R_drew)); exact HO_0.out)); obtain ⟨ce16, hcl16, hM16, hcc16, hfr16⟩ := Kd.R_elem HX16.out z58 (x5_1 : Int) (of_decide_eq_true (by first | (with_reducible assumption) | assumption)) (by have h_ : (x5_1 : Int) < ((x0_1.length : Int) : Int) := of_decide_eq_true (by first | (with_reducible assumption) | assumption); first | exact h_ | (have e_ := (Kd.R_reads' HO_0.out).1; omega) | simpa using h_); obtain rfl := k58_openM hM16; have HP16 := Kd.R_seg HX16.out (x5_1 : Int) (of_decide_eq_true (by first | (with_reducible assumption) | assumption)) (by have h_ : (x5_1 : Int) < ((x0_1.length : Int) : Int) := of_decide_eq_true (by first | (with_reducible assumption) | assumption); first | exact h_ | (have e_ := (Kd.R_reads' HO_0.out).1; omega) | simpa using h_) (seg := [.int .i64 (wrap64 ((wrap64 ((wrap64 (x1_1 + 1)) + 1)) + 1))]) (j := 3) hcl16 hcc16 (show 4 ≤ 4 from by decide) (x' := (⟨(rd_T58 y230 x5_1).f0, (⟨(rd_T58 y230 x5_1).f1.f0, (rd_T58 y230 x5_1).f1.f1, wrap64 ((wrap64 ((wrap64 (x1_1 + 1)) + 1)) + 1)⟩ : S56)⟩ : S58)) (k58_mkM _ _ _ (⟨(rd_T58 y230 x5_1).f0, (⟨(rd_T58 y230 x5_1).f1.f0, (rd_T58 y230 x5_1).f1.f1, wrap64 ((wrap64 ((wrap64 (x1_1 + 1)) + 1)) + 1)⟩ : S56)⟩ : S58) ) (fun _ hk => hk); have hx16_3 := hcc16 3 _ rfl; (try simp only [show (k58).sz = 4 from rfl, Nat.mul_one, Nat.add_zero] at hx16_3); have hf16_3 := hfr16 3; (try simp only [show (k58).sz = 4 from rfl, Nat.mul_one, Nat.add_zero] at hf16_3); clear hcl16 hcc16 hfr16 hM16) | ((with_reducible refine gate_store (t := 3) (p := 40) rfl ?_); refine store_event (t := 3) (p := 40) (v := ?vo_w17) (w1 := (w15.setCell ⟨go5, (x5_1 : Int).toNat * 4 + 3, none⟩ (.int .i64 (wrap64 ((wrap64 ((wrap64 (x1_1 + 1)) + 1)) + 1))))) ?hg ?ho ?hn ?hr ?_; (case ho => rfl); (case hg => rfl); (case hn => rfl); (case hr => first | (go_simp; done) | (go_simp; rfl)); intro w17 hw; have hg : w15.grownBy w17 (some go5) := (by rw [hw]; exact HP16.2); have hp_ : Kd.R k58 58 w17 w0.heap.size (fun k_ => (P0_ k_ ∨ w.heap.size ≤ k_)) (.slice (some ⟨go5, 0, none⟩) x0_1.length co9) y231 := (by rw [hw, Ny231.out]; exact HP16.1); clear HP16; have n0_ := Aside0.mk (hp_); have n1_ := Aside0.mk ((by rw [hw]; exact below_set (HB.out) GB5.out : Below w0.heap.size w0 w17)); have n2_ := Aside0.mk (Kept.of_grown (S := (fun k_ => P0_ k_)) hg (by repeat (first | (with_reducible first | exact HK.out | apply Kept.alloc | apply Kept.drewN | apply Kept.drew) | exact HK.out)) (fun k_ e_ => (Kd.R_own1 HO_0.out k_ e_))); clear HO_0; clear HB; clear HK; have HO_0 := n0_; have HB := n1_; have HK := n2_; clear n0_ n1_ n2_; clear hg hw hp_))
     go_roundg k1
     case measure => have := HK1.out; omega
     case rel => exact ⟨(y231), (wrap64 ((wrap64 ((wrap64 ((wrap64 (x1_1 + 1)) + 1)) + 1)) + 1)), (wrap64 (x5_1 + 1)), (by first | rfl | (simp; done) | (simp [*]; done)), (by first | rfl | (simp; done) | (simp [*]; done)), H', ⟨by have := HK1.out; omega⟩, ⟨by (with_reducible repeat (first | apply Kd.R_alloc | apply Kd.R_drewN | apply Kd.R_drew)); exact HO_0.out⟩, ⟨by repeat (first | (with_reducible first | exact HK.out | apply Kept.alloc | apply Kept.drewN | apply Kept.drew) | exact HK.out)⟩, ⟨by repeat (first | (with_reducible first | exact HB.out | apply below_alloc | apply pw_below_drewN | apply below_drew1) | exact HB.out)⟩⟩
    ·rw [if_neg c4] at H
     exact absurd H (by simp)
   ·rw [if_neg c3] at H
    have c3b0 : decide (x5_1 < (x0_1.length : Int)) = false := decide_eq_false c3
    clear c3
    simp only [Option.some.injEq, Prod.mk.injEq] at H
    obtain ⟨rfl, rfl⟩ := H
    obtain ⟨Ao18, co18, eo18⟩ := Kd.R_slice HO_0.out
    subst eo18
    go_wp2
    go_ret
    exact ⟨by first | rfl | (simp only [i64_w, i32_w]; done) | (simp only [i64_w, i32_w]; rfl) | (simp [errW_none, errW_some] <;> rfl) | (simp [*, errW_none, errW_some] <;> rfl), by (with_reducible repeat (first | apply Kd.R_alloc | apply Kd.R_drewN | apply Kd.R_drew)); exact HO_0.out, by repeat (first | (with_reducible first | exact HB.out | apply below_alloc | apply pw_below_drewN | apply below_drew1) | exact HB.out), by repeat (first | (with_reducible first | exact HK.out | apply Kept.alloc | apply Kept.drewN | apply Kept.drew) | exact HK.out)⟩

set_option maxHeartbeats 8000000 in
set_option maxRecDepth 100000 in
theorem laws_FnExactVotesFor.calls (k : Nat) (A0 : Option Addr) (c0 : Nat) (l0 : List (S53)) (A1 : Option Addr) (c1 : Nat) (l1 : List (S62)) (r : Bool) (hr_ : r = true) (w : World) (hr0 : Kd.C k53 w A0 l0.length l0) (hc0 : l0.length ≤ c0) (hr1 : Kd.C k62 w A1 l1.length l1) (hc1 : l1.length ≤ c1) (h : laws_FnExactVotesFor.f k l0 l1 = some r) :
  Calls Try.prog 4 #[.slice A0 l0.length c0, .slice A1 l1.length c1] w fun e w' => e = .returned (.bool r) ∧ Below w.heap.size w w' := by
 have HR_ := Aside0.mk hr_
 clear hr_
 have HR0 := Aside0.mk hr0
 have HC0 := Aside0.mk hc0
 clear hr0 hc0
 have HR1 := Aside0.mk hr1
 have HC1 := Aside0.mk hc1
 clear hr1 hc1
 have HB := Aside0.mk (Below.refl w.heap.size w)
 have H : ((laws_szVoteS.f k l0 1048576).bind fun t234 => (if t234 < 0 then (some true) else ((laws_szItemS.f l1 t234).bind fun t235 => (if t235 < 0 then (some true) else ((laws_toVoteS.f k l0).bind fun t236 => ((laws_toItemS.f k l1).bind fun t239 => ((spec_VotesFor.f k t236 t239).bind fun t242 => ((laws_toVoteS.f k l0).bind fun t245 => ((laws_toItemS.f k l1).bind fun t248 => ((impl_VotesFor.f k t245 t248).bind fun t251 => ((laws_eqIntS.f k t251 t242).bind fun t254 => (if t254 = true then ((laws_toVoteS.f k l0).bind fun t255 => ((laws_eqVoteS.f k t245 t255).bind fun t258 => (if t258 = true then ((laws_toItemS.f k l1).bind fun t259 => ((laws_eqItemS.f k t248 t259).bind fun t262 => (if t262 = true then ((laws_markVoteS.f t245 1).bind fun t263 => ((laws_markItemS.f k t248 t263).bind fun bt264 => (if bt264.1 < 0 then (laws_FnExactVotesFor.j0 k l0 l1 t242 t251 true) else ((laws_eqIntS.f k t251 t242).bind fun t266 => (laws_FnExactVotesFor.j0 k l0 l1 t242 t251 (!t266)))))) else (some false)))) else (some false)))) else (some false))))))))))))) = some r := h
 clear h
 replace H := Option.bind_eq_some_iff.mp H
 obtain ⟨t234, A30, H⟩ := H
 replace H : (if t234 < 0 then (some true) else ((laws_szItemS.f l1 t234).bind fun t235 => (if t235 < 0 then (some true) else ((laws_toVoteS.f k l0).bind fun t236 => ((laws_toItemS.f k l1).bind fun t239 => ((spec_VotesFor.f k t236 t239).bind fun t242 => ((laws_toVoteS.f k l0).bind fun t245 => ((laws_toItemS.f k l1).bind fun t248 => ((impl_VotesFor.f k t245 t248).bind fun t251 => ((laws_eqIntS.f k t251 t242).bind fun t254 => (if t254 = true then ((laws_toVoteS.f k l0).bind fun t255 => ((laws_eqVoteS.f k t245 t255).bind fun t258 => (if t258 = true then ((laws_toItemS.f k l1).bind fun t259 => ((laws_eqItemS.f k t248 t259).bind fun t262 => (if t262 = true then ((laws_markVoteS.f t245 1).bind fun t263 => ((laws_markItemS.f k t248 t263).bind fun bt264 => (if bt264.1 < 0 then (laws_FnExactVotesFor.j0 k l0 l1 t242 t251 true) else ((laws_eqIntS.f k t251 t242).bind fun t266 => (laws_FnExactVotesFor.j0 k l0 l1 t242 t251 (!t266)))))) else (some false)))) else (some false)))) else (some false)))))))))))) = some r := H
 have A3 := Aside0.mk A30
 clear A30
 by_cases c4 : t234 < 0
 ·rw [if_pos c4] at H
  have c4b0 : decide (t234 < 0) = true := decide_eq_true c4
  clear c4
  obtain rfl := Option.some.inj H
  go_enter Try.func4, Try.ntmps4
  go_wp2_with (first | ((with_reducible refine gate_callee (f := 10) rfl ?_); refine goesL_ (some 16) rfl rfl Try.func10 (by kernel_rfl) rfl #[.slice A0 l0.length c0, .int .i64 1048576] rfl (by (try simp only [List.map_toArray, List.map_cons, List.map_nil]); first | done | rfl | (simp only [List.length_drop, List.length_take]; rfl)) ?_; (with_reducible refine (laws_szVoteS.calls k _ _ l0 1048576 t234 _ ?side1 ?side2 A3.out).mono ?_); (case side1 => repeat (first | exact HR0.out | (with_reducible refine Kd.C_alloc ?_ _) | (with_reducible refine Kd.C_drewN ?_ _) | (with_reducible refine Kd.C_drew ?_))); (case side2 => exact HC0.out); rintro e w5 ⟨rfl, hb⟩; refine ⟨_, rfl, ?_⟩; have n0_ := Aside0.mk (below_step (by repeat (first | (with_reducible first | exact HB.out | apply below_alloc | apply pw_below_drewN | apply below_drew1) | exact HB.out)) hb); clear HB; have HB := n0_; clear n0_; (try clear hb); (try clear hb2); (try clear hk); (try clear hi)))
  go_ret
  exact ⟨by first | rfl | (simp only [i64_w, i32_w]; done) | (simp only [i64_w, i32_w]; rfl) | (simp [errW_none, errW_some] <;> rfl) | (simp [*, errW_none, errW_some] <;> rfl), by repeat (first | (with_reducible first | exact HB.out | apply below_alloc | apply pw_below_drewN | apply below_drew1) | exact HB.out)⟩
 ·rw [if_neg c4] at H
  have c4b0 : decide (t234 < 0) = false := decide_eq_false c4
  clear c4
  replace H := Option.bind_eq_some_iff.mp H
  obtain ⟨t235, A60, H⟩ := H
  replace H : (if t235 < 0 then (some true) else ((laws_toVoteS.f k l0).bind fun t236 => ((laws_toItemS.f k l1).bind fun t239 => ((spec_VotesFor.f k t236 t239).bind fun t242 => ((laws_toVoteS.f k l0).bind fun t245 => ((laws_toItemS.f k l1).bind fun t248 => ((impl_VotesFor.f k t245 t248).bind fun t251 => ((laws_eqIntS.f k t251 t242).bind fun t254 => (if t254 = true then ((laws_toVoteS.f k l0).bind fun t255 => ((laws_eqVoteS.f k t245 t255).bind fun t258 => (if t258 = true then ((laws_toItemS.f k l1).bind fun t259 => ((laws_eqItemS.f k t248 t259).bind fun t262 => (if t262 = true then ((laws_markVoteS.f t245 1).bind fun t263 => ((laws_markItemS.f k t248 t263).bind fun bt264 => (if bt264.1 < 0 then (laws_FnExactVotesFor.j0 k l0 l1 t242 t251 true) else ((laws_eqIntS.f k t251 t242).bind fun t266 => (laws_FnExactVotesFor.j0 k l0 l1 t242 t251 (!t266)))))) else (some false)))) else (some false)))) else (some false)))))))))) = some r := H
  have A6 := Aside0.mk A60
  clear A60
  by_cases c7 : t235 < 0
  ·rw [if_pos c7] at H
   have c7b0 : decide (t235 < 0) = true := decide_eq_true c7
   clear c7
   obtain rfl := Option.some.inj H
   go_enter Try.func4, Try.ntmps4
   go_wp2_with (first | ((with_reducible refine gate_callee (f := 10) rfl ?_); refine goesL_ (some 16) rfl rfl Try.func10 (by kernel_rfl) rfl #[.slice A0 l0.length c0, .int .i64 1048576] rfl (by (try simp only [List.map_toArray, List.map_cons, List.map_nil]); first | done | rfl | (simp only [List.length_drop, List.length_take]; rfl)) ?_; (with_reducible refine (laws_szVoteS.calls k _ _ l0 1048576 t234 _ ?side1 ?side2 A3.out).mono ?_); (case side1 => repeat (first | exact HR0.out | (with_reducible refine Kd.C_alloc ?_ _) | (with_reducible refine Kd.C_drewN ?_ _) | (with_reducible refine Kd.C_drew ?_))); (case side2 => exact HC0.out); rintro e w8 ⟨rfl, hb⟩; refine ⟨_, rfl, ?_⟩; have n0_ := Aside0.mk (below_step (by repeat (first | (with_reducible first | exact HB.out | apply below_alloc | apply pw_below_drewN | apply below_drew1) | exact HB.out)) hb); clear HB; have HB := n0_; clear n0_; (try clear hb); (try clear hb2); (try clear hk); (try clear hi)) | ((with_reducible refine gate_callee (f := 11) rfl ?_); refine goesL_ (some 21) rfl rfl Try.func11 (by kernel_rfl) rfl #[.slice A1 l1.length c1, .int .i64 t234] rfl (by (try simp only [List.map_toArray, List.map_cons, List.map_nil]); first | done | rfl | (simp only [List.length_drop, List.length_take]; rfl)) ?_; (with_reducible refine (laws_szItemS.calls _ _ l1 t234 t235 _ ?side1 ?side2 A6.out).mono ?_); (case side1 => repeat (first | exact (Kd.C_below HR1.out HB.out) | (with_reducible refine Kd.C_alloc ?_ _) | (with_reducible refine Kd.C_drewN ?_ _) | (with_reducible refine Kd.C_drew ?_))); (case side2 => exact HC1.out); rintro e w' ⟨rfl, ⟨nd, rfl⟩⟩; refine ⟨_, rfl, ?_⟩))
   go_ret
   exact ⟨by first | rfl | (simp only [i64_w, i32_w]; done) | (simp only [i64_w, i32_w]; rfl) | (simp [errW_none, errW_some] <;> rfl) | (simp [*, errW_none, errW_some] <;> rfl), by repeat (first | (with_reducible first | exact HB.out | apply below_alloc | apply pw_below_drewN | apply below_drew1) | exact HB.out)⟩
  ·rw [if_neg c7] at H
   have c7b0 : decide (t235 < 0) = false := decide_eq_false c7
   clear c7
   replace H := Option.bind_eq_some_iff.mp H
   obtain ⟨t236, A90, H⟩ := H
   replace H : ((laws_toItemS.f k l1).bind fun t239 => ((spec_VotesFor.f k t236 t239).bind fun t242 => ((laws_toVoteS.f k l0).bind fun t245 => ((laws_toItemS.f k l1).bind fun t248 => ((impl_VotesFor.f k t245 t248).bind fun t251 => ((laws_eqIntS.f k t251 t242).bind fun t254 => (if t254 = true then ((laws_toVoteS.f k l0).bind fun t255 => ((laws_eqVoteS.f k t245 t255).bind fun t258 => (if t258 = true then ((laws_toItemS.f k l1).bind fun t259 => ((laws_eqItemS.f k t248 t259).bind fun t262 => (if t262 = true then ((laws_markVoteS.f t245 1).bind fun t263 => ((laws_markItemS.f k t248 t263).bind fun bt264 => (if bt264.1 < 0 then (laws_FnExactVotesFor.j0 k l0 l1 t242 t251 true) else ((laws_eqIntS.f k t251 t242).bind fun t266 => (laws_FnExactVotesFor.j0 k l0 l1 t242 t251 (!t266)))))) else (some false)))) else (some false)))) else (some false)))))))) = some r := H
   have A9 := Aside0.mk A90
   clear A90
   replace H := Option.bind_eq_some_iff.mp H
   obtain ⟨t239, A100, H⟩ := H
   replace H : ((spec_VotesFor.f k t236 t239).bind fun t242 => ((laws_toVoteS.f k l0).bind fun t245 => ((laws_toItemS.f k l1).bind fun t248 => ((impl_VotesFor.f k t245 t248).bind fun t251 => ((laws_eqIntS.f k t251 t242).bind fun t254 => (if t254 = true then ((laws_toVoteS.f k l0).bind fun t255 => ((laws_eqVoteS.f k t245 t255).bind fun t258 => (if t258 = true then ((laws_toItemS.f k l1).bind fun t259 => ((laws_eqItemS.f k t248 t259).bind fun t262 => (if t262 = true then ((laws_markVoteS.f t245 1).bind fun t263 => ((laws_markItemS.f k t248 t263).bind fun bt264 => (if bt264.1 < 0 then (laws_FnExactVotesFor.j0 k l0 l1 t242 t251 true) else ((laws_eqIntS.f k t251 t242).bind fun t266 => (laws_FnExactVotesFor.j0 k l0 l1 t242 t251 (!t266)))))) else (some false)))) else (some false)))) else (some false))))))) = some r := H
   have A10 := Aside0.mk A100
   clear A100
   replace H := Option.bind_eq_some_iff.mp H
   obtain ⟨t242, A110, H⟩ := H
   replace H : ((laws_toVoteS.f k l0).bind fun t245 => ((laws_toItemS.f k l1).bind fun t248 => ((impl_VotesFor.f k t245 t248).bind fun t251 => ((laws_eqIntS.f k t251 t242).bind fun t254 => (if t254 = true then ((laws_toVoteS.f k l0).bind fun t255 => ((laws_eqVoteS.f k t245 t255).bind fun t258 => (if t258 = true then ((laws_toItemS.f k l1).bind fun t259 => ((laws_eqItemS.f k t248 t259).bind fun t262 => (if t262 = true then ((laws_markVoteS.f t245 1).bind fun t263 => ((laws_markItemS.f k t248 t263).bind fun bt264 => (if bt264.1 < 0 then (laws_FnExactVotesFor.j0 k l0 l1 t242 t251 true) else ((laws_eqIntS.f k t251 t242).bind fun t266 => (laws_FnExactVotesFor.j0 k l0 l1 t242 t251 (!t266)))))) else (some false)))) else (some false)))) else (some false)))))) = some r := H
   have A11 := Aside0.mk A110
   clear A110
   replace H := Option.bind_eq_some_iff.mp H
   obtain ⟨t245, A120, H⟩ := H
   replace H : ((laws_toItemS.f k l1).bind fun t248 => ((impl_VotesFor.f k t245 t248).bind fun t251 => ((laws_eqIntS.f k t251 t242).bind fun t254 => (if t254 = true then ((laws_toVoteS.f k l0).bind fun t255 => ((laws_eqVoteS.f k t245 t255).bind fun t258 => (if t258 = true then ((laws_toItemS.f k l1).bind fun t259 => ((laws_eqItemS.f k t248 t259).bind fun t262 => (if t262 = true then ((laws_markVoteS.f t245 1).bind fun t263 => ((laws_markItemS.f k t248 t263).bind fun bt264 => (if bt264.1 < 0 then (laws_FnExactVotesFor.j0 k l0 l1 t242 t251 true) else ((laws_eqIntS.f k t251 t242).bind fun t266 => (laws_FnExactVotesFor.j0 k l0 l1 t242 t251 (!t266)))))) else (some false)))) else (some false)))) else (some false))))) = some r := H
   have A12 := Aside0.mk A120
   clear A120
   replace H := Option.bind_eq_some_iff.mp H
   obtain ⟨t248, A130, H⟩ := H
   replace H : ((impl_VotesFor.f k t245 t248).bind fun t251 => ((laws_eqIntS.f k t251 t242).bind fun t254 => (if t254 = true then ((laws_toVoteS.f k l0).bind fun t255 => ((laws_eqVoteS.f k t245 t255).bind fun t258 => (if t258 = true then ((laws_toItemS.f k l1).bind fun t259 => ((laws_eqItemS.f k t248 t259).bind fun t262 => (if t262 = true then ((laws_markVoteS.f t245 1).bind fun t263 => ((laws_markItemS.f k t248 t263).bind fun bt264 => (if bt264.1 < 0 then (laws_FnExactVotesFor.j0 k l0 l1 t242 t251 true) else ((laws_eqIntS.f k t251 t242).bind fun t266 => (laws_FnExactVotesFor.j0 k l0 l1 t242 t251 (!t266)))))) else (some false)))) else (some false)))) else (some false)))) = some r := H
   have A13 := Aside0.mk A130
   clear A130
   replace H := Option.bind_eq_some_iff.mp H
   obtain ⟨t251, A140, H⟩ := H
   replace H : ((laws_eqIntS.f k t251 t242).bind fun t254 => (if t254 = true then ((laws_toVoteS.f k l0).bind fun t255 => ((laws_eqVoteS.f k t245 t255).bind fun t258 => (if t258 = true then ((laws_toItemS.f k l1).bind fun t259 => ((laws_eqItemS.f k t248 t259).bind fun t262 => (if t262 = true then ((laws_markVoteS.f t245 1).bind fun t263 => ((laws_markItemS.f k t248 t263).bind fun bt264 => (if bt264.1 < 0 then (laws_FnExactVotesFor.j0 k l0 l1 t242 t251 true) else ((laws_eqIntS.f k t251 t242).bind fun t266 => (laws_FnExactVotesFor.j0 k l0 l1 t242 t251 (!t266)))))) else (some false)))) else (some false)))) else (some false))) = some r := H
   have A14 := Aside0.mk A140
   clear A140
   replace H := Option.bind_eq_some_iff.mp H
   obtain ⟨t254, A150, H⟩ := H
   replace H : (if t254 = true then ((laws_toVoteS.f k l0).bind fun t255 => ((laws_eqVoteS.f k t245 t255).bind fun t258 => (if t258 = true then ((laws_toItemS.f k l1).bind fun t259 => ((laws_eqItemS.f k t248 t259).bind fun t262 => (if t262 = true then ((laws_markVoteS.f t245 1).bind fun t263 => ((laws_markItemS.f k t248 t263).bind fun bt264 => (if bt264.1 < 0 then (laws_FnExactVotesFor.j0 k l0 l1 t242 t251 true) else ((laws_eqIntS.f k t251 t242).bind fun t266 => (laws_FnExactVotesFor.j0 k l0 l1 t242 t251 (!t266)))))) else (some false)))) else (some false)))) else (some false)) = some r := H
   have A15 := Aside0.mk A150
   clear A150
   by_cases c16 : t254 = true
   ·subst c16
    have H1 : ((laws_toVoteS.f k l0).bind fun t255 => ((laws_eqVoteS.f k t245 t255).bind fun t258 => (if t258 = true then ((laws_toItemS.f k l1).bind fun t259 => ((laws_eqItemS.f k t248 t259).bind fun t262 => (if t262 = true then ((laws_markVoteS.f t245 1).bind fun t263 => ((laws_markItemS.f k t248 t263).bind fun bt264 => (if bt264.1 < 0 then (laws_FnExactVotesFor.j0 k l0 l1 t242 t251 true) else ((laws_eqIntS.f k t251 t242).bind fun t266 => (laws_FnExactVotesFor.j0 k l0 l1 t242 t251 (!t266)))))) else (some false)))) else (some false)))) = some r := by rw [if_pos rfl] at H; exact H
    clear H
    have H := H1
    clear H1
    replace H := Option.bind_eq_some_iff.mp H
    obtain ⟨t255, A170, H⟩ := H
    replace H : ((laws_eqVoteS.f k t245 t255).bind fun t258 => (if t258 = true then ((laws_toItemS.f k l1).bind fun t259 => ((laws_eqItemS.f k t248 t259).bind fun t262 => (if t262 = true then ((laws_markVoteS.f t245 1).bind fun t263 => ((laws_markItemS.f k t248 t263).bind fun bt264 => (if bt264.1 < 0 then (laws_FnExactVotesFor.j0 k l0 l1 t242 t251 true) else ((laws_eqIntS.f k t251 t242).bind fun t266 => (laws_FnExactVotesFor.j0 k l0 l1 t242 t251 (!t266)))))) else (some false)))) else (some false))) = some r := H
    have A17 := Aside0.mk A170
    clear A170
    replace H := Option.bind_eq_some_iff.mp H
    obtain ⟨t258, A180, H⟩ := H
    replace H : (if t258 = true then ((laws_toItemS.f k l1).bind fun t259 => ((laws_eqItemS.f k t248 t259).bind fun t262 => (if t262 = true then ((laws_markVoteS.f t245 1).bind fun t263 => ((laws_markItemS.f k t248 t263).bind fun bt264 => (if bt264.1 < 0 then (laws_FnExactVotesFor.j0 k l0 l1 t242 t251 true) else ((laws_eqIntS.f k t251 t242).bind fun t266 => (laws_FnExactVotesFor.j0 k l0 l1 t242 t251 (!t266)))))) else (some false)))) else (some false)) = some r := H
    have A18 := Aside0.mk A180
    clear A180
    by_cases c19 : t258 = true
    ·subst c19
     have H1 : ((laws_toItemS.f k l1).bind fun t259 => ((laws_eqItemS.f k t248 t259).bind fun t262 => (if t262 = true then ((laws_markVoteS.f t245 1).bind fun t263 => ((laws_markItemS.f k t248 t263).bind fun bt264 => (if bt264.1 < 0 then (laws_FnExactVotesFor.j0 k l0 l1 t242 t251 true) else ((laws_eqIntS.f k t251 t242).bind fun t266 => (laws_FnExactVotesFor.j0 k l0 l1 t242 t251 (!t266)))))) else (some false)))) = some r := by rw [if_pos rfl] at H; exact H
     clear H
     have H := H1
     clear H1
     replace H := Option.bind_eq_some_iff.mp H
     obtain ⟨t259, A200, H⟩ := H
     replace H : ((laws_eqItemS.f k t248 t259).bind fun t262 => (if t262 = true then ((laws_markVoteS.f t245 1).bind fun t263 => ((laws_markItemS.f k t248 t263).bind fun bt264 => (if bt264.1 < 0 then (laws_FnExactVotesFor.j0 k l0 l1 t242 t251 true) else ((laws_eqIntS.f k t251 t242).bind fun t266 => (laws_FnExactVotesFor.j0 k l0 l1 t242 t251 (!t266)))))) else (some false))) = some r := H
     have A20 := Aside0.mk A200
     clear A200
     replace H := Option.bind_eq_some_iff.mp H
     obtain ⟨t262, A210, H⟩ := H
     replace H : (if t262 = true then ((laws_markVoteS.f t245 1).bind fun t263 => ((laws_markItemS.f k t248 t263).bind fun bt264 => (if bt264.1 < 0 then (laws_FnExactVotesFor.j0 k l0 l1 t242 t251 true) else ((laws_eqIntS.f k t251 t242).bind fun t266 => (laws_FnExactVotesFor.j0 k l0 l1 t242 t251 (!t266)))))) else (some false)) = some r := H
     have A21 := Aside0.mk A210
     clear A210
     by_cases c22 : t262 = true
     ·subst c22
      have H1 : ((laws_markVoteS.f t245 1).bind fun t263 => ((laws_markItemS.f k t248 t263).bind fun bt264 => (if bt264.1 < 0 then (laws_FnExactVotesFor.j0 k l0 l1 t242 t251 true) else ((laws_eqIntS.f k t251 t242).bind fun t266 => (laws_FnExactVotesFor.j0 k l0 l1 t242 t251 (!t266)))))) = some r := by rw [if_pos rfl] at H; exact H
      clear H
      have H := H1
      clear H1
      replace H := Option.bind_eq_some_iff.mp H
      obtain ⟨t263, A230, H⟩ := H
      replace H : ((laws_markItemS.f k t248 t263).bind fun bt264 => (if bt264.1 < 0 then (laws_FnExactVotesFor.j0 k l0 l1 t242 t251 true) else ((laws_eqIntS.f k t251 t242).bind fun t266 => (laws_FnExactVotesFor.j0 k l0 l1 t242 t251 (!t266))))) = some r := H
      have A23 := Aside0.mk A230
      clear A230
      replace H := Option.bind_eq_some_iff.mp H
      obtain ⟨⟨t264, t265⟩, A240, H⟩ := H
      replace H : (if t264 < 0 then (laws_FnExactVotesFor.j0 k l0 l1 t242 t251 true) else ((laws_eqIntS.f k t251 t242).bind fun t266 => (laws_FnExactVotesFor.j0 k l0 l1 t242 t251 (!t266)))) = some r := H
      have A24 := Aside0.mk A240
      clear A240
      have HC25 := Aside0.mk H
      clear H
      go_enter Try.func4, Try.ntmps4
      go_upto_region 21 with (first | ((with_reducible refine gate_callee (f := 10) rfl ?_); refine goesL_ (some 16) rfl rfl Try.func10 (by kernel_rfl) rfl #[.slice A0 l0.length c0, .int .i64 1048576] rfl (by (try simp only [List.map_toArray, List.map_cons, List.map_nil]); first | done | rfl | (simp only [List.length_drop, List.length_take]; rfl)) ?_; (with_reducible refine (laws_szVoteS.calls k _ _ l0 1048576 t234 _ ?side1 ?side2 A3.out).mono ?_); (case side1 => repeat (first | exact HR0.out | (with_reducible refine Kd.C_alloc ?_ _) | (with_reducible refine Kd.C_drewN ?_ _) | (with_reducible refine Kd.C_drew ?_))); (case side2 => exact HC0.out); rintro e w26 ⟨rfl, hb⟩; refine ⟨_, rfl, ?_⟩; have n0_ := Aside0.mk (below_step (by repeat (first | (with_reducible first | exact HB.out | apply below_alloc | apply pw_below_drewN | apply below_drew1) | exact HB.out)) hb); clear HB; have HB := n0_; clear n0_; (try clear hb); (try clear hb2); (try clear hk); (try clear hi)) | ((with_reducible refine gate_callee (f := 11) rfl ?_); refine goesL_ (some 21) rfl rfl Try.func11 (by kernel_rfl) rfl #[.slice A1 l1.length c1, .int .i64 t234] rfl (by (try simp only [List.map_toArray, List.map_cons, List.map_nil]); first | done | rfl | (simp only [List.length_drop, List.length_take]; rfl)) ?_; (with_reducible refine (laws_szItemS.calls _ _ l1 t234 t235 _ ?side1 ?side2 A6.out).mono ?_); (case side1 => repeat (first | exact (Kd.C_below HR1.out HB.out) | (with_reducible refine Kd.C_alloc ?_ _) | (with_reducible refine Kd.C_drewN ?_ _) | (with_reducible refine Kd.C_drew ?_))); (case side2 => exact HC1.out); rintro e w' ⟨rfl, ⟨nd, rfl⟩⟩; refine ⟨_, rfl, ?_⟩) | ((with_reducible refine gate_callee (f := 13) rfl ?_); refine goesL_ (some 25) rfl rfl Try.func13 (by kernel_rfl) rfl #[.slice A0 l0.length c0] rfl (by (try simp only [List.map_toArray, List.map_cons, List.map_nil]); first | done | rfl | (simp only [List.length_drop, List.length_take]; rfl)) ?_; (with_reducible refine (laws_toVoteS.calls k _ _ l0 t236 _ ?side1 ?side2 A9.out).mono ?_); (case side1 => repeat (first | exact (Kd.C_below HR0.out (by repeat (first | (with_reducible first | exact HB.out | apply below_alloc | apply pw_below_drewN | apply below_drew1) | exact HB.out))) | (with_reducible refine Kd.C_alloc ?_ _) | (with_reducible refine Kd.C_drewN ?_ _) | (with_reducible refine Kd.C_drew ?_))); (case side2 => exact HC0.out); rintro e w27 ⟨v237, rfl, ho0, hb⟩; refine ⟨_, rfl, ?_⟩; have n0_ := Aside0.mk (Kd.R_lower ho0 (below_size (by repeat (first | (with_reducible first | exact HB.out | apply below_alloc | apply pw_below_drewN | apply below_drew1) | exact HB.out)))); have n1_ := Aside0.mk (below_step (by repeat (first | (with_reducible first | exact HB.out | apply below_alloc | apply pw_below_drewN | apply below_drew1) | exact HB.out)) hb); clear HB; have HO238 := n0_; have HB := n1_; clear n0_ n1_; (try clear hb); (try clear hb2); (try clear hk); (try clear hi); (try clear ho0)) | ((with_reducible refine gate_callee (f := 14) rfl ?_); refine goesL_ (some 27) rfl rfl Try.func14 (by kernel_rfl) rfl #[.slice A1 l1.length c1] rfl (by (try simp only [List.map_toArray, List.map_cons, List.map_nil]); first | done | rfl | (simp only [List.length_drop, List.length_take]; rfl)) ?_; (with_reducible refine (laws_toItemS.calls k _ _ l1 t239 _ ?side1 ?side2 A10.out).mono ?_); (case side1 => repeat (first | exact (Kd.C_below HR1.out HB.out) | (with_reducible refine Kd.C_alloc ?_ _) | (with_reducible refine Kd.C_drewN ?_ _) | (with_reducible refine Kd.C_drew ?_))); (case side2 => exact HC1.out); rintro e w28 ⟨v240, rfl, ho0, hb⟩; refine ⟨_, rfl, ?_⟩; have n0_ := Aside0.mk (Kd.R_elder' (by (with_reducible repeat (first | apply Kd.R_alloc | apply Kd.R_drewN | apply Kd.R_drew)); exact HO238.out) (Kd.R_base ho0) hb); have n1_ := Aside0.mk (Kd.R_lower ho0 (below_size (by repeat (first | (with_reducible first | exact HB.out | apply below_alloc | apply pw_below_drewN | apply below_drew1) | exact HB.out)))); have n2_ := Aside0.mk (below_step (by repeat (first | (with_reducible first | exact HB.out | apply below_alloc | apply pw_below_drewN | apply below_drew1) | exact HB.out)) hb); clear HO238; clear HB; have HO238 := n0_; have HO241 := n1_; have HB := n2_; clear n0_ n1_ n2_; (try clear hb); (try clear hb2); (try clear hk); (try clear hi); (try clear ho0); obtain ⟨Ao29, co29, eo29⟩ := Kd.R_slice HO238.out; subst eo29; obtain ⟨Ao30, co30, eo30⟩ := Kd.R_slice HO241.out; subst eo30) | ((with_reducible refine gate_callee (f := 18) rfl ?_); refine goesL_ (some 28) rfl rfl Try.func18 (by kernel_rfl) rfl #[.slice Ao29 t236.length co29, .slice Ao30 t239.length co30] rfl (by (try simp only [List.map_toArray, List.map_cons, List.map_nil]); first | done | rfl | (simp only [List.length_drop, List.length_take]; rfl)) ?_; (with_reducible refine (spec_VotesFor.calls k _ _ t236 _ _ t239 t242 _ ?side1 ?side2 ?side3 ?side4 A11.out).mono ?_); (case side1 => repeat (first | exact (Kd.R_reads' HO238.out).2.2 | (with_reducible refine Kd.C_alloc ?_ _) | (with_reducible refine Kd.C_drewN ?_ _) | (with_reducible refine Kd.C_drew ?_))); (case side2 => exact (Kd.R_reads' HO238.out).2.1); (case side3 => repeat (first | exact (Kd.R_reads' HO241.out).2.2 | (with_reducible refine Kd.C_alloc ?_ _) | (with_reducible refine Kd.C_drewN ?_ _) | (with_reducible refine Kd.C_drew ?_))); (case side4 => exact (Kd.R_reads' HO241.out).2.1); rintro e w31 ⟨v243, rfl, ho0, hb⟩; refine ⟨_, rfl, ?_⟩; have n0_ := Aside0.mk (Kd.R_below (by (with_reducible repeat (first | apply Kd.R_alloc | apply Kd.R_drewN | apply Kd.R_drew)); exact HO238.out) hb); have n1_ := Aside0.mk (Kd.R_below (by (with_reducible repeat (first | apply Kd.R_alloc | apply Kd.R_drewN | apply Kd.R_drew)); exact HO241.out) hb); have n2_ := Aside0.mk (Kd.R_lower ho0 (below_size (by repeat (first | (with_reducible first | exact HB.out | apply below_alloc | apply pw_below_drewN | apply below_drew1) | exact HB.out)))); have n3_ := Aside0.mk (below_step (by repeat (first | (with_reducible first | exact HB.out | apply below_alloc | apply pw_below_drewN | apply below_drew1) | exact HB.out)) hb); clear HO238; clear HO241; clear HB; have HO238 := n0_; have HO241 := n1_; have HO244 := n2_; have HB := n3_; clear n0_ n1_ n2_ n3_; (try clear hb); (try clear hb2); (try clear hk); (try clear hi); (try clear ho0)) | ((with_reducible refine gate_callee (f := 13) rfl ?_); refine goesL_ (some 30) rfl rfl Try.func13 (by kernel_rfl) rfl #[.slice A0 l0.length c0] rfl (by (try simp only [List.map_toArray, List.map_cons, List.map_nil]); first | done | rfl | (simp only [List.length_drop, List.length_take]; rfl)) ?_; (with_reducible refine (laws_toVoteS.calls k _ _ l0 t245 _ ?side1 ?side2 A12.out).mono ?_); (case side1 => repeat (first | exact (Kd.C_below HR0.out HB.out) | (with_reducible refine Kd.C_alloc ?_ _) | (with_reducible refine Kd.C_drewN ?_ _) | (with_reducible refine Kd.C_drew ?_))); (case side2 => exact HC0.out); rintro e w32 ⟨v246, rfl, ho0, hb⟩; refine ⟨_, rfl, ?_⟩; have n0_ := Aside0.mk (Kd.R_elder' (by (with_reducible repeat (first | apply Kd.R_alloc | apply Kd.R_drewN | apply Kd.R_drew)); exact HO238.out) (Kd.R_base ho0) hb); have n1_ := Aside0.mk (Kd.R_below (by (with_reducible repeat (first | apply Kd.R_alloc | apply Kd.R_drewN | apply Kd.R_drew)); exact HO241.out) hb); have n2_ := Aside0.mk (Kd.R_below (by (with_reducible repeat (first | apply Kd.R_alloc | apply Kd.R_drewN | apply Kd.R_drew)); exact HO244.out) hb); have n3_ := Aside0.mk (Kd.R_lower (Kd.R_new' (Kd.R_new' ho0 (Kd.R_lt (by (with_reducible repeat (first | apply Kd.R_alloc | apply Kd.R_drewN | apply Kd.R_drew)); exact HO238.out))) (Kd.R_lt (by (with_reducible repeat (first | apply Kd.R_alloc | apply Kd.R_drewN | apply Kd.R_drew)); exact HO241.out))) (below_size (by repeat (first | (with_reducible first | exact HB.out | apply below_alloc | apply pw_below_drewN | apply below_drew1) | exact HB.out)))); have n4_ := Aside0.mk (below_step (by repeat (first | (with_reducible first | exact HB.out | apply below_alloc | apply pw_below_drewN | apply below_drew1) | exact HB.out)) hb); clear HO238; clear HO241; clear HO244; clear HB; have HO238 := n0_; have HO241 := n1_; have HO244 := n2_; have HO247 := n3_; have HB := n4_; clear n0_ n1_ n2_ n3_ n4_; (try clear hb); (try clear hb2); (try clear hk); (try clear hi); (try clear ho0)) | ((with_reducible refine gate_callee (f := 14) rfl ?_); refine goesL_ (some 32) rfl rfl Try.func14 (by kernel_rfl) rfl #[.slice A1 l1.length c1] rfl (by (try simp only [List.map_toArray, List.map_cons, List.map_nil]); first | done | rfl | (simp only [List.length_drop, List.length_take]; rfl)) ?_; (with_reducible refine (laws_toItemS.calls k _ _ l1 t248 _ ?side1 ?side2 A13.out).mono ?_); (case side1 => repeat (first | exact (Kd.C_below HR1.out HB.out) | (with_reducible refine Kd.C_alloc ?_ _) | (with_reducible refine Kd.C_drewN ?_ _) | (with_reducible refine Kd.C_drew ?_))); (case side2 => exact HC1.out); rintro e w33 ⟨v249, rfl, ho0, hb⟩; refine ⟨_, rfl, ?_⟩; have n0_ := Aside0.mk (Kd.R_elder' (by (with_reducible repeat (first | apply Kd.R_alloc | apply Kd.R_drewN | apply Kd.R_drew)); exact HO238.out) (Kd.R_base ho0) hb); have n1_ := Aside0.mk (Kd.R_elder' (by (with_reducible repeat (first | apply Kd.R_alloc | apply Kd.R_drewN | apply Kd.R_drew)); exact HO241.out) (Kd.R_base ho0) hb); have n2_ := Aside0.mk (Kd.R_below (by (with_reducible repeat (first | apply Kd.R_alloc | apply Kd.R_drewN | apply Kd.R_drew)); exact HO244.out) hb); have n3_ := Aside0.mk (Kd.R_elder' (by (with_reducible repeat (first | apply Kd.R_alloc | apply Kd.R_drewN | apply Kd.R_drew)); exact HO247.out) (Kd.R_base ho0) hb); have n4_ := Aside0.mk (Kd.R_lower (Kd.R_new' ho0 (Kd.R_lt (by (with_reducible repeat (first | apply Kd.R_alloc | apply Kd.R_drewN | apply Kd.R_drew)); exact HO241.out))) (below_size (by repeat (first | (with_reducible first | exact HB.out | apply below_alloc | apply pw_below_drewN | apply below_drew1) | exact HB.out)))); have n5_ := Aside0.mk (below_step (by repeat (first | (with_reducible first | exact HB.out | apply below_alloc | apply pw_below_drewN | apply below_drew1) | exact HB.out)) hb); clear HO238; clear HO241; clear HO244; clear HO247; clear HB; have HO238 := n0_; have HO241 := n1_; have HO244 := n2_; have HO247 := n3_; have HO250 := n4_; have HB := n5_; clear n0_ n1_ n2_ n3_ n4_ n5_; (try clear hb); (try clear hb2); (try clear hk); (try clear hi); (try clear ho0); obtain ⟨Ao34, co34, eo34⟩ := Kd.R_slice HO247.out; subst eo34; obtain ⟨Ao35, co35, eo35⟩ := Kd.R_slice HO250.out; subst eo35) | ((with_reducible refine gate_callee (f := 19) rfl ?_); refine goesL_ (some 35) rfl rfl Try.func19 (by kernel_rfl) rfl #[.slice Ao34 t245.length co34, .slice Ao35 t248.length co35] rfl (by (try simp only [List.map_toArray, List.map_cons, List.map_nil]); first | done | rfl | (simp only [List.length_drop, List.length_take]; rfl)) ?_; (with_reducible refine (impl_VotesFor.calls k _ _ t245 _ _ t248 t251 _ ?side1 ?side2 ?side3 ?side4 A14.out).mono ?_); (case side1 => repeat (first | exact (Kd.R_reads' HO247.out).2.2 | (with_reducible refine Kd.C_alloc ?_ _) | (with_reducible refine Kd.C_drewN ?_ _) | (with_reducible refine Kd.C_drew ?_))); (case side2 => exact (Kd.R_reads' HO247.out).2.1); (case side3 => repeat (first | exact (Kd.R_reads' HO250.out).2.2 | (with_reducible refine Kd.C_alloc ?_ _) | (with_reducible refine Kd.C_drewN ?_ _) | (with_reducible refine Kd.C_drew ?_))); (case side4 => exact (Kd.R_reads' HO250.out).2.1); rintro e w36 ⟨v252, rfl, ho0, hb⟩; refine ⟨_, rfl, ?_⟩; have n0_ := Aside0.mk (Kd.R_below (by (with_reducible repeat (first | apply Kd.R_alloc | apply Kd.R_drewN | apply Kd.R_drew)); exact HO238.out) hb); have n1_ := Aside0.mk (Kd.R_below (by (with_reducible repeat (first | apply Kd.R_alloc | apply Kd.R_drewN | apply Kd.R_drew)); exact HO241.out) hb); have n2_ := Aside0.mk (Kd.R_elder' (by (with_reducible repeat (first | apply Kd.R_alloc | apply Kd.R_drewN | apply Kd.R_drew)); exact HO244.out) (Kd.R_base ho0) hb); have n3_ := Aside0.mk (Kd.R_below (by (with_reducible repeat (first | apply Kd.R_alloc | apply Kd.R_drewN | apply Kd.R_drew)); exact HO247.out) hb); have n4_ := Aside0.mk (Kd.R_below (by (with_reducible repeat (first | apply Kd.R_alloc | apply Kd.R_drewN | apply Kd.R_drew)); exact HO250.out) hb); have n5_ := Aside0.mk (Kd.R_lower (Kd.R_new' ho0 (Kd.R_lt (by (with_reducible repeat (first | apply Kd.R_alloc | apply Kd.R_drewN | apply Kd.R_drew)); exact HO244.out))) (below_size (by repeat (first | (with_reducible first | exact HB.out | apply below_alloc | apply pw_below_drewN | apply below_drew1) | exact HB.out)))); have n6_ := Aside0.mk (below_step (by repeat (first | (with_reducible first | exact HB.out | apply below_alloc | apply pw_below_drewN | apply below_drew1) | exact HB.out)) hb); clear HO238; clear HO241; clear HO244; clear HO247; clear HO250; clear HB; have HO238 := n0_; have HO241 := n1_; have HO244 := n2_; have HO247 := n3_; have HO250 := n4_; have HO253 := n5_; have HB := n6_; clear n0_ n1_ n2_ n3_ n4_ n5_ n6_; (try clear hb); (try clear hb2); (try clear hk); (try clear hi); (try clear ho0); obtain ⟨Ao37, co37, eo37⟩ := Kd.R_slice HO253.out; subst eo37; obtain ⟨Ao38, co38, eo38⟩ := Kd.R_slice HO244.out; subst eo38) | ((with_reducible refine gate_callee (f := 20) rfl ?_); refine goesL_ (some 38) rfl rfl Try.func20 (by kernel_rfl) rfl #[.slice Ao37 t251.length co37, .slice Ao38 t242.length co38] rfl (by (try simp only [List.map_toArray, List.map_cons, List.map_nil]); first | done | rfl | (simp only [List.length_drop, List.length_take]; rfl)) ?_; (with_reducible refine (laws_eqIntS.calls k _ _ t251 _ _ t242 true _ ?side1 ?side2 ?side3 ?side4 A15.out).mono ?_); (case side1 => repeat (first | exact (Kd.R_reads' HO253.out).2.2 | (with_reducible refine Kd.C_alloc ?_ _) | (with_reducible refine Kd.C_drewN ?_ _) | (with_reducible refine Kd.C_drew ?_))); (case side2 => exact (Kd.R_reads' HO253.out).2.1); (case side3 => repeat (first | exact (Kd.R_reads' HO244.out).2.2 | (with_reducible refine Kd.C_alloc ?_ _) | (with_reducible refine Kd.C_drewN ?_ _) | (with_reducible refine Kd.C_drew ?_))); (case side4 => exact (Kd.R_reads' HO244.out).2.1); rintro e w' ⟨rfl, ⟨nd, rfl⟩⟩; refine ⟨_, rfl, ?_⟩) | ((with_reducible refine gate_callee (f := 13) rfl ?_); refine goesL_ (some 42) rfl rfl Try.func13 (by kernel_rfl) rfl #[.slice A0 l0.length c0] rfl (by (try simp only [List.map_toArray, List.map_cons, List.map_nil]); first | done | rfl | (simp only [List.length_drop, List.length_take]; rfl)) ?_; (with_reducible refine (laws_toVoteS.calls k _ _ l0 t255 _ ?side1 ?side2 A17.out).mono ?_); (case side1 => repeat (first | exact (Kd.C_below HR0.out (by repeat (first | (with_reducible first | exact HB.out | apply below_alloc | apply pw_below_drewN | apply below_drew1) | exact HB.out))) | (with_reducible refine Kd.C_alloc ?_ _) | (with_reducible refine Kd.C_drewN ?_ _) | (with_reducible refine Kd.C_drew ?_))); (case side2 => exact HC0.out); rintro e w39 ⟨v256, rfl, ho0, hb⟩; refine ⟨_, rfl, ?_⟩; have n0_ := Aside0.mk (Kd.R_elder' (by (with_reducible repeat (first | apply Kd.R_alloc | apply Kd.R_drewN | apply Kd.R_drew)); exact HO238.out) (Kd.R_base ho0) hb); have n1_ := Aside0.mk (Kd.R_below (by (with_reducible repeat (first | apply Kd.R_alloc | apply Kd.R_drewN | apply Kd.R_drew)); exact HO241.out) hb); have n2_ := Aside0.mk (Kd.R_below (by (with_reducible repeat (first | apply Kd.R_alloc | apply Kd.R_drewN | apply Kd.R_drew)); exact HO244.out) hb); have n3_ := Aside0.mk (Kd.R_elder' (by (with_reducible repeat (first | apply Kd.R_alloc | apply Kd.R_drewN | apply Kd.R_drew)); exact HO247.out) (Kd.R_base ho0) hb); have n4_ := Aside0.mk (Kd.R_below (by (with_reducible repeat (first | apply Kd.R_alloc | apply Kd.R_drewN | apply Kd.R_drew)); exact HO250.out) hb); have n5_ := Aside0.mk (Kd.R_below (by (with_reducible repeat (first | apply Kd.R_alloc | apply Kd.R_drewN | apply Kd.R_drew)); exact HO253.out) hb); have n6_ := Aside0.mk (Kd.R_lower (Kd.R_new' (Kd.R_new' (Kd.R_new' (Kd.R_new' ho0 (Kd.R_lt (by (with_reducible repeat (first | apply Kd.R_alloc | apply Kd.R_drewN | apply Kd.R_drew)); exact HO238.out))) (Kd.R_lt (by (with_reducible repeat (first | apply Kd.R_alloc | apply Kd.R_drewN | apply Kd.R_drew)); exact HO241.out))) (Kd.R_lt (by (with_reducible repeat (first | apply Kd.R_alloc | apply Kd.R_drewN | apply Kd.R_drew)); exact HO247.out))) (Kd.R_lt (by (with_reducible repeat (first | apply Kd.R_alloc | apply Kd.R_drewN | apply Kd.R_drew)); exact HO250.out))) (below_size (by repeat (first | (with_reducible first | exact HB.out | apply below_alloc | apply pw_below_drewN | apply below_drew1) | exact HB.out)))); have n7_ := Aside0.mk (below_step (by repeat (first | (with_reducible first | exact HB.out | apply below_alloc | apply pw_below_drewN | apply below_drew1) | exact HB.out)) hb); clear HO238; clear HO241; clear HO244; clear HO247; clear HO250; clear HO253; clear HB; have HO238 := n0_; have HO241 := n1_; have HO244 := n2_; have HO247 := n3_; have HO250 := n4_; have HO253 := n5_; have HO257 := n6_; have HB := n7_; clear n0_ n1_ n2_ n3_ n4_ n5_ n6_ n7_; (try clear hb); (try clear hb2); (try clear hk); (try clear hi); (try clear ho0); obtain ⟨Ao40, co40, eo40⟩ := Kd.R_slice HO257.out; subst eo40) | ((with_reducible refine gate_callee (f := 16) rfl ?_); refine goesL_ (some 43) rfl rfl Try.func16 (by kernel_rfl) rfl #[.slice Ao34 t245.length co34, .slice Ao40 t255.length co40] rfl (by (try simp only [List.map_toArray, List.map_cons, List.map_nil]); first | done | rfl | (simp only [List.length_drop, List.length_take]; rfl)) ?_; (with_reducible refine (laws_eqVoteS.calls k _ _ t245 _ _ t255 true _ ?side1 ?side2 ?side3 ?side4 A18.out).mono ?_); (case side1 => repeat (first | exact (Kd.R_reads' HO247.out).2.2 | (with_reducible refine Kd.C_alloc ?_ _) | (with_reducible refine Kd.C_drewN ?_ _) | (with_reducible refine Kd.C_drew ?_))); (case side2 => exact (Kd.R_reads' HO247.out).2.1); (case side3 => repeat (first | exact (Kd.R_reads' HO257.out).2.2 | (with_reducible refine Kd.C_alloc ?_ _) | (with_reducible refine Kd.C_drewN ?_ _) | (with_reducible refine Kd.C_drew ?_))); (case side4 => exact (Kd.R_reads' HO257.out).2.1); rintro e w41 ⟨rfl, hb⟩; refine ⟨_, rfl, ?_⟩; have n0_ := Aside0.mk (Kd.R_below (by (with_reducible repeat (first | apply Kd.R_alloc | apply Kd.R_drewN | apply Kd.R_drew)); exact HO238.out) hb); have n1_ := Aside0.mk (Kd.R_below (by (with_reducible repeat (first | apply Kd.R_alloc | apply Kd.R_drewN | apply Kd.R_drew)); exact HO241.out) hb); have n2_ := Aside0.mk (Kd.R_below (by (with_reducible repeat (first | apply Kd.R_alloc | apply Kd.R_drewN | apply Kd.R_drew)); exact HO244.out) hb); have n3_ := Aside0.mk (Kd.R_below (by (with_reducible repeat (first | apply Kd.R_alloc | apply Kd.R_drewN | apply Kd.R_drew)); exact HO247.out) hb); have n4_ := Aside0.mk (Kd.R_below (by (with_reducible repeat (first | apply Kd.R_alloc | apply Kd.R_drewN | apply Kd.R_drew)); exact HO250.out) hb); have n5_ := Aside0.mk (Kd.R_below (by (with_reducible repeat (first | apply Kd.R_alloc | apply Kd.R_drewN | apply Kd.R_drew)); exact HO253.out) hb); have n6_ := Aside0.mk (Kd.R_below (by (with_reducible repeat (first | apply Kd.R_alloc | apply Kd.R_drewN | apply Kd.R_drew)); exact HO257.out) hb); have n7_ := Aside0.mk (below_step (by repeat (first | (with_reducible first | exact HB.out | apply below_alloc | apply pw_below_drewN | apply below_drew1) | exact HB.out)) hb); clear HO238; clear HO241; clear HO244; clear HO247; clear HO250; clear HO253; clear HO257; clear HB; have HO238 := n0_; have HO241 := n1_; have HO244 := n2_; have HO247 := n3_; have HO250 := n4_; have HO253 := n5_; have HO257 := n6_; have HB := n7_; clear n0_ n1_ n2_ n3_ n4_ n5_ n6_ n7_; (try clear hb); (try clear hb2); (try clear hk); (try clear hi)) | ((with_reducible refine gate_callee (f := 14) rfl ?_); refine goesL_ (some 47) rfl rfl Try.func14 (by kernel_rfl) rfl #[.slice A1 l1.length c1] rfl (by (try simp only [List.map_toArray, List.map_cons, List.map_nil]); first | done | rfl | (simp only [List.length_drop, List.length_take]; rfl)) ?_; (with_reducible refine (laws_toItemS.calls k _ _ l1 t259 _ ?side1 ?side2 A20.out).mono ?_); (case side1 => repeat (first | exact (Kd.C_below HR1.out HB.out) | (with_reducible refine Kd.C_alloc ?_ _) | (with_reducible refine Kd.C_drewN ?_ _) | (with_reducible refine Kd.C_drew ?_))); (case side2 => exact HC1.out); rintro e w42 ⟨v260, rfl, ho0, hb⟩; refine ⟨_, rfl, ?_⟩; have n0_ := Aside0.mk (Kd.R_elder' (by (with_reducible repeat (first | apply Kd.R_alloc | apply Kd.R_drewN | apply Kd.R_drew)); exact HO238.out) (Kd.R_base ho0) hb); have n1_ := Aside0.mk (Kd.R_elder' (by (with_reducible repeat (first | apply Kd.R_alloc | apply Kd.R_drewN | apply Kd.R_drew)); exact HO241.out) (Kd.R_base ho0) hb); have n2_ := Aside0.mk (Kd.R_below (by (with_reducible repeat (first | apply Kd.R_alloc | apply Kd.R_drewN | apply Kd.R_drew)); exact HO244.out) hb); have n3_ := Aside0.mk (Kd.R_elder' (by (with_reducible repeat (first | apply Kd.R_alloc | apply Kd.R_drewN | apply Kd.R_drew)); exact HO247.out) (Kd.R_base ho0) hb); have n4_ := Aside0.mk (Kd.R_elder' (by (with_reducible repeat (first | apply Kd.R_alloc | apply Kd.R_drewN | apply Kd.R_drew)); exact HO250.out) (Kd.R_base ho0) hb); have n5_ := Aside0.mk (Kd.R_below (by (with_reducible repeat (first | apply Kd.R_alloc | apply Kd.R_drewN | apply Kd.R_drew)); exact HO253.out) hb); have n6_ := Aside0.mk (Kd.R_elder' (by (with_reducible repeat (first | apply Kd.R_alloc | apply Kd.R_drewN | apply Kd.R_drew)); exact HO257.out) (Kd.R_base ho0) hb); have n7_ := Aside0.mk (Kd.R_lower (Kd.R_new' (Kd.R_new' ho0 (Kd.R_lt (by (with_reducible repeat (first | apply Kd.R_alloc | apply Kd.R_drewN | apply Kd.R_drew)); exact HO241.out))) (Kd.R_lt (by (with_reducible repeat (first | apply Kd.R_alloc | apply Kd.R_drewN | apply Kd.R_drew)); exact HO250.out))) (below_size (by repeat (first | (with_reducible first | exact HB.out | apply below_alloc | apply pw_below_drewN | apply below_drew1) | exact HB.out)))); have n8_ := Aside0.mk (below_step (by repeat (first | (with_reducible first | exact HB.out | apply below_alloc | apply pw_below_drewN | apply below_drew1) | exact HB.out)) hb); clear HO238; clear HO241; clear HO244; clear HO247; clear HO250; clear HO253; clear HO257; clear HB; have HO238 := n0_; have HO241 := n1_; have HO244 := n2_; have HO247 := n3_; have HO250 := n4_; have HO253 := n5_; have HO257 := n6_; have HO261 := n7_; have HB := n8_; clear n0_ n1_ n2_ n3_ n4_ n5_ n6_ n7_ n8_; (try clear hb); (try clear hb2); (try clear hk); (try clear hi); (try clear ho0); obtain ⟨Ao43, co43, eo43⟩ := Kd.R_slice HO261.out; subst eo43) | ((with_reducible refine gate_callee (f := 17) rfl ?_); refine goesL_ (some 48) rfl rfl Try.func17 (by kernel_rfl) rfl #[.slice Ao35 t248.length co35, .slice Ao43 t259.length co43] rfl (by (try simp only [List.map_toArray, List.map_cons, List.map_nil]); first | done | rfl | (simp only [List.length_drop, List.length_take]; rfl)) ?_; (with_reducible refine (laws_eqItemS.calls k _ _ t248 _ _ t259 true _ ?side1 ?side2 ?side3 ?side4 A21.out).mono ?_); (case side1 => repeat (first | exact (Kd.R_reads' HO250.out).2.2 | (with_reducible refine Kd.C_alloc ?_ _) | (with_reducible refine Kd.C_drewN ?_ _) | (with_reducible refine Kd.C_drew ?_))); (case side2 => exact (Kd.R_reads' HO250.out).2.1); (case side3 => repeat (first | exact (Kd.R_reads' HO261.out).2.2 | (with_reducible refine Kd.C_alloc ?_ _) | (with_reducible refine Kd.C_drewN ?_ _) | (with_reducible refine Kd.C_drew ?_))); (case side4 => exact (Kd.R_reads' HO261.out).2.1); rintro e w44 ⟨rfl, hb⟩; refine ⟨_, rfl, ?_⟩; have n0_ := Aside0.mk (Kd.R_below (by (with_reducible repeat (first | apply Kd.R_alloc | apply Kd.R_drewN | apply Kd.R_drew)); exact HO238.out) hb); have n1_ := Aside0.mk (Kd.R_below (by (with_reducible repeat (first | apply Kd.R_alloc | apply Kd.R_drewN | apply Kd.R_drew)); exact HO241.out) hb); have n2_ := Aside0.mk (Kd.R_below (by (with_reducible repeat (first | apply Kd.R_alloc | apply Kd.R_drewN | apply Kd.R_drew)); exact HO244.out) hb); have n3_ := Aside0.mk (Kd.R_below (by (with_reducible repeat (first | apply Kd.R_alloc | apply Kd.R_drewN | apply Kd.R_drew)); exact HO247.out) hb); have n4_ := Aside0.mk (Kd.R_below (by (with_reducible repeat (first | apply Kd.R_alloc | apply Kd.R_drewN | apply Kd.R_drew)); exact HO250.out) hb); have n5_ := Aside0.mk (Kd.R_below (by (with_reducible repeat (first | apply Kd.R_alloc | apply Kd.R_drewN | apply Kd.R_drew)); exact HO253.out) hb); have n6_ := Aside0.mk (Kd.R_below (by (with_reducible repeat (first | apply Kd.R_alloc | apply Kd.R_drewN | apply Kd.R_drew)); exact HO257.out) hb); have n7_ := Aside0.mk (Kd.R_below (by (with_reducible repeat (first | apply Kd.R_alloc | apply Kd.R_drewN | apply Kd.R_drew)); exact HO261.out) hb); have n8_ := Aside0.mk (below_step (by repeat (first | (with_reducible first | exact HB.out | apply below_alloc | apply pw_below_drewN | apply below_drew1) | exact HB.out)) hb); clear HO238; clear HO241; clear HO244; clear HO247; clear HO250; clear HO253; clear HO257; clear HO261; clear HB; have HO238 := n0_; have HO241 := n1_; have HO244 := n2_; have HO247 := n3_; have HO250 := n4_; have HO253 := n5_; have HO257 := n6_; have HO261 := n7_; have HB := n8_; clear n0_ n1_ n2_ n3_ n4_ n5_ n6_ n7_ n8_; (try clear hb); (try clear hb2); (try clear hk); (try clear hi)) | ((with_reducible refine gate_callee (f := 21) rfl ?_); refine goesL_ (some 52) rfl rfl Try.func21 (by kernel_rfl) rfl #[.slice Ao34 t245.length co34, .int .i64 1] rfl (by (try simp only [List.map_toArray, List.map_cons, List.map_nil]); first | done | rfl | (simp only [List.length_drop, List.length_take]; rfl)) ?_; (refine (laws_markVoteS.calls _ (.slice Ao34 t245.length co34) t245 1 t263 w _ (by repeat (first | (with_reducible first | exact HB.out | apply below_alloc | apply pw_below_drewN | apply below_drew1) | exact HB.out)) HO247.out A23.out).mono ?_); rintro e wm_ ⟨rfl, hb, hkp⟩; refine ⟨_, rfl, ?_⟩; have m0_ := Aside0.mk (int_marked HO244.out hkp); have m1_ := Aside0.mk (int_marked HO253.out hkp); have mx_ := Aside0.mk (Kd.R_kept (Kd.R_tight2 rfl HO250.out) hkp (fun k_ hk_ hs_ => (hs_.1.1.1.2) hk_.1)); have mb_ := Aside0.mk hb; clear HO238 HO241 HO247 HO257 HO261 HO244 HO253 HO250 HB; have HO244 := m0_; have HO253 := m1_; have HO250 := Aside0.mk (Kd.R_mono mx_.out (fun _ h_ => h_.2)); have HB := mb_; clear mx_ mb_ m0_ m1_; clear hb hkp) | ((with_reducible refine gate_callee (f := 22) rfl ?_); refine goesL_ (some 55) rfl rfl Try.func22 (by kernel_rfl) rfl #[.slice Ao35 t248.length co35, .int .i64 t263] rfl (by (try simp only [List.map_toArray, List.map_cons, List.map_nil]); first | done | rfl | (simp only [List.length_drop, List.length_take]; rfl)) ?_; (with_reducible refine (laws_markItemS.calls k (fun k_ => some k_ = (.slice Ao35 t248.length co35 : Value).ownBlock) (.slice Ao35 t248.length co35) t248 t263 t264 t265 w _ ?side1 ?side2 A24.out).mono ?_); (case side1 => repeat (first | (with_reducible first | exact HB.out | apply below_alloc | apply pw_below_drewN | apply below_drew1) | exact HB.out)); (case side2 => exact Kd.R_tight rfl HO250.out); rintro e w45 ⟨rfl, hy0, hb, hkp⟩; refine ⟨_, rfl, ?_⟩; have n2_ := Aside0.mk (Kd.R_mono (ok' := fun k_ => some k_ ≠ (.slice Ao37 t251.length co37 : Value).ownBlock) (Kd.R_keptB ((Kd.R_apart' HO244.out (Kd.R_typed HO250.out) (by decide))) hkp (fun k_ hk_ hs_ => (hk_.2) hs_)) (fun k_ hk_ => hk_.1.1.2)); have n4_ := Aside0.mk (Kd.R_reok rfl hy0 (fun k_ e_ => Kd.R_own1 HO250.out k_ e_)); have n5_ := Aside0.mk (Kd.R_mono (ok' := fun k_ => some k_ ≠ (.slice Ao38 t242.length co38 : Value).ownBlock) (Kd.R_keptB ((Kd.R_apart' HO253.out (Kd.R_typed HO250.out) (by decide))) hkp (fun k_ hk_ hs_ => (hk_.2) hs_)) (fun k_ hk_ => hk_.1.1.2)); have n8_ := Aside0.mk (hb); clear HO244; clear HO250; clear HO253; clear HB; have HO244 := n2_; have HO250 := n4_; have HO253 := n5_; have HB := n8_; clear n2_ n4_ n5_ n8_; (try clear hb); (try clear hkp); (try clear hy0)))
      (try simp only [Act.put, List.setIfInBounds_toArray, List.set_cons_zero, List.set_cons_succ])
      go_cut [63] (fun v63 wc => ∃ (kq : Nat) (x63_24 : Bool), v63 = .bool x63_24 ∧ Aside0 (laws_FnExactVotesFor.j0 kq l0 l1 t242 t251 x63_24 = some r) ∧ Aside0 (kq ≤ k) ∧ Aside0 (Kd.R (Kd.int .i64) 3 wc w.heap.size (fun k_ => some k_ ≠ ((.slice Ao37 t251.length co37) : Value).ownBlock) (.slice Ao38 t242.length co38) t242) ∧ Aside0 (Kd.R (Kd.int .i64) 3 wc w.heap.size (fun k_ => some k_ ≠ ((.slice Ao38 t242.length co38) : Value).ownBlock) (.slice Ao37 t251.length co37) t251) ∧ Aside0 (Below w.heap.size w wc))
      case first =>
       have H := HC25.out
       clear HC25
       by_cases c46 : t264 < 0
       ·rw [if_pos c46] at H
        have c46b0 : decide (t264 < 0) = true := decide_eq_true c46
        clear c46
        (first | rw [c46b0] | rw [c46b1] | (simp only [i64_w, i32_w]; rw [c46b0]) | skip)
        have H' := Aside0.mk H
        clear H
        go_wp2
        go_meet
        case rel => exact ⟨_, (true), (by first | rfl | (simp; done) | (simp [*]; done)), H', ⟨by first | omega | exact Nat.le_refl _⟩, ⟨by (with_reducible repeat (first | apply Kd.R_alloc | apply Kd.R_drewN | apply Kd.R_drew)); exact HO244.out⟩, ⟨by (with_reducible repeat (first | apply Kd.R_alloc | apply Kd.R_drewN | apply Kd.R_drew)); exact HO253.out⟩, ⟨by repeat (first | (with_reducible first | exact HB.out | apply below_alloc | apply pw_below_drewN | apply below_drew1) | exact HB.out)⟩⟩
       ·rw [if_neg c46] at H
        have c46b0 : decide (t264 < 0) = false := decide_eq_false c46
        clear c46
        (first | rw [c46b0] | rw [c46b1] | (simp only [i64_w, i32_w]; rw [c46b0]) | skip)
        replace H := Option.bind_eq_some_iff.mp H
        obtain ⟨t266, A470, H⟩ := H
        replace H : (laws_FnExactVotesFor.j0 k l0 l1 t242 t251 (!t266)) = some r := H
        have A47 := Aside0.mk A470
        clear A470
        have H' := Aside0.mk H
        clear H
        go_wp2_with (first | (go_at_call 20; (with_reducible refine (laws_eqIntS.calls k _ _ t251 _ _ t242 t266 _ ?side1 ?side2 ?side3 ?side4 A47.out).mono ?_); (case side1 => repeat (first | exact (Kd.R_reads' HO253.out).2.2 | (with_reducible refine Kd.C_alloc ?_ _) | (with_reducible refine Kd.C_drewN ?_ _) | (with_reducible refine Kd.C_drew ?_))); (case side2 => exact (Kd.R_reads' HO253.out).2.1); (case side3 => repeat (first | exact (Kd.R_reads' HO244.out).2.2 | (with_reducible refine Kd.C_alloc ?_ _) | (with_reducible refine Kd.C_drewN ?_ _) | (with_reducible refine Kd.C_drew ?_))); (case side4 => exact (Kd.R_reads' HO244.out).2.1); rintro e w' ⟨rfl, ⟨nd, rfl⟩⟩))
        go_meet
        case rel => exact ⟨_, (!t266), (by first | rfl | (simp; done) | (simp [*]; done)), H', ⟨by first | omega | exact Nat.le_refl _⟩, ⟨by (with_reducible repeat (first | apply Kd.R_alloc | apply Kd.R_drewN | apply Kd.R_drew)); exact HO244.out⟩, ⟨by (with_reducible repeat (first | apply Kd.R_alloc | apply Kd.R_drewN | apply Kd.R_drew)); exact HO253.out⟩, ⟨by repeat (first | (with_reducible first | exact HB.out | apply below_alloc | apply pw_below_drewN | apply below_drew1) | exact HB.out)⟩⟩
      case rest =>
       clear HC25
       try clear c1
       try clear c2
       try clear p2
       try clear c4
       try clear c4b0
       try clear c7
       try clear c7b0
       try clear c10
       try clear c11
       try clear c13
       try clear c14
       try clear c16
       try clear c17
       try clear c18
       try clear c19
       try clear c20
       try clear c21
       try clear c22
       try clear c46
       try clear c46b0
       try clear c46b1
       obtain ⟨kq, x63_24, rfl, HA, HJ24, HO_6, HO_9, HB⟩ := hcut
       cases kq with
       | zero => exact absurd HA.out (by simp [laws_FnExactVotesFor.j0])
       | succ kj24 =>
        have H := HA.out
        clear HA
        simp only [laws_FnExactVotesFor.j0] at H
        by_cases c48 : x63_24 = true
        ·subst c48
         have H1 : (some false) = some r := by rw [if_pos rfl] at H; exact H
         clear H
         have H := H1
         clear H1
         exact absurd ((Option.some.inj H).trans HR_.out) (by decide)
        ·replace c48 := Bool.eq_false_iff.mpr c48
         subst c48
         have H1 : ((laws_markIntS.f kj24 t251 1).bind fun bt267 => ((laws_heldIntS.f kj24 bt267.2 1).bind fun t269 => (if t269 < 0 then (some false) else (if t269 = bt267.1 then ((laws_toVoteS.f kj24 l0).bind fun t270 => ((laws_toItemS.f kj24 l1).bind fun t273 => ((impl_VotesFor.f kj24 t270 t273).bind fun t276 => ((laws_eqIntS.f kj24 t276 t242).bind fun t279 => (if t279 = true then ((laws_heldIntS.f kj24 bt267.2 1).bind fun t280 => (if t280 < 0 then (some false) else (if t280 = bt267.1 then (some true) else (some false)))) else (some false)))))) else (some false))))) = some r := by rw [if_neg (show ¬ (false = true) by decide)] at H; exact H
         clear H
         have H := H1
         clear H1
         replace H := Option.bind_eq_some_iff.mp H
         obtain ⟨⟨t267, t268⟩, A490, H⟩ := H
         replace H : ((laws_heldIntS.f kj24 t268 1).bind fun t269 => (if t269 < 0 then (some false) else (if t269 = t267 then ((laws_toVoteS.f kj24 l0).bind fun t270 => ((laws_toItemS.f kj24 l1).bind fun t273 => ((impl_VotesFor.f kj24 t270 t273).bind fun t276 => ((laws_eqIntS.f kj24 t276 t242).bind fun t279 => (if t279 = true then ((laws_heldIntS.f kj24 t268 1).bind fun t280 => (if t280 < 0 then (some false) else (if t280 = t267 then (some true) else (some false)))) else (some false)))))) else (some false)))) = some r := H
         have A49 := Aside0.mk A490
         clear A490
         replace H := Option.bind_eq_some_iff.mp H
         obtain ⟨t269, A500, H⟩ := H
         replace H : (if t269 < 0 then (some false) else (if t269 = t267 then ((laws_toVoteS.f kj24 l0).bind fun t270 => ((laws_toItemS.f kj24 l1).bind fun t273 => ((impl_VotesFor.f kj24 t270 t273).bind fun t276 => ((laws_eqIntS.f kj24 t276 t242).bind fun t279 => (if t279 = true then ((laws_heldIntS.f kj24 t268 1).bind fun t280 => (if t280 < 0 then (some false) else (if t280 = t267 then (some true) else (some false)))) else (some false)))))) else (some false))) = some r := H
         have A50 := Aside0.mk A500
         clear A500
         by_cases c51 : t269 < 0
         ·rw [if_pos c51] at H
          have c51b0 : decide (t269 < 0) = true := decide_eq_true c51
          clear c51
          exact absurd ((Option.some.inj H).trans HR_.out) (by decide)
         ·rw [if_neg c51] at H
          have c51b0 : decide (t269 < 0) = false := decide_eq_false c51
          clear c51
          by_cases c52 : t269 = t267
          ·rw [if_pos c52] at H
           have c52b0 : (t269 == t267) = true := beq_iff_eq.mpr c52
           have c52b1 : (t269 != t267) = false := bne_eq_false_iff_eq.mpr c52
           clear c52
           replace H := Option.bind_eq_some_iff.mp H
           obtain ⟨t270, A530, H⟩ := H
           replace H : ((laws_toItemS.f kj24 l1).bind fun t273 => ((impl_VotesFor.f kj24 t270 t273).bind fun t276 => ((laws_eqIntS.f kj24 t276 t242).bind fun t279 => (if t279 = true then ((laws_heldIntS.f kj24 t268 1).bind fun t280 => (if t280 < 0 then (some false) else (if t280 = t267 then (some true) else (some false)))) else (some false))))) = some r := H
           have A53 := Aside0.mk A530
           clear A530
           replace H := Option.bind_eq_some_iff.mp H
           obtain ⟨t273, A540, H⟩ := H
           replace H : ((impl_VotesFor.f kj24 t270 t273).bind fun t276 => ((laws_eqIntS.f kj24 t276 t242).bind fun t279 => (if t279 = true then ((laws_heldIntS.f kj24 t268 1).bind fun t280 => (if t280 < 0 then (some false) else (if t280 = t267 then (some true) else (some false)))) else (some false)))) = some r := H
           have A54 := Aside0.mk A540
           clear A540
           replace H := Option.bind_eq_some_iff.mp H
           obtain ⟨t276, A550, H⟩ := H
           replace H : ((laws_eqIntS.f kj24 t276 t242).bind fun t279 => (if t279 = true then ((laws_heldIntS.f kj24 t268 1).bind fun t280 => (if t280 < 0 then (some false) else (if t280 = t267 then (some true) else (some false)))) else (some false))) = some r := H
           have A55 := Aside0.mk A550
           clear A550
           replace H := Option.bind_eq_some_iff.mp H
           obtain ⟨t279, A560, H⟩ := H
           replace H : (if t279 = true then ((laws_heldIntS.f kj24 t268 1).bind fun t280 => (if t280 < 0 then (some false) else (if t280 = t267 then (some true) else (some false)))) else (some false)) = some r := H
           have A56 := Aside0.mk A560
           clear A560
           by_cases c57 : t279 = true
           ·subst c57
            have H1 : ((laws_heldIntS.f kj24 t268 1).bind fun t280 => (if t280 < 0 then (some false) else (if t280 = t267 then (some true) else (some false)))) = some r := by rw [if_pos rfl] at H; exact H
            clear H
            have H := H1
            clear H1
            replace H := Option.bind_eq_some_iff.mp H
            obtain ⟨t280, A580, H⟩ := H
            replace H : (if t280 < 0 then (some false) else (if t280 = t267 then (some true) else (some false))) = some r := H
            have A58 := Aside0.mk A580
            clear A580
            by_cases c59 : t280 < 0
            ·rw [if_pos c59] at H
             have c59b0 : decide (t280 < 0) = true := decide_eq_true c59
             clear c59
             exact absurd ((Option.some.inj H).trans HR_.out) (by decide)
            ·rw [if_neg c59] at H
             have c59b0 : decide (t280 < 0) = false := decide_eq_false c59
             clear c59
             by_cases c60 : t280 = t267
             ·rw [if_pos c60] at H
              have c60b0 : (t280 == t267) = true := beq_iff_eq.mpr c60
              have c60b1 : (t280 != t267) = false := bne_eq_false_iff_eq.mpr c60
              clear c60
              obtain rfl := Option.some.inj H
              go_wp2_with (first | ((with_reducible refine gate_callee (f := 23) rfl ?_); refine goesL_ (some 66) rfl rfl Try.func23 (by kernel_rfl) rfl #[.slice Ao37 t251.length co37, .int .i64 1] rfl (by (try simp only [List.map_toArray, List.map_cons, List.map_nil]); first | done | rfl | (simp only [List.length_drop, List.length_take]; rfl)) ?_; (with_reducible refine (laws_markIntS.calls kj24 (fun k_ => some k_ = (.slice Ao37 t251.length co37 : Value).ownBlock) (.slice Ao37 t251.length co37) t251 1 t267 t268 w _ ?side1 ?side2 A49.out).mono ?_); (case side1 => repeat (first | (with_reducible first | exact HB.out | apply below_alloc | apply pw_below_drewN | apply below_drew1) | exact HB.out)); (case side2 => exact Kd.R_tight rfl HO_9.out); rintro e w61 ⟨rfl, hy0, hb, hkp⟩; refine ⟨_, rfl, ?_⟩; have n0_ := Aside0.mk (Kd.R_mono (ok' := fun k_ => some k_ ≠ (.slice Ao37 t251.length co37 : Value).ownBlock) (Kd.R_keptB (HO_6.out) hkp (fun k_ hk_ hs_ => (hk_) hs_)) (fun k_ hk_ => hk_.1)); have n1_ := Aside0.mk (Kd.R_reok rfl hy0 (fun k_ e_ => Kd.R_own1 HO_9.out k_ e_)); have n2_ := Aside0.mk (hb); clear HO_6; clear HO_9; clear HB; have HO_6 := n0_; have HO_9 := n1_; have HB := n2_; clear n0_ n1_ n2_; (try clear hb); (try clear hkp); (try clear hy0)) | ((with_reducible refine gate_callee (f := 24) rfl ?_); refine goesL_ (some 69) rfl rfl Try.func24 (by kernel_rfl) rfl #[.slice Ao37 t268.length co37, .int .i64 1] rfl (by (try simp only [List.map_toArray, List.map_cons, List.map_nil]); first | done | (rw [show t268.length = t251.length from (Kd.R_reads' HO_9.out).1.symm] <;> rfl) | rfl | (simp only [List.length_drop, List.length_take]; rfl)) ?_; (with_reducible refine (laws_heldIntS.calls kj24 _ _ t268 1 t269 _ ?side1 ?side2 A50.out).mono ?_); (case side1 => repeat (first | exact (Kd.R_reads' HO_9.out).2.2 | (with_reducible refine Kd.C_alloc ?_ _) | (with_reducible refine Kd.C_drewN ?_ _) | (with_reducible refine Kd.C_drew ?_))); (case side2 => rw [show t268.length = t251.length from (Kd.R_reads' HO_9.out).1.symm]; exact (Kd.R_reads' HO_9.out).2.1); rintro e w' ⟨rfl, ⟨nd, rfl⟩⟩; refine ⟨_, rfl, ?_⟩) | ((with_reducible refine gate_callee (f := 13) rfl ?_); refine goesL_ (some 76) rfl rfl Try.func13 (by kernel_rfl) rfl #[.slice A0 l0.length c0] rfl (by (try simp only [List.map_toArray, List.map_cons, List.map_nil]); first | done | rfl | (simp only [List.length_drop, List.length_take]; rfl)) ?_; (with_reducible refine (laws_toVoteS.calls kj24 _ _ l0 t270 _ ?side1 ?side2 A53.out).mono ?_); (case side1 => repeat (first | exact (Kd.C_below HR0.out (by repeat (first | (with_reducible first | exact HB.out | apply below_alloc | apply pw_below_drewN | apply below_drew1) | exact HB.out))) | (with_reducible refine Kd.C_alloc ?_ _) | (with_reducible refine Kd.C_drewN ?_ _) | (with_reducible refine Kd.C_drew ?_))); (case side2 => exact HC0.out); rintro e w62 ⟨v271, rfl, ho0, hb⟩; refine ⟨_, rfl, ?_⟩; have n0_ := Aside0.mk (Kd.R_below (by (with_reducible repeat (first | apply Kd.R_alloc | apply Kd.R_drewN | apply Kd.R_drew)); exact HO_6.out) hb); have n1_ := Aside0.mk (Kd.R_below (by (with_reducible repeat (first | apply Kd.R_alloc | apply Kd.R_drewN | apply Kd.R_drew)); exact HO_9.out) hb); have n2_ := Aside0.mk (Kd.R_lower ho0 (below_size (by repeat (first | (with_reducible first | exact HB.out | apply below_alloc | apply pw_below_drewN | apply below_drew1) | exact HB.out)))); have n3_ := Aside0.mk (below_step (by repeat (first | (with_reducible first | exact HB.out | apply below_alloc | apply pw_below_drewN | apply below_drew1) | exact HB.out)) hb); clear HO_6; clear HO_9; clear HB; have HO_6 := n0_; have HO_9 := n1_; have HO272 := n2_; have HB := n3_; clear n0_ n1_ n2_ n3_; (try clear hb); (try clear hb2); (try clear hk); (try clear hi); (try clear ho0)) | ((with_reducible refine gate_callee (f := 14) rfl ?_); refine goesL_ (some 78) rfl rfl Try.func14 (by kernel_rfl) rfl #[.slice A1 l1.length c1] rfl (by (try simp only [List.map_toArray, List.map_cons, List.map_nil]); first | done | rfl | (simp only [List.length_drop, List.length_take]; rfl)) ?_; (with_reducible refine (laws_toItemS.calls kj24 _ _ l1 t273 _ ?side1 ?side2 A54.out).mono ?_); (case side1 => repeat (first | exact (Kd.C_below HR1.out HB.out) | (with_reducible refine Kd.C_alloc ?_ _) | (with_reducible refine Kd.C_drewN ?_ _) | (with_reducible refine Kd.C_drew ?_))); (case side2 => exact HC1.out); rintro e w63 ⟨v274, rfl, ho0, hb⟩; refine ⟨_, rfl, ?_⟩; have n0_ := Aside0.mk (Kd.R_below (by (with_reducible repeat (first | apply Kd.R_alloc | apply Kd.R_drewN | apply Kd.R_drew)); exact HO_6.out) hb); have n1_ := Aside0.mk (Kd.R_below (by (with_reducible repeat (first | apply Kd.R_alloc | apply Kd.R_drewN | apply Kd.R_drew)); exact HO_9.out) hb); have n2_ := Aside0.mk (Kd.R_elder' (by (with_reducible repeat (first | apply Kd.R_alloc | apply Kd.R_drewN | apply Kd.R_drew)); exact HO272.out) (Kd.R_base ho0) hb); have n3_ := Aside0.mk (Kd.R_lower ho0 (below_size (by repeat (first | (with_reducible first | exact HB.out | apply below_alloc | apply pw_below_drewN | apply below_drew1) | exact HB.out)))); have n4_ := Aside0.mk (below_step (by repeat (first | (with_reducible first | exact HB.out | apply below_alloc | apply pw_below_drewN | apply below_drew1) | exact HB.out)) hb); clear HO_6; clear HO_9; clear HO272; clear HB; have HO_6 := n0_; have HO_9 := n1_; have HO272 := n2_; have HO275 := n3_; have HB := n4_; clear n0_ n1_ n2_ n3_ n4_; (try clear hb); (try clear hb2); (try clear hk); (try clear hi); (try clear ho0); obtain ⟨Ao64, co64, eo64⟩ := Kd.R_slice HO272.out; subst eo64; obtain ⟨Ao65, co65, eo65⟩ := Kd.R_slice HO275.out; subst eo65) | ((with_reducible refine gate_callee (f := 19) rfl ?_); refine goesL_ (some 79) rfl rfl Try.func19 (by kernel_rfl) rfl #[.slice Ao64 t270.length co64, .slice Ao65 t273.length co65] rfl (by (try simp only [List.map_toArray, List.map_cons, List.map_nil]); first | done | rfl | (simp only [List.length_drop, List.length_take]; rfl)) ?_; (with_reducible refine (impl_VotesFor.calls kj24 _ _ t270 _ _ t273 t276 _ ?side1 ?side2 ?side3 ?side4 A55.out).mono ?_); (case side1 => repeat (first | exact (Kd.R_reads' HO272.out).2.2 | (with_reducible refine Kd.C_alloc ?_ _) | (with_reducible refine Kd.C_drewN ?_ _) | (with_reducible refine Kd.C_drew ?_))); (case side2 => exact (Kd.R_reads' HO272.out).2.1); (case side3 => repeat (first | exact (Kd.R_reads' HO275.out).2.2 | (with_reducible refine Kd.C_alloc ?_ _) | (with_reducible refine Kd.C_drewN ?_ _) | (with_reducible refine Kd.C_drew ?_))); (case side4 => exact (Kd.R_reads' HO275.out).2.1); rintro e w66 ⟨v277, rfl, ho0, hb⟩; refine ⟨_, rfl, ?_⟩; have n0_ := Aside0.mk (Kd.R_elder' (by (with_reducible repeat (first | apply Kd.R_alloc | apply Kd.R_drewN | apply Kd.R_drew)); exact HO_6.out) (Kd.R_base ho0) hb); have n1_ := Aside0.mk (Kd.R_elder' (by (with_reducible repeat (first | apply Kd.R_alloc | apply Kd.R_drewN | apply Kd.R_drew)); exact HO_9.out) (Kd.R_base ho0) hb); have n2_ := Aside0.mk (Kd.R_below (by (with_reducible repeat (first | apply Kd.R_alloc | apply Kd.R_drewN | apply Kd.R_drew)); exact HO272.out) hb); have n3_ := Aside0.mk (Kd.R_below (by (with_reducible repeat (first | apply Kd.R_alloc | apply Kd.R_drewN | apply Kd.R_drew)); exact HO275.out) hb); have n4_ := Aside0.mk (Kd.R_lower (Kd.R_new' (Kd.R_new' ho0 (Kd.R_lt (by (with_reducible repeat (first | apply Kd.R_alloc | apply Kd.R_drewN | apply Kd.R_drew)); exact HO_6.out))) (Kd.R_lt (by (with_reducible repeat (first | apply Kd.R_alloc | apply Kd.R_drewN | apply Kd.R_drew)); exact HO_9.out))) (below_size (by repeat (first | (with_reducible first | exact HB.out | apply below_alloc | apply pw_below_drewN | apply below_drew1) | exact HB.out)))); have n5_ := Aside0.mk (below_step (by repeat (first | (with_reducible first | exact HB.out | apply below_alloc | apply pw_below_drewN | apply below_drew1) | exact HB.out)) hb); clear HO_6; clear HO_9; clear HO272; clear HO275; clear HB; have HO_6 := n0_; have HO_9 := n1_; have HO272 := n2_; have HO275 := n3_; have HO278 := n4_; have HB := n5_; clear n0_ n1_ n2_ n3_ n4_ n5_; (try clear hb); (try clear hb2); (try clear hk); (try clear hi); (try clear ho0); obtain ⟨Ao67, co67, eo67⟩ := Kd.R_slice HO278.out; subst eo67) | ((with_reducible refine gate_callee (f := 20) rfl ?_); refine goesL_ (some 82) rfl rfl Try.func20 (by kernel_rfl) rfl #[.slice Ao67 t276.length co67, .slice Ao38 t242.length co38] rfl (by (try simp only [List.map_toArray, List.map_cons, List.map_nil]); first | done | rfl | (simp only [List.length_drop, List.length_take]; rfl)) ?_; (with_reducible refine (laws_eqIntS.calls kj24 _ _ t276 _ _ t242 true _ ?side1 ?side2 ?side3 ?side4 A56.out).mono ?_); (case side1 => repeat (first | exact (Kd.R_reads' HO278.out).2.2 | (with_reducible refine Kd.C_alloc ?_ _) | (with_reducible refine Kd.C_drewN ?_ _) | (with_reducible refine Kd.C_drew ?_))); (case side2 => exact (Kd.R_reads' HO278.out).2.1); (case side3 => repeat (first | exact (Kd.R_reads' HO_6.out).2.2 | (with_reducible refine Kd.C_alloc ?_ _) | (with_reducible refine Kd.C_drewN ?_ _) | (with_reducible refine Kd.C_drew ?_))); (case side4 => exact (Kd.R_reads' HO_6.out).2.1); rintro e w' ⟨rfl, ⟨nd, rfl⟩⟩; refine ⟨_, rfl, ?_⟩) | ((with_reducible refine gate_callee (f := 24) rfl ?_); refine goesL_ (some 86) rfl rfl Try.func24 (by kernel_rfl) rfl #[.slice Ao37 t268.length co37, .int .i64 1] rfl (by (try simp only [List.map_toArray, List.map_cons, List.map_nil]); first | done | (rw [show t268.length = t251.length from (Kd.R_reads' HO_9.out).1.symm] <;> rfl) | rfl | (simp only [List.length_drop, List.length_take]; rfl)) ?_; (with_reducible refine (laws_heldIntS.calls kj24 _ _ t268 1 t280 _ ?side1 ?side2 A58.out).mono ?_); (case side1 => repeat (first | exact (Kd.R_reads' HO_9.out).2.2 | (with_reducible refine Kd.C_alloc ?_ _) | (with_reducible refine Kd.C_drewN ?_ _) | (with_reducible refine Kd.C_drew ?_))); (case side2 => rw [show t268.length = t251.length from (Kd.R_reads' HO_9.out).1.symm]; exact (Kd.R_reads' HO_9.out).2.1); rintro e w' ⟨rfl, ⟨nd, rfl⟩⟩; refine ⟨_, rfl, ?_⟩))
              go_ret
              exact ⟨by first | rfl | (simp only [i64_w, i32_w]; done) | (simp only [i64_w, i32_w]; rfl) | (simp [errW_none, errW_some] <;> rfl) | (simp [*, errW_none, errW_some] <;> rfl), by repeat (first | (with_reducible first | exact HB.out | apply below_alloc | apply pw_below_drewN | apply below_drew1) | exact HB.out)⟩
             ·rw [if_neg c60] at H
              have c60b0 : (t280 == t267) = false := beq_eq_false_iff_ne.mpr c60
              have c60b1 : (t280 != t267) = true := bne_iff_ne.mpr c60
              exact absurd ((Option.some.inj H).trans HR_.out) (by decide)
           ·replace c57 := Bool.eq_false_iff.mpr c57
            subst c57
            have H1 : (some false) = some r := by rw [if_neg (show ¬ (false = true) by decide)] at H; exact H
            clear H
            have H := H1
            clear H1
            exact absurd ((Option.some.inj H).trans HR_.out) (by decide)
          ·rw [if_neg c52] at H
           have c52b0 : (t269 == t267) = false := beq_eq_false_iff_ne.mpr c52
           have c52b1 : (t269 != t267) = true := bne_iff_ne.mpr c52
           exact absurd ((Option.some.inj H).trans HR_.out) (by decide)
     ·replace c22 := Bool.eq_false_iff.mpr c22
      subst c22
      have H1 : (some false) = some r := by rw [if_neg (show ¬ (false = true) by decide)] at H; exact H
      clear H
      have H := H1
      clear H1
      exact absurd ((Option.some.inj H).trans HR_.out) (by decide)
    ·replace c19 := Bool.eq_false_iff.mpr c19
     subst c19
     have H1 : (some false) = some r := by rw [if_neg (show ¬ (false = true) by decide)] at H; exact H
     clear H
     have H := H1
     clear H1
     exact absurd ((Option.some.inj H).trans HR_.out) (by decide)
   ·replace c16 := Bool.eq_false_iff.mpr c16
    subst c16
    have H1 : (some false) = some r := by rw [if_neg (show ¬ (false = true) by decide)] at H; exact H
    clear H
    have H := H1
    clear H1
    exact absurd ((Option.some.inj H).trans HR_.out) (by decide)

end Go.Proofs.Ytknmmkgaijndfaa.PX
