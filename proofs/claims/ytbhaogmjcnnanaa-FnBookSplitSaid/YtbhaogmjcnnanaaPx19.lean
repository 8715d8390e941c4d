/- The printed functions: what each Go function computes, as a Lean function, and that the Go code comes to just that. Conditions: none beyond each contract's own. -/
import Derived.Test.YtbhaogmjcnnanaaPx0
namespace Go.Proofs.Ytbhaogmjcnnanaa.P
open Go.RowKit Go.Proofs.YtbhaogmjcnnanaaW.PrintWords Go.Proofs.YtbhaogmjcnnanaaW.PrintLast Go.Proofs.YtbhaogmjcnnanaaW.PrintMore
attribute [local go_sem] max2_int min2_int max_two min_two max_three min_three max_four min_four   -- for this text's walks alone
set_option linter.unusedVariables false
set_option linter.unusedSimpArgs false

/-! ### impl_BookNew: function 25 -/
def impl_BookNew.f : Option (List Int) := some [9, 9, 9]
theorem bn_reps (xs : List Int) : Reps (fun (x : Int) (cs : List Value) => cs = [Value.int .i64 x]) 1 xs (xs.map (Value.int .i64)) := by
 refine ⟨by simp, fun j p hj => ?_⟩
 have hl : j < xs.length := (List.getElem?_eq_some_iff.1 hj).1
 have e : xs[j] = p := by
  rw [List.getElem?_eq_getElem hl] at hj
  exact Option.some.inj hj
 rw [Nat.mul_one, List.drop_eq_getElem_cons (by simpa using hl)]
 simp [e]
theorem bn_cell {w : World} {ad : Addr} {v : Value} (h : w.cell? ad = some v) : ∀ j u, [v][j]? = some u → w.cell? (ad.add j) = some u := by
 intro j u hu
 match j with
 | 0 =>
  have e : v = u := by simpa using hu
  rw [← e]
  exact h
 | j + 1 => simp at hu
/-- The row, as it fills. -/
def bn_row (i : Int) : List Value := if i = 1 then [.int .i64 9, .int .i64 0, .int .i64 0] else if i = 2 then [.int .i64 9, .int .i64 9, .int .i64 0] else [.int .i64 9, .int .i64 9, .int .i64 9]
theorem bn_rowcell {W : World} {g : Nat} {i : Int} (h : W.heap[g]? = some (.cells (bn_row i).toArray 3 (0, 0))) (j : Nat) (v : Value) (hj : (bn_row i)[j]? = some v) : W.cell? ⟨g, j, none⟩ = some v := by
 rw [blk_cell h]
 simpa using hj
set_option maxHeartbeats 1000000 in
set_option maxRecDepth 100000 in
theorem bn_mul (w : World) : Calls Try.prog 55 #[.int .u64 1, .int .u64 3] w fun e w' => e = .returned (.tuple #[.int .u64 0, .int .u64 3]) ∧ w = w' := by
 go_enter Try.func55, Try.ntmps55
 go_wp2
 go_ret2
 exact ⟨by first | rfl | (simp; done), rfl⟩
set_option maxHeartbeats 1000000 in
set_option maxRecDepth 100000 in
theorem bn_repeat (b : Nat) (w : World) (hb : b < w.heap.size) (hc : w.cell? ⟨b, 0, none⟩ = some (.int .i64 9)) :
  Calls Try.prog 46 #[.slice (some ⟨b, 0, none⟩) 1 1, .int .i64 3] w fun e w' => ∃ v0_ : Value, e = .returned (v0_) ∧ (∃ A, v0_ = .slice A 3 3) ∧ Kd.R (Kd.int .i64) 3 w' w.heap.size (fun _ => True) v0_ [9, 9, 9] ∧ Below w.heap.size w w' := by
 have hmk : ∀ w : World, (Instr.makeSlice 22 (.int .i64 3) (.int .i64 3)).run Try.prog w = .ok (.slice (some ⟨w.heap.size, 0, none⟩) 3 3) (w.alloc (.cells #[.int .i64 0, .int .i64 0, .int .i64 0] 3)) := fun _ => by kernel_rfl
 go_enter Try.func46, Try.ntmps46
 go_wp2_with (first | (go_at_call 55; refine (bn_mul _).mono ?_; rintro e w' ⟨rfl, rfl⟩) | ((with_reducible refine gate_dst (N := 33) rfl ?_); refine wpList_copy_splice rfl (.tmp 31) (.tmp 32) 22 22 rfl 3 Try.underlying22 (by kernel_rfl) (some ⟨w.heap.size, 0, none⟩) (some ⟨b, 0, none⟩) 3 3 1 1 rfl rfl w.heap.size 0 [.int .i64 0, .int .i64 0, .int .i64 0] 3 ?hg [.int .i64 9] rfl ?hpos (by decide) (by decide) w.heap.size w ?hb (Nat.le_refl _) ?_; (case hg => exact heap_alloc_new w _); (case hpos => exact fun _ => ⟨rfl, _, rfl, bn_cell (pw_cell_below (below_alloc (Below.refl _ _) _) hc)⟩); (case hb => exact below_alloc (Below.refl _ _) _); intro w2 hg2 hb2))
 go_loopg [8] 2 (fun kq v8 wr => ∃ i : Int, (i = 1 ∧ kq = 2 ∨ i = 2 ∧ kq = 1 ∨ i = 3 ∧ kq = 0) ∧ v8 = .int .i64 i ∧ Aside0 (wr.heap[w.heap.size]? = some (.cells (bn_row i).toArray 3 (0, 0))) ∧ Aside0 (Below w.heap.size w wr))
 case atStart => exact ⟨1, .inl ⟨rfl, rfl⟩, rfl, ⟨hg2.out⟩, ⟨hb2⟩⟩
 case round =>
  obtain ⟨i, h1, rfl, HG, HB⟩ := hrel
  rcases h1 with ⟨rfl, rfl⟩ | ⟨rfl, rfl⟩ | ⟨rfl, rfl⟩
  ·go_wp2
   go_region_law (refine step_copy_splice rfl (.tmp 41) (.tmp 44) 22 22 rfl 3 Try.underlying22 (by kernel_rfl) (some ⟨w.heap.size, 1, none⟩) (some ⟨w.heap.size, 0, none⟩) 2 2 1 3 (by simp [Act.eval, Act.put]) (by simp [Act.eval, Act.put]) w.heap.size 1 (bn_row 1) 3 HG.out [.int .i64 9] rfl (fun _ => ⟨rfl, _, rfl, bn_cell (bn_rowcell HG.out 0 _ rfl)⟩) (by decide) (by decide) w.heap.size w (below_drew1 HB.out) (Nat.le_refl _) ?_; intro w4 hg4 hb4)
   all_goals (go_wp2; go_roundg 1; (case measure => decide); (case rel => exact ⟨2, .inr (.inl ⟨rfl, rfl⟩), rfl, ⟨hg4.out⟩, ⟨hb4⟩⟩))
  ·go_wp2
   go_region_law (refine step_copy_splice rfl (.tmp 41) (.tmp 44) 22 22 rfl 3 Try.underlying22 (by kernel_rfl) (some ⟨w.heap.size, 2, none⟩) (some ⟨w.heap.size, 0, none⟩) 1 1 2 3 (by simp [Act.eval, Act.put]) (by simp [Act.eval, Act.put]) w.heap.size 2 (bn_row 2) 3 HG.out [.int .i64 9] rfl (fun _ => ⟨rfl, _, rfl, bn_cell (bn_rowcell HG.out 0 _ rfl)⟩) (by decide) (by decide) w.heap.size w (below_drew1 HB.out) (Nat.le_refl _) ?_; intro w4 hg4 hb4)
   all_goals (go_wp2; go_roundg 0; (case measure => decide); (case rel => exact ⟨3, .inr (.inr ⟨rfl, rfl⟩), rfl, ⟨hg4.out⟩, ⟨hb4⟩⟩))
  ·go_wp2
   go_ret
   exact ⟨_, rfl, ⟨_, rfl⟩, ⟨fun _ _ => trivial, [.int .i64 9, .int .i64 9, .int .i64 9], ⟨rfl, .inr ⟨w.heap.size, 3, (bn_row 3).toArray, rfl, Nat.le_refl _, HG.out, Nat.le_refl _, by decide, rfl, rfl⟩⟩, bn_reps [9, 9, 9]⟩, HB.out⟩
set_option maxHeartbeats 1000000 in
set_option maxRecDepth 100000 in
theorem bn_clip (A : Option Addr) (n c : Nat) (w : World) (hn : n ≤ c) (hc : c ≤ 9223372036854775807) :
  Calls Try.prog 38 #[.slice A n c] w fun e w' => e = .returned (.slice A n n) ∧ w = w' := by
 go_enter Try.func38, Try.ntmps38
 go_wp2
 go_ret
 exact ⟨rfl, rfl⟩
set_option maxHeartbeats 1000000 in
set_option maxRecDepth 100000 in
theorem impl_BookNew.calls (r : List Int) (w : World) (h : impl_BookNew.f = some r) :
  Calls Try.prog 25 #[] w fun e w' => ∃ v0_ : Value, e = .returned (v0_) ∧ Kd.R (Kd.int .i64) 3 w' w.heap.size (fun _ => True) v0_ r ∧ Below w.heap.size w w' := by
 have hr : [9, 9, 9] = r := Option.some.inj h
 have HR := Aside0.mk hr
 clear hr h
 go_enter Try.func25, Try.ntmps25
 go_wp2_with (first | (go_at_call 46; refine (bn_repeat w.heap.size _ (by simp) (by first | exact blk_cell (heap_alloc_new w _) 0 | (rw [blk_cell (heap_alloc_new w _)]; rfl))).mono ?_; rintro e w1 ⟨v1, rfl, ⟨A1, rfl⟩, ho1, hb1⟩; have HO1 := Aside0.mk ho1; have HB1 := Aside0.mk hb1; clear ho1 hb1) | (go_at_call 38; refine (bn_clip A1 3 3 _ (Nat.le_refl _) (by decide)).mono ?_; rintro e w' ⟨rfl, rfl⟩))
 go_ret
 refine ⟨_, rfl, ?_, ?_⟩
 ·rw [← HR.out]
  exact Kd.R_lower HO1.out (by simp)
 ·exact (below_alloc (Below.refl _ _) _).trans (HB1.out.mono (by simp))

end Go.Proofs.Ytbhaogmjcnnanaa.P
