/- The row FnExactVotesFor: for every input the law's function returns true, and each argument reads as it did. Conditions: none but the row's own. It joins the printed contracts and the plain part. -/
import Derived.Test.YtknmmkgaijndfaaRows
import Derived.Test.YtknmmkgaijndfaaXVotes
import Derived.Test.YtknmmkgaijndfaaPureFnExactVotesFor
import Derived.Test.YtknmmkgaijndfaaOpen
import Derived.WalkKit
import Derived.ProofKit
import Derived.OpenShut
import Derived.ShutString
import Derived.ChangeOld
import Derived.Below
import Derived.SizedLaws
namespace Go.Proofs.Ytknmmkgaijndfaa.fnExactVotesFor
open Go.ChangeShapes Go.WideShapes Go.ChangeAt Go.RowKit Go.Proofs.YtknmmkgaijndfaaE Go.Proofs.YtknmmkgaijndfaaW.PrintWords Go.Proofs.Ytknmmkgaijndfaa.P
open Go.ChangeMaps (open_string shut_string)
set_option linter.unusedVariables false
theorem own : ownKnob Try.prog.godebug = none := by kernel_rfl
theorem laidOut : laidOutB Try.prog = true := by kernel_rfl
theorem open60 {H : Type} {enc : TypeId × Value → H} : Opn enc Try.prog 60 k60 (fun _ => True) := by
  unfold k60
  exact Opn.weak (Opn.struct Try.underlying60 (by kernel_rfl) (fun ⟨a0_, a1_, a2_⟩ => ⟨⟨a0_, a1_, a2_⟩, rfl⟩) (OpnF.cons rfl (Opn.int Try.underlying3 (by kernel_rfl)) (OpnF.cons rfl (Opn.int Try.underlying3 (by kernel_rfl)) (OpnF.last rfl (Opn.int Try.underlying3 (by kernel_rfl))))))
theorem open62 {H : Type} {enc : TypeId × Value → H} : Opn enc Try.prog 62 k62 (fun _ => True) := by
  unfold k62
  exact Opn.weak (Opn.struct Try.underlying62 (by kernel_rfl) (fun ⟨a0_, a1_⟩ => ⟨⟨a0_, a1_⟩, rfl⟩) (OpnF.cons rfl (Opn.int Try.underlying3 (by kernel_rfl)) (OpnF.last rfl open60)))
theorem open53 {H : Type} {enc : TypeId × Value → H} : Opn enc Try.prog 53 k53 (fun _ => True) := by
  unfold k53
  exact Opn.weak (Opn.struct Try.underlying53 (by kernel_rfl) (fun ⟨a0_, a1_⟩ => ⟨⟨a0_, a1_⟩, rfl⟩) (OpnF.cons rfl (Opn.int Try.underlying3 (by kernel_rfl)) (OpnF.last rfl (Opn.slice Try.underlying23 (by kernel_rfl) open62))))
theorem innerT53_0 {w : World} {A : Option Addr} {xs : List (S53)} (h : Kd.C k53 w A xs.length xs) : ∀ v, v ∈ xs → v.f1.length ≤ 9223372036854775807 := by
  intro v hv
  obtain ⟨i, hi, he⟩ := List.mem_iff_getElem.1 hv
  obtain ⟨ad, c, _, _, hK, _⟩ := Kd.C_get h v (i : Int) (by omega) (by omega)
  rw [Int.toNat_natCast, List.getD_eq_getElem?_getD, List.getElem?_eq_getElem hi, he] at hK
  obtain ⟨A0_, c0_, _, _, g0_⟩ := k53_open hK
  exact g0_.2.1
set_option maxRecDepth 100000 in
theorem lifted (os : Os) (started : os.Started) (H : Type) (enc : TypeId × Value → H) :
    ReturnsInHanded {} Try.checked os 4 .any (Rows.fnExactVotesForSpec.pre6 enc Try.prog Try.f4 Rows.fnExactVotesForRow.domain false) (Rows.fnExactVotesForSpec.post enc Try.prog Try.f4 false true false false) := by
  refine returnsInHanded_of_change_sized (C := Try.checked) own started (by kernel_rfl) Try.func4
    (ChangeSpec.witness6 (enc := enc) (C := Try.checked) false ⟨#[], #[.slice none 0 0, .slice none 0 0], []⟩ 8 (by kernel_rfl) (by kernel_rfl) (by kernel_rfl) (by kernel_rfl)) ?_
  intro W base args ds gs before hval0 hW hcnd hsz0 _
  have hval : ∀ (j : Nat) t v, Try.f4.params[j]? = some t → args[j]? = some v → Value.okWide Try.prog W .any base t v := hval0
  have hW' := hW
  obtain ⟨p, q, hA0, hV, rfl, hfz, hnd⟩ := hW
  have hA : DataW.TrodAll enc Try.prog W 0 (fun _ => true) true Try.f4.params.toList args.toList ds p := hA0
  rw [Try.params4] at hA hval
  obtain ⟨v0, vs0, d0, ds0, p0, q0, hargs, rfl, rfl, h0, r0⟩ := trodAll_cons hA
  obtain ⟨v1, vs1, d1, ds1, p1, q1, rfl, rfl, rfl, h1, r1⟩ := trodAll_cons r0
  obtain ⟨rfl, rfl, rfl⟩ := trodAll_nil r1
  obtain rfl : args = #[v0, v1] := by cases args; simp_all
  obtain ⟨rfl, rfl⟩ := trodVars_none hV
  have k0 := h0
  have lt0 : ∀ x ∈ p0, x.block < W.heap.size := by obtain ⟨m, hm⟩ := k0; exact DataW.trod_lt m _ _ _ hm
  obtain ⟨x0, hx0, hq0⟩ := Opn.value (Opn.slice Try.underlying22 (by kernel_rfl) open53) h0
  obtain ⟨a0, len0, cap0, rfl⟩ := okWide_slice Try.underlying22 (hval 0 22 v0 rfl rfl)
  obtain ⟨A0, c0, e0, hl0, hc0⟩ := hx0
  simp only [Value.cells, List.cons.injEq, Value.slice.injEq, and_true] at e0
  obtain ⟨rfl, rfl, rfl⟩ := e0
  have k1 := h1
  have lt1 : ∀ x ∈ p1, x.block < W.heap.size := by obtain ⟨m, hm⟩ := k1; exact DataW.trod_lt m _ _ _ hm
  obtain ⟨x1, hx1, hq1⟩ := Opn.value (Opn.slice Try.underlying23 (by kernel_rfl) open62) h1
  obtain ⟨a1, len1, cap1, rfl⟩ := okWide_slice Try.underlying23 (hval 1 23 v1 rfl rfl)
  obtain ⟨A1, c1, e1, hl1, hc1⟩ := hx1
  simp only [Value.cells, List.cons.injEq, Value.slice.injEq, and_true] at e1
  obtain ⟨rfl, rfl, rfl⟩ := e1
  clear hA0 hval0 hsz0
  obtain ⟨k, h⟩ := Pure.FnExactVotesFor x0 x1 hc0.2.1 (innerT53_0 hc0) hc1.2.1
  refine (PX.laws_FnExactVotesFor.calls k _ _ x0 _ _ x1 true rfl W hc0 hl0 hc1 hl1 h).mono fun e W' ⟨he, hd⟩ => ?_
  have bel := hd
  subst he
  exact ⟨_, rfl, _, _, _, [], _, [], hW', trodAll_mk1 (shut_bool Try.underlying4 _), (trodAll_cons_mk (Below.trod laidOut (by kernel_rfl) (of_decide_eq_true (by kernel_rfl)) k0 bel lt0) (trodAll_cons_mk (Below.trod laidOut (by kernel_rfl) (of_decide_eq_true (by kernel_rfl)) k1 bel lt1) trodAll_mk0)), rfl, bel.frame _, fun h => by cases h⟩
theorem over : Rows.fnExactVotesForRow.holds Try.pinned (OpenSpec.ofChange Rows.fnExactVotesForSpec) :=
  OpenClaim.holds_of_wide 4 Try.f4 rfl rfl rfl rfl rfl rfl rfl ⟨rfl, rfl, rfl, rfl, rfl⟩ rfl rfl rfl rfl rfl (by kernel_rfl) Try.func4 (by kernel_rfl)
    (of_decide_eq_true (by kernel_rfl)) (by unfold Func.isWrapper; first | (rw [if_pos (by decide +kernel)]; kernel_rfl) | (rw [if_neg (by decide +kernel)]; exact ⟨rfl, rfl⟩))
    (fun os started H enc _ => lifted os started H enc)
theorem proved : Rows.FnExactVotesForSaid := over
#print axioms proved
end Go.Proofs.Ytknmmkgaijndfaa.fnExactVotesFor
namespace Go.Proofs.Ytknmmkgaijndfaa
/-- The row, under a short name, for the claim. -/
theorem fnExactVotesFor_holds : Rows.FnExactVotesForSaid := fnExactVotesFor.proved
end Go.Proofs.Ytknmmkgaijndfaa
