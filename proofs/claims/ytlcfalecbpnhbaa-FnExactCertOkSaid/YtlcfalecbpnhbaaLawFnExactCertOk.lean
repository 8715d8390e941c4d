/- The row FnExactCertOk: for every input the law's function returns true, and each argument reads as it did. Conditions: none but the row's own. It joins the printed contracts and the plain part. -/
import Derived.Test.YtlcfalecbpnhbaaRows
import Derived.Test.YtlcfalecbpnhbaaPx9
import Derived.Test.YtlcfalecbpnhbaaPureFnExactCertOk
import Derived.Test.YtlcfalecbpnhbaaOpen
import Derived.WalkKit
import Derived.ProofKit
import Derived.OpenShut
import Derived.ShutString
import Derived.ChangeOld
import Derived.Below
import Derived.SizedLaws
namespace Go.Proofs.Ytlcfalecbpnhbaa.fnExactCertOk
open Go.ChangeShapes Go.WideShapes Go.ChangeAt Go.RowKit Go.Proofs.YtlcfalecbpnhbaaE Go.Proofs.YtlcfalecbpnhbaaW.PrintWords Go.Proofs.Ytlcfalecbpnhbaa.P
open Go.ChangeMaps (open_string shut_string)
set_option linter.unusedVariables false
theorem own : ownKnob Try.prog.godebug = none := by kernel_rfl
theorem laidOut : laidOutB Try.prog = true := by kernel_rfl
theorem open62 {H : Type} {enc : TypeId × Value → H} : Opn enc Try.prog 62 k62 (fun _ => True) := by
  unfold k62
  exact Opn.weak (Opn.struct Try.underlying62 (by kernel_rfl) (fun ⟨a0_, a1_, a2_⟩ => ⟨⟨a0_, a1_, a2_⟩, rfl⟩) (OpnF.cons rfl (Opn.int Try.underlying3 (by kernel_rfl)) (OpnF.cons rfl (Opn.int Try.underlying3 (by kernel_rfl)) (OpnF.last rfl (Opn.int Try.underlying3 (by kernel_rfl))))))
theorem open64 {H : Type} {enc : TypeId × Value → H} : Opn enc Try.prog 64 k64 (fun _ => True) := by
  unfold k64
  exact Opn.weak (Opn.struct Try.underlying64 (by kernel_rfl) (fun ⟨a0_, a1_⟩ => ⟨⟨a0_, a1_⟩, rfl⟩) (OpnF.cons rfl (Opn.int Try.underlying3 (by kernel_rfl)) (OpnF.last rfl open62)))
theorem open25 {H : Type} {enc : TypeId × Value → H} : Opn enc Try.prog 25 k25 (fun _ => True) := by
  unfold k25
  exact Opn.weak (Opn.struct Try.underlying25 (by kernel_rfl) (fun ⟨a0_, a1_⟩ => ⟨⟨a0_, a1_⟩, rfl⟩) (OpnF.cons rfl (Opn.slice Try.underlying22 (by kernel_rfl) open64) (OpnF.last rfl (Opn.slice Try.underlying23 (by kernel_rfl) (Opn.slice Try.underlying36 (by kernel_rfl) (Opn.int Try.underlying3 (by kernel_rfl)))))))
theorem innerS36_0 {w : World} {A : Option Addr} {xs : List (List Int)} (h : Kd.C (Kd.slice 3 (Kd.int .i64)) w A xs.length xs) : ∀ v, v ∈ xs → v.length ≤ 9223372036854775807 := by
  intro v hv
  obtain ⟨i, hi, he⟩ := List.mem_iff_getElem.1 hv
  obtain ⟨ad, c, _, _, hK, _⟩ := Kd.C_get h v (i : Int) (by omega) (by omega)
  rw [Int.toNat_natCast, List.getD_eq_getElem?_getD, List.getElem?_eq_getElem hi, he] at hK
  obtain ⟨A1_, c1_, _, _, g0_⟩ := hK
  exact g0_.2.1
set_option maxRecDepth 100000 in
theorem lifted (os : Os) (started : os.Started) (H : Type) (enc : TypeId × Value → H) :
    ReturnsInHanded {} Try.checked os 3 .any (Rows.fnExactCertOkSpec.pre6 enc Try.prog Try.f3 Rows.fnExactCertOkRow.domain false) (Rows.fnExactCertOkSpec.post enc Try.prog Try.f3 false true false false) := by
  refine returnsInHanded_of_change_sized (C := Try.checked) own started (by kernel_rfl) Try.func3
    (ChangeSpec.witness6 (enc := enc) (C := Try.checked) false ⟨#[], #[.agg #[.slice none 0 0, .slice none 0 0]], []⟩ 8 (by kernel_rfl) (by kernel_rfl) (by kernel_rfl) (by kernel_rfl)) ?_
  intro W base args ds gs before hval0 hW hcnd hsz0 _
  have hval : ∀ (j : Nat) t v, Try.f3.params[j]? = some t → args[j]? = some v → Value.okWide Try.prog W .any base t v := hval0
  have hW' := hW
  obtain ⟨p, q, hA0, hV, rfl, hfz, hnd⟩ := hW
  have hA : DataW.TrodAll enc Try.prog W 0 (fun _ => true) true Try.f3.params.toList args.toList ds p := hA0
  rw [Try.params3] at hA hval
  obtain ⟨v0, vs0, d0, ds0, p0, q0, hargs, rfl, rfl, h0, r0⟩ := trodAll_cons hA
  obtain ⟨rfl, rfl, rfl⟩ := trodAll_nil r0
  obtain rfl : args = #[v0] := by cases args; simp_all
  obtain ⟨rfl, rfl⟩ := trodVars_none hV
  have k0 := h0
  have lt0 : ∀ x ∈ p0, x.block < W.heap.size := by obtain ⟨m, hm⟩ := k0; exact DataW.trod_lt m _ _ _ hm
  obtain ⟨x0, hx0, hq0⟩ := Opn.value open25 h0
  obtain ⟨cs0, rfl, _⟩ := okWide_struct Try.underlying25 (hval 0 25 v0 rfl rfl)
  obtain ⟨A0_0, c0_0, A0_1, c0_1, e0, hl0_0, hc0_0, hl0_1, hc0_1⟩ := k25_open hx0
  obtain ⟨cl0⟩ := cs0
  replace e0 : cl0 = _ := e0
  subst e0
  clear hA0 hval0 hsz0
  obtain ⟨k, h⟩ := Pure.FnExactCertOk x0.f0 x0.f1 hc0_0.2.1 hc0_1.2.1 (innerS36_0 hc0_1)
  refine (P.laws_FnExactCertOk.calls k _ _ x0.f0 _ _ x0.f1 true W hc0_0 hl0_0 hc0_1 hl0_1 h).mono fun e W' ⟨he, hd⟩ => ?_
  have bel := hd
  subst he
  exact ⟨_, rfl, _, _, _, [], _, [], hW', trodAll_mk1 (shut_bool Try.underlying4 _), (trodAll_cons_mk (Below.trod laidOut (by kernel_rfl) (of_decide_eq_true (by kernel_rfl)) k0 bel lt0) trodAll_mk0), rfl, bel.frame _, fun h => by cases h⟩
theorem over : Rows.fnExactCertOkRow.holds Try.pinned (OpenSpec.ofChange Rows.fnExactCertOkSpec) :=
  OpenClaim.holds_of_wide 3 Try.f3 rfl rfl rfl rfl rfl rfl rfl ⟨rfl, rfl, rfl, rfl, rfl⟩ rfl rfl rfl rfl rfl (by kernel_rfl) Try.func3 (by kernel_rfl)
    (of_decide_eq_true (by kernel_rfl)) (by unfold Func.isWrapper; first | (rw [if_pos (by decide +kernel)]; kernel_rfl) | (rw [if_neg (by decide +kernel)]; exact ⟨rfl, rfl⟩))
    (fun os started H enc _ => lifted os started H enc)
theorem proved : Rows.FnExactCertOkSaid := over
#print axioms proved
end Go.Proofs.Ytlcfalecbpnhbaa.fnExactCertOk
namespace Go.Proofs.Ytlcfalecbpnhbaa
/-- The row, under a short name, for the claim. -/
theorem fnExactCertOk_holds : Rows.FnExactCertOkSaid := fnExactCertOk.proved
end Go.Proofs.Ytlcfalecbpnhbaa
