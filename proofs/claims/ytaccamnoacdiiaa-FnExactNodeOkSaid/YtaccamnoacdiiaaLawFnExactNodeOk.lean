/- The row FnExactNodeOk: for every input the law's function returns true, and each argument reads as it did. Conditions: none but the row's own. It joins the printed contracts and the plain part. -/
import Derived.Test.YtaccamnoacdiiaaRows
import Derived.Test.YtaccamnoacdiiaaPx11
import Derived.Test.YtaccamnoacdiiaaPureFnExactNodeOk
import Derived.Test.YtaccamnoacdiiaaOpen
import Derived.WalkKit
import Derived.ProofKit
import Derived.OpenShut
import Derived.ShutString
import Derived.ChangeOld
import Derived.Below
import Derived.SizedLaws
namespace Go.Proofs.Ytaccamnoacdiiaa.fnExactNodeOk
open Go.ChangeShapes Go.WideShapes Go.ChangeAt Go.RowKit Go.Proofs.YtaccamnoacdiiaaE Go.Proofs.YtaccamnoacdiiaaW.PrintWords Go.Proofs.Ytaccamnoacdiiaa.P
open Go.ChangeMaps (open_string shut_string)
set_option linter.unusedVariables false
theorem own : ownKnob Try.prog.godebug = none := by kernel_rfl
theorem laidOut : laidOutB Try.prog = true := by kernel_rfl
theorem open84 {H : Type} {enc : TypeId × Value → H} : Opn enc Try.prog 84 k84 (fun _ => True) := by
  unfold k84
  exact Opn.weak (Opn.struct Try.underlying84 (by kernel_rfl) (fun ⟨a0_, a1_, a2_⟩ => ⟨⟨a0_, a1_, a2_⟩, rfl⟩) (OpnF.cons rfl (Opn.int Try.underlying3 (by kernel_rfl)) (OpnF.cons rfl (Opn.int Try.underlying3 (by kernel_rfl)) (OpnF.last rfl (Opn.int Try.underlying3 (by kernel_rfl))))))
theorem open86 {H : Type} {enc : TypeId × Value → H} : Opn enc Try.prog 86 k86 (fun _ => True) := by
  unfold k86
  exact Opn.weak (Opn.struct Try.underlying86 (by kernel_rfl) (fun ⟨a0_, a1_⟩ => ⟨⟨a0_, a1_⟩, rfl⟩) (OpnF.cons rfl (Opn.int Try.underlying3 (by kernel_rfl)) (OpnF.last rfl open84)))
theorem open32 {H : Type} {enc : TypeId × Value → H} : Opn enc Try.prog 32 k32 (fun _ => True) := by
  unfold k32
  exact Opn.weak (Opn.struct Try.underlying32 (by kernel_rfl) (fun ⟨a0_, a1_⟩ => ⟨⟨a0_, a1_⟩, rfl⟩) (OpnF.cons rfl (Opn.int Try.underlying3 (by kernel_rfl)) (OpnF.last rfl (Opn.slice Try.underlying30 (by kernel_rfl) open86))))
theorem open54 {H : Type} {enc : TypeId × Value → H} : Opn enc Try.prog 54 k54 (fun _ => True) := by
  unfold k54
  exact Opn.weak (Opn.struct Try.underlying54 (by kernel_rfl) (fun ⟨a0_, a1_, a2_, a3_⟩ => ⟨⟨a0_, a1_, a2_, a3_⟩, rfl⟩) (OpnF.cons rfl (Opn.int Try.underlying3 (by kernel_rfl)) (OpnF.cons rfl (Opn.int Try.underlying3 (by kernel_rfl)) (OpnF.cons rfl (Opn.int Try.underlying3 (by kernel_rfl)) (OpnF.last rfl (Opn.slice Try.underlying45 (by kernel_rfl) open32))))))
theorem innerT32_0 {w : World} {A : Option Addr} {xs : List (S32)} (h : Kd.C k32 w A xs.length xs) : ∀ v, v ∈ xs → v.f1.length ≤ 9223372036854775807 := by
  intro v hv
  obtain ⟨i, hi, he⟩ := List.mem_iff_getElem.1 hv
  obtain ⟨ad, c, _, _, hK, _⟩ := Kd.C_get h v (i : Int) (by omega) (by omega)
  rw [Int.toNat_natCast, List.getD_eq_getElem?_getD, List.getElem?_eq_getElem hi, he] at hK
  obtain ⟨A0_, c0_, _, _, g0_⟩ := k32_open hK
  exact g0_.2.1
set_option maxRecDepth 100000 in
theorem lifted (os : Os) (started : os.Started) (H : Type) (enc : TypeId × Value → H) :
    ReturnsInHanded {} Try.checked os 8 .any (Rows.fnExactNodeOkSpec.pre6 enc Try.prog Try.f8 Rows.fnExactNodeOkRow.domain false) (Rows.fnExactNodeOkSpec.post enc Try.prog Try.f8 false true false false) := by
  refine returnsInHanded_of_change_sized (C := Try.checked) own started (by kernel_rfl) Try.func8
    (ChangeSpec.witness6 (enc := enc) (C := Try.checked) false ⟨#[], #[.agg #[.int .i64 0, .int .i64 0, .int .i64 0, .slice none 0 0]], []⟩ 8 (by kernel_rfl) (by kernel_rfl) (by kernel_rfl) (by kernel_rfl)) ?_
  intro W base args ds gs before hval0 hW hcnd hsz0 _
  have hval : ∀ (j : Nat) t v, Try.f8.params[j]? = some t → args[j]? = some v → Value.okWide Try.prog W .any base t v := hval0
  have hW' := hW
  obtain ⟨p, q, hA0, hV, rfl, hfz, hnd⟩ := hW
  have hA : DataW.TrodAll enc Try.prog W 0 (fun _ => true) true Try.f8.params.toList args.toList ds p := hA0
  rw [Try.params8] at hA hval
  obtain ⟨v0, vs0, d0, ds0, p0, q0, hargs, rfl, rfl, h0, r0⟩ := trodAll_cons hA
  obtain ⟨rfl, rfl, rfl⟩ := trodAll_nil r0
  obtain rfl : args = #[v0] := by cases args; simp_all
  obtain ⟨rfl, rfl⟩ := trodVars_none hV
  have k0 := h0
  have lt0 : ∀ x ∈ p0, x.block < W.heap.size := by obtain ⟨m, hm⟩ := k0; exact DataW.trod_lt m _ _ _ hm
  obtain ⟨x0, hx0, hq0⟩ := Opn.value open54 h0
  obtain ⟨cs0, rfl, _⟩ := okWide_struct Try.underlying54 (hval 0 54 v0 rfl rfl)
  obtain ⟨A0_3, c0_3, e0, hl0_3, hc0_3⟩ := k54_open hx0
  obtain ⟨cl0⟩ := cs0
  replace e0 : cl0 = _ := e0
  subst e0
  clear hA0 hval0 hsz0
  obtain ⟨k, h⟩ := Pure.FnExactNodeOk x0.f0 x0.f1 x0.f2 x0.f3 hc0_3.2.1 (innerT32_0 hc0_3)
  refine (P.laws_FnExactNodeOk.calls k x0.f0 x0.f1 x0.f2 _ _ x0.f3 true W hc0_3 hl0_3 h).mono fun e W' ⟨he, hd⟩ => ?_
  have bel := hd
  subst he
  exact ⟨_, rfl, _, _, _, [], _, [], hW', trodAll_mk1 (shut_bool Try.underlying4 _), (trodAll_cons_mk (Below.trod laidOut (by kernel_rfl) (of_decide_eq_true (by kernel_rfl)) k0 bel lt0) trodAll_mk0), rfl, bel.frame _, fun h => by cases h⟩
theorem over : Rows.fnExactNodeOkRow.holds Try.pinned (OpenSpec.ofChange Rows.fnExactNodeOkSpec) :=
  OpenClaim.holds_of_wide 8 Try.f8 rfl rfl rfl rfl rfl rfl rfl ⟨rfl, rfl, rfl, rfl, rfl⟩ rfl rfl rfl rfl rfl (by kernel_rfl) Try.func8 (by kernel_rfl)
    (of_decide_eq_true (by kernel_rfl)) (by unfold Func.isWrapper; first | (rw [if_pos (by decide +kernel)]; kernel_rfl) | (rw [if_neg (by decide +kernel)]; exact ⟨rfl, rfl⟩))
    (fun os started H enc _ => lifted os started H enc)
theorem proved : Rows.FnExactNodeOkSaid := over
#print axioms proved
end Go.Proofs.Ytaccamnoacdiiaa.fnExactNodeOk
namespace Go.Proofs.Ytaccamnoacdiiaa
/-- The row, under a short name, for the claim. -/
theorem fnExactNodeOk_holds : Rows.FnExactNodeOkSaid := fnExactNodeOk.proved
end Go.Proofs.Ytaccamnoacdiiaa
