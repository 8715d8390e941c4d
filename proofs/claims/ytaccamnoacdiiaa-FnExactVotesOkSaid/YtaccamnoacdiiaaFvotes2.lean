/- Plain facts on what the printed functions compute (votes2). Conditions: each theorem's own. -/
import Derived.Test.YtaccamnoacdiiaaPx0
import Derived.Test.YtaccamnoacdiiaaPx16
import Derived.Test.YtaccamnoacdiiaaPx23
import Derived.Test.YtaccamnoacdiiaaPx28
import Derived.Test.YtaccamnoacdiiaaPx33
import Derived.Test.YtaccamnoacdiiaaFvotes
import Derived.Test.YtaccamnoacdiiaaFvotes1
import Derived.Test.YtaccamnoacdiiaaPlain
namespace Go.Proofs.Ytaccamnoacdiiaa.Pure
open Go.RowKit Go.Proofs.Ytaccamnoacdiiaa.P Go.Proofs.YtaccamnoacdiiaaW.PrintWords Go.Proofs.YtaccamnoacdiiaaW.PrintLast Go.Proofs.YtaccamnoacdiiaaW.PrintMore Go.Proofs.YtaccamnoacdiiaaE
set_option linter.unusedVariables false
set_option linter.unusedSimpArgs false

abbrev LVt := S32
def toVt (v : LVt) : Vt := ⟨v.f0, v.f1.map toIt⟩
theorem rdLVt_get {l : List LVt} {i : Nat} {x : LVt} (h : l[i]? = some x) : rd_T32 l (i : Int) = x := by
  show l.getD ((i : Int)).toNat _ = x
  rw [Int.toNat_natCast, List.getD_eq_getElem?_getD, h]
  rfl
/-- What is left of n, behind all of a list of votes; or it is below nothing. -/
theorem szVoteS_ends (l : List LVt) (n : Int) (h0 : 0 ≤ n) (h1 : n ≤ 1048576) (hl : l.length ≤ 9223372036854775807) (hb : ∀ v, v ∈ l → v.f1.length ≤ 9223372036854775807) :
    Evt (fun k => laws_szVoteS.f k l n) (fun r => r ≤ n ∧ (0 ≤ r → l.length ≤ 1048576 ∧ ∀ v, v ∈ l → v.f1.length ≤ 1048576)) := by
  have hw : wrap64 (n - (l.length : Int)) = n - (l.length : Int) := by unfold wrap64; omega
  simp only [laws_szVoteS.f, hw]
  refine Evt.ite (fun h => Evt.now _ ⟨by omega, fun h => absurd h (by omega)⟩) fun h => ?_
  have key : ∀ (d i : Nat) (m : Int), i + d = l.length → 0 ≤ m → m ≤ n → (∀ v, v ∈ l.take i → v.f1.length ≤ 1048576) → Evt (fun k => laws_szVoteS.l0 k l m (i : Int)) (fun r => r ≤ n ∧ (0 ≤ r → l.length ≤ 1048576 ∧ ∀ v, v ∈ l → v.f1.length ≤ 1048576)) := by
    intro d
    induction d with
    | zero =>
      intro i m hd hm0 hm1 hA
      rw [List.take_of_length_le (by omega)] at hA
      exact Evt.step (f := fun _ => some m) (fun k => by simp only [laws_szVoteS.l0]; rw [if_neg (by omega)]) (Evt.now _ ⟨hm1, fun _ => ⟨by omega, hA⟩⟩)
    | succ d ih =>
      intro i m hd hm0 hm1 hA
      have hi : i < l.length := by omega
      have he : l[i]? = some l[i] := List.getElem?_eq_getElem hi
      have hmem : l[i] ∈ l := List.getElem_mem hi
      have hlen := hb _ hmem
      by_cases hle : m - (l[i].f1.length : Int) < 0
      · refine Evt.step (f := fun _ => some (-1)) (fun k => ?_) (Evt.now _ ⟨by omega, fun h => absurd h (by omega)⟩)
        simp only [laws_szVoteS.l0]
        rw [if_pos (by omega), if_pos (by omega), rdLVt_get he]
        simp only [laws_szVote.f]
        rw [szItemS_eq _ m hm0 (by omega) hlen, if_pos hle]
        rfl
      · refine Evt.step (f := fun k => laws_szVoteS.l0 k l (m - (l[i].f1.length : Int)) ((i + 1 : Nat) : Int)) (fun k => ?_) (ih (i + 1) (m - (l[i].f1.length : Int)) (by omega) (by omega) (by omega) ?_)
        · simp only [laws_szVoteS.l0]
          rw [if_pos (by omega), if_pos (by omega), rdLVt_get he]
          simp only [laws_szVote.f]
          rw [szItemS_eq _ m hm0 (by omega) hlen, if_neg hle]
          simp only [Option.bind_some]
          rw [if_neg hle, wrap_succ (by omega)]
          simp only [Option.bind_some]
          rw [if_neg hle]
        · intro v hv
          rw [List.take_add_one, he] at hv
          rcases List.mem_append.1 hv with hv | hv
          · exact hA v hv
          · have : v = l[i] := by simpa using hv
            rw [this]; omega
  exact key l.length 0 _ (by omega) (by omega) (by omega) (by simp)
theorem toVoteS_ends (l : List LVt) (hl : l.length ≤ 1048576) (hb : ∀ v, v ∈ l → v.f1.length ≤ 1048576) : Evt (fun k => laws_toVoteS.f k l) (fun r => r = l.map toVt) := by
  have key : ∀ (d i : Nat) (x : List Vt), i + d = l.length → x.length = l.length → x.take i = (l.map toVt).take i → Evt (fun k => laws_toVoteS.l0 k l x (i : Int)) (fun r => r = l.map toVt) := by
    intro d
    induction d with
    | zero =>
      intro i x hd hx ht
      refine Evt.step (f := fun _ => some x) (fun k => by simp only [laws_toVoteS.l0]; rw [if_neg (by omega)]) (Evt.now _ ?_)
      rw [List.take_of_length_le (by omega), List.take_of_length_le (by rw [List.length_map]; omega)] at ht
      exact ht
    | succ d ih =>
      intro i x hd hx ht
      have hi : i < l.length := by omega
      have he : l[i]? = some l[i] := List.getElem?_eq_getElem hi
      refine Evt.step (fun k => by
        simp only [laws_toVoteS.l0]
        rw [if_pos (by omega), if_pos (by omega), rdLVt_get he, wrap_succ (by omega), Int.toNat_natCast]) ?_
      refine Evt.bind (toVote_ends _ _ (hb _ (List.getElem_mem hi))) fun a ha => ?_
      subst ha
      refine Evt.pos (by omega) (ih (i + 1) _ (by omega) (by simpa using hx) ?_)
      exact take_set_succ (by rw [List.length_map, hx]) (by rw [List.length_map]; exact hi) ht (by rw [List.getElem?_map, he]; rfl)
  simp only [laws_toVoteS.f]
  refine Evt.pos (by omega) (Evt.pos (by omega) ?_)
  rw [Int.toNat_natCast]
  exact key l.length 0 _ (by omega) (by simp) (by simp)
theorem vt_ext {x y : Vt} (h0 : x.f0 = y.f0) (h1 : x.f1 = y.f1) : x = y := by
  cases x; cases y; simp only at h0 h1; rw [h0, h1]
theorem eqVoteS_ends (a b : List Vt) (hl : a.length ≤ 4611686018427387900) (hb : ∀ v, v ∈ a → v.f1.length ≤ 4611686018427387900) : Evt (fun k => laws_eqVoteS.f k a b) (fun r => r = decide (a = b)) := by
  simp only [laws_eqVoteS.f]
  refine Evt.ite (fun hab => ?_) fun hab => Evt.now _ (decide_eq_false fun e => hab (by rw [e])).symm
  have key : ∀ (d i : Nat), i + d = a.length → Evt (fun k => laws_eqVoteS.l0 k a b (i : Int)) (fun r => r = decide (a.drop i = b.drop i)) := by
    intro d
    induction d with
    | zero =>
      intro i hd
      rw [List.drop_eq_nil_of_le (by omega), List.drop_eq_nil_of_le (by omega)]
      exact Evt.step (f := fun _ => some true) (fun k => by simp only [laws_eqVoteS.l0]; rw [if_neg (by omega)]) (Evt.now _ (by simp))
    | succ d ih =>
      intro i hd
      have hi : i < a.length := by omega
      have hi2 : i < b.length := by omega
      rw [drop_vt hi, drop_vt hi2]
      refine Evt.step (fun k => by simp only [laws_eqVoteS.l0]; rw [if_pos (by omega), if_pos (by omega), if_pos (by omega), wrap_succ (by omega)]) ?_
      refine Evt.bind (eqVote_ends _ _ _ _ (hb _ (rdVt_mem hi))) fun t ht => ?_
      refine Evt.ite (fun h => (ih (i + 1) (by omega)).mono fun r hr => ?_) fun h => Evt.now _ ?_
      · rw [ht] at h
        simp only [Bool.and_eq_true, decide_eq_true_iff] at h
        rw [hr, vt_ext h.1 h.2]
        exact decide_eq_decide.2 ⟨fun e => by rw [e], fun e => (List.cons.inj e).2⟩
      · refine (decide_eq_false fun e => h ?_).symm
        have e1 := (List.cons.inj e).1
        rw [ht, e1]
        simp
  exact key a.length 0 (by omega)

end Go.Proofs.Ytaccamnoacdiiaa.Pure
