/- Plain facts on what the printed functions compute (eqints marks). Conditions: each theorem's own. -/
import Derived.Test.YtkkfokcbbhnjeaaPx3
import Derived.Test.YtkkfokcbbhnjeaaPlain
namespace Go.Proofs.Ytkkfokcbbhnjeaa.Pure
open Go.RowKit Go.Proofs.Ytkkfokcbbhnjeaa.P Go.Proofs.YtkkfokcbbhnjeaaW.PrintWords Go.Proofs.YtkkfokcbbhnjeaaW.PrintLast Go.Proofs.YtkkfokcbbhnjeaaW.PrintMore Go.Proofs.YtkkfokcbbhnjeaaE
set_option linter.unusedVariables false
set_option linter.unusedSimpArgs false

theorem eqIntS_ends (a b : List Int) (hl : a.length ≤ 4611686018427387900) : Evt (fun k => laws_eqIntS.f k a b) (fun r => r = decide (a = b)):=by
  by_cases h : (a.length : Int) = (b.length : Int)
  · have hn : a.length = b.length:=by omega
    have key : ∀ (d i : Nat),i + d = a.length → Evt (fun k => laws_eqIntS.l0 k a b (i : Int)) (fun r => r = decide (a.drop i = b.drop i)):=by
      intro d
      induction d with
      | zero =>
        intro i hd
        refine Evt.step (f:=fun _ => some true) (fun k => by simp only [laws_eqIntS.l0];rw [if_neg (by omega)]) (Evt.now _ ?_)
        rw [List.drop_eq_nil_of_le (by omega),List.drop_eq_nil_of_le (by omega)]
        simp
      | succ d ih =>
        intro i hd
        rw [drop_rd (l:=a) (i:=i) (by omega),drop_rd (l:=b) (i:=i) (by omega)]
        by_cases hx : rd a (i : Int) = rd b (i : Int)
        · refine Evt.step (f:=fun k => laws_eqIntS.l0 k a b ((i + 1 : Nat) : Int)) (fun k => by
            simp only [laws_eqIntS.l0]
            rw [if_pos (by omega),if_pos (by omega),if_pos (by omega),if_pos hx,wrap_succ (by omega)]) ?_
          refine (ih (i + 1) (by omega)).mono (fun r hr => ?_)
          rw [hr]
          simp [hx]
        · refine Evt.step (f:=fun _ => some false) (fun k => by
            simp only [laws_eqIntS.l0]
            rw [if_pos (by omega),if_pos (by omega),if_pos (by omega),if_neg hx]) (Evt.now _ ?_)
          simp [hx]
    refine (Evt.congr (fun k => by unfold laws_eqIntS.f;rw [if_pos h];rfl) (key a.length 0 (by omega))).mono (fun r hr => ?_)
    simpa using hr
  · refine Evt.congr (fun k => by unfold laws_eqIntS.f;rw [if_neg h]) (Evt.now _ ?_)
    have : a ≠ b:=by
      rintro rfl
      exact h rfl
    simp [this]
/-- Numbers from a on. -/
def ups (a : Int) : Nat → List Int
  | 0 => []
  | n + 1 => a :: ups (a + 1) n
theorem ups_length (n : Nat) : ∀ a,(ups a n).length = n:=by
  induction n with
  | zero => intro a;rfl
  | succ n ih => intro a;rw [ups,List.length_cons,ih]
theorem ups_get (n : Nat) : ∀ (a : Int) (i : Nat),i < n → (ups a n)[i]? = some (a + (i : Int)):=by
  induction n with
  | zero => intro a i h;omega
  | succ n ih =>
    intro a i h
    cases i with
    | zero => rw [ups];simp
    | succ i =>
      rw [ups,List.getElem?_cons_succ,ih (a + 1) i (by omega)]
      congr 1
      omega
theorem ups_rd {a : Int} {n i : Nat} (h : i < n) : rd (ups a n) (i : Int) = a + (i : Int):=by
  have h1:=ups_get n a i h
  have h2:=rd_get (l:=ups a n) (i:=i) (by rw [ups_length];exact h)
  rw [h1] at h2
  exact (Option.some.inj h2).symm
theorem markIntS_ends (l : List Int) (a : Int) (h0 : 0 ≤ a) (h1 : a ≤ 1000000000) (hl : l.length ≤ 1048576) : Evt (fun k => laws_markIntS.f k l a) (fun r => r = (a + (l.length : Int),ups a l.length)):=by
  have key : ∀ (d i : Nat) (x : List Int),i + d = l.length → x.length = l.length → x.take i = (ups a l.length).take i → Evt (fun k => laws_markIntS.l0 k x (a + (i : Int)) (i : Int)) (fun r => r = (a + (l.length : Int),ups a l.length)):=by
    intro d
    induction d with
    | zero =>
      intro i x hd hx ht
      have e : i = l.length:=by omega
      subst e
      refine Evt.step (f:=fun _ => some (a + (l.length : Int),x)) (fun k => by simp only [laws_markIntS.l0];rw [if_neg (by omega)]) (Evt.now _ ?_)
      rw [List.take_of_length_le (by omega),List.take_of_length_le (by rw [ups_length];omega)] at ht
      rw [ht]
    | succ d ih =>
      intro i x hd hx ht
      have w : wrap64 (a + (i : Int) + 1) = a + ((i + 1 : Nat) : Int):=by unfold wrap64;omega
      refine Evt.step (fun k => by simp only [laws_markIntS.l0,w];rw [if_pos (by omega),if_pos (by omega),wrap_succ (by omega),Int.toNat_natCast]) ?_
      exact ih (i + 1) _ (by omega) (by rw [List.length_set];exact hx) (take_set_succ (by rw [ups_length,hx]) (by rw [ups_length];omega) ht (ups_get _ _ _ (by omega)))
  simp only [laws_markIntS.f]
  have:=key l.length 0 l (by omega) rfl (by simp)
  simpa using this
theorem heldIntS_ends (n : Nat) (a : Int) (h0 : 0 ≤ a) (h1 : a ≤ 1000000000) (hl : n ≤ 1048576) : Evt (fun k => laws_heldIntS.f k (ups a n) a) (fun r => r = a + (n : Int)):=by
  have hn:=ups_length n a
  have key : ∀ (d i : Nat),i + d = n → Evt (fun k => laws_heldIntS.l0 k (ups a n) (a + (i : Int)) (i : Int)) (fun r => r = a + (n : Int)):=by
    intro d
    induction d with
    | zero =>
      intro i hd
      have e : i = n:=by omega
      subst e
      exact Evt.step (f:=fun _ => some (a + (i : Int))) (fun k => by simp only [laws_heldIntS.l0];rw [if_neg (by omega)]) (Evt.now _ rfl)
    | succ d ih =>
      intro i hd
      have w : wrap64 (a + (i : Int) + 1) = a + ((i + 1 : Nat) : Int):=by unfold wrap64;omega
      refine Evt.step (fun k => by simp only [laws_heldIntS.l0,w];rw [if_pos (by omega),if_pos (by omega),if_pos (ups_rd (by omega)),wrap_succ (by omega)]) ?_
      exact ih (i + 1) (by omega)
  simp only [laws_heldIntS.f]
  have:=key n 0 (by omega)
  simpa using this

end Go.Proofs.Ytkkfokcbbhnjeaa.Pure
