/- Plain facts on what the printed functions compute (l1cut). Conditions: each theorem's own. -/
import Derived.Test.YthjpkfcejdddkaaDoorPx4
import Derived.Test.YthjpkfcejdddkaaDoorPx9
import Derived.Test.YthjpkfcejdddkaaDoorFtextinj
import Derived.Test.YthjpkfcejdddkaaDoorPlain
namespace Go.Proofs.YthjpkfcejdddkaaDoor.Pure
open Go.RowKit Go.Proofs.YthjpkfcejdddkaaDoor.P Go.Proofs.YthjpkfcejdddkaaDoorW.PrintWords Go.Proofs.YthjpkfcejdddkaaDoorW.PrintLast Go.Proofs.YthjpkfcejdddkaaDoorW.PrintMore Go.Proofs.YthjpkfcejdddkaaDoorE
set_option linter.unusedVariables false
set_option linter.unusedSimpArgs false

/-- The pieces of a text between the bytes c: at least one. -/
def cutsAt (c : UInt8) : List UInt8 → List (List UInt8)
  | [] => [[]]
  | b :: l => if b = c then [] :: cutsAt c l else match cutsAt c l with
    | [] => [[b]]
    | q :: qs => (b :: q) :: qs
def toB (l : List UInt8) : ByteArray := ⟨l.toArray⟩
def glueB (p : List UInt8) : List (List UInt8) → List ByteArray
  | [] => [toB p]
  | q :: qs => toB (p ++ q) :: qs.map toB
theorem cutsAt_ne (c : UInt8) (l : List UInt8) : ∃ q qs, cutsAt c l = q :: qs := by
  cases l with
  | nil => exact ⟨_, _, rfl⟩
  | cons b l =>
    rw [cutsAt]
    split
    · exact ⟨_, _, rfl⟩
    · split <;> exact ⟨_, _, rfl⟩
theorem bt_at_list (l : List UInt8) (i : Nat) (h : i < l.length) : bt ⟨l.toArray⟩ (i : Int) = ((l[i]'h).toNat : Int) := by
  have hh : ((i : Int)).toNat < (⟨l.toArray⟩ : ByteArray).size := h
  rw [bt, dif_pos hh]
  rfl
theorem u8_eq (a b : UInt8) : ((a.toNat : Int) = (b.toNat : Int)) ↔ a = b := by
  constructor
  · intro h
    exact UInt8.toNat.inj (by omega)
  · rintro rfl
    rfl
theorem l1Cut_loop (s : List UInt8) (c : UInt8) (hs : s.length ≤ 100000) : ∀ (d i : Nat) (a : List ByteArray) (p : List UInt8), i + d = s.length → a.length ≤ i → p.length ≤ i →
    Evt (fun k => spec_l1Cut.l0 k ⟨s.toArray⟩ (c.toNat : Int) (a ++ [toB p]) (i : Int)) (fun r => r = a ++ glueB p (cutsAt c (s.drop i))) := by
  have hsz : (⟨s.toArray⟩ : ByteArray).size = s.length := rfl
  intro d
  induction d with
  | zero =>
    intro i a p hd _ _
    rw [List.drop_eq_nil_of_le (by omega)]
    exact Evt.step (f := fun _ => some (a ++ [toB p])) (fun k => by simp only [spec_l1Cut.l0]; rw [if_neg (by rw [hsz]; omega)]) (Evt.now _ (by simp [cutsAt, glueB]))
  | succ d ih =>
    intro i a p hd ha hp
    have hi : i < s.length := by omega
    have hla : (a ++ [toB p]).length = a.length + 1 := by simp
    obtain ⟨q, qs, hq⟩ := cutsAt_ne c (s.drop (i + 1))
    rw [List.drop_eq_getElem_cons hi, cutsAt]
    by_cases hb : s[i] = c
    · rw [if_pos hb]
      have h := ih (i + 1) (a ++ [toB p]) [] (by omega) (by omega) (by simp)
      rw [hq] at h ⊢
      refine Evt.step (fun k => by
        simp only [spec_l1Cut.l0]
        rw [if_pos (by rw [hsz]; omega), if_pos (by omega), bt_at_list s i hi, if_pos ((u8_eq _ _).2 hb), if_pos (by rw [hla]; omega), wrap_succ (by omega)]; rfl) (h.mono fun r hr => ?_)
      rw [hr]
      simp [glueB]
    · rw [if_neg hb]
      have h := ih (i + 1) a (p ++ [s[i]]) (by omega) (by omega) (by simp; omega)
      rw [hq] at h ⊢
      have ew : wrap64 (((a ++ [toB p]).length : Int) - 1) = (a.length : Int) := by rw [hla, wrap64_small (by omega) (by omega)]; omega
      have er : rdOf ByteArray.empty (a ++ [toB p]) (a.length : Int) = toB p := by simp [rdOf]
      have es : (a ++ [toB p]).set a.length (toB (p ++ [s[i]])) = a ++ [toB (p ++ [s[i]])] := by simp
      have ey : strOfNums [((s[i]).toNat : Int)] = ⟨#[s[i]]⟩ := by
        unfold strOfNums
        simp
      have ez : toB p ++ (⟨#[s[i]]⟩ : ByteArray) = toB (p ++ [s[i]]) := by
        refine ByteArray.ext (Array.toList_inj.1 ?_)
        rw [ByteArray.data_append, Array.toList_append]
        rfl
      have e1 : (⟨#[s[i]]⟩ : ByteArray).size = 1 := rfl
      have e2 : (toB p).size = p.length := rfl
      refine Evt.step (fun k => by
        simp only [spec_l1Cut.l0]
        rw [if_pos (by rw [hsz]; omega), if_pos (by omega), bt_at_list s i hi, if_neg (fun h => hb ((u8_eq _ _).1 h)), ew, if_pos (by omega), if_pos (by rw [hla]; omega), er]
        simp only [Option.bind_some, Int.toNat_natCast]
        rw [ey, if_pos (by rw [e1, e2]; omega), ez, es, wrap_succ (by omega)]) (h.mono fun r hr => ?_)
      rw [hr]
      simp [glueB]
/-- What l1Cut answers. -/
theorem l1Cut_ends (s : List UInt8) (c : UInt8) (hs : s.length ≤ 100000) : Evt (fun k => spec_l1Cut.f k ⟨s.toArray⟩ (c.toNat : Int)) (fun r => r = (cutsAt c s).map toB) := by
  refine (l1Cut_loop s c hs s.length 0 [] [] (by omega) (by simp) (by simp)).mono fun r hr => ?_
  obtain ⟨q, qs, hq⟩ := cutsAt_ne c s
  rw [hr, List.drop_zero, hq]
  simp [glueB]
theorem cutsAt_app {c : UInt8} {a : List UInt8} (h : c ∉ a) (q : List UInt8) : cutsAt c (a ++ c :: q) = a :: cutsAt c q := by
  induction a with
  | nil => simp [cutsAt]
  | cons x a ih =>
    have hx : x ≠ c := fun e => h (e ▸ List.mem_cons_self)
    rw [List.cons_append, cutsAt, if_neg hx, ih (fun hm => h (List.mem_cons_of_mem _ hm))]
theorem cutsAt_none {c : UInt8} {a : List UInt8} (h : c ∉ a) : cutsAt c a = [a] := by
  induction a with
  | nil => rfl
  | cons x a ih =>
    have hx : x ≠ c := fun e => h (e ▸ List.mem_cons_self)
    rw [cutsAt, if_neg hx, ih (fun hm => h (List.mem_cons_of_mem _ hm))]
/-- A chain's text: its lines, and nothing behind the last one's end. -/
theorem cutsAt_txt : ∀ (l : List It), (∀ x ∈ l, itemOk x = true) → cutsAt 10 (impl_ChainText.txt l) = l.map lineOf ++ [[]]
  | [], _ => rfl
  | x :: l, h => by
    have hx := h x List.mem_cons_self
    rw [txt_cons, item_line hx, List.append_assoc, List.singleton_append, cutsAt_app (line_ten hx), cutsAt_txt l (fun y hy => h y (List.mem_cons_of_mem _ hy))]
    rfl

end Go.Proofs.YthjpkfcejdddkaaDoor.Pure
