/- Plain facts on what the printed functions compute (specall). Conditions: each theorem's own. -/
import Derived.Test.YthjpkfcejdddkaaDoorPx4
import Derived.Test.YthjpkfcejdddkaaDoorPx10
import Derived.Test.YthjpkfcejdddkaaDoorFspecline
import Derived.Test.YthjpkfcejdddkaaDoorFreadany
import Derived.Test.YthjpkfcejdddkaaDoorPlain
namespace Go.Proofs.YthjpkfcejdddkaaDoor.Pure
open Go.RowKit Go.Proofs.YthjpkfcejdddkaaDoor.P Go.Proofs.YthjpkfcejdddkaaDoorW.PrintWords Go.Proofs.YthjpkfcejdddkaaDoorW.PrintLast Go.Proofs.YthjpkfcejdddkaaDoorW.PrintMore Go.Proofs.YthjpkfcejdddkaaDoorE
set_option linter.unusedVariables false
set_option linter.unusedSimpArgs false

/-- What a reading answers: a chain whose text it is, or none. -/
def Reads (t : List UInt8) (r : List It × Bool) : Prop := r = ([], false) ∨ ∃ c, chainOk c = true ∧ chainText c = t ∧ r = (c, true)
theorem toB_list (t : List UInt8) : (toB t).toList = t := by simp [ByteArray.toList_eq, toB]
theorem impl_reads (t : List UInt8) (ht : t.length ≤ 900) : Evt (fun k => impl_ChainRead.f k (toB t)) (Reads t) := by
  unfold impl_ChainRead.f
  refine Evt.ite (fun _ => Evt.now _ (.inl rfl)) fun _ => ?_
  obtain ⟨c', h⟩ := read_total (toB t) 900 [] t ht (by simp)
  refine Evt.mono (g := fun k => impl_ChainRead.l0 k (toB t) [] (toB t)) h fun r hr => ?_
  rw [hr]
  split
  · rename_i hc
    split
    · rename_i he
      rw [toB_list] at he
      exact .inr ⟨c', hc, he, rfl⟩
    · exact .inl rfl
  · exact .inl rfl
theorem spec_stop (t : List UInt8) (c : List It) (x5 : List ByteArray) (i : Nat) (hi : i ≤ 100000) (h : x5.length ≤ i + 1) (hc : c.length ≤ 1000) : Evt (fun k => spec_ChainRead.l0 k (toB t) c x5 (i : Int)) (fun r => r = if chainOk c = true then (if chainText c = t then (c, true) else ([], false)) else ([], false)) := by
  refine Evt.step (fun k => by simp only [spec_ChainRead.l0]; rw [wrap_succ (by omega), if_neg (by omega)]) ?_
  refine Evt.bind (chainOk_spec c (by omega)) fun s hs => ?_
  rw [hs]
  refine Evt.ite (fun h => ?_) fun h => Evt.now _ (by rw [if_neg h])
  refine Evt.bind (chainText_spec c (by omega)) fun s hs => ?_
  subst hs
  have e : (⟨(chainText c).toArray⟩ : ByteArray).toList = chainText c := toB_list _
  rw [e, toB_list]
  exact Evt.ite (fun h3 => Evt.now _ (by rw [if_pos h, if_pos h3])) fun h3 => Evt.now _ (by rw [if_pos h, if_neg h3])
theorem rdOf_map (ps : List (List UInt8)) (i : Nat) (h : i < ps.length) : rdOf ByteArray.empty (ps.map toB) (i : Int) = toB (ps[i]'h) := by simp [rdOf, h]
theorem spec_loop (t : List UInt8) (ps : List (List UInt8)) (hps : ps.length ≤ 900) (hp : ∀ p ∈ ps, p.length ≤ 100000) : ∀ (d i : Nat) (c : List It), i + 1 + d = ps.length → c.length ≤ i → Evt (fun k => spec_ChainRead.l0 k (toB t) c (ps.map toB) (i : Int)) (Reads t) := by
  intro d
  induction d with
  | zero =>
    intro i c hd hc
    refine (spec_stop t c (ps.map toB) i (by omega) (by rw [List.length_map]; omega) (by omega)).mono fun r hr => ?_
    rw [hr]
    split
    · rename_i h1
      split
      · rename_i h2; exact .inr ⟨c, h1, h2, rfl⟩
      · exact .inl rfl
    · exact .inl rfl
  | succ d ih =>
    intro i c hd hc
    have hi : i < ps.length := by omega
    have hlen : (ps.map toB).length = ps.length := List.length_map ..
    refine Evt.step (fun k => by simp only [spec_ChainRead.l0]; rw [wrap_succ (by omega), if_pos (by rw [hlen]; omega), if_pos (by omega), if_pos (by rw [hlen]; omega), rdOf_map ps i hi]) ?_
    refine Evt.bind (l1Cut_ends (ps[i]) 58 (hp _ (List.getElem_mem hi))) fun z hz => ?_
    subst hz
    by_cases h2 : (((cutsAt 58 (ps[i])).map toB).length : Int) = 2
    case neg => exact Evt.neg h2 (Evt.now _ (.inl rfl))
    have hl2 : (cutsAt 58 (ps[i])).length = 2 := by rw [List.length_map] at h2; omega
    obtain ⟨n, hn⟩ := l1Dec_ends ((cutsAt 58 (ps[i]))[0]'(by omega))
    obtain ⟨q, hq⟩ := l1Pay_ends ((cutsAt 58 (ps[i]))[1]'(by omega))
    have r0 := rdOf_map (cutsAt 58 (ps[i])) 0 (by omega)
    have r1 := rdOf_map (cutsAt 58 (ps[i])) 1 (by omega)
    refine Evt.pos h2 (Evt.pos (by omega) ?_)
    have r0' : rdOf ByteArray.empty ((cutsAt 58 (ps[i])).map toB) 0 = _ := r0
    have r1' : rdOf ByteArray.empty ((cutsAt 58 (ps[i])).map toB) 1 = _ := r1
    rw [r0', r1']
    refine Evt.bind hn fun a ha => ?_
    refine Evt.pos (by omega) (Evt.bind hq fun b hb => Evt.pos (by omega) ?_)
    exact ih (i + 1) _ (by omega) (by simp only [List.length_append, List.length_cons, List.length_nil]; omega)
theorem cutsAt_len (c : UInt8) : ∀ l : List UInt8, (cutsAt c l).length ≤ l.length + 1 ∧ ∀ p ∈ cutsAt c l, p.length ≤ l.length
  | [] => ⟨by simp [cutsAt], by simp [cutsAt]⟩
  | b :: l => by
    obtain ⟨h1, h2⟩ := cutsAt_len c l
    obtain ⟨q, qs, hq⟩ := cutsAt_ne c l
    rw [cutsAt, hq]
    rw [hq] at h1 h2
    split
    · refine ⟨by simp at h1 ⊢; omega, fun p hp => ?_⟩
      rcases List.mem_cons.1 hp with rfl | hp
      · simp
      · have := h2 p hp; simp; omega
    · refine ⟨by simp at h1 ⊢; omega, fun p hp => ?_⟩
      rcases List.mem_cons.1 hp with rfl | hp
      · have := h2 q List.mem_cons_self; simp; omega
      · have := h2 p (List.mem_cons_of_mem _ hp); simp; omega
theorem spec_reads (t : List UInt8) (ht : t.length ≤ 800) : Evt (fun k => spec_ChainRead.f k (toB t)) (Reads t) := by
  unfold spec_ChainRead.f
  simp only [Option.bind_some]
  refine Evt.ite (fun _ => Evt.now _ (.inl rfl)) fun _ => ?_
  refine Evt.bind (P := fun r => r = (cutsAt 10 t).map toB) (l1Cut_ends t 10 (by omega)) fun z hz => ?_
  subst hz
  obtain ⟨h1, h2⟩ := cutsAt_len 10 t
  obtain ⟨q, qs, hq⟩ := cutsAt_ne 10 t
  exact spec_loop t (cutsAt 10 t) (by omega) (fun p hp => by have := h2 p hp; omega) ((cutsAt 10 t).length - 1) 0 [] (by rw [hq]; simp; omega) (by simp)

end Go.Proofs.YthjpkfcejdddkaaDoor.Pure
