/- A text is read by the program just as by the reference, and what is read has just that text. The plain part: what the printed functions compute answers true. Conditions: the argument fits the machine, as the row says. -/
import Derived.Test.YthjpkfcejdddkaaDoorPx4
import Derived.Test.YthjpkfcejdddkaaDoorPx5
import Derived.Test.YthjpkfcejdddkaaDoorPx10
import Derived.Test.YthjpkfcejdddkaaDoorPx11
import Derived.Test.YthjpkfcejdddkaaDoorPx12
import Derived.Test.YthjpkfcejdddkaaDoorFlwsame
import Derived.Test.YthjpkfcejdddkaaDoorFdraws
import Derived.Test.YthjpkfcejdddkaaDoorFreadany
import Derived.Test.YthjpkfcejdddkaaDoorFl1cut
import Derived.Test.YthjpkfcejdddkaaDoorFspecread
import Derived.Test.YthjpkfcejdddkaaDoorFspecline
import Derived.Test.YthjpkfcejdddkaaDoorFspecall
import Derived.Test.YthjpkfcejdddkaaDoorFspectext
import Derived.Test.YthjpkfcejdddkaaDoorPlain
namespace Go.Proofs.YthjpkfcejdddkaaDoor.Pure
open Go.RowKit Go.Proofs.YthjpkfcejdddkaaDoor.P Go.Proofs.YthjpkfcejdddkaaDoorW.PrintWords Go.Proofs.YthjpkfcejdddkaaDoorW.PrintLast Go.Proofs.YthjpkfcejdddkaaDoorW.PrintMore Go.Proofs.YthjpkfcejdddkaaDoorE
set_option linter.unusedVariables false
set_option linter.unusedSimpArgs false

theorem txt_brief (c : List It) (hi : ∀ x ∈ c, itemOk x = true) : (impl_ChainText.txt c).length ≤ 10 * c.length := by
  induction c with
  | nil => simp [impl_ChainText.txt]
  | cons x c ih =>
    have hx := hi x List.mem_cons_self
    obtain ⟨h0, _⟩ := itemOk_bounds hx
    have := ih (fun y hy => hi y (List.mem_cons_of_mem _ hy))
    have hd := dec_size (n := x.f0) (by omega) (by omega)
    have e : (impl_ChainText.dec x.f0).size = (Lib.decDigits x.f0.toNat).length := rfl
    rw [txt_cons, item_line hx, List.length_append, List.length_append, lineOf, List.length_append, List.length_cons]
    simp only [List.length_cons, List.length_nil]
    omega
theorem drawRead_ends {l : List Int} (hl : ∀ x ∈ l, 0 ≤ x ∧ x ≤ 255) : Evt (fun k => spec_DrawChainRead.f k l) (fun r => r.size ≤ 700) := by
  simp only [spec_DrawChainRead.f]
  obtain ⟨l', e, hl'⟩ := open_bytes hl
  rw [e]
  simp only [Option.bind_some]
  refine Evt.bind (off_ends hl' 0 (by omega) (by omega)) fun r hr => ?_
  obtain ⟨hr1, hr2, hr3⟩ := hr
  refine Evt.bind (chainText_spec r.1 (by omega)) fun s hs => ?_
  have hsz : s.size ≤ 200 := by
    rw [hs]
    show (chainText r.1).length ≤ 200
    rw [chainText]
    split
    · rename_i hc
      have := txt_brief r.1 (chainOk_items hc)
      omega
    · simp
  have ew : wrap64 ((s.size : Int) + 1) = (s.size : Int) + 1 := wrap64_small (by omega) (by omega)
  rw [ew]
  refine Evt.bind (pick_ends hl' r.2 _ (by omega) (by omega)) fun a ha => ?_
  have hx := ha
  refine Evt.bind (pick_ends hl' a.2 8 (by omega) (by omega)) fun b hb => ?_
  refine Evt.ite (fun _ => Evt.pos (by omega) (Evt.pos (by omega) (Evt.now _ (by rw [ByteArray.size_extract]; omega)))) fun _ => ?_
  refine Evt.ite (fun _ => Evt.pos (by omega) (Evt.pos (by omega) ?_)) fun _ => Evt.now _ (by omega)
  have hof : Evt (fun k => spec_l6Rd_of.f k l' b.2 [(⟨#[48]⟩ : ByteArray), (⟨#[58]⟩ : ByteArray), (⟨#[10]⟩ : ByteArray), (⟨#[49]⟩ : ByteArray), (⟨#[57, 58, 49, 50, 51, 10]⟩ : ByteArray)]) (fun r => r.1.size ≤ 10) := by
    unfold spec_l6Rd_of.f
    refine Evt.bind (pick_ends hl' b.2 _ (by omega) (by omega)) fun d hd => ?_
    have h5 : (([(⟨#[48]⟩ : ByteArray), (⟨#[58]⟩ : ByteArray), (⟨#[10]⟩ : ByteArray), (⟨#[49]⟩ : ByteArray), (⟨#[57, 58, 49, 50, 51, 10]⟩ : ByteArray)] : List ByteArray).length : Int) = 5 := rfl
    rw [h5] at hd ⊢
    refine Evt.pos (by omega) (Evt.pos (by omega) (Evt.now _ ?_))
    have : d.1 = 0 ∨ d.1 = 1 ∨ d.1 = 2 ∨ d.1 = 3 ∨ d.1 = 4 := by omega
    rcases this with h | h | h | h | h <;> (rw [h]; show (ByteArray.size _) ≤ 10; simp only [rdOf]; decide)
  refine Evt.bind hof fun d hd => ?_
  refine Evt.pos (by rw [ByteArray.size_extract]; omega) (Evt.pos (by simp only [ByteArray.size_append, ByteArray.size_extract]; omega) (Evt.now _ ?_))
  simp only [ByteArray.size_append, ByteArray.size_extract]
  omega
theorem strict_end (t : ByteArray) (c : List It) (b : Bool) (hc : c.length ≤ 1000) : Evt (fun k => laws_FnChainStrict.j0 k t c b c b true) (fun r => r = true) := by
  refine Evt.step (fun k => by simp only [laws_FnChainStrict.j0]; rw [if_pos trivial]) ?_
  exact Evt.pos (by simp) (Evt.bind (lwSame_ends c c (by omega)) fun s hs => Evt.now _ (by rw [hs]; simp))
theorem FnChainStrict : laws_FnChainStrict.Pure := by
  intro l _ hw
  have hl := bytes_of hw
  refine Evt.get ?_
  simp only [laws_FnChainStrict.f]
  refine Evt.ite (fun _ => Evt.now _ rfl) fun h => ?_
  refine Evt.bind (drawRead_ends hl) fun s hs => ?_
  obtain ⟨⟨t⟩⟩ := s
  have ht : t.length ≤ 700 := hs
  have both : ∀ r, Evt (fun k => spec_ChainRead.f k (toB t)) (fun x => x = r) → Evt (fun k => impl_ChainRead.f k (toB t)) (fun x => x = r) → (r.2 = true → chainOk r.1 = true ∧ chainText r.1 = t) → r.1.length ≤ 1000 → Evt (fun n => (spec_ChainRead.f n (toB t)).bind fun bt305 => (impl_ChainRead.f n (toB t)).bind fun bt309 => if (bt309.2 != bt305.2) = true then laws_FnChainStrict.j0 n (toB t) bt305.1 bt305.2 bt309.1 bt309.2 true else (laws_lwSame.f n bt309.1 bt305.1).bind fun t313 => if t313 = true then laws_FnChainStrict.j0 n (toB t) bt305.1 bt305.2 bt309.1 bt309.2 (!bt309.2) else laws_FnChainStrict.j0 n (toB t) bt305.1 bt305.2 bt309.1 bt309.2 true) (fun r => r = true) := by
    intro r h1 h2 h3 h4
    refine Evt.bind h1 fun x hx => ?_
    subst hx
    refine Evt.bind h2 fun y hy => ?_
    subst hy
    refine Evt.neg (by simp) (Evt.bind (lwSame_ends _ _ (by omega)) fun z hz => ?_)
    refine Evt.pos (by rw [hz]; simp) ?_
    obtain ⟨c, b⟩ := y
    replace h4 : c.length ≤ 1000 := h4
    cases b with
    | false => exact strict_end _ c false h4
    | true =>
      obtain ⟨k1, k2⟩ := h3 rfl
      simp only at k1 k2
      refine Evt.step (fun k => by simp only [laws_FnChainStrict.j0]; rw [if_neg (by decide)]) ?_
      refine Evt.bind (chainOk_impl c (by omega)) fun u hu => ?_
      refine Evt.pos (by rw [hu, k1]) (Evt.bind (chainText_impl c (by omega)) fun v hv => Evt.now _ ?_)
      rw [hv, k2]
      simp [toB]
  by_cases hex : ∃ c, chainOk c = true ∧ chainText c = t ∧ t.length ≤ 130
  · obtain ⟨c, hc, rfl, h130⟩ := hex
    have := chainOk_small hc
    exact both (c, true) (spec_text c hc h130) (impl_text c hc h130) (fun _ => ⟨hc, rfl⟩) (by simp only; omega)
  · have none_ : ∀ r, Reads t r → t.length ≤ 130 → r = ([], false) := fun r hr h => by
      rcases hr with hr | ⟨c, h1, h2, h3⟩
      · exact hr
      · exact absurd ⟨c, h1, h2, h⟩ hex
    by_cases h130 : t.length ≤ 130
    · exact both ([], false) ((spec_reads t (by omega)).mono fun r hr => none_ r hr h130) ((impl_reads t (by omega)).mono fun r hr => none_ r hr h130) (fun e => by cases e) (by simp)
    · have hsz : (toB t).size = t.length := rfl
      exact both ([], false) (by unfold spec_ChainRead.f; simp only [Option.bind_some]; exact Evt.pos (by rw [hsz]; omega) (Evt.now _ rfl)) (by unfold impl_ChainRead.f; exact Evt.pos (by rw [hsz]; omega) (Evt.now _ rfl)) (fun e => by cases e) (by simp)

end Go.Proofs.YthjpkfcejdddkaaDoor.Pure
