/- The statement UndoTwiceSaid: whatever the input, the Go law UndoTwice returns true and leaves its arguments as they were.
   Its conditions: none. -/
import Derived.Test.YtomgholekojenaaWUndoTwiceL
import Derived.Test.YtomgholekojenaaQUndoTwice
import Derived.Test.YtomgholekojenaaOpen
namespace Go.Proofs.Ytomgholekojenaa
open Go.ChangeShapes Go.WideShapes Go.ChangeAt Go.RowKit
set_option linter.unusedVariables false
set_option linter.unusedSimpArgs false

set_option maxRecDepth 100000 in
theorem undoTwice_call : LawCall Try.prog 3 Try.f3 := by
  intro H enc W base args ds p hval hA hw
  rw [Try.params3] at hA hval hw
  obtain ⟨l, rfl⟩ : ∃ l : List Value, args = l.toArray := ⟨args.toList, by simp⟩
  simp only [List.toList_toArray] at hA
  obtain ⟨v0, vs0, d0, ds0, q0, qs0, rfl, rfl, rfl, h0, r0⟩ := trodAll_cons hA
  obtain ⟨v1, vs1, d1, ds1, q1, qs1, rfl, rfl, rfl, h1, r1⟩ := trodAll_cons r0
  obtain ⟨rfl, rfl, rfl⟩ := trodAll_nil r1
  obtain ⟨cs0, rfl, _⟩ := okWide_struct Try.underlying25 (hval 0 25 v0 rfl rfl)
  obtain ⟨fu0, hf0⟩ := h0
  obtain ⟨p0, e0, k0⟩ := op25 _ _ _ _ _ _ _ _ _ hf0 (light_each hw (j := 0) rfl rfl)
  obtain ⟨A0_0, c0_0, A0_1, c0_1, e0, s0_0, s0_1⟩ := e0
  obtain rfl : cs0 = #[.slice A0_0 p0.pages.length c0_0, .slice A0_1 p0.writes.length c0_1] := by rw [← Array.toList_inj]; exact e0
  obtain ⟨A1, n1, c1, rfl⟩ := okWide_slice Try.underlying26 (hval 1 26 v1 rfl rfl)
  obtain ⟨fu1, hf1⟩ := h1
  obtain ⟨p1, ⟨A1_, c1_, e1, s1⟩, k1⟩ := op26 _ _ _ _ _ _ _ _ _ hf1 (light_each hw (j := 1) rfl rfl)
  obtain ⟨rfl, rfl, rfl⟩ : A1 = A1_ ∧ n1 = p1.length ∧ c1 = c1_ := by simpa [Value.cells] using e1
  refine (annalkeep_UndoTwice_l FUEL p0 p1 true (annalkeep_UndoTwice_true FUEL p0 p1 k0 k1) W _ _ s0_0 _ _ s0_1 _ _ s1).mono ?_
  rintro e W' ⟨v, rfl, hb, hr⟩
  obtain rfl := sureBool _ _ _ hr
  exact ⟨rfl, hb⟩

set_option maxRecDepth 100000 in
theorem undoTwice_lifted (os : Os) (started : os.Started) (H : Type) (enc : TypeId × Value → H) :
    ReturnsInHanded {} Try.checked os 3 .any (Rows.undoTwiceSpec.pre6 enc Try.prog Try.f3 Rows.undoTwiceRow.domain false) (Rows.undoTwiceSpec.post enc Try.prog Try.f3 false true false false) :=
  law_lifted (C := Try.checked) (s := Rows.undoTwiceSpec) (tb := 4) undoTwice_call prog_own started (by kernel_rfl) Try.func3
    (ChangeSpec.witness6 (enc := enc) (C := Try.checked) false ⟨#[], #[.agg #[.slice none 0 0, .slice none 0 0], .slice none 0 0], []⟩ 8 (by kernel_rfl) (by kernel_rfl) (by kernel_rfl) (by kernel_rfl))
    rfl rfl Try.underlying4 prog_laid (by intro t ht; rw [show Try.f3.params = _ from Try.params3] at ht; simp only [List.mem_cons, List.not_mem_nil, or_false] at ht; rcases ht with rfl | rfl <;> exact ⟨by kernel_rfl, of_decide_eq_true (by kernel_rfl)⟩)
    (by
      intro ds hd
      rw [show Try.f3.params = _ from Try.params3] at hd
      match ds, hd with
      | [x0, x1], _ => exact ⟨rfl, rfl, rfl⟩)

set_option maxRecDepth 100000 in
theorem undoTwice_holds : Rows.UndoTwiceSaid :=
  OpenClaim.holds_of_wide 3 Try.f3 rfl rfl rfl rfl rfl rfl rfl ⟨rfl, rfl, rfl, rfl, rfl⟩ rfl rfl rfl rfl rfl (by kernel_rfl) Try.func3 (show joinedFacts Try.prog 3 Try.f3 Rows.undoTwiceSpec Rows.undoTwiceRow = true by unfold joinedFacts; rw [prog_enter, prog_lifts, prog_make]; kernel_rfl)
    (of_decide_eq_true (by kernel_rfl)) (by unfold Func.isWrapper; rw [if_neg (of_decide_eq_false (by kernel_rfl))]; exact ⟨rfl, rfl⟩)
    (fun os started H enc _ => undoTwice_lifted os started H enc)
end Go.Proofs.Ytomgholekojenaa
