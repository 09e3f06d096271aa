/- The statement UndoWholeSaid: whatever the input, the Go law UndoWhole returns true and leaves its arguments as they were.
   Its conditions: none. -/
import Derived.Test.YtomgholekojenaaWUndoWholeL
import Derived.Test.YtomgholekojenaaQUndoWhole
import Derived.Test.YtomgholekojenaaOpen
namespace Go.Proofs.Ytomgholekojenaa
open Go.ChangeShapes Go.WideShapes Go.ChangeAt Go.RowKit
set_option linter.unusedVariables false
set_option linter.unusedSimpArgs false

set_option maxRecDepth 100000 in
theorem undoWhole_call : LawCall Try.prog 8 Try.f8 := by
  intro H enc W base args ds p hval hA hw
  rw [Try.params8] at hA hval hw
  obtain ⟨l, rfl⟩ : ∃ l : List Value, args = l.toArray := ⟨args.toList, by simp⟩
  simp only [List.toList_toArray] at hA
  obtain ⟨v0, vs0, d0, ds0, q0, qs0, rfl, rfl, rfl, h0, r0⟩ := trodAll_cons hA
  obtain ⟨v1, vs1, d1, ds1, q1, qs1, rfl, rfl, rfl, h1, r1⟩ := trodAll_cons r0
  obtain ⟨v2, vs2, d2, ds2, q2, qs2, rfl, rfl, rfl, h2, r2⟩ := trodAll_cons r1
  obtain ⟨v3, vs3, d3, ds3, q3, qs3, rfl, rfl, rfl, h3, r3⟩ := trodAll_cons r2
  obtain ⟨v4, vs4, d4, ds4, q4, qs4, rfl, rfl, rfl, h4, r4⟩ := trodAll_cons r3
  obtain ⟨rfl, rfl, rfl⟩ := trodAll_nil r4
  obtain ⟨cs0, rfl, _⟩ := okWide_struct Try.underlying25 (hval 0 25 v0 rfl rfl)
  obtain ⟨fu0, hf0⟩ := h0
  obtain ⟨p0, e0, k0⟩ := op25 _ _ _ _ _ _ _ _ _ hf0 (light_each hw (j := 0) rfl rfl)
  obtain ⟨A0_0, c0_0, A0_1, c0_1, e0, s0_0, s0_1⟩ := e0
  obtain rfl : cs0 = #[.slice A0_0 p0.pages.length c0_0, .slice A0_1 p0.writes.length c0_1] := by rw [← Array.toList_inj]; exact e0
  obtain ⟨p1, rfl, rfl, rfl, k1⟩ := open_string Try.underlying9 (hval 1 9 v1 rfl rfl) h1
  have k1_ : p1.size ≤ reachBytes := by
    have := sized_string hw (j := 1) (t := 9) rfl rfl
    simpa using this
  obtain ⟨A2, n2, c2, rfl⟩ := okWide_slice Try.underlying23 (hval 2 23 v2 rfl rfl)
  obtain ⟨fu2, hf2⟩ := h2
  obtain ⟨p2, ⟨A2_, c2_, e2, s2⟩, k2⟩ := op23 _ _ _ _ _ _ _ _ _ hf2 (light_each hw (j := 2) rfl rfl)
  obtain ⟨rfl, rfl, rfl⟩ : A2 = A2_ ∧ n2 = p2.length ∧ c2 = c2_ := by simpa [Value.cells] using e2
  obtain ⟨p3, rfl, rfl, rfl, k3⟩ := open_int Try.underlying3 (hval 3 3 v3 rfl rfl) h3
  obtain ⟨A4, n4, c4, rfl⟩ := okWide_slice Try.underlying26 (hval 4 26 v4 rfl rfl)
  obtain ⟨fu4, hf4⟩ := h4
  obtain ⟨p4, ⟨A4_, c4_, e4, s4⟩, k4⟩ := op26 _ _ _ _ _ _ _ _ _ hf4 (light_each hw (j := 4) rfl rfl)
  obtain ⟨rfl, rfl, rfl⟩ : A4 = A4_ ∧ n4 = p4.length ∧ c4 = c4_ := by simpa [Value.cells] using e4
  refine (annalkeep_UndoWhole_l FUEL p0 p1 p2 p3 p4 true (annalkeep_UndoWhole_true FUEL p0 p1 p2 p3 p4 k0 k1 k1_ k2 k3 k4) W _ _ s0_0 _ _ s0_1 _ _ s2 _ _ s4).mono ?_
  rintro e W' ⟨v, rfl, hb, hr⟩
  obtain rfl := sureBool _ _ _ hr
  exact ⟨rfl, hb⟩

set_option maxRecDepth 100000 in
theorem undoWhole_lifted (os : Os) (started : os.Started) (H : Type) (enc : TypeId × Value → H) :
    ReturnsInHanded {} Try.checked os 8 .any (Rows.undoWholeSpec.pre6 enc Try.prog Try.f8 Rows.undoWholeRow.domain false) (Rows.undoWholeSpec.post enc Try.prog Try.f8 false true false false) :=
  law_lifted (C := Try.checked) (s := Rows.undoWholeSpec) (tb := 4) undoWhole_call prog_own started (by kernel_rfl) Try.func8
    (ChangeSpec.witness6 (enc := enc) (C := Try.checked) false ⟨#[], #[.agg #[.slice none 0 0, .slice none 0 0], .string (ByteArray.mk #[]), .slice none 0 0, .int .i64 0, .slice none 0 0], []⟩ 8 (by kernel_rfl) (by kernel_rfl) (by kernel_rfl) (by kernel_rfl))
    rfl rfl Try.underlying4 prog_laid (by intro t ht; rw [show Try.f8.params = _ from Try.params8] at ht; simp only [List.mem_cons, List.not_mem_nil, or_false] at ht; rcases ht with rfl | rfl | rfl | rfl | rfl <;> exact ⟨by kernel_rfl, of_decide_eq_true (by kernel_rfl)⟩)
    (by
      intro ds hd
      rw [show Try.f8.params = _ from Try.params8] at hd
      match ds, hd with
      | [x0, x1, x2, x3, x4], _ => exact ⟨rfl, rfl, rfl⟩)

set_option maxRecDepth 100000 in
theorem undoWhole_holds : Rows.UndoWholeSaid :=
  OpenClaim.holds_of_wide 8 Try.f8 rfl rfl rfl rfl rfl rfl rfl ⟨rfl, rfl, rfl, rfl, rfl⟩ rfl rfl rfl rfl rfl (by kernel_rfl) Try.func8 (show joinedFacts Try.prog 8 Try.f8 Rows.undoWholeSpec Rows.undoWholeRow = true by unfold joinedFacts; rw [prog_enter, prog_lifts, prog_make]; kernel_rfl)
    (of_decide_eq_true (by kernel_rfl)) (by unfold Func.isWrapper; rw [if_neg (of_decide_eq_false (by kernel_rfl))]; exact ⟨rfl, rfl⟩)
    (fun os started H enc _ => undoWhole_lifted os started H enc)
end Go.Proofs.Ytomgholekojenaa
