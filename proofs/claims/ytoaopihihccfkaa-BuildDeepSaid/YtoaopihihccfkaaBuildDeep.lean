/- The statement BuildDeepSaid: whatever the input, the Go law BuildDeep returns true and leaves its arguments as they were.
   Its conditions: none. -/
import Derived.Test.YtoaopihihccfkaaWBuildDeepL
import Derived.Test.YtoaopihihccfkaaQBuildDeep
import Derived.Test.YtoaopihihccfkaaOpen
namespace Go.Proofs.Ytoaopihihccfkaa
open Go.ChangeShapes Go.WideShapes Go.ChangeAt Go.RowKit
set_option linter.unusedVariables false
set_option linter.unusedSimpArgs false

set_option maxRecDepth 100000 in
theorem buildDeep_call : LawCall Try.prog 4 Try.f4 := by
  intro H enc W base args ds p hval hA hw
  rw [Try.params4] at hA hval hw
  obtain ⟨l, rfl⟩ : ∃ l : List Value, args = l.toArray := ⟨args.toList, by simp⟩
  simp only [List.toList_toArray] at hA
  obtain ⟨v0, vs0, d0, ds0, q0, qs0, rfl, rfl, rfl, h0, r0⟩ := trodAll_cons hA
  obtain ⟨rfl, rfl, rfl⟩ := trodAll_nil r0
  obtain ⟨A0, n0, c0, rfl⟩ := okWide_slice Try.underlying29 (hval 0 29 v0 rfl rfl)
  obtain ⟨fu0, hf0⟩ := h0
  obtain ⟨p0, ⟨A0_, c0_, e0, s0⟩, k0⟩ := op29 _ _ _ _ _ _ _ _ _ hf0 (light_each hw (j := 0) rfl rfl)
  obtain ⟨rfl, rfl, rfl⟩ : A0 = A0_ ∧ n0 = p0.length ∧ c0 = c0_ := by simpa [Value.cells] using e0
  refine (annalkeep_BuildDeep_l FUEL p0 true (annalkeep_BuildDeep_true FUEL p0 k0) W _ _ s0).mono ?_
  rintro e W' ⟨v, rfl, hb, hr⟩
  obtain rfl := sureBool _ _ _ hr
  exact ⟨rfl, hb⟩

set_option maxRecDepth 100000 in
theorem buildDeep_lifted (os : Os) (started : os.Started) (H : Type) (enc : TypeId × Value → H) :
    ReturnsInHanded {} Try.checked os 4 .any (Rows.buildDeepSpec.pre6 enc Try.prog Try.f4 Rows.buildDeepRow.domain false) (Rows.buildDeepSpec.post enc Try.prog Try.f4 false true false false) :=
  law_lifted (C := Try.checked) (s := Rows.buildDeepSpec) (tb := 4) buildDeep_call prog_own started (by kernel_rfl) Try.func4
    (ChangeSpec.witness6 (enc := enc) (C := Try.checked) false ⟨#[], #[.slice none 0 0], []⟩ 8 (by kernel_rfl) (by kernel_rfl) (by kernel_rfl) (by kernel_rfl))
    rfl rfl Try.underlying4 prog_laid (by intro t ht; rw [show Try.f4.params = _ from Try.params4] at ht; simp only [List.mem_cons, List.not_mem_nil, or_false] at ht; subst ht; exact ⟨by kernel_rfl, of_decide_eq_true (by kernel_rfl)⟩)
    (by
      intro ds hd
      rw [show Try.f4.params = _ from Try.params4] at hd
      match ds, hd with
      | [x0], _ => exact ⟨rfl, rfl, rfl⟩)

set_option maxRecDepth 100000 in
theorem buildDeep_holds : Rows.BuildDeepSaid :=
  OpenClaim.holds_of_wide 4 Try.f4 rfl rfl rfl rfl rfl rfl rfl ⟨rfl, rfl, rfl, rfl, rfl⟩ rfl rfl rfl rfl rfl (by kernel_rfl) Try.func4 (show joinedFacts Try.prog 4 Try.f4 Rows.buildDeepSpec Rows.buildDeepRow = true by unfold joinedFacts; rw [prog_enter, prog_lifts, prog_make]; kernel_rfl)
    (of_decide_eq_true (by kernel_rfl)) (by unfold Func.isWrapper; rw [if_neg (of_decide_eq_false (by kernel_rfl))]; exact ⟨rfl, rfl⟩)
    (fun os started H enc _ => buildDeep_lifted os started H enc)
end Go.Proofs.Ytoaopihihccfkaa
