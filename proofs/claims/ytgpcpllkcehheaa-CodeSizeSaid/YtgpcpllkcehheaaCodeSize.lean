/- The statement CodeSizeSaid: whatever the input, the Go law CodeSize returns true and leaves its arguments as they were.
   Its conditions: none. -/
import Derived.Test.YtgpcpllkcehheaaLawBL
import Derived.Test.YtgpcpllkcehheaaPureD
import Derived.Test.YtgpcpllkcehheaaOpen
namespace Go.Proofs.Ytgpcpllkcehheaa
open Go.ChangeShapes Go.WideShapes Go.ChangeAt Go.RowKit
set_option linter.unusedVariables false
set_option linter.unusedSimpArgs false

theorem codeSize_call : LawCall Try.prog 15 Try.f15 := by
  intro H enc W base args ds p hval hA hw
  rw [Try.params15] at hA hval hw
  obtain ⟨l, rfl⟩ : ∃ l : List Value, args = l.toArray := ⟨args.toList, by simp⟩
  simp only [List.toList_toArray] at hA
  obtain ⟨v0, vs0, d0, ds0, q0, qs0, rfl, rfl, rfl, h0, r0⟩ := trodAll_cons hA
  obtain ⟨rfl, rfl, rfl⟩ := trodAll_nil r0
  obtain ⟨A0, n0, c0, rfl⟩ := okWide_slice Try.underlying59 (hval 0 59 v0 rfl rfl)
  obtain ⟨fu0, hf0⟩ := h0
  obtain ⟨p0, ⟨A0_, c0_, e0, s0⟩, k0⟩ := op59 _ _ _ _ _ _ _ _ _ hf0 (light_each hw (j := 0) rfl rfl)
  obtain ⟨rfl, rfl, rfl⟩ : A0 = A0_ ∧ n0 = p0.length ∧ c0 = c0_ := by simpa [Value.cells] using e0
  refine (annalkeep_CodeSize_l p0 true (annalkeep_CodeSize_true p0 k0) W _ _ s0).mono ?_
  rintro e W' ⟨v, rfl, hb, hr⟩
  obtain rfl := sureBool _ _ _ hr
  exact ⟨rfl, hb⟩

set_option maxRecDepth 100000 in
theorem codeSize_lifted (os : Os) (started : os.Started) (H : Type) (enc : TypeId × Value → H) :
    ReturnsInHanded {} Try.checked os 15 .any (Rows.codeSizeSpec.pre6 enc Try.prog Try.f15 Rows.codeSizeRow.domain false) (Rows.codeSizeSpec.post enc Try.prog Try.f15 false true false false) :=
  law_lifted (C := Try.checked) (s := Rows.codeSizeSpec) (tb := 4) codeSize_call prog_own started (by kernel_rfl) Try.func15
    (ChangeSpec.witness6 (enc := enc) (C := Try.checked) false ⟨#[], #[.slice none 0 0], []⟩ 8 (by kernel_rfl) (by kernel_rfl) (by kernel_rfl) (by kernel_rfl))
    rfl rfl Try.underlying4 prog_laid (by intro t ht; rw [show Try.f15.params = _ from Try.params15] at ht; simp only [List.mem_cons, List.not_mem_nil, or_false] at ht; subst ht; exact ⟨by kernel_rfl, of_decide_eq_true (by kernel_rfl)⟩)
    (by
      intro ds hd
      rw [show Try.f15.params = _ from Try.params15] at hd
      match ds, hd with
      | [x0], _ => exact ⟨rfl, rfl, rfl⟩)

theorem codeSize_holds : Rows.CodeSizeSaid :=
  OpenClaim.holds_of_wide 15 Try.f15 rfl rfl rfl rfl rfl rfl rfl ⟨rfl, rfl, rfl, rfl, rfl⟩ rfl rfl rfl rfl rfl (by kernel_rfl) Try.func15 (by kernel_rfl)
    (of_decide_eq_true (by kernel_rfl)) (by unfold Func.isWrapper; rw [if_neg (of_decide_eq_false (by kernel_rfl))]; exact ⟨rfl, rfl⟩)
    (fun os started H enc _ => codeSize_lifted os started H enc)
end Go.Proofs.Ytgpcpllkcehheaa
