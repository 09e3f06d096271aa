/- The statement CodeOneSaid: whatever the input, the Go law CodeOne returns true and leaves its arguments as they were.
   Its conditions: none. -/
import Derived.Test.YtgpcpllkcehheaaLawBL
import Derived.Test.YtgpcpllkcehheaaPureD
import Derived.Test.YtgpcpllkcehheaaOpen
namespace Go.Proofs.Ytgpcpllkcehheaa
open Go.ChangeShapes Go.WideShapes Go.ChangeAt Go.RowKit
set_option linter.unusedVariables false
set_option linter.unusedSimpArgs false

theorem codeOne_call : LawCall Try.prog 12 Try.f12 := by
  intro H enc W base args ds p hval hA hw
  rw [Try.params12] at hA hval hw
  obtain ⟨l, rfl⟩ : ∃ l : List Value, args = l.toArray := ⟨args.toList, by simp⟩
  simp only [List.toList_toArray] at hA
  obtain ⟨v0, vs0, d0, ds0, q0, qs0, rfl, rfl, rfl, h0, r0⟩ := trodAll_cons hA
  obtain ⟨rfl, rfl, rfl⟩ := trodAll_nil r0
  obtain ⟨p0, rfl, rfl, rfl, k0⟩ := open_string Try.underlying9 (hval 0 9 v0 rfl rfl) h0
  have k0_ : p0.size ≤ reachBytes := by
    have := sized_string hw (j := 0) (t := 9) rfl rfl
    simpa using this
  refine (annalkeep_CodeOne_l p0 true (annalkeep_CodeOne_true p0 k0 k0_) W ).mono ?_
  rintro e W' ⟨v, rfl, hb, hr⟩
  obtain rfl := sureBool _ _ _ hr
  exact ⟨rfl, hb⟩

set_option maxRecDepth 100000 in
theorem codeOne_lifted (os : Os) (started : os.Started) (H : Type) (enc : TypeId × Value → H) :
    ReturnsInHanded {} Try.checked os 12 .any (Rows.codeOneSpec.pre6 enc Try.prog Try.f12 Rows.codeOneRow.domain false) (Rows.codeOneSpec.post enc Try.prog Try.f12 false true false false) :=
  law_lifted (C := Try.checked) (s := Rows.codeOneSpec) (tb := 4) codeOne_call prog_own started (by kernel_rfl) Try.func12
    (ChangeSpec.witness6 (enc := enc) (C := Try.checked) false ⟨#[], #[.string (ByteArray.mk #[])], []⟩ 8 (by kernel_rfl) (by kernel_rfl) (by kernel_rfl) (by kernel_rfl))
    rfl rfl Try.underlying4 prog_laid (by intro t ht; rw [show Try.f12.params = _ from Try.params12] at ht; simp only [List.mem_cons, List.not_mem_nil, or_false] at ht; subst ht; exact ⟨by kernel_rfl, of_decide_eq_true (by kernel_rfl)⟩)
    (by
      intro ds hd
      rw [show Try.f12.params = _ from Try.params12] at hd
      match ds, hd with
      | [x0], _ => exact ⟨rfl, rfl, rfl⟩)

theorem codeOne_holds : Rows.CodeOneSaid :=
  OpenClaim.holds_of_wide 12 Try.f12 rfl rfl rfl rfl rfl rfl rfl ⟨rfl, rfl, rfl, rfl, rfl⟩ rfl rfl rfl rfl rfl (by kernel_rfl) Try.func12 (by kernel_rfl)
    (of_decide_eq_true (by kernel_rfl)) (by unfold Func.isWrapper; rw [if_neg (of_decide_eq_false (by kernel_rfl))]; exact ⟨rfl, rfl⟩)
    (fun os started H enc _ => codeOne_lifted os started H enc)
end Go.Proofs.Ytgpcpllkcehheaa
