/- The statement SumNoughtSaid: whatever the input, the Go law SumNought returns true and leaves its arguments as they were.
   Its conditions: none. -/
import Derived.Test.YtgpcpllkcehheaaLawBL
import Derived.Test.YtgpcpllkcehheaaPureB
import Derived.Test.YtgpcpllkcehheaaOpen
namespace Go.Proofs.Ytgpcpllkcehheaa
open Go.ChangeShapes Go.WideShapes Go.ChangeAt Go.RowKit
set_option linter.unusedVariables false

theorem sumNought_call : LawCall Try.prog 5 Try.f5 := by
  intro H enc W base args ds p hval hA hw
  rw [Try.params5] at hA hval hw
  obtain ⟨l, rfl⟩ : ∃ l : List Value, args = l.toArray := ⟨args.toList, by simp⟩
  simp only [List.toList_toArray] at hA
  obtain ⟨v0, vs0, d0, ds0, q0, qs0, rfl, rfl, rfl, h0, r0⟩ := trodAll_cons hA
  obtain ⟨rfl, rfl, rfl⟩ := trodAll_nil r0
  obtain ⟨p0, rfl, rfl, rfl, k0⟩ := open_string Try.underlying9 (hval 0 9 v0 rfl rfl) h0
  have k0_ : p0.size ≤ reachBytes := by
    have := sized_string hw (j := 0) (t := 9) rfl rfl
    simpa using this
  refine (annalkeep_SumNought_l p0 true (annalkeep_SumNought_true p0 k0 k0_) W ).mono ?_
  rintro e W' ⟨v, rfl, hb, hr⟩
  obtain rfl := sureBool _ _ _ hr
  exact ⟨rfl, hb⟩

set_option maxRecDepth 100000 in
theorem sumNought_lifted (os : Os) (started : os.Started) (H : Type) (enc : TypeId × Value → H) :
    ReturnsInHanded {} Try.checked os 5 .any (Rows.sumNoughtSpec.pre6 enc Try.prog Try.f5 Rows.sumNoughtRow.domain false) (Rows.sumNoughtSpec.post enc Try.prog Try.f5 false true false false) :=
  law_lifted (C := Try.checked) (s := Rows.sumNoughtSpec) (tb := 4) sumNought_call prog_own started (by kernel_rfl) Try.func5
    (ChangeSpec.witness6 (enc := enc) (C := Try.checked) false ⟨#[], #[.string (ByteArray.mk #[])], []⟩ 8 (by kernel_rfl) (by kernel_rfl) (by kernel_rfl) (by kernel_rfl))
    rfl rfl Try.underlying4 prog_laid (by intro t ht; rw [show Try.f5.params = _ from Try.params5] at ht; simp only [List.mem_cons, List.not_mem_nil, or_false] at ht; subst ht; exact ⟨by kernel_rfl, of_decide_eq_true (by kernel_rfl)⟩)
    (by
      intro ds hd
      rw [show Try.f5.params = _ from Try.params5] at hd
      match ds, hd with
      | [x0], _ => exact ⟨rfl, rfl, rfl⟩)

theorem sumNought_holds : Rows.SumNoughtSaid :=
  OpenClaim.holds_of_wide 5 Try.f5 rfl rfl rfl rfl rfl rfl rfl ⟨rfl, rfl, rfl, rfl, rfl⟩ rfl rfl rfl rfl rfl (by kernel_rfl) Try.func5 (by kernel_rfl)
    (of_decide_eq_true (by kernel_rfl)) (by unfold Func.isWrapper; rw [if_neg (of_decide_eq_false (by kernel_rfl))]; exact ⟨rfl, rfl⟩)
    (fun os started H enc _ => sumNought_lifted os started H enc)
end Go.Proofs.Ytgpcpllkcehheaa
