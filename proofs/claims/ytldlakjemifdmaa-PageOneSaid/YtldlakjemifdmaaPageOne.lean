/- The statement PageOneSaid: whatever the input, the Go law PageOne returns true and leaves its arguments as they were.
   Its conditions: none. -/
import Derived.Test.YtldlakjemifdmaaWPageOneL
import Derived.Test.YtldlakjemifdmaaQPageOne
import Derived.Test.YtldlakjemifdmaaOpen
namespace Go.Proofs.Ytldlakjemifdmaa
open Go.ChangeShapes Go.WideShapes Go.ChangeAt Go.RowKit
set_option linter.unusedVariables false
set_option linter.unusedSimpArgs false

set_option maxRecDepth 100000 in
theorem pageOne_call : LawCall Try.prog 14 Try.f14 := by
  intro H enc W base args ds p hval hA hw
  rw [Try.params14] at hA hval hw
  obtain ⟨l, rfl⟩ : ∃ l : List Value, args = l.toArray := ⟨args.toList, by simp⟩
  simp only [List.toList_toArray] at hA
  obtain ⟨v0, vs0, d0, ds0, q0, qs0, rfl, rfl, rfl, h0, r0⟩ := trodAll_cons hA
  obtain ⟨rfl, rfl, rfl⟩ := trodAll_nil r0
  obtain ⟨p0, rfl, rfl, rfl, k0⟩ := open_string Try.underlying9 (hval 0 9 v0 rfl rfl) h0
  have k0_ : p0.size ≤ reachBytes := by
    have := sized_string hw (j := 0) (t := 9) rfl rfl
    simpa using this
  refine (annalkeep_PageOne_l FUEL p0 true (annalkeep_PageOne_true FUEL p0 k0 k0_) W ).mono ?_
  rintro e W' ⟨v, rfl, hb, hr⟩
  obtain rfl := sureBool _ _ _ hr
  exact ⟨rfl, hb⟩

set_option maxRecDepth 100000 in
theorem pageOne_lifted (os : Os) (started : os.Started) (H : Type) (enc : TypeId × Value → H) :
    ReturnsInHanded {} Try.checked os 14 .any (Rows.pageOneSpec.pre6 enc Try.prog Try.f14 Rows.pageOneRow.domain false) (Rows.pageOneSpec.post enc Try.prog Try.f14 false true false false) :=
  law_lifted (C := Try.checked) (s := Rows.pageOneSpec) (tb := 4) pageOne_call prog_own started (by kernel_rfl) Try.func14
    (ChangeSpec.witness6 (enc := enc) (C := Try.checked) false ⟨#[], #[.string (ByteArray.mk #[])], []⟩ 8 (by kernel_rfl) (by kernel_rfl) (by kernel_rfl) (by kernel_rfl))
    rfl rfl Try.underlying4 prog_laid (by intro t ht; rw [show Try.f14.params = _ from Try.params14] at ht; simp only [List.mem_cons, List.not_mem_nil, or_false] at ht; subst ht; exact ⟨by kernel_rfl, of_decide_eq_true (by kernel_rfl)⟩)
    (by
      intro ds hd
      rw [show Try.f14.params = _ from Try.params14] at hd
      match ds, hd with
      | [x0], _ => exact ⟨rfl, rfl, rfl⟩)

set_option maxRecDepth 100000 in
theorem pageOne_holds : Rows.PageOneSaid :=
  OpenClaim.holds_of_wide 14 Try.f14 rfl rfl rfl rfl rfl rfl rfl ⟨rfl, rfl, rfl, rfl, rfl⟩ rfl rfl rfl rfl rfl (by kernel_rfl) Try.func14 (show joinedFacts Try.prog 14 Try.f14 Rows.pageOneSpec Rows.pageOneRow = true by unfold joinedFacts; rw [prog_enter, prog_lifts, prog_make]; kernel_rfl)
    (of_decide_eq_true (by kernel_rfl)) (by unfold Func.isWrapper; rw [if_neg (of_decide_eq_false (by kernel_rfl))]; exact ⟨rfl, rfl⟩)
    (fun os started H enc _ => pageOne_lifted os started H enc)
end Go.Proofs.Ytldlakjemifdmaa
