/- The statement CodeOrdersSaid: whatever the input, the Go law CodeOrders returns true and leaves its arguments as they were.
   Its conditions: none. -/
import Derived.Test.YtgpcpllkcehheaaLawBL
import Derived.Test.YtgpcpllkcehheaaPureD
import Derived.Test.YtgpcpllkcehheaaOpen
namespace Go.Proofs.Ytgpcpllkcehheaa
open Go.ChangeShapes Go.WideShapes Go.ChangeAt Go.RowKit
set_option linter.unusedVariables false
set_option linter.unusedSimpArgs false

theorem codeOrders_call : LawCall Try.prog 13 Try.f13 := by
  intro H enc W base args ds p hval hA hw
  rw [Try.params13] at hA hval hw
  obtain ⟨l, rfl⟩ : ∃ l : List Value, args = l.toArray := ⟨args.toList, by simp⟩
  simp only [List.toList_toArray] at hA
  obtain ⟨v0, vs0, d0, ds0, q0, qs0, rfl, rfl, rfl, h0, r0⟩ := trodAll_cons hA
  obtain ⟨v1, vs1, d1, ds1, q1, qs1, rfl, rfl, rfl, h1, r1⟩ := trodAll_cons r0
  obtain ⟨rfl, rfl, rfl⟩ := trodAll_nil r1
  obtain ⟨cs0, rfl, _⟩ := okWide_struct Try.underlying33 (hval 0 33 v0 rfl rfl)
  obtain ⟨fu0, hf0⟩ := h0
  obtain ⟨p0, e0, k0⟩ := op33 _ _ _ _ _ _ _ _ _ hf0 (light_each hw (j := 0) rfl rfl)
  obtain rfl : cs0 = (DElem.cells p0).toArray := by rw [← show cs0.toList = _ from e0]
  obtain ⟨cs1, rfl, _⟩ := okWide_struct Try.underlying33 (hval 1 33 v1 rfl rfl)
  obtain ⟨fu1, hf1⟩ := h1
  obtain ⟨p1, e1, k1⟩ := op33 _ _ _ _ _ _ _ _ _ hf1 (light_each hw (j := 1) rfl rfl)
  obtain rfl : cs1 = (DElem.cells p1).toArray := by rw [← show cs1.toList = _ from e1]
  refine (annalkeep_CodeOrders_l p0 p1 true (annalkeep_CodeOrders_true p0 p1 k0 k1) W ).mono ?_
  rintro e W' ⟨v, rfl, hb, hr⟩
  obtain rfl := sureBool _ _ _ hr
  exact ⟨rfl, hb⟩

set_option maxRecDepth 100000 in
theorem codeOrders_lifted (os : Os) (started : os.Started) (H : Type) (enc : TypeId × Value → H) :
    ReturnsInHanded {} Try.checked os 13 .any (Rows.codeOrdersSpec.pre6 enc Try.prog Try.f13 Rows.codeOrdersRow.domain false) (Rows.codeOrdersSpec.post enc Try.prog Try.f13 false true false false) :=
  law_lifted (C := Try.checked) (s := Rows.codeOrdersSpec) (tb := 4) codeOrders_call prog_own started (by kernel_rfl) Try.func13
    (ChangeSpec.witness6 (enc := enc) (C := Try.checked) false ⟨#[], #[.agg #[.int .i64 0, .int .i64 0, .int .i64 0, .int .i64 0, .int .i64 0, .string (ByteArray.mk #[])], .agg #[.int .i64 0, .int .i64 0, .int .i64 0, .int .i64 0, .int .i64 0, .string (ByteArray.mk #[])]], []⟩ 8 (by kernel_rfl) (by kernel_rfl) (by kernel_rfl) (by kernel_rfl))
    rfl rfl Try.underlying4 prog_laid (by intro t ht; rw [show Try.f13.params = _ from Try.params13] at ht; simp only [List.mem_cons, List.not_mem_nil, or_false] at ht; rcases ht with rfl | rfl <;> exact ⟨by kernel_rfl, of_decide_eq_true (by kernel_rfl)⟩)
    (by
      intro ds hd
      rw [show Try.f13.params = _ from Try.params13] at hd
      match ds, hd with
      | [x0, x1], _ => exact ⟨rfl, rfl, rfl⟩)

theorem codeOrders_holds : Rows.CodeOrdersSaid :=
  OpenClaim.holds_of_wide 13 Try.f13 rfl rfl rfl rfl rfl rfl rfl ⟨rfl, rfl, rfl, rfl, rfl⟩ rfl rfl rfl rfl rfl (by kernel_rfl) Try.func13 (by kernel_rfl)
    (of_decide_eq_true (by kernel_rfl)) (by unfold Func.isWrapper; rw [if_neg (of_decide_eq_false (by kernel_rfl))]; exact ⟨rfl, rfl⟩)
    (fun os started H enc _ => codeOrders_lifted os started H enc)
end Go.Proofs.Ytgpcpllkcehheaa
