/- The statement ElemTimesSaid: whatever the input, the Go law ElemTimes returns true and leaves its arguments as they were.
   Its conditions: none. -/
import Derived.Test.YtgpcpllkcehheaaLawAL
import Derived.Test.YtgpcpllkcehheaaPureA
import Derived.Test.YtgpcpllkcehheaaOpen
namespace Go.Proofs.Ytgpcpllkcehheaa
open Go.ChangeShapes Go.WideShapes Go.ChangeAt Go.RowKit
set_option linter.unusedVariables false

theorem elemTimes_call : LawCall Try.prog 6 Try.f6 := by
  intro H enc W base args ds p hval hA hw
  rw [Try.params6] at hA hval hw
  obtain ⟨l, rfl⟩ : ∃ l : List Value, args = l.toArray := ⟨args.toList, by simp⟩
  simp only [List.toList_toArray] at hA
  obtain ⟨v0, vs0, d0, ds0, q0, qs0, rfl, rfl, rfl, h0, r0⟩ := trodAll_cons hA
  obtain ⟨v1, vs1, d1, ds1, q1, qs1, rfl, rfl, rfl, h1, r1⟩ := trodAll_cons r0
  obtain ⟨rfl, rfl, rfl⟩ := trodAll_nil r1
  obtain ⟨cs0, rfl, _⟩ := okWide_struct Try.underlying33 (hval 0 33 v0 rfl rfl)
  obtain ⟨fu0, hf0⟩ := h0
  obtain ⟨p0, e0, k0⟩ := op33 _ _ _ _ _ _ _ _ _ hf0
  obtain rfl : cs0 = (DElem.cells p0).toArray := by rw [← show cs0.toList = _ from e0]
  obtain ⟨p1, rfl, rfl, rfl, k1⟩ := open_int Try.underlying3 (hval 1 3 v1 rfl rfl) h1
  refine (annalkeep_ElemTimes_l p0 p1 true (annalkeep_ElemTimes_true p0 p1 k0 k1) W ).mono ?_
  rintro e W' ⟨v, rfl, hb, hr⟩
  obtain rfl := sureBool _ _ _ hr
  exact ⟨rfl, hb⟩

set_option maxRecDepth 100000 in
theorem elemTimes_lifted (os : Os) (started : os.Started) (H : Type) (enc : TypeId × Value → H) :
    ReturnsInHanded {} Try.checked os 6 .any (Rows.elemTimesSpec.pre6 enc Try.prog Try.f6 Rows.elemTimesRow.domain false) (Rows.elemTimesSpec.post enc Try.prog Try.f6 false true false false) :=
  law_lifted (C := Try.checked) (s := Rows.elemTimesSpec) (tb := 4) elemTimes_call prog_own started (by kernel_rfl) Try.func6
    (ChangeSpec.witness6 (enc := enc) (C := Try.checked) false ⟨#[], #[.agg #[.int .i64 0, .int .i64 0, .int .i64 0, .int .i64 0, .int .i64 0, .string (ByteArray.mk #[])], .int .i64 0], []⟩ 8 (by kernel_rfl) (by kernel_rfl) (by kernel_rfl) (by kernel_rfl))
    rfl rfl Try.underlying4 prog_laid (by intro t ht; rw [show Try.f6.params = _ from Try.params6] at ht; simp only [List.mem_cons, List.not_mem_nil, or_false] at ht; rcases ht with rfl | rfl <;> exact ⟨by kernel_rfl, of_decide_eq_true (by kernel_rfl)⟩)
    (by
      intro ds hd
      rw [show Try.f6.params = _ from Try.params6] at hd
      match ds, hd with
      | [x0, x1], _ => exact ⟨rfl, rfl, rfl⟩)

theorem elemTimes_holds : Rows.ElemTimesSaid :=
  OpenClaim.holds_of_wide 6 Try.f6 rfl rfl rfl rfl rfl rfl rfl ⟨rfl, rfl, rfl, rfl, rfl⟩ rfl rfl rfl rfl rfl (by kernel_rfl) Try.func6 (by kernel_rfl)
    (of_decide_eq_true (by kernel_rfl)) (by unfold Func.isWrapper; rw [if_neg (of_decide_eq_false (by kernel_rfl))]; exact ⟨rfl, rfl⟩)
    (fun os started H enc _ => elemTimes_lifted os started H enc)
end Go.Proofs.Ytgpcpllkcehheaa
