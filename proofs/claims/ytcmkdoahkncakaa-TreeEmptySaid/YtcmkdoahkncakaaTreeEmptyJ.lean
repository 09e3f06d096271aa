/- The statement TreeEmptySaid: whatever the input, the Go law TreeEmpty returns true and leaves its arguments as they were.
 Its conditions: none. -/
import Derived.Test.YtcmkdoahkncakaaWTreeEmptyLJ
import Derived.Test.YtcmkdoahkncakaaOpenJ
namespace Go.Proofs.Ytcmkdoahkncakaa
open Go.ChangeShapes Go.WideShapes Go.ChangeAt Go.RowKit
set_option linter.unusedVariables false
set_option linter.unusedSimpArgs false
set_option maxRecDepth 100000 in
theorem treeEmpty_call : LawCall Try.prog 8 Try.f8 := by
 intro H enc W base args ds p hval hA hw
 rw [Try.params8] at hA hval hw
 obtain ⟨l, rfl⟩ : ∃ l : List Value, args = l.toArray := ⟨args.toList, by simp⟩
 simp only [List.toList_toArray] at hA
 obtain ⟨v0, vs0, d0, ds0, q0, qs0, rfl, rfl, rfl, h0, r0⟩ := trodAll_cons hA
 obtain ⟨v1, vs1, d1, ds1, q1, qs1, rfl, rfl, rfl, h1, r1⟩ := trodAll_cons r0
 obtain ⟨rfl, rfl, rfl⟩ := trodAll_nil r1
 obtain ⟨cs0, rfl, _⟩ := okWide_struct Try.underlying43 (hval 0 43 v0 rfl rfl)
 obtain ⟨fu0, hf0⟩ := h0
 obtain ⟨p0, e0, k0⟩ := op43 _ _ _ _ _ _ _ _ _ hf0 (light_each hw (j := 0) rfl rfl)
 obtain rfl : cs0 = (DSpot.cells p0).toArray := by rw [← show cs0.toList = _ from e0]
 obtain ⟨cs1, rfl, _⟩ := okWide_struct Try.underlying28 (hval 1 28 v1 rfl rfl)
 obtain ⟨fu1, hf1⟩ := h1
 obtain ⟨p1, e1, k1⟩ := op28 _ _ _ _ _ _ _ _ _ hf1 (light_each hw (j := 1) rfl rfl)
 obtain rfl : cs1 = (DElem.cells p1).toArray := by rw [← show cs1.toList = _ from e1]
 refine (annalkeep_TreeEmpty_l FUEL p0 p1 true (annalkeep_TreeEmpty_true FUEL p0 p1 k0 k1) W ).mono ?_
 rintro e W' ⟨v, rfl, hb, hr⟩
 obtain rfl := sureBool _ _ _ hr
 exact ⟨rfl, hb⟩
set_option maxRecDepth 100000 in
theorem treeEmpty_lifted (os : Os) (started : os.Started) (H : Type) (enc : TypeId × Value → H) :
 ReturnsInHanded {} Try.checked os 8 .any (Rows.treeEmptySpec.pre6 enc Try.prog Try.f8 Rows.treeEmptyRow.domain false) (Rows.treeEmptySpec.post enc Try.prog Try.f8 false true false false) :=
 law_lifted (C := Try.checked) (s := Rows.treeEmptySpec) (tb := 4) treeEmpty_call prog_own started (by kernel_rfl) Try.func8
  (ChangeSpec.witness6 (enc := enc) (C := Try.checked) false ⟨#[], #[.agg #[.int .i64 0, .int .i64 0, .int .i64 0, .int .i64 0], .agg #[.int .i64 0, .int .i64 0, .int .i64 0, .int .i64 0, .int .i64 0, .string (ByteArray.mk #[])]], []⟩ 8 (by kernel_rfl) (by kernel_rfl) (by kernel_rfl) (by kernel_rfl))
  rfl rfl Try.underlying4 prog_laid (by intro t ht; rw [show Try.f8.params = _ from Try.params8] at ht; simp only [List.mem_cons, List.not_mem_nil, or_false] at ht; rcases ht with rfl | rfl <;> exact ⟨by kernel_rfl, of_decide_eq_true (by kernel_rfl)⟩)
  (by
   intro ds hd
   rw [show Try.f8.params = _ from Try.params8] at hd
   match ds, hd with
   | [x0, x1], _ => exact ⟨rfl, rfl, rfl⟩)
set_option maxRecDepth 100000 in
theorem treeEmpty_holds : Rows.TreeEmptySaid :=
 OpenClaim.holds_of_wide 8 Try.f8 rfl rfl rfl rfl rfl rfl rfl ⟨rfl, rfl, rfl, rfl, rfl⟩ rfl rfl rfl rfl rfl (by kernel_rfl) Try.func8 (show joinedFacts Try.prog 8 Try.f8 Rows.treeEmptySpec Rows.treeEmptyRow = true by unfold joinedFacts; rw [prog_enter, prog_lifts, prog_make]; kernel_rfl)
  (of_decide_eq_true (by kernel_rfl)) (by unfold Func.isWrapper; rw [if_neg (of_decide_eq_false (by kernel_rfl))]; exact ⟨rfl, rfl⟩)
  (fun os started H enc _ => treeEmpty_lifted os started H enc)
end Go.Proofs.Ytcmkdoahkncakaa
