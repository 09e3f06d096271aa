/- The statement GrowManySaid: whatever the input, the Go law GrowMany returns true and leaves its arguments as they were.
 Its conditions: none. -/
import Derived.Test.YtcmkdoahkncakaaWGrowManyLJ
import Derived.Test.YtcmkdoahkncakaaOpenJ
namespace Go.Proofs.Ytcmkdoahkncakaa
open Go.ChangeShapes Go.WideShapes Go.ChangeAt Go.RowKit
set_option linter.unusedVariables false
set_option linter.unusedSimpArgs false
set_option maxRecDepth 100000 in
theorem growMany_call : LawCall Try.prog 9 Try.f9 := by
 intro H enc W base args ds p hval hA hw
 rw [Try.params9] at hA hval hw
 obtain ⟨l, rfl⟩ : ∃ l : List Value, args = l.toArray := ⟨args.toList, by simp⟩
 simp only [List.toList_toArray] at hA
 obtain ⟨v0, vs0, d0, ds0, q0, qs0, rfl, rfl, rfl, h0, r0⟩ := trodAll_cons hA
 obtain ⟨v1, vs1, d1, ds1, q1, qs1, rfl, rfl, rfl, h1, r1⟩ := trodAll_cons r0
 obtain ⟨rfl, rfl, rfl⟩ := trodAll_nil r1
 obtain ⟨A0, n0, c0, rfl⟩ := okWide_slice Try.underlying34 (hval 0 34 v0 rfl rfl)
 obtain ⟨fu0, hf0⟩ := h0
 obtain ⟨p0, ⟨A0_, c0_, e0, s0⟩, k0⟩ := op34 _ _ _ _ _ _ _ _ _ hf0 (light_each hw (j := 0) rfl rfl)
 obtain ⟨rfl, rfl, rfl⟩ : A0 = A0_ ∧ n0 = p0.length ∧ c0 = c0_ := by simpa [Value.cells] using e0
 obtain ⟨A1, n1, c1, rfl⟩ := okWide_slice Try.underlying47 (hval 1 47 v1 rfl rfl)
 obtain ⟨fu1, hf1⟩ := h1
 obtain ⟨p1, ⟨A1_, c1_, e1, s1⟩, k1⟩ := op47 _ _ _ _ _ _ _ _ _ hf1 (light_each hw (j := 1) rfl rfl)
 obtain ⟨rfl, rfl, rfl⟩ : A1 = A1_ ∧ n1 = p1.length ∧ c1 = c1_ := by simpa [Value.cells] using e1
 refine (annalkeep_GrowMany_l FUEL p0 p1 true (annalkeep_GrowMany_true FUEL p0 p1 k0 k1) W _ _ s0 _ _ s1).mono ?_
 rintro e W' ⟨v, rfl, hb, hr⟩
 obtain rfl := sureBool _ _ _ hr
 exact ⟨rfl, hb⟩
set_option maxRecDepth 100000 in
theorem growMany_lifted (os : Os) (started : os.Started) (H : Type) (enc : TypeId × Value → H) :
 ReturnsInHanded {} Try.checked os 9 .any (Rows.growManySpec.pre6 enc Try.prog Try.f9 Rows.growManyRow.domain false) (Rows.growManySpec.post enc Try.prog Try.f9 false true false false) :=
 law_lifted (C := Try.checked) (s := Rows.growManySpec) (tb := 4) growMany_call prog_own started (by kernel_rfl) Try.func9
  (ChangeSpec.witness6 (enc := enc) (C := Try.checked) false ⟨#[], #[.slice none 0 0, .slice none 0 0], []⟩ 8 (by kernel_rfl) (by kernel_rfl) (by kernel_rfl) (by kernel_rfl))
  rfl rfl Try.underlying4 prog_laid (by intro t ht; rw [show Try.f9.params = _ from Try.params9] at ht; simp only [List.mem_cons, List.not_mem_nil, or_false] at ht; rcases ht with rfl | rfl <;> exact ⟨by kernel_rfl, of_decide_eq_true (by kernel_rfl)⟩)
  (by
   intro ds hd
   rw [show Try.f9.params = _ from Try.params9] at hd
   match ds, hd with
   | [x0, x1], _ => exact ⟨rfl, rfl, rfl⟩)
set_option maxRecDepth 100000 in
theorem growMany_holds : Rows.GrowManySaid :=
 OpenClaim.holds_of_wide 9 Try.f9 rfl rfl rfl rfl rfl rfl rfl ⟨rfl, rfl, rfl, rfl, rfl⟩ rfl rfl rfl rfl rfl (by kernel_rfl) Try.func9 (show joinedFacts Try.prog 9 Try.f9 Rows.growManySpec Rows.growManyRow = true by unfold joinedFacts; rw [prog_enter, prog_lifts, prog_make]; kernel_rfl)
  (of_decide_eq_true (by kernel_rfl)) (by unfold Func.isWrapper; rw [if_neg (of_decide_eq_false (by kernel_rfl))]; exact ⟨rfl, rfl⟩)
  (fun os started H enc _ => growMany_lifted os started H enc)
end Go.Proofs.Ytcmkdoahkncakaa
