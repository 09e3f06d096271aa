/- The statement PruneReadsSaid: whatever the input, the Go law PruneReads returns true and leaves its arguments as they were.
   Its conditions: none. -/
import Derived.Test.YtiaoncjkfgebdaaWPruneReadsL
import Derived.Test.YtiaoncjkfgebdaaQPruneReads
import Derived.Test.YtiaoncjkfgebdaaOpen
namespace Go.Proofs.Ytiaoncjkfgebdaa
open Go.ChangeShapes Go.WideShapes Go.ChangeAt Go.RowKit
set_option linter.unusedVariables false
set_option linter.unusedSimpArgs false

set_option maxRecDepth 100000 in
theorem pruneReads_call : LawCall Try.prog 15 Try.f15 := by
  intro H enc W base args ds p hval hA hw
  rw [Try.params15] at hA hval hw
  obtain ⟨l, rfl⟩ : ∃ l : List Value, args = l.toArray := ⟨args.toList, by simp⟩
  simp only [List.toList_toArray] at hA
  obtain ⟨v0, vs0, d0, ds0, q0, qs0, rfl, rfl, rfl, h0, r0⟩ := trodAll_cons hA
  obtain ⟨v1, vs1, d1, ds1, q1, qs1, rfl, rfl, rfl, h1, r1⟩ := trodAll_cons r0
  obtain ⟨v2, vs2, d2, ds2, q2, qs2, rfl, rfl, rfl, h2, r2⟩ := trodAll_cons r1
  obtain ⟨v3, vs3, d3, ds3, q3, qs3, rfl, rfl, rfl, h3, r3⟩ := trodAll_cons r2
  obtain ⟨v4, vs4, d4, ds4, q4, qs4, rfl, rfl, rfl, h4, r4⟩ := trodAll_cons r3
  obtain ⟨v5, vs5, d5, ds5, q5, qs5, rfl, rfl, rfl, h5, r5⟩ := trodAll_cons r4
  obtain ⟨rfl, rfl, rfl⟩ := trodAll_nil r5
  obtain ⟨A0, n0, c0, rfl⟩ := okWide_slice Try.underlying22 (hval 0 22 v0 rfl rfl)
  obtain ⟨fu0, hf0⟩ := h0
  obtain ⟨p0, ⟨A0_, c0_, e0, s0⟩, k0⟩ := op22 _ _ _ _ _ _ _ _ _ hf0 (light_each hw (j := 0) rfl rfl)
  obtain ⟨rfl, rfl, rfl⟩ : A0 = A0_ ∧ n0 = p0.length ∧ c0 = c0_ := by simpa [Value.cells] using e0
  obtain ⟨A1, n1, c1, rfl⟩ := okWide_slice Try.underlying51 (hval 1 51 v1 rfl rfl)
  obtain ⟨fu1, hf1⟩ := h1
  obtain ⟨p1, ⟨A1_, c1_, e1, s1⟩, k1⟩ := op51 _ _ _ _ _ _ _ _ _ hf1 (light_each hw (j := 1) rfl rfl)
  obtain ⟨rfl, rfl, rfl⟩ : A1 = A1_ ∧ n1 = p1.length ∧ c1 = c1_ := by simpa [Value.cells] using e1
  obtain ⟨p2, rfl, rfl, rfl, k2⟩ := open_int Try.underlying3 (hval 2 3 v2 rfl rfl) h2
  obtain ⟨cs3, rfl, _⟩ := okWide_struct Try.underlying24 (hval 3 24 v3 rfl rfl)
  obtain ⟨fu3, hf3⟩ := h3
  obtain ⟨p3, e3, k3⟩ := op24 _ _ _ _ _ _ _ _ _ hf3 (light_each hw (j := 3) rfl rfl)
  obtain rfl : cs3 = (DKey.cells p3).toArray := by rw [← show cs3.toList = _ from e3]
  obtain ⟨cs4, rfl, _⟩ := okWide_struct Try.underlying24 (hval 4 24 v4 rfl rfl)
  obtain ⟨fu4, hf4⟩ := h4
  obtain ⟨p4, e4, k4⟩ := op24 _ _ _ _ _ _ _ _ _ hf4 (light_each hw (j := 4) rfl rfl)
  obtain rfl : cs4 = (DKey.cells p4).toArray := by rw [← show cs4.toList = _ from e4]
  obtain ⟨cs5, rfl, _⟩ := okWide_struct Try.underlying24 (hval 5 24 v5 rfl rfl)
  obtain ⟨fu5, hf5⟩ := h5
  obtain ⟨p5, e5, k5⟩ := op24 _ _ _ _ _ _ _ _ _ hf5 (light_each hw (j := 5) rfl rfl)
  obtain rfl : cs5 = (DKey.cells p5).toArray := by rw [← show cs5.toList = _ from e5]
  refine (annalkeep_PruneReads_l FUEL p0 p1 p2 p3 p4 p5 true (annalkeep_PruneReads_true FUEL p0 p1 p2 p3 p4 p5 k0 k1 k2 k3 k4 k5) W _ _ s0 _ _ s1).mono ?_
  rintro e W' ⟨v, rfl, hb, hr⟩
  obtain rfl := sureBool _ _ _ hr
  exact ⟨rfl, hb⟩

set_option maxRecDepth 100000 in
theorem pruneReads_lifted (os : Os) (started : os.Started) (H : Type) (enc : TypeId × Value → H) :
    ReturnsInHanded {} Try.checked os 15 .any (Rows.pruneReadsSpec.pre6 enc Try.prog Try.f15 Rows.pruneReadsRow.domain false) (Rows.pruneReadsSpec.post enc Try.prog Try.f15 false true false false) :=
  law_lifted (C := Try.checked) (s := Rows.pruneReadsSpec) (tb := 4) pruneReads_call prog_own started (by kernel_rfl) Try.func15
    (ChangeSpec.witness6 (enc := enc) (C := Try.checked) false ⟨#[], #[.slice none 0 0, .slice none 0 0, .int .i64 0, .agg #[.int .i64 0, .int .i64 0, .int .i64 0], .agg #[.int .i64 0, .int .i64 0, .int .i64 0], .agg #[.int .i64 0, .int .i64 0, .int .i64 0]], []⟩ 8 (by kernel_rfl) (by kernel_rfl) (by kernel_rfl) (by kernel_rfl))
    rfl rfl Try.underlying4 prog_laid (by intro t ht; rw [show Try.f15.params = _ from Try.params15] at ht; simp only [List.mem_cons, List.not_mem_nil, or_false] at ht; rcases ht with rfl | rfl | rfl | rfl | rfl | rfl <;> exact ⟨by kernel_rfl, of_decide_eq_true (by kernel_rfl)⟩)
    (by
      intro ds hd
      rw [show Try.f15.params = _ from Try.params15] at hd
      match ds, hd with
      | [x0, x1, x2, x3, x4, x5], _ => exact ⟨rfl, rfl, rfl⟩)

set_option maxRecDepth 100000 in
theorem pruneReads_holds : Rows.PruneReadsSaid :=
  OpenClaim.holds_of_wide 15 Try.f15 rfl rfl rfl rfl rfl rfl rfl ⟨rfl, rfl, rfl, rfl, rfl⟩ rfl rfl rfl rfl rfl (by kernel_rfl) Try.func15 (show joinedFacts Try.prog 15 Try.f15 Rows.pruneReadsSpec Rows.pruneReadsRow = true by unfold joinedFacts; rw [prog_enter, prog_lifts, prog_make]; kernel_rfl)
    (of_decide_eq_true (by kernel_rfl)) (by unfold Func.isWrapper; rw [if_neg (of_decide_eq_false (by kernel_rfl))]; exact ⟨rfl, rfl⟩)
    (fun os started H enc _ => pruneReads_lifted os started H enc)
end Go.Proofs.Ytiaoncjkfgebdaa
