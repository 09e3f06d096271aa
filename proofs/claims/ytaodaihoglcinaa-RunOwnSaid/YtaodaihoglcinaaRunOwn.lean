/- The statement RunOwnSaid: whatever the input, the Go law RunOwn returns true and leaves its arguments as they were.
   Its conditions: none. -/
import Derived.Test.YtaodaihoglcinaaWRunOwnL
import Derived.Test.YtaodaihoglcinaaQRunOwn
import Derived.Test.YtaodaihoglcinaaOpen
namespace Go.Proofs.Ytaodaihoglcinaa
open Go.ChangeShapes Go.WideShapes Go.ChangeAt Go.RowKit
set_option linter.unusedVariables false
set_option linter.unusedSimpArgs false

set_option maxRecDepth 100000 in
theorem runOwn_call : LawCall Try.prog 3 Try.f3 := by
  intro H enc W base args ds p hval hA hw
  rw [Try.params3] at hA hval hw
  obtain ⟨l, rfl⟩ : ∃ l : List Value, args = l.toArray := ⟨args.toList, by simp⟩
  simp only [List.toList_toArray] at hA
  obtain ⟨v0, vs0, d0, ds0, q0, qs0, rfl, rfl, rfl, h0, r0⟩ := trodAll_cons hA
  obtain ⟨v1, vs1, d1, ds1, q1, qs1, rfl, rfl, rfl, h1, r1⟩ := trodAll_cons r0
  obtain ⟨v2, vs2, d2, ds2, q2, qs2, rfl, rfl, rfl, h2, r2⟩ := trodAll_cons r1
  obtain ⟨v3, vs3, d3, ds3, q3, qs3, rfl, rfl, rfl, h3, r3⟩ := trodAll_cons r2
  obtain ⟨v4, vs4, d4, ds4, q4, qs4, rfl, rfl, rfl, h4, r4⟩ := trodAll_cons r3
  obtain ⟨rfl, rfl, rfl⟩ := trodAll_nil r4
  obtain ⟨A0, n0, c0, rfl⟩ := okWide_slice Try.underlying22 (hval 0 22 v0 rfl rfl)
  obtain ⟨fu0, hf0⟩ := h0
  obtain ⟨p0, ⟨A0_, c0_, e0, s0⟩, k0⟩ := op22 _ _ _ _ _ _ _ _ _ hf0 (light_each hw (j := 0) rfl rfl)
  obtain ⟨rfl, rfl, rfl⟩ : A0 = A0_ ∧ n0 = p0.length ∧ c0 = c0_ := by simpa [Value.cells] using e0
  obtain ⟨cs1, rfl, _⟩ := okWide_struct Try.underlying24 (hval 1 24 v1 rfl rfl)
  obtain ⟨fu1, hf1⟩ := h1
  obtain ⟨p1, e1, k1⟩ := op24 _ _ _ _ _ _ _ _ _ hf1 (light_each hw (j := 1) rfl rfl)
  obtain rfl : cs1 = (DKey.cells p1).toArray := by rw [← show cs1.toList = _ from e1]
  obtain ⟨p2, rfl, rfl, rfl, k2⟩ := open_string Try.underlying9 (hval 2 9 v2 rfl rfl) h2
  have k2_ : p2.size ≤ reachBytes := by
    have := sized_string hw (j := 2) (t := 9) rfl rfl
    simpa using this
  obtain ⟨p3, rfl, rfl, rfl, k3⟩ := open_int Try.underlying3 (hval 3 3 v3 rfl rfl) h3
  obtain ⟨A4, n4, c4, rfl⟩ := okWide_slice Try.underlying25 (hval 4 25 v4 rfl rfl)
  obtain ⟨fu4, hf4⟩ := h4
  obtain ⟨p4, ⟨A4_, c4_, e4, s4⟩, k4⟩ := op25 _ _ _ _ _ _ _ _ _ hf4 (light_each hw (j := 4) rfl rfl)
  obtain ⟨rfl, rfl, rfl⟩ : A4 = A4_ ∧ n4 = p4.length ∧ c4 = c4_ := by simpa [Value.cells] using e4
  refine (annalkeep_RunOwn_l FUEL p0 p1 p2 p3 p4 true (annalkeep_RunOwn_true FUEL p0 p1 p2 p3 p4 k0 k1 k2 k2_ k3 k4) W _ _ s0 _ _ s4).mono ?_
  rintro e W' ⟨v, rfl, hb, hr⟩
  obtain rfl := sureBool _ _ _ hr
  exact ⟨rfl, hb⟩

set_option maxRecDepth 100000 in
theorem runOwn_lifted (os : Os) (started : os.Started) (H : Type) (enc : TypeId × Value → H) :
    ReturnsInHanded {} Try.checked os 3 .any (Rows.runOwnSpec.pre6 enc Try.prog Try.f3 Rows.runOwnRow.domain false) (Rows.runOwnSpec.post enc Try.prog Try.f3 false true false false) :=
  law_lifted (C := Try.checked) (s := Rows.runOwnSpec) (tb := 4) runOwn_call prog_own started (by kernel_rfl) Try.func3
    (ChangeSpec.witness6 (enc := enc) (C := Try.checked) false ⟨#[], #[.slice none 0 0, .agg #[.int .i64 0, .int .i64 0, .int .i64 0], .string (ByteArray.mk #[]), .int .i64 0, .slice none 0 0], []⟩ 8 (by kernel_rfl) (by kernel_rfl) (by kernel_rfl) (by kernel_rfl))
    rfl rfl Try.underlying4 prog_laid (by intro t ht; rw [show Try.f3.params = _ from Try.params3] at ht; simp only [List.mem_cons, List.not_mem_nil, or_false] at ht; rcases ht with rfl | rfl | rfl | rfl | rfl <;> exact ⟨by kernel_rfl, of_decide_eq_true (by kernel_rfl)⟩)
    (by
      intro ds hd
      rw [show Try.f3.params = _ from Try.params3] at hd
      match ds, hd with
      | [x0, x1, x2, x3, x4], _ => exact ⟨rfl, rfl, rfl⟩)

set_option maxRecDepth 100000 in
theorem runOwn_holds : Rows.RunOwnSaid :=
  OpenClaim.holds_of_wide 3 Try.f3 rfl rfl rfl rfl rfl rfl rfl ⟨rfl, rfl, rfl, rfl, rfl⟩ rfl rfl rfl rfl rfl (by kernel_rfl) Try.func3 (show joinedFacts Try.prog 3 Try.f3 Rows.runOwnSpec Rows.runOwnRow = true by unfold joinedFacts; rw [prog_enter, prog_lifts, prog_make]; kernel_rfl)
    (of_decide_eq_true (by kernel_rfl)) (by unfold Func.isWrapper; rw [if_neg (of_decide_eq_false (by kernel_rfl))]; exact ⟨rfl, rfl⟩)
    (fun os started H enc _ => runOwn_lifted os started H enc)
end Go.Proofs.Ytaodaihoglcinaa
