/- The statement DiskOwnSaid: whatever the input, the Go law DiskOwn returns true and leaves its arguments as they were.
   Its conditions: none. -/
import Derived.Test.YtjhkfonoobmecaaWDiskOwnL
import Derived.Test.YtjhkfonoobmecaaQDiskOwn
import Derived.Test.YtjhkfonoobmecaaOpen
namespace Go.Proofs.Ytjhkfonoobmecaa
open Go.ChangeShapes Go.WideShapes Go.ChangeAt Go.RowKit
set_option linter.unusedVariables false
set_option linter.unusedSimpArgs false

set_option maxRecDepth 100000 in
theorem diskOwn_call : LawCall Try.prog 3 Try.f3 := by
  intro H enc W base args ds p hval hA hw
  rw [Try.params3] at hA hval hw
  obtain ⟨l, rfl⟩ : ∃ l : List Value, args = l.toArray := ⟨args.toList, by simp⟩
  simp only [List.toList_toArray] at hA
  obtain ⟨v0, vs0, d0, ds0, q0, qs0, rfl, rfl, rfl, h0, r0⟩ := trodAll_cons hA
  obtain ⟨v1, vs1, d1, ds1, q1, qs1, rfl, rfl, rfl, h1, r1⟩ := trodAll_cons r0
  obtain ⟨v2, vs2, d2, ds2, q2, qs2, rfl, rfl, rfl, h2, r2⟩ := trodAll_cons r1
  obtain ⟨v3, vs3, d3, ds3, q3, qs3, rfl, rfl, rfl, h3, r3⟩ := trodAll_cons r2
  obtain ⟨rfl, rfl, rfl⟩ := trodAll_nil r3
  obtain ⟨cs0, rfl, _⟩ := okWide_struct Try.underlying25 (hval 0 25 v0 rfl rfl)
  obtain ⟨fu0, hf0⟩ := h0
  obtain ⟨p0, e0, k0⟩ := op25 _ _ _ _ _ _ _ _ _ hf0 (light_each hw (j := 0) rfl rfl)
  obtain ⟨A0_0, c0_0, A0_1, c0_1, e0, s0_0, s0_1⟩ := e0
  obtain rfl : cs0 = #[.slice A0_0 p0.pages.length c0_0, .slice A0_1 p0.writes.length c0_1] := by rw [← Array.toList_inj]; exact e0
  obtain ⟨p1, rfl, rfl, rfl, k1⟩ := open_int Try.underlying3 (hval 1 3 v1 rfl rfl) h1
  obtain ⟨p2, rfl, rfl, rfl, k2⟩ := open_string Try.underlying9 (hval 2 9 v2 rfl rfl) h2
  have k2_ : p2.size ≤ reachBytes := by
    have := sized_string hw (j := 2) (t := 9) rfl rfl
    simpa using this
  obtain ⟨A3, n3, c3, rfl⟩ := okWide_slice Try.underlying23 (hval 3 23 v3 rfl rfl)
  obtain ⟨fu3, hf3⟩ := h3
  obtain ⟨p3, ⟨A3_, c3_, e3, s3⟩, k3⟩ := op23 _ _ _ _ _ _ _ _ _ hf3 (light_each hw (j := 3) rfl rfl)
  obtain ⟨rfl, rfl, rfl⟩ : A3 = A3_ ∧ n3 = p3.length ∧ c3 = c3_ := by simpa [Value.cells] using e3
  refine (annalkeep_DiskOwn_l FUEL p0 p1 p2 p3 true (annalkeep_DiskOwn_true FUEL p0 p1 p2 p3 k0 k1 k2 k2_ k3) W _ _ s0_0 _ _ s0_1 _ _ s3).mono ?_
  rintro e W' ⟨v, rfl, hb, hr⟩
  obtain rfl := sureBool _ _ _ hr
  exact ⟨rfl, hb⟩

set_option maxRecDepth 100000 in
theorem diskOwn_lifted (os : Os) (started : os.Started) (H : Type) (enc : TypeId × Value → H) :
    ReturnsInHanded {} Try.checked os 3 .any (Rows.diskOwnSpec.pre6 enc Try.prog Try.f3 Rows.diskOwnRow.domain false) (Rows.diskOwnSpec.post enc Try.prog Try.f3 false true false false) :=
  law_lifted (C := Try.checked) (s := Rows.diskOwnSpec) (tb := 4) diskOwn_call prog_own started (by kernel_rfl) Try.func3
    (ChangeSpec.witness6 (enc := enc) (C := Try.checked) false ⟨#[], #[.agg #[.slice none 0 0, .slice none 0 0], .int .i64 0, .string (ByteArray.mk #[]), .slice none 0 0], []⟩ 8 (by kernel_rfl) (by kernel_rfl) (by kernel_rfl) (by kernel_rfl))
    rfl rfl Try.underlying4 prog_laid (by intro t ht; rw [show Try.f3.params = _ from Try.params3] at ht; simp only [List.mem_cons, List.not_mem_nil, or_false] at ht; rcases ht with rfl | rfl | rfl | rfl <;> exact ⟨by kernel_rfl, of_decide_eq_true (by kernel_rfl)⟩)
    (by
      intro ds hd
      rw [show Try.f3.params = _ from Try.params3] at hd
      match ds, hd with
      | [x0, x1, x2, x3], _ => exact ⟨rfl, rfl, rfl⟩)

set_option maxRecDepth 100000 in
theorem diskOwn_holds : Rows.DiskOwnSaid :=
  OpenClaim.holds_of_wide 3 Try.f3 rfl rfl rfl rfl rfl rfl rfl ⟨rfl, rfl, rfl, rfl, rfl⟩ rfl rfl rfl rfl rfl (by kernel_rfl) Try.func3 (show joinedFacts Try.prog 3 Try.f3 Rows.diskOwnSpec Rows.diskOwnRow = true by unfold joinedFacts; rw [prog_enter, prog_lifts, prog_make]; kernel_rfl)
    (of_decide_eq_true (by kernel_rfl)) (by unfold Func.isWrapper; rw [if_neg (of_decide_eq_false (by kernel_rfl))]; exact ⟨rfl, rfl⟩)
    (fun os started H enc _ => diskOwn_lifted os started H enc)
end Go.Proofs.Ytjhkfonoobmecaa
