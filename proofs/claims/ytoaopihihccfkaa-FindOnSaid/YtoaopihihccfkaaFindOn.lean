/- The statement FindOnSaid: whatever the input, the Go law FindOn returns true and leaves its arguments as they were.
   Its conditions: none. -/
import Derived.Test.YtoaopihihccfkaaWFindOnL
import Derived.Test.YtoaopihihccfkaaQFindOn
import Derived.Test.YtoaopihihccfkaaOpen
namespace Go.Proofs.Ytoaopihihccfkaa
open Go.ChangeShapes Go.WideShapes Go.ChangeAt Go.RowKit
set_option linter.unusedVariables false
set_option linter.unusedSimpArgs false

set_option maxRecDepth 100000 in
theorem findOn_call : LawCall Try.prog 8 Try.f8 := by
  intro H enc W base args ds p hval hA hw
  rw [Try.params8] at hA hval hw
  obtain ⟨l, rfl⟩ : ∃ l : List Value, args = l.toArray := ⟨args.toList, by simp⟩
  simp only [List.toList_toArray] at hA
  obtain ⟨v0, vs0, d0, ds0, q0, qs0, rfl, rfl, rfl, h0, r0⟩ := trodAll_cons hA
  obtain ⟨v1, vs1, d1, ds1, q1, qs1, rfl, rfl, rfl, h1, r1⟩ := trodAll_cons r0
  obtain ⟨rfl, rfl, rfl⟩ := trodAll_nil r1
  obtain ⟨cs0, rfl, _⟩ := okWide_struct Try.underlying24 (hval 0 24 v0 rfl rfl)
  obtain ⟨fu0, hf0⟩ := h0
  obtain ⟨p0, e0, k0⟩ := op24 _ _ _ _ _ _ _ _ _ hf0 (light_each hw (j := 0) rfl rfl)
  obtain ⟨A0_0, c0_0, e0, s0_0⟩ := e0
  obtain rfl : cs0 = #[.int .i64 p0.root, .slice A0_0 p0.nodes.length c0_0] := by rw [← Array.toList_inj]; exact e0
  obtain ⟨p1, rfl, rfl, rfl, k1⟩ := open_int Try.underlying3 (hval 1 3 v1 rfl rfl) h1
  refine (annalkeep_FindOn_l FUEL p0 p1 true (annalkeep_FindOn_true FUEL p0 p1 k0 k1) W _ _ s0_0).mono ?_
  rintro e W' ⟨v, rfl, hb, hr⟩
  obtain rfl := sureBool _ _ _ hr
  exact ⟨rfl, hb⟩

set_option maxRecDepth 100000 in
theorem findOn_lifted (os : Os) (started : os.Started) (H : Type) (enc : TypeId × Value → H) :
    ReturnsInHanded {} Try.checked os 8 .any (Rows.findOnSpec.pre6 enc Try.prog Try.f8 Rows.findOnRow.domain false) (Rows.findOnSpec.post enc Try.prog Try.f8 false true false false) :=
  law_lifted (C := Try.checked) (s := Rows.findOnSpec) (tb := 4) findOn_call prog_own started (by kernel_rfl) Try.func8
    (ChangeSpec.witness6 (enc := enc) (C := Try.checked) false ⟨#[], #[.agg #[.int .i64 0, .slice none 0 0], .int .i64 0], []⟩ 8 (by kernel_rfl) (by kernel_rfl) (by kernel_rfl) (by kernel_rfl))
    rfl rfl Try.underlying4 prog_laid (by intro t ht; rw [show Try.f8.params = _ from Try.params8] at ht; simp only [List.mem_cons, List.not_mem_nil, or_false] at ht; rcases ht with rfl | rfl <;> exact ⟨by kernel_rfl, of_decide_eq_true (by kernel_rfl)⟩)
    (by
      intro ds hd
      rw [show Try.f8.params = _ from Try.params8] at hd
      match ds, hd with
      | [x0, x1], _ => exact ⟨rfl, rfl, rfl⟩)

set_option maxRecDepth 100000 in
theorem findOn_holds : Rows.FindOnSaid :=
  OpenClaim.holds_of_wide 8 Try.f8 rfl rfl rfl rfl rfl rfl rfl ⟨rfl, rfl, rfl, rfl, rfl⟩ rfl rfl rfl rfl rfl (by kernel_rfl) Try.func8 (show joinedFacts Try.prog 8 Try.f8 Rows.findOnSpec Rows.findOnRow = true by unfold joinedFacts; rw [prog_enter, prog_lifts, prog_make]; kernel_rfl)
    (of_decide_eq_true (by kernel_rfl)) (by unfold Func.isWrapper; rw [if_neg (of_decide_eq_false (by kernel_rfl))]; exact ⟨rfl, rfl⟩)
    (fun os started H enc _ => findOn_lifted os started H enc)
end Go.Proofs.Ytoaopihihccfkaa
