/- The statement TreeFullSaid: whatever the input, the Go law TreeFull returns true and leaves its arguments as they were.
 Its conditions: none. -/
import Derived.Test.YtcmkdoahkncakaaWTreeFullLQ
import Derived.Test.YtcmkdoahkncakaaOpenQ
namespace Go.Proofs.Ytcmkdoahkncakaa
open Go.ChangeShapes Go.WideShapes Go.ChangeAt Go.RowKit
set_option linter.unusedVariables false
set_option linter.unusedSimpArgs false
set_option maxRecDepth 100000 in
theorem treeFull_call : LawCall Try.prog 10 Try.f10 := by
 intro H enc W base args ds p hval hA hw
 rw [Try.params10] at hA hval hw
 obtain ⟨l, rfl⟩ : ∃ l : List Value, args = l.toArray := ⟨args.toList, by simp⟩
 simp only [List.toList_toArray] at hA
 obtain ⟨v0, vs0, d0, ds0, q0, qs0, rfl, rfl, rfl, h0, r0⟩ := trodAll_cons hA
 obtain ⟨rfl, rfl, rfl⟩ := trodAll_nil r0
 obtain ⟨p0, rfl, rfl, rfl, k0⟩ := open_int Try.underlying3 (hval 0 3 v0 rfl rfl) h0
 refine (annalkeep_TreeFull_l FUEL p0 true (annalkeep_TreeFull_true FUEL p0 k0) W ).mono ?_
 rintro e W' ⟨v, rfl, hb, hr⟩
 obtain rfl := sureBool _ _ _ hr
 exact ⟨rfl, hb⟩
set_option maxRecDepth 100000 in
theorem treeFull_lifted (os : Os) (started : os.Started) (H : Type) (enc : TypeId × Value → H) :
 ReturnsInHanded {} Try.checked os 10 .any (Rows.treeFullSpec.pre6 enc Try.prog Try.f10 Rows.treeFullRow.domain false) (Rows.treeFullSpec.post enc Try.prog Try.f10 false true false false) :=
 law_lifted (C := Try.checked) (s := Rows.treeFullSpec) (tb := 4) treeFull_call prog_own started (by kernel_rfl) Try.func10
  (ChangeSpec.witness6 (enc := enc) (C := Try.checked) false ⟨#[], #[.int .i64 0], []⟩ 8 (by kernel_rfl) (by kernel_rfl) (by kernel_rfl) (by kernel_rfl))
  rfl rfl Try.underlying4 prog_laid (by intro t ht; rw [show Try.f10.params = _ from Try.params10] at ht; simp only [List.mem_cons, List.not_mem_nil, or_false] at ht; subst ht; exact ⟨by kernel_rfl, of_decide_eq_true (by kernel_rfl)⟩)
  (by
   intro ds hd
   rw [show Try.f10.params = _ from Try.params10] at hd
   match ds, hd with
   | [x0], _ => exact ⟨rfl, rfl, rfl⟩)
set_option maxRecDepth 100000 in
theorem treeFull_holds : Rows.TreeFullSaid :=
 OpenClaim.holds_of_wide 10 Try.f10 rfl rfl rfl rfl rfl rfl rfl ⟨rfl, rfl, rfl, rfl, rfl⟩ rfl rfl rfl rfl rfl (by kernel_rfl) Try.func10 (show joinedFacts Try.prog 10 Try.f10 Rows.treeFullSpec Rows.treeFullRow = true by unfold joinedFacts; rw [prog_enter, prog_lifts, prog_make]; kernel_rfl)
  (of_decide_eq_true (by kernel_rfl)) (by unfold Func.isWrapper; rw [if_neg (of_decide_eq_false (by kernel_rfl))]; exact ⟨rfl, rfl⟩)
  (fun os started H enc _ => treeFull_lifted os started H enc)
end Go.Proofs.Ytcmkdoahkncakaa
