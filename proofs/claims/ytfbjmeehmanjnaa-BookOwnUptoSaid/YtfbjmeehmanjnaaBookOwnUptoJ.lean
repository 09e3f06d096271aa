/- The statement BookOwnUptoSaid: where what it reads is of bulk at most 1048576, the Go law BookOwn returns true and leaves its arguments as they were.
 Its conditions: none beyond that one of the statement. -/
import Derived.Test.YtfbjmeehmanjnaaUptoJ
import Derived.Test.YtfbjmeehmanjnaaWBookOwnLJ
import Derived.Test.YtfbjmeehmanjnaaOpenJ
namespace Go.Proofs.Ytfbjmeehmanjnaa
open Go.ChangeShapes Go.WideShapes Go.ChangeAt Go.RowKit
set_option linter.unusedVariables false
set_option linter.unusedSimpArgs false
set_option maxRecDepth 100000 in
theorem bookOwn_call : LawCallU Try.prog 3 Try.f3 := by
 intro H enc W base args ds p hval hA hw hbk
 rw [Try.params3] at hA hval hw
 obtain ⟨l, rfl⟩ : ∃ l : List Value, args = l.toArray := ⟨args.toList, by simp⟩
 simp only [List.toList_toArray] at hA
 obtain ⟨v0, vs0, d0, ds0, q0, qs0, rfl, rfl, rfl, h0, r0⟩ := trodAll_cons hA
 obtain ⟨v1, vs1, d1, ds1, q1, qs1, rfl, rfl, rfl, h1, r1⟩ := trodAll_cons r0
 obtain ⟨v2, vs2, d2, ds2, q2, qs2, rfl, rfl, rfl, h2, r2⟩ := trodAll_cons r1
 obtain ⟨v3, vs3, d3, ds3, q3, qs3, rfl, rfl, rfl, h3, r3⟩ := trodAll_cons r2
 obtain ⟨v4, vs4, d4, ds4, q4, qs4, rfl, rfl, rfl, h4, r4⟩ := trodAll_cons r3
 obtain ⟨rfl, rfl, rfl⟩ := trodAll_nil r4
 obtain ⟨cs0, rfl, _⟩ := okWide_struct Try.underlying25 (hval 0 25 v0 rfl rfl)
 obtain ⟨fu0, hf0⟩ := h0
 obtain ⟨p0, e0, k0⟩ := op25 _ _ _ _ _ _ _ _ _ hf0 (light_each hw (j := 0) rfl rfl)
 obtain ⟨A0_0, c0_0, e0, s0_0⟩ := e0
 obtain rfl : cs0 = (List.toArray ((.slice A0_0 p0.run.length c0_0) :: (DA16.cells p0.roles ++ (DA16.cells p0.fed)))) := by rw [← Array.toList_inj]; exact e0
 obtain ⟨cs1, rfl, _⟩ := okWide_struct Try.underlying27 (hval 1 27 v1 rfl rfl)
 obtain ⟨fu1, hf1⟩ := h1
 obtain ⟨p1, e1, k1⟩ := op27 _ _ _ _ _ _ _ _ _ hf1 (light_each hw (j := 1) rfl rfl)
 obtain rfl : cs1 = (DKey.cells p1).toArray := by rw [← show cs1.toList = _ from e1]
 obtain ⟨p2, rfl, rfl, rfl, k2⟩ := open_string Try.underlying9 (hval 2 9 v2 rfl rfl) h2
 have k2_ : p2.size ≤ reachBytes := by
  have := sized_string hw (j := 2) (t := 9) rfl rfl
  simpa using this
 obtain ⟨p3, rfl, rfl, rfl, k3⟩ := open_int Try.underlying3 (hval 3 3 v3 rfl rfl) h3
 obtain ⟨p4, rfl, rfl, rfl, k4⟩ := open_string Try.underlying9 (hval 4 9 v4 rfl rfl) h4
 have k4_ : p4.size ≤ reachBytes := by
  have := sized_string hw (j := 4) (t := 9) rfl rfl
  simpa using this
 have b2 : p2.size ≤ 1048576 := bulk_string hbk (by simp)
 have b4 : p4.size ≤ 1048576 := bulk_string hbk (by simp)
 refine (annalkeep_BookOwn_l FUEL p0 p1 p2 p3 p4 true (annalkeep_BookOwn_true FUEL p0 p1 p2 p3 p4 k0 k1 k2 k2_ k3 k4 k4_ b2 b4) W _ _ s0_0).mono ?_
 rintro e W' ⟨v, rfl, hb, hr⟩
 obtain rfl := sureBool _ _ _ hr
 exact ⟨rfl, hb⟩
set_option maxRecDepth 100000 in
theorem bookOwn_lifted (os : Os) (started : os.Started) (H : Type) (enc : TypeId × Value → H) (Fi : Stop.Interp) :
 ReturnsInHanded {} Try.checked os 3 .any ((Rows.OpenSpec.upto Rows.bookOwnSpec).pre6 enc Try.prog Try.f3 Rows.bookOwnUptoRow.domain false) (((Rows.OpenSpec.upto Rows.bookOwnSpec).at Fi).post enc Try.prog Try.f3 false true false false) :=
 law_lifted_upto (C := Try.checked) (s := Rows.bookOwnSpec) (tb := 4) bookOwn_call prog_own started (by kernel_rfl) Try.func3
  (OpenSpec.witness (enc := enc) (C := Try.checked) (s := Rows.OpenSpec.upto Rows.bookOwnSpec) (k := Rows.uptoSmall) rfl false ⟨#[], #[.agg (List.toArray ((.slice none 0 0) :: (DA16.cells (DA16.mk 0 0 0 0 0 0 0 0 0 0 0 0 0 0 0 0) ++ (DA16.cells (DA16.mk 0 0 0 0 0 0 0 0 0 0 0 0 0 0 0 0))))), .agg #[.int .i64 0, .int .i64 0, .int .i64 0], .string (ByteArray.mk #[]), .int .i64 0, .string (ByteArray.mk #[])], []⟩ 8 (by kernel_rfl) (by kernel_rfl) (by kernel_rfl) (x := ([.agg [.nil, .agg [.lit (.int .i64 0), .lit (.int .i64 0), .lit (.int .i64 0), .lit (.int .i64 0), .lit (.int .i64 0), .lit (.int .i64 0), .lit (.int .i64 0), .lit (.int .i64 0), .lit (.int .i64 0), .lit (.int .i64 0), .lit (.int .i64 0), .lit (.int .i64 0), .lit (.int .i64 0), .lit (.int .i64 0), .lit (.int .i64 0), .lit (.int .i64 0)], .agg [.lit (.int .i64 0), .lit (.int .i64 0), .lit (.int .i64 0), .lit (.int .i64 0), .lit (.int .i64 0), .lit (.int .i64 0), .lit (.int .i64 0), .lit (.int .i64 0), .lit (.int .i64 0), .lit (.int .i64 0), .lit (.int .i64 0), .lit (.int .i64 0), .lit (.int .i64 0), .lit (.int .i64 0), .lit (.int .i64 0), .lit (.int .i64 0)]], .agg [.lit (.int .i64 0), .lit (.int .i64 0), .lit (.int .i64 0)], .lit (.string []), .lit (.int .i64 0), .lit (.string [])], [], [])) (by kernel_rfl) rfl (by kernel_rfl))
  rfl rfl Try.underlying4 prog_laid (by intro t ht; rw [show Try.f3.params = _ from Try.params3] at ht; simp only [List.mem_cons, List.not_mem_nil, or_false] at ht; rcases ht with rfl | rfl | rfl | rfl | rfl <;> exact ⟨by kernel_rfl, of_decide_eq_true (by kernel_rfl)⟩)
  (by
   intro ds hd
   rw [show Try.f3.params = _ from Try.params3] at hd
   match ds, hd with
   | [x0, x1, x2, x3, x4], _ => exact ⟨rfl, rfl, rfl⟩) Fi
set_option maxRecDepth 100000 in
theorem bookOwnUpto_holds : Rows.BookOwnUptoSaid :=
 OpenClaim.holds_of_cond 3 Try.f3 rfl rfl rfl rfl rfl rfl rfl ⟨rfl, rfl, rfl, rfl, rfl⟩ rfl rfl rfl rfl rfl (by kernel_rfl) Try.func3 (show joinedFacts Try.prog 3 Try.f3 (Rows.OpenSpec.upto Rows.bookOwnSpec).bare Rows.bookOwnUptoRow = true by unfold joinedFacts; rw [prog_enter, prog_lifts, prog_make]; kernel_rfl)
  (of_decide_eq_true (by kernel_rfl)) (by unfold Func.isWrapper; rw [if_neg (of_decide_eq_false (by kernel_rfl))]; exact ⟨rfl, rfl⟩)
  (fun os started H enc _ Fi => bookOwn_lifted os started H enc Fi)
end Go.Proofs.Ytfbjmeehmanjnaa
