/- The statement RealmFollowsUptoSaid: where what it reads is of bulk at most 1048576, the Go law RealmFollows returns true and leaves its arguments as they were.
   Its conditions: none beyond that one of the statement. -/
import Derived.Test.YtomgholekojenaaUpto
import Derived.Test.YtomgholekojenaaWRealmFollowsL
import Derived.Test.YtomgholekojenaaQRealmFollows
import Derived.Test.YtomgholekojenaaOpen
namespace Go.Proofs.Ytomgholekojenaa
open Go.ChangeShapes Go.WideShapes Go.ChangeAt Go.RowKit
set_option linter.unusedVariables false
set_option linter.unusedSimpArgs false

set_option maxRecDepth 100000 in
theorem realmFollows_call : LawCallU Try.prog 10 Try.f10 := by
  intro H enc W base args ds p hval hA hw hbk
  rw [Try.params10] at hA hval hw
  obtain ⟨l, rfl⟩ : ∃ l : List Value, args = l.toArray := ⟨args.toList, by simp⟩
  simp only [List.toList_toArray] at hA
  obtain ⟨v0, vs0, d0, ds0, q0, qs0, rfl, rfl, rfl, h0, r0⟩ := trodAll_cons hA
  obtain ⟨v1, vs1, d1, ds1, q1, qs1, rfl, rfl, rfl, h1, r1⟩ := trodAll_cons r0
  obtain ⟨v2, vs2, d2, ds2, q2, qs2, rfl, rfl, rfl, h2, r2⟩ := trodAll_cons r1
  obtain ⟨v3, vs3, d3, ds3, q3, qs3, rfl, rfl, rfl, h3, r3⟩ := trodAll_cons r2
  obtain ⟨v4, vs4, d4, ds4, q4, qs4, rfl, rfl, rfl, h4, r4⟩ := trodAll_cons r3
  obtain ⟨rfl, rfl, rfl⟩ := trodAll_nil r4
  obtain ⟨A0, n0, c0, rfl⟩ := okWide_slice Try.underlying73 (hval 0 73 v0 rfl rfl)
  obtain ⟨fu0, hf0⟩ := h0
  obtain ⟨p0, ⟨A0_, c0_, e0, s0⟩, k0⟩ := op73 _ _ _ _ _ _ _ _ _ hf0 (light_each hw (j := 0) rfl rfl)
  obtain ⟨rfl, rfl, rfl⟩ : A0 = A0_ ∧ n0 = p0.length ∧ c0 = c0_ := by simpa [Value.cells] using e0
  obtain ⟨A1, n1, c1, rfl⟩ := okWide_slice Try.underlying22 (hval 1 22 v1 rfl rfl)
  obtain ⟨fu1, hf1⟩ := h1
  obtain ⟨p1, ⟨A1_, c1_, e1, s1⟩, k1⟩ := op22 _ _ _ _ _ _ _ _ _ hf1 (light_each hw (j := 1) rfl rfl)
  obtain ⟨rfl, rfl, rfl⟩ : A1 = A1_ ∧ n1 = p1.length ∧ c1 = c1_ := by simpa [Value.cells] using e1
  obtain ⟨A2, n2, c2, rfl⟩ := okWide_slice Try.underlying74 (hval 2 74 v2 rfl rfl)
  obtain ⟨fu2, hf2⟩ := h2
  obtain ⟨p2, ⟨A2_, c2_, e2, s2⟩, k2⟩ := op74 _ _ _ _ _ _ _ _ _ hf2 (light_each hw (j := 2) rfl rfl)
  obtain ⟨rfl, rfl, rfl⟩ : A2 = A2_ ∧ n2 = p2.length ∧ c2 = c2_ := by simpa [Value.cells] using e2
  obtain ⟨cs3, rfl, _⟩ := okWide_struct Try.underlying42 (hval 3 42 v3 rfl rfl)
  obtain ⟨fu3, hf3⟩ := h3
  obtain ⟨p3, e3, k3⟩ := op42 _ _ _ _ _ _ _ _ _ hf3 (light_each hw (j := 3) rfl rfl)
  obtain rfl : cs3 = (DKey.cells p3).toArray := by rw [← show cs3.toList = _ from e3]
  obtain ⟨p4, rfl, rfl, rfl, k4⟩ := open_string Try.underlying9 (hval 4 9 v4 rfl rfl) h4
  have k4_ : p4.size ≤ reachBytes := by
    have := sized_string hw (j := 4) (t := 9) rfl rfl
    simpa using this
  have b0 : p0.length ≤ 1048576 := bulk_slice Try.underlying73 hf0 rfl hbk (by simp)
  have b1 : p1.length ≤ 1048576 := bulk_slice Try.underlying22 hf1 rfl hbk (by simp)
  have b2 : p2.length ≤ 1048576 := bulk_slice Try.underlying74 hf2 rfl hbk (by simp)
  have b4 : p4.size ≤ 1048576 := bulk_string hbk (by simp)
  refine (annalkeep_RealmFollows_l FUEL p0 p1 p2 p3 p4 true (annalkeep_RealmFollows_true FUEL p0 p1 p2 p3 p4 k0 k1 k2 k3 k4 k4_ b0 b1 b2 b4) W _ _ s0 _ _ s1 _ _ s2).mono ?_
  rintro e W' ⟨v, rfl, hb, hr⟩
  obtain rfl := sureBool _ _ _ hr
  exact ⟨rfl, hb⟩

set_option maxRecDepth 100000 in
theorem realmFollows_lifted (os : Os) (started : os.Started) (H : Type) (enc : TypeId × Value → H) (Fi : Stop.Interp) :
    ReturnsInHanded {} Try.checked os 10 .any ((Rows.OpenSpec.upto Rows.realmFollowsSpec).pre6 enc Try.prog Try.f10 Rows.realmFollowsUptoRow.domain false) (((Rows.OpenSpec.upto Rows.realmFollowsSpec).at Fi).post enc Try.prog Try.f10 false true false false) :=
  law_lifted_upto (C := Try.checked) (s := Rows.realmFollowsSpec) (tb := 4) realmFollows_call prog_own started (by kernel_rfl) Try.func10
    (OpenSpec.witness (enc := enc) (C := Try.checked) (s := Rows.OpenSpec.upto Rows.realmFollowsSpec) (k := Rows.uptoSmall) rfl false ⟨#[], #[.slice none 0 0, .slice none 0 0, .slice none 0 0, .agg #[.int .i64 0, .int .i64 0, .int .i64 0], .string (ByteArray.mk #[])], []⟩ 8 (by kernel_rfl) (by kernel_rfl) (by kernel_rfl) (x := ([.nil, .nil, .nil, .agg [.lit (.int .i64 0), .lit (.int .i64 0), .lit (.int .i64 0)], .lit (.string [])], [], [])) (by kernel_rfl) rfl (by kernel_rfl))
    rfl rfl Try.underlying4 prog_laid (by intro t ht; rw [show Try.f10.params = _ from Try.params10] at ht; simp only [List.mem_cons, List.not_mem_nil, or_false] at ht; rcases ht with rfl | rfl | rfl | rfl | rfl <;> exact ⟨by kernel_rfl, of_decide_eq_true (by kernel_rfl)⟩)
    (by
      intro ds hd
      rw [show Try.f10.params = _ from Try.params10] at hd
      match ds, hd with
      | [x0, x1, x2, x3, x4], _ => exact ⟨rfl, rfl, rfl⟩) Fi

set_option maxRecDepth 100000 in
theorem realmFollowsUpto_holds : Rows.RealmFollowsUptoSaid :=
  OpenClaim.holds_of_cond 10 Try.f10 rfl rfl rfl rfl rfl rfl rfl ⟨rfl, rfl, rfl, rfl, rfl⟩ rfl rfl rfl rfl rfl (by kernel_rfl) Try.func10 (show joinedFacts Try.prog 10 Try.f10 (Rows.OpenSpec.upto Rows.realmFollowsSpec).bare Rows.realmFollowsUptoRow = true by unfold joinedFacts; rw [prog_enter, prog_lifts, prog_make]; kernel_rfl)
    (of_decide_eq_true (by kernel_rfl)) (by unfold Func.isWrapper; rw [if_neg (of_decide_eq_false (by kernel_rfl))]; exact ⟨rfl, rfl⟩)
    (fun os started H enc _ Fi => realmFollows_lifted os started H enc Fi)
end Go.Proofs.Ytomgholekojenaa
