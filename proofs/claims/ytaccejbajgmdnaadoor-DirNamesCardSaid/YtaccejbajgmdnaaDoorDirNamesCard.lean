/- The card of the law DirNames, its listed variables tied to the program (statement DirNamesCardSaid): whatever the input, the Go law DirNames returns true and leaves its arguments as they were.
   Its conditions: none. -/
import Derived.Test.YtaccejbajgmdnaaDoorCard
import Derived.Test.YtaccejbajgmdnaaDoorWDirNamesL
import Derived.Test.YtaccejbajgmdnaaDoorQDirNames
import Derived.Test.YtaccejbajgmdnaaDoorOpen
namespace Go.Proofs.YtaccejbajgmdnaaDoor
open Go.ChangeShapes Go.WideShapes Go.ChangeAt Go.RowKit
set_option linter.unusedVariables false
set_option linter.unusedSimpArgs false

set_option maxRecDepth 100000 in
theorem dirNames_call : LawCallG Tryd.prog 8 Tryd.f8 := by
  intro H enc W base args ds p hval hA hw hGl
  rw [Tryd.params8] at hA hval hw
  obtain ⟨l, rfl⟩ : ∃ l : List Value, args = l.toArray := ⟨args.toList, by simp⟩
  simp only [List.toList_toArray] at hA
  obtain ⟨v0, vs0, d0, ds0, q0, qs0, rfl, rfl, rfl, h0, r0⟩ := trodAll_cons hA
  obtain ⟨v1, vs1, d1, ds1, q1, qs1, rfl, rfl, rfl, h1, r1⟩ := trodAll_cons r0
  obtain ⟨v2, vs2, d2, ds2, q2, qs2, rfl, rfl, rfl, h2, r2⟩ := trodAll_cons r1
  obtain ⟨v3, vs3, d3, ds3, q3, qs3, rfl, rfl, rfl, h3, r3⟩ := trodAll_cons r2
  obtain ⟨v4, vs4, d4, ds4, q4, qs4, rfl, rfl, rfl, h4, r4⟩ := trodAll_cons r3
  obtain ⟨v5, vs5, d5, ds5, q5, qs5, rfl, rfl, rfl, h5, r5⟩ := trodAll_cons r4
  obtain ⟨v6, vs6, d6, ds6, q6, qs6, rfl, rfl, rfl, h6, r6⟩ := trodAll_cons r5
  obtain ⟨rfl, rfl, rfl⟩ := trodAll_nil r6
  obtain ⟨A0, n0, c0, rfl⟩ := okWide_slice Tryd.underlying22 (hval 0 22 v0 rfl rfl)
  obtain ⟨fu0, hf0⟩ := h0
  obtain ⟨p0, ⟨A0_, c0_, e0, s0⟩, k0⟩ := op22 _ _ _ _ _ _ _ _ _ hf0 (light_each hw (j := 0) rfl rfl)
  obtain ⟨rfl, rfl, rfl⟩ : A0 = A0_ ∧ n0 = p0.length ∧ c0 = c0_ := by simpa [Value.cells] using e0
  obtain ⟨p1, rfl, rfl, rfl, k1⟩ := open_int Tryd.underlying3 (hval 1 3 v1 rfl rfl) h1
  obtain ⟨p2, rfl, rfl, rfl, k2⟩ := open_int Tryd.underlying3 (hval 2 3 v2 rfl rfl) h2
  obtain ⟨p3, rfl, rfl, rfl, k3⟩ := open_string Tryd.underlying9 (hval 3 9 v3 rfl rfl) h3
  have k3_ : p3.size ≤ reachBytes := by
    have := sized_string hw (j := 3) (t := 9) rfl rfl
    simpa using this
  obtain ⟨p4, rfl, rfl, rfl, k4⟩ := open_int Tryd.underlying3 (hval 4 3 v4 rfl rfl) h4
  obtain ⟨p5, rfl, rfl, rfl, k5⟩ := open_int Tryd.underlying3 (hval 5 3 v5 rfl rfl) h5
  obtain ⟨p6, rfl, rfl, rfl, k6⟩ := open_int Tryd.underlying3 (hval 6 3 v6 rfl rfl) h6
  refine (annalkeep_DirNames_l FUEL p0 p1 p2 p3 p4 p5 p6 true (annalkeep_DirNames_true FUEL p0 p1 p2 p3 p4 p5 p6 k0 k1 k2 k3 k3_ k4 k5 k6) W hGl _ _ s0).mono ?_
  rintro e W' ⟨v, rfl, hb, hr⟩
  obtain rfl := sureBool _ _ _ hr
  exact ⟨rfl, hb⟩

theorem dirNames_reads (os : Os) {H : Type} (enc : TypeId × Value → H) : ∃ places, DataW.whole enc Tryd.prog ((World.doorLaid Tryd.prog 400 os).forCall (fun _ _ => 0) ⟨#[], #[.slice none 0 0, .int .i64 0, .int .i64 0, .string (ByteArray.mk #[]), .int .i64 0, .int .i64 0, .int .i64 0], []⟩).memory Tryd.f8.params.toList Rows.dirNamesSpec.vars false (#[.slice none 0 0, .int .i64 0, .int .i64 0, .string (ByteArray.mk #[]), .int .i64 0, .int .i64 0, .int .i64 0] : Array Value).toList 8 = some ([.nil, .lit (.int .i64 0), .lit (.int .i64 0), .lit (.string []), .lit (.int .i64 0), .lit (.int .i64 0), .lit (.int .i64 0)], [], places) := ⟨[], by kernel_rfl⟩
theorem dirNames_met (os : Os) : laidMetH Tryd.prog Rows.dirNamesRow.laid ((World.doorLaid Tryd.prog 400 os).forCall (fun _ _ => 0) ⟨#[], #[.slice none 0 0, .int .i64 0, .int .i64 0, .string (ByteArray.mk #[]), .int .i64 0, .int .i64 0, .int .i64 0], []⟩).memory := laidMetH_of_parts3 (fuel := 8) (laidMet_of_run' 8 (by kernel_rfl) (by kernel_rfl)) (by kernel_rfl) (by kernel_rfl)
set_option maxRecDepth 100000 in
theorem dirNames_lifted (os : Os) (started : os.Started) (H : Type) (enc : TypeId × Value → H) (Fi : Stop.Interp) :
    ReturnsInHanded {} Tryd.checked os 8 .any ((OpenSpec.ofChange Rows.dirNamesSpec).preRow enc Tryd.prog Tryd.f8 Rows.dirNamesRow.domain false Rows.dirNamesRow.laid) (((OpenSpec.ofChange Rows.dirNamesSpec).at Fi).post enc Tryd.prog Tryd.f8 false true false false) := by
  obtain ⟨places, hx⟩ := dirNames_reads os enc
  exact law_lifted_laid (C := Tryd.checked) (s := Rows.dirNamesSpec) (tb := 4) (lst := Rows.dirNamesRow.laid) dirNames_call (fun W hs hl => card_glob hs hl) prog_own started (by kernel_rfl) Tryd.func8
    (witness_row_atRef (enc := enc) (C := Tryd.checked) false (World.doorLaid Tryd.prog 400 os) #[.slice none 0 0, .int .i64 0, .int .i64 0, .string (ByteArray.mk #[]), .int .i64 0, .int .i64 0, .int .i64 0] rfl (by kernel_rfl) (by kernel_rfl) (by kernel_rfl)
      (OpenSpec.preRow_of_cond 8 hx (by kernel_rfl) (fun k hk => by cases hk) (by kernel_rfl) (dirNames_met os)))
    rfl rfl Tryd.underlying4 prog_laid (by intro t ht; rw [show Tryd.f8.params = _ from Tryd.params8] at ht; simp only [List.mem_cons, List.not_mem_nil, or_false] at ht; rcases ht with rfl | rfl | rfl | rfl | rfl | rfl | rfl <;> exact ⟨by kernel_rfl, of_decide_eq_true (by kernel_rfl)⟩)
    (by
      intro ds hd
      rw [show Tryd.f8.params = _ from Tryd.params8] at hd
      match ds, hd with
      | [x0, x1, x2, x3, x4, x5, x6], _ => exact ⟨rfl, rfl, rfl⟩) Fi

set_option maxRecDepth 100000 in
theorem dirNames_said : Rows.DirNamesSaid :=
  OpenClaim.holds_of_cond 8 Tryd.f8 rfl rfl rfl rfl rfl rfl rfl ⟨rfl, rfl, rfl, rfl, rfl⟩ rfl rfl rfl rfl rfl (by kernel_rfl) Tryd.func8 (show joinedFacts Tryd.prog 8 Tryd.f8 (OpenSpec.ofChange Rows.dirNamesSpec).bare Rows.dirNamesRow = true by unfold joinedFacts; rw [prog_enter, prog_lifts, prog_make]; kernel_rfl)
    (of_decide_eq_true (by kernel_rfl)) (by unfold Func.isWrapper; rw [if_neg (of_decide_eq_false (by kernel_rfl))]; exact ⟨rfl, rfl⟩)
    (fun os started H enc _ Fi => by rw [OpenClaim.pre_eq_preRow]; exact dirNames_lifted os started H enc Fi)
/-- The card. -/
theorem dirNamesCard_holds : Rows.DirNamesCardSaid :=
  Claim7.holds_tied_plain_at .later [] _ _ _ _ dirNames_said (fun _ h => by cases h) (by kernel_rfl) (fun _ h => by cases h) dirNames_row_tie rfl ⟨rfl, rfl⟩ (by kernel_rfl) rfl
    (fun f fn hf hfn => by
      obtain rfl : f = 8 := Option.some.inj (hf.symm.trans (show Tryd.prog.funcNamed Rows.dirNamesRow.func = some 8 by kernel_rfl))
      obtain rfl : fn = Tryd.f8 := (Option.some.inj (Tryd.func8.symm.trans hfn)).symm
      refine ⟨by kernel_rfl, fun j t ht => ?_⟩
      rw [Tryd.params8] at ht
      have hm : t ∈ [22, 3, 3, 9, 3, 3, 3] := by simpa using Array.mem_of_getElem? ht
      have hall : ([22, 3, 3, 9, 3, 3, 3].all fun u => !Tryd.prog.wantsStandIn u) = true := by kernel_rfl
      exact (show Tryd.prog.wantsStandIn t = false by simpa using List.all_eq_true.1 hall t hm))
    (by kernel_rfl)
end Go.Proofs.YtaccejbajgmdnaaDoor
