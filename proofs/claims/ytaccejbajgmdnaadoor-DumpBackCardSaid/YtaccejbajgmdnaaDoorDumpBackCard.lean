/- The card of the law DumpBack, its listed variables tied to the program (statement DumpBackCardSaid): whatever the input, the Go law DumpBack returns true and leaves its arguments as they were.
   Its conditions: none. -/
import Derived.Test.YtaccejbajgmdnaaDoorCardD
import Derived.Test.YtaccejbajgmdnaaDoorWDumpBackL
import Derived.Test.YtaccejbajgmdnaaDoorQDumpBack
import Derived.Test.YtaccejbajgmdnaaDoorOpen
namespace Go.Proofs.YtaccejbajgmdnaaDoor
open Go.ChangeShapes Go.WideShapes Go.ChangeAt Go.RowKit
set_option linter.unusedVariables false
set_option linter.unusedSimpArgs false

set_option maxRecDepth 100000 in
theorem dumpBack_call : LawCallG Tryd.prog 6 Tryd.f6 := by
  intro H enc W base args ds p hval hA hw hGl
  rw [Tryd.params6] at hA hval hw
  obtain ⟨l, rfl⟩ : ∃ l : List Value, args = l.toArray := ⟨args.toList, by simp⟩
  simp only [List.toList_toArray] at hA
  obtain ⟨v0, vs0, d0, ds0, q0, qs0, rfl, rfl, rfl, h0, r0⟩ := trodAll_cons hA
  obtain ⟨v1, vs1, d1, ds1, q1, qs1, rfl, rfl, rfl, h1, r1⟩ := trodAll_cons r0
  obtain ⟨rfl, rfl, rfl⟩ := trodAll_nil r1
  obtain ⟨A0, n0, c0, rfl⟩ := okWide_slice Tryd.underlying22 (hval 0 22 v0 rfl rfl)
  obtain ⟨fu0, hf0⟩ := h0
  obtain ⟨p0, ⟨A0_, c0_, e0, s0⟩, k0⟩ := op22 _ _ _ _ _ _ _ _ _ hf0 (light_each hw (j := 0) rfl rfl)
  obtain ⟨rfl, rfl, rfl⟩ : A0 = A0_ ∧ n0 = p0.length ∧ c0 = c0_ := by simpa [Value.cells] using e0
  obtain ⟨p1, rfl, rfl, rfl, k1⟩ := open_int Tryd.underlying3 (hval 1 3 v1 rfl rfl) h1
  refine (annalkeep_DumpBack_l FUEL p0 p1 true (annalkeep_DumpBack_true FUEL p0 p1 k0 k1) W hGl _ _ s0).mono ?_
  rintro e W' ⟨v, rfl, hb, hr⟩
  obtain rfl := sureBool _ _ _ hr
  exact ⟨rfl, hb⟩

theorem dumpBack_reads (os : Os) {H : Type} (enc : TypeId × Value → H) : ∃ places, DataW.whole enc Tryd.prog ((World.laidAll Tryd.prog os Rows.dumpBackRow.laid).forCall (fun _ _ => 0) ⟨#[], #[.slice none 0 0, .int .i64 0], []⟩).memory Tryd.f6.params.toList Rows.dumpBackSpec.vars false (#[.slice none 0 0, .int .i64 0] : Array Value).toList 8 = some ([.nil, .lit (.int .i64 0)], [], places) := ⟨[], by kernel_rfl⟩
theorem dumpBack_met (os : Os) : laidMetH Tryd.prog Rows.dumpBackRow.laid ((World.laidAll Tryd.prog os Rows.dumpBackRow.laid).forCall (fun _ _ => 0) ⟨#[], #[.slice none 0 0, .int .i64 0], []⟩).memory := by
  rw [MakeChecks.laidMetH_plain _ _ _ (by kernel_rfl)]
  exact laidMet_laidAll _ (by kernel_rfl) (by kernel_rfl)
set_option maxRecDepth 100000 in
theorem dumpBack_lifted (os : Os) (started : os.Started) (H : Type) (enc : TypeId × Value → H) (Fi : Stop.Interp) :
    ReturnsInHanded {} Tryd.checked os 6 .any ((OpenSpec.ofChange Rows.dumpBackSpec).preRow enc Tryd.prog Tryd.f6 Rows.dumpBackRow.domain false Rows.dumpBackRow.laid) (((OpenSpec.ofChange Rows.dumpBackSpec).at Fi).post enc Tryd.prog Tryd.f6 false true false false) := by
  obtain ⟨places, hx⟩ := dumpBack_reads os enc
  exact law_lifted_laid (C := Tryd.checked) (s := Rows.dumpBackSpec) (tb := 4) (lst := Rows.dumpBackRow.laid) dumpBack_call (fun W hs hl => card_globD hs hl) prog_own started (by kernel_rfl) Tryd.func6
    (witness_row_atRef (enc := enc) (C := Tryd.checked) false (World.laidAll Tryd.prog os Rows.dumpBackRow.laid) #[.slice none 0 0, .int .i64 0] rfl (by kernel_rfl) (by kernel_rfl) (by kernel_rfl)
      (OpenSpec.preRow_of_cond 8 hx (by kernel_rfl) (fun k hk => by cases hk) (by kernel_rfl) (dumpBack_met os)))
    rfl rfl Tryd.underlying4 prog_laid (by intro t ht; rw [show Tryd.f6.params = _ from Tryd.params6] at ht; simp only [List.mem_cons, List.not_mem_nil, or_false] at ht; rcases ht with rfl | rfl <;> exact ⟨by kernel_rfl, of_decide_eq_true (by kernel_rfl)⟩)
    (by
      intro ds hd
      rw [show Tryd.f6.params = _ from Tryd.params6] at hd
      match ds, hd with
      | [x0, x1], _ => exact ⟨rfl, rfl, rfl⟩) Fi

set_option maxRecDepth 100000 in
theorem dumpBack_said : Rows.DumpBackSaid :=
  OpenClaim.holds_of_cond 6 Tryd.f6 rfl rfl rfl rfl rfl rfl rfl ⟨rfl, rfl, rfl, rfl, rfl⟩ rfl rfl rfl rfl rfl (by kernel_rfl) Tryd.func6 (show joinedFacts Tryd.prog 6 Tryd.f6 (OpenSpec.ofChange Rows.dumpBackSpec).bare Rows.dumpBackRow = true by unfold joinedFacts; rw [prog_enter, prog_lifts, prog_make]; kernel_rfl)
    (of_decide_eq_true (by kernel_rfl)) (by unfold Func.isWrapper; rw [if_neg (of_decide_eq_false (by kernel_rfl))]; exact ⟨rfl, rfl⟩)
    (fun os started H enc _ Fi => by rw [OpenClaim.pre_eq_preRow]; exact dumpBack_lifted os started H enc Fi)
/-- The card. -/
theorem dumpBackCard_holds : Rows.DumpBackCardSaid :=
  Claim7.holds_tied_plain_at .later [] _ _ _ _ dumpBack_said (fun _ h => by cases h) (by kernel_rfl) (fun _ h => by cases h) dumpBack_row_tie rfl ⟨rfl, rfl⟩ (by kernel_rfl) rfl
    (fun f fn hf hfn => by
      obtain rfl : f = 6 := Option.some.inj (hf.symm.trans (show Tryd.prog.funcNamed Rows.dumpBackRow.func = some 6 by kernel_rfl))
      obtain rfl : fn = Tryd.f6 := (Option.some.inj (Tryd.func6.symm.trans hfn)).symm
      refine ⟨by kernel_rfl, fun j t ht => ?_⟩
      rw [Tryd.params6] at ht
      have hm : t ∈ [22, 3] := by simpa using Array.mem_of_getElem? ht
      have hall : ([22, 3].all fun u => !Tryd.prog.wantsStandIn u) = true := by kernel_rfl
      exact (show Tryd.prog.wantsStandIn t = false by simpa using List.all_eq_true.1 hall t hm))
    (by kernel_rfl)
end Go.Proofs.YtaccejbajgmdnaaDoor
