/- The card of the law DumpOne, its listed variables tied to the program (statement DumpOneUptoCardSaid): where what it reads is of bulk at most 1048576, the Go law DumpOne returns true and leaves its arguments as they were.
   Its conditions: none beyond that one of the statement. -/
import Derived.Test.YtaccejbajgmdnaaDoorCardD
import Derived.Test.YtaccejbajgmdnaaDoorWDumpOneL
import Derived.Test.YtaccejbajgmdnaaDoorQDumpOne
import Derived.Test.YtaccejbajgmdnaaDoorOpen
namespace Go.Proofs.YtaccejbajgmdnaaDoor
open Go.ChangeShapes Go.WideShapes Go.ChangeAt Go.RowKit
set_option linter.unusedVariables false
set_option linter.unusedSimpArgs false

set_option maxRecDepth 100000 in
theorem dumpOne_call : LawCallGU Tryd.prog 5 Tryd.f5 := by
  intro H enc W base args ds p hval hA hw hbk hGl
  rw [Tryd.params5] at hA hval hw
  obtain ⟨l, rfl⟩ : ∃ l : List Value, args = l.toArray := ⟨args.toList, by simp⟩
  simp only [List.toList_toArray] at hA
  obtain ⟨v0, vs0, d0, ds0, q0, qs0, rfl, rfl, rfl, h0, r0⟩ := trodAll_cons hA
  obtain ⟨rfl, rfl, rfl⟩ := trodAll_nil r0
  obtain ⟨p0, rfl, rfl, rfl, k0⟩ := open_string Tryd.underlying9 (hval 0 9 v0 rfl rfl) h0
  have k0_ : p0.size ≤ reachBytes := by
    have := sized_string hw (j := 0) (t := 9) rfl rfl
    simpa using this
  have b0 : p0.size ≤ 1048576 := bulk_string hbk (by simp)
  refine (annalkeep_DumpOne_l FUEL p0 true (annalkeep_DumpOne_true FUEL p0 k0 k0_ b0) W hGl ).mono ?_
  rintro e W' ⟨v, rfl, hb, hr⟩
  obtain rfl := sureBool _ _ _ hr
  exact ⟨rfl, hb⟩

theorem dumpOne_reads (os : Os) {H : Type} (enc : TypeId × Value → H) : ∃ places, DataW.whole enc Tryd.prog ((World.laidAll Tryd.prog os Rows.dumpOneUptoRow.laid).forCall (fun _ _ => 0) ⟨#[], #[.string (ByteArray.mk #[])], []⟩).memory Tryd.f5.params.toList Rows.dumpOneSpec.vars false (#[.string (ByteArray.mk #[])] : Array Value).toList 8 = some ([.lit (.string [])], [], places) := ⟨[], by kernel_rfl⟩
theorem dumpOne_met (os : Os) : laidMetH Tryd.prog Rows.dumpOneUptoRow.laid ((World.laidAll Tryd.prog os Rows.dumpOneUptoRow.laid).forCall (fun _ _ => 0) ⟨#[], #[.string (ByteArray.mk #[])], []⟩).memory := by
  rw [MakeChecks.laidMetH_plain _ _ _ (by kernel_rfl)]
  exact laidMet_laidAll _ (by kernel_rfl) (by kernel_rfl)
set_option maxRecDepth 100000 in
theorem dumpOne_lifted (os : Os) (started : os.Started) (H : Type) (enc : TypeId × Value → H) (Fi : Stop.Interp) :
    ReturnsInHanded {} Tryd.checked os 5 .any ((Rows.OpenSpec.upto Rows.dumpOneSpec).preRow enc Tryd.prog Tryd.f5 Rows.dumpOneUptoRow.domain false Rows.dumpOneUptoRow.laid) (((Rows.OpenSpec.upto Rows.dumpOneSpec).at Fi).post enc Tryd.prog Tryd.f5 false true false false) := by
  obtain ⟨places, hx⟩ := dumpOne_reads os enc
  exact law_lifted_laidU (C := Tryd.checked) (s := Rows.dumpOneSpec) (tb := 4) (lst := Rows.dumpOneUptoRow.laid) dumpOne_call (fun W hs hl => card_globD hs hl) prog_own started (by kernel_rfl) Tryd.func5
    (witness_row_atRef (enc := enc) (C := Tryd.checked) false (World.laidAll Tryd.prog os Rows.dumpOneUptoRow.laid) #[.string (ByteArray.mk #[])] rfl (by kernel_rfl) (by kernel_rfl) (by kernel_rfl)
      (OpenSpec.preRow_of_cond 8 hx (by kernel_rfl) (fun k hk => by cases hk; kernel_rfl) (by kernel_rfl) (dumpOne_met os)))
    rfl rfl Tryd.underlying4 prog_laid (by intro t ht; rw [show Tryd.f5.params = _ from Tryd.params5] at ht; simp only [List.mem_cons, List.not_mem_nil, or_false] at ht; subst ht; exact ⟨by kernel_rfl, of_decide_eq_true (by kernel_rfl)⟩)
    (by
      intro ds hd
      rw [show Tryd.f5.params = _ from Tryd.params5] at hd
      match ds, hd with
      | [x0], _ => exact ⟨rfl, rfl, rfl⟩) Fi

set_option maxRecDepth 100000 in
theorem dumpOne_said : Rows.DumpOneUptoSaid :=
  OpenClaim.holds_of_cond 5 Tryd.f5 rfl rfl rfl rfl rfl rfl rfl ⟨rfl, rfl, rfl, rfl, rfl⟩ rfl rfl rfl rfl rfl (by kernel_rfl) Tryd.func5 (show joinedFacts Tryd.prog 5 Tryd.f5 (Rows.OpenSpec.upto Rows.dumpOneSpec).bare Rows.dumpOneUptoRow = true by unfold joinedFacts; rw [prog_enter, prog_lifts, prog_make]; kernel_rfl)
    (of_decide_eq_true (by kernel_rfl)) (by unfold Func.isWrapper; rw [if_neg (of_decide_eq_false (by kernel_rfl))]; exact ⟨rfl, rfl⟩)
    (fun os started H enc _ Fi => by rw [OpenClaim.pre_eq_preRow]; exact dumpOne_lifted os started H enc Fi)
/-- The card. -/
theorem dumpOneUptoCard_holds : Rows.DumpOneUptoCardSaid :=
  Claim7.holds_tied_plain_at .later [] _ _ _ _ dumpOne_said (fun _ h => by cases h) (by kernel_rfl) (fun _ h => by cases h) dumpOneUpto_row_tie rfl ⟨rfl, rfl⟩ (by kernel_rfl) rfl
    (fun f fn hf hfn => by
      obtain rfl : f = 5 := Option.some.inj (hf.symm.trans (show Tryd.prog.funcNamed Rows.dumpOneUptoRow.func = some 5 by kernel_rfl))
      obtain rfl : fn = Tryd.f5 := (Option.some.inj (Tryd.func5.symm.trans hfn)).symm
      refine ⟨by kernel_rfl, fun j t ht => ?_⟩
      rw [Tryd.params5] at ht
      have hm : t ∈ [9] := by simpa using Array.mem_of_getElem? ht
      have hall : ([9].all fun u => !Tryd.prog.wantsStandIn u) = true := by kernel_rfl
      exact (show Tryd.prog.wantsStandIn t = false by simpa using List.all_eq_true.1 hall t hm))
    (by kernel_rfl)
end Go.Proofs.YtaccejbajgmdnaaDoor
