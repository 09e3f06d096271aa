/- The card of the law DirMany, its listed variables tied to the program (statement DirManyCardSaid): whatever the input, the Go law DirMany returns true and leaves its arguments as they were.
   Its conditions: none. -/
import Derived.Test.YtaccejbajgmdnaaDoorCard
import Derived.Test.YtaccejbajgmdnaaDoorWDirManyL
import Derived.Test.YtaccejbajgmdnaaDoorQDirMany
import Derived.Test.YtaccejbajgmdnaaDoorOpen
namespace Go.Proofs.YtaccejbajgmdnaaDoor
open Go.ChangeShapes Go.WideShapes Go.ChangeAt Go.RowKit
set_option linter.unusedVariables false
set_option linter.unusedSimpArgs false

set_option maxRecDepth 100000 in
theorem dirMany_call : LawCallG Tryd.prog 7 Tryd.f7 := by
  intro H enc W base args ds p hval hA hw hGl
  rw [Tryd.params7] at hA hval hw
  obtain ⟨l, rfl⟩ : ∃ l : List Value, args = l.toArray := ⟨args.toList, by simp⟩
  simp only [List.toList_toArray] at hA
  obtain ⟨v0, vs0, d0, ds0, q0, qs0, rfl, rfl, rfl, h0, r0⟩ := trodAll_cons hA
  obtain ⟨v1, vs1, d1, ds1, q1, qs1, rfl, rfl, rfl, h1, r1⟩ := trodAll_cons r0
  obtain ⟨rfl, rfl, rfl⟩ := trodAll_nil r1
  obtain ⟨A0, n0, c0, rfl⟩ := okWide_slice Tryd.underlying45 (hval 0 45 v0 rfl rfl)
  obtain ⟨fu0, hf0⟩ := h0
  obtain ⟨p0, ⟨A0_, c0_, e0, s0⟩, k0⟩ := op45 _ _ _ _ _ _ _ _ _ hf0 (light_each hw (j := 0) rfl rfl)
  obtain ⟨rfl, rfl, rfl⟩ : A0 = A0_ ∧ n0 = p0.length ∧ c0 = c0_ := by simpa [Value.cells] using e0
  obtain ⟨p1, rfl, rfl, rfl, k1⟩ := open_int Tryd.underlying3 (hval 1 3 v1 rfl rfl) h1
  refine (annalkeep_DirMany_l FUEL p0 p1 true (annalkeep_DirMany_true FUEL p0 p1 k0 k1) W hGl _ _ s0).mono ?_
  rintro e W' ⟨v, rfl, hb, hr⟩
  obtain rfl := sureBool _ _ _ hr
  exact ⟨rfl, hb⟩

theorem dirMany_reads (os : Os) {H : Type} (enc : TypeId × Value → H) : ∃ places, DataW.whole enc Tryd.prog ((World.doorLaid Tryd.prog 400 os).forCall (fun _ _ => 0) ⟨#[], #[.slice none 0 0, .int .i64 0], []⟩).memory Tryd.f7.params.toList Rows.dirManySpec.vars false (#[.slice none 0 0, .int .i64 0] : Array Value).toList 8 = some ([.nil, .lit (.int .i64 0)], [], places) := ⟨[], by kernel_rfl⟩
theorem dirMany_met (os : Os) : laidMetH Tryd.prog Rows.dirManyRow.laid ((World.doorLaid Tryd.prog 400 os).forCall (fun _ _ => 0) ⟨#[], #[.slice none 0 0, .int .i64 0], []⟩).memory := laidMetH_of_parts3 (fuel := 8) (laidMet_of_run' 8 (by kernel_rfl) (by kernel_rfl)) (by kernel_rfl) (by kernel_rfl)
set_option maxRecDepth 100000 in
theorem dirMany_lifted (os : Os) (started : os.Started) (H : Type) (enc : TypeId × Value → H) (Fi : Stop.Interp) :
    ReturnsInHanded {} Tryd.checked os 7 .any ((OpenSpec.ofChange Rows.dirManySpec).preRow enc Tryd.prog Tryd.f7 Rows.dirManyRow.domain false Rows.dirManyRow.laid) (((OpenSpec.ofChange Rows.dirManySpec).at Fi).post enc Tryd.prog Tryd.f7 false true false false) := by
  obtain ⟨places, hx⟩ := dirMany_reads os enc
  exact law_lifted_laid (C := Tryd.checked) (s := Rows.dirManySpec) (tb := 4) (lst := Rows.dirManyRow.laid) dirMany_call (fun W hs hl => card_glob hs hl) prog_own started (by kernel_rfl) Tryd.func7
    (witness_row_atRef (enc := enc) (C := Tryd.checked) false (World.doorLaid Tryd.prog 400 os) #[.slice none 0 0, .int .i64 0] rfl (by kernel_rfl) (by kernel_rfl) (by kernel_rfl)
      (OpenSpec.preRow_of_cond 8 hx (by kernel_rfl) (fun k hk => by cases hk) (by kernel_rfl) (dirMany_met os)))
    rfl rfl Tryd.underlying4 prog_laid (by intro t ht; rw [show Tryd.f7.params = _ from Tryd.params7] at ht; simp only [List.mem_cons, List.not_mem_nil, or_false] at ht; rcases ht with rfl | rfl <;> exact ⟨by kernel_rfl, of_decide_eq_true (by kernel_rfl)⟩)
    (by
      intro ds hd
      rw [show Tryd.f7.params = _ from Tryd.params7] at hd
      match ds, hd with
      | [x0, x1], _ => exact ⟨rfl, rfl, rfl⟩) Fi

set_option maxRecDepth 100000 in
theorem dirMany_said : Rows.DirManySaid :=
  OpenClaim.holds_of_cond 7 Tryd.f7 rfl rfl rfl rfl rfl rfl rfl ⟨rfl, rfl, rfl, rfl, rfl⟩ rfl rfl rfl rfl rfl (by kernel_rfl) Tryd.func7 (show joinedFacts Tryd.prog 7 Tryd.f7 (OpenSpec.ofChange Rows.dirManySpec).bare Rows.dirManyRow = true by unfold joinedFacts; rw [prog_enter, prog_lifts, prog_make]; kernel_rfl)
    (of_decide_eq_true (by kernel_rfl)) (by unfold Func.isWrapper; rw [if_neg (of_decide_eq_false (by kernel_rfl))]; exact ⟨rfl, rfl⟩)
    (fun os started H enc _ Fi => by rw [OpenClaim.pre_eq_preRow]; exact dirMany_lifted os started H enc Fi)
/-- The card. -/
theorem dirManyCard_holds : Rows.DirManyCardSaid :=
  Claim7.holds_tied_plain_at .later [] _ _ _ _ dirMany_said (fun _ h => by cases h) (by kernel_rfl) (fun _ h => by cases h) dirMany_row_tie rfl ⟨rfl, rfl⟩ (by kernel_rfl) rfl
    (fun f fn hf hfn => by
      obtain rfl : f = 7 := Option.some.inj (hf.symm.trans (show Tryd.prog.funcNamed Rows.dirManyRow.func = some 7 by kernel_rfl))
      obtain rfl : fn = Tryd.f7 := (Option.some.inj (Tryd.func7.symm.trans hfn)).symm
      refine ⟨by kernel_rfl, fun j t ht => ?_⟩
      rw [Tryd.params7] at ht
      have hm : t ∈ [45, 3] := by simpa using Array.mem_of_getElem? ht
      have hall : ([45, 3].all fun u => !Tryd.prog.wantsStandIn u) = true := by kernel_rfl
      exact (show Tryd.prog.wantsStandIn t = false by simpa using List.all_eq_true.1 hall t hm))
    (by kernel_rfl)
end Go.Proofs.YtaccejbajgmdnaaDoor
