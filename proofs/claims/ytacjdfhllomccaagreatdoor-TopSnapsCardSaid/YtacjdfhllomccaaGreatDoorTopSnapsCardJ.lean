/- The card of the law TopSnaps, its listed variables tied to the program (statement TopSnapsCardSaid): whatever the input, the Go law TopSnaps returns true and leaves its arguments as they were.
 Its conditions: none. -/
import Derived.Test.YtacjdfhllomccaaGreatDoorOpenJ
import Derived.Test.YtacjdfhllomccaaGreatDoorWTopSnapsLJ
namespace Go.Proofs.YtacjdfhllomccaaGreatDoor
open Go.ChangeShapes Go.WideShapes Go.ChangeAt Go.RowKit
set_option linter.unusedVariables false
set_option linter.unusedSimpArgs false
set_option maxRecDepth 100000 in
theorem topSnaps_call : LawCallG Tryz.prog 14 Tryz.f14 := by
 intro H enc W base args ds p hval hA hw hGl
 rw [Tryz.params14] at hA hval hw
 obtain ⟨l, rfl⟩ : ∃ l : List Value, args = l.toArray := ⟨args.toList, by simp⟩
 simp only [List.toList_toArray] at hA
 obtain ⟨v0, vs0, d0, ds0, q0, qs0, rfl, rfl, rfl, h0, r0⟩ := trodAll_cons hA
 obtain ⟨v1, vs1, d1, ds1, q1, qs1, rfl, rfl, rfl, h1, r1⟩ := trodAll_cons r0
 obtain ⟨v2, vs2, d2, ds2, q2, qs2, rfl, rfl, rfl, h2, r2⟩ := trodAll_cons r1
 obtain ⟨rfl, rfl, rfl⟩ := trodAll_nil r2
 obtain ⟨A0, n0, c0, rfl⟩ := okWide_slice Tryz.underlying23 (hval 0 23 v0 rfl rfl)
 obtain ⟨fu0, hf0⟩ := h0
 obtain ⟨p0, ⟨A0_, c0_, e0, s0⟩, k0⟩ := op23 _ _ _ _ _ _ _ _ _ hf0 (light_each hw (j := 0) rfl rfl)
 obtain ⟨rfl, rfl, rfl⟩ : A0 = A0_ ∧ n0 = p0.length ∧ c0 = c0_ := by simpa [Value.cells] using e0
 obtain ⟨A1, n1, c1, rfl⟩ := okWide_slice Tryz.underlying23 (hval 1 23 v1 rfl rfl)
 obtain ⟨fu1, hf1⟩ := h1
 obtain ⟨p1, ⟨A1_, c1_, e1, s1⟩, k1⟩ := op23 _ _ _ _ _ _ _ _ _ hf1 (light_each hw (j := 1) rfl rfl)
 obtain ⟨rfl, rfl, rfl⟩ : A1 = A1_ ∧ n1 = p1.length ∧ c1 = c1_ := by simpa [Value.cells] using e1
 obtain ⟨p2, rfl, rfl, rfl, k2⟩ := open_int Tryz.underlying3 (hval 2 3 v2 rfl rfl) h2
 refine (annaltop_TopSnaps_l FUEL p0 p1 p2 true (annaltop_TopSnaps_true FUEL p0 p1 p2 k0 k1 k2) W hGl _ _ s0 _ _ s1).mono ?_
 rintro e W' ⟨v, rfl, hb, hr⟩
 obtain rfl := sureBool _ _ _ hr
 exact ⟨rfl, hb⟩
theorem topSnaps_reads (os : Os) {H : Type} (enc : TypeId × Value → H) : ∃ places, DataW.whole enc Tryz.prog ((World.laidAll Tryz.prog os Rows.topSnapsRow.laid).forCall (fun _ _ => 0) ⟨#[], #[.slice none 0 0, .slice none 0 0, .int .i64 0], []⟩).memory Tryz.f14.params.toList Rows.topSnapsSpec.vars false (#[.slice none 0 0, .slice none 0 0, .int .i64 0] : Array Value).toList 8 = some ([.nil, .nil, .lit (.int .i64 0)], [], places) := ⟨[], by kernel_rfl⟩
theorem topSnaps_met (os : Os) : laidMetH Tryz.prog Rows.topSnapsRow.laid ((World.laidAll Tryz.prog os Rows.topSnapsRow.laid).forCall (fun _ _ => 0) ⟨#[], #[.slice none 0 0, .slice none 0 0, .int .i64 0], []⟩).memory := by
 rw [MakeChecks.laidMetH_plain _ _ _ (by kernel_rfl)]
 exact laidMet_laidAll _ (by kernel_rfl) (by kernel_rfl)
set_option maxRecDepth 100000 in
theorem topSnaps_lifted (os : Os) (started : os.Started) (H : Type) (enc : TypeId × Value → H) (Fi : Stop.Interp) :
 ReturnsInHanded {} Tryz.checked os 14 .any ((OpenSpec.ofChange Rows.topSnapsSpec).preRow enc Tryz.prog Tryz.f14 Rows.topSnapsRow.domain false Rows.topSnapsRow.laid) (((OpenSpec.ofChange Rows.topSnapsSpec).at Fi).post enc Tryz.prog Tryz.f14 false true false false) := by
 obtain ⟨places, hx⟩ := topSnaps_reads os enc
 exact law_lifted_laid (C := Tryz.checked) (s := Rows.topSnapsSpec) (tb := 4) (lst := Rows.topSnapsRow.laid) topSnaps_call (fun W hs hl => card_globD hs hl) prog_own started (by kernel_rfl) Tryz.func14
  (witness_row_atRef (enc := enc) (C := Tryz.checked) false (World.laidAll Tryz.prog os Rows.topSnapsRow.laid) #[.slice none 0 0, .slice none 0 0, .int .i64 0] rfl (by kernel_rfl) (by kernel_rfl) (by kernel_rfl)
   (OpenSpec.preRow_of_cond 8 hx (by kernel_rfl) (fun k hk => by cases hk) (by kernel_rfl) (topSnaps_met os)))
  rfl rfl Tryz.underlying4 prog_laid (by intro t ht; rw [show Tryz.f14.params = _ from Tryz.params14] at ht; simp only [List.mem_cons, List.not_mem_nil, or_false] at ht; rcases ht with rfl | rfl | rfl <;> exact ⟨by kernel_rfl, of_decide_eq_true (by kernel_rfl)⟩)
  (by
   intro ds hd
   rw [show Tryz.f14.params = _ from Tryz.params14] at hd
   match ds, hd with
   | [x0, x1, x2], _ => exact ⟨rfl, rfl, rfl⟩) Fi
set_option maxRecDepth 100000 in
theorem topSnaps_said : Rows.TopSnapsSaid :=
 OpenClaim.holds_of_cond 14 Tryz.f14 rfl rfl rfl rfl rfl rfl rfl ⟨rfl, rfl, rfl, rfl, rfl⟩ rfl rfl rfl rfl rfl (by kernel_rfl) Tryz.func14 (show joinedFacts Tryz.prog 14 Tryz.f14 (OpenSpec.ofChange Rows.topSnapsSpec).bare Rows.topSnapsRow = true by unfold joinedFacts; rw [prog_enter, prog_lifts, prog_make]; kernel_rfl)
  (of_decide_eq_true (by kernel_rfl)) (by unfold Func.isWrapper; rw [if_neg (of_decide_eq_false (by kernel_rfl))]; exact ⟨rfl, rfl⟩)
  (fun os started H enc _ Fi => by rw [OpenClaim.pre_eq_preRow]; exact topSnaps_lifted os started H enc Fi)
theorem topSnapsCard_holds : Rows.TopSnapsCardSaid :=
 Claim7.holds_tied_plain_at .later [] _ _ _ _ topSnaps_said (fun _ h => by cases h) (by kernel_rfl) (fun _ h => by cases h) topSnaps_row_tie rfl ⟨rfl, rfl⟩ (by kernel_rfl) rfl
  (fun f fn hf hfn => by
   obtain rfl : f = 14 := Option.some.inj (hf.symm.trans (show Tryz.prog.funcNamed Rows.topSnapsRow.func = some 14 by kernel_rfl))
   obtain rfl : fn = Tryz.f14 := (Option.some.inj (Tryz.func14.symm.trans hfn)).symm
   refine ⟨by kernel_rfl, fun j t ht => ?_⟩
   rw [Tryz.params14] at ht
   have hm : t ∈ [23, 23, 3] := by simpa using Array.mem_of_getElem? ht
   have hall : ([23, 23, 3].all fun u => !Tryz.prog.wantsStandIn u) = true := by kernel_rfl
   exact (show Tryz.prog.wantsStandIn t = false by simpa using List.all_eq_true.1 hall t hm))
  (by kernel_rfl)
end Go.Proofs.YtacjdfhllomccaaGreatDoor
