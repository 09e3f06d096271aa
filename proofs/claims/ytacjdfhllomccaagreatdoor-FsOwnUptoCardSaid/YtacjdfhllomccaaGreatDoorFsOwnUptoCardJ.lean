/- The card of the law FsOwn, its listed variables tied to the program (statement FsOwnUptoCardSaid): where what it reads is of bulk at most 1048576, the Go law FsOwn returns true and leaves its arguments as they were.
 Its conditions: none beyond that one of the statement. -/
import Derived.Test.YtacjdfhllomccaaGreatDoorOpenJ
import Derived.Test.YtacjdfhllomccaaGreatDoorPRunJ
namespace Go.Proofs.YtacjdfhllomccaaGreatDoor
open Go.ChangeShapes Go.WideShapes Go.ChangeAt Go.RowKit
set_option linter.unusedVariables false
set_option linter.unusedSimpArgs false
set_option maxRecDepth 100000 in
theorem fsOwn_call : LawCallGU Tryz.prog 10 Tryz.f10 := by
 intro H enc W base args ds p hval hA hw hbk hGl
 rw [Tryz.params10] at hA hval hw
 obtain ⟨l, rfl⟩ : ∃ l : List Value, args = l.toArray := ⟨args.toList, by simp⟩
 simp only [List.toList_toArray] at hA
 obtain ⟨v0, vs0, d0, ds0, q0, qs0, rfl, rfl, rfl, h0, r0⟩ := trodAll_cons hA
 obtain ⟨v1, vs1, d1, ds1, q1, qs1, rfl, rfl, rfl, h1, r1⟩ := trodAll_cons r0
 obtain ⟨v2, vs2, d2, ds2, q2, qs2, rfl, rfl, rfl, h2, r2⟩ := trodAll_cons r1
 obtain ⟨rfl, rfl, rfl⟩ := trodAll_nil r2
 obtain ⟨A0, n0, c0, rfl⟩ := okWide_slice Tryz.underlying22 (hval 0 22 v0 rfl rfl)
 obtain ⟨fu0, hf0⟩ := h0
 obtain ⟨p0, ⟨A0_, c0_, e0, s0⟩, k0⟩ := op22 _ _ _ _ _ _ _ _ _ hf0 (light_each hw (j := 0) rfl rfl)
 obtain ⟨rfl, rfl, rfl⟩ : A0 = A0_ ∧ n0 = p0.length ∧ c0 = c0_ := by simpa [Value.cells] using e0
 obtain ⟨A1, n1, c1, rfl⟩ := okWide_slice Tryz.underlying23 (hval 1 23 v1 rfl rfl)
 obtain ⟨fu1, hf1⟩ := h1
 obtain ⟨p1, ⟨A1_, c1_, e1, s1⟩, k1⟩ := op23 _ _ _ _ _ _ _ _ _ hf1 (light_each hw (j := 1) rfl rfl)
 obtain ⟨rfl, rfl, rfl⟩ : A1 = A1_ ∧ n1 = p1.length ∧ c1 = c1_ := by simpa [Value.cells] using e1
 obtain ⟨A2, n2, c2, rfl⟩ := okWide_slice Tryz.underlying23 (hval 2 23 v2 rfl rfl)
 obtain ⟨fu2, hf2⟩ := h2
 obtain ⟨p2, ⟨A2_, c2_, e2, s2⟩, k2⟩ := op23 _ _ _ _ _ _ _ _ _ hf2 (light_each hw (j := 2) rfl rfl)
 obtain ⟨rfl, rfl, rfl⟩ : A2 = A2_ ∧ n2 = p2.length ∧ c2 = c2_ := by simpa [Value.cells] using e2
 have b0 : p0.length ≤ 1048576 := bulk_slice Tryz.underlying22 hf0 rfl hbk (by simp)
 have b1 : p1.length ≤ 1048576 := bulk_slice Tryz.underlying23 hf1 rfl hbk (by simp)
 have b1_ : ∀ s ∈ p1, s.size ≤ 1048576 := bulk_strs Tryz.underlying23 Tryz.underlying9 (by kernel_rfl) hf1 rfl s1 hbk (by simp)
 have b2 : p2.length ≤ 1048576 := bulk_slice Tryz.underlying23 hf2 rfl hbk (by simp)
 have b2_ : ∀ s ∈ p2, s.size ≤ 1048576 := bulk_strs Tryz.underlying23 Tryz.underlying9 (by kernel_rfl) hf2 rfl s2 hbk (by simp)
 refine (annalkeep_FsOwn_l FUEL p0 p1 p2 true (annalkeep_FsOwn_true FUEL p0 p1 p2 k0 k1 k2 b0 b1 b1_ b2 b2_) W hGl _ _ s0 _ _ s1 _ _ s2).mono ?_
 rintro e W' ⟨v, rfl, hb, hr⟩
 obtain rfl := sureBool _ _ _ hr
 exact ⟨rfl, hb⟩
theorem fsOwn_reads (os : Os) {H : Type} (enc : TypeId × Value → H) : ∃ places, DataW.whole enc Tryz.prog ((World.laidAll Tryz.prog os Rows.fsOwnUptoRow.laid).forCall (fun _ _ => 0) ⟨#[], #[.slice none 0 0, .slice none 0 0, .slice none 0 0], []⟩).memory Tryz.f10.params.toList Rows.fsOwnSpec.vars false (#[.slice none 0 0, .slice none 0 0, .slice none 0 0] : Array Value).toList 8 = some ([.nil, .nil, .nil], [], places) := ⟨[], by kernel_rfl⟩
theorem fsOwn_met (os : Os) : laidMetH Tryz.prog Rows.fsOwnUptoRow.laid ((World.laidAll Tryz.prog os Rows.fsOwnUptoRow.laid).forCall (fun _ _ => 0) ⟨#[], #[.slice none 0 0, .slice none 0 0, .slice none 0 0], []⟩).memory := by
 rw [MakeChecks.laidMetH_plain _ _ _ (by kernel_rfl)]
 exact laidMet_laidAll _ (by kernel_rfl) (by kernel_rfl)
set_option maxRecDepth 100000 in
theorem fsOwn_lifted (os : Os) (started : os.Started) (H : Type) (enc : TypeId × Value → H) (Fi : Stop.Interp) :
 ReturnsInHanded {} Tryz.checked os 10 .any ((Rows.OpenSpec.upto Rows.fsOwnSpec).preRow enc Tryz.prog Tryz.f10 Rows.fsOwnUptoRow.domain false Rows.fsOwnUptoRow.laid) (((Rows.OpenSpec.upto Rows.fsOwnSpec).at Fi).post enc Tryz.prog Tryz.f10 false true false false) := by
 obtain ⟨places, hx⟩ := fsOwn_reads os enc
 exact law_lifted_laidU (C := Tryz.checked) (s := Rows.fsOwnSpec) (tb := 4) (lst := Rows.fsOwnUptoRow.laid) fsOwn_call (fun W hs hl => card_globD hs hl) prog_own started (by kernel_rfl) Tryz.func10
  (witness_row_atRef (enc := enc) (C := Tryz.checked) false (World.laidAll Tryz.prog os Rows.fsOwnUptoRow.laid) #[.slice none 0 0, .slice none 0 0, .slice none 0 0] rfl (by kernel_rfl) (by kernel_rfl) (by kernel_rfl)
   (OpenSpec.preRow_of_cond 8 hx (by kernel_rfl) (fun k hk => by cases hk; kernel_rfl) (by kernel_rfl) (fsOwn_met os)))
  rfl rfl Tryz.underlying4 prog_laid (by intro t ht; rw [show Tryz.f10.params = _ from Tryz.params10] at ht; simp only [List.mem_cons, List.not_mem_nil, or_false] at ht; rcases ht with rfl | rfl | rfl <;> exact ⟨by kernel_rfl, of_decide_eq_true (by kernel_rfl)⟩)
  (by
   intro ds hd
   rw [show Tryz.f10.params = _ from Tryz.params10] at hd
   match ds, hd with
   | [x0, x1, x2], _ => exact ⟨rfl, rfl, rfl⟩) Fi
set_option maxRecDepth 100000 in
theorem fsOwn_said : Rows.FsOwnUptoSaid :=
 OpenClaim.holds_of_cond 10 Tryz.f10 rfl rfl rfl rfl rfl rfl rfl ⟨rfl, rfl, rfl, rfl, rfl⟩ rfl rfl rfl rfl rfl (by kernel_rfl) Tryz.func10 (show joinedFacts Tryz.prog 10 Tryz.f10 (Rows.OpenSpec.upto Rows.fsOwnSpec).bare Rows.fsOwnUptoRow = true by unfold joinedFacts; rw [prog_enter, prog_lifts, prog_make]; kernel_rfl)
  (of_decide_eq_true (by kernel_rfl)) (by unfold Func.isWrapper; rw [if_neg (of_decide_eq_false (by kernel_rfl))]; exact ⟨rfl, rfl⟩)
  (fun os started H enc _ Fi => by rw [OpenClaim.pre_eq_preRow]; exact fsOwn_lifted os started H enc Fi)
theorem fsOwnUptoCard_holds : Rows.FsOwnUptoCardSaid :=
 Claim7.holds_tied_plain_at .later [] _ _ _ _ fsOwn_said (fun _ h => by cases h) (by kernel_rfl) (fun _ h => by cases h) fsOwnUpto_row_tie rfl ⟨rfl, rfl⟩ (by kernel_rfl) rfl
  (fun f fn hf hfn => by
   obtain rfl : f = 10 := Option.some.inj (hf.symm.trans (show Tryz.prog.funcNamed Rows.fsOwnUptoRow.func = some 10 by kernel_rfl))
   obtain rfl : fn = Tryz.f10 := (Option.some.inj (Tryz.func10.symm.trans hfn)).symm
   refine ⟨by kernel_rfl, fun j t ht => ?_⟩
   rw [Tryz.params10] at ht
   have hm : t ∈ [22, 23, 23] := by simpa using Array.mem_of_getElem? ht
   have hall : ([22, 23, 23].all fun u => !Tryz.prog.wantsStandIn u) = true := by kernel_rfl
   exact (show Tryz.prog.wantsStandIn t = false by simpa using List.all_eq_true.1 hall t hm))
  (by kernel_rfl)
end Go.Proofs.YtacjdfhllomccaaGreatDoor
