/- The card of the law FsTree, its listed variables tied to the program (statement FsTreeUptoCardSaid): where what it reads is of bulk at most 1048576, the Go law FsTree returns true and leaves its arguments as they were.
 Its conditions: none beyond that one of the statement. -/
import Derived.Test.YtacjdfhllomccaaGreatDoorCardDJ
import Derived.Test.YtacjdfhllomccaaGreatDoorOpenJ
namespace Go.Proofs.YtacjdfhllomccaaGreatDoor
open Go.ChangeShapes Go.WideShapes Go.ChangeAt Go.RowKit
set_option linter.unusedVariables false
set_option linter.unusedSimpArgs false
set_option maxRecDepth 100000 in
theorem fsTree_call : LawCallGU Tryz.prog 12 Tryz.f12 := by
 intro H enc W base args ds p hval hA hw hbk hGl
 rw [Tryz.params12] at hA hval hw
 obtain ⟨l, rfl⟩ : ∃ l : List Value, args = l.toArray := ⟨args.toList, by simp⟩
 simp only [List.toList_toArray] at hA
 obtain ⟨v0, vs0, d0, ds0, q0, qs0, rfl, rfl, rfl, h0, r0⟩ := trodAll_cons hA
 obtain ⟨v1, vs1, d1, ds1, q1, qs1, rfl, rfl, rfl, h1, r1⟩ := trodAll_cons r0
 obtain ⟨v2, vs2, d2, ds2, q2, qs2, rfl, rfl, rfl, h2, r2⟩ := trodAll_cons r1
 obtain ⟨v3, vs3, d3, ds3, q3, qs3, rfl, rfl, rfl, h3, r3⟩ := trodAll_cons r2
 obtain ⟨rfl, rfl, rfl⟩ := trodAll_nil r3
 obtain ⟨A0, n0, c0, rfl⟩ := okWide_slice Tryz.underlying22 (hval 0 22 v0 rfl rfl)
 obtain ⟨fu0, hf0⟩ := h0
 obtain ⟨p0, ⟨A0_, c0_, e0, s0⟩, k0⟩ := op22 _ _ _ _ _ _ _ _ _ hf0 (light_each hw (j := 0) rfl rfl)
 obtain ⟨rfl, rfl, rfl⟩ : A0 = A0_ ∧ n0 = p0.length ∧ c0 = c0_ := by simpa [Value.cells] using e0
 obtain ⟨A1, n1, c1, rfl⟩ := okWide_slice Tryz.underlying23 (hval 1 23 v1 rfl rfl)
 obtain ⟨fu1, hf1⟩ := h1
 obtain ⟨p1, ⟨A1_, c1_, e1, s1⟩, k1⟩ := op23 _ _ _ _ _ _ _ _ _ hf1 (light_each hw (j := 1) rfl rfl)
 obtain ⟨rfl, rfl, rfl⟩ : A1 = A1_ ∧ n1 = p1.length ∧ c1 = c1_ := by simpa [Value.cells] using e1
 obtain ⟨A2, n2, c2, rfl⟩ := okWide_slice Tryz.underlying23 (hval 2 23 v2 rfl rfl)
 obtain ⟨fu2, hf2⟩ := h2
 obtain ⟨p2, ⟨A2_, c2_, e2, s2⟩, k2⟩ := op23 _ _ _ _ _ _ _ _ _ hf2 (light_each hw (j := 2) rfl rfl)
 obtain ⟨rfl, rfl, rfl⟩ : A2 = A2_ ∧ n2 = p2.length ∧ c2 = c2_ := by simpa [Value.cells] using e2
 obtain ⟨p3, rfl, rfl, rfl, k3⟩ := open_int Tryz.underlying3 (hval 3 3 v3 rfl rfl) h3
 have b0 : p0.length ≤ 1048576 := bulk_slice Tryz.underlying22 hf0 rfl hbk (by simp)
 have b1 : p1.length ≤ 1048576 := bulk_slice Tryz.underlying23 hf1 rfl hbk (by simp)
 have b1_ : ∀ s ∈ p1, s.size ≤ 1048576 := bulk_strs Tryz.underlying23 Tryz.underlying9 (by kernel_rfl) hf1 rfl s1 hbk (by simp)
 have b2 : p2.length ≤ 1048576 := bulk_slice Tryz.underlying23 hf2 rfl hbk (by simp)
 have b2_ : ∀ s ∈ p2, s.size ≤ 1048576 := bulk_strs Tryz.underlying23 Tryz.underlying9 (by kernel_rfl) hf2 rfl s2 hbk (by simp)
 refine (annalkeep_FsTree_l FUEL p0 p1 p2 p3 true (annalkeep_FsTree_true FUEL p0 p1 p2 p3 k0 k1 k2 k3 b0 b1 b1_ b2 b2_) W hGl _ _ s0 _ _ s1 _ _ s2).mono ?_
 rintro e W' ⟨v, rfl, hb, hr⟩
 obtain rfl := sureBool _ _ _ hr
 exact ⟨rfl, hb⟩
theorem fsTree_reads (os : Os) {H : Type} (enc : TypeId × Value → H) : ∃ places, DataW.whole enc Tryz.prog ((World.laidAll Tryz.prog os Rows.fsTreeUptoRow.laid).forCall (fun _ _ => 0) ⟨#[], #[.slice none 0 0, .slice none 0 0, .slice none 0 0, .int .i64 0], []⟩).memory Tryz.f12.params.toList Rows.fsTreeSpec.vars false (#[.slice none 0 0, .slice none 0 0, .slice none 0 0, .int .i64 0] : Array Value).toList 8 = some ([.nil, .nil, .nil, .lit (.int .i64 0)], [], places) := ⟨[], by kernel_rfl⟩
theorem fsTree_met (os : Os) : laidMetH Tryz.prog Rows.fsTreeUptoRow.laid ((World.laidAll Tryz.prog os Rows.fsTreeUptoRow.laid).forCall (fun _ _ => 0) ⟨#[], #[.slice none 0 0, .slice none 0 0, .slice none 0 0, .int .i64 0], []⟩).memory := by
 rw [MakeChecks.laidMetH_plain _ _ _ (by kernel_rfl)]
 exact laidMet_laidAll _ (by kernel_rfl) (by kernel_rfl)
set_option maxRecDepth 100000 in
theorem fsTree_lifted (os : Os) (started : os.Started) (H : Type) (enc : TypeId × Value → H) (Fi : Stop.Interp) :
 ReturnsInHanded {} Tryz.checked os 12 .any ((Rows.OpenSpec.upto Rows.fsTreeSpec).preRow enc Tryz.prog Tryz.f12 Rows.fsTreeUptoRow.domain false Rows.fsTreeUptoRow.laid) (((Rows.OpenSpec.upto Rows.fsTreeSpec).at Fi).post enc Tryz.prog Tryz.f12 false true false false) := by
 obtain ⟨places, hx⟩ := fsTree_reads os enc
 exact law_lifted_laidU (C := Tryz.checked) (s := Rows.fsTreeSpec) (tb := 4) (lst := Rows.fsTreeUptoRow.laid) fsTree_call (fun W hs hl => card_globD hs hl) prog_own started (by kernel_rfl) Tryz.func12
  (witness_row_atRef (enc := enc) (C := Tryz.checked) false (World.laidAll Tryz.prog os Rows.fsTreeUptoRow.laid) #[.slice none 0 0, .slice none 0 0, .slice none 0 0, .int .i64 0] rfl (by kernel_rfl) (by kernel_rfl) (by kernel_rfl)
   (OpenSpec.preRow_of_cond 8 hx (by kernel_rfl) (fun k hk => by cases hk; kernel_rfl) (by kernel_rfl) (fsTree_met os)))
  rfl rfl Tryz.underlying4 prog_laid (by intro t ht; rw [show Tryz.f12.params = _ from Tryz.params12] at ht; simp only [List.mem_cons, List.not_mem_nil, or_false] at ht; rcases ht with rfl | rfl | rfl | rfl <;> exact ⟨by kernel_rfl, of_decide_eq_true (by kernel_rfl)⟩)
  (by
   intro ds hd
   rw [show Tryz.f12.params = _ from Tryz.params12] at hd
   match ds, hd with
   | [x0, x1, x2, x3], _ => exact ⟨rfl, rfl, rfl⟩) Fi
set_option maxRecDepth 100000 in
theorem fsTree_said : Rows.FsTreeUptoSaid :=
 OpenClaim.holds_of_cond 12 Tryz.f12 rfl rfl rfl rfl rfl rfl rfl ⟨rfl, rfl, rfl, rfl, rfl⟩ rfl rfl rfl rfl rfl (by kernel_rfl) Tryz.func12 (show joinedFacts Tryz.prog 12 Tryz.f12 (Rows.OpenSpec.upto Rows.fsTreeSpec).bare Rows.fsTreeUptoRow = true by unfold joinedFacts; rw [prog_enter, prog_lifts, prog_make]; kernel_rfl)
  (of_decide_eq_true (by kernel_rfl)) (by unfold Func.isWrapper; rw [if_neg (of_decide_eq_false (by kernel_rfl))]; exact ⟨rfl, rfl⟩)
  (fun os started H enc _ Fi => by rw [OpenClaim.pre_eq_preRow]; exact fsTree_lifted os started H enc Fi)
theorem fsTreeUptoCard_holds : Rows.FsTreeUptoCardSaid :=
 Claim7.holds_tied_plain_at .later [] _ _ _ _ fsTree_said (fun _ h => by cases h) (by kernel_rfl) (fun _ h => by cases h) fsTreeUpto_row_tie rfl ⟨rfl, rfl⟩ (by kernel_rfl) rfl
  (fun f fn hf hfn => by
   obtain rfl : f = 12 := Option.some.inj (hf.symm.trans (show Tryz.prog.funcNamed Rows.fsTreeUptoRow.func = some 12 by kernel_rfl))
   obtain rfl : fn = Tryz.f12 := (Option.some.inj (Tryz.func12.symm.trans hfn)).symm
   refine ⟨by kernel_rfl, fun j t ht => ?_⟩
   rw [Tryz.params12] at ht
   have hm : t ∈ [22, 23, 23, 3] := by simpa using Array.mem_of_getElem? ht
   have hall : ([22, 23, 23, 3].all fun u => !Tryz.prog.wantsStandIn u) = true := by kernel_rfl
   exact (show Tryz.prog.wantsStandIn t = false by simpa using List.all_eq_true.1 hall t hm))
  (by kernel_rfl)
end Go.Proofs.YtacjdfhllomccaaGreatDoor
