/- The Go functions of group Pack compute the pure functions of that group: written by walkgen.py. Condition of each: the pure function yields a result. -/
import Derived.Test.YtcmkdoahkncakaaSh2K
import Derived.Test.YtcmkdoahkncakaaBuildLK
import Derived.Test.YtcmkdoahkncakaaTreeLK
import Derived.Test.YtcmkdoahkncakaaEqsLK
import Derived.Test.YtcmkdoahkncakaaClearK
import Derived.Test.YtcmkdoahkncakaaPackFK
import Derived.Test.YtcmkdoahkncakaaEqLK
namespace Go.Proofs.Ytcmkdoahkncakaa
set_option linter.unusedVariables false
set_option maxRecDepth 100000 in
set_option maxHeartbeats 4000000 in
theorem annalkeep_begun_l (F : Nat) (r : Bool) (hF : annalkeep_begun F = some r) (w : World)  :
 Calls Try.prog 24 #[] w (Post (vSc eBool) r w) := by
 unfold annalkeep_begun at hF
 refine T.start (l := []) Try.func24 rfl rfl rfl ?_
 refine T.seq (T.region (T.pk (.bool false) (fun _ => by kernel_rfl) (T.nil (T.seq (T.region ?_)))))
 obtain ⟨r1, hb1, hF⟩ := ob hF
 refine T.step (W1.call (vAg eElem) r1 16 #[vi 1, .string (ByteArray.mk #[97])] (by kernel_rfl) (fun _ => by kernel_rfl) (fun w' hh => annalkeep_at1_l 1 (ByteArray.mk #[97]) r1 hb1 w' ) ?_)
 intro u V1 hV1 hu
 obtain rfl := sureElem _ _ _ hu
 refine T.step (W1.ns 28 [vi r1.key.pfs, vi r1.key.obj, vi r1.key.off, vi r1.made, vi r1.gone, .string r1.val] (fun _ => by kernel_rfl) (fun b1 => ?_))
 obtain ⟨r2, hb2, hF⟩ := ob hF
 refine T.step (W1.call (vAg eTree) r2 15 #[.slice (some ⟨b1, 0, none⟩) 1 1] (by kernel_rfl) (fun _ => by kernel_rfl) (fun w' hh => annalkeep_of_l F [r1] r2 hb2 w' (some ⟨b1, 0, none⟩) 1 (slok_lit (E := eElem) (f := DElem.cells) [r1] (fun _ _ => rfl) (Nat.le_of_ble_eq_true (by rfl)) (fun j => hh.cellBox (i := 0) (by rfl) j))) ?_)
 intro u V2 hV2 hu
 obtain ⟨cs1, rfl, hr1⟩ := vagg_elim hu
 obtain ⟨A1, c1, rfl, hs1⟩ := hr1
 obtain ⟨r3, hb3, hF⟩ := ob hF
 refine T.step (W1.call (vT2 (vSc (eList eElem)) (vSc eInt)) r3 17 #[.agg #[vi r2.root, .slice A1 r2.nodes.length c1]] (by kernel_rfl) (fun _ => by kernel_rfl) (fun w' hh => tree_All_l F r2 r3 hb3 w' A1 c1 (SlOk.mono (SlOk.mono hs1 (vt (made_le _ _) vr)) hh.view)) ?_)
 intro u V3 hV3 hu
 obtain ⟨u1, u2, rfl, hu1, hu2⟩ := vT2_elim hu
 obtain ⟨A2, c2, rfl, hs2⟩ := vlist_elim hu1
 obtain rfl := sureInt _ _ _ hu2
 refine T.p5 (.tuple #[.slice A2 r3.1.length c2, vi r3.2]) (.slice A2 r3.1.length c2) (vi r3.2) (.slice A2 r3.1.length c2) (vi r3.2) (fun _ => by kernel_rfl) (T.nil ?_)
 obtain ⟨z1, hX1, hF⟩ := ob hF
 refine T.cut (fun a w' => ∃ (V4 : View), View.le V3 V4 ∧ Fr 18 [(0, .bool z1)] a ∧ Hp w V4 [] w') ?_ ?_
 ·
  refine T.region (T.p3 (vi r3.2) (.bool (r3.2 == 0)) (.bool (r3.2 == 0)) (fun _ => by kernel_rfl) ?_)
  cases hg1 : (r3.2 == 0)
  ·
   skip
   rw [hg1, cond_false] at hX1
   refine T.pass (by kernel_rfl) (by kernel_rfl) (T.pass (by kernel_rfl) (by kernel_rfl) (T.pass (by kernel_rfl) (by kernel_rfl) (T.pass (by kernel_rfl) (by kernel_rfl) (T.p2 (.bool false) (.bool false) (fun _ => by kernel_rfl) (T.nil ?_)))))
   cases hX1
   exact fun a w' hf hh => ⟨V3, vr, (Fr.sel hf rfl), (hh.sub (dr1 kp0))⟩
  skip
  rw [hg1, cond_true] at hX1
  refine T.pk (.slice A2 r3.1.length c2) (fun _ => by kernel_rfl) ?_
  obtain ⟨r4, hb4, hX1⟩ := ob hX1
  refine T.step (W1.call (vAg eElem) r4 16 #[vi 1, .string (ByteArray.mk #[97])] (by kernel_rfl) (fun _ => by kernel_rfl) (fun w' hh => annalkeep_at1_l 1 (ByteArray.mk #[97]) r4 hb4 w' ) ?_)
  intro u V5 hV5 hu
  obtain rfl := sureElem _ _ _ hu
  refine T.step (W1.ns 28 [vi r4.key.pfs, vi r4.key.obj, vi r4.key.off, vi r4.made, vi r4.gone, .string r4.val] (fun _ => by kernel_rfl) (fun b2 => ?_))
  obtain ⟨r5, hb5, hX1⟩ := ob hX1
  refine T.step (W1.call (vSc eBool) r5 18 #[.slice A2 r3.1.length c2, .slice (some ⟨b2, 0, none⟩) 1 1] (by kernel_rfl) (fun _ => by kernel_rfl) (fun w' hh => slices_Equal_Elem_l F r3.1 [r4] r5 hb5 w' A2 c2 (SlOk.mono (SlOk.mono hs2 (vt (made_le _ _) hV5)) hh.view) (some ⟨b2, 0, none⟩) 1 (slok_lit (E := eElem) (f := DElem.cells) [r4] (fun _ _ => rfl) (Nat.le_of_ble_eq_true (by rfl)) (fun j => hh.cellBox (i := 0) (by rfl) j))) ?_)
  intro u V6 hV6 hu
  obtain rfl := sureBool _ _ _ hu
  refine T.p2 (.bool r5) (.bool r5) (fun _ => by kernel_rfl) (T.nil ?_)
  cases hX1
  exact fun a w' hf hh => ⟨V6, (vt hV5 hV6), (Fr.sel hf rfl), (hh.sub (dr1 (dr1 kp0)))⟩
 rintro a w' ⟨V4, hV4, hf, hh⟩
 refine (?_ : T 18 w V4 [] [(0, .bool z1)] _) a w' hf hh
 clear hf hh
 cases hF
 refine T.ret rfl ?_
 exact T.ret1 rfl (ResIs.tmp rfl) fun w' hh => ⟨_, rfl, hh.below, (show _ from rfl)⟩
end Go.Proofs.Ytcmkdoahkncakaa
