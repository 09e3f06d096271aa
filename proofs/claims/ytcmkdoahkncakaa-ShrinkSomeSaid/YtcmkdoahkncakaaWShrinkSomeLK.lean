/- The Go functions of group WShrinkSome compute the pure functions of that group: written by walkgen.py. Condition of each: the pure function yields a result. -/
import Derived.Test.YtcmkdoahkncakaaSh2K
import Derived.Test.YtcmkdoahkncakaaShrLK
import Derived.Test.YtcmkdoahkncakaaBuildLK
import Derived.Test.YtcmkdoahkncakaaTreeLK
import Derived.Test.YtcmkdoahkncakaaEqsLK
import Derived.Test.YtcmkdoahkncakaaWShrinkSomeFK
import Derived.Test.YtcmkdoahkncakaaEqLK
namespace Go.Proofs.Ytcmkdoahkncakaa
set_option linter.unusedVariables false
set_option maxRecDepth 100000 in
set_option maxHeartbeats 4000000 in
theorem annalkeep_ShrinkSome_l (F : Nat) (p0 : DTree) (p1 : Int) (p2 : Int) (r : Bool) (hF : annalkeep_ShrinkSome F p0 p1 p2 = some r) (w : World) (A1 : Option Addr) (c1 : Nat) (hs1 : SlOk (vw w) eNode A1 c1 p0.nodes) :
 Calls Try.prog 4 #[.agg #[.int .i64 p0.root, .slice A1 p0.nodes.length c1], .int .i64 p1, .int .i64 p2] w (Post (vSc eBool) r w) := by
 unfold annalkeep_ShrinkSome at hF
 let a27_ : Value := .agg #[vi p0.root, .slice A1 p0.nodes.length c1]
 refine T.start (l := [a27_, vi p1, vi p2]) Try.func4 rfl rfl rfl ?_
 refine T.seq (T.region ?_)
 let v10_ : List Value := [vi p0.root, .slice A1 p0.nodes.length c1]
 refine T.step (W1.np 24 v10_ (fun _ => by kernel_rfl) (fun b1 => ?_))
 refine T.pk (.bool false) (fun _ => by kernel_rfl) (T.nil (T.seq (T.region ?_)))
 obtain ⟨r1, hb1, hF⟩ := ob hF
 refine T.step (W1.call (vAg eElem) r1 16 #[vi 1, .string (ByteArray.mk #[97])] (by kernel_rfl) (fun _ => by kernel_rfl) (fun w' hh => annalkeep_at1_l 1 (ByteArray.mk #[97]) r1 hb1 w' ) ?_)
 intro u V1 hV1 hu
 obtain rfl := sureElem _ _ _ hu
 obtain ⟨r2, hb2, hF⟩ := ob hF
 refine T.step (W1.call (vAg eElem) r2 16 #[vi 2, .string (ByteArray.mk #[98])] (by kernel_rfl) (fun _ => by kernel_rfl) (fun w' hh => annalkeep_at1_l 2 (ByteArray.mk #[98]) r2 hb2 w' ) ?_)
 intro u V2 hV2 hu
 obtain rfl := sureElem _ _ _ hu
 let v11_ : List Value := [vi r1.key.pfs, vi r1.key.obj, vi r1.key.off, vi r1.made, vi r1.gone, .string r1.val, vi r2.key.pfs, vi r2.key.obj, vi r2.key.off, vi r2.made, vi r2.gone, .string r2.val]
 refine T.step (W1.new 28 v11_ (fun b => .slice (some ⟨b, 0, none⟩) 2 2) (by kernel_rfl) (fun _ => by kernel_rfl) (fun b2 => ?_))
 obtain ⟨r3, hb3, hF⟩ := ob hF
 refine T.step (W1.call (vAg eTree) r3 15 #[.slice (some ⟨b2, 0, none⟩) 2 2] (by kernel_rfl) (fun _ => by kernel_rfl) (fun w' hh => annalkeep_of_l F [r1, r2] r3 hb3 w' (some ⟨b2, 0, none⟩) 2 (slok_lit (E := eElem) (f := DElem.cells) [r1, r2] (fun _ _ => rfl) (Nat.le_of_ble_eq_true (by rfl)) (fun j => hh.cellBox (i := 0) (by rfl) j))) ?_)
 intro u V3 hV3 hu
 obtain ⟨cs1, rfl, hr1⟩ := vagg_elim hu
 obtain ⟨A2, c2, rfl, hs2⟩ := hr1
 obtain ⟨r4, hb4, hF⟩ := ob hF
 refine T.step (W1.call (vAg eElem) r4 16 #[vi 1, .string (ByteArray.mk #[97])] (by kernel_rfl) (fun _ => by kernel_rfl) (fun w' hh => annalkeep_at1_l 1 (ByteArray.mk #[97]) r4 hb4 w' ) ?_)
 intro u V4 hV4 hu
 obtain rfl := sureElem _ _ _ hu
 obtain ⟨r5, hb5, hF⟩ := ob hF
 refine T.step (W1.call (vAg eSpot) r5 22 #[.agg #[vi r4.key.pfs, vi r4.key.obj, vi r4.key.off, vi r4.made, vi r4.gone, .string r4.val]] (by kernel_rfl) (fun _ => by kernel_rfl) (fun w' hh => elem_Spot_l r4 r5 hb5 w' ) ?_)
 intro u V5 hV5 hu
 obtain rfl := sureSpot _ _ _ hu
 obtain ⟨r6, hb6, hF⟩ := ob hF
 refine T.step (W1.call (vT2 (vAg eTree) (vSc eInt)) r6 21 #[.agg #[vi r3.root, .slice A2 r3.nodes.length c2], .agg #[vi r5.key.pfs, vi r5.key.obj, vi r5.key.off, vi r5.made]] (by kernel_rfl) (fun _ => by kernel_rfl) (fun w' hh => shrink_Remove_l F r3 r5 r6 hb6 w' A2 c2 (SlOk.mono (SlOk.mono hs2 (vt (made_le _ _) (vt hV4 hV5))) hh.view)) ?_)
 intro u V6 hV6 hu
 obtain ⟨u1, u2, rfl, hu1, hu2⟩ := vT2_elim hu
 obtain ⟨cs2, rfl, hr2⟩ := vagg_elim hu1
 obtain ⟨A3, c3, rfl, hs3⟩ := hr2
 obtain rfl := sureInt _ _ _ hu2
 refine T.pk (.tuple #[.agg #[vi r6.1.root, .slice A3 r6.1.nodes.length c3], vi r6.2]) (fun _ => by kernel_rfl) ?_
 let a28_ : Value := .agg #[vi r6.1.root, .slice A3 r6.1.nodes.length c3]
 refine T.p2 a28_ (vi r6.2) (fun _ => by kernel_rfl) ?_
 let v12_ : List Value := [vi 0, sN]
 refine T.step (W1.np 24 v12_ (fun _ => by kernel_rfl) (fun b3 => ?_))
 let v13_ : List Value := [vi r6.1.root, .slice A3 r6.1.nodes.length c3]
 let i1_ : HObj := box b3 24 v13_
 let i2_ : HObj := box b1 24 v10_
 refine T.step (W1.st 0 v13_ (i1_ :: (box b2 28 v11_) :: i2_ :: []) v13_ (by rfl) rfl rfl rfl rfl rfl rfl (fun _ => by kernel_rfl) ?_)
 refine T.pk (vi r6.2) (fun _ => by kernel_rfl) (T.nil (T.seq (T.seq (T.region (T.look a28_ (by kernel_rfl) (ldN 0 rfl rfl (fun _ => by kernel_rfl) (by rfl) rfl) ?_)))))
 obtain ⟨r7, hb7, hF⟩ := ob hF
 refine T.step (W1.call (vT2 (vSc (eList eElem)) (vSc eInt)) r7 17 #[a28_] (by kernel_rfl) (fun _ => by kernel_rfl) (fun w' hh => tree_All_l F r6.1 r7 hb7 w' A3 c3 (SlOk.mono (SlOk.mono hs3 (vt (made_le _ _) vr)) hh.view)) ?_)
 intro u V7 hV7 hu
 obtain ⟨u3, u4, rfl, hu3, hu4⟩ := vT2_elim hu
 obtain ⟨A4, c4, rfl, hs4⟩ := vlist_elim hu3
 obtain rfl := sureInt _ _ _ hu4
 refine T.p5 (.tuple #[.slice A4 r7.1.length c4, vi r7.2]) (.slice A4 r7.1.length c4) (vi r7.2) (.slice A4 r7.1.length c4) (vi r7.2) (fun _ => by kernel_rfl) (T.nil ?_)
 obtain ⟨z1, hX1, hF⟩ := ob hF
 let t3_ : List HObj := i1_ :: i2_ :: []
 refine T.cut (fun a w' => ∃ (V8 : View), View.le V7 V8 ∧ Fr 172 [(1, vi p1), (2, vi p2), (3, pB b1 0), (7, pB b3 0), (47, .bool z1)] a ∧ Hp w V8 t3_ w') ?_ ?_
 ·
  refine T.region (T.p3 (vi r6.2) (.bool (r6.2 != 0)) (.bool (r6.2 != 0)) (fun _ => by kernel_rfl) ?_)
  cases hg1 : (r6.2 != 0)
  ·
   skip
   rw [hg1, cond_false] at hX1
   refine T.p4 (vi r7.2) (.bool (r7.2 != 0)) (.bool (r7.2 != 0)) (.bool (r7.2 != 0)) (fun _ => by kernel_rfl) ?_
   cases hg2 : (r7.2 != 0)
   ·
    skip
    rw [hg2, cond_false] at hX1
    refine T.pk (.slice A4 r7.1.length c4) (fun _ => by kernel_rfl) ?_
    obtain ⟨r8, hb8, hX1⟩ := ob hX1
    refine T.step (W1.call (vAg eElem) r8 16 #[vi 2, .string (ByteArray.mk #[98])] (by kernel_rfl) (fun _ => by kernel_rfl) (fun w' hh => annalkeep_at1_l 2 (ByteArray.mk #[98]) r8 hb8 w' ) ?_)
    intro u V9 hV9 hu
    obtain rfl := sureElem _ _ _ hu
    refine T.step (W1.ns 28 [vi r8.key.pfs, vi r8.key.obj, vi r8.key.off, vi r8.made, vi r8.gone, .string r8.val] (fun _ => by kernel_rfl) (fun b4 => ?_))
    obtain ⟨r9, hb9, hX1⟩ := ob hX1
    refine T.step (W1.call (vSc eBool) r9 18 #[.slice A4 r7.1.length c4, .slice (some ⟨b4, 0, none⟩) 1 1] (by kernel_rfl) (fun _ => by kernel_rfl) (fun w' hh => slices_Equal_Elem_l F r7.1 [r8] r9 hb9 w' A4 c4 (SlOk.mono (SlOk.mono hs4 (vt (made_le _ _) hV9)) hh.view) (some ⟨b4, 0, none⟩) 1 (slok_lit (E := eElem) (f := DElem.cells) [r8] (fun _ _ => rfl) (Nat.le_of_ble_eq_true (by rfl)) (fun j => hh.cellBox (i := 0) (by rfl) j))) ?_)
    intro u V10 hV10 hu
    obtain rfl := sureBool _ _ _ hu
    refine T.p2 (.bool (!r9)) (.bool (!r9)) (fun _ => by kernel_rfl) (T.nil ?_)
    cases hX1
    exact fun a w' hf hh => ⟨V10, (vt hV9 hV10), (Fr.sel hf rfl), (hh.sub (dr1 (kp1 (dr1 (kp1 kp0)))))⟩
   skip
   rw [hg2, cond_true] at hX1
   refine T.pass (by kernel_rfl) (by kernel_rfl) (T.pass (by kernel_rfl) (by kernel_rfl) (T.pass (by kernel_rfl) (by kernel_rfl) (T.pass (by kernel_rfl) (by kernel_rfl) (T.pass (by kernel_rfl) (by kernel_rfl) (T.pk (.bool true) (fun _ => by kernel_rfl) (T.nil ?_))))))
   cases hX1
   exact fun a w' hf hh => ⟨V7, vr, (Fr.sel hf rfl), (hh.sub (kp1 (dr1 (kp1 kp0))))⟩
  skip
  rw [hg1, cond_true] at hX1
  refine T.pass (by kernel_rfl) (by kernel_rfl) (T.pass (by kernel_rfl) (by kernel_rfl) (T.p2 (.bool true) (.bool true) (fun _ => by kernel_rfl) (T.pass (by kernel_rfl) (by kernel_rfl) (T.pass (by kernel_rfl) (by kernel_rfl) (T.pass (by kernel_rfl) (by kernel_rfl) (T.pass (by kernel_rfl) (by kernel_rfl) (T.pass (by kernel_rfl) (by kernel_rfl) (T.pk (.bool true) (fun _ => by kernel_rfl) (T.nil ?_)))))))))
  cases hX1
  exact fun a w' hf hh => ⟨V7, vr, (Fr.sel hf rfl), (hh.sub (kp1 (dr1 (kp1 kp0))))⟩
 rintro a w' ⟨V8, hV8, hf, hh⟩
 refine (?_ : T 172 w V8 t3_ [(1, vi p1), (2, vi p2), (3, pB b1 0), (7, pB b3 0), (47, .bool z1)] _) a w' hf hh
 clear hf hh
 refine T.cond z1 (by kernel_rfl) (by kernel_rfl) (fun hc1 => ?_) (fun hc1 => ?_)
 ·
  rw [hc1, cond_true] at hF
  refine T.seq (T.region (T.pk (.bool false) (fun _ => by kernel_rfl) (T.nil ?_)))
  cases hF
  refine T.ret rfl ?_
  exact T.ret1 rfl (ResIs.tmp rfl) fun w' hh => ⟨_, rfl, hh.below, (show _ from rfl)⟩
 rw [hc1, cond_false] at hF
 refine T.skip_code ?_
 refine T.seq (T.region (T.look a27_ (by kernel_rfl) (ldN 1 rfl rfl (fun _ => by kernel_rfl) (by rfl) rfl) ?_))
 obtain ⟨r10, hb10, hF⟩ := ob hF
 refine T.step (W1.call (vT2 (vSc (eList eElem)) (vSc eInt)) r10 17 #[a27_] (by kernel_rfl) (fun _ => by kernel_rfl) (fun w' hh => tree_All_l F p0 r10 hb10 w' A1 c1 (SlOk.mono (SlOk.mono hs1 (vt (vt (vt (vt (vt (vt (vt hV1 hV2) hV3) hV4) hV5) hV6) hV7) hV8)) hh.view)) ?_)
 intro u V11 hV11 hu
 obtain ⟨u5, u6, rfl, hu5, hu6⟩ := vT2_elim hu
 obtain ⟨A5, c5, rfl, hs5⟩ := vlist_elim hu5
 obtain rfl := sureInt _ _ _ hu6
 refine T.p5 (.tuple #[.slice A5 r10.1.length c5, vi r10.2]) (.slice A5 r10.1.length c5) (vi r10.2) (.slice A5 r10.1.length c5) (vi r10.2) (fun _ => by kernel_rfl) (T.nil (T.seq ?_))
 refine T.cut (fun a w' => Fr 172 [(1, vi p1), (2, vi p2), (3, pB b1 0), (7, pB b3 0), (11, .slice A5 r10.1.length c5), (59, .bool ((r10.2 != 0) || (decide ((r10.1.length : Int) < 2))))] a ∧ Hp w V11 t3_ w') ?_ ?_
 ·
  refine T.region (T.p3 (vi r10.2) (.bool (r10.2 != 0)) (.bool (r10.2 != 0)) (fun _ => by kernel_rfl) ?_)
  cases hg3 : (r10.2 != 0)
  ·
   skip
   refine T.p4 (.slice A5 r10.1.length c5) (vi (r10.1.length : Int)) (.bool (decide ((r10.1.length : Int) < 2))) (.bool (decide ((r10.1.length : Int) < 2))) (fun _ => by kernel_rfl) (T.nil ?_)
   exact fun a w' hf hh => ⟨(Fr.sel hf rfl), (hh.sub (kp1 (kp1 kp0)))⟩
  skip
  refine T.pass (by kernel_rfl) (by kernel_rfl) (T.pass (by kernel_rfl) (by kernel_rfl) (T.pass (by kernel_rfl) (by kernel_rfl) (T.pk (.bool true) (fun _ => by kernel_rfl) (T.nil ?_))))
  exact fun a w' hf hh => ⟨(Fr.sel hf rfl), (hh.sub (kp1 (kp1 kp0)))⟩
 rintro a w' ⟨hf, hh⟩
 refine (?_ : T 172 w V11 t3_ [(1, vi p1), (2, vi p2), (3, pB b1 0), (7, pB b3 0), (11, .slice A5 r10.1.length c5), (59, .bool ((r10.2 != 0) || (decide ((r10.1.length : Int) < 2))))] _) a w' hf hh
 clear hf hh
 refine T.cond ((r10.2 != 0) || (decide ((r10.1.length : Int) < 2))) (by kernel_rfl) (by kernel_rfl) (fun hc2 => ?_) (fun hc2 => ?_)
 ·
  rw [hc2, cond_true] at hF
  refine T.seq (T.region (T.pk (.bool true) (fun _ => by kernel_rfl) (T.nil ?_)))
  cases hF
  refine T.ret rfl ?_
  exact T.ret1 rfl (ResIs.tmp rfl) fun w' hh => ⟨_, rfl, hh.below, (show _ from rfl)⟩
 rw [hc2, cond_false] at hF
 refine T.skip_code ?_
 refine T.seq (T.region (T.p3 (vi p1) (.slice A5 r10.1.length c5) (vi (r10.1.length : Int)) (fun _ => by kernel_rfl) ?_))
 obtain ⟨r11, hb11, hF⟩ := ob hF
 refine T.step (W1.call (vSc eInt) r11 19 #[vi p1, vi (r10.1.length : Int)] (by kernel_rfl) (fun _ => by kernel_rfl) (fun w' hh => annalkeep_Within_l p1 (r10.1.length : Int) r11 hb11 w' ) ?_)
 intro u V12 hV12 hu
 obtain rfl := sureInt _ _ _ hu
 refine T.pk (vi r11) (fun _ => by kernel_rfl) (T.nil (T.seq (T.region (T.p3 (vi p2) (.slice A5 r10.1.length c5) (vi (r10.1.length : Int)) (fun _ => by kernel_rfl) ?_))))
 obtain ⟨r12, hb12, hF⟩ := ob hF
 refine T.step (W1.call (vSc eInt) r12 19 #[vi p2, vi (r10.1.length : Int)] (by kernel_rfl) (fun _ => by kernel_rfl) (fun w' hh => annalkeep_Within_l p2 (r10.1.length : Int) r12 hb12 w' ) ?_)
 intro u V13 hV13 hu
 obtain rfl := sureInt _ _ _ hu
 refine T.pk (vi r12) (fun _ => by kernel_rfl) (T.nil (T.seq (T.seq (T.region (T.p3 (vi r11) (vi r12) (.bool (r11 == r12)) (fun _ => by kernel_rfl) (T.nil ?_))))))
 refine T.cond (r11 == r12) (by kernel_rfl) (by kernel_rfl) (fun hc3 => ?_) (fun hc3 => ?_)
 ·
  rw [hc3, cond_true] at hF
  refine T.seq (T.region (T.pk (.bool true) (fun _ => by kernel_rfl) (T.nil ?_)))
  cases hF
  refine T.ret rfl ?_
  exact T.ret1 rfl (ResIs.tmp rfl) fun w' hh => ⟨_, rfl, hh.below, (show _ from rfl)⟩
 rw [hc3, cond_false] at hF
 refine T.skip_code ?_
 refine T.seq ?_
 refine T.held (i2_ :: []) (by kernel_rfl) ?_
 have w37_ := vt (vt (vt (vt (vt (vt (vt (vt (vt (vt hV1 hV2) hV3) hV4) hV5) hV6) hV7) hV8) hV11) hV12) hV13
 refine TA.keep (Hp.old vr w37_ (dr1 (kp1 kp0)) (oB1 ol0)) fun o41_ => ?_
 refine TA.tk 0 a27_ rfl (by kernel_rfl) (fun _ _ _ h => h) o41_ (ldN 0 rfl rfl (fun _ => by kernel_rfl) (by rfl) rfl) ?_
 refine TA.tp 1 (.slice A5 r10.1.length c5) rfl (fun _ => by kernel_rfl) (fun _ _ _ h => h) o41_ ?_
 refine TA.tp 2 (vi r11) rfl (fun _ => by kernel_rfl) (fun _ _ _ h => h) o41_ ?_
 obtain ⟨e1, hb13, hF⟩ := ob hF
 obtain ⟨hi1, hi2, hi3⟩ := idx_some hb13
 refine TA.tk 3 (.pointer (some ((sadr A5).add (r11.toNat * 6)))) rfl (by kernel_rfl) (fun _ _ _ h => h) o41_ (fun w' hh => exec_indexAddr (e := 28) (s := 6) rfl rfl rfl (by kernel_rfl) (by kernel_rfl) hi1 hi2 ((SlOk.mono hs5 (vt (made_le _ _) (vt hV12 hV13))).some_ hi3 (by decide))) ?_
 let a29_ : Value := .agg #[vi e1.key.pfs, vi e1.key.obj, vi e1.key.off, vi e1.made, vi e1.gone, .string e1.val]
 refine TA.tk 4 a29_ rfl (by kernel_rfl) (fun _ _ _ h => h) o41_ (fun w' hh => exec_loadN (cs := [vi e1.key.pfs, vi e1.key.obj, vi e1.key.off, vi e1.made, vi e1.gone, .string e1.val]) rfl rfl (by kernel_rfl) (by kernel_rfl) (fun j u hj => (hh.cell_view (SlOk.cellF (E := eElem) (SlOk.mono hs5 (vt (made_le _ _) (vt hV12 hV13))) hi3 j (fun _ _ _ h => h) hj)))) ?_
 refine TA.all [5] (by kernel_rfl) rfl ⟨?_, trivial⟩
 obtain ⟨r13, hb14, hF⟩ := ob hF
 refine TA.br rfl (W1.call (vAg eSpot) r13 22 #[a29_] (by kernel_rfl) (fun _ => by kernel_rfl) (fun w' hh => elem_Spot_l e1 r13 hb14 w' ) ?_)
 intro u V14 hV14 hu
 obtain rfl := sureSpot _ _ _ hu
 refine TA.on (Hp.old hV14 w37_ (dr1 (kp1 kp0)) (oB1 ol0)) ?_
 refine TA.all [6] (by kernel_rfl) rfl ⟨?_, trivial⟩
 obtain ⟨r14, hb15, hF⟩ := ob hF
 refine TA.br rfl (W1.call (vT2 (vAg eTree) (vSc eInt)) r14 21 #[a27_, .agg #[vi r13.key.pfs, vi r13.key.obj, vi r13.key.off, vi r13.made]] (by kernel_rfl) (fun _ => by kernel_rfl) (fun w' hh => shrink_Remove_l F p0 r13 r14 hb15 w' A1 c1 (SlOk.mono (SlOk.mono hs1 (vt (vt (vt (vt (vt (vt (vt (vt (vt (vt (vt hV1 hV2) hV3) hV4) hV5) hV6) hV7) hV8) hV11) hV12) hV13) hV14)) hh.view)) ?_)
 intro u V15 hV15 hu
 obtain ⟨u7, u8, rfl, hu7, hu8⟩ := vT2_elim hu
 obtain ⟨cs3, rfl, hr3⟩ := vagg_elim hu7
 obtain ⟨A6, c6, rfl, hs6⟩ := hr3
 obtain rfl := sureInt _ _ _ hu8
 refine TA.onk (Hp.old (vt hV14 hV15) w37_ (dr1 (kp1 kp0)) (oB1 ol0)) fun o42_ => ?_
 refine TA.tp 7 (.tuple #[.agg #[vi r14.1.root, .slice A6 r14.1.nodes.length c6], vi r14.2]) rfl (fun _ => by kernel_rfl) (fun _ _ _ h => h) o42_ ?_
 let a30_ : Value := .agg #[vi r14.1.root, .slice A6 r14.1.nodes.length c6]
 refine TA.tp 8 a30_ rfl (fun _ => by kernel_rfl) (fun _ _ _ h => h) o42_ ?_
 refine TA.tp 9 (vi r14.2) rfl (fun _ => by kernel_rfl) (fun _ _ _ h => h) o42_ ?_
 refine TA.all [10] (by kernel_rfl) rfl ⟨?_, trivial⟩
 let v14_ : List Value := [vi r14.1.root, .slice A6 r14.1.nodes.length c6]
 let i4_ : HObj := box b3 24 v14_
 let t5_ : List HObj := i4_ :: i2_ :: []
 refine TA.br rfl (W1.st 0 v14_ t5_ v14_ (by rfl) rfl rfl rfl rfl rfl rfl (fun _ => by kernel_rfl) ?_)
 refine TA.onk (Hp.old (vt hV14 hV15) w37_ (dr1 (kp1 kp0)) (oB1 ol0)) fun o43_ => ?_
 refine TA.tp 11 (vi r14.2) rfl (fun _ => by kernel_rfl) (fun _ _ _ h => h) o43_ ?_
 refine TA.done (by kernel_rfl) ?_
 refine T.seq ?_
 obtain ⟨e2, hb16, hF⟩ := ob hF
 obtain ⟨r15, hb17, hF⟩ := ob hF
 obtain ⟨r16, hb18, hF⟩ := ob hF
 refine T.mid (fun a w' => ∃ (b5 : Nat) (A8 : Option Addr) (c8 : Nat) (V18 : View), View.le V15 V18 ∧ SlOk (made w V18) eNode A8 c8 r16.1.nodes ∧ Fr 172 [(1, vi r11), (2, vi r12), (7, pB b3 0), (8, vi r14.2), (11, .slice A5 r10.1.length c5), (12, pB b5 0), (13, vi r16.2)] a ∧ Hp w V18 ((box b5 24 [vi r16.1.root, .slice A8 r16.1.nodes.length c8]) :: i4_ :: []) w') ?_ ?_
 ·
  refine T.held t5_ (by kernel_rfl) ?_
  have w38_ := vt (vt (vt (vt (vt (vt (vt (vt (vt (vt (vt (vt hV1 hV2) hV3) hV4) hV5) hV6) hV7) hV8) hV11) hV12) hV13) hV14) hV15
  refine TA.keep (Hp.old vr w38_ (kp1 (kp1 kp0)) (oB1 (oB1 ol0))) fun o44_ => ?_
  refine TA.tk 0 a27_ rfl (by kernel_rfl) (fun _ _ _ h => h) o44_ (ldN 1 rfl rfl (fun _ => by kernel_rfl) (by rfl) rfl) ?_
  refine TA.tp 1 (.slice A5 r10.1.length c5) rfl (fun _ => by kernel_rfl) (fun _ _ _ h => h) o44_ ?_
  refine TA.tp 2 (vi r12) rfl (fun _ => by kernel_rfl) (fun _ _ _ h => h) o44_ ?_
  obtain ⟨hi4, hi5, hi6⟩ := idx_some hb16
  refine TA.tk 3 (.pointer (some ((sadr A5).add (r12.toNat * 6)))) rfl (by kernel_rfl) (fun _ _ _ h => h) o44_ (fun w' hh => exec_indexAddr (e := 28) (s := 6) rfl rfl rfl (by kernel_rfl) (by kernel_rfl) hi4 hi5 ((SlOk.mono hs5 (vt (made_le _ _) (vt (vt (vt hV12 hV13) hV14) hV15))).some_ hi6 (by decide))) ?_
  let a31_ : Value := .agg #[vi e2.key.pfs, vi e2.key.obj, vi e2.key.off, vi e2.made, vi e2.gone, .string e2.val]
  refine TA.tk 4 a31_ rfl (by kernel_rfl) (fun _ _ _ h => h) o44_ (fun w' hh => exec_loadN (cs := [vi e2.key.pfs, vi e2.key.obj, vi e2.key.off, vi e2.made, vi e2.gone, .string e2.val]) rfl rfl (by kernel_rfl) (by kernel_rfl) (fun j u hj => (hh.cell_view (SlOk.cellF (E := eElem) (SlOk.mono hs5 (vt (made_le _ _) (vt (vt (vt hV12 hV13) hV14) hV15))) hi6 j (fun _ _ _ h => h) hj)))) ?_
  refine TA.all [5, 10] (by kernel_rfl) rfl ⟨?_, ?_, trivial⟩
  ·
   refine TA.br rfl (W1.call (vAg eSpot) r15 22 #[a31_] (by kernel_rfl) (fun _ => by kernel_rfl) (fun w' hh => elem_Spot_l e2 r15 hb17 w' ) ?_)
   intro u V16 hV16 hu
   obtain rfl := sureSpot _ _ _ hu
   refine TA.on (Hp.old hV16 w38_ (kp1 (kp1 kp0)) (oB1 (oB1 ol0))) ?_
   refine TA.all [6, 10] (by kernel_rfl) rfl ⟨?_, ?_, trivial⟩
   ·
    refine TA.br rfl (W1.call (vT2 (vAg eTree) (vSc eInt)) r16 21 #[a27_, .agg #[vi r15.key.pfs, vi r15.key.obj, vi r15.key.off, vi r15.made]] (by kernel_rfl) (fun _ => by kernel_rfl) (fun w' hh => shrink_Remove_l F p0 r15 r16 hb18 w' A1 c1 (SlOk.mono (SlOk.mono hs1 (vt (vt (vt (vt (vt (vt (vt (vt (vt (vt (vt (vt (vt hV1 hV2) hV3) hV4) hV5) hV6) hV7) hV8) hV11) hV12) hV13) hV14) hV15) hV16)) hh.view)) ?_)
    intro u V17 hV17 hu
    obtain ⟨u9, u10, rfl, hu9, hu10⟩ := vT2_elim hu
    obtain ⟨cs4, rfl, hr4⟩ := vagg_elim hu9
    obtain ⟨A7, c7, rfl, hs7⟩ := hr4
    obtain rfl := sureInt _ _ _ hu10
    refine TA.onk (Hp.old (vt hV16 hV17) w38_ (kp1 (kp1 kp0)) (oB1 (oB1 ol0))) fun o45_ => ?_
    refine TA.tp 7 (.tuple #[.agg #[vi r16.1.root, .slice A7 r16.1.nodes.length c7], vi r16.2]) rfl (fun _ => by kernel_rfl) (fun _ _ _ h => h) o45_ ?_
    refine TA.tp 8 (.agg #[vi r16.1.root, .slice A7 r16.1.nodes.length c7]) rfl (fun _ => by kernel_rfl) (fun _ _ _ h => h) o45_ ?_
    refine TA.tp 9 (vi r16.2) rfl (fun _ => by kernel_rfl) (fun _ _ _ h => h) o45_ ?_
    refine TA.all [10] (by kernel_rfl) rfl ⟨?_, trivial⟩
    refine TA.br rfl (W1.np 24 v12_ (fun _ => by kernel_rfl) (fun b5 => ?_))
    refine TA.on (Hp.old (vt hV16 hV17) w38_ (dr1 (kp1 (kp1 kp0))) (oB1 (oB1 ol0))) ?_
    refine TA.all [11] (by kernel_rfl) rfl ⟨?_, trivial⟩
    let v15_ : List Value := [vi r16.1.root, .slice A7 r16.1.nodes.length c7]
    refine TA.br rfl (W1.st 0 v15_ ((box b5 24 v15_) :: t5_) v15_ (by rfl) rfl rfl rfl rfl rfl rfl (fun _ => by kernel_rfl) ?_)
    refine TA.onk (Hp.old (vt hV16 hV17) w38_ (dr1 (kp1 (kp1 kp0))) (oB1 (oB1 ol0))) fun o46_ => ?_
    refine TA.tp 12 (vi r16.2) rfl (fun _ => by kernel_rfl) (fun _ _ _ h => h) o46_ ?_
    refine TA.done (by kernel_rfl) ?_
    exact fun a w' hf hh => ⟨b5, A7, c7, V17, (vt hV16 hV17), (SlOk.mono hs7 (made_mono vr)), (Fr.sel hf rfl), (hh.sub (kp2 (dr1 kp0)))⟩
   refine TA.br rfl (W1.np 24 v12_ (fun _ => by kernel_rfl) (fun b5 => ?_))
   refine TA.on (Hp.old hV16 w38_ (dr1 (kp1 (kp1 kp0))) (oB1 (oB1 ol0))) ?_
   refine TA.all [6] (by kernel_rfl) rfl ⟨?_, trivial⟩
   refine TA.br rfl (W1.call (vT2 (vAg eTree) (vSc eInt)) r16 21 #[a27_, .agg #[vi r15.key.pfs, vi r15.key.obj, vi r15.key.off, vi r15.made]] (by kernel_rfl) (fun _ => by kernel_rfl) (fun w' hh => shrink_Remove_l F p0 r15 r16 hb18 w' A1 c1 (SlOk.mono (SlOk.mono hs1 (vt (vt (vt (vt (vt (vt (vt (vt (vt (vt (vt (vt (vt hV1 hV2) hV3) hV4) hV5) hV6) hV7) hV8) hV11) hV12) hV13) hV14) hV15) hV16)) hh.view)) ?_)
   intro u V17 hV17 hu
   obtain ⟨u9, u10, rfl, hu9, hu10⟩ := vT2_elim hu
   obtain ⟨cs4, rfl, hr4⟩ := vagg_elim hu9
   obtain ⟨A7, c7, rfl, hs7⟩ := hr4
   obtain rfl := sureInt _ _ _ hu10
   refine TA.onk (Hp.old (vt hV16 hV17) w38_ (dr1 (kp1 (kp1 kp0))) (oB1 (oB1 ol0))) fun o47_ => ?_
   refine TA.tp 7 (.tuple #[.agg #[vi r16.1.root, .slice A7 r16.1.nodes.length c7], vi r16.2]) rfl (fun _ => by kernel_rfl) (fun _ _ _ h => h) o47_ ?_
   refine TA.tp 8 (.agg #[vi r16.1.root, .slice A7 r16.1.nodes.length c7]) rfl (fun _ => by kernel_rfl) (fun _ _ _ h => h) o47_ ?_
   refine TA.tp 9 (vi r16.2) rfl (fun _ => by kernel_rfl) (fun _ _ _ h => h) o47_ ?_
   refine TA.all [11] (by kernel_rfl) rfl ⟨?_, trivial⟩
   let v16_ : List Value := [vi r16.1.root, .slice A7 r16.1.nodes.length c7]
   refine TA.br rfl (W1.st 0 v16_ ((box b5 24 v16_) :: t5_) v16_ (by rfl) rfl rfl rfl rfl rfl rfl (fun _ => by kernel_rfl) ?_)
   refine TA.onk (Hp.old (vt hV16 hV17) w38_ (dr1 (kp1 (kp1 kp0))) (oB1 (oB1 ol0))) fun o48_ => ?_
   refine TA.tp 12 (vi r16.2) rfl (fun _ => by kernel_rfl) (fun _ _ _ h => h) o48_ ?_
   refine TA.done (by kernel_rfl) ?_
   exact fun a w' hf hh => ⟨b5, A7, c7, V17, (vt hV16 hV17), (SlOk.mono hs7 (made_mono vr)), (Fr.sel hf rfl), (hh.sub (kp2 (dr1 kp0)))⟩
  refine TA.br rfl (W1.np 24 v12_ (fun _ => by kernel_rfl) (fun b5 => ?_))
  refine TA.on (Hp.old vr w38_ (dr1 (kp1 (kp1 kp0))) (oB1 (oB1 ol0))) ?_
  refine TA.all [5] (by kernel_rfl) rfl ⟨?_, trivial⟩
  refine TA.br rfl (W1.call (vAg eSpot) r15 22 #[a31_] (by kernel_rfl) (fun _ => by kernel_rfl) (fun w' hh => elem_Spot_l e2 r15 hb17 w' ) ?_)
  intro u V16 hV16 hu
  obtain rfl := sureSpot _ _ _ hu
  refine TA.on (Hp.old hV16 w38_ (dr1 (kp1 (kp1 kp0))) (oB1 (oB1 ol0))) ?_
  refine TA.all [6] (by kernel_rfl) rfl ⟨?_, trivial⟩
  refine TA.br rfl (W1.call (vT2 (vAg eTree) (vSc eInt)) r16 21 #[a27_, .agg #[vi r15.key.pfs, vi r15.key.obj, vi r15.key.off, vi r15.made]] (by kernel_rfl) (fun _ => by kernel_rfl) (fun w' hh => shrink_Remove_l F p0 r15 r16 hb18 w' A1 c1 (SlOk.mono (SlOk.mono hs1 (vt (vt (vt (vt (vt (vt (vt (vt (vt (vt (vt (vt (vt hV1 hV2) hV3) hV4) hV5) hV6) hV7) hV8) hV11) hV12) hV13) hV14) hV15) hV16)) hh.view)) ?_)
  intro u V17 hV17 hu
  obtain ⟨u9, u10, rfl, hu9, hu10⟩ := vT2_elim hu
  obtain ⟨cs4, rfl, hr4⟩ := vagg_elim hu9
  obtain ⟨A7, c7, rfl, hs7⟩ := hr4
  obtain rfl := sureInt _ _ _ hu10
  refine TA.onk (Hp.old (vt hV16 hV17) w38_ (dr1 (kp1 (kp1 kp0))) (oB1 (oB1 ol0))) fun o49_ => ?_
  refine TA.tp 7 (.tuple #[.agg #[vi r16.1.root, .slice A7 r16.1.nodes.length c7], vi r16.2]) rfl (fun _ => by kernel_rfl) (fun _ _ _ h => h) o49_ ?_
  refine TA.tp 8 (.agg #[vi r16.1.root, .slice A7 r16.1.nodes.length c7]) rfl (fun _ => by kernel_rfl) (fun _ _ _ h => h) o49_ ?_
  refine TA.tp 9 (vi r16.2) rfl (fun _ => by kernel_rfl) (fun _ _ _ h => h) o49_ ?_
  refine TA.all [11] (by kernel_rfl) rfl ⟨?_, trivial⟩
  let v17_ : List Value := [vi r16.1.root, .slice A7 r16.1.nodes.length c7]
  refine TA.br rfl (W1.st 0 v17_ ((box b5 24 v17_) :: t5_) v17_ (by rfl) rfl rfl rfl rfl rfl rfl (fun _ => by kernel_rfl) ?_)
  refine TA.onk (Hp.old (vt hV16 hV17) w38_ (dr1 (kp1 (kp1 kp0))) (oB1 (oB1 ol0))) fun o50_ => ?_
  refine TA.tp 12 (vi r16.2) rfl (fun _ => by kernel_rfl) (fun _ _ _ h => h) o50_ ?_
  refine TA.done (by kernel_rfl) ?_
  exact fun a w' hf hh => ⟨b5, A7, c7, V17, (vt hV16 hV17), (SlOk.mono hs7 (made_mono vr)), (Fr.sel hf rfl), (hh.sub (kp2 (dr1 kp0)))⟩
 rintro a w' ⟨b5, A8, c8, V18, hV18, hs8, hf, hh⟩
 let v18_ : List Value := [vi r16.1.root, .slice A8 r16.1.nodes.length c8]
 let i6_ : HObj := box b5 24 v18_
 let t7_ : List HObj := i6_ :: i4_ :: []
 refine (?_ : T 172 w V18 t7_ [(1, vi r11), (2, vi r12), (7, pB b3 0), (8, vi r14.2), (11, .slice A5 r10.1.length c5), (12, pB b5 0), (13, vi r16.2)] _) a w' hf hh
 clear hf hh
 refine T.seq ?_
 refine T.cut (fun a w' => Fr 172 [(1, vi r11), (2, vi r12), (7, pB b3 0), (11, .slice A5 r10.1.length c5), (12, pB b5 0), (96, .bool ((r14.2 != 0) || (r16.2 != 0)))] a ∧ Hp w V18 t7_ w') ?_ ?_
 ·
  refine T.region (T.p3 (vi r14.2) (.bool (r14.2 != 0)) (.bool (r14.2 != 0)) (fun _ => by kernel_rfl) ?_)
  cases hg4 : (r14.2 != 0)
  ·
   skip
   refine T.p3 (vi r16.2) (.bool (r16.2 != 0)) (.bool (r16.2 != 0)) (fun _ => by kernel_rfl) (T.nil ?_)
   exact fun a w' hf hh => ⟨(Fr.sel hf rfl), (hh.sub (kp1 (kp1 kp0)))⟩
  skip
  refine T.pass (by kernel_rfl) (by kernel_rfl) (T.pass (by kernel_rfl) (by kernel_rfl) (T.pk (.bool true) (fun _ => by kernel_rfl) (T.nil ?_)))
  exact fun a w' hf hh => ⟨(Fr.sel hf rfl), (hh.sub (kp1 (kp1 kp0)))⟩
 rintro a w' ⟨hf, hh⟩
 refine (?_ : T 172 w V18 t7_ [(1, vi r11), (2, vi r12), (7, pB b3 0), (11, .slice A5 r10.1.length c5), (12, pB b5 0), (96, .bool ((r14.2 != 0) || (r16.2 != 0)))] _) a w' hf hh
 clear hf hh
 refine T.cond ((r14.2 != 0) || (r16.2 != 0)) (by kernel_rfl) (by kernel_rfl) (fun hc4 => ?_) (fun hc4 => ?_)
 ·
  rw [hc4, cond_true] at hF
  refine T.seq (T.region (T.pk (.bool false) (fun _ => by kernel_rfl) (T.nil ?_)))
  cases hF
  refine T.ret rfl ?_
  exact T.ret1 rfl (ResIs.tmp rfl) fun w' hh => ⟨_, rfl, hh.below, (show _ from rfl)⟩
 rw [hc4, cond_false] at hF
 refine T.skip_code ?_
 refine T.seq ?_
 obtain ⟨e3, hb19, hF⟩ := ob hF
 obtain ⟨r17, hb20, hF⟩ := ob hF
 obtain ⟨r18, hb21, hF⟩ := ob hF
 refine T.mid (fun a w' => ∃ (b6 : Nat) (A10 : Option Addr) (c10 : Nat) (V21 : View), View.le V18 V21 ∧ SlOk (made w V21) eNode A10 c10 r18.1.nodes ∧ Fr 172 [(1, vi r11), (2, vi r12), (8, vi r18.2), (11, .slice A5 r10.1.length c5), (12, pB b5 0), (14, pB b6 0)] a ∧ Hp w V21 ((box b6 24 [vi r18.1.root, .slice A10 r18.1.nodes.length c10]) :: i6_ :: []) w') ?_ ?_
 ·
  refine T.held t7_ (by kernel_rfl) ?_
  have w39_ := vt (vt (vt (vt (vt (vt (vt (vt (vt (vt (vt (vt (vt hV1 hV2) hV3) hV4) hV5) hV6) hV7) hV8) hV11) hV12) hV13) hV14) hV15) hV18
  refine TA.keep (Hp.old vr w39_ (kp1 (kp1 kp0)) (oB1 (oB1 ol0))) fun o51_ => ?_
  refine TA.tk 0 a30_ rfl (by kernel_rfl) (fun _ _ _ h => h) o51_ (ldN 1 rfl rfl (fun _ => by kernel_rfl) (by rfl) rfl) ?_
  refine TA.tp 1 (.slice A5 r10.1.length c5) rfl (fun _ => by kernel_rfl) (fun _ _ _ h => h) o51_ ?_
  refine TA.tp 2 (vi r12) rfl (fun _ => by kernel_rfl) (fun _ _ _ h => h) o51_ ?_
  obtain ⟨hi7, hi8, hi9⟩ := idx_some hb19
  refine TA.tk 3 (.pointer (some ((sadr A5).add (r12.toNat * 6)))) rfl (by kernel_rfl) (fun _ _ _ h => h) o51_ (fun w' hh => exec_indexAddr (e := 28) (s := 6) rfl rfl rfl (by kernel_rfl) (by kernel_rfl) hi7 hi8 ((SlOk.mono hs5 (vt (made_le _ _) (vt (vt (vt (vt hV12 hV13) hV14) hV15) hV18))).some_ hi9 (by decide))) ?_
  let a32_ : Value := .agg #[vi e3.key.pfs, vi e3.key.obj, vi e3.key.off, vi e3.made, vi e3.gone, .string e3.val]
  refine TA.tk 4 a32_ rfl (by kernel_rfl) (fun _ _ _ h => h) o51_ (fun w' hh => exec_loadN (cs := [vi e3.key.pfs, vi e3.key.obj, vi e3.key.off, vi e3.made, vi e3.gone, .string e3.val]) rfl rfl (by kernel_rfl) (by kernel_rfl) (fun j u hj => (hh.cell_view (SlOk.cellF (E := eElem) (SlOk.mono hs5 (vt (made_le _ _) (vt (vt (vt (vt hV12 hV13) hV14) hV15) hV18))) hi9 j (fun _ _ _ h => h) hj)))) ?_
  refine TA.all [5, 10] (by kernel_rfl) rfl ⟨?_, ?_, trivial⟩
  ·
   refine TA.br rfl (W1.call (vAg eSpot) r17 22 #[a32_] (by kernel_rfl) (fun _ => by kernel_rfl) (fun w' hh => elem_Spot_l e3 r17 hb20 w' ) ?_)
   intro u V19 hV19 hu
   obtain rfl := sureSpot _ _ _ hu
   refine TA.on (Hp.old hV19 w39_ (kp1 (kp1 kp0)) (oB1 (oB1 ol0))) ?_
   refine TA.all [6, 10] (by kernel_rfl) rfl ⟨?_, ?_, trivial⟩
   ·
    refine TA.br rfl (W1.call (vT2 (vAg eTree) (vSc eInt)) r18 21 #[a30_, .agg #[vi r17.key.pfs, vi r17.key.obj, vi r17.key.off, vi r17.made]] (by kernel_rfl) (fun _ => by kernel_rfl) (fun w' hh => shrink_Remove_l F r14.1 r17 r18 hb21 w' A6 c6 (SlOk.mono (SlOk.mono hs6 (vt (made_le _ _) (vt hV18 hV19))) hh.view)) ?_)
    intro u V20 hV20 hu
    obtain ⟨u11, u12, rfl, hu11, hu12⟩ := vT2_elim hu
    obtain ⟨cs5, rfl, hr5⟩ := vagg_elim hu11
    obtain ⟨A9, c9, rfl, hs9⟩ := hr5
    obtain rfl := sureInt _ _ _ hu12
    refine TA.onk (Hp.old (vt hV19 hV20) w39_ (kp1 (kp1 kp0)) (oB1 (oB1 ol0))) fun o52_ => ?_
    refine TA.tp 7 (.tuple #[.agg #[vi r18.1.root, .slice A9 r18.1.nodes.length c9], vi r18.2]) rfl (fun _ => by kernel_rfl) (fun _ _ _ h => h) o52_ ?_
    refine TA.tp 8 (.agg #[vi r18.1.root, .slice A9 r18.1.nodes.length c9]) rfl (fun _ => by kernel_rfl) (fun _ _ _ h => h) o52_ ?_
    refine TA.tp 9 (vi r18.2) rfl (fun _ => by kernel_rfl) (fun _ _ _ h => h) o52_ ?_
    refine TA.all [10] (by kernel_rfl) rfl ⟨?_, trivial⟩
    refine TA.br rfl (W1.np 24 v12_ (fun _ => by kernel_rfl) (fun b6 => ?_))
    refine TA.on (Hp.old (vt hV19 hV20) w39_ (dr1 (kp1 (kp1 kp0))) (oB1 (oB1 ol0))) ?_
    refine TA.all [11] (by kernel_rfl) rfl ⟨?_, trivial⟩
    let v19_ : List Value := [vi r18.1.root, .slice A9 r18.1.nodes.length c9]
    refine TA.br rfl (W1.st 0 v19_ ((box b6 24 v19_) :: t7_) v19_ (by rfl) rfl rfl rfl rfl rfl rfl (fun _ => by kernel_rfl) ?_)
    refine TA.onk (Hp.old (vt hV19 hV20) w39_ (dr1 (kp1 (kp1 kp0))) (oB1 (oB1 ol0))) fun o53_ => ?_
    refine TA.tp 12 (vi r18.2) rfl (fun _ => by kernel_rfl) (fun _ _ _ h => h) o53_ ?_
    refine TA.done (by kernel_rfl) ?_
    exact fun a w' hf hh => ⟨b6, A9, c9, V20, (vt hV19 hV20), (SlOk.mono hs9 (made_mono vr)), (Fr.sel hf rfl), (hh.sub (kp2 (dr1 kp0)))⟩
   refine TA.br rfl (W1.np 24 v12_ (fun _ => by kernel_rfl) (fun b6 => ?_))
   refine TA.on (Hp.old hV19 w39_ (dr1 (kp1 (kp1 kp0))) (oB1 (oB1 ol0))) ?_
   refine TA.all [6] (by kernel_rfl) rfl ⟨?_, trivial⟩
   refine TA.br rfl (W1.call (vT2 (vAg eTree) (vSc eInt)) r18 21 #[a30_, .agg #[vi r17.key.pfs, vi r17.key.obj, vi r17.key.off, vi r17.made]] (by kernel_rfl) (fun _ => by kernel_rfl) (fun w' hh => shrink_Remove_l F r14.1 r17 r18 hb21 w' A6 c6 (SlOk.mono (SlOk.mono hs6 (vt (made_le _ _) (vt hV18 hV19))) hh.view)) ?_)
   intro u V20 hV20 hu
   obtain ⟨u11, u12, rfl, hu11, hu12⟩ := vT2_elim hu
   obtain ⟨cs5, rfl, hr5⟩ := vagg_elim hu11
   obtain ⟨A9, c9, rfl, hs9⟩ := hr5
   obtain rfl := sureInt _ _ _ hu12
   refine TA.onk (Hp.old (vt hV19 hV20) w39_ (dr1 (kp1 (kp1 kp0))) (oB1 (oB1 ol0))) fun o54_ => ?_
   refine TA.tp 7 (.tuple #[.agg #[vi r18.1.root, .slice A9 r18.1.nodes.length c9], vi r18.2]) rfl (fun _ => by kernel_rfl) (fun _ _ _ h => h) o54_ ?_
   refine TA.tp 8 (.agg #[vi r18.1.root, .slice A9 r18.1.nodes.length c9]) rfl (fun _ => by kernel_rfl) (fun _ _ _ h => h) o54_ ?_
   refine TA.tp 9 (vi r18.2) rfl (fun _ => by kernel_rfl) (fun _ _ _ h => h) o54_ ?_
   refine TA.all [11] (by kernel_rfl) rfl ⟨?_, trivial⟩
   let v20_ : List Value := [vi r18.1.root, .slice A9 r18.1.nodes.length c9]
   refine TA.br rfl (W1.st 0 v20_ ((box b6 24 v20_) :: t7_) v20_ (by rfl) rfl rfl rfl rfl rfl rfl (fun _ => by kernel_rfl) ?_)
   refine TA.onk (Hp.old (vt hV19 hV20) w39_ (dr1 (kp1 (kp1 kp0))) (oB1 (oB1 ol0))) fun o55_ => ?_
   refine TA.tp 12 (vi r18.2) rfl (fun _ => by kernel_rfl) (fun _ _ _ h => h) o55_ ?_
   refine TA.done (by kernel_rfl) ?_
   exact fun a w' hf hh => ⟨b6, A9, c9, V20, (vt hV19 hV20), (SlOk.mono hs9 (made_mono vr)), (Fr.sel hf rfl), (hh.sub (kp2 (dr1 kp0)))⟩
  refine TA.br rfl (W1.np 24 v12_ (fun _ => by kernel_rfl) (fun b6 => ?_))
  refine TA.on (Hp.old vr w39_ (dr1 (kp1 (kp1 kp0))) (oB1 (oB1 ol0))) ?_
  refine TA.all [5] (by kernel_rfl) rfl ⟨?_, trivial⟩
  refine TA.br rfl (W1.call (vAg eSpot) r17 22 #[a32_] (by kernel_rfl) (fun _ => by kernel_rfl) (fun w' hh => elem_Spot_l e3 r17 hb20 w' ) ?_)
  intro u V19 hV19 hu
  obtain rfl := sureSpot _ _ _ hu
  refine TA.on (Hp.old hV19 w39_ (dr1 (kp1 (kp1 kp0))) (oB1 (oB1 ol0))) ?_
  refine TA.all [6] (by kernel_rfl) rfl ⟨?_, trivial⟩
  refine TA.br rfl (W1.call (vT2 (vAg eTree) (vSc eInt)) r18 21 #[a30_, .agg #[vi r17.key.pfs, vi r17.key.obj, vi r17.key.off, vi r17.made]] (by kernel_rfl) (fun _ => by kernel_rfl) (fun w' hh => shrink_Remove_l F r14.1 r17 r18 hb21 w' A6 c6 (SlOk.mono (SlOk.mono hs6 (vt (made_le _ _) (vt hV18 hV19))) hh.view)) ?_)
  intro u V20 hV20 hu
  obtain ⟨u11, u12, rfl, hu11, hu12⟩ := vT2_elim hu
  obtain ⟨cs5, rfl, hr5⟩ := vagg_elim hu11
  obtain ⟨A9, c9, rfl, hs9⟩ := hr5
  obtain rfl := sureInt _ _ _ hu12
  refine TA.onk (Hp.old (vt hV19 hV20) w39_ (dr1 (kp1 (kp1 kp0))) (oB1 (oB1 ol0))) fun o56_ => ?_
  refine TA.tp 7 (.tuple #[.agg #[vi r18.1.root, .slice A9 r18.1.nodes.length c9], vi r18.2]) rfl (fun _ => by kernel_rfl) (fun _ _ _ h => h) o56_ ?_
  refine TA.tp 8 (.agg #[vi r18.1.root, .slice A9 r18.1.nodes.length c9]) rfl (fun _ => by kernel_rfl) (fun _ _ _ h => h) o56_ ?_
  refine TA.tp 9 (vi r18.2) rfl (fun _ => by kernel_rfl) (fun _ _ _ h => h) o56_ ?_
  refine TA.all [11] (by kernel_rfl) rfl ⟨?_, trivial⟩
  let v21_ : List Value := [vi r18.1.root, .slice A9 r18.1.nodes.length c9]
  refine TA.br rfl (W1.st 0 v21_ ((box b6 24 v21_) :: t7_) v21_ (by rfl) rfl rfl rfl rfl rfl rfl (fun _ => by kernel_rfl) ?_)
  refine TA.onk (Hp.old (vt hV19 hV20) w39_ (dr1 (kp1 (kp1 kp0))) (oB1 (oB1 ol0))) fun o57_ => ?_
  refine TA.tp 12 (vi r18.2) rfl (fun _ => by kernel_rfl) (fun _ _ _ h => h) o57_ ?_
  refine TA.done (by kernel_rfl) ?_
  exact fun a w' hf hh => ⟨b6, A9, c9, V20, (vt hV19 hV20), (SlOk.mono hs9 (made_mono vr)), (Fr.sel hf rfl), (hh.sub (kp2 (dr1 kp0)))⟩
 rintro a w' ⟨b6, A10, c10, V21, hV21, hs10, hf, hh⟩
 let v22_ : List Value := [vi r18.1.root, .slice A10 r18.1.nodes.length c10]
 let i8_ : HObj := box b6 24 v22_
 let t9_ : List HObj := i8_ :: i6_ :: []
 refine (?_ : T 172 w V21 t9_ [(1, vi r11), (2, vi r12), (8, vi r18.2), (11, .slice A5 r10.1.length c5), (12, pB b5 0), (14, pB b6 0)] _) a w' hf hh
 clear hf hh
 refine T.seq ?_
 obtain ⟨e4, hb22, hF⟩ := ob hF
 obtain ⟨r19, hb23, hF⟩ := ob hF
 obtain ⟨r20, hb24, hF⟩ := ob hF
 refine T.mid (fun a w' => ∃ (b7 : Nat) (A12 : Option Addr) (c12 : Nat) (V24 : View), View.le V21 V24 ∧ SlOk (made w V24) eNode A12 c12 r20.1.nodes ∧ Fr 172 [(1, vi r11), (2, vi r12), (8, vi r18.2), (11, .slice A5 r10.1.length c5), (13, vi r20.2), (14, pB b6 0), (15, pB b7 0)] a ∧ Hp w V24 ((box b7 24 [vi r20.1.root, .slice A12 r20.1.nodes.length c12]) :: i8_ :: []) w') ?_ ?_
 ·
  refine T.held t9_ (by kernel_rfl) ?_
  let a33_ : Value := .agg #[vi r16.1.root, .slice A8 r16.1.nodes.length c8]
  have w40_ := vt (vt (vt (vt (vt (vt (vt (vt (vt (vt (vt (vt (vt (vt hV1 hV2) hV3) hV4) hV5) hV6) hV7) hV8) hV11) hV12) hV13) hV14) hV15) hV18) hV21
  refine TA.keep (Hp.old vr w40_ (kp1 (kp1 kp0)) (oB1 (oB1 ol0))) fun o58_ => ?_
  refine TA.tk 0 a33_ rfl (by kernel_rfl) (fun _ _ _ h => h) o58_ (ldN 1 rfl rfl (fun _ => by kernel_rfl) (by rfl) rfl) ?_
  refine TA.tp 1 (.slice A5 r10.1.length c5) rfl (fun _ => by kernel_rfl) (fun _ _ _ h => h) o58_ ?_
  refine TA.tp 2 (vi r11) rfl (fun _ => by kernel_rfl) (fun _ _ _ h => h) o58_ ?_
  obtain ⟨hi10, hi11, hi12⟩ := idx_some hb22
  refine TA.tk 3 (.pointer (some ((sadr A5).add (r11.toNat * 6)))) rfl (by kernel_rfl) (fun _ _ _ h => h) o58_ (fun w' hh => exec_indexAddr (e := 28) (s := 6) rfl rfl rfl (by kernel_rfl) (by kernel_rfl) hi10 hi11 ((SlOk.mono hs5 (vt (made_le _ _) (vt (vt (vt (vt (vt hV12 hV13) hV14) hV15) hV18) hV21))).some_ hi12 (by decide))) ?_
  let a34_ : Value := .agg #[vi e4.key.pfs, vi e4.key.obj, vi e4.key.off, vi e4.made, vi e4.gone, .string e4.val]
  refine TA.tk 4 a34_ rfl (by kernel_rfl) (fun _ _ _ h => h) o58_ (fun w' hh => exec_loadN (cs := [vi e4.key.pfs, vi e4.key.obj, vi e4.key.off, vi e4.made, vi e4.gone, .string e4.val]) rfl rfl (by kernel_rfl) (by kernel_rfl) (fun j u hj => (hh.cell_view (SlOk.cellF (E := eElem) (SlOk.mono hs5 (vt (made_le _ _) (vt (vt (vt (vt (vt hV12 hV13) hV14) hV15) hV18) hV21))) hi12 j (fun _ _ _ h => h) hj)))) ?_
  refine TA.all [5, 10] (by kernel_rfl) rfl ⟨?_, ?_, trivial⟩
  ·
   refine TA.br rfl (W1.call (vAg eSpot) r19 22 #[a34_] (by kernel_rfl) (fun _ => by kernel_rfl) (fun w' hh => elem_Spot_l e4 r19 hb23 w' ) ?_)
   intro u V22 hV22 hu
   obtain rfl := sureSpot _ _ _ hu
   refine TA.on (Hp.old hV22 w40_ (kp1 (kp1 kp0)) (oB1 (oB1 ol0))) ?_
   refine TA.all [6, 10] (by kernel_rfl) rfl ⟨?_, ?_, trivial⟩
   ·
    refine TA.br rfl (W1.call (vT2 (vAg eTree) (vSc eInt)) r20 21 #[a33_, .agg #[vi r19.key.pfs, vi r19.key.obj, vi r19.key.off, vi r19.made]] (by kernel_rfl) (fun _ => by kernel_rfl) (fun w' hh => shrink_Remove_l F r16.1 r19 r20 hb24 w' A8 c8 (SlOk.mono (SlOk.mono hs8 (vt (made_le _ _) (vt hV21 hV22))) hh.view)) ?_)
    intro u V23 hV23 hu
    obtain ⟨u13, u14, rfl, hu13, hu14⟩ := vT2_elim hu
    obtain ⟨cs6, rfl, hr6⟩ := vagg_elim hu13
    obtain ⟨A11, c11, rfl, hs11⟩ := hr6
    obtain rfl := sureInt _ _ _ hu14
    refine TA.onk (Hp.old (vt hV22 hV23) w40_ (kp1 (kp1 kp0)) (oB1 (oB1 ol0))) fun o59_ => ?_
    refine TA.tp 7 (.tuple #[.agg #[vi r20.1.root, .slice A11 r20.1.nodes.length c11], vi r20.2]) rfl (fun _ => by kernel_rfl) (fun _ _ _ h => h) o59_ ?_
    refine TA.tp 8 (.agg #[vi r20.1.root, .slice A11 r20.1.nodes.length c11]) rfl (fun _ => by kernel_rfl) (fun _ _ _ h => h) o59_ ?_
    refine TA.tp 9 (vi r20.2) rfl (fun _ => by kernel_rfl) (fun _ _ _ h => h) o59_ ?_
    refine TA.all [10] (by kernel_rfl) rfl ⟨?_, trivial⟩
    refine TA.br rfl (W1.np 24 v12_ (fun _ => by kernel_rfl) (fun b7 => ?_))
    refine TA.on (Hp.old (vt hV22 hV23) w40_ (dr1 (kp1 (kp1 kp0))) (oB1 (oB1 ol0))) ?_
    refine TA.all [11] (by kernel_rfl) rfl ⟨?_, trivial⟩
    let v23_ : List Value := [vi r20.1.root, .slice A11 r20.1.nodes.length c11]
    refine TA.br rfl (W1.st 0 v23_ ((box b7 24 v23_) :: t9_) v23_ (by rfl) rfl rfl rfl rfl rfl rfl (fun _ => by kernel_rfl) ?_)
    refine TA.onk (Hp.old (vt hV22 hV23) w40_ (dr1 (kp1 (kp1 kp0))) (oB1 (oB1 ol0))) fun o60_ => ?_
    refine TA.tp 12 (vi r20.2) rfl (fun _ => by kernel_rfl) (fun _ _ _ h => h) o60_ ?_
    refine TA.done (by kernel_rfl) ?_
    exact fun a w' hf hh => ⟨b7, A11, c11, V23, (vt hV22 hV23), (SlOk.mono hs11 (made_mono vr)), (Fr.sel hf rfl), (hh.sub (kp2 (dr1 kp0)))⟩
   refine TA.br rfl (W1.np 24 v12_ (fun _ => by kernel_rfl) (fun b7 => ?_))
   refine TA.on (Hp.old hV22 w40_ (dr1 (kp1 (kp1 kp0))) (oB1 (oB1 ol0))) ?_
   refine TA.all [6] (by kernel_rfl) rfl ⟨?_, trivial⟩
   refine TA.br rfl (W1.call (vT2 (vAg eTree) (vSc eInt)) r20 21 #[a33_, .agg #[vi r19.key.pfs, vi r19.key.obj, vi r19.key.off, vi r19.made]] (by kernel_rfl) (fun _ => by kernel_rfl) (fun w' hh => shrink_Remove_l F r16.1 r19 r20 hb24 w' A8 c8 (SlOk.mono (SlOk.mono hs8 (vt (made_le _ _) (vt hV21 hV22))) hh.view)) ?_)
   intro u V23 hV23 hu
   obtain ⟨u13, u14, rfl, hu13, hu14⟩ := vT2_elim hu
   obtain ⟨cs6, rfl, hr6⟩ := vagg_elim hu13
   obtain ⟨A11, c11, rfl, hs11⟩ := hr6
   obtain rfl := sureInt _ _ _ hu14
   refine TA.onk (Hp.old (vt hV22 hV23) w40_ (dr1 (kp1 (kp1 kp0))) (oB1 (oB1 ol0))) fun o61_ => ?_
   refine TA.tp 7 (.tuple #[.agg #[vi r20.1.root, .slice A11 r20.1.nodes.length c11], vi r20.2]) rfl (fun _ => by kernel_rfl) (fun _ _ _ h => h) o61_ ?_
   refine TA.tp 8 (.agg #[vi r20.1.root, .slice A11 r20.1.nodes.length c11]) rfl (fun _ => by kernel_rfl) (fun _ _ _ h => h) o61_ ?_
   refine TA.tp 9 (vi r20.2) rfl (fun _ => by kernel_rfl) (fun _ _ _ h => h) o61_ ?_
   refine TA.all [11] (by kernel_rfl) rfl ⟨?_, trivial⟩
   let v24_ : List Value := [vi r20.1.root, .slice A11 r20.1.nodes.length c11]
   refine TA.br rfl (W1.st 0 v24_ ((box b7 24 v24_) :: t9_) v24_ (by rfl) rfl rfl rfl rfl rfl rfl (fun _ => by kernel_rfl) ?_)
   refine TA.onk (Hp.old (vt hV22 hV23) w40_ (dr1 (kp1 (kp1 kp0))) (oB1 (oB1 ol0))) fun o62_ => ?_
   refine TA.tp 12 (vi r20.2) rfl (fun _ => by kernel_rfl) (fun _ _ _ h => h) o62_ ?_
   refine TA.done (by kernel_rfl) ?_
   exact fun a w' hf hh => ⟨b7, A11, c11, V23, (vt hV22 hV23), (SlOk.mono hs11 (made_mono vr)), (Fr.sel hf rfl), (hh.sub (kp2 (dr1 kp0)))⟩
  refine TA.br rfl (W1.np 24 v12_ (fun _ => by kernel_rfl) (fun b7 => ?_))
  refine TA.on (Hp.old vr w40_ (dr1 (kp1 (kp1 kp0))) (oB1 (oB1 ol0))) ?_
  refine TA.all [5] (by kernel_rfl) rfl ⟨?_, trivial⟩
  refine TA.br rfl (W1.call (vAg eSpot) r19 22 #[a34_] (by kernel_rfl) (fun _ => by kernel_rfl) (fun w' hh => elem_Spot_l e4 r19 hb23 w' ) ?_)
  intro u V22 hV22 hu
  obtain rfl := sureSpot _ _ _ hu
  refine TA.on (Hp.old hV22 w40_ (dr1 (kp1 (kp1 kp0))) (oB1 (oB1 ol0))) ?_
  refine TA.all [6] (by kernel_rfl) rfl ⟨?_, trivial⟩
  refine TA.br rfl (W1.call (vT2 (vAg eTree) (vSc eInt)) r20 21 #[a33_, .agg #[vi r19.key.pfs, vi r19.key.obj, vi r19.key.off, vi r19.made]] (by kernel_rfl) (fun _ => by kernel_rfl) (fun w' hh => shrink_Remove_l F r16.1 r19 r20 hb24 w' A8 c8 (SlOk.mono (SlOk.mono hs8 (vt (made_le _ _) (vt hV21 hV22))) hh.view)) ?_)
  intro u V23 hV23 hu
  obtain ⟨u13, u14, rfl, hu13, hu14⟩ := vT2_elim hu
  obtain ⟨cs6, rfl, hr6⟩ := vagg_elim hu13
  obtain ⟨A11, c11, rfl, hs11⟩ := hr6
  obtain rfl := sureInt _ _ _ hu14
  refine TA.onk (Hp.old (vt hV22 hV23) w40_ (dr1 (kp1 (kp1 kp0))) (oB1 (oB1 ol0))) fun o63_ => ?_
  refine TA.tp 7 (.tuple #[.agg #[vi r20.1.root, .slice A11 r20.1.nodes.length c11], vi r20.2]) rfl (fun _ => by kernel_rfl) (fun _ _ _ h => h) o63_ ?_
  refine TA.tp 8 (.agg #[vi r20.1.root, .slice A11 r20.1.nodes.length c11]) rfl (fun _ => by kernel_rfl) (fun _ _ _ h => h) o63_ ?_
  refine TA.tp 9 (vi r20.2) rfl (fun _ => by kernel_rfl) (fun _ _ _ h => h) o63_ ?_
  refine TA.all [11] (by kernel_rfl) rfl ⟨?_, trivial⟩
  let v25_ : List Value := [vi r20.1.root, .slice A11 r20.1.nodes.length c11]
  refine TA.br rfl (W1.st 0 v25_ ((box b7 24 v25_) :: t9_) v25_ (by rfl) rfl rfl rfl rfl rfl rfl (fun _ => by kernel_rfl) ?_)
  refine TA.onk (Hp.old (vt hV22 hV23) w40_ (dr1 (kp1 (kp1 kp0))) (oB1 (oB1 ol0))) fun o64_ => ?_
  refine TA.tp 12 (vi r20.2) rfl (fun _ => by kernel_rfl) (fun _ _ _ h => h) o64_ ?_
  refine TA.done (by kernel_rfl) ?_
  exact fun a w' hf hh => ⟨b7, A11, c11, V23, (vt hV22 hV23), (SlOk.mono hs11 (made_mono vr)), (Fr.sel hf rfl), (hh.sub (kp2 (dr1 kp0)))⟩
 rintro a w' ⟨b7, A12, c12, V24, hV24, hs12, hf, hh⟩
 let v26_ : List Value := [vi r20.1.root, .slice A12 r20.1.nodes.length c12]
 refine (?_ : T 172 w V24 ((box b7 24 v26_) :: i8_ :: []) [(1, vi r11), (2, vi r12), (8, vi r18.2), (11, .slice A5 r10.1.length c5), (13, vi r20.2), (14, pB b6 0), (15, pB b7 0)] _) a w' hf hh
 clear hf hh
 refine T.seq (T.region (T.look (.agg #[vi r18.1.root, .slice A10 r18.1.nodes.length c10]) (by kernel_rfl) (ldN 1 rfl rfl (fun _ => by kernel_rfl) (by rfl) rfl) ?_))
 obtain ⟨r21, hb25, hF⟩ := ob hF
 refine T.step (W1.call (vT2 (vSc (eList eElem)) (vSc eInt)) r21 17 #[.agg #[vi r18.1.root, .slice A10 r18.1.nodes.length c10]] (by kernel_rfl) (fun _ => by kernel_rfl) (fun w' hh => tree_All_l F r18.1 r21 hb25 w' A10 c10 (SlOk.mono (SlOk.mono hs10 (vt (made_le _ _) hV24)) hh.view)) ?_)
 intro u V25 hV25 hu
 obtain ⟨u15, u16, rfl, hu15, hu16⟩ := vT2_elim hu
 obtain ⟨A13, c13, rfl, hs13⟩ := vlist_elim hu15
 obtain rfl := sureInt _ _ _ hu16
 refine T.p5 (.tuple #[.slice A13 r21.1.length c13, vi r21.2]) (.slice A13 r21.1.length c13) (vi r21.2) (.slice A13 r21.1.length c13) (vi r21.2) (fun _ => by kernel_rfl) (T.nil (T.seq (T.region (T.look (.agg #[vi r20.1.root, .slice A12 r20.1.nodes.length c12]) (by kernel_rfl) (ldN 0 rfl rfl (fun _ => by kernel_rfl) (by rfl) rfl) ?_))))
 obtain ⟨r22, hb26, hF⟩ := ob hF
 refine T.step (W1.call (vT2 (vSc (eList eElem)) (vSc eInt)) r22 17 #[.agg #[vi r20.1.root, .slice A12 r20.1.nodes.length c12]] (by kernel_rfl) (fun _ => by kernel_rfl) (fun w' hh => tree_All_l F r20.1 r22 hb26 w' A12 c12 (SlOk.mono (SlOk.mono hs12 (vt (made_le _ _) hV25)) hh.view)) ?_)
 intro u V26 hV26 hu
 obtain ⟨u17, u18, rfl, hu17, hu18⟩ := vT2_elim hu
 obtain ⟨A14, c14, rfl, hs14⟩ := vlist_elim hu17
 obtain rfl := sureInt _ _ _ hu18
 refine T.p5 (.tuple #[.slice A14 r22.1.length c14, vi r22.2]) (.slice A14 r22.1.length c14) (vi r22.2) (.slice A14 r22.1.length c14) (vi r22.2) (fun _ => by kernel_rfl) (T.nil ?_)
 obtain ⟨z2, hX2, hF⟩ := ob hF
 refine T.cut (fun a w' => ∃ (V27 : View), View.le V26 V27 ∧ Fr 172 [(6, .bool z2)] a ∧ Hp w V27 [] w') ?_ ?_
 ·
  refine T.region (T.p3 (vi r18.2) (.bool (r18.2 == 0)) (.bool (r18.2 == 0)) (fun _ => by kernel_rfl) ?_)
  cases hg5 : (r18.2 == 0)
  ·
   skip
   rw [hg5, cond_false] at hX2
   refine T.pass (by kernel_rfl) (by kernel_rfl) (T.pass (by kernel_rfl) (by kernel_rfl) (T.p2 (.bool false) (.bool false) (fun _ => by kernel_rfl) (T.pass (by kernel_rfl) (by kernel_rfl) (T.pass (by kernel_rfl) (by kernel_rfl) (T.p2 (.bool false) (.bool false) (fun _ => by kernel_rfl) (T.pass (by kernel_rfl) (by kernel_rfl) (T.pass (by kernel_rfl) (by kernel_rfl) (T.p2 (.bool false) (.bool false) (fun _ => by kernel_rfl) (T.pass (by kernel_rfl) (by kernel_rfl) (T.pass (by kernel_rfl) (by kernel_rfl) (T.pass (by kernel_rfl) (by kernel_rfl) (T.p2 (.bool false) (.bool false) (fun _ => by kernel_rfl) (T.pass (by kernel_rfl) (by kernel_rfl) (T.pass (by kernel_rfl) (by kernel_rfl) (T.pass (by kernel_rfl) (by kernel_rfl) (T.pass (by kernel_rfl) (by kernel_rfl) (T.pass (by kernel_rfl) (by kernel_rfl) (T.pass (by kernel_rfl) (by kernel_rfl) (T.p2 (.bool false) (.bool false) (fun _ => by kernel_rfl) (T.pass (by kernel_rfl) (by kernel_rfl) (T.pass (by kernel_rfl) (by kernel_rfl) (T.pass (by kernel_rfl) (by kernel_rfl) (T.pass (by kernel_rfl) (by kernel_rfl) (T.pass (by kernel_rfl) (by kernel_rfl) (T.pass (by kernel_rfl) (by kernel_rfl) (T.pass (by kernel_rfl) (by kernel_rfl) (T.p2 (.bool false) (.bool false) (fun _ => by kernel_rfl) (T.pass (by kernel_rfl) (by kernel_rfl) (T.pass (by kernel_rfl) (by kernel_rfl) (T.pass (by kernel_rfl) (by kernel_rfl) (T.pass (by kernel_rfl) (by kernel_rfl) (T.pass (by kernel_rfl) (by kernel_rfl) (T.pass (by kernel_rfl) (by kernel_rfl) ?_)))))))))))))))))))))))))))))))))
   refine T.pass (by kernel_rfl) (by kernel_rfl) (T.p2 (.bool false) (.bool false) (fun _ => by kernel_rfl) (T.nil ?_))
   cases hX2
   exact fun a w' hf hh => ⟨V26, vr, (Fr.sel hf rfl), (hh.sub (dr1 (dr1 kp0)))⟩
  skip
  rw [hg5, cond_true] at hX2
  refine T.p4 (vi r20.2) (.bool (r20.2 == 0)) (.bool (r20.2 == 0)) (.bool (r20.2 == 0)) (fun _ => by kernel_rfl) ?_
  cases hg6 : (r20.2 == 0)
  ·
   skip
   rw [hg6, cond_false] at hX2
   refine T.pass (by kernel_rfl) (by kernel_rfl) (T.pass (by kernel_rfl) (by kernel_rfl) (T.p2 (.bool false) (.bool false) (fun _ => by kernel_rfl) (T.pass (by kernel_rfl) (by kernel_rfl) (T.pass (by kernel_rfl) (by kernel_rfl) (T.p2 (.bool false) (.bool false) (fun _ => by kernel_rfl) (T.pass (by kernel_rfl) (by kernel_rfl) (T.pass (by kernel_rfl) (by kernel_rfl) (T.pass (by kernel_rfl) (by kernel_rfl) (T.p2 (.bool false) (.bool false) (fun _ => by kernel_rfl) (T.pass (by kernel_rfl) (by kernel_rfl) (T.pass (by kernel_rfl) (by kernel_rfl) (T.pass (by kernel_rfl) (by kernel_rfl) (T.pass (by kernel_rfl) (by kernel_rfl) (T.pass (by kernel_rfl) (by kernel_rfl) (T.pass (by kernel_rfl) (by kernel_rfl) (T.p2 (.bool false) (.bool false) (fun _ => by kernel_rfl) (T.pass (by kernel_rfl) (by kernel_rfl) (T.pass (by kernel_rfl) (by kernel_rfl) (T.pass (by kernel_rfl) (by kernel_rfl) (T.pass (by kernel_rfl) (by kernel_rfl) (T.pass (by kernel_rfl) (by kernel_rfl) (T.pass (by kernel_rfl) (by kernel_rfl) (T.pass (by kernel_rfl) (by kernel_rfl) (T.p2 (.bool false) (.bool false) (fun _ => by kernel_rfl) (T.pass (by kernel_rfl) (by kernel_rfl) (T.pass (by kernel_rfl) (by kernel_rfl) (T.pass (by kernel_rfl) (by kernel_rfl) (T.pass (by kernel_rfl) (by kernel_rfl) (T.pass (by kernel_rfl) (by kernel_rfl) (T.pass (by kernel_rfl) (by kernel_rfl) (T.pass (by kernel_rfl) (by kernel_rfl) (T.p2 (.bool false) (.bool false) (fun _ => by kernel_rfl) (T.nil ?_)))))))))))))))))))))))))))))))))
   cases hX2
   exact fun a w' hf hh => ⟨V26, vr, (Fr.sel hf rfl), (hh.sub (dr1 (dr1 kp0)))⟩
  skip
  rw [hg6, cond_true] at hX2
  refine T.p4 (vi r21.2) (.bool (r21.2 == 0)) (.bool (r21.2 == 0)) (.bool (r21.2 == 0)) (fun _ => by kernel_rfl) ?_
  cases hg7 : (r21.2 == 0)
  ·
   skip
   rw [hg7, cond_false] at hX2
   refine T.pass (by kernel_rfl) (by kernel_rfl) (T.pass (by kernel_rfl) (by kernel_rfl) (T.p2 (.bool false) (.bool false) (fun _ => by kernel_rfl) (T.pass (by kernel_rfl) (by kernel_rfl) (T.pass (by kernel_rfl) (by kernel_rfl) (T.pass (by kernel_rfl) (by kernel_rfl) (T.p2 (.bool false) (.bool false) (fun _ => by kernel_rfl) (T.pass (by kernel_rfl) (by kernel_rfl) (T.pass (by kernel_rfl) (by kernel_rfl) (T.pass (by kernel_rfl) (by kernel_rfl) (T.pass (by kernel_rfl) (by kernel_rfl) (T.pass (by kernel_rfl) (by kernel_rfl) (T.pass (by kernel_rfl) (by kernel_rfl) (T.p2 (.bool false) (.bool false) (fun _ => by kernel_rfl) (T.pass (by kernel_rfl) (by kernel_rfl) (T.pass (by kernel_rfl) (by kernel_rfl) (T.pass (by kernel_rfl) (by kernel_rfl) (T.pass (by kernel_rfl) (by kernel_rfl) (T.pass (by kernel_rfl) (by kernel_rfl) (T.pass (by kernel_rfl) (by kernel_rfl) (T.pass (by kernel_rfl) (by kernel_rfl) (T.p2 (.bool false) (.bool false) (fun _ => by kernel_rfl) (T.pass (by kernel_rfl) (by kernel_rfl) (T.pass (by kernel_rfl) (by kernel_rfl) (T.pass (by kernel_rfl) (by kernel_rfl) (T.pass (by kernel_rfl) (by kernel_rfl) (T.pass (by kernel_rfl) (by kernel_rfl) (T.pass (by kernel_rfl) (by kernel_rfl) (T.pass (by kernel_rfl) (by kernel_rfl) (T.p2 (.bool false) (.bool false) (fun _ => by kernel_rfl) (T.nil ?_))))))))))))))))))))))))))))))
   cases hX2
   exact fun a w' hf hh => ⟨V26, vr, (Fr.sel hf rfl), (hh.sub (dr1 (dr1 kp0)))⟩
  skip
  rw [hg7, cond_true] at hX2
  refine T.p4 (vi r22.2) (.bool (r22.2 == 0)) (.bool (r22.2 == 0)) (.bool (r22.2 == 0)) (fun _ => by kernel_rfl) ?_
  cases hg8 : (r22.2 == 0)
  ·
   skip
   rw [hg8, cond_false] at hX2
   refine T.pass (by kernel_rfl) (by kernel_rfl) (T.pass (by kernel_rfl) (by kernel_rfl) (T.pass (by kernel_rfl) (by kernel_rfl) (T.p2 (.bool false) (.bool false) (fun _ => by kernel_rfl) (T.pass (by kernel_rfl) (by kernel_rfl) (T.pass (by kernel_rfl) (by kernel_rfl) (T.pass (by kernel_rfl) (by kernel_rfl) (T.pass (by kernel_rfl) (by kernel_rfl) (T.pass (by kernel_rfl) (by kernel_rfl) (T.pass (by kernel_rfl) (by kernel_rfl) (T.p2 (.bool false) (.bool false) (fun _ => by kernel_rfl) (T.pass (by kernel_rfl) (by kernel_rfl) (T.pass (by kernel_rfl) (by kernel_rfl) (T.pass (by kernel_rfl) (by kernel_rfl) (T.pass (by kernel_rfl) (by kernel_rfl) (T.pass (by kernel_rfl) (by kernel_rfl) (T.pass (by kernel_rfl) (by kernel_rfl) (T.pass (by kernel_rfl) (by kernel_rfl) (T.p2 (.bool false) (.bool false) (fun _ => by kernel_rfl) (T.pass (by kernel_rfl) (by kernel_rfl) (T.pass (by kernel_rfl) (by kernel_rfl) (T.pass (by kernel_rfl) (by kernel_rfl) (T.pass (by kernel_rfl) (by kernel_rfl) (T.pass (by kernel_rfl) (by kernel_rfl) (T.pass (by kernel_rfl) (by kernel_rfl) (T.pass (by kernel_rfl) (by kernel_rfl) (T.p2 (.bool false) (.bool false) (fun _ => by kernel_rfl) (T.nil ?_)))))))))))))))))))))))))))
   cases hX2
   exact fun a w' hf hh => ⟨V26, vr, (Fr.sel hf rfl), (hh.sub (dr1 (dr1 kp0)))⟩
  skip
  rw [hg8, cond_true] at hX2
  refine T.p2 (.slice A13 r21.1.length c13) (.slice A14 r22.1.length c14) (fun _ => by kernel_rfl) ?_
  obtain ⟨r23, hb27, hX2⟩ := ob hX2
  refine T.step (W1.call (vSc eBool) r23 18 #[.slice A13 r21.1.length c13, .slice A14 r22.1.length c14] (by kernel_rfl) (fun _ => by kernel_rfl) (fun w' hh => slices_Equal_Elem_l F r21.1 r22.1 r23 hb27 w' A13 c13 (SlOk.mono (SlOk.mono hs13 (vt (made_le _ _) hV26)) hh.view) A14 c14 (SlOk.mono (SlOk.mono hs14 (vt (made_le _ _) vr)) hh.view)) ?_)
  intro u V28 hV28 hu
  obtain rfl := sureBool _ _ _ hu
  refine T.p2 (.bool r23) (.bool r23) (fun _ => by kernel_rfl) ?_
  cases hg9 : r23
  ·
   skip
   rw [hg9, cond_false] at hX2
   refine T.pass (by kernel_rfl) (by kernel_rfl) (T.pass (by kernel_rfl) (by kernel_rfl) (T.pass (by kernel_rfl) (by kernel_rfl) (T.pass (by kernel_rfl) (by kernel_rfl) (T.pass (by kernel_rfl) (by kernel_rfl) (T.pass (by kernel_rfl) (by kernel_rfl) (T.p2 (.bool false) (.bool false) (fun _ => by kernel_rfl) (T.pass (by kernel_rfl) (by kernel_rfl) (T.pass (by kernel_rfl) (by kernel_rfl) (T.pass (by kernel_rfl) (by kernel_rfl) (T.pass (by kernel_rfl) (by kernel_rfl) (T.pass (by kernel_rfl) (by kernel_rfl) (T.pass (by kernel_rfl) (by kernel_rfl) (T.pass (by kernel_rfl) (by kernel_rfl) (T.p2 (.bool false) (.bool false) (fun _ => by kernel_rfl) (T.pass (by kernel_rfl) (by kernel_rfl) (T.pass (by kernel_rfl) (by kernel_rfl) (T.pass (by kernel_rfl) (by kernel_rfl) (T.pass (by kernel_rfl) (by kernel_rfl) (T.pass (by kernel_rfl) (by kernel_rfl) (T.pass (by kernel_rfl) (by kernel_rfl) (T.pass (by kernel_rfl) (by kernel_rfl) (T.p2 (.bool false) (.bool false) (fun _ => by kernel_rfl) (T.nil ?_)))))))))))))))))))))))
   cases hX2
   exact fun a w' hf hh => ⟨V28, hV28, (Fr.sel hf rfl), (hh.sub (dr1 (dr1 kp0)))⟩
  skip
  rw [hg9, cond_true] at hX2
  refine T.p8 (.slice A13 r21.1.length c13) (vi (r21.1.length : Int)) (.slice A5 r10.1.length c5) (vi (r10.1.length : Int)) (vi (IntKind.i64.wrap ((r10.1.length : Int) - 2))) (.bool ((r21.1.length : Int) == (IntKind.i64.wrap ((r10.1.length : Int) - 2)))) (.bool ((r21.1.length : Int) == (IntKind.i64.wrap ((r10.1.length : Int) - 2)))) (.bool ((r21.1.length : Int) == (IntKind.i64.wrap ((r10.1.length : Int) - 2)))) (fun _ => by kernel_rfl) ?_
  cases hg10 : ((r21.1.length : Int) == (IntKind.i64.wrap ((r10.1.length : Int) - 2)))
  ·
   skip
   rw [hg10, cond_false] at hX2
   refine T.pass (by kernel_rfl) (by kernel_rfl) (T.pass (by kernel_rfl) (by kernel_rfl) (T.pass (by kernel_rfl) (by kernel_rfl) (T.pass (by kernel_rfl) (by kernel_rfl) (T.pass (by kernel_rfl) (by kernel_rfl) (T.pass (by kernel_rfl) (by kernel_rfl) (T.pass (by kernel_rfl) (by kernel_rfl) (T.p2 (.bool false) (.bool false) (fun _ => by kernel_rfl) (T.pass (by kernel_rfl) (by kernel_rfl) (T.pass (by kernel_rfl) (by kernel_rfl) (T.pass (by kernel_rfl) (by kernel_rfl) (T.pass (by kernel_rfl) (by kernel_rfl) (T.pass (by kernel_rfl) (by kernel_rfl) (T.pass (by kernel_rfl) (by kernel_rfl) (T.pass (by kernel_rfl) (by kernel_rfl) (T.p2 (.bool false) (.bool false) (fun _ => by kernel_rfl) (T.nil ?_))))))))))))))))
   cases hX2
   exact fun a w' hf hh => ⟨V28, hV28, (Fr.sel hf rfl), (hh.sub (dr1 (dr1 kp0)))⟩
  skip
  rw [hg10, cond_true] at hX2
  refine T.p3 (.slice A13 r21.1.length c13) (.slice A5 r10.1.length c5) (vi r11) (fun _ => by kernel_rfl) ?_
  obtain ⟨e5, hb28, hX2⟩ := ob hX2
  obtain ⟨hi13, hi14, hi15⟩ := idx_some hb28
  refine T.look (.pointer (some ((sadr A5).add (r11.toNat * 6)))) (by kernel_rfl) (fun w' hh => exec_indexAddr (e := 28) (s := 6) rfl rfl rfl (by kernel_rfl) (by kernel_rfl) hi13 hi14 ((SlOk.mono hs5 (vt (made_le _ _) (vt (vt (vt (vt (vt (vt (vt (vt (vt hV12 hV13) hV14) hV15) hV18) hV21) hV24) hV25) hV26) hV28))).some_ hi15 (by decide))) ?_
  let a35_ : Value := .agg #[vi e5.key.pfs, vi e5.key.obj, vi e5.key.off, vi e5.made, vi e5.gone, .string e5.val]
  refine T.look a35_ (by kernel_rfl) (fun w' hh => exec_loadN (cs := [vi e5.key.pfs, vi e5.key.obj, vi e5.key.off, vi e5.made, vi e5.gone, .string e5.val]) rfl rfl (by kernel_rfl) (by kernel_rfl) (fun j u hj => (hh.cell_view (SlOk.cellF (E := eElem) (SlOk.mono hs5 (vt (made_le _ _) (vt (vt (vt (vt (vt (vt (vt (vt (vt hV12 hV13) hV14) hV15) hV18) hV21) hV24) hV25) hV26) hV28))) hi15 j (fun _ _ _ h => h) hj)))) ?_
  obtain ⟨r24, hb29, hX2⟩ := ob hX2
  refine T.step (W1.call (vSc eBool) r24 23 #[.slice A13 r21.1.length c13, a35_] (by kernel_rfl) (fun _ => by kernel_rfl) (fun w' hh => slices_Contains_Elem_l F r21.1 e5 r24 hb29 w' A13 c13 (SlOk.mono (SlOk.mono hs13 (vt (made_le _ _) (vt hV26 hV28))) hh.view)) ?_)
  intro u V29 hV29 hu
  obtain rfl := sureBool _ _ _ hu
  refine T.p3 (.bool (!r24)) (.bool (!r24)) (.bool (!r24)) (fun _ => by kernel_rfl) ?_
  cases hg11 : (!r24)
  ·
   skip
   rw [hg11, cond_false] at hX2
   refine T.pass (by kernel_rfl) (by kernel_rfl) (T.pass (by kernel_rfl) (by kernel_rfl) (T.pass (by kernel_rfl) (by kernel_rfl) (T.pass (by kernel_rfl) (by kernel_rfl) (T.pass (by kernel_rfl) (by kernel_rfl) (T.pass (by kernel_rfl) (by kernel_rfl) (T.pass (by kernel_rfl) (by kernel_rfl) (T.p2 (.bool false) (.bool false) (fun _ => by kernel_rfl) (T.nil ?_))))))))
   cases hX2
   exact fun a w' hf hh => ⟨V29, (vt hV28 hV29), (Fr.sel hf rfl), (hh.sub (dr1 (dr1 kp0)))⟩
  skip
  rw [hg11, cond_true] at hX2
  refine T.p3 (.slice A13 r21.1.length c13) (.slice A5 r10.1.length c5) (vi r12) (fun _ => by kernel_rfl) ?_
  obtain ⟨e6, hb30, hX2⟩ := ob hX2
  obtain ⟨hi16, hi17, hi18⟩ := idx_some hb30
  refine T.look (.pointer (some ((sadr A5).add (r12.toNat * 6)))) (by kernel_rfl) (fun w' hh => exec_indexAddr (e := 28) (s := 6) rfl rfl rfl (by kernel_rfl) (by kernel_rfl) hi16 hi17 ((SlOk.mono hs5 (vt (made_le _ _) (vt (vt (vt (vt (vt (vt (vt (vt (vt (vt hV12 hV13) hV14) hV15) hV18) hV21) hV24) hV25) hV26) hV28) hV29))).some_ hi18 (by decide))) ?_
  let a36_ : Value := .agg #[vi e6.key.pfs, vi e6.key.obj, vi e6.key.off, vi e6.made, vi e6.gone, .string e6.val]
  refine T.look a36_ (by kernel_rfl) (fun w' hh => exec_loadN (cs := [vi e6.key.pfs, vi e6.key.obj, vi e6.key.off, vi e6.made, vi e6.gone, .string e6.val]) rfl rfl (by kernel_rfl) (by kernel_rfl) (fun j u hj => (hh.cell_view (SlOk.cellF (E := eElem) (SlOk.mono hs5 (vt (made_le _ _) (vt (vt (vt (vt (vt (vt (vt (vt (vt (vt hV12 hV13) hV14) hV15) hV18) hV21) hV24) hV25) hV26) hV28) hV29))) hi18 j (fun _ _ _ h => h) hj)))) ?_
  obtain ⟨r25, hb31, hX2⟩ := ob hX2
  refine T.step (W1.call (vSc eBool) r25 23 #[.slice A13 r21.1.length c13, a36_] (by kernel_rfl) (fun _ => by kernel_rfl) (fun w' hh => slices_Contains_Elem_l F r21.1 e6 r25 hb31 w' A13 c13 (SlOk.mono (SlOk.mono hs13 (vt (made_le _ _) (vt (vt hV26 hV28) hV29))) hh.view)) ?_)
  intro u V30 hV30 hu
  obtain rfl := sureBool _ _ _ hu
  refine T.p3 (.bool (!r25)) (.bool (!r25)) (.bool (!r25)) (fun _ => by kernel_rfl) (T.nil ?_)
  cases hX2
  exact fun a w' hf hh => ⟨V30, (vt (vt hV28 hV29) hV30), (Fr.sel hf rfl), (hh.sub (dr1 (dr1 kp0)))⟩
 rintro a w' ⟨V27, hV27, hf, hh⟩
 refine (?_ : T 172 w V27 [] [(6, .bool z2)] _) a w' hf hh
 clear hf hh
 cases hF
 refine T.ret rfl ?_
 exact T.ret1 rfl (ResIs.tmp rfl) fun w' hh => ⟨_, rfl, hh.below, (show _ from rfl)⟩
end Go.Proofs.Ytcmkdoahkncakaa
