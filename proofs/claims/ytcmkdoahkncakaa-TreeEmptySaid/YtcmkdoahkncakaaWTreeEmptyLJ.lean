/- The Go functions of group WTreeEmpty compute the pure functions of that group: written by walkgen.py. Condition of each: the pure function yields a result. -/
import Derived.Test.YtcmkdoahkncakaaSh2J
import Derived.Test.YtcmkdoahkncakaaGrowILJ
import Derived.Test.YtcmkdoahkncakaaFindSLJ
import Derived.Test.YtcmkdoahkncakaaFindFLJ
import Derived.Test.YtcmkdoahkncakaaFindNLJ
import Derived.Test.YtcmkdoahkncakaaTreeLJ
import Derived.Test.YtcmkdoahkncakaaEqsLJ
import Derived.Test.YtcmkdoahkncakaaWTreeEmptyFJ
import Derived.Test.YtcmkdoahkncakaaEqLJ
namespace Go.Proofs.Ytcmkdoahkncakaa
set_option linter.unusedVariables false
set_option maxRecDepth 100000 in
set_option maxHeartbeats 4000000 in
theorem annalkeep_TreeEmpty_l (F : Nat) (p0 : DSpot) (p1 : DElem) (r : Bool) (hF : annalkeep_TreeEmpty F p0 p1 = some r) (w : World)  :
 Calls Try.prog 8 #[.agg #[.int .i64 p0.key.pfs, .int .i64 p0.key.obj, .int .i64 p0.key.off, .int .i64 p0.made], .agg #[.int .i64 p1.key.pfs, .int .i64 p1.key.obj, .int .i64 p1.key.off, .int .i64 p1.made, .int .i64 p1.gone, .string p1.val]] w (Post (vSc eBool) r w) := by
 unfold annalkeep_TreeEmpty at hF
 let a12_ : Value := .agg #[vi p0.key.pfs, vi p0.key.obj, vi p0.key.off, vi p0.made]
 let a13_ : Value := .agg #[vi p1.key.pfs, vi p1.key.obj, vi p1.key.off, vi p1.made, vi p1.gone, .string p1.val]
 refine T.start (l := [a12_, a13_]) Try.func8 rfl rfl rfl ?_
 refine T.seq ?_
 refine T.region ?_
 let v7_ : List Value := [vi p0.key.pfs, vi p0.key.obj, vi p0.key.off, vi p0.made]
 refine T.step (W1.np 43 v7_ (fun _ => by kernel_rfl) (fun b1 => ?_))
 let v8_ : List Value := [vi p1.key.pfs, vi p1.key.obj, vi p1.key.off, vi p1.made, vi p1.gone, .string p1.val]
 refine T.step (W1.np 28 v8_ (fun _ => by kernel_rfl) (fun b2 => ?_))
 refine T.pk (.bool false) (fun _ => by kernel_rfl) ?_
 refine T.nil ?_
 refine T.seq ?_
 refine T.region ?_
 obtain ⟨r1, hb1, hF⟩ := ob hF
 refine T.step (W1.call (vAg eTree) r1 31 #[] (by kernel_rfl) (fun _ => by kernel_rfl) (fun w' hh => tree_New_l  r1 hb1 w' ) ?_)
 intro u V1 hV1 hu
 obtain ⟨cs1, rfl, hr1⟩ := vagg_elim hu
 obtain ⟨A1, c1, rfl, hs1⟩ := hr1
 refine T.step (W1.np 24 [vi 0, sN] (fun _ => by kernel_rfl) (fun b3 => ?_))
 let v9_ : List Value := [vi r1.root, .slice A1 r1.nodes.length c1]
 let i1_ : HObj := box b3 24 v9_
 let i2_ : HObj := box b2 28 v8_
 let i3_ : HObj := box b1 43 v7_
 let t4_ : List HObj := i2_ :: i3_ :: []
 let t5_ : List HObj := i1_ :: t4_
 refine T.step (W1.st 0 v9_ t5_ v9_ (by rfl) rfl rfl rfl rfl rfl rfl (fun _ => by kernel_rfl) ?_)
 refine T.nil ?_
 refine T.seq ?_
 refine T.region ?_
 let a14_ : Value := .agg #[vi r1.root, .slice A1 r1.nodes.length c1]
 refine T.look a14_ (by kernel_rfl) (ldN 0 rfl rfl (fun _ => by kernel_rfl) (by rfl) rfl) ?_
 obtain ⟨r2, hb2, hF⟩ := ob hF
 refine T.step (W1.call (vT2 (vSc (eList eElem)) (vSc eInt)) r2 17 #[a14_] (by kernel_rfl) (fun _ => by kernel_rfl) (fun w' hh => tree_All_l F r1 r2 hb2 w' A1 c1 (SlOk.mono (SlOk.mono hs1 (vt (made_le _ _) vr)) hh.view)) ?_)
 intro u V2 hV2 hu
 obtain ⟨u1, u2, rfl, hu1, hu2⟩ := vT2_elim hu
 obtain ⟨A2, c2, rfl, hs2⟩ := vlist_elim hu1
 obtain rfl := sureInt _ _ _ hu2
 refine T.p5 (.tuple #[.slice A2 r2.1.length c2, vi r2.2]) (.slice A2 r2.1.length c2) (vi r2.2) (.slice A2 r2.1.length c2) (vi r2.2) (fun _ => by kernel_rfl) ?_
 refine T.nil ?_
 refine T.seq ?_
 refine T.region ?_
 refine T.look a14_ (by kernel_rfl) (ldN 0 rfl rfl (fun _ => by kernel_rfl) (by rfl) rfl) ?_
 refine T.look a12_ (by kernel_rfl) (ldN 2 rfl rfl (fun _ => by kernel_rfl) (by rfl) rfl) ?_
 obtain ⟨r3, hb3, hF⟩ := ob hF
 refine T.step (W1.call (vT2 (vSc (eList eElem)) (vSc eInt)) r3 32 #[a14_, a12_, vi 9] (by kernel_rfl) (fun _ => by kernel_rfl) (fun w' hh => find_From_l F r1 p0 9 r3 hb3 w' A1 c1 (SlOk.mono (SlOk.mono hs1 (vt (made_le _ _) hV2)) hh.view)) ?_)
 intro u V3 hV3 hu
 obtain ⟨u3, u4, rfl, hu3, hu4⟩ := vT2_elim hu
 obtain ⟨A3, c3, rfl, hs3⟩ := vlist_elim hu3
 obtain rfl := sureInt _ _ _ hu4
 refine T.p5 (.tuple #[.slice A3 r3.1.length c3, vi r3.2]) (.slice A3 r3.1.length c3) (vi r3.2) (.slice A3 r3.1.length c3) (vi r3.2) (fun _ => by kernel_rfl) ?_
 refine T.nil ?_
 refine T.seq ?_
 refine T.region ?_
 refine T.look a14_ (by kernel_rfl) (ldN 0 rfl rfl (fun _ => by kernel_rfl) (by rfl) rfl) ?_
 obtain ⟨r4, hb4, hF⟩ := ob hF
 refine T.step (W1.call (vT3 (vSc (eList eElem)) (vSc eInt) (vSc eInt)) r4 33 #[a14_, vi 0] (by kernel_rfl) (fun _ => by kernel_rfl) (fun w' hh => find_Since_l F r1 0 r4 hb4 w' A1 c1 (SlOk.mono (SlOk.mono hs1 (vt (made_le _ _) (vt hV2 hV3))) hh.view)) ?_)
 intro u V4 hV4 hu
 obtain ⟨u5, u6, u7, rfl, hu5, hu6, hu7⟩ := vT3_elim hu
 obtain ⟨A4, c4, rfl, hs4⟩ := vlist_elim hu5
 obtain rfl := sureInt _ _ _ hu6
 obtain rfl := sureInt _ _ _ hu7
 refine T.p7 (.tuple #[.slice A4 r4.1.length c4, vi r4.2.1, vi r4.2.2]) (.slice A4 r4.1.length c4) (vi r4.2.1) (vi r4.2.2) (.slice A4 r4.1.length c4) (vi r4.2.1) (vi r4.2.2) (fun _ => by kernel_rfl) ?_
 refine T.nil ?_
 refine T.seq ?_
 refine T.cut (fun a w' => Fr 100 [(2, pB b1 0), (3, pB b2 0), (5, pB b3 0), (56, .bool ((r2.2 != 0) || ((r3.2 != 0) || ((r4.2.2 != 0) || ((IntKind.i64.wrap ((IntKind.i64.wrap ((IntKind.i64.wrap ((r2.1.length : Int) + (r3.1.length : Int))) + (r4.1.length : Int))) + r4.2.1)) != 0)))))] a ∧ Hp w V4 t5_ w') ?_ ?_
 ·
  refine T.region ?_
  refine T.p3 (vi r2.2) (.bool (r2.2 != 0)) (.bool (r2.2 != 0)) (fun _ => by kernel_rfl) ?_
  cases hg1 : (r2.2 != 0)
  ·
   skip
   refine T.p4 (vi r3.2) (.bool (r3.2 != 0)) (.bool (r3.2 != 0)) (.bool (r3.2 != 0)) (fun _ => by kernel_rfl) ?_
   cases hg2 : (r3.2 != 0)
   ·
    skip
    refine T.p4 (vi r4.2.2) (.bool (r4.2.2 != 0)) (.bool (r4.2.2 != 0)) (.bool (r4.2.2 != 0)) (fun _ => by kernel_rfl) ?_
    cases hg3 : (r4.2.2 != 0)
    ·
     skip
     refine T.p8 (.slice A2 r2.1.length c2) (vi (r2.1.length : Int)) (.slice A3 r3.1.length c3) (vi (r3.1.length : Int)) (vi (IntKind.i64.wrap ((r2.1.length : Int) + (r3.1.length : Int)))) (.slice A4 r4.1.length c4) (vi (r4.1.length : Int)) (vi (IntKind.i64.wrap ((IntKind.i64.wrap ((r2.1.length : Int) + (r3.1.length : Int))) + (r4.1.length : Int)))) (fun _ => by kernel_rfl) ?_
     refine T.p4 (vi r4.2.1) (vi (IntKind.i64.wrap ((IntKind.i64.wrap ((IntKind.i64.wrap ((r2.1.length : Int) + (r3.1.length : Int))) + (r4.1.length : Int))) + r4.2.1))) (.bool ((IntKind.i64.wrap ((IntKind.i64.wrap ((IntKind.i64.wrap ((r2.1.length : Int) + (r3.1.length : Int))) + (r4.1.length : Int))) + r4.2.1)) != 0)) (.bool ((IntKind.i64.wrap ((IntKind.i64.wrap ((IntKind.i64.wrap ((r2.1.length : Int) + (r3.1.length : Int))) + (r4.1.length : Int))) + r4.2.1)) != 0)) (fun _ => by kernel_rfl) ?_
     refine T.nil ?_
     exact fun a w' hf hh => ⟨(((((Fr.nil hf).pick hf 56 rfl).pick hf 5 rfl).pick hf 3 rfl).pick hf 2 rfl), (hh.sub (kp2 (kp1 kp0)))⟩
    skip
    refine T.pass (by kernel_rfl) (by kernel_rfl) ?_
    refine T.pass (by kernel_rfl) (by kernel_rfl) ?_
    refine T.pass (by kernel_rfl) (by kernel_rfl) ?_
    refine T.pass (by kernel_rfl) (by kernel_rfl) ?_
    refine T.pass (by kernel_rfl) (by kernel_rfl) ?_
    refine T.pass (by kernel_rfl) (by kernel_rfl) ?_
    refine T.pass (by kernel_rfl) (by kernel_rfl) ?_
    refine T.pass (by kernel_rfl) (by kernel_rfl) ?_
    refine T.pass (by kernel_rfl) (by kernel_rfl) ?_
    refine T.pass (by kernel_rfl) (by kernel_rfl) ?_
    refine T.pass (by kernel_rfl) (by kernel_rfl) ?_
    refine T.pk (.bool true) (fun _ => by kernel_rfl) ?_
    refine T.nil ?_
    exact fun a w' hf hh => ⟨(((((Fr.nil hf).pick hf 56 rfl).pick hf 5 rfl).pick hf 3 rfl).pick hf 2 rfl), (hh.sub (kp2 (kp1 kp0)))⟩
   skip
   refine T.pass (by kernel_rfl) (by kernel_rfl) ?_
   refine T.pass (by kernel_rfl) (by kernel_rfl) ?_
   refine T.p2 (.bool true) (.bool true) (fun _ => by kernel_rfl) ?_
   refine T.pass (by kernel_rfl) (by kernel_rfl) ?_
   refine T.pass (by kernel_rfl) (by kernel_rfl) ?_
   refine T.pass (by kernel_rfl) (by kernel_rfl) ?_
   refine T.pass (by kernel_rfl) (by kernel_rfl) ?_
   refine T.pass (by kernel_rfl) (by kernel_rfl) ?_
   refine T.pass (by kernel_rfl) (by kernel_rfl) ?_
   refine T.pass (by kernel_rfl) (by kernel_rfl) ?_
   refine T.pass (by kernel_rfl) (by kernel_rfl) ?_
   refine T.pass (by kernel_rfl) (by kernel_rfl) ?_
   refine T.pass (by kernel_rfl) (by kernel_rfl) ?_
   refine T.pass (by kernel_rfl) (by kernel_rfl) ?_
   refine T.pk (.bool true) (fun _ => by kernel_rfl) ?_
   refine T.nil ?_
   exact fun a w' hf hh => ⟨(((((Fr.nil hf).pick hf 56 rfl).pick hf 5 rfl).pick hf 3 rfl).pick hf 2 rfl), (hh.sub (kp2 (kp1 kp0)))⟩
  skip
  refine T.pass (by kernel_rfl) (by kernel_rfl) ?_
  refine T.pass (by kernel_rfl) (by kernel_rfl) ?_
  refine T.p2 (.bool true) (.bool true) (fun _ => by kernel_rfl) ?_
  refine T.pass (by kernel_rfl) (by kernel_rfl) ?_
  refine T.pass (by kernel_rfl) (by kernel_rfl) ?_
  refine T.p2 (.bool true) (.bool true) (fun _ => by kernel_rfl) ?_
  refine T.pass (by kernel_rfl) (by kernel_rfl) ?_
  refine T.pass (by kernel_rfl) (by kernel_rfl) ?_
  refine T.pass (by kernel_rfl) (by kernel_rfl) ?_
  refine T.pass (by kernel_rfl) (by kernel_rfl) ?_
  refine T.pass (by kernel_rfl) (by kernel_rfl) ?_
  refine T.pass (by kernel_rfl) (by kernel_rfl) ?_
  refine T.pass (by kernel_rfl) (by kernel_rfl) ?_
  refine T.pass (by kernel_rfl) (by kernel_rfl) ?_
  refine T.pass (by kernel_rfl) (by kernel_rfl) ?_
  refine T.pass (by kernel_rfl) (by kernel_rfl) ?_
  refine T.pass (by kernel_rfl) (by kernel_rfl) ?_
  refine T.pk (.bool true) (fun _ => by kernel_rfl) ?_
  refine T.nil ?_
  exact fun a w' hf hh => ⟨(((((Fr.nil hf).pick hf 56 rfl).pick hf 5 rfl).pick hf 3 rfl).pick hf 2 rfl), (hh.sub (kp2 (kp1 kp0)))⟩
 rintro a w' ⟨hf, hh⟩
 refine (?_ : T 100 w V4 t5_ [(2, pB b1 0), (3, pB b2 0), (5, pB b3 0), (56, .bool ((r2.2 != 0) || ((r3.2 != 0) || ((r4.2.2 != 0) || ((IntKind.i64.wrap ((IntKind.i64.wrap ((IntKind.i64.wrap ((r2.1.length : Int) + (r3.1.length : Int))) + (r4.1.length : Int))) + r4.2.1)) != 0)))))] _) a w' hf hh
 clear hf hh
 refine T.cond ((r2.2 != 0) || ((r3.2 != 0) || ((r4.2.2 != 0) || ((IntKind.i64.wrap ((IntKind.i64.wrap ((IntKind.i64.wrap ((r2.1.length : Int) + (r3.1.length : Int))) + (r4.1.length : Int))) + r4.2.1)) != 0)))) (by kernel_rfl) (by kernel_rfl) (fun hc1 => ?_) (fun hc1 => ?_)
 ·
  rw [hc1, cond_true] at hF
  refine T.seq ?_
  refine T.region ?_
  refine T.pk (.bool false) (fun _ => by kernel_rfl) ?_
  refine T.nil ?_
  cases hF
  refine T.ret rfl ?_
  exact T.ret1 rfl (ResIs.tmp rfl) fun w' hh => ⟨_, rfl, hh.below, (show _ from rfl)⟩
 rw [hc1, cond_false] at hF
 refine T.skip_code ?_
 refine T.seq ?_
 refine T.seq ?_
 refine T.region ?_
 refine T.look a14_ (by kernel_rfl) (ldN 0 rfl rfl (fun _ => by kernel_rfl) (by rfl) rfl) ?_
 refine T.look a12_ (by kernel_rfl) (ldN 2 rfl rfl (fun _ => by kernel_rfl) (by rfl) rfl) ?_
 obtain ⟨r5, hb5, hF⟩ := ob hF
 refine T.step (W1.call (vT2 (vAg eElem) (vSc eInt)) r5 34 #[a14_, a12_] (by kernel_rfl) (fun _ => by kernel_rfl) (fun w' hh => find_Spot_l F r1 p0 r5 hb5 w' A1 c1 (SlOk.mono (SlOk.mono hs1 (vt (made_le _ _) (vt (vt hV2 hV3) hV4))) hh.view)) ?_)
 intro u V5 hV5 hu
 obtain rfl := (Sure.t2 sureElem sureInt) _ _ _ hu
 refine T.p3 (.tuple #[.agg #[vi r5.1.key.pfs, vi r5.1.key.obj, vi r5.1.key.off, vi r5.1.made, vi r5.1.gone, .string r5.1.val], vi r5.2]) (.agg #[vi r5.1.key.pfs, vi r5.1.key.obj, vi r5.1.key.off, vi r5.1.made, vi r5.1.gone, .string r5.1.val]) (vi r5.2) (fun _ => by kernel_rfl) ?_
 refine T.step (W1.np 28 [vi 0, vi 0, vi 0, vi 0, vi 0, .string (ByteArray.mk #[])] (fun _ => by kernel_rfl) (fun b4 => ?_))
 let v10_ : List Value := [vi r5.1.key.pfs, vi r5.1.key.obj, vi r5.1.key.off, vi r5.1.made, vi r5.1.gone, .string r5.1.val]
 let i6_ : HObj := box b4 28 v10_
 refine T.step (W1.st 0 v10_ (i6_ :: t5_) v10_ (by rfl) rfl rfl rfl rfl rfl rfl (fun _ => by kernel_rfl) ?_)
 refine T.pk (vi r5.2) (fun _ => by kernel_rfl) ?_
 refine T.nil ?_
 refine T.seq ?_
 refine T.region ?_
 refine T.p2 (vi r5.2) (.bool (r5.2 != 4)) (fun _ => by kernel_rfl) ?_
 refine T.nil ?_
 refine T.cond (r5.2 != 4) (by kernel_rfl) (by kernel_rfl) (fun hc2 => ?_) (fun hc2 => ?_)
 ·
  rw [hc2, cond_true] at hF
  refine T.seq ?_
  refine T.region ?_
  refine T.pk (.bool false) (fun _ => by kernel_rfl) ?_
  refine T.nil ?_
  cases hF
  refine T.ret rfl ?_
  exact T.ret1 rfl (ResIs.tmp rfl) fun w' hh => ⟨_, rfl, hh.below, (show _ from rfl)⟩
 rw [hc2, cond_false] at hF
 refine T.skip_code ?_
 refine T.seq ?_
 refine T.region ?_
 refine T.look a14_ (by kernel_rfl) (ldN 1 rfl rfl (fun _ => by kernel_rfl) (by rfl) rfl) ?_
 refine T.look a13_ (by kernel_rfl) (ldN 2 rfl rfl (fun _ => by kernel_rfl) (by rfl) rfl) ?_
 obtain ⟨r6, hb6, hF⟩ := ob hF
 refine T.step (W1.call (vT2 (vAg eTree) (vSc eInt)) r6 29 #[a14_, a13_] (by kernel_rfl) (fun _ => by kernel_rfl) (fun w' hh => grow_Insert_l F r1 p1 r6 hb6 w' A1 c1 (SlOk.mono (SlOk.mono hs1 (vt (made_le _ _) (vt (vt (vt hV2 hV3) hV4) hV5))) hh.view)) ?_)
 intro u V6 hV6 hu
 obtain ⟨u8, u9, rfl, hu8, hu9⟩ := vT2_elim hu
 obtain ⟨cs2, rfl, hr2⟩ := vagg_elim hu8
 obtain ⟨A5, c5, rfl, hs5⟩ := hr2
 obtain rfl := sureInt _ _ _ hu9
 refine T.pk (.tuple #[.agg #[vi r6.1.root, .slice A5 r6.1.nodes.length c5], vi r6.2]) (fun _ => by kernel_rfl) ?_
 let a15_ : Value := .agg #[vi r6.1.root, .slice A5 r6.1.nodes.length c5]
 refine T.p2 a15_ (vi r6.2) (fun _ => by kernel_rfl) ?_
 refine T.step (W1.np 24 [vi 0, sN] (fun _ => by kernel_rfl) (fun b5 => ?_))
 let v11_ : List Value := [vi r6.1.root, .slice A5 r6.1.nodes.length c5]
 refine T.step (W1.st 0 v11_ ((box b5 24 v11_) :: i6_ :: t5_) v11_ (by rfl) rfl rfl rfl rfl rfl rfl (fun _ => by kernel_rfl) ?_)
 refine T.pk (vi r6.2) (fun _ => by kernel_rfl) ?_
 refine T.nil ?_
 refine T.seq ?_
 refine T.seq ?_
 refine T.region ?_
 refine T.p2 (vi r6.2) (.bool (r6.2 != 0)) (fun _ => by kernel_rfl) ?_
 refine T.nil ?_
 refine T.cond (r6.2 != 0) (by kernel_rfl) (by kernel_rfl) (fun hc3 => ?_) (fun hc3 => ?_)
 ·
  rw [hc3, cond_true] at hF
  refine T.seq ?_
  refine T.region ?_
  refine T.pk (vi r6.2) (fun _ => by kernel_rfl) ?_
  refine T.look a13_ (by kernel_rfl) (ldN 3 rfl rfl (fun _ => by kernel_rfl) (by rfl) rfl) ?_
  obtain ⟨r7, hb7, hF⟩ := ob hF
  refine T.step (W1.call (vSc eInt) r7 20 #[a13_] (by kernel_rfl) (fun _ => by kernel_rfl) (fun w' hh => elem_Check_l p1 r7 hb7 w' ) ?_)
  intro u V7 hV7 hu
  obtain rfl := sureInt _ _ _ hu
  refine T.p2 (.bool (r6.2 == r7)) (.bool (r6.2 == r7)) (fun _ => by kernel_rfl) ?_
  refine T.nil ?_
  cases hF
  refine T.ret rfl ?_
  exact T.ret1 rfl (ResIs.tmp rfl) fun w' hh => ⟨_, rfl, hh.below, (show _ from rfl)⟩
 rw [hc3, cond_false] at hF
 refine T.skip_code ?_
 refine T.seq ?_
 refine T.region ?_
 refine T.look a15_ (by kernel_rfl) (ldN 0 rfl rfl (fun _ => by kernel_rfl) (by rfl) rfl) ?_
 obtain ⟨r8, hb8, hF⟩ := ob hF
 refine T.step (W1.call (vT2 (vSc (eList eElem)) (vSc eInt)) r8 17 #[a15_] (by kernel_rfl) (fun _ => by kernel_rfl) (fun w' hh => tree_All_l F r6.1 r8 hb8 w' A5 c5 (SlOk.mono (SlOk.mono hs5 (vt (made_le _ _) vr)) hh.view)) ?_)
 intro u V8 hV8 hu
 obtain ⟨u10, u11, rfl, hu10, hu11⟩ := vT2_elim hu
 obtain ⟨A6, c6, rfl, hs6⟩ := vlist_elim hu10
 obtain rfl := sureInt _ _ _ hu11
 refine T.p5 (.tuple #[.slice A6 r8.1.length c6, vi r8.2]) (.slice A6 r8.1.length c6) (vi r8.2) (.slice A6 r8.1.length c6) (vi r8.2) (fun _ => by kernel_rfl) ?_
 refine T.nil ?_
 refine T.seq ?_
 refine T.region ?_
 refine T.look a15_ (by kernel_rfl) (ldN 0 rfl rfl (fun _ => by kernel_rfl) (by rfl) rfl) ?_
 refine T.look a13_ (by kernel_rfl) (ldN 3 rfl rfl (fun _ => by kernel_rfl) (by rfl) rfl) ?_
 obtain ⟨r9, hb9, hF⟩ := ob hF
 refine T.step (W1.call (vT2 (vAg eTree) (vSc eInt)) r9 29 #[a15_, a13_] (by kernel_rfl) (fun _ => by kernel_rfl) (fun w' hh => grow_Insert_l F r6.1 p1 r9 hb9 w' A5 c5 (SlOk.mono (SlOk.mono hs5 (vt (made_le _ _) hV8)) hh.view)) ?_)
 intro u V9 hV9 hu
 obtain ⟨u12, u13, rfl, hu12, hu13⟩ := vT2_elim hu
 obtain ⟨cs3, rfl, hr3⟩ := vagg_elim hu12
 obtain ⟨A7, c7, rfl, hs7⟩ := hr3
 obtain rfl := sureInt _ _ _ hu13
 refine T.p4 (.tuple #[.agg #[vi r9.1.root, .slice A7 r9.1.nodes.length c7], vi r9.2]) (.agg #[vi r9.1.root, .slice A7 r9.1.nodes.length c7]) (vi r9.2) (vi r9.2) (fun _ => by kernel_rfl) ?_
 refine T.nil ?_
 obtain ⟨z1, hX1, hF⟩ := ob hF
 refine T.cut (fun a w' => ∃ (V10 : View), View.le V9 V10 ∧ Fr 100 [(4, .bool z1)] a ∧ Hp w V10 [] w') ?_ ?_
 ·
  refine T.region ?_
  refine T.p3 (vi r8.2) (.bool (r8.2 == 0)) (.bool (r8.2 == 0)) (fun _ => by kernel_rfl) ?_
  cases hg4 : (r8.2 == 0)
  ·
   skip
   rw [hg4, cond_false] at hX1
   refine T.pass (by kernel_rfl) (by kernel_rfl) ?_
   refine T.pass (by kernel_rfl) (by kernel_rfl) ?_
   refine T.p2 (.bool false) (.bool false) (fun _ => by kernel_rfl) ?_
   refine T.pass (by kernel_rfl) (by kernel_rfl) ?_
   refine T.pass (by kernel_rfl) (by kernel_rfl) ?_
   refine T.pass (by kernel_rfl) (by kernel_rfl) ?_
   refine T.pass (by kernel_rfl) (by kernel_rfl) ?_
   refine T.p2 (.bool false) (.bool false) (fun _ => by kernel_rfl) ?_
   refine T.nil ?_
   cases hX1
   exact fun a w' hf hh => ⟨V9, vr, ((Fr.nil hf).pick hf 4 rfl), (hh.sub (dr4 (dr1 kp0)))⟩
  skip
  rw [hg4, cond_true] at hX1
  refine T.p4 (vi r9.2) (.bool (r9.2 == 5)) (.bool (r9.2 == 5)) (.bool (r9.2 == 5)) (fun _ => by kernel_rfl) ?_
  cases hg5 : (r9.2 == 5)
  ·
   skip
   rw [hg5, cond_false] at hX1
   refine T.pass (by kernel_rfl) (by kernel_rfl) ?_
   refine T.pass (by kernel_rfl) (by kernel_rfl) ?_
   refine T.pass (by kernel_rfl) (by kernel_rfl) ?_
   refine T.pass (by kernel_rfl) (by kernel_rfl) ?_
   refine T.p2 (.bool false) (.bool false) (fun _ => by kernel_rfl) ?_
   refine T.nil ?_
   cases hX1
   exact fun a w' hf hh => ⟨V9, vr, ((Fr.nil hf).pick hf 4 rfl), (hh.sub (dr4 (dr1 kp0)))⟩
  skip
  rw [hg5, cond_true] at hX1
  refine T.pk (.slice A6 r8.1.length c6) (fun _ => by kernel_rfl) ?_
  refine T.look a13_ (by kernel_rfl) (ldN 3 rfl rfl (fun _ => by kernel_rfl) (by rfl) rfl) ?_
  refine T.step (W1.new 28 v8_ (fun b => .slice (some ⟨b, 0, none⟩) 1 1) (by kernel_rfl) (fun _ => by kernel_rfl) (fun b6 => ?_))
  obtain ⟨r10, hb10, hX1⟩ := ob hX1
  refine T.step (W1.call (vSc eBool) r10 18 #[.slice A6 r8.1.length c6, .slice (some ⟨b6, 0, none⟩) 1 1] (by kernel_rfl) (fun _ => by kernel_rfl) (fun w' hh => slices_Equal_Elem_l F r8.1 [p1] r10 hb10 w' A6 c6 (SlOk.mono (SlOk.mono hs6 (vt (made_le _ _) hV9)) hh.view) (some ⟨b6, 0, none⟩) 1 (slok_lit (E := eElem) (f := DElem.cells) [p1] (fun _ _ => rfl) (Nat.le_of_ble_eq_true (by rfl)) (fun j => hh.cellBox (i := 0) (by rfl) j))) ?_)
  intro u V11 hV11 hu
  obtain rfl := sureBool _ _ _ hu
  refine T.p2 (.bool r10) (.bool r10) (fun _ => by kernel_rfl) ?_
  refine T.nil ?_
  cases hX1
  exact fun a w' hf hh => ⟨V11, hV11, ((Fr.nil hf).pick hf 4 rfl), (hh.sub (dr5 (dr1 kp0)))⟩
 rintro a w' ⟨V10, hV10, hf, hh⟩
 refine (?_ : T 100 w V10 [] [(4, .bool z1)] _) a w' hf hh
 clear hf hh
 cases hF
 refine T.ret rfl ?_
 exact T.ret1 rfl (ResIs.tmp rfl) fun w' hh => ⟨_, rfl, hh.below, (show _ from rfl)⟩
end Go.Proofs.Ytcmkdoahkncakaa
