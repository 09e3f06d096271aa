/- The Go functions of group WGrowOrders compute the pure functions of that group: written by walkgen.py. Condition of each: the pure function yields a result. -/
import Derived.Test.YtcmkdoahkncakaaSh2J
import Derived.Test.YtcmkdoahkncakaaGrowILJ
import Derived.Test.YtcmkdoahkncakaaBuildLJ
import Derived.Test.YtcmkdoahkncakaaPackLJ
import Derived.Test.YtcmkdoahkncakaaTreeLJ
import Derived.Test.YtcmkdoahkncakaaEqsLJ
import Derived.Test.YtcmkdoahkncakaaWGrowOrdersFJ
import Derived.Test.YtcmkdoahkncakaaEqLJ
namespace Go.Proofs.Ytcmkdoahkncakaa
set_option linter.unusedVariables false
set_option maxRecDepth 100000 in
set_option maxHeartbeats 4000000 in
theorem annalkeep_GrowOrders_l (F : Nat) (p0 : DTree) (p1 : DElem) (p2 : DElem) (r : Bool) (hF : annalkeep_GrowOrders F p0 p1 p2 = some r) (w : World) (A1 : Option Addr) (c1 : Nat) (hs1 : SlOk (vw w) eNode A1 c1 p0.nodes) :
 Calls Try.prog 7 #[.agg #[.int .i64 p0.root, .slice A1 p0.nodes.length c1], .agg #[.int .i64 p1.key.pfs, .int .i64 p1.key.obj, .int .i64 p1.key.off, .int .i64 p1.made, .int .i64 p1.gone, .string p1.val], .agg #[.int .i64 p2.key.pfs, .int .i64 p2.key.obj, .int .i64 p2.key.off, .int .i64 p2.made, .int .i64 p2.gone, .string p2.val]] w (Post (vSc eBool) r w) := by
 unfold annalkeep_GrowOrders at hF
 let a23_ : Value := .agg #[vi p0.root, .slice A1 p0.nodes.length c1]
 let a24_ : Value := .agg #[vi p1.key.pfs, vi p1.key.obj, vi p1.key.off, vi p1.made, vi p1.gone, .string p1.val]
 let a25_ : Value := .agg #[vi p2.key.pfs, vi p2.key.obj, vi p2.key.off, vi p2.made, vi p2.gone, .string p2.val]
 refine T.start (l := [a23_, a24_, a25_]) Try.func7 rfl rfl rfl ?_
 refine T.seq ?_
 refine T.region ?_
 let v14_ : List Value := [vi p0.root, .slice A1 p0.nodes.length c1]
 refine T.step (W1.np 24 v14_ (fun _ => by kernel_rfl) (fun b1 => ?_))
 let v15_ : List Value := [vi p1.key.pfs, vi p1.key.obj, vi p1.key.off, vi p1.made, vi p1.gone, .string p1.val]
 refine T.step (W1.np 28 v15_ (fun _ => by kernel_rfl) (fun b2 => ?_))
 let v16_ : List Value := [vi p2.key.pfs, vi p2.key.obj, vi p2.key.off, vi p2.made, vi p2.gone, .string p2.val]
 refine T.step (W1.np 28 v16_ (fun _ => by kernel_rfl) (fun b3 => ?_))
 refine T.pk (.bool false) (fun _ => by kernel_rfl) ?_
 refine T.nil ?_
 refine T.seq ?_
 refine T.region ?_
 obtain ⟨r1, hb1, hF⟩ := ob hF
 refine T.step (W1.call (vAg eElem) r1 16 #[vi 1, .string (ByteArray.mk #[97])] (by kernel_rfl) (fun _ => by kernel_rfl) (fun w' hh => annalkeep_at1_l 1 (ByteArray.mk #[97]) r1 hb1 w' ) ?_)
 intro u V1 hV1 hu
 obtain rfl := sureElem _ _ _ hu
 refine T.step (W1.new 28 [vi r1.key.pfs, vi r1.key.obj, vi r1.key.off, vi r1.made, vi r1.gone, .string r1.val] (fun b => .slice (some ⟨b, 0, none⟩) 1 1) (by kernel_rfl) (fun _ => by kernel_rfl) (fun b4 => ?_))
 obtain ⟨r2, hb2, hF⟩ := ob hF
 refine T.step (W1.call (vAg eTree) r2 15 #[.slice (some ⟨b4, 0, none⟩) 1 1] (by kernel_rfl) (fun _ => by kernel_rfl) (fun w' hh => annalkeep_of_l F [r1] r2 hb2 w' (some ⟨b4, 0, none⟩) 1 (slok_lit (E := eElem) (f := DElem.cells) [r1] (fun _ _ => rfl) (Nat.le_of_ble_eq_true (by rfl)) (fun j => hh.cellBox (i := 0) (by rfl) j))) ?_)
 intro u V2 hV2 hu
 obtain ⟨cs1, rfl, hr1⟩ := vagg_elim hu
 obtain ⟨A2, c2, rfl, hs2⟩ := hr1
 obtain ⟨r3, hb3, hF⟩ := ob hF
 refine T.step (W1.call (vAg eElem) r3 16 #[vi 2, .string (ByteArray.mk #[98])] (by kernel_rfl) (fun _ => by kernel_rfl) (fun w' hh => annalkeep_at1_l 2 (ByteArray.mk #[98]) r3 hb3 w' ) ?_)
 intro u V3 hV3 hu
 obtain rfl := sureElem _ _ _ hu
 obtain ⟨r4, hb4, hF⟩ := ob hF
 refine T.step (W1.call (vT2 (vAg eTree) (vSc eInt)) r4 29 #[.agg #[vi r2.root, .slice A2 r2.nodes.length c2], .agg #[vi r3.key.pfs, vi r3.key.obj, vi r3.key.off, vi r3.made, vi r3.gone, .string r3.val]] (by kernel_rfl) (fun _ => by kernel_rfl) (fun w' hh => grow_Insert_l F r2 r3 r4 hb4 w' A2 c2 (SlOk.mono (SlOk.mono hs2 (vt (made_le _ _) hV3)) hh.view)) ?_)
 intro u V4 hV4 hu
 obtain ⟨u1, u2, rfl, hu1, hu2⟩ := vT2_elim hu
 obtain ⟨cs2, rfl, hr2⟩ := vagg_elim hu1
 obtain ⟨A3, c3, rfl, hs3⟩ := hr2
 obtain rfl := sureInt _ _ _ hu2
 refine T.pk (.tuple #[.agg #[vi r4.1.root, .slice A3 r4.1.nodes.length c3], vi r4.2]) (fun _ => by kernel_rfl) ?_
 let a26_ : Value := .agg #[vi r4.1.root, .slice A3 r4.1.nodes.length c3]
 refine T.p2 a26_ (vi r4.2) (fun _ => by kernel_rfl) ?_
 let v17_ : List Value := [vi 0, sN]
 refine T.step (W1.np 24 v17_ (fun _ => by kernel_rfl) (fun b5 => ?_))
 let v18_ : List Value := [vi r4.1.root, .slice A3 r4.1.nodes.length c3]
 let i1_ : HObj := box b5 24 v18_
 let i2_ : HObj := box b3 28 v16_
 let i3_ : HObj := box b2 28 v15_
 let i4_ : HObj := box b1 24 v14_
 let t5_ : List HObj := i3_ :: i4_ :: []
 let t6_ : List HObj := i2_ :: t5_
 refine T.step (W1.st 0 v18_ (i1_ :: (box b4 28 [vi r1.key.pfs, vi r1.key.obj, vi r1.key.off, vi r1.made, vi r1.gone, .string r1.val]) :: t6_) v18_ (by rfl) rfl rfl rfl rfl rfl rfl (fun _ => by kernel_rfl) ?_)
 refine T.pk (vi r4.2) (fun _ => by kernel_rfl) ?_
 refine T.nil ?_
 refine T.seq ?_
 refine T.seq ?_
 refine T.region ?_
 refine T.look a26_ (by kernel_rfl) (ldN 0 rfl rfl (fun _ => by kernel_rfl) (by rfl) rfl) ?_
 obtain ⟨r5, hb5, hF⟩ := ob hF
 refine T.step (W1.call (vT2 (vSc (eList eElem)) (vSc eInt)) r5 17 #[a26_] (by kernel_rfl) (fun _ => by kernel_rfl) (fun w' hh => tree_All_l F r4.1 r5 hb5 w' A3 c3 (SlOk.mono (SlOk.mono hs3 (vt (made_le _ _) vr)) hh.view)) ?_)
 intro u V5 hV5 hu
 obtain ⟨u3, u4, rfl, hu3, hu4⟩ := vT2_elim hu
 obtain ⟨A4, c4, rfl, hs4⟩ := vlist_elim hu3
 obtain rfl := sureInt _ _ _ hu4
 refine T.p5 (.tuple #[.slice A4 r5.1.length c4, vi r5.2]) (.slice A4 r5.1.length c4) (vi r5.2) (.slice A4 r5.1.length c4) (vi r5.2) (fun _ => by kernel_rfl) ?_
 refine T.nil ?_
 refine T.cut (fun a w' => Fr 109 [(3, pB b1 0), (4, pB b2 0), (5, pB b3 0), (7, pB b5 0), (40, .bool ((r4.2 != 0) || ((r5.2 != 0) || ((r5.1.length : Int) != 2))))] a ∧ Hp w V5 (i1_ :: t6_) w') ?_ ?_
 ·
  refine T.region ?_
  refine T.p3 (vi r4.2) (.bool (r4.2 != 0)) (.bool (r4.2 != 0)) (fun _ => by kernel_rfl) ?_
  cases hg1 : (r4.2 != 0)
  ·
   skip
   refine T.p4 (vi r5.2) (.bool (r5.2 != 0)) (.bool (r5.2 != 0)) (.bool (r5.2 != 0)) (fun _ => by kernel_rfl) ?_
   cases hg2 : (r5.2 != 0)
   ·
    skip
    refine T.p4 (.slice A4 r5.1.length c4) (vi (r5.1.length : Int)) (.bool ((r5.1.length : Int) != 2)) (.bool ((r5.1.length : Int) != 2)) (fun _ => by kernel_rfl) ?_
    refine T.nil ?_
    exact fun a w' hf hh => ⟨((((((Fr.nil hf).pick hf 40 rfl).pick hf 7 rfl).pick hf 5 rfl).pick hf 4 rfl).pick hf 3 rfl), (hh.sub (kp1 (dr1 (kp2 (kp1 kp0)))))⟩
   skip
   refine T.pass (by kernel_rfl) (by kernel_rfl) ?_
   refine T.pass (by kernel_rfl) (by kernel_rfl) ?_
   refine T.pass (by kernel_rfl) (by kernel_rfl) ?_
   refine T.pk (.bool true) (fun _ => by kernel_rfl) ?_
   refine T.nil ?_
   exact fun a w' hf hh => ⟨((((((Fr.nil hf).pick hf 40 rfl).pick hf 7 rfl).pick hf 5 rfl).pick hf 4 rfl).pick hf 3 rfl), (hh.sub (kp1 (dr1 (kp2 (kp1 kp0)))))⟩
  skip
  refine T.pass (by kernel_rfl) (by kernel_rfl) ?_
  refine T.pass (by kernel_rfl) (by kernel_rfl) ?_
  refine T.p2 (.bool true) (.bool true) (fun _ => by kernel_rfl) ?_
  refine T.pass (by kernel_rfl) (by kernel_rfl) ?_
  refine T.pass (by kernel_rfl) (by kernel_rfl) ?_
  refine T.pass (by kernel_rfl) (by kernel_rfl) ?_
  refine T.pk (.bool true) (fun _ => by kernel_rfl) ?_
  refine T.nil ?_
  exact fun a w' hf hh => ⟨((((((Fr.nil hf).pick hf 40 rfl).pick hf 7 rfl).pick hf 5 rfl).pick hf 4 rfl).pick hf 3 rfl), (hh.sub (kp1 (dr1 (kp2 (kp1 kp0)))))⟩
 rintro a w' ⟨hf, hh⟩
 refine (?_ : T 109 w V5 (i1_ :: t6_) [(3, pB b1 0), (4, pB b2 0), (5, pB b3 0), (7, pB b5 0), (40, .bool ((r4.2 != 0) || ((r5.2 != 0) || ((r5.1.length : Int) != 2))))] _) a w' hf hh
 clear hf hh
 refine T.cond ((r4.2 != 0) || ((r5.2 != 0) || ((r5.1.length : Int) != 2))) (by kernel_rfl) (by kernel_rfl) (fun hc1 => ?_) (fun hc1 => ?_)
 ·
  rw [hc1, cond_true] at hF
  refine T.seq ?_
  refine T.region ?_
  refine T.pk (.bool false) (fun _ => by kernel_rfl) ?_
  refine T.nil ?_
  cases hF
  refine T.ret rfl ?_
  exact T.ret1 rfl (ResIs.tmp rfl) fun w' hh => ⟨_, rfl, hh.below, (show _ from rfl)⟩
 rw [hc1, cond_false] at hF
 refine T.skip_code ?_
 refine T.seq ?_
 refine T.region ?_
 refine T.look a23_ (by kernel_rfl) (ldN 3 rfl rfl (fun _ => by kernel_rfl) (by rfl) rfl) ?_
 refine T.look a24_ (by kernel_rfl) (ldN 2 rfl rfl (fun _ => by kernel_rfl) (by rfl) rfl) ?_
 obtain ⟨r6, hb6, hF⟩ := ob hF
 refine T.step (W1.call (vT2 (vAg eTree) (vSc eInt)) r6 29 #[a23_, a24_] (by kernel_rfl) (fun _ => by kernel_rfl) (fun w' hh => grow_Insert_l F p0 p1 r6 hb6 w' A1 c1 (SlOk.mono (SlOk.mono hs1 (vt (vt (vt (vt hV1 hV2) hV3) hV4) hV5)) hh.view)) ?_)
 intro u V6 hV6 hu
 obtain ⟨u5, u6, rfl, hu5, hu6⟩ := vT2_elim hu
 obtain ⟨cs3, rfl, hr3⟩ := vagg_elim hu5
 obtain ⟨A5, c5, rfl, hs5⟩ := hr3
 obtain rfl := sureInt _ _ _ hu6
 refine T.pk (.tuple #[.agg #[vi r6.1.root, .slice A5 r6.1.nodes.length c5], vi r6.2]) (fun _ => by kernel_rfl) ?_
 let a27_ : Value := .agg #[vi r6.1.root, .slice A5 r6.1.nodes.length c5]
 refine T.p2 a27_ (vi r6.2) (fun _ => by kernel_rfl) ?_
 let v19_ : List Value := [vi r6.1.root, .slice A5 r6.1.nodes.length c5]
 let i7_ : HObj := box b5 24 v19_
 refine T.step (W1.st 0 v19_ (i7_ :: t6_) v19_ (by rfl) rfl rfl rfl rfl rfl rfl (fun _ => by kernel_rfl) ?_)
 refine T.pk (vi r6.2) (fun _ => by kernel_rfl) ?_
 refine T.nil ?_
 refine T.seq ?_
 refine T.region ?_
 refine T.look a23_ (by kernel_rfl) (ldN 3 rfl rfl (fun _ => by kernel_rfl) (by rfl) rfl) ?_
 refine T.look a25_ (by kernel_rfl) (ldN 1 rfl rfl (fun _ => by kernel_rfl) (by rfl) rfl) ?_
 obtain ⟨r7, hb7, hF⟩ := ob hF
 refine T.step (W1.call (vT2 (vAg eTree) (vSc eInt)) r7 29 #[a23_, a25_] (by kernel_rfl) (fun _ => by kernel_rfl) (fun w' hh => grow_Insert_l F p0 p2 r7 hb7 w' A1 c1 (SlOk.mono (SlOk.mono hs1 (vt (vt (vt (vt (vt hV1 hV2) hV3) hV4) hV5) hV6)) hh.view)) ?_)
 intro u V7 hV7 hu
 obtain ⟨u7, u8, rfl, hu7, hu8⟩ := vT2_elim hu
 obtain ⟨cs4, rfl, hr4⟩ := vagg_elim hu7
 obtain ⟨A6, c6, rfl, hs6⟩ := hr4
 obtain rfl := sureInt _ _ _ hu8
 refine T.pk (.tuple #[.agg #[vi r7.1.root, .slice A6 r7.1.nodes.length c6], vi r7.2]) (fun _ => by kernel_rfl) ?_
 let a28_ : Value := .agg #[vi r7.1.root, .slice A6 r7.1.nodes.length c6]
 refine T.p2 a28_ (vi r7.2) (fun _ => by kernel_rfl) ?_
 refine T.step (W1.np 24 v17_ (fun _ => by kernel_rfl) (fun b6 => ?_))
 let v20_ : List Value := [vi r7.1.root, .slice A6 r7.1.nodes.length c6]
 let i8_ : HObj := box b6 24 v20_
 refine T.step (W1.st 0 v20_ (i8_ :: i7_ :: t6_) v20_ (by rfl) rfl rfl rfl rfl rfl rfl (fun _ => by kernel_rfl) ?_)
 refine T.pk (vi r7.2) (fun _ => by kernel_rfl) ?_
 refine T.nil ?_
 refine T.seq ?_
 let t9_ : List HObj := i2_ :: i3_ :: []
 let t10_ : List HObj := i7_ :: t9_
 let t11_ : List HObj := i8_ :: t10_
 refine T.cut (fun a w' => Fr 109 [(4, pB b2 0), (5, pB b3 0), (7, pB b5 0), (8, vi r6.2), (11, pB b6 0), (58, .bool ((r6.2 != 0) || (r7.2 != 0)))] a ∧ Hp w V7 t11_ w') ?_ ?_
 ·
  refine T.region ?_
  refine T.p3 (vi r6.2) (.bool (r6.2 != 0)) (.bool (r6.2 != 0)) (fun _ => by kernel_rfl) ?_
  cases hg3 : (r6.2 != 0)
  ·
   skip
   refine T.p3 (vi r7.2) (.bool (r7.2 != 0)) (.bool (r7.2 != 0)) (fun _ => by kernel_rfl) ?_
   refine T.nil ?_
   exact fun a w' hf hh => ⟨(((((((Fr.nil hf).pick hf 58 rfl).pick hf 11 rfl).pick hf 8 rfl).pick hf 7 rfl).pick hf 5 rfl).pick hf 4 rfl), (hh.sub (kp4 (dr1 kp0)))⟩
  skip
  refine T.pass (by kernel_rfl) (by kernel_rfl) ?_
  refine T.pass (by kernel_rfl) (by kernel_rfl) ?_
  refine T.pk (.bool true) (fun _ => by kernel_rfl) ?_
  refine T.nil ?_
  exact fun a w' hf hh => ⟨(((((((Fr.nil hf).pick hf 58 rfl).pick hf 11 rfl).pick hf 8 rfl).pick hf 7 rfl).pick hf 5 rfl).pick hf 4 rfl), (hh.sub (kp4 (dr1 kp0)))⟩
 rintro a w' ⟨hf, hh⟩
 refine (?_ : T 109 w V7 t11_ [(4, pB b2 0), (5, pB b3 0), (7, pB b5 0), (8, vi r6.2), (11, pB b6 0), (58, .bool ((r6.2 != 0) || (r7.2 != 0)))] _) a w' hf hh
 clear hf hh
 refine T.cond ((r6.2 != 0) || (r7.2 != 0)) (by kernel_rfl) (by kernel_rfl) (fun hc2 => ?_) (fun hc2 => ?_)
 ·
  rw [hc2, cond_true] at hF
  obtain ⟨z1, hX1, hF⟩ := ob hF
  refine T.cut (fun a w' => ∃ (V8 : View), View.le V7 V8 ∧ Fr 109 [(6, .bool z1)] a ∧ Hp w V8 [] w') ?_ ?_
  ·
   refine T.region ?_
   refine T.p3 (vi r6.2) (.bool (r6.2 == 0)) (.bool (r6.2 == 0)) (fun _ => by kernel_rfl) ?_
   cases hg4 : (r6.2 == 0)
   ·
    skip
    rw [hg4, cond_false] at hX1
    refine T.look a27_ (by kernel_rfl) (ldN 1 rfl rfl (fun _ => by kernel_rfl) (by rfl) rfl) ?_
    refine T.pk (.agg #[vi 0, sN]) (fun _ => by kernel_rfl) ?_
    obtain ⟨r8, hb8, hX1⟩ := ob hX1
    refine T.step (W1.call (vSc eBool) r8 30 #[a27_, .agg #[vi 0, sN]] (by kernel_rfl) (fun _ => by kernel_rfl) (fun w' hh => annalref_SameTree_l F r6.1 (DTree.mk 0 []) r8 hb8 w' A5 c5 (SlOk.mono (SlOk.mono hs5 (vt (made_le _ _) hV7)) hh.view) none 0 (SlOk.nil _ _)) ?_)
    intro u V9 hV9 hu
    obtain rfl := sureBool _ _ _ hu
    refine T.p2 (.bool r8) (.bool r8) (fun _ => by kernel_rfl) ?_
    refine T.nil ?_
    cases hX1
    exact fun a w' hf hh => ⟨V9, hV9, ((Fr.nil hf).pick hf 6 rfl), (hh.sub (dr3 (dr1 kp0)))⟩
   skip
   rw [hg4, cond_true] at hX1
   refine T.pass (by kernel_rfl) (by kernel_rfl) ?_
   refine T.pass (by kernel_rfl) (by kernel_rfl) ?_
   refine T.pass (by kernel_rfl) (by kernel_rfl) ?_
   refine T.p2 (.bool true) (.bool true) (fun _ => by kernel_rfl) ?_
   refine T.nil ?_
   cases hX1
   exact fun a w' hf hh => ⟨V7, vr, ((Fr.nil hf).pick hf 6 rfl), (hh.sub (dr3 (dr1 kp0)))⟩
  rintro a w' ⟨V8, hV8, hf, hh⟩
  refine (?_ : T 109 w V8 [] [(6, .bool z1)] _) a w' hf hh
  clear hf hh
  cases hF
  refine T.ret rfl ?_
  exact T.ret1 rfl (ResIs.tmp rfl) fun w' hh => ⟨_, rfl, hh.below, (show _ from rfl)⟩
 rw [hc2, cond_false] at hF
 refine T.skip_code ?_
 refine T.seq ?_
 refine T.region ?_
 refine T.look a27_ (by kernel_rfl) (ldN 1 rfl rfl (fun _ => by kernel_rfl) (by rfl) rfl) ?_
 refine T.look a25_ (by kernel_rfl) (ldN 2 rfl rfl (fun _ => by kernel_rfl) (by rfl) rfl) ?_
 obtain ⟨r9, hb9, hF⟩ := ob hF
 refine T.step (W1.call (vT2 (vAg eTree) (vSc eInt)) r9 29 #[a27_, a25_] (by kernel_rfl) (fun _ => by kernel_rfl) (fun w' hh => grow_Insert_l F r6.1 p2 r9 hb9 w' A5 c5 (SlOk.mono (SlOk.mono hs5 (vt (made_le _ _) hV7)) hh.view)) ?_)
 intro u V10 hV10 hu
 obtain ⟨u9, u10, rfl, hu9, hu10⟩ := vT2_elim hu
 obtain ⟨cs5, rfl, hr5⟩ := vagg_elim hu9
 obtain ⟨A7, c7, rfl, hs7⟩ := hr5
 obtain rfl := sureInt _ _ _ hu10
 refine T.pk (.tuple #[.agg #[vi r9.1.root, .slice A7 r9.1.nodes.length c7], vi r9.2]) (fun _ => by kernel_rfl) ?_
 let a29_ : Value := .agg #[vi r9.1.root, .slice A7 r9.1.nodes.length c7]
 refine T.p2 a29_ (vi r9.2) (fun _ => by kernel_rfl) ?_
 refine T.step (W1.np 24 v17_ (fun _ => by kernel_rfl) (fun b7 => ?_))
 let v21_ : List Value := [vi r9.1.root, .slice A7 r9.1.nodes.length c7]
 let i12_ : HObj := box b7 24 v21_
 refine T.step (W1.st 0 v21_ (i12_ :: t11_) v21_ (by rfl) rfl rfl rfl rfl rfl rfl (fun _ => by kernel_rfl) ?_)
 refine T.pk (vi r9.2) (fun _ => by kernel_rfl) ?_
 refine T.nil ?_
 refine T.seq ?_
 refine T.region ?_
 refine T.look a28_ (by kernel_rfl) (ldN 1 rfl rfl (fun _ => by kernel_rfl) (by rfl) rfl) ?_
 refine T.look a24_ (by kernel_rfl) (ldN 4 rfl rfl (fun _ => by kernel_rfl) (by rfl) rfl) ?_
 obtain ⟨r10, hb10, hF⟩ := ob hF
 refine T.step (W1.call (vT2 (vAg eTree) (vSc eInt)) r10 29 #[a28_, a24_] (by kernel_rfl) (fun _ => by kernel_rfl) (fun w' hh => grow_Insert_l F r7.1 p1 r10 hb10 w' A6 c6 (SlOk.mono (SlOk.mono hs6 (vt (made_le _ _) hV10)) hh.view)) ?_)
 intro u V11 hV11 hu
 obtain ⟨u11, u12, rfl, hu11, hu12⟩ := vT2_elim hu
 obtain ⟨cs6, rfl, hr6⟩ := vagg_elim hu11
 obtain ⟨A8, c8, rfl, hs8⟩ := hr6
 obtain rfl := sureInt _ _ _ hu12
 refine T.pk (.tuple #[.agg #[vi r10.1.root, .slice A8 r10.1.nodes.length c8], vi r10.2]) (fun _ => by kernel_rfl) ?_
 let a30_ : Value := .agg #[vi r10.1.root, .slice A8 r10.1.nodes.length c8]
 refine T.p2 a30_ (vi r10.2) (fun _ => by kernel_rfl) ?_
 refine T.step (W1.np 24 v17_ (fun _ => by kernel_rfl) (fun b8 => ?_))
 let v22_ : List Value := [vi r10.1.root, .slice A8 r10.1.nodes.length c8]
 let i13_ : HObj := box b8 24 v22_
 refine T.step (W1.st 0 v22_ (i13_ :: i12_ :: t11_) v22_ (by rfl) rfl rfl rfl rfl rfl rfl (fun _ => by kernel_rfl) ?_)
 refine T.pk (vi r10.2) (fun _ => by kernel_rfl) ?_
 refine T.nil ?_
 refine T.seq ?_
 refine T.cut (fun a w' => Fr 109 [(8, vi r9.2), (12, vi r10.2), (13, pB b7 0), (14, pB b8 0), (84, .bool ((r9.2 != r10.2) || (r9.2 != 0)))] a ∧ Hp w V11 (i13_ :: i12_ :: []) w') ?_ ?_
 ·
  refine T.region ?_
  refine T.p4 (vi r9.2) (vi r10.2) (.bool (r9.2 != r10.2)) (.bool (r9.2 != r10.2)) (fun _ => by kernel_rfl) ?_
  cases hg5 : (r9.2 != r10.2)
  ·
   skip
   refine T.p3 (vi r9.2) (.bool (r9.2 != 0)) (.bool (r9.2 != 0)) (fun _ => by kernel_rfl) ?_
   refine T.nil ?_
   exact fun a w' hf hh => ⟨((((((Fr.nil hf).pick hf 84 rfl).pick hf 14 rfl).pick hf 13 rfl).pick hf 12 rfl).pick hf 8 rfl), (hh.sub (kp2 (dr3 (dr1 kp0))))⟩
  skip
  refine T.pass (by kernel_rfl) (by kernel_rfl) ?_
  refine T.pass (by kernel_rfl) (by kernel_rfl) ?_
  refine T.pk (.bool true) (fun _ => by kernel_rfl) ?_
  refine T.nil ?_
  exact fun a w' hf hh => ⟨((((((Fr.nil hf).pick hf 84 rfl).pick hf 14 rfl).pick hf 13 rfl).pick hf 12 rfl).pick hf 8 rfl), (hh.sub (kp2 (dr3 (dr1 kp0))))⟩
 rintro a w' ⟨hf, hh⟩
 refine (?_ : T 109 w V11 (i13_ :: i12_ :: []) [(8, vi r9.2), (12, vi r10.2), (13, pB b7 0), (14, pB b8 0), (84, .bool ((r9.2 != r10.2) || (r9.2 != 0)))] _) a w' hf hh
 clear hf hh
 refine T.cond ((r9.2 != r10.2) || (r9.2 != 0)) (by kernel_rfl) (by kernel_rfl) (fun hc3 => ?_) (fun hc3 => ?_)
 ·
  rw [hc3, cond_true] at hF
  refine T.seq ?_
  refine T.region ?_
  refine T.p4 (vi r9.2) (vi r10.2) (.bool (r9.2 == r10.2)) (.bool (r9.2 == r10.2)) (fun _ => by kernel_rfl) ?_
  refine T.nil ?_
  cases hF
  refine T.ret rfl ?_
  exact T.ret1 rfl (ResIs.tmp rfl) fun w' hh => ⟨_, rfl, hh.below, (show _ from rfl)⟩
 rw [hc3, cond_false] at hF
 refine T.skip_code ?_
 refine T.seq ?_
 refine T.region ?_
 refine T.look a29_ (by kernel_rfl) (ldN 1 rfl rfl (fun _ => by kernel_rfl) (by rfl) rfl) ?_
 obtain ⟨r11, hb11, hF⟩ := ob hF
 refine T.step (W1.call (vT2 (vSc (eList eElem)) (vSc eInt)) r11 17 #[a29_] (by kernel_rfl) (fun _ => by kernel_rfl) (fun w' hh => tree_All_l F r9.1 r11 hb11 w' A7 c7 (SlOk.mono (SlOk.mono hs7 (vt (made_le _ _) hV11)) hh.view)) ?_)
 intro u V12 hV12 hu
 obtain ⟨u13, u14, rfl, hu13, hu14⟩ := vT2_elim hu
 obtain ⟨A9, c9, rfl, hs9⟩ := vlist_elim hu13
 obtain rfl := sureInt _ _ _ hu14
 refine T.p5 (.tuple #[.slice A9 r11.1.length c9, vi r11.2]) (.slice A9 r11.1.length c9) (vi r11.2) (.slice A9 r11.1.length c9) (vi r11.2) (fun _ => by kernel_rfl) ?_
 refine T.nil ?_
 refine T.seq ?_
 refine T.region ?_
 refine T.look a30_ (by kernel_rfl) (ldN 0 rfl rfl (fun _ => by kernel_rfl) (by rfl) rfl) ?_
 obtain ⟨r12, hb12, hF⟩ := ob hF
 refine T.step (W1.call (vT2 (vSc (eList eElem)) (vSc eInt)) r12 17 #[a30_] (by kernel_rfl) (fun _ => by kernel_rfl) (fun w' hh => tree_All_l F r10.1 r12 hb12 w' A8 c8 (SlOk.mono (SlOk.mono hs8 (vt (made_le _ _) hV12)) hh.view)) ?_)
 intro u V13 hV13 hu
 obtain ⟨u15, u16, rfl, hu15, hu16⟩ := vT2_elim hu
 obtain ⟨A10, c10, rfl, hs10⟩ := vlist_elim hu15
 obtain rfl := sureInt _ _ _ hu16
 refine T.p5 (.tuple #[.slice A10 r12.1.length c10, vi r12.2]) (.slice A10 r12.1.length c10) (vi r12.2) (.slice A10 r12.1.length c10) (vi r12.2) (fun _ => by kernel_rfl) ?_
 refine T.nil ?_
 obtain ⟨z2, hX2, hF⟩ := ob hF
 refine T.cut (fun a w' => ∃ (V14 : View), View.le V13 V14 ∧ Fr 109 [(6, .bool z2)] a ∧ Hp w V14 [] w') ?_ ?_
 ·
  refine T.region ?_
  refine T.p3 (vi r11.2) (.bool (r11.2 == 0)) (.bool (r11.2 == 0)) (fun _ => by kernel_rfl) ?_
  cases hg6 : (r11.2 == 0)
  ·
   skip
   rw [hg6, cond_false] at hX2
   refine T.pass (by kernel_rfl) (by kernel_rfl) ?_
   refine T.pass (by kernel_rfl) (by kernel_rfl) ?_
   refine T.p2 (.bool false) (.bool false) (fun _ => by kernel_rfl) ?_
   refine T.pass (by kernel_rfl) (by kernel_rfl) ?_
   refine T.pass (by kernel_rfl) (by kernel_rfl) ?_
   refine T.pass (by kernel_rfl) (by kernel_rfl) ?_
   refine T.p2 (.bool false) (.bool false) (fun _ => by kernel_rfl) ?_
   refine T.nil ?_
   cases hX2
   exact fun a w' hf hh => ⟨V13, vr, ((Fr.nil hf).pick hf 6 rfl), (hh.sub (dr1 (dr1 kp0)))⟩
  skip
  rw [hg6, cond_true] at hX2
  refine T.p4 (vi r12.2) (.bool (r12.2 == 0)) (.bool (r12.2 == 0)) (.bool (r12.2 == 0)) (fun _ => by kernel_rfl) ?_
  cases hg7 : (r12.2 == 0)
  ·
   skip
   rw [hg7, cond_false] at hX2
   refine T.pass (by kernel_rfl) (by kernel_rfl) ?_
   refine T.pass (by kernel_rfl) (by kernel_rfl) ?_
   refine T.pass (by kernel_rfl) (by kernel_rfl) ?_
   refine T.p2 (.bool false) (.bool false) (fun _ => by kernel_rfl) ?_
   refine T.nil ?_
   cases hX2
   exact fun a w' hf hh => ⟨V13, vr, ((Fr.nil hf).pick hf 6 rfl), (hh.sub (dr1 (dr1 kp0)))⟩
  skip
  rw [hg7, cond_true] at hX2
  refine T.p2 (.slice A9 r11.1.length c9) (.slice A10 r12.1.length c10) (fun _ => by kernel_rfl) ?_
  obtain ⟨r13, hb13, hX2⟩ := ob hX2
  refine T.step (W1.call (vSc eBool) r13 18 #[.slice A9 r11.1.length c9, .slice A10 r12.1.length c10] (by kernel_rfl) (fun _ => by kernel_rfl) (fun w' hh => slices_Equal_Elem_l F r11.1 r12.1 r13 hb13 w' A9 c9 (SlOk.mono (SlOk.mono hs9 (vt (made_le _ _) hV13)) hh.view) A10 c10 (SlOk.mono (SlOk.mono hs10 (vt (made_le _ _) vr)) hh.view)) ?_)
  intro u V15 hV15 hu
  obtain rfl := sureBool _ _ _ hu
  refine T.p2 (.bool r13) (.bool r13) (fun _ => by kernel_rfl) ?_
  refine T.nil ?_
  cases hX2
  exact fun a w' hf hh => ⟨V15, hV15, ((Fr.nil hf).pick hf 6 rfl), (hh.sub (dr1 (dr1 kp0)))⟩
 rintro a w' ⟨V14, hV14, hf, hh⟩
 refine (?_ : T 109 w V14 [] [(6, .bool z2)] _) a w' hf hh
 clear hf hh
 cases hF
 refine T.ret rfl ?_
 exact T.ret1 rfl (ResIs.tmp rfl) fun w' hh => ⟨_, rfl, hh.below, (show _ from rfl)⟩
end Go.Proofs.Ytcmkdoahkncakaa
