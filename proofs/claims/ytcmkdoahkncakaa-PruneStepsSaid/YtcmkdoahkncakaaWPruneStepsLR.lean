/- The Go functions of group WPruneSteps compute the pure functions of that group: written by walkgen.py. Condition of each: the pure function yields a result. -/
import Derived.Test.YtcmkdoahkncakaaSh2R
import Derived.Test.YtcmkdoahkncakaaStepLR
import Derived.Test.YtcmkdoahkncakaaBuildLR
import Derived.Test.YtcmkdoahkncakaaTreeLR
import Derived.Test.YtcmkdoahkncakaaEqsLR
import Derived.Test.YtcmkdoahkncakaaWPruneStepsFR
import Derived.Test.YtcmkdoahkncakaaEqLR
namespace Go.Proofs.Ytcmkdoahkncakaa
set_option linter.unusedVariables false
set_option maxRecDepth 100000 in
set_option maxHeartbeats 4000000 in
theorem annalkeep_PruneSteps_l (F : Nat) (p0 : DTree) (p1 : (List Int)) (p2 : Int) (r : Bool) (hF : annalkeep_PruneSteps F p0 p1 p2 = some r) (w : World) (A1 : Option Addr) (c1 : Nat) (hs1 : SlOk (vw w) eNode A1 c1 p0.nodes) (A2 : Option Addr) (c2 : Nat) (hs2 : SlOk (vw w) eInt A2 c2 p1) :
 Calls Try.prog 6 #[.agg #[.int .i64 p0.root, .slice A1 p0.nodes.length c1], .slice A2 p1.length c2, .int .i64 p2] w (Post (vSc eBool) r w) := by
 unfold annalkeep_PruneSteps at hF
 let a12_ : Value := .agg #[vi p0.root, .slice A1 p0.nodes.length c1]
 refine T.start (l := [a12_, .slice A2 p1.length c2, vi p2]) Try.func6 rfl rfl rfl ?_
 refine T.seq (T.region ?_)
 let v6_ : List Value := [vi p0.root, .slice A1 p0.nodes.length c1]
 refine T.step (W1.np 24 v6_ (fun _ => by kernel_rfl) (fun b1 => ?_))
 refine T.pk (.bool false) (fun _ => by kernel_rfl) (T.nil (T.seq (T.region (T.pk (.agg #[vi 0, vi 0, vi 1]) (fun _ => by kernel_rfl) ?_))))
 let a13_ : Value := .agg #[vi 0, vi 0, vi 1, vi 1, vi 3, .string (ByteArray.mk #[])]
 refine T.pk a13_ (fun _ => by kernel_rfl) (T.step (W1.np 28 [vi 0, vi 0, vi 0, vi 0, vi 0, .string (ByteArray.mk #[])] (fun _ => by kernel_rfl) (fun b2 => ?_)))
 let v7_ : List Value := [vi 0, vi 0, vi 1, vi 1, vi 3, .string (ByteArray.mk #[])]
 let i1_ : HObj := box b2 28 v7_
 let i2_ : HObj := box b1 24 v6_
 refine T.step (W1.st 0 v7_ (i1_ :: i2_ :: []) v7_ (by rfl) rfl rfl rfl rfl rfl rfl (fun _ => by kernel_rfl) ?_)
 refine T.nil (T.seq (T.seq (T.region (T.look a13_ (by kernel_rfl) (ldN 0 rfl rfl (fun _ => by kernel_rfl) (by rfl) rfl) ?_))))
 refine T.step (W1.ns 28 v7_ (fun _ => by kernel_rfl) (fun b3 => ?_))
 obtain ⟨r1, hb1, hF⟩ := ob hF
 refine T.step (W1.call (vAg eTree) r1 15 #[.slice (some ⟨b3, 0, none⟩) 1 1] (by kernel_rfl) (fun _ => by kernel_rfl) (fun w' hh => annalkeep_of_l F [(DElem.mk (DKey.mk 0 0 1) 1 3 (ByteArray.mk #[]))] r1 hb1 w' (some ⟨b3, 0, none⟩) 1 (slok_lit (E := eElem) (f := DElem.cells) [(DElem.mk (DKey.mk 0 0 1) 1 3 (ByteArray.mk #[]))] (fun _ _ => rfl) (Nat.le_of_ble_eq_true (by rfl)) (fun j => hh.cellBox (i := 0) (by rfl) j))) ?_)
 intro u V1 hV1 hu
 obtain ⟨cs1, rfl, hr1⟩ := vagg_elim hu
 obtain ⟨A3, c3, rfl, hs3⟩ := hr1
 obtain ⟨r2, hb2, hF⟩ := ob hF
 refine T.step (W1.call (vT3 (vAg eTree) (vSc eInt) (vSc eInt)) r2 27 #[.agg #[vi r1.root, .slice A3 r1.nodes.length c3], sN, vi 5] (by kernel_rfl) (fun _ => by kernel_rfl) (fun w' hh => prune_Step_l F r1 ([] : List Int) 5 r2 hb2 w' A3 c3 (SlOk.mono (SlOk.mono hs3 (vt (made_le _ _) vr)) hh.view) none 0 (SlOk.nil _ _)) ?_)
 intro u V2 hV2 hu
 obtain ⟨u1, u2, u3, rfl, hu1, hu2, hu3⟩ := vT3_elim hu
 obtain ⟨cs2, rfl, hr2⟩ := vagg_elim hu1
 obtain ⟨A4, c4, rfl, hs4⟩ := hr2
 obtain rfl := sureInt _ _ _ hu2
 obtain rfl := sureInt _ _ _ hu3
 refine T.p4 (.tuple #[.agg #[vi r2.1.root, .slice A4 r2.1.nodes.length c4], vi r2.2.1, vi r2.2.2]) (.agg #[vi r2.1.root, .slice A4 r2.1.nodes.length c4]) (vi r2.2.1) (vi r2.2.2) (fun _ => by kernel_rfl) (T.step (W1.np 24 [vi 0, sN] (fun _ => by kernel_rfl) (fun b4 => ?_)))
 let v8_ : List Value := [vi r2.1.root, .slice A4 r2.1.nodes.length c4]
 refine T.step (W1.st 0 v8_ ((box b4 24 v8_) :: (box b3 28 v7_) :: i1_ :: i2_ :: []) v8_ (by rfl) rfl rfl rfl rfl rfl rfl (fun _ => by kernel_rfl) ?_)
 refine T.p2 (vi r2.2.1) (vi r2.2.2) (fun _ => by kernel_rfl) (T.nil ?_)
 refine T.cut (fun a w' => Fr 89 [(1, .slice A2 p1.length c2), (2, vi p2), (3, pB b1 0), (33, .bool ((r2.2.1 != 1) || (r2.2.2 != 0)))] a ∧ Hp w V2 (i2_ :: []) w') ?_ ?_
 ·
  refine T.region (T.p3 (vi r2.2.1) (.bool (r2.2.1 != 1)) (.bool (r2.2.1 != 1)) (fun _ => by kernel_rfl) ?_)
  cases hg1 : (r2.2.1 != 1)
  ·
   skip
   refine T.p3 (vi r2.2.2) (.bool (r2.2.2 != 0)) (.bool (r2.2.2 != 0)) (fun _ => by kernel_rfl) (T.nil ?_)
   exact fun a w' hf hh => ⟨(Fr.sel hf rfl), (hh.sub (dr3 (kp1 kp0)))⟩
  skip
  refine T.pass (by kernel_rfl) (by kernel_rfl) (T.pass (by kernel_rfl) (by kernel_rfl) (T.pk (.bool true) (fun _ => by kernel_rfl) (T.nil ?_)))
  exact fun a w' hf hh => ⟨(Fr.sel hf rfl), (hh.sub (dr3 (kp1 kp0)))⟩
 rintro a w' ⟨hf, hh⟩
 refine (?_ : T 89 w V2 (i2_ :: []) [(1, .slice A2 p1.length c2), (2, vi p2), (3, pB b1 0), (33, .bool ((r2.2.1 != 1) || (r2.2.2 != 0)))] _) a w' hf hh
 clear hf hh
 refine T.cond ((r2.2.1 != 1) || (r2.2.2 != 0)) (by kernel_rfl) (by kernel_rfl) (fun hc1 => ?_) (fun hc1 => ?_)
 ·
  rw [hc1, cond_true] at hF
  refine T.seq (T.region (T.pk (.bool false) (fun _ => by kernel_rfl) (T.nil ?_)))
  cases hF
  refine T.ret rfl ?_
  exact T.ret1 rfl (ResIs.tmp rfl) fun w' hh => ⟨_, rfl, hh.below, (show _ from rfl)⟩
 rw [hc1, cond_false] at hF
 refine T.skip_code ?_
 refine T.seq (T.region (T.look a12_ (by kernel_rfl) (ldN 0 rfl rfl (fun _ => by kernel_rfl) (by rfl) rfl) ?_))
 obtain ⟨r3, hb3, hF⟩ := ob hF
 refine T.step (W1.call (vT2 (vSc (eList eElem)) (vSc eInt)) r3 17 #[a12_] (by kernel_rfl) (fun _ => by kernel_rfl) (fun w' hh => tree_All_l F p0 r3 hb3 w' A1 c1 (SlOk.mono (SlOk.mono hs1 (vt hV1 hV2)) hh.view)) ?_)
 intro u V3 hV3 hu
 obtain ⟨u4, u5, rfl, hu4, hu5⟩ := vT2_elim hu
 obtain ⟨A5, c5, rfl, hs5⟩ := vlist_elim hu4
 obtain rfl := sureInt _ _ _ hu5
 refine T.p5 (.tuple #[.slice A5 r3.1.length c5, vi r3.2]) (.slice A5 r3.1.length c5) (vi r3.2) (.slice A5 r3.1.length c5) (vi r3.2) (fun _ => by kernel_rfl) (T.nil (T.seq (T.seq (T.region (T.p2 (vi r3.2) (.bool (r3.2 != 0)) (fun _ => by kernel_rfl) (T.nil ?_))))))
 refine T.cond (r3.2 != 0) (by kernel_rfl) (by kernel_rfl) (fun hc2 => ?_) (fun hc2 => ?_)
 ·
  rw [hc2, cond_true] at hF
  refine T.seq (T.region (T.pk (.bool true) (fun _ => by kernel_rfl) (T.nil ?_)))
  cases hF
  refine T.ret rfl ?_
  exact T.ret1 rfl (ResIs.tmp rfl) fun w' hh => ⟨_, rfl, hh.below, (show _ from rfl)⟩
 rw [hc2, cond_false] at hF
 refine T.skip_code ?_
 refine T.seq (T.region (T.p2 (.slice A5 r3.1.length c5) (.slice A2 p1.length c2) (fun _ => by kernel_rfl) ?_))
 obtain ⟨r4, hb4, hF⟩ := ob hF
 refine T.step (W1.call (vT2 (vSc (eList eElem)) (vSc eInt)) r4 28 #[.slice A5 r3.1.length c5, .slice A2 p1.length c2] (by kernel_rfl) (fun _ => by kernel_rfl) (fun w' hh => prune_Kept_l F r3.1 p1 r4 hb4 w' A5 c5 (SlOk.mono (SlOk.mono hs5 (vt (made_le _ _) vr)) hh.view) A2 c2 (SlOk.mono (SlOk.mono hs2 (vt (vt hV1 hV2) hV3)) hh.view)) ?_)
 intro u V4 hV4 hu
 obtain ⟨u6, u7, rfl, hu6, hu7⟩ := vT2_elim hu
 obtain ⟨A6, c6, rfl, hs6⟩ := vlist_elim hu6
 obtain rfl := sureInt _ _ _ hu7
 refine T.p5 (.tuple #[.slice A6 r4.1.length c6, vi r4.2]) (.slice A6 r4.1.length c6) (vi r4.2) (.slice A6 r4.1.length c6) (vi r4.2) (fun _ => by kernel_rfl) (T.nil (T.seq (T.seq (T.region (T.p2 (vi r4.2) (.bool (r4.2 != 0)) (fun _ => by kernel_rfl) (T.nil ?_))))))
 refine T.cond (r4.2 != 0) (by kernel_rfl) (by kernel_rfl) (fun hc3 => ?_) (fun hc3 => ?_)
 ·
  rw [hc3, cond_true] at hF
  refine T.seq (T.region (T.pk (.bool true) (fun _ => by kernel_rfl) (T.nil ?_)))
  cases hF
  refine T.ret rfl ?_
  exact T.ret1 rfl (ResIs.tmp rfl) fun w' hh => ⟨_, rfl, hh.below, (show _ from rfl)⟩
 rw [hc3, cond_false] at hF
 refine T.skip_code ?_
 refine T.seq (T.region (T.pk (vi p2) (fun _ => by kernel_rfl) ?_))
 obtain ⟨r5, hb5, hF⟩ := ob hF
 refine T.step (W1.call (vSc eInt) r5 19 #[vi p2, vi 9] (by kernel_rfl) (fun _ => by kernel_rfl) (fun w' hh => annalkeep_Within_l p2 9 r5 hb5 w' ) ?_)
 intro u V5 hV5 hu
 obtain rfl := sureInt _ _ _ hu
 refine T.p2 (vi (IntKind.i64.wrap (1 + r5))) (vi (IntKind.i64.wrap (1 + r5))) (fun _ => by kernel_rfl) (T.nil (T.seq (T.seq (T.region (T.p4 (.slice A5 r3.1.length c5) (vi (r3.1.length : Int)) (vi (IntKind.i64.wrap ((r3.1.length : Int) + 1))) (vi 0) (fun _ => by kernel_rfl) (T.nil ?_))))))
 obtain ⟨q1, hz1, hF⟩ := ob hF
 refine T.mid (fun a w' => ∃ (z1 : Int) (z2 : List DNode), q1 = Sum.inl (z1, z2) ∧ ∃ (A8 : Option Addr) (c8 : Nat) (V7 : View), View.le V5 V7 ∧ SlOk V7 eNode A8 c8 z2 ∧ Fr 89 [(3, pB b1 0), (13, .slice A6 r4.1.length c6)] a ∧ Hp w V7 ((box b1 24 [vi z1, .slice A8 z2.length c8]) :: []) w') ?_ ?_
 ·
  refine T.block ?_
  refine T.iter (fun s1 a w' => ∃ (x1 : Int) (x2 : List DNode) (x3 : Int), s1 = (x1, x2, x3) ∧ ∃ (A7 : Option Addr) (c7 : Nat) (V6 : View), View.le V5 V6 ∧ SlOk V6 eNode A7 c7 x2 ∧ Fr 89 [(1, .slice A2 p1.length c2), (2, vi (IntKind.i64.wrap (1 + r5))), (3, pB b1 0), (13, .slice A6 r4.1.length c6), (54, vi (IntKind.i64.wrap ((r3.1.length : Int) + 1))), (55, vi x3)] a ∧ Hp w V6 ((box b1 24 [vi x1, .slice A7 x2.length c7]) :: []) w') hz1 ?_ ?_
  ·
   exact fun a w' hf hh => ⟨p0.root, p0.nodes, 0, rfl, A1, c1, V5, vr, (SlOk.mono hs1 (vt (vt (vt (vt hV1 hV2) hV3) hV4) hV5)), (Fr.sel hf rfl), (hh.sub (kp1 kp0))⟩
  rintro s1 y1 hY1 hr3 a w' ⟨x1, x2, x3, rfl, A7, c7, V6, hV6, hs7, hf, hh⟩
  let v9_ : List Value := [vi x1, .slice A7 x2.length c7]
  let i3_ : HObj := box b1 24 v9_
  refine (?_ : T 89 w V6 (i3_ :: []) [(1, .slice A2 p1.length c2), (2, vi (IntKind.i64.wrap (1 + r5))), (3, pB b1 0), (13, .slice A6 r4.1.length c6), (54, vi (IntKind.i64.wrap ((r3.1.length : Int) + 1))), (55, vi x3)] _) a w' hf hh
  clear hf hh
  try dsimp only at hY1
  refine T.seq (T.region (T.pk (.bool (decide (x3 < (IntKind.i64.wrap ((r3.1.length : Int) + 1))))) (fun _ => by kernel_rfl) (T.nil (T.seq ?_))))
  refine T.cond (decide (x3 < (IntKind.i64.wrap ((r3.1.length : Int) + 1)))) (by kernel_rfl) (by kernel_rfl) (fun hc4 => ?_) (fun hc4 => ?_)
  ·
   rw [hc4, cond_true] at hY1
   refine T.skip_code ?_
   refine T.seq (T.block (T.seq (T.region (T.look (.agg #[vi x1, .slice A7 x2.length c7]) (by kernel_rfl) (ldN 0 rfl rfl (fun _ => by kernel_rfl) (by rfl) rfl) ?_))))
   refine T.p2 (.slice A2 p1.length c2) (vi (IntKind.i64.wrap (1 + r5))) (fun _ => by kernel_rfl) ?_
   obtain ⟨r6, hb6, hY1⟩ := ob hY1
   refine T.step (W1.call (vT3 (vAg eTree) (vSc eInt) (vSc eInt)) r6 27 #[.agg #[vi x1, .slice A7 x2.length c7], .slice A2 p1.length c2, vi (IntKind.i64.wrap (1 + r5))] (by kernel_rfl) (fun _ => by kernel_rfl) (fun w' hh => prune_Step_l F (DTree.mk x1 x2) p1 (IntKind.i64.wrap (1 + r5)) r6 hb6 w' A7 c7 (SlOk.mono hs7 hh.view) A2 c2 (SlOk.mono (SlOk.mono hs2 (vt (vt (vt (vt (vt hV1 hV2) hV3) hV4) hV5) hV6)) hh.view)) ?_)
   intro u V8 hV8 hu
   obtain ⟨u8, u9, u10, rfl, hu8, hu9, hu10⟩ := vT3_elim hu
   obtain ⟨cs3, rfl, hr4⟩ := vagg_elim hu8
   obtain ⟨A9, c9, rfl, hs9⟩ := hr4
   obtain rfl := sureInt _ _ _ hu9
   obtain rfl := sureInt _ _ _ hu10
   refine T.p4 (.tuple #[.agg #[vi r6.1.root, .slice A9 r6.1.nodes.length c9], vi r6.2.1, vi r6.2.2]) (.agg #[vi r6.1.root, .slice A9 r6.1.nodes.length c9]) (vi r6.2.1) (vi r6.2.2) (fun _ => by kernel_rfl) (T.step (W1.np 24 [vi 0, sN] (fun _ => by kernel_rfl) (fun b5 => ?_)))
   let v10_ : List Value := [vi r6.1.root, .slice A9 r6.1.nodes.length c9]
   let i4_ : HObj := box b5 24 v10_
   let t5_ : List HObj := i4_ :: i3_ :: []
   refine T.step (W1.st 0 v10_ t5_ v10_ (by rfl) rfl rfl rfl rfl rfl rfl (fun _ => by kernel_rfl) ?_)
   refine T.p2 (vi r6.2.1) (vi r6.2.2) (fun _ => by kernel_rfl) (T.nil (T.seq ?_))
   refine T.cut (fun a w' => Fr 89 [(1, .slice A2 p1.length c2), (2, vi (IntKind.i64.wrap (1 + r5))), (3, pB b1 0), (13, .slice A6 r4.1.length c6), (14, pB b5 0), (15, vi r6.2.1), (54, vi (IntKind.i64.wrap ((r3.1.length : Int) + 1))), (55, vi x3), (71, .bool ((r6.2.2 != 0) || (decide ((IntKind.i64.wrap (1 + r5)) < r6.2.1))))] a ∧ Hp w V8 t5_ w') ?_ ?_
   ·
    refine T.region (T.p3 (vi r6.2.2) (.bool (r6.2.2 != 0)) (.bool (r6.2.2 != 0)) (fun _ => by kernel_rfl) ?_)
    cases hg2 : (r6.2.2 != 0)
    ·
     skip
     refine T.p4 (vi r6.2.1) (vi (IntKind.i64.wrap (1 + r5))) (.bool (decide ((IntKind.i64.wrap (1 + r5)) < r6.2.1))) (.bool (decide ((IntKind.i64.wrap (1 + r5)) < r6.2.1))) (fun _ => by kernel_rfl) (T.nil ?_)
     exact fun a w' hf hh => ⟨(Fr.sel hf rfl), (hh.sub (kp1 (kp1 kp0)))⟩
    skip
    refine T.pass (by kernel_rfl) (by kernel_rfl) (T.pass (by kernel_rfl) (by kernel_rfl) (T.pass (by kernel_rfl) (by kernel_rfl) (T.pk (.bool true) (fun _ => by kernel_rfl) (T.nil ?_))))
    exact fun a w' hf hh => ⟨(Fr.sel hf rfl), (hh.sub (kp1 (kp1 kp0)))⟩
   rintro a w' ⟨hf, hh⟩
   refine (?_ : T 89 w V8 t5_ [(1, .slice A2 p1.length c2), (2, vi (IntKind.i64.wrap (1 + r5))), (3, pB b1 0), (13, .slice A6 r4.1.length c6), (14, pB b5 0), (15, vi r6.2.1), (54, vi (IntKind.i64.wrap ((r3.1.length : Int) + 1))), (55, vi x3), (71, .bool ((r6.2.2 != 0) || (decide ((IntKind.i64.wrap (1 + r5)) < r6.2.1))))] _) a w' hf hh
   clear hf hh
   refine T.cond ((r6.2.2 != 0) || (decide ((IntKind.i64.wrap (1 + r5)) < r6.2.1))) (by kernel_rfl) (by kernel_rfl) (fun hc5 => ?_) (fun hc5 => ?_)
   ·
    rw [hc5, cond_true] at hY1
    refine T.seq (T.region (T.pk (.bool false) (fun _ => by kernel_rfl) (T.nil ?_)))
    cases hY1
    cases (hr3 _ rfl)
    try dsimp only at hF
    cases hF
    refine T.ret rfl ?_
    exact T.ret1 rfl (ResIs.tmp rfl) fun w' hh => ⟨_, rfl, hh.below, (show _ from rfl)⟩
   rw [hc5, cond_false] at hY1
   refine T.skip_code ?_
   refine T.seq (T.region (T.look (.agg #[vi r6.1.root, .slice A9 r6.1.nodes.length c9]) (by kernel_rfl) (ldN 0 rfl rfl (fun _ => by kernel_rfl) (by rfl) rfl) ?_))
   refine T.step (W1.st 1 v10_ (i4_ :: (box b1 24 v10_) :: []) v10_ (by rfl) rfl rfl rfl rfl rfl rfl (fun _ => by kernel_rfl) ?_)
   refine T.nil (T.seq (T.region (T.p3 (vi r6.2.1) (vi (IntKind.i64.wrap (1 + r5))) (.bool (decide (r6.2.1 < (IntKind.i64.wrap (1 + r5))))) (fun _ => by kernel_rfl) (T.nil ?_))))
   refine T.cond (decide (r6.2.1 < (IntKind.i64.wrap (1 + r5)))) (by kernel_rfl) (by kernel_rfl) (fun hc6 => ?_) (fun hc6 => ?_)
   ·
    rw [hc6, cond_true] at hY1
    refine T.exit ?_
    cases hY1
    cases (hr3 _ rfl)
    exact fun a w' hf hh => ⟨r6.1.root, r6.1.nodes, rfl, A9, c9, V8, (vt hV6 hV8), (SlOk.mono hs9 (vt (made_le _ _) vr)), (Fr.sel hf rfl), (hh.sub (dr1 (kp1 kp0)))⟩
   rw [hc6, cond_false] at hY1
   refine T.skip_code ?_
   refine T.region (T.p2 (vi (IntKind.i64.wrap (x3 + 1))) (vi (IntKind.i64.wrap (x3 + 1))) (fun _ => by kernel_rfl) (T.nil ?_))
   cases hY1
   exact fun a w' hf hh => ⟨(r6.1.root, r6.1.nodes, IntKind.i64.wrap (x3 + 1)), rfl, r6.1.root, r6.1.nodes, (IntKind.i64.wrap (x3 + 1)), rfl, A9, c9, V8, (vt hV6 hV8), (SlOk.mono hs9 (vt (made_le _ _) vr)), (Fr.sel hf rfl), (hh.sub (dr1 (kp1 kp0)))⟩
  rw [hc4, cond_false] at hY1
  refine T.exit ?_
  cases hY1
  cases (hr3 _ rfl)
  exact fun a w' hf hh => ⟨x1, x2, rfl, A7, c7, V6, hV6, hs7, (Fr.sel hf rfl), (hh.sub (kp1 kp0))⟩
 rintro a w' ⟨z1, z2, rfl, A8, c8, V7, hV7, hs8, hf, hh⟩
 try dsimp only at hF
 let v11_ : List Value := [vi z1, .slice A8 z2.length c8]
 refine (?_ : T 89 w V7 ((box b1 24 v11_) :: []) [(3, pB b1 0), (13, .slice A6 r4.1.length c6)] _) a w' hf hh
 clear hf hh
 refine T.seq (T.region (T.look (.agg #[vi z1, .slice A8 z2.length c8]) (by kernel_rfl) (ldN 0 rfl rfl (fun _ => by kernel_rfl) (by rfl) rfl) ?_))
 obtain ⟨r7, hb7, hF⟩ := ob hF
 refine T.step (W1.call (vT2 (vSc (eList eElem)) (vSc eInt)) r7 17 #[.agg #[vi z1, .slice A8 z2.length c8]] (by kernel_rfl) (fun _ => by kernel_rfl) (fun w' hh => tree_All_l F (DTree.mk z1 z2) r7 hb7 w' A8 c8 (SlOk.mono hs8 hh.view)) ?_)
 intro u V9 hV9 hu
 obtain ⟨u11, u12, rfl, hu11, hu12⟩ := vT2_elim hu
 obtain ⟨A10, c10, rfl, hs10⟩ := vlist_elim hu11
 obtain rfl := sureInt _ _ _ hu12
 refine T.p5 (.tuple #[.slice A10 r7.1.length c10, vi r7.2]) (.slice A10 r7.1.length c10) (vi r7.2) (.slice A10 r7.1.length c10) (vi r7.2) (fun _ => by kernel_rfl) (T.nil ?_)
 obtain ⟨z3, hX1, hF⟩ := ob hF
 refine T.cut (fun a w' => ∃ (V10 : View), View.le V9 V10 ∧ Fr 89 [(6, .bool z3)] a ∧ Hp w V10 [] w') ?_ ?_
 ·
  refine T.region (T.p3 (vi r7.2) (.bool (r7.2 == 0)) (.bool (r7.2 == 0)) (fun _ => by kernel_rfl) ?_)
  cases hg3 : (r7.2 == 0)
  ·
   skip
   rw [hg3, cond_false] at hX1
   refine T.pass (by kernel_rfl) (by kernel_rfl) (T.pass (by kernel_rfl) (by kernel_rfl) (T.pass (by kernel_rfl) (by kernel_rfl) (T.p2 (.bool false) (.bool false) (fun _ => by kernel_rfl) (T.nil ?_))))
   cases hX1
   exact fun a w' hf hh => ⟨V9, vr, (Fr.sel hf rfl), (hh.sub (dr1 kp0))⟩
  skip
  rw [hg3, cond_true] at hX1
  refine T.p2 (.slice A10 r7.1.length c10) (.slice A6 r4.1.length c6) (fun _ => by kernel_rfl) ?_
  obtain ⟨r8, hb8, hX1⟩ := ob hX1
  refine T.step (W1.call (vSc eBool) r8 18 #[.slice A10 r7.1.length c10, .slice A6 r4.1.length c6] (by kernel_rfl) (fun _ => by kernel_rfl) (fun w' hh => slices_Equal_Elem_l F r7.1 r4.1 r8 hb8 w' A10 c10 (SlOk.mono (SlOk.mono hs10 (vt (made_le _ _) vr)) hh.view) A6 c6 (SlOk.mono (SlOk.mono hs6 (vt (made_le _ _) (vt (vt hV5 hV7) hV9))) hh.view)) ?_)
  intro u V11 hV11 hu
  obtain rfl := sureBool _ _ _ hu
  refine T.p2 (.bool r8) (.bool r8) (fun _ => by kernel_rfl) (T.nil ?_)
  cases hX1
  exact fun a w' hf hh => ⟨V11, hV11, (Fr.sel hf rfl), (hh.sub (dr1 kp0))⟩
 rintro a w' ⟨V10, hV10, hf, hh⟩
 refine (?_ : T 89 w V10 [] [(6, .bool z3)] _) a w' hf hh
 clear hf hh
 cases hF
 refine T.ret rfl ?_
 exact T.ret1 rfl (ResIs.tmp rfl) fun w' hh => ⟨_, rfl, hh.below, (show _ from rfl)⟩
end Go.Proofs.Ytcmkdoahkncakaa
