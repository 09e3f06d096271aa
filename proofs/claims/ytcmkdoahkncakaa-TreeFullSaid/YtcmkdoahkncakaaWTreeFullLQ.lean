/- The Go functions of group WTreeFull compute the pure functions of that group: written by walkgen.py. Condition of each: the pure function yields a result. -/
import Derived.Test.YtcmkdoahkncakaaSh2Q
import Derived.Test.YtcmkdoahkncakaaGrowILQ
import Derived.Test.YtcmkdoahkncakaaFindSLQ
import Derived.Test.YtcmkdoahkncakaaFindFLQ
import Derived.Test.YtcmkdoahkncakaaFindNLQ
import Derived.Test.YtcmkdoahkncakaaBuildLQ
import Derived.Test.YtcmkdoahkncakaaTreeLQ
import Derived.Test.YtcmkdoahkncakaaEqsLQ
import Derived.Test.YtcmkdoahkncakaaWTreeFullFQ
import Derived.Test.YtcmkdoahkncakaaEqLQ
namespace Go.Proofs.Ytcmkdoahkncakaa
set_option linter.unusedVariables false
set_option linter.defProp false
def ipWTreeFullL_1 := info_parts (P := Try.prog) (e := 28) (z := .agg #[.int .i64 0, .int .i64 0, .int .i64 0, .int .i64 0, .int .i64 0, .string (ByteArray.mk #[])]) (size := 6) (bytes := 56) (by kernel_rfl)
set_option maxRecDepth 100000 in
set_option maxHeartbeats 4000000 in
theorem annalkeep_full_l (F : Nat) (r : ((List DElem))) (hF : annalkeep_full F = some r) (w : World)  :
 Calls Try.prog 37 #[] w (Post (vSc (eList eElem)) r w) := by
 unfold annalkeep_full at hF
 refine T.start (l := []) Try.func37 rfl rfl rfl ?_
 refine T.seq (T.region (T.pk sN (fun _ => by kernel_rfl) (T.nil (T.seq (T.region (T.pk sN (fun _ => by kernel_rfl) (T.nil (T.seq (T.seq (T.region (T.pk (vi 0) (fun _ => by kernel_rfl) (T.nil ?_))))))))))))
 refine T.rownil 28 eElem ?_
 obtain ⟨z1, hz1, hF⟩ := ob hF
 refine T.mid (fun a w' => ∃ (A2 : Option Addr) (c2 : Nat) (V2 : View), View.le (vw w) V2 ∧ Fr 13 [(1, .slice A2 z1.length c2)] a ∧ Hp w V2 ((row 28 eElem A2 c2 z1) :: []) w') ?_ ?_
 ·
  refine T.block ?_
  refine T.iter (fun s1 a w' => ∃ (x1 : List DElem) (x2 : Int), s1 = (x1, x2) ∧ ∃ (A1 : Option Addr) (c1 : Nat) (V1 : View), View.le (vw w) V1 ∧ Fr 13 [(1, .slice A1 x1.length c1), (3, vi x2)] a ∧ Hp w V1 ((row 28 eElem A1 c1 x1) :: []) w') hz1 ?_ ?_
  ·
   exact fun a w' hf hh => ⟨[], 0, rfl, none, 0, (vw w), vr, (Fr.sel hf rfl), (hh.sub (kp1 kp0))⟩
  rintro s1 y1 hY1 hr1 a w' ⟨x1, x2, rfl, A1, c1, V1, hV1, hf, hh⟩
  refine (?_ : T 13 w V1 ((row 28 eElem A1 c1 x1) :: []) [(1, .slice A1 x1.length c1), (3, vi x2)] _) a w' hf hh
  clear hf hh
  try dsimp only at hY1
  refine T.seq (T.region (T.pk (.bool (decide (x2 < 400))) (fun _ => by kernel_rfl) (T.nil (T.seq ?_))))
  refine T.cond (decide (x2 < 400)) (by kernel_rfl) (by kernel_rfl) (fun hc1 => ?_) (fun hc1 => ?_)
  ·
   rw [hc1, cond_true] at hY1
   refine T.skip_code ?_
   refine T.seq (T.block (T.seq (T.region (T.p2 (vi x2) (vi x2) (fun _ => by kernel_rfl) (T.nil (T.region (T.p2 (.slice A1 x1.length c1) (vi x2) (fun _ => by kernel_rfl) ?_)))))))
   obtain ⟨r2, hb1, hY1⟩ := ob hY1
   refine T.step (W1.call (vAg eElem) r2 16 #[vi x2, .string (ByteArray.mk #[])] (by kernel_rfl) (fun _ => by kernel_rfl) (fun w' hh => annalkeep_at1_l x2 (ByteArray.mk #[]) r2 hb1 w' ) ?_)
   intro u V3 hV3 hu
   obtain rfl := sureElem _ _ _ hu
   refine T.step (W1.ns 28 [vi r2.key.pfs, vi r2.key.obj, vi r2.key.off, vi r2.made, vi r2.gone, .string r2.val] (fun _ => by kernel_rfl) (fun b1 => ?_))
   obtain ⟨y2, hb2, hY1⟩ := ob hY1
   obtain ⟨hb2_r, hb2_m, rfl⟩ := grow_some hb2
   obtain ⟨ti, hti, hz1, hz2, hz3⟩ := ipWTreeFullL_1
   refine T.step (W1.append (E := eElem) (l := x1) (m := [r2]) 1 _ _ 56 ti _ (by rfl) (by kernel_rfl) rfl (by kernel_rfl) hti hz1 hz2 hz3 rfl (by decide) rfl rfl (fun w' hh => (SlOk.srcF (slok_lit (E := eElem) (f := DElem.cells) [r2] (fun _ _ => rfl) (Nat.le_of_ble_eq_true (by rfl)) (fun j => hh.cellBox (i := 0) (by rfl) j)) (fun _ _ _ _ h => h))) hb2_r hb2_m (fun A3 c3 => ?_))
   refine T.pk (.slice A3 ((x1 ++ [r2]).length) c3) (fun _ => by kernel_rfl) (T.nil (T.region (T.p2 (vi (IntKind.i64.wrap (x2 + 1))) (vi (IntKind.i64.wrap (x2 + 1))) (fun _ => by kernel_rfl) (T.nil ?_))))
   cases hY1
   exact fun a w' hf hh => ⟨((x1 ++ [r2]), IntKind.i64.wrap (x2 + 1)), rfl, (x1 ++ [r2]), (IntKind.i64.wrap (x2 + 1)), rfl, A3, c3, V3, (vt hV1 hV3), (Fr.sel hf rfl), (hh.sub (dr1 (kp1 kp0)))⟩
  rw [hc1, cond_false] at hY1
  refine T.exit ?_
  cases hY1
  cases (hr1 _ rfl)
  exact fun a w' hf hh => ⟨A1, c1, V1, hV1, (Fr.sel hf rfl), (hh.sub (kp1 kp0))⟩
 rintro a w' ⟨A2, c2, V2, hV2, hf, hh⟩
 refine (?_ : T 13 w V2 ((row 28 eElem A2 c2 z1) :: []) [(1, .slice A2 z1.length c2)] _) a w' hf hh
 clear hf hh
 refine T.seq (T.region (T.p2 (.slice A2 z1.length c2) (.slice A2 z1.length c2) (fun _ => by kernel_rfl) (T.nil ?_)))
 cases hF
 refine T.ret rfl ?_
 exact T.ret1 rfl (ResIs.tmp rfl) fun w' hh => ⟨_, rfl, hh.below, ⟨_, _, rfl, (hh.row_fresh (i := 0) (by rfl) (fun _ h => h))⟩⟩
set_option maxRecDepth 100000 in
set_option maxHeartbeats 4000000 in
theorem annalkeep_TreeFull_l (F : Nat) (p0 : Int) (r : Bool) (hF : annalkeep_TreeFull F p0 = some r) (w : World)  :
 Calls Try.prog 10 #[.int .i64 p0] w (Post (vSc eBool) r w) := by
 unfold annalkeep_TreeFull at hF
 refine T.start (l := [vi p0]) Try.func10 rfl rfl rfl ?_
 refine T.seq (T.region (T.pk (.bool false) (fun _ => by kernel_rfl) (T.nil (T.seq (T.region ?_)))))
 obtain ⟨r1, hb1, hF⟩ := ob hF
 refine T.step (W1.call (vSc (eList eElem)) r1 37 #[] (by kernel_rfl) (fun _ => by kernel_rfl) (fun w' hh => annalkeep_full_l F r1 hb1 w' ) ?_)
 intro u V1 hV1 hu
 obtain ⟨A1, c1, rfl, hs1⟩ := vlist_elim hu
 obtain ⟨r2, hb2, hF⟩ := ob hF
 refine T.step (W1.call (vAg eTree) r2 15 #[.slice A1 r1.length c1] (by kernel_rfl) (fun _ => by kernel_rfl) (fun w' hh => annalkeep_of_l F r1 r2 hb2 w' A1 c1 (SlOk.mono (SlOk.mono hs1 (vt (made_le _ _) vr)) hh.view)) ?_)
 intro u V2 hV2 hu
 obtain ⟨cs1, rfl, hr1⟩ := vagg_elim hu
 obtain ⟨A2, c2, rfl, hs2⟩ := hr1
 let v4_ : List Value := [vi 0, sN]
 refine T.step (W1.np 24 v4_ (fun _ => by kernel_rfl) (fun b1 => ?_))
 let v5_ : List Value := [vi r2.root, .slice A2 r2.nodes.length c2]
 let i1_ : HObj := box b1 24 v5_
 refine T.step (W1.st 0 v5_ (i1_ :: []) v5_ (by rfl) rfl rfl rfl rfl rfl rfl (fun _ => by kernel_rfl) ?_)
 refine T.nil (T.seq (T.region ?_))
 let a10_ : Value := .agg #[vi r2.root, .slice A2 r2.nodes.length c2]
 refine T.look a10_ (by kernel_rfl) (ldN 0 rfl rfl (fun _ => by kernel_rfl) (by rfl) rfl) ?_
 obtain ⟨r3, hb3, hF⟩ := ob hF
 refine T.step (W1.call (vT2 (vSc (eList eElem)) (vSc eInt)) r3 17 #[a10_] (by kernel_rfl) (fun _ => by kernel_rfl) (fun w' hh => tree_All_l F r2 r3 hb3 w' A2 c2 (SlOk.mono (SlOk.mono hs2 (vt (made_le _ _) vr)) hh.view)) ?_)
 intro u V3 hV3 hu
 obtain ⟨u1, u2, rfl, hu1, hu2⟩ := vT2_elim hu
 obtain ⟨A3, c3, rfl, hs3⟩ := vlist_elim hu1
 obtain rfl := sureInt _ _ _ hu2
 refine T.p5 (.tuple #[.slice A3 r3.1.length c3, vi r3.2]) (.slice A3 r3.1.length c3) (vi r3.2) (.slice A3 r3.1.length c3) (vi r3.2) (fun _ => by kernel_rfl) (T.nil (T.seq ?_))
 obtain ⟨r4, hb4, hF⟩ := ob hF
 obtain ⟨r5, hb5, hF⟩ := ob hF
 refine T.mid (fun a w' => ∃ (V6 : View), View.le V3 V6 ∧ Fr 103 [(0, vi p0), (3, pB b1 0), (4, .slice A3 r3.1.length c3), (5, vi r3.2), (7, vi r5.2)] a ∧ Hp w V6 (i1_ :: []) w') ?_ ?_
 ·
  refine T.held (i1_ :: []) (by kernel_rfl) ?_
  have w16_ := vt (vt hV1 hV2) hV3
  refine TA.tk 0 a10_ rfl (by kernel_rfl) (fun _ _ _ h => h) (Hp.old vr w16_ (kp1 kp0) (oB1 ol0)) (ldN 0 rfl rfl (fun _ => by kernel_rfl) (by rfl) rfl) ?_
  refine TA.all [1, 6] (by kernel_rfl) rfl ⟨?_, ?_, trivial⟩
  ·
   refine TA.br rfl (W1.call (vAg eElem) r4 16 #[vi 1000, .string (ByteArray.mk #[])] (by kernel_rfl) (fun _ => by kernel_rfl) (fun w' hh => annalkeep_at1_l 1000 (ByteArray.mk #[]) r4 hb4 w' ) ?_)
   intro u V4 hV4 hu
   obtain rfl := sureElem _ _ _ hu
   refine TA.on (Hp.old hV4 w16_ (kp1 kp0) (oB1 ol0)) ?_
   refine TA.all [2, 6] (by kernel_rfl) rfl ⟨?_, ?_, trivial⟩
   ·
    refine TA.br rfl (W1.call (vT2 (vAg eTree) (vSc eInt)) r5 29 #[a10_, .agg #[vi r4.key.pfs, vi r4.key.obj, vi r4.key.off, vi r4.made, vi r4.gone, .string r4.val]] (by kernel_rfl) (fun _ => by kernel_rfl) (fun w' hh => grow_Insert_l F r2 r4 r5 hb5 w' A2 c2 (SlOk.mono (SlOk.mono hs2 (vt (made_le _ _) (vt hV3 hV4))) hh.view)) ?_)
    intro u V5 hV5 hu
    obtain ⟨u3, u4, rfl, hu3, hu4⟩ := vT2_elim hu
    obtain ⟨cs2, rfl, hr2⟩ := vagg_elim hu3
    obtain ⟨A4, c4, rfl, hs4⟩ := hr2
    obtain rfl := sureInt _ _ _ hu4
    refine TA.onk (Hp.old (vt hV4 hV5) w16_ (kp1 kp0) (oB1 ol0)) fun o27_ => ?_
    refine TA.tp 3 (.tuple #[.agg #[vi r5.1.root, .slice A4 r5.1.nodes.length c4], vi r5.2]) rfl (fun _ => by kernel_rfl) (fun _ _ _ h => h) o27_ ?_
    refine TA.tp 4 (.agg #[vi r5.1.root, .slice A4 r5.1.nodes.length c4]) rfl (fun _ => by kernel_rfl) (fun _ _ _ h => h) o27_ ?_
    refine TA.tp 5 (vi r5.2) rfl (fun _ => by kernel_rfl) (fun _ _ _ h => h) o27_ ?_
    refine TA.all [6] (by kernel_rfl) rfl ⟨?_, trivial⟩
    refine TA.br rfl (W1.np 24 v4_ (fun _ => by kernel_rfl) (fun b2 => ?_))
    refine TA.on (Hp.old (vt hV4 hV5) w16_ (dr1 (kp1 kp0)) (oB1 ol0)) ?_
    refine TA.all [7] (by kernel_rfl) rfl ⟨?_, trivial⟩
    let v6_ : List Value := [vi r5.1.root, .slice A4 r5.1.nodes.length c4]
    refine TA.br rfl (W1.st 0 v6_ ((box b2 24 v6_) :: i1_ :: []) v6_ (by rfl) rfl rfl rfl rfl rfl rfl (fun _ => by kernel_rfl) ?_)
    refine TA.onk (Hp.old (vt hV4 hV5) w16_ (dr1 (kp1 kp0)) (oB1 ol0)) fun o28_ => ?_
    refine TA.tp 8 (vi r5.2) rfl (fun _ => by kernel_rfl) (fun _ _ _ h => h) o28_ ?_
    refine TA.done (by kernel_rfl) ?_
    exact fun a w' hf hh => ⟨V5, (vt hV4 hV5), (Fr.sel hf rfl), (hh.sub (dr1 (kp1 kp0)))⟩
   refine TA.br rfl (W1.np 24 v4_ (fun _ => by kernel_rfl) (fun b2 => ?_))
   refine TA.on (Hp.old hV4 w16_ (dr1 (kp1 kp0)) (oB1 ol0)) ?_
   refine TA.all [2] (by kernel_rfl) rfl ⟨?_, trivial⟩
   refine TA.br rfl (W1.call (vT2 (vAg eTree) (vSc eInt)) r5 29 #[a10_, .agg #[vi r4.key.pfs, vi r4.key.obj, vi r4.key.off, vi r4.made, vi r4.gone, .string r4.val]] (by kernel_rfl) (fun _ => by kernel_rfl) (fun w' hh => grow_Insert_l F r2 r4 r5 hb5 w' A2 c2 (SlOk.mono (SlOk.mono hs2 (vt (made_le _ _) (vt hV3 hV4))) hh.view)) ?_)
   intro u V5 hV5 hu
   obtain ⟨u3, u4, rfl, hu3, hu4⟩ := vT2_elim hu
   obtain ⟨cs2, rfl, hr2⟩ := vagg_elim hu3
   obtain ⟨A4, c4, rfl, hs4⟩ := hr2
   obtain rfl := sureInt _ _ _ hu4
   refine TA.onk (Hp.old (vt hV4 hV5) w16_ (dr1 (kp1 kp0)) (oB1 ol0)) fun o29_ => ?_
   refine TA.tp 3 (.tuple #[.agg #[vi r5.1.root, .slice A4 r5.1.nodes.length c4], vi r5.2]) rfl (fun _ => by kernel_rfl) (fun _ _ _ h => h) o29_ ?_
   refine TA.tp 4 (.agg #[vi r5.1.root, .slice A4 r5.1.nodes.length c4]) rfl (fun _ => by kernel_rfl) (fun _ _ _ h => h) o29_ ?_
   refine TA.tp 5 (vi r5.2) rfl (fun _ => by kernel_rfl) (fun _ _ _ h => h) o29_ ?_
   refine TA.all [7] (by kernel_rfl) rfl ⟨?_, trivial⟩
   let v7_ : List Value := [vi r5.1.root, .slice A4 r5.1.nodes.length c4]
   refine TA.br rfl (W1.st 0 v7_ ((box b2 24 v7_) :: i1_ :: []) v7_ (by rfl) rfl rfl rfl rfl rfl rfl (fun _ => by kernel_rfl) ?_)
   refine TA.onk (Hp.old (vt hV4 hV5) w16_ (dr1 (kp1 kp0)) (oB1 ol0)) fun o30_ => ?_
   refine TA.tp 8 (vi r5.2) rfl (fun _ => by kernel_rfl) (fun _ _ _ h => h) o30_ ?_
   refine TA.done (by kernel_rfl) ?_
   exact fun a w' hf hh => ⟨V5, (vt hV4 hV5), (Fr.sel hf rfl), (hh.sub (dr1 (kp1 kp0)))⟩
  refine TA.br rfl (W1.np 24 v4_ (fun _ => by kernel_rfl) (fun b2 => ?_))
  refine TA.on (Hp.old vr w16_ (dr1 (kp1 kp0)) (oB1 ol0)) ?_
  refine TA.all [1] (by kernel_rfl) rfl ⟨?_, trivial⟩
  refine TA.br rfl (W1.call (vAg eElem) r4 16 #[vi 1000, .string (ByteArray.mk #[])] (by kernel_rfl) (fun _ => by kernel_rfl) (fun w' hh => annalkeep_at1_l 1000 (ByteArray.mk #[]) r4 hb4 w' ) ?_)
  intro u V4 hV4 hu
  obtain rfl := sureElem _ _ _ hu
  refine TA.on (Hp.old hV4 w16_ (dr1 (kp1 kp0)) (oB1 ol0)) ?_
  refine TA.all [2] (by kernel_rfl) rfl ⟨?_, trivial⟩
  refine TA.br rfl (W1.call (vT2 (vAg eTree) (vSc eInt)) r5 29 #[a10_, .agg #[vi r4.key.pfs, vi r4.key.obj, vi r4.key.off, vi r4.made, vi r4.gone, .string r4.val]] (by kernel_rfl) (fun _ => by kernel_rfl) (fun w' hh => grow_Insert_l F r2 r4 r5 hb5 w' A2 c2 (SlOk.mono (SlOk.mono hs2 (vt (made_le _ _) (vt hV3 hV4))) hh.view)) ?_)
  intro u V5 hV5 hu
  obtain ⟨u3, u4, rfl, hu3, hu4⟩ := vT2_elim hu
  obtain ⟨cs2, rfl, hr2⟩ := vagg_elim hu3
  obtain ⟨A4, c4, rfl, hs4⟩ := hr2
  obtain rfl := sureInt _ _ _ hu4
  refine TA.onk (Hp.old (vt hV4 hV5) w16_ (dr1 (kp1 kp0)) (oB1 ol0)) fun o31_ => ?_
  refine TA.tp 3 (.tuple #[.agg #[vi r5.1.root, .slice A4 r5.1.nodes.length c4], vi r5.2]) rfl (fun _ => by kernel_rfl) (fun _ _ _ h => h) o31_ ?_
  refine TA.tp 4 (.agg #[vi r5.1.root, .slice A4 r5.1.nodes.length c4]) rfl (fun _ => by kernel_rfl) (fun _ _ _ h => h) o31_ ?_
  refine TA.tp 5 (vi r5.2) rfl (fun _ => by kernel_rfl) (fun _ _ _ h => h) o31_ ?_
  refine TA.all [7] (by kernel_rfl) rfl ⟨?_, trivial⟩
  let v8_ : List Value := [vi r5.1.root, .slice A4 r5.1.nodes.length c4]
  refine TA.br rfl (W1.st 0 v8_ ((box b2 24 v8_) :: i1_ :: []) v8_ (by rfl) rfl rfl rfl rfl rfl rfl (fun _ => by kernel_rfl) ?_)
  refine TA.onk (Hp.old (vt hV4 hV5) w16_ (dr1 (kp1 kp0)) (oB1 ol0)) fun o32_ => ?_
  refine TA.tp 8 (vi r5.2) rfl (fun _ => by kernel_rfl) (fun _ _ _ h => h) o32_ ?_
  refine TA.done (by kernel_rfl) ?_
  exact fun a w' hf hh => ⟨V5, (vt hV4 hV5), (Fr.sel hf rfl), (hh.sub (dr1 (kp1 kp0)))⟩
 rintro a w' ⟨V6, hV6, hf, hh⟩
 refine (?_ : T 103 w V6 (i1_ :: []) [(0, vi p0), (3, pB b1 0), (4, .slice A3 r3.1.length c3), (5, vi r3.2), (7, vi r5.2)] _) a w' hf hh
 clear hf hh
 refine T.seq (T.region (T.look a10_ (by kernel_rfl) (ldN 0 rfl rfl (fun _ => by kernel_rfl) (by rfl) rfl) ?_))
 obtain ⟨r6, hb6, hF⟩ := ob hF
 refine T.step (W1.call (vT3 (vSc (eList eElem)) (vSc eInt) (vSc eInt)) r6 33 #[a10_, vi 0] (by kernel_rfl) (fun _ => by kernel_rfl) (fun w' hh => find_Since_l F r2 0 r6 hb6 w' A2 c2 (SlOk.mono (SlOk.mono hs2 (vt (made_le _ _) (vt hV3 hV6))) hh.view)) ?_)
 intro u V7 hV7 hu
 obtain ⟨u5, u6, u7, rfl, hu5, hu6, hu7⟩ := vT3_elim hu
 obtain ⟨A5, c5, rfl, hs5⟩ := vlist_elim hu5
 obtain rfl := sureInt _ _ _ hu6
 obtain rfl := sureInt _ _ _ hu7
 refine T.p7 (.tuple #[.slice A5 r6.1.length c5, vi r6.2.1, vi r6.2.2]) (.slice A5 r6.1.length c5) (vi r6.2.1) (vi r6.2.2) (.slice A5 r6.1.length c5) (vi r6.2.1) (vi r6.2.2) (fun _ => by kernel_rfl) (T.nil (T.seq ?_))
 obtain ⟨z1, hX1, hF⟩ := ob hF
 refine T.cut (fun a w' => ∃ (V8 : View), View.le V7 V8 ∧ Fr 103 [(0, vi p0), (3, pB b1 0), (59, .bool z1)] a ∧ Hp w V8 (i1_ :: []) w') ?_ ?_
 ·
  refine T.region (T.p3 (vi r3.2) (.bool (r3.2 != 0)) (.bool (r3.2 != 0)) (fun _ => by kernel_rfl) ?_)
  cases hg1 : (r3.2 != 0)
  ·
   skip
   rw [hg1, cond_false] at hX1
   refine T.p4 (vi r5.2) (.bool (r5.2 != 8)) (.bool (r5.2 != 8)) (.bool (r5.2 != 8)) (fun _ => by kernel_rfl) ?_
   cases hg2 : (r5.2 != 8)
   ·
    skip
    rw [hg2, cond_false] at hX1
    refine T.p4 (vi r6.2.2) (.bool (r6.2.2 != 0)) (.bool (r6.2.2 != 0)) (.bool (r6.2.2 != 0)) (fun _ => by kernel_rfl) ?_
    cases hg3 : (r6.2.2 != 0)
    ·
     skip
     rw [hg3, cond_false] at hX1
     refine T.pk (.slice A3 r3.1.length c3) (fun _ => by kernel_rfl) ?_
     obtain ⟨r7, hb7, hX1⟩ := ob hX1
     refine T.step (W1.call (vSc (eList eElem)) r7 37 #[] (by kernel_rfl) (fun _ => by kernel_rfl) (fun w' hh => annalkeep_full_l F r7 hb7 w' ) ?_)
     intro u V9 hV9 hu
     obtain ⟨A6, c6, rfl, hs6⟩ := vlist_elim hu
     obtain ⟨r8, hb8, hX1⟩ := ob hX1
     refine T.step (W1.call (vSc eBool) r8 18 #[.slice A3 r3.1.length c3, .slice A6 r7.length c6] (by kernel_rfl) (fun _ => by kernel_rfl) (fun w' hh => slices_Equal_Elem_l F r3.1 r7 r8 hb8 w' A3 c3 (SlOk.mono (SlOk.mono hs3 (vt (made_le _ _) (vt (vt hV6 hV7) hV9))) hh.view) A6 c6 (SlOk.mono (SlOk.mono hs6 (vt (made_le _ _) vr)) hh.view)) ?_)
     intro u V10 hV10 hu
     obtain rfl := sureBool _ _ _ hu
     refine T.p3 (.bool (!r8)) (.bool (!r8)) (.bool (!r8)) (fun _ => by kernel_rfl) ?_
     cases hg4 : (!r8)
     ·
      skip
      rw [hg4, cond_false] at hX1
      refine T.p5 (.slice A5 r6.1.length c5) (vi (r6.1.length : Int)) (.bool ((r6.1.length : Int) != 400)) (.bool ((r6.1.length : Int) != 400)) (.bool ((r6.1.length : Int) != 400)) (fun _ => by kernel_rfl) ?_
      cases hg5 : ((r6.1.length : Int) != 400)
      ·
       skip
       rw [hg5, cond_false] at hX1
       refine T.p2 (vi r6.2.1) (pB b1 1) (fun _ => by kernel_rfl) (T.look (.slice A2 r2.nodes.length c2) (by kernel_rfl) (ld1 0 rfl rfl (fun _ => by kernel_rfl) (by rfl) rfl) ?_)
       refine T.p3 (vi (r2.nodes.length : Int)) (.bool (r6.2.1 != (r2.nodes.length : Int))) (.bool (r6.2.1 != (r2.nodes.length : Int))) (fun _ => by kernel_rfl) (T.nil ?_)
       cases hX1
       exact fun a w' hf hh => ⟨V10, (vt hV9 hV10), (Fr.sel hf rfl), (hh.sub (kp1 kp0))⟩
      skip
      rw [hg5, cond_true] at hX1
      refine T.pass (by kernel_rfl) (by kernel_rfl) (T.pass (by kernel_rfl) (by kernel_rfl) (T.pass (by kernel_rfl) (by kernel_rfl) (T.pass (by kernel_rfl) (by kernel_rfl) (T.pass (by kernel_rfl) (by kernel_rfl) (T.pk (.bool true) (fun _ => by kernel_rfl) (T.nil ?_))))))
      cases hX1
      exact fun a w' hf hh => ⟨V10, (vt hV9 hV10), (Fr.sel hf rfl), (hh.sub (kp1 kp0))⟩
     skip
     rw [hg4, cond_true] at hX1
     refine T.pass (by kernel_rfl) (by kernel_rfl) (T.pass (by kernel_rfl) (by kernel_rfl) (T.pass (by kernel_rfl) (by kernel_rfl) (T.p2 (.bool true) (.bool true) (fun _ => by kernel_rfl) (T.pass (by kernel_rfl) (by kernel_rfl) (T.pass (by kernel_rfl) (by kernel_rfl) (T.pass (by kernel_rfl) (by kernel_rfl) (T.pass (by kernel_rfl) (by kernel_rfl) (T.pass (by kernel_rfl) (by kernel_rfl) (T.pk (.bool true) (fun _ => by kernel_rfl) (T.nil ?_))))))))))
     cases hX1
     exact fun a w' hf hh => ⟨V10, (vt hV9 hV10), (Fr.sel hf rfl), (hh.sub (kp1 kp0))⟩
    skip
    rw [hg3, cond_true] at hX1
    refine T.pass (by kernel_rfl) (by kernel_rfl) (T.pass (by kernel_rfl) (by kernel_rfl) (T.pass (by kernel_rfl) (by kernel_rfl) (T.pass (by kernel_rfl) (by kernel_rfl) (T.p2 (.bool true) (.bool true) (fun _ => by kernel_rfl) (T.pass (by kernel_rfl) (by kernel_rfl) (T.pass (by kernel_rfl) (by kernel_rfl) (T.pass (by kernel_rfl) (by kernel_rfl) (T.p2 (.bool true) (.bool true) (fun _ => by kernel_rfl) (T.pass (by kernel_rfl) (by kernel_rfl) (T.pass (by kernel_rfl) (by kernel_rfl) (T.pass (by kernel_rfl) (by kernel_rfl) (T.pass (by kernel_rfl) (by kernel_rfl) (T.pass (by kernel_rfl) (by kernel_rfl) (T.pk (.bool true) (fun _ => by kernel_rfl) (T.nil ?_)))))))))))))))
    cases hX1
    exact fun a w' hf hh => ⟨V7, vr, (Fr.sel hf rfl), (hh.sub (kp1 kp0))⟩
   skip
   rw [hg2, cond_true] at hX1
   refine T.pass (by kernel_rfl) (by kernel_rfl) (T.pass (by kernel_rfl) (by kernel_rfl) (T.p2 (.bool true) (.bool true) (fun _ => by kernel_rfl) (T.pass (by kernel_rfl) (by kernel_rfl) (T.pass (by kernel_rfl) (by kernel_rfl) (T.pass (by kernel_rfl) (by kernel_rfl) (T.pass (by kernel_rfl) (by kernel_rfl) (T.p2 (.bool true) (.bool true) (fun _ => by kernel_rfl) (T.pass (by kernel_rfl) (by kernel_rfl) (T.pass (by kernel_rfl) (by kernel_rfl) (T.pass (by kernel_rfl) (by kernel_rfl) (T.p2 (.bool true) (.bool true) (fun _ => by kernel_rfl) (T.pass (by kernel_rfl) (by kernel_rfl) (T.pass (by kernel_rfl) (by kernel_rfl) (T.pass (by kernel_rfl) (by kernel_rfl) (T.pass (by kernel_rfl) (by kernel_rfl) (T.pass (by kernel_rfl) (by kernel_rfl) (T.pk (.bool true) (fun _ => by kernel_rfl) (T.nil ?_))))))))))))))))))
   cases hX1
   exact fun a w' hf hh => ⟨V7, vr, (Fr.sel hf rfl), (hh.sub (kp1 kp0))⟩
  skip
  rw [hg1, cond_true] at hX1
  refine T.pass (by kernel_rfl) (by kernel_rfl) (T.pass (by kernel_rfl) (by kernel_rfl) (T.p2 (.bool true) (.bool true) (fun _ => by kernel_rfl) (T.pass (by kernel_rfl) (by kernel_rfl) (T.pass (by kernel_rfl) (by kernel_rfl) (T.p2 (.bool true) (.bool true) (fun _ => by kernel_rfl) (T.pass (by kernel_rfl) (by kernel_rfl) (T.pass (by kernel_rfl) (by kernel_rfl) (T.pass (by kernel_rfl) (by kernel_rfl) (T.pass (by kernel_rfl) (by kernel_rfl) (T.p2 (.bool true) (.bool true) (fun _ => by kernel_rfl) (T.pass (by kernel_rfl) (by kernel_rfl) (T.pass (by kernel_rfl) (by kernel_rfl) (T.pass (by kernel_rfl) (by kernel_rfl) (T.p2 (.bool true) (.bool true) (fun _ => by kernel_rfl) (T.pass (by kernel_rfl) (by kernel_rfl) (T.pass (by kernel_rfl) (by kernel_rfl) (T.pass (by kernel_rfl) (by kernel_rfl) (T.pass (by kernel_rfl) (by kernel_rfl) (T.pass (by kernel_rfl) (by kernel_rfl) (T.pk (.bool true) (fun _ => by kernel_rfl) (T.nil ?_)))))))))))))))))))))
  cases hX1
  exact fun a w' hf hh => ⟨V7, vr, (Fr.sel hf rfl), (hh.sub (kp1 kp0))⟩
 rintro a w' ⟨V8, hV8, hf, hh⟩
 refine (?_ : T 103 w V8 (i1_ :: []) [(0, vi p0), (3, pB b1 0), (59, .bool z1)] _) a w' hf hh
 clear hf hh
 refine T.cond z1 (by kernel_rfl) (by kernel_rfl) (fun hc1 => ?_) (fun hc1 => ?_)
 ·
  rw [hc1, cond_true] at hF
  refine T.seq (T.region (T.pk (.bool false) (fun _ => by kernel_rfl) (T.nil ?_)))
  cases hF
  refine T.ret rfl ?_
  exact T.ret1 rfl (ResIs.tmp rfl) fun w' hh => ⟨_, rfl, hh.below, (show _ from rfl)⟩
 rw [hc1, cond_false] at hF
 refine T.skip_code ?_
 refine T.seq (T.region (T.pk (vi p0) (fun _ => by kernel_rfl) ?_))
 obtain ⟨r9, hb9, hF⟩ := ob hF
 refine T.step (W1.call (vSc eInt) r9 19 #[vi p0, vi 400] (by kernel_rfl) (fun _ => by kernel_rfl) (fun w' hh => annalkeep_Within_l p0 400 r9 hb9 w' ) ?_)
 intro u V11 hV11 hu
 obtain rfl := sureInt _ _ _ hu
 refine T.pk (vi r9) (fun _ => by kernel_rfl) (T.nil (T.seq ?_))
 obtain ⟨r10, hb10, hF⟩ := ob hF
 obtain ⟨e1, hb11, hF⟩ := ob hF
 obtain ⟨r11, hb12, hF⟩ := ob hF
 obtain ⟨r12, hb13, hF⟩ := ob hF
 let v9_ : List Value := [vi r12.1.key.pfs, vi r12.1.key.obj, vi r12.1.key.off, vi r12.1.made, vi r12.1.gone, .string r12.1.val]
 refine T.mid (fun a w' => ∃ (b3 : Nat) (V15 : View), View.le V11 V15 ∧ Fr 103 [(0, vi r9), (3, pB b1 0), (5, vi r12.2), (11, pB b3 0)] a ∧ Hp w V15 ((box b3 28 v9_) :: i1_ :: []) w') ?_ ?_
 ·
  refine T.held (i1_ :: []) (by kernel_rfl) ?_
  have w17_ := vt (vt (vt (vt (vt (vt hV1 hV2) hV3) hV6) hV7) hV8) hV11
  refine TA.keep (Hp.old vr w17_ (kp1 kp0) (oB1 ol0)) fun o33_ => ?_
  refine TA.tk 0 a10_ rfl (by kernel_rfl) (fun _ _ _ h => h) o33_ (ldN 0 rfl rfl (fun _ => by kernel_rfl) (by rfl) rfl) ?_
  refine TA.tp 2 (vi r9) rfl (fun _ => by kernel_rfl) (fun _ _ _ h => h) o33_ ?_
  refine TA.all [1, 10] (by kernel_rfl) rfl ⟨?_, ?_, trivial⟩
  ·
   refine TA.br rfl (W1.call (vSc (eList eElem)) r10 37 #[] (by kernel_rfl) (fun _ => by kernel_rfl) (fun w' hh => annalkeep_full_l F r10 hb10 w' ) ?_)
   intro u V12 hV12 hu
   obtain ⟨A7, c7, rfl, hs7⟩ := vlist_elim hu
   refine TA.on (Hp.old hV12 w17_ (kp1 kp0) (oB1 ol0)) ?_
   refine TA.all [3, 10] (by kernel_rfl) rfl ⟨?_, ?_, trivial⟩
   ·
    obtain ⟨hi1, hi2, hi3⟩ := idx_some hb11
    refine TA.br rfl (W1.look (.pointer (some ((sadr A7).add (r9.toNat * 6)))) (by kernel_rfl) (fun w' hh => exec_indexAddr (e := 28) (s := 6) rfl rfl rfl (by kernel_rfl) (by kernel_rfl) hi1 hi2 ((SlOk.mono hs7 (vt (made_le _ _) vr)).some_ hi3 (by decide))) ?_)
    refine TA.on (Hp.old hV12 w17_ (kp1 kp0) (oB1 ol0)) ?_
    refine TA.all [4, 10] (by kernel_rfl) rfl ⟨?_, ?_, trivial⟩
    ·
     let a11_ : Value := .agg #[vi e1.key.pfs, vi e1.key.obj, vi e1.key.off, vi e1.made, vi e1.gone, .string e1.val]
     refine TA.br rfl (W1.look a11_ (by kernel_rfl) (fun w' hh => exec_loadN (cs := [vi e1.key.pfs, vi e1.key.obj, vi e1.key.off, vi e1.made, vi e1.gone, .string e1.val]) rfl rfl (by kernel_rfl) (by kernel_rfl) (fun j u hj => (hh.cell_view (SlOk.cellF (E := eElem) (SlOk.mono hs7 (vt (made_le _ _) vr)) hi3 j (fun _ _ _ h => h) hj)))) ?_)
     refine TA.on (Hp.old hV12 w17_ (kp1 kp0) (oB1 ol0)) ?_
     refine TA.all [5, 10] (by kernel_rfl) rfl ⟨?_, ?_, trivial⟩
     ·
      refine TA.br rfl (W1.call (vAg eSpot) r11 22 #[a11_] (by kernel_rfl) (fun _ => by kernel_rfl) (fun w' hh => elem_Spot_l e1 r11 hb12 w' ) ?_)
      intro u V13 hV13 hu
      obtain rfl := sureSpot _ _ _ hu
      refine TA.on (Hp.old (vt hV12 hV13) w17_ (kp1 kp0) (oB1 ol0)) ?_
      refine TA.all [6, 10] (by kernel_rfl) rfl ⟨?_, ?_, trivial⟩
      ·
       refine TA.br rfl (W1.call (vT2 (vAg eElem) (vSc eInt)) r12 34 #[a10_, .agg #[vi r11.key.pfs, vi r11.key.obj, vi r11.key.off, vi r11.made]] (by kernel_rfl) (fun _ => by kernel_rfl) (fun w' hh => find_Spot_l F r2 r11 r12 hb13 w' A2 c2 (SlOk.mono (SlOk.mono hs2 (vt (made_le _ _) (vt (vt (vt (vt (vt (vt hV3 hV6) hV7) hV8) hV11) hV12) hV13))) hh.view)) ?_)
       intro u V14 hV14 hu
       obtain rfl := (Sure.t2 sureElem sureInt) _ _ _ hu
       have w18_ := vt (vt hV12 hV13) hV14
       refine TA.onk (Hp.old w18_ w17_ (kp1 kp0) (oB1 ol0)) fun o34_ => ?_
       refine TA.tp 7 (.tuple #[.agg #[vi r12.1.key.pfs, vi r12.1.key.obj, vi r12.1.key.off, vi r12.1.made, vi r12.1.gone, .string r12.1.val], vi r12.2]) rfl (fun _ => by kernel_rfl) (fun _ _ _ h => h) o34_ ?_
       refine TA.tp 8 (.agg #[vi r12.1.key.pfs, vi r12.1.key.obj, vi r12.1.key.off, vi r12.1.made, vi r12.1.gone, .string r12.1.val]) rfl (fun _ => by kernel_rfl) (fun _ _ _ h => h) o34_ ?_
       refine TA.tp 9 (vi r12.2) rfl (fun _ => by kernel_rfl) (fun _ _ _ h => h) o34_ ?_
       refine TA.all [10] (by kernel_rfl) rfl ⟨?_, trivial⟩
       refine TA.br rfl (W1.np 28 [vi 0, vi 0, vi 0, vi 0, vi 0, .string (ByteArray.mk #[])] (fun _ => by kernel_rfl) (fun b3 => ?_))
       refine TA.on (Hp.old w18_ w17_ (dr1 (kp1 kp0)) (oB1 ol0)) ?_
       refine TA.all [11] (by kernel_rfl) rfl ⟨?_, trivial⟩
       refine TA.br rfl (W1.st 0 v9_ ((box b3 28 v9_) :: i1_ :: []) v9_ (by rfl) rfl rfl rfl rfl rfl rfl (fun _ => by kernel_rfl) ?_)
       refine TA.onk (Hp.old w18_ w17_ (dr1 (kp1 kp0)) (oB1 ol0)) fun o35_ => ?_
       refine TA.tp 12 (vi r12.2) rfl (fun _ => by kernel_rfl) (fun _ _ _ h => h) o35_ ?_
       refine TA.done (by kernel_rfl) ?_
       exact fun a w' hf hh => ⟨b3, V14, w18_, (Fr.sel hf rfl), (hh.sub (kp1 (kp1 kp0)))⟩
      refine TA.br rfl (W1.np 28 [vi 0, vi 0, vi 0, vi 0, vi 0, .string (ByteArray.mk #[])] (fun _ => by kernel_rfl) (fun b3 => ?_))
      refine TA.on (Hp.old (vt hV12 hV13) w17_ (dr1 (kp1 kp0)) (oB1 ol0)) ?_
      refine TA.all [6] (by kernel_rfl) rfl ⟨?_, trivial⟩
      refine TA.br rfl (W1.call (vT2 (vAg eElem) (vSc eInt)) r12 34 #[a10_, .agg #[vi r11.key.pfs, vi r11.key.obj, vi r11.key.off, vi r11.made]] (by kernel_rfl) (fun _ => by kernel_rfl) (fun w' hh => find_Spot_l F r2 r11 r12 hb13 w' A2 c2 (SlOk.mono (SlOk.mono hs2 (vt (made_le _ _) (vt (vt (vt (vt (vt (vt hV3 hV6) hV7) hV8) hV11) hV12) hV13))) hh.view)) ?_)
      intro u V14 hV14 hu
      obtain rfl := (Sure.t2 sureElem sureInt) _ _ _ hu
      have w19_ := vt (vt hV12 hV13) hV14
      refine TA.onk (Hp.old w19_ w17_ (dr1 (kp1 kp0)) (oB1 ol0)) fun o36_ => ?_
      refine TA.tp 7 (.tuple #[.agg #[vi r12.1.key.pfs, vi r12.1.key.obj, vi r12.1.key.off, vi r12.1.made, vi r12.1.gone, .string r12.1.val], vi r12.2]) rfl (fun _ => by kernel_rfl) (fun _ _ _ h => h) o36_ ?_
      refine TA.tp 8 (.agg #[vi r12.1.key.pfs, vi r12.1.key.obj, vi r12.1.key.off, vi r12.1.made, vi r12.1.gone, .string r12.1.val]) rfl (fun _ => by kernel_rfl) (fun _ _ _ h => h) o36_ ?_
      refine TA.tp 9 (vi r12.2) rfl (fun _ => by kernel_rfl) (fun _ _ _ h => h) o36_ ?_
      refine TA.all [11] (by kernel_rfl) rfl ⟨?_, trivial⟩
      refine TA.br rfl (W1.st 0 v9_ ((box b3 28 v9_) :: i1_ :: []) v9_ (by rfl) rfl rfl rfl rfl rfl rfl (fun _ => by kernel_rfl) ?_)
      refine TA.onk (Hp.old w19_ w17_ (dr1 (kp1 kp0)) (oB1 ol0)) fun o37_ => ?_
      refine TA.tp 12 (vi r12.2) rfl (fun _ => by kernel_rfl) (fun _ _ _ h => h) o37_ ?_
      refine TA.done (by kernel_rfl) ?_
      exact fun a w' hf hh => ⟨b3, V14, w19_, (Fr.sel hf rfl), (hh.sub (kp1 (kp1 kp0)))⟩
     refine TA.br rfl (W1.np 28 [vi 0, vi 0, vi 0, vi 0, vi 0, .string (ByteArray.mk #[])] (fun _ => by kernel_rfl) (fun b3 => ?_))
     refine TA.on (Hp.old hV12 w17_ (dr1 (kp1 kp0)) (oB1 ol0)) ?_
     refine TA.all [5] (by kernel_rfl) rfl ⟨?_, trivial⟩
     refine TA.br rfl (W1.call (vAg eSpot) r11 22 #[a11_] (by kernel_rfl) (fun _ => by kernel_rfl) (fun w' hh => elem_Spot_l e1 r11 hb12 w' ) ?_)
     intro u V13 hV13 hu
     obtain rfl := sureSpot _ _ _ hu
     refine TA.on (Hp.old (vt hV12 hV13) w17_ (dr1 (kp1 kp0)) (oB1 ol0)) ?_
     refine TA.all [6] (by kernel_rfl) rfl ⟨?_, trivial⟩
     refine TA.br rfl (W1.call (vT2 (vAg eElem) (vSc eInt)) r12 34 #[a10_, .agg #[vi r11.key.pfs, vi r11.key.obj, vi r11.key.off, vi r11.made]] (by kernel_rfl) (fun _ => by kernel_rfl) (fun w' hh => find_Spot_l F r2 r11 r12 hb13 w' A2 c2 (SlOk.mono (SlOk.mono hs2 (vt (made_le _ _) (vt (vt (vt (vt (vt (vt hV3 hV6) hV7) hV8) hV11) hV12) hV13))) hh.view)) ?_)
     intro u V14 hV14 hu
     obtain rfl := (Sure.t2 sureElem sureInt) _ _ _ hu
     have w20_ := vt (vt hV12 hV13) hV14
     refine TA.onk (Hp.old w20_ w17_ (dr1 (kp1 kp0)) (oB1 ol0)) fun o38_ => ?_
     refine TA.tp 7 (.tuple #[.agg #[vi r12.1.key.pfs, vi r12.1.key.obj, vi r12.1.key.off, vi r12.1.made, vi r12.1.gone, .string r12.1.val], vi r12.2]) rfl (fun _ => by kernel_rfl) (fun _ _ _ h => h) o38_ ?_
     refine TA.tp 8 (.agg #[vi r12.1.key.pfs, vi r12.1.key.obj, vi r12.1.key.off, vi r12.1.made, vi r12.1.gone, .string r12.1.val]) rfl (fun _ => by kernel_rfl) (fun _ _ _ h => h) o38_ ?_
     refine TA.tp 9 (vi r12.2) rfl (fun _ => by kernel_rfl) (fun _ _ _ h => h) o38_ ?_
     refine TA.all [11] (by kernel_rfl) rfl ⟨?_, trivial⟩
     refine TA.br rfl (W1.st 0 v9_ ((box b3 28 v9_) :: i1_ :: []) v9_ (by rfl) rfl rfl rfl rfl rfl rfl (fun _ => by kernel_rfl) ?_)
     refine TA.onk (Hp.old w20_ w17_ (dr1 (kp1 kp0)) (oB1 ol0)) fun o39_ => ?_
     refine TA.tp 12 (vi r12.2) rfl (fun _ => by kernel_rfl) (fun _ _ _ h => h) o39_ ?_
     refine TA.done (by kernel_rfl) ?_
     exact fun a w' hf hh => ⟨b3, V14, w20_, (Fr.sel hf rfl), (hh.sub (kp1 (kp1 kp0)))⟩
    refine TA.br rfl (W1.np 28 [vi 0, vi 0, vi 0, vi 0, vi 0, .string (ByteArray.mk #[])] (fun _ => by kernel_rfl) (fun b3 => ?_))
    refine TA.on (Hp.old hV12 w17_ (dr1 (kp1 kp0)) (oB1 ol0)) ?_
    refine TA.all [4] (by kernel_rfl) rfl ⟨?_, trivial⟩
    let a12_ : Value := .agg #[vi e1.key.pfs, vi e1.key.obj, vi e1.key.off, vi e1.made, vi e1.gone, .string e1.val]
    refine TA.br rfl (W1.look a12_ (by kernel_rfl) (fun w' hh => exec_loadN (cs := [vi e1.key.pfs, vi e1.key.obj, vi e1.key.off, vi e1.made, vi e1.gone, .string e1.val]) rfl rfl (by kernel_rfl) (by kernel_rfl) (fun j u hj => (hh.cell_view (SlOk.cellF (E := eElem) (SlOk.mono hs7 (vt (made_le _ _) vr)) hi3 j (fun _ _ _ h => h) hj)))) ?_)
    refine TA.on (Hp.old hV12 w17_ (dr1 (kp1 kp0)) (oB1 ol0)) ?_
    refine TA.all [5] (by kernel_rfl) rfl ⟨?_, trivial⟩
    refine TA.br rfl (W1.call (vAg eSpot) r11 22 #[a12_] (by kernel_rfl) (fun _ => by kernel_rfl) (fun w' hh => elem_Spot_l e1 r11 hb12 w' ) ?_)
    intro u V13 hV13 hu
    obtain rfl := sureSpot _ _ _ hu
    refine TA.on (Hp.old (vt hV12 hV13) w17_ (dr1 (kp1 kp0)) (oB1 ol0)) ?_
    refine TA.all [6] (by kernel_rfl) rfl ⟨?_, trivial⟩
    refine TA.br rfl (W1.call (vT2 (vAg eElem) (vSc eInt)) r12 34 #[a10_, .agg #[vi r11.key.pfs, vi r11.key.obj, vi r11.key.off, vi r11.made]] (by kernel_rfl) (fun _ => by kernel_rfl) (fun w' hh => find_Spot_l F r2 r11 r12 hb13 w' A2 c2 (SlOk.mono (SlOk.mono hs2 (vt (made_le _ _) (vt (vt (vt (vt (vt (vt hV3 hV6) hV7) hV8) hV11) hV12) hV13))) hh.view)) ?_)
    intro u V14 hV14 hu
    obtain rfl := (Sure.t2 sureElem sureInt) _ _ _ hu
    have w21_ := vt (vt hV12 hV13) hV14
    refine TA.onk (Hp.old w21_ w17_ (dr1 (kp1 kp0)) (oB1 ol0)) fun o40_ => ?_
    refine TA.tp 7 (.tuple #[.agg #[vi r12.1.key.pfs, vi r12.1.key.obj, vi r12.1.key.off, vi r12.1.made, vi r12.1.gone, .string r12.1.val], vi r12.2]) rfl (fun _ => by kernel_rfl) (fun _ _ _ h => h) o40_ ?_
    refine TA.tp 8 (.agg #[vi r12.1.key.pfs, vi r12.1.key.obj, vi r12.1.key.off, vi r12.1.made, vi r12.1.gone, .string r12.1.val]) rfl (fun _ => by kernel_rfl) (fun _ _ _ h => h) o40_ ?_
    refine TA.tp 9 (vi r12.2) rfl (fun _ => by kernel_rfl) (fun _ _ _ h => h) o40_ ?_
    refine TA.all [11] (by kernel_rfl) rfl ⟨?_, trivial⟩
    refine TA.br rfl (W1.st 0 v9_ ((box b3 28 v9_) :: i1_ :: []) v9_ (by rfl) rfl rfl rfl rfl rfl rfl (fun _ => by kernel_rfl) ?_)
    refine TA.onk (Hp.old w21_ w17_ (dr1 (kp1 kp0)) (oB1 ol0)) fun o41_ => ?_
    refine TA.tp 12 (vi r12.2) rfl (fun _ => by kernel_rfl) (fun _ _ _ h => h) o41_ ?_
    refine TA.done (by kernel_rfl) ?_
    exact fun a w' hf hh => ⟨b3, V14, w21_, (Fr.sel hf rfl), (hh.sub (kp1 (kp1 kp0)))⟩
   refine TA.br rfl (W1.np 28 [vi 0, vi 0, vi 0, vi 0, vi 0, .string (ByteArray.mk #[])] (fun _ => by kernel_rfl) (fun b3 => ?_))
   refine TA.on (Hp.old hV12 w17_ (dr1 (kp1 kp0)) (oB1 ol0)) ?_
   refine TA.all [3] (by kernel_rfl) rfl ⟨?_, trivial⟩
   obtain ⟨hi1, hi2, hi3⟩ := idx_some hb11
   refine TA.br rfl (W1.look (.pointer (some ((sadr A7).add (r9.toNat * 6)))) (by kernel_rfl) (fun w' hh => exec_indexAddr (e := 28) (s := 6) rfl rfl rfl (by kernel_rfl) (by kernel_rfl) hi1 hi2 ((SlOk.mono hs7 (vt (made_le _ _) vr)).some_ hi3 (by decide))) ?_)
   refine TA.on (Hp.old hV12 w17_ (dr1 (kp1 kp0)) (oB1 ol0)) ?_
   refine TA.all [4] (by kernel_rfl) rfl ⟨?_, trivial⟩
   let a13_ : Value := .agg #[vi e1.key.pfs, vi e1.key.obj, vi e1.key.off, vi e1.made, vi e1.gone, .string e1.val]
   refine TA.br rfl (W1.look a13_ (by kernel_rfl) (fun w' hh => exec_loadN (cs := [vi e1.key.pfs, vi e1.key.obj, vi e1.key.off, vi e1.made, vi e1.gone, .string e1.val]) rfl rfl (by kernel_rfl) (by kernel_rfl) (fun j u hj => (hh.cell_view (SlOk.cellF (E := eElem) (SlOk.mono hs7 (vt (made_le _ _) vr)) hi3 j (fun _ _ _ h => h) hj)))) ?_)
   refine TA.on (Hp.old hV12 w17_ (dr1 (kp1 kp0)) (oB1 ol0)) ?_
   refine TA.all [5] (by kernel_rfl) rfl ⟨?_, trivial⟩
   refine TA.br rfl (W1.call (vAg eSpot) r11 22 #[a13_] (by kernel_rfl) (fun _ => by kernel_rfl) (fun w' hh => elem_Spot_l e1 r11 hb12 w' ) ?_)
   intro u V13 hV13 hu
   obtain rfl := sureSpot _ _ _ hu
   refine TA.on (Hp.old (vt hV12 hV13) w17_ (dr1 (kp1 kp0)) (oB1 ol0)) ?_
   refine TA.all [6] (by kernel_rfl) rfl ⟨?_, trivial⟩
   refine TA.br rfl (W1.call (vT2 (vAg eElem) (vSc eInt)) r12 34 #[a10_, .agg #[vi r11.key.pfs, vi r11.key.obj, vi r11.key.off, vi r11.made]] (by kernel_rfl) (fun _ => by kernel_rfl) (fun w' hh => find_Spot_l F r2 r11 r12 hb13 w' A2 c2 (SlOk.mono (SlOk.mono hs2 (vt (made_le _ _) (vt (vt (vt (vt (vt (vt hV3 hV6) hV7) hV8) hV11) hV12) hV13))) hh.view)) ?_)
   intro u V14 hV14 hu
   obtain rfl := (Sure.t2 sureElem sureInt) _ _ _ hu
   have w22_ := vt (vt hV12 hV13) hV14
   refine TA.onk (Hp.old w22_ w17_ (dr1 (kp1 kp0)) (oB1 ol0)) fun o42_ => ?_
   refine TA.tp 7 (.tuple #[.agg #[vi r12.1.key.pfs, vi r12.1.key.obj, vi r12.1.key.off, vi r12.1.made, vi r12.1.gone, .string r12.1.val], vi r12.2]) rfl (fun _ => by kernel_rfl) (fun _ _ _ h => h) o42_ ?_
   refine TA.tp 8 (.agg #[vi r12.1.key.pfs, vi r12.1.key.obj, vi r12.1.key.off, vi r12.1.made, vi r12.1.gone, .string r12.1.val]) rfl (fun _ => by kernel_rfl) (fun _ _ _ h => h) o42_ ?_
   refine TA.tp 9 (vi r12.2) rfl (fun _ => by kernel_rfl) (fun _ _ _ h => h) o42_ ?_
   refine TA.all [11] (by kernel_rfl) rfl ⟨?_, trivial⟩
   refine TA.br rfl (W1.st 0 v9_ ((box b3 28 v9_) :: i1_ :: []) v9_ (by rfl) rfl rfl rfl rfl rfl rfl (fun _ => by kernel_rfl) ?_)
   refine TA.onk (Hp.old w22_ w17_ (dr1 (kp1 kp0)) (oB1 ol0)) fun o43_ => ?_
   refine TA.tp 12 (vi r12.2) rfl (fun _ => by kernel_rfl) (fun _ _ _ h => h) o43_ ?_
   refine TA.done (by kernel_rfl) ?_
   exact fun a w' hf hh => ⟨b3, V14, w22_, (Fr.sel hf rfl), (hh.sub (kp1 (kp1 kp0)))⟩
  refine TA.br rfl (W1.np 28 [vi 0, vi 0, vi 0, vi 0, vi 0, .string (ByteArray.mk #[])] (fun _ => by kernel_rfl) (fun b3 => ?_))
  refine TA.on (Hp.old vr w17_ (dr1 (kp1 kp0)) (oB1 ol0)) ?_
  refine TA.all [1] (by kernel_rfl) rfl ⟨?_, trivial⟩
  refine TA.br rfl (W1.call (vSc (eList eElem)) r10 37 #[] (by kernel_rfl) (fun _ => by kernel_rfl) (fun w' hh => annalkeep_full_l F r10 hb10 w' ) ?_)
  intro u V12 hV12 hu
  obtain ⟨A7, c7, rfl, hs7⟩ := vlist_elim hu
  refine TA.on (Hp.old hV12 w17_ (dr1 (kp1 kp0)) (oB1 ol0)) ?_
  refine TA.all [3] (by kernel_rfl) rfl ⟨?_, trivial⟩
  obtain ⟨hi1, hi2, hi3⟩ := idx_some hb11
  refine TA.br rfl (W1.look (.pointer (some ((sadr A7).add (r9.toNat * 6)))) (by kernel_rfl) (fun w' hh => exec_indexAddr (e := 28) (s := 6) rfl rfl rfl (by kernel_rfl) (by kernel_rfl) hi1 hi2 ((SlOk.mono hs7 (vt (made_le _ _) vr)).some_ hi3 (by decide))) ?_)
  refine TA.on (Hp.old hV12 w17_ (dr1 (kp1 kp0)) (oB1 ol0)) ?_
  refine TA.all [4] (by kernel_rfl) rfl ⟨?_, trivial⟩
  let a14_ : Value := .agg #[vi e1.key.pfs, vi e1.key.obj, vi e1.key.off, vi e1.made, vi e1.gone, .string e1.val]
  refine TA.br rfl (W1.look a14_ (by kernel_rfl) (fun w' hh => exec_loadN (cs := [vi e1.key.pfs, vi e1.key.obj, vi e1.key.off, vi e1.made, vi e1.gone, .string e1.val]) rfl rfl (by kernel_rfl) (by kernel_rfl) (fun j u hj => (hh.cell_view (SlOk.cellF (E := eElem) (SlOk.mono hs7 (vt (made_le _ _) vr)) hi3 j (fun _ _ _ h => h) hj)))) ?_)
  refine TA.on (Hp.old hV12 w17_ (dr1 (kp1 kp0)) (oB1 ol0)) ?_
  refine TA.all [5] (by kernel_rfl) rfl ⟨?_, trivial⟩
  refine TA.br rfl (W1.call (vAg eSpot) r11 22 #[a14_] (by kernel_rfl) (fun _ => by kernel_rfl) (fun w' hh => elem_Spot_l e1 r11 hb12 w' ) ?_)
  intro u V13 hV13 hu
  obtain rfl := sureSpot _ _ _ hu
  refine TA.on (Hp.old (vt hV12 hV13) w17_ (dr1 (kp1 kp0)) (oB1 ol0)) ?_
  refine TA.all [6] (by kernel_rfl) rfl ⟨?_, trivial⟩
  refine TA.br rfl (W1.call (vT2 (vAg eElem) (vSc eInt)) r12 34 #[a10_, .agg #[vi r11.key.pfs, vi r11.key.obj, vi r11.key.off, vi r11.made]] (by kernel_rfl) (fun _ => by kernel_rfl) (fun w' hh => find_Spot_l F r2 r11 r12 hb13 w' A2 c2 (SlOk.mono (SlOk.mono hs2 (vt (made_le _ _) (vt (vt (vt (vt (vt (vt hV3 hV6) hV7) hV8) hV11) hV12) hV13))) hh.view)) ?_)
  intro u V14 hV14 hu
  obtain rfl := (Sure.t2 sureElem sureInt) _ _ _ hu
  have w23_ := vt (vt hV12 hV13) hV14
  refine TA.onk (Hp.old w23_ w17_ (dr1 (kp1 kp0)) (oB1 ol0)) fun o44_ => ?_
  refine TA.tp 7 (.tuple #[.agg #[vi r12.1.key.pfs, vi r12.1.key.obj, vi r12.1.key.off, vi r12.1.made, vi r12.1.gone, .string r12.1.val], vi r12.2]) rfl (fun _ => by kernel_rfl) (fun _ _ _ h => h) o44_ ?_
  refine TA.tp 8 (.agg #[vi r12.1.key.pfs, vi r12.1.key.obj, vi r12.1.key.off, vi r12.1.made, vi r12.1.gone, .string r12.1.val]) rfl (fun _ => by kernel_rfl) (fun _ _ _ h => h) o44_ ?_
  refine TA.tp 9 (vi r12.2) rfl (fun _ => by kernel_rfl) (fun _ _ _ h => h) o44_ ?_
  refine TA.all [11] (by kernel_rfl) rfl ⟨?_, trivial⟩
  refine TA.br rfl (W1.st 0 v9_ ((box b3 28 v9_) :: i1_ :: []) v9_ (by rfl) rfl rfl rfl rfl rfl rfl (fun _ => by kernel_rfl) ?_)
  refine TA.onk (Hp.old w23_ w17_ (dr1 (kp1 kp0)) (oB1 ol0)) fun o45_ => ?_
  refine TA.tp 12 (vi r12.2) rfl (fun _ => by kernel_rfl) (fun _ _ _ h => h) o45_ ?_
  refine TA.done (by kernel_rfl) ?_
  exact fun a w' hf hh => ⟨b3, V14, w23_, (Fr.sel hf rfl), (hh.sub (kp1 (kp1 kp0)))⟩
 rintro a w' ⟨b3, V15, hV15, hf, hh⟩
 let i2_ : HObj := box b3 28 v9_
 let t3_ : List HObj := i2_ :: i1_ :: []
 refine (?_ : T 103 w V15 t3_ [(0, vi r9), (3, pB b1 0), (5, vi r12.2), (11, pB b3 0)] _) a w' hf hh
 clear hf hh
 refine T.seq ?_
 refine T.held t3_ (by kernel_rfl) ?_
 have w24_ := vt (vt (vt (vt (vt (vt (vt hV1 hV2) hV3) hV6) hV7) hV8) hV11) hV15
 refine TA.keep (Hp.old vr w24_ (kp1 (kp1 kp0)) (oB1 (oB1 ol0))) fun o46_ => ?_
 refine TA.tk 0 a10_ rfl (by kernel_rfl) (fun _ _ _ h => h) o46_ (ldN 1 rfl rfl (fun _ => by kernel_rfl) (by rfl) rfl) ?_
 refine TA.tp 2 (vi r9) rfl (fun _ => by kernel_rfl) (fun _ _ _ h => h) o46_ ?_
 refine TA.all [1] (by kernel_rfl) rfl ⟨?_, trivial⟩
 obtain ⟨r13, hb14, hF⟩ := ob hF
 refine TA.br rfl (W1.call (vSc (eList eElem)) r13 37 #[] (by kernel_rfl) (fun _ => by kernel_rfl) (fun w' hh => annalkeep_full_l F r13 hb14 w' ) ?_)
 intro u V16 hV16 hu
 obtain ⟨A8, c8, rfl, hs8⟩ := vlist_elim hu
 refine TA.on (Hp.old hV16 w24_ (kp1 (kp1 kp0)) (oB1 (oB1 ol0))) ?_
 refine TA.all [3] (by kernel_rfl) rfl ⟨?_, trivial⟩
 obtain ⟨e2, hb15, hF⟩ := ob hF
 obtain ⟨hi4, hi5, hi6⟩ := idx_some hb15
 refine TA.br rfl (W1.look (.pointer (some ((sadr A8).add (r9.toNat * 6)))) (by kernel_rfl) (fun w' hh => exec_indexAddr (e := 28) (s := 6) rfl rfl rfl (by kernel_rfl) (by kernel_rfl) hi4 hi5 ((SlOk.mono hs8 (vt (made_le _ _) vr)).some_ hi6 (by decide))) ?_)
 refine TA.on (Hp.old hV16 w24_ (kp1 (kp1 kp0)) (oB1 (oB1 ol0))) ?_
 refine TA.all [4] (by kernel_rfl) rfl ⟨?_, trivial⟩
 let a15_ : Value := .agg #[vi e2.key.pfs, vi e2.key.obj, vi e2.key.off, vi e2.made, vi e2.gone, .string e2.val]
 refine TA.br rfl (W1.look a15_ (by kernel_rfl) (fun w' hh => exec_loadN (cs := [vi e2.key.pfs, vi e2.key.obj, vi e2.key.off, vi e2.made, vi e2.gone, .string e2.val]) rfl rfl (by kernel_rfl) (by kernel_rfl) (fun j u hj => (hh.cell_view (SlOk.cellF (E := eElem) (SlOk.mono hs8 (vt (made_le _ _) vr)) hi6 j (fun _ _ _ h => h) hj)))) ?_)
 refine TA.on (Hp.old hV16 w24_ (kp1 (kp1 kp0)) (oB1 (oB1 ol0))) ?_
 refine TA.all [5] (by kernel_rfl) rfl ⟨?_, trivial⟩
 obtain ⟨r14, hb16, hF⟩ := ob hF
 refine TA.br rfl (W1.call (vAg eSpot) r14 22 #[a15_] (by kernel_rfl) (fun _ => by kernel_rfl) (fun w' hh => elem_Spot_l e2 r14 hb16 w' ) ?_)
 intro u V17 hV17 hu
 obtain rfl := sureSpot _ _ _ hu
 refine TA.on (Hp.old (vt hV16 hV17) w24_ (kp1 (kp1 kp0)) (oB1 (oB1 ol0))) ?_
 refine TA.all [6] (by kernel_rfl) rfl ⟨?_, trivial⟩
 obtain ⟨r15, hb17, hF⟩ := ob hF
 refine TA.br rfl (W1.call (vT2 (vSc (eList eElem)) (vSc eInt)) r15 32 #[a10_, .agg #[vi r14.key.pfs, vi r14.key.obj, vi r14.key.off, vi r14.made], vi 1000] (by kernel_rfl) (fun _ => by kernel_rfl) (fun w' hh => find_From_l F r2 r14 1000 r15 hb17 w' A2 c2 (SlOk.mono (SlOk.mono hs2 (vt (made_le _ _) (vt (vt (vt (vt (vt (vt (vt hV3 hV6) hV7) hV8) hV11) hV15) hV16) hV17))) hh.view)) ?_)
 intro u V18 hV18 hu
 obtain ⟨u8, u9, rfl, hu8, hu9⟩ := vT2_elim hu
 obtain ⟨A9, c9, rfl, hs9⟩ := vlist_elim hu8
 obtain rfl := sureInt _ _ _ hu9
 have w25_ := vt (vt hV16 hV17) hV18
 refine TA.onk (Hp.old w25_ w24_ (kp1 (kp1 kp0)) (oB1 (oB1 ol0))) fun o47_ => ?_
 refine TA.tp 7 (.tuple #[.slice A9 r15.1.length c9, vi r15.2]) rfl (fun _ => by kernel_rfl) (fun _ _ _ h => h) o47_ ?_
 refine TA.tp 8 (.slice A9 r15.1.length c9) rfl (fun _ => by kernel_rfl) (fun _ _ _ h => h) o47_ ?_
 refine TA.tp 9 (vi r15.2) rfl (fun _ => by kernel_rfl) (fun _ _ _ h => h) o47_ ?_
 refine TA.tp 10 (.slice A9 r15.1.length c9) rfl (fun _ => by kernel_rfl) (fun _ _ _ h => h) o47_ ?_
 refine TA.tp 11 (vi r15.2) rfl (fun _ => by kernel_rfl) (fun _ _ _ h => h) o47_ ?_
 refine TA.done (by kernel_rfl) ?_
 obtain ⟨z2, hX2, hF⟩ := ob hF
 refine T.cut (fun a w' => ∃ (V19 : View), View.le V18 V19 ∧ Fr 103 [(2, .bool z2)] a ∧ Hp w V19 [] w') ?_ ?_
 ·
  refine T.held t3_ (by kernel_rfl) ?_
  have w26_ := vt (vt (vt (vt (vt (vt (vt (vt (vt (vt hV1 hV2) hV3) hV6) hV7) hV8) hV11) hV15) hV16) hV17) hV18
  refine TA.keep (Hp.old vr w26_ (kp1 (kp1 kp0)) (oB1 (oB1 ol0))) fun o48_ => ?_
  refine TA.tp 0 (vi r12.2) rfl (fun _ => by kernel_rfl) (fun _ _ _ h => h) o48_ ?_
  refine TA.tp 1 (.bool (r12.2 == 0)) rfl (fun _ => by kernel_rfl) (fun _ _ _ h => h) o48_ ?_
  refine TA.tp 2 (.bool (r12.2 == 0)) rfl (fun _ => by kernel_rfl) (fun _ _ _ h => h) o48_ ?_
  cases hg6 : (r12.2 == 0)
  ·
   rw [hg6, cond_false] at hX2
   refine TA.keep (Hp.old vr w26_ (kp1 (kp1 kp0)) (oB1 (oB1 ol0))) fun o49_ => ?_
   refine TA.takeNo 3 rfl (by kernel_rfl) (by kernel_rfl) (by kernel_rfl) (fun _ _ _ h => h) o49_ (by kernel_rfl) (by kernel_rfl) ?_
   refine TA.takeNo 4 rfl (by kernel_rfl) (by kernel_rfl) (by kernel_rfl) (fun _ _ _ h => h) o49_ (by kernel_rfl) (by kernel_rfl) ?_
   refine TA.takeNo 5 rfl (by kernel_rfl) (by kernel_rfl) (by kernel_rfl) (fun _ _ _ h => h) o49_ (by kernel_rfl) (by kernel_rfl) ?_
   refine TA.takeNo 6 rfl (by kernel_rfl) (by kernel_rfl) (by kernel_rfl) (fun _ _ _ h => h) o49_ (by kernel_rfl) (by kernel_rfl) ?_
   refine TA.takeNo 7 rfl (by kernel_rfl) (by kernel_rfl) (by kernel_rfl) (fun _ _ _ h => h) o49_ (by kernel_rfl) (by kernel_rfl) ?_
   refine TA.takeNo 8 rfl (by kernel_rfl) (by kernel_rfl) (by kernel_rfl) (fun _ _ _ h => h) o49_ (by kernel_rfl) (by kernel_rfl) ?_
   refine TA.tp 9 (.bool false) rfl (fun _ => by kernel_rfl) (fun _ _ _ h => h) o49_ ?_
   refine TA.tp 10 (.bool false) rfl (fun _ => by kernel_rfl) (fun _ _ _ h => h) o49_ ?_
   refine TA.takeNo 11 rfl (by kernel_rfl) (by kernel_rfl) (by kernel_rfl) (fun _ _ _ h => h) o49_ (by kernel_rfl) (by kernel_rfl) ?_
   refine TA.takeNo 12 rfl (by kernel_rfl) (by kernel_rfl) (by kernel_rfl) (fun _ _ _ h => h) o49_ (by kernel_rfl) (by kernel_rfl) ?_
   refine TA.tp 13 (.bool false) rfl (fun _ => by kernel_rfl) (fun _ _ _ h => h) o49_ ?_
   refine TA.tp 14 (.bool false) rfl (fun _ => by kernel_rfl) (fun _ _ _ h => h) o49_ ?_
   refine TA.takeNo 15 rfl (by kernel_rfl) (by kernel_rfl) (by kernel_rfl) (fun _ _ _ h => h) o49_ (by kernel_rfl) (by kernel_rfl) ?_
   refine TA.takeNo 16 rfl (by kernel_rfl) (by kernel_rfl) (by kernel_rfl) (fun _ _ _ h => h) o49_ (by kernel_rfl) (by kernel_rfl) ?_
   refine TA.takeNo 17 rfl (by kernel_rfl) (by kernel_rfl) (by kernel_rfl) (fun _ _ _ h => h) o49_ (by kernel_rfl) (by kernel_rfl) ?_
   refine TA.takeNo 18 rfl (by kernel_rfl) (by kernel_rfl) (by kernel_rfl) (fun _ _ _ h => h) o49_ (by kernel_rfl) (by kernel_rfl) ?_
   refine TA.takeNo 19 rfl (by kernel_rfl) (by kernel_rfl) (by kernel_rfl) (fun _ _ _ h => h) o49_ (by kernel_rfl) (by kernel_rfl) ?_
   refine TA.tp 20 (.bool false) rfl (fun _ => by kernel_rfl) (fun _ _ _ h => h) o49_ ?_
   refine TA.tp 21 (.bool false) rfl (fun _ => by kernel_rfl) (fun _ _ _ h => h) o49_ ?_
   refine TA.done (by kernel_rfl) ?_
   cases hX2
   exact fun a w' hf hh => ⟨V18, vr, (Fr.sel hf rfl), (hh.sub (dr1 (dr1 kp0)))⟩
  rw [hg6, cond_true] at hX2
  refine TA.keep (Hp.old vr w26_ (kp1 (kp1 kp0)) (oB1 (oB1 ol0))) fun o50_ => ?_
  refine TA.tk 3 (.agg #[vi r12.1.key.pfs, vi r12.1.key.obj, vi r12.1.key.off, vi r12.1.made, vi r12.1.gone, .string r12.1.val]) rfl (by kernel_rfl) (fun _ _ _ h => h) o50_ (ldN 0 rfl rfl (fun _ => by kernel_rfl) (by rfl) rfl) ?_
  refine TA.tp 5 (vi r9) rfl (fun _ => by kernel_rfl) (fun _ _ _ h => h) o50_ ?_
  refine TA.all [4] (by kernel_rfl) rfl ⟨?_, trivial⟩
  obtain ⟨r16, hb18, hX2⟩ := ob hX2
  refine TA.br rfl (W1.call (vSc (eList eElem)) r16 37 #[] (by kernel_rfl) (fun _ => by kernel_rfl) (fun w' hh => annalkeep_full_l F r16 hb18 w' ) ?_)
  intro u V20 hV20 hu
  obtain ⟨A10, c10, rfl, hs10⟩ := vlist_elim hu
  refine TA.on (Hp.old hV20 w26_ (kp1 (kp1 kp0)) (oB1 (oB1 ol0))) ?_
  refine TA.all [6] (by kernel_rfl) rfl ⟨?_, trivial⟩
  obtain ⟨e3, hb19, hX2⟩ := ob hX2
  obtain ⟨hi7, hi8, hi9⟩ := idx_some hb19
  refine TA.br rfl (W1.look (.pointer (some ((sadr A10).add (r9.toNat * 6)))) (by kernel_rfl) (fun w' hh => exec_indexAddr (e := 28) (s := 6) rfl rfl rfl (by kernel_rfl) (by kernel_rfl) hi7 hi8 ((SlOk.mono hs10 (vt (made_le _ _) vr)).some_ hi9 (by decide))) ?_)
  refine TA.on (Hp.old hV20 w26_ (kp1 (kp1 kp0)) (oB1 (oB1 ol0))) ?_
  refine TA.all [7] (by kernel_rfl) rfl ⟨?_, trivial⟩
  refine TA.br rfl (W1.look (.agg #[vi e3.key.pfs, vi e3.key.obj, vi e3.key.off, vi e3.made, vi e3.gone, .string e3.val]) (by kernel_rfl) (fun w' hh => exec_loadN (cs := [vi e3.key.pfs, vi e3.key.obj, vi e3.key.off, vi e3.made, vi e3.gone, .string e3.val]) rfl rfl (by kernel_rfl) (by kernel_rfl) (fun j u hj => (hh.cell_view (SlOk.cellF (E := eElem) (SlOk.mono hs10 (vt (made_le _ _) vr)) hi9 j (fun _ _ _ h => h) hj)))) ?_)
  refine TA.onk (Hp.old hV20 w26_ (kp1 (kp1 kp0)) (oB1 (oB1 ol0))) fun o51_ => ?_
  refine TA.tk 8 (.bool (r12.1 == e3)) rfl (by kernel_rfl) (fun _ _ _ h => h) o51_ (fun w' hh => exec_eql_DElem r12.1 e3 w' rfl rfl rfl) ?_
  refine TA.tp 9 (.bool (r12.1 == e3)) rfl (fun _ => by kernel_rfl) (fun _ _ _ h => h) o51_ ?_
  refine TA.tp 10 (.bool (r12.1 == e3)) rfl (fun _ => by kernel_rfl) (fun _ _ _ h => h) o51_ ?_
  cases hg7 : (r12.1 == e3)
  ·
   rw [hg7, cond_false] at hX2
   refine TA.keep (Hp.old hV20 w26_ (kp1 (kp1 kp0)) (oB1 (oB1 ol0))) fun o52_ => ?_
   refine TA.takeNo 11 rfl (by kernel_rfl) (by kernel_rfl) (by kernel_rfl) (fun _ _ _ h => h) o52_ (by kernel_rfl) (by kernel_rfl) ?_
   refine TA.takeNo 12 rfl (by kernel_rfl) (by kernel_rfl) (by kernel_rfl) (fun _ _ _ h => h) o52_ (by kernel_rfl) (by kernel_rfl) ?_
   refine TA.tp 13 (.bool false) rfl (fun _ => by kernel_rfl) (fun _ _ _ h => h) o52_ ?_
   refine TA.tp 14 (.bool false) rfl (fun _ => by kernel_rfl) (fun _ _ _ h => h) o52_ ?_
   refine TA.takeNo 15 rfl (by kernel_rfl) (by kernel_rfl) (by kernel_rfl) (fun _ _ _ h => h) o52_ (by kernel_rfl) (by kernel_rfl) ?_
   refine TA.takeNo 16 rfl (by kernel_rfl) (by kernel_rfl) (by kernel_rfl) (fun _ _ _ h => h) o52_ (by kernel_rfl) (by kernel_rfl) ?_
   refine TA.takeNo 17 rfl (by kernel_rfl) (by kernel_rfl) (by kernel_rfl) (fun _ _ _ h => h) o52_ (by kernel_rfl) (by kernel_rfl) ?_
   refine TA.takeNo 18 rfl (by kernel_rfl) (by kernel_rfl) (by kernel_rfl) (fun _ _ _ h => h) o52_ (by kernel_rfl) (by kernel_rfl) ?_
   refine TA.takeNo 19 rfl (by kernel_rfl) (by kernel_rfl) (by kernel_rfl) (fun _ _ _ h => h) o52_ (by kernel_rfl) (by kernel_rfl) ?_
   refine TA.tp 20 (.bool false) rfl (fun _ => by kernel_rfl) (fun _ _ _ h => h) o52_ ?_
   refine TA.tp 21 (.bool false) rfl (fun _ => by kernel_rfl) (fun _ _ _ h => h) o52_ ?_
   refine TA.done (by kernel_rfl) ?_
   cases hX2
   exact fun a w' hf hh => ⟨V20, hV20, (Fr.sel hf rfl), (hh.sub (dr1 (dr1 kp0)))⟩
  rw [hg7, cond_true] at hX2
  refine TA.keep (Hp.old hV20 w26_ (kp1 (kp1 kp0)) (oB1 (oB1 ol0))) fun o53_ => ?_
  refine TA.tp 11 (vi r15.2) rfl (fun _ => by kernel_rfl) (fun _ _ _ h => h) o53_ ?_
  refine TA.tp 12 (.bool (r15.2 == 0)) rfl (fun _ => by kernel_rfl) (fun _ _ _ h => h) o53_ ?_
  refine TA.tp 13 (.bool (r15.2 == 0)) rfl (fun _ => by kernel_rfl) (fun _ _ _ h => h) o53_ ?_
  refine TA.tp 14 (.bool (r15.2 == 0)) rfl (fun _ => by kernel_rfl) (fun _ _ _ h => h) o53_ ?_
  cases hg8 : (r15.2 == 0)
  ·
   rw [hg8, cond_false] at hX2
   refine TA.keep (Hp.old hV20 w26_ (kp1 (kp1 kp0)) (oB1 (oB1 ol0))) fun o54_ => ?_
   refine TA.takeNo 15 rfl (by kernel_rfl) (by kernel_rfl) (by kernel_rfl) (fun _ _ _ h => h) o54_ (by kernel_rfl) (by kernel_rfl) ?_
   refine TA.takeNo 16 rfl (by kernel_rfl) (by kernel_rfl) (by kernel_rfl) (fun _ _ _ h => h) o54_ (by kernel_rfl) (by kernel_rfl) ?_
   refine TA.takeNo 17 rfl (by kernel_rfl) (by kernel_rfl) (by kernel_rfl) (fun _ _ _ h => h) o54_ (by kernel_rfl) (by kernel_rfl) ?_
   refine TA.takeNo 18 rfl (by kernel_rfl) (by kernel_rfl) (by kernel_rfl) (fun _ _ _ h => h) o54_ (by kernel_rfl) (by kernel_rfl) ?_
   refine TA.takeNo 19 rfl (by kernel_rfl) (by kernel_rfl) (by kernel_rfl) (fun _ _ _ h => h) o54_ (by kernel_rfl) (by kernel_rfl) ?_
   refine TA.tp 20 (.bool false) rfl (fun _ => by kernel_rfl) (fun _ _ _ h => h) o54_ ?_
   refine TA.tp 21 (.bool false) rfl (fun _ => by kernel_rfl) (fun _ _ _ h => h) o54_ ?_
   refine TA.done (by kernel_rfl) ?_
   cases hX2
   exact fun a w' hf hh => ⟨V20, hV20, (Fr.sel hf rfl), (hh.sub (dr1 (dr1 kp0)))⟩
  rw [hg8, cond_true] at hX2
  refine TA.keep (Hp.old hV20 w26_ (kp1 (kp1 kp0)) (oB1 (oB1 ol0))) fun o55_ => ?_
  refine TA.tp 15 (.slice A9 r15.1.length c9) rfl (fun _ => by kernel_rfl) (fun _ _ _ h => h) o55_ ?_
  refine TA.tp 16 (vi (r15.1.length : Int)) rfl (fun _ => by kernel_rfl) (fun _ _ _ h => h) o55_ ?_
  refine TA.tp 17 (vi r9) rfl (fun _ => by kernel_rfl) (fun _ _ _ h => h) o55_ ?_
  refine TA.tp 18 (vi (IntKind.i64.wrap (400 - r9))) rfl (fun _ => by kernel_rfl) (fun _ _ _ h => h) o55_ ?_
  refine TA.tp 19 (.bool ((r15.1.length : Int) == (IntKind.i64.wrap (400 - r9)))) rfl (fun _ => by kernel_rfl) (fun _ _ _ h => h) o55_ ?_
  refine TA.tp 20 (.bool ((r15.1.length : Int) == (IntKind.i64.wrap (400 - r9)))) rfl (fun _ => by kernel_rfl) (fun _ _ _ h => h) o55_ ?_
  refine TA.tp 21 (.bool ((r15.1.length : Int) == (IntKind.i64.wrap (400 - r9)))) rfl (fun _ => by kernel_rfl) (fun _ _ _ h => h) o55_ ?_
  refine TA.done (by kernel_rfl) ?_
  cases hX2
  exact fun a w' hf hh => ⟨V20, hV20, (Fr.sel hf rfl), (hh.sub (dr1 (dr1 kp0)))⟩
 rintro a w' ⟨V19, hV19, hf, hh⟩
 refine (?_ : T 103 w V19 [] [(2, .bool z2)] _) a w' hf hh
 clear hf hh
 cases hF
 refine T.ret rfl ?_
 exact T.ret1 rfl (ResIs.tmp rfl) fun w' hh => ⟨_, rfl, hh.below, (show _ from rfl)⟩
end Go.Proofs.Ytcmkdoahkncakaa
