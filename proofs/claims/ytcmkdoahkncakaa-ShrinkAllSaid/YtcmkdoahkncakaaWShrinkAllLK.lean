/- The Go functions of group WShrinkAll compute the pure functions of that group: written by walkgen.py. Condition of each: the pure function yields a result. -/
import Derived.Test.YtcmkdoahkncakaaSh2K
import Derived.Test.YtcmkdoahkncakaaShrLK
import Derived.Test.YtcmkdoahkncakaaPackLK
import Derived.Test.YtcmkdoahkncakaaTreeLK
import Derived.Test.YtcmkdoahkncakaaEqsLK
import Derived.Test.YtcmkdoahkncakaaClearK
import Derived.Test.YtcmkdoahkncakaaWShrinkAllFK
import Derived.Test.YtcmkdoahkncakaaEqLK
namespace Go.Proofs.Ytcmkdoahkncakaa
set_option linter.unusedVariables false
set_option linter.defProp false
def ipWShrinkAllL_1 := info_parts (P := Try.prog) (e := 28) (z := .agg #[.int .i64 0, .int .i64 0, .int .i64 0, .int .i64 0, .int .i64 0, .string (ByteArray.mk #[])]) (size := 6) (bytes := 56) (by kernel_rfl)
set_option maxRecDepth 100000 in
set_option maxHeartbeats 4000000 in
theorem annalkeep_ShrinkAll_l (F : Nat) (p0 : DTree) (p1 : (List Int)) (r : Bool) (hF : annalkeep_ShrinkAll F p0 p1 = some r) (w : World) (A1 : Option Addr) (c1 : Nat) (hs1 : SlOk (vw w) eNode A1 c1 p0.nodes) (A2 : Option Addr) (c2 : Nat) (hs2 : SlOk (vw w) eInt A2 c2 p1) :
 Calls Try.prog 5 #[.agg #[.int .i64 p0.root, .slice A1 p0.nodes.length c1], .slice A2 p1.length c2] w (Post (vSc eBool) r w) := by
 unfold annalkeep_ShrinkAll at hF
 let a10_ : Value := .agg #[vi p0.root, .slice A1 p0.nodes.length c1]
 refine T.start (l := [a10_, .slice A2 p1.length c2]) Try.func5 rfl rfl rfl ?_
 refine T.seq (T.region ?_)
 let v4_ : List Value := [vi p0.root, .slice A1 p0.nodes.length c1]
 refine T.step (W1.np 24 v4_ (fun _ => by kernel_rfl) (fun b1 => ?_))
 refine T.pk (.bool false) (fun _ => by kernel_rfl) (T.nil (T.seq (T.seq (T.region ?_))))
 obtain ⟨r1, hb1, hF⟩ := ob hF
 refine T.step (W1.call (vSc eBool) r1 24 #[] (by kernel_rfl) (fun _ => by kernel_rfl) (fun w' hh => annalkeep_begun_l F r1 hb1 w' ) ?_)
 intro u V1 hV1 hu
 obtain rfl := sureBool _ _ _ hu
 refine T.pk (.bool (!r1)) (fun _ => by kernel_rfl) (T.nil ?_)
 refine T.cond (!r1) (by kernel_rfl) (by kernel_rfl) (fun hc1 => ?_) (fun hc1 => ?_)
 ·
  rw [hc1, cond_true] at hF
  refine T.seq (T.region (T.pk (.bool false) (fun _ => by kernel_rfl) (T.nil ?_)))
  cases hF
  refine T.ret rfl ?_
  exact T.ret1 rfl (ResIs.tmp rfl) fun w' hh => ⟨_, rfl, hh.below, (show _ from rfl)⟩
 rw [hc1, cond_false] at hF
 refine T.skip_code ?_
 refine T.seq (T.region (T.look a10_ (by kernel_rfl) (ldN 0 rfl rfl (fun _ => by kernel_rfl) (by rfl) rfl) ?_))
 obtain ⟨r2, hb2, hF⟩ := ob hF
 refine T.step (W1.call (vT2 (vSc (eList eElem)) (vSc eInt)) r2 17 #[a10_] (by kernel_rfl) (fun _ => by kernel_rfl) (fun w' hh => tree_All_l F p0 r2 hb2 w' A1 c1 (SlOk.mono (SlOk.mono hs1 hV1) hh.view)) ?_)
 intro u V2 hV2 hu
 obtain ⟨u1, u2, rfl, hu1, hu2⟩ := vT2_elim hu
 obtain ⟨A3, c3, rfl, hs3⟩ := vlist_elim hu1
 obtain rfl := sureInt _ _ _ hu2
 refine T.p5 (.tuple #[.slice A3 r2.1.length c3, vi r2.2]) (.slice A3 r2.1.length c3) (vi r2.2) (.slice A3 r2.1.length c3) (vi r2.2) (fun _ => by kernel_rfl) (T.nil (T.seq ?_))
 let i1_ : HObj := box b1 24 v4_
 refine T.cut (fun a w' => Fr 87 [(1, .slice A2 p1.length c2), (2, pB b1 0), (5, .slice A3 r2.1.length c3), (25, .bool ((r2.2 != 0) || (decide ((40 : Int) < (r2.1.length : Int)))))] a ∧ Hp w V2 (i1_ :: []) w') ?_ ?_
 ·
  refine T.region (T.p3 (vi r2.2) (.bool (r2.2 != 0)) (.bool (r2.2 != 0)) (fun _ => by kernel_rfl) ?_)
  cases hg1 : (r2.2 != 0)
  ·
   skip
   refine T.p4 (.slice A3 r2.1.length c3) (vi (r2.1.length : Int)) (.bool (decide ((40 : Int) < (r2.1.length : Int)))) (.bool (decide ((40 : Int) < (r2.1.length : Int)))) (fun _ => by kernel_rfl) (T.nil ?_)
   exact fun a w' hf hh => ⟨(Fr.sel hf rfl), (hh.sub (kp1 kp0))⟩
  skip
  refine T.pass (by kernel_rfl) (by kernel_rfl) (T.pass (by kernel_rfl) (by kernel_rfl) (T.pass (by kernel_rfl) (by kernel_rfl) (T.pk (.bool true) (fun _ => by kernel_rfl) (T.nil ?_))))
  exact fun a w' hf hh => ⟨(Fr.sel hf rfl), (hh.sub (kp1 kp0))⟩
 rintro a w' ⟨hf, hh⟩
 refine (?_ : T 87 w V2 (i1_ :: []) [(1, .slice A2 p1.length c2), (2, pB b1 0), (5, .slice A3 r2.1.length c3), (25, .bool ((r2.2 != 0) || (decide ((40 : Int) < (r2.1.length : Int)))))] _) a w' hf hh
 clear hf hh
 refine T.cond ((r2.2 != 0) || (decide ((40 : Int) < (r2.1.length : Int)))) (by kernel_rfl) (by kernel_rfl) (fun hc2 => ?_) (fun hc2 => ?_)
 ·
  rw [hc2, cond_true] at hF
  refine T.seq (T.region (T.pk (.bool true) (fun _ => by kernel_rfl) (T.nil ?_)))
  cases hF
  refine T.ret rfl ?_
  exact T.ret1 rfl (ResIs.tmp rfl) fun w' hh => ⟨_, rfl, hh.below, (show _ from rfl)⟩
 rw [hc2, cond_false] at hF
 refine T.skip_code ?_
 refine T.seq (T.seq (T.region (T.pk (vi 0) (fun _ => by kernel_rfl) (T.nil ?_))))
 obtain ⟨q1, hz1, hF⟩ := ob hF
 refine T.mid (fun a w' => ∃ (z1 : Int) (z2 : List DNode), q1 = Sum.inl (z1, z2) ∧ ∃ (A6 : Option Addr) (c6 : Nat) (V4 : View), View.le V2 V4 ∧ SlOk V4 eNode A6 c6 z2 ∧ Fr 87 [(2, pB b1 0)] a ∧ Hp w V4 ((box b1 24 [vi z1, .slice A6 z2.length c6]) :: []) w') ?_ ?_
 ·
  refine T.block ?_
  refine T.iter (fun s1 a w' => ∃ (x1 : Int) (x2 : List DNode) (x3 : List DElem) (x4 : Int), s1 = (x1, x2, x3, x4) ∧ ∃ (A4 : Option Addr) (c4 : Nat) (A5 : Option Addr) (c5 : Nat) (V3 : View), View.le V2 V3 ∧ SlOk V3 eNode A4 c4 x2 ∧ SlOk (made w V3) eElem A5 c5 x3 ∧ Fr 87 [(1, .slice A2 p1.length c2), (2, pB b1 0), (5, .slice A5 x3.length c5), (7, vi x4)] a ∧ Hp w V3 ((box b1 24 [vi x1, .slice A4 x2.length c4]) :: []) w') hz1 ?_ ?_
  ·
   exact fun a w' hf hh => ⟨p0.root, p0.nodes, r2.1, 0, rfl, A1, c1, A3, c3, V2, vr, (SlOk.mono hs1 (vt hV1 hV2)), (SlOk.mono hs3 (made_mono vr)), (Fr.sel hf rfl), (hh.sub (kp1 kp0))⟩
  rintro s1 y1 hY1 hr1 a w' ⟨x1, x2, x3, x4, rfl, A4, c4, A5, c5, V3, hV3, hs4, hs5, hf, hh⟩
  let v5_ : List Value := [vi x1, .slice A4 x2.length c4]
  let i2_ : HObj := box b1 24 v5_
  refine (?_ : T 87 w V3 (i2_ :: []) [(1, .slice A2 p1.length c2), (2, pB b1 0), (5, .slice A5 x3.length c5), (7, vi x4)] _) a w' hf hh
  clear hf hh
  try dsimp only at hY1
  refine T.seq (T.seq (T.region (T.p3 (.slice A5 x3.length c5) (vi (x3.length : Int)) (.bool (decide ((0 : Int) < (x3.length : Int)))) (fun _ => by kernel_rfl) (T.nil ?_))))
  refine T.cond (decide ((0 : Int) < (x3.length : Int))) (by kernel_rfl) (by kernel_rfl) (fun hc3 => ?_) (fun hc3 => ?_)
  ·
   rw [hc3, cond_true] at hY1
   refine T.skip_code ?_
   refine T.seq (T.block (T.seq (T.region (T.pk (vi 0) (fun _ => by kernel_rfl) (T.nil ?_)))))
   obtain ⟨z3, hX1, hY1⟩ := ob hY1
   refine T.cut (fun a w' => ∃ (V5 : View), View.le V3 V5 ∧ Fr 87 [(1, .slice A2 p1.length c2), (2, pB b1 0), (5, .slice A5 x3.length c5), (7, vi x4), (8, vi z3)] a ∧ Hp w V5 (i2_ :: []) w') ?_ ?_
   ·
    refine T.seq (T.region (T.p4 (vi x4) (.slice A2 p1.length c2) (vi (p1.length : Int)) (.bool (decide (x4 < (p1.length : Int)))) (fun _ => by kernel_rfl) (T.nil ?_)))
    refine T.cond (decide (x4 < (p1.length : Int))) (by kernel_rfl) (by kernel_rfl) (fun hc4 => ?_) (fun hc4 => ?_)
    ·
     rw [hc4, cond_true] at hX1
     refine T.region (T.p2 (.slice A2 p1.length c2) (vi x4) (fun _ => by kernel_rfl) ?_)
     obtain ⟨e1, hb3, hX1⟩ := ob hX1
     obtain ⟨hi1, hi2, hi3⟩ := idx_some hb3
     refine T.look (.pointer (some ((sadr A2).add (x4.toNat * 1)))) (by kernel_rfl) (fun w' hh => exec_indexAddr (e := 3) (s := 1) rfl rfl rfl (by kernel_rfl) (by kernel_rfl) hi1 hi2 ((SlOk.mono hs2 (vt (vt hV1 hV2) hV3)).some_ hi3 (by decide))) ?_
     refine T.look (vi e1) (by kernel_rfl) (fun w' hh => exec_load1 rfl rfl (by kernel_rfl) (hh.cell_view (SlOk.cellF0 (E := eInt) (SlOk.mono hs2 (vt (vt hV1 hV2) hV3)) hi3 (fun _ _ _ h => h) rfl))) ?_
     refine T.p2 (.slice A5 x3.length c5) (vi (x3.length : Int)) (fun _ => by kernel_rfl) ?_
     obtain ⟨r3, hb4, hX1⟩ := ob hX1
     refine T.step (W1.call (vSc eInt) r3 19 #[vi e1, vi (x3.length : Int)] (by kernel_rfl) (fun _ => by kernel_rfl) (fun w' hh => annalkeep_Within_l e1 (x3.length : Int) r3 hb4 w' ) ?_)
     intro u V6 hV6 hu
     obtain rfl := sureInt _ _ _ hu
     refine T.pk (vi r3) (fun _ => by kernel_rfl) (T.nil ?_)
     cases hX1
     exact fun a w' hf hh => ⟨V6, hV6, (Fr.sel hf rfl), (hh.sub (kp1 kp0))⟩
    rw [hc4, cond_false] at hX1
    refine T.skip_code ?_
    cases hX1
    exact fun a w' hf hh => ⟨V3, vr, (Fr.sel hf rfl), (hh.sub (kp1 kp0))⟩
   rintro a w' ⟨V5, hV5, hf, hh⟩
   refine (?_ : T 87 w V5 (i2_ :: []) [(1, .slice A2 p1.length c2), (2, pB b1 0), (5, .slice A5 x3.length c5), (7, vi x4), (8, vi z3)] _) a w' hf hh
   clear hf hh
   refine T.seq ?_
   obtain ⟨e2, hb5, hY1⟩ := ob hY1
   obtain ⟨r4, hb6, hY1⟩ := ob hY1
   obtain ⟨r5, hb7, hY1⟩ := ob hY1
   refine T.mid (fun a w' => ∃ (A8 : Option Addr) (c8 : Nat) (V9 : View), View.le V5 V9 ∧ SlOk (made w V9) eNode A8 c8 r5.1.nodes ∧ Fr 87 [(1, .slice A2 p1.length c2), (2, pB b1 0), (5, .slice A5 x3.length c5), (6, vi r5.2), (7, vi x4), (8, vi z3)] a ∧ Hp w V9 ((box b1 24 [vi r5.1.root, .slice A8 r5.1.nodes.length c8]) :: []) w') ?_ ?_
   ·
    refine T.held [] (by kernel_rfl) ?_
    have w12_ := vt (vt (vt hV1 hV2) hV3) hV5
    refine TA.keep (Hp.old vr w12_ (dr1 kp0) ol0) fun o14_ => ?_
    refine TA.tp 1 (.slice A5 x3.length c5) rfl (fun _ => by kernel_rfl) (fun _ _ _ h => h) o14_ ?_
    refine TA.tp 2 (vi z3) rfl (fun _ => by kernel_rfl) (fun _ _ _ h => h) o14_ ?_
    obtain ⟨hi4, hi5, hi6⟩ := idx_some hb5
    refine TA.tk 3 (.pointer (some ((sadr A5).add (z3.toNat * 6)))) rfl (by kernel_rfl) (fun _ _ _ h => h) o14_ (fun w' hh => exec_indexAddr (e := 28) (s := 6) rfl rfl rfl (by kernel_rfl) (by kernel_rfl) hi4 hi5 ((SlOk.mono hs5 (vt (made_le _ _) hV5)).some_ hi6 (by decide))) ?_
    let a11_ : Value := .agg #[vi e2.key.pfs, vi e2.key.obj, vi e2.key.off, vi e2.made, vi e2.gone, .string e2.val]
    refine TA.tk 4 a11_ rfl (by kernel_rfl) (fun _ _ _ h => h) o14_ (fun w' hh => exec_loadN (cs := [vi e2.key.pfs, vi e2.key.obj, vi e2.key.off, vi e2.made, vi e2.gone, .string e2.val]) rfl rfl (by kernel_rfl) (by kernel_rfl) (fun j u hj => (hh.cell_view (SlOk.cellF (E := eElem) (SlOk.mono hs5 (vt (made_le _ _) hV5)) hi6 j (fun _ _ _ h => h) hj)))) ?_
    refine TA.all [0, 5] (by kernel_rfl) rfl ⟨?_, ?_, trivial⟩
    ·
     refine TA.br rfl (W1.look (.agg #[vi x1, .slice A4 x2.length c4]) (by kernel_rfl) (ldN 0 rfl rfl (fun _ => by kernel_rfl) (by rfl) rfl) ?_)
     refine TA.on (Hp.old vr w12_ (dr1 kp0) ol0) ?_
     refine TA.all [5] (by kernel_rfl) rfl ⟨?_, trivial⟩
     refine TA.br rfl (W1.call (vAg eSpot) r4 22 #[a11_] (by kernel_rfl) (fun _ => by kernel_rfl) (fun w' hh => elem_Spot_l e2 r4 hb6 w' ) ?_)
     intro u V7 hV7 hu
     obtain rfl := sureSpot _ _ _ hu
     refine TA.on (Hp.old hV7 w12_ (dr1 kp0) ol0) ?_
     refine TA.all [6] (by kernel_rfl) rfl ⟨?_, trivial⟩
     refine TA.br rfl (W1.call (vT2 (vAg eTree) (vSc eInt)) r5 21 #[.agg #[vi x1, .slice A4 x2.length c4], .agg #[vi r4.key.pfs, vi r4.key.obj, vi r4.key.off, vi r4.made]] (by kernel_rfl) (fun _ => by kernel_rfl) (fun w' hh => shrink_Remove_l F (DTree.mk x1 x2) r4 r5 hb7 w' A4 c4 (SlOk.mono (SlOk.mono hs4 (vt hV5 hV7)) hh.view)) ?_)
     intro u V8 hV8 hu
     obtain ⟨u3, u4, rfl, hu3, hu4⟩ := vT2_elim hu
     obtain ⟨cs1, rfl, hr2⟩ := vagg_elim hu3
     obtain ⟨A7, c7, rfl, hs7⟩ := hr2
     obtain rfl := sureInt _ _ _ hu4
     refine TA.onk (Hp.old (vt hV7 hV8) w12_ (dr1 kp0) ol0) fun o15_ => ?_
     refine TA.tp 7 (.tuple #[.agg #[vi r5.1.root, .slice A7 r5.1.nodes.length c7], vi r5.2]) rfl (fun _ => by kernel_rfl) (fun _ _ _ h => h) o15_ ?_
     refine TA.tp 8 (.agg #[vi r5.1.root, .slice A7 r5.1.nodes.length c7]) rfl (fun _ => by kernel_rfl) (fun _ _ _ h => h) o15_ ?_
     refine TA.tp 9 (vi r5.2) rfl (fun _ => by kernel_rfl) (fun _ _ _ h => h) o15_ ?_
     refine TA.all [10] (by kernel_rfl) rfl ⟨?_, trivial⟩
     let v6_ : List Value := [vi r5.1.root, .slice A7 r5.1.nodes.length c7]
     refine TA.br rfl (W1.st 0 v6_ ((box b1 24 v6_) :: []) v6_ (by rfl) rfl rfl rfl rfl rfl rfl (fun _ => by kernel_rfl) ?_)
     refine TA.onk (Hp.old (vt hV7 hV8) w12_ (dr1 kp0) ol0) fun o16_ => ?_
     refine TA.tp 11 (vi r5.2) rfl (fun _ => by kernel_rfl) (fun _ _ _ h => h) o16_ ?_
     refine TA.done (by kernel_rfl) ?_
     exact fun a w' hf hh => ⟨A7, c7, V8, (vt hV7 hV8), (SlOk.mono hs7 (made_mono vr)), (Fr.sel hf rfl), (hh.sub (kp1 kp0))⟩
    refine TA.br rfl (W1.call (vAg eSpot) r4 22 #[a11_] (by kernel_rfl) (fun _ => by kernel_rfl) (fun w' hh => elem_Spot_l e2 r4 hb6 w' ) ?_)
    intro u V7 hV7 hu
    obtain rfl := sureSpot _ _ _ hu
    refine TA.on (Hp.old hV7 w12_ (dr1 kp0) ol0) ?_
    refine TA.all [0] (by kernel_rfl) rfl ⟨?_, trivial⟩
    refine TA.br rfl (W1.look (.agg #[vi x1, .slice A4 x2.length c4]) (by kernel_rfl) (ldN 0 rfl rfl (fun _ => by kernel_rfl) (by rfl) rfl) ?_)
    refine TA.on (Hp.old hV7 w12_ (dr1 kp0) ol0) ?_
    refine TA.all [6] (by kernel_rfl) rfl ⟨?_, trivial⟩
    refine TA.br rfl (W1.call (vT2 (vAg eTree) (vSc eInt)) r5 21 #[.agg #[vi x1, .slice A4 x2.length c4], .agg #[vi r4.key.pfs, vi r4.key.obj, vi r4.key.off, vi r4.made]] (by kernel_rfl) (fun _ => by kernel_rfl) (fun w' hh => shrink_Remove_l F (DTree.mk x1 x2) r4 r5 hb7 w' A4 c4 (SlOk.mono (SlOk.mono hs4 (vt hV5 hV7)) hh.view)) ?_)
    intro u V8 hV8 hu
    obtain ⟨u3, u4, rfl, hu3, hu4⟩ := vT2_elim hu
    obtain ⟨cs1, rfl, hr2⟩ := vagg_elim hu3
    obtain ⟨A7, c7, rfl, hs7⟩ := hr2
    obtain rfl := sureInt _ _ _ hu4
    refine TA.onk (Hp.old (vt hV7 hV8) w12_ (dr1 kp0) ol0) fun o17_ => ?_
    refine TA.tp 7 (.tuple #[.agg #[vi r5.1.root, .slice A7 r5.1.nodes.length c7], vi r5.2]) rfl (fun _ => by kernel_rfl) (fun _ _ _ h => h) o17_ ?_
    refine TA.tp 8 (.agg #[vi r5.1.root, .slice A7 r5.1.nodes.length c7]) rfl (fun _ => by kernel_rfl) (fun _ _ _ h => h) o17_ ?_
    refine TA.tp 9 (vi r5.2) rfl (fun _ => by kernel_rfl) (fun _ _ _ h => h) o17_ ?_
    refine TA.all [10] (by kernel_rfl) rfl ⟨?_, trivial⟩
    let v7_ : List Value := [vi r5.1.root, .slice A7 r5.1.nodes.length c7]
    refine TA.br rfl (W1.st 0 v7_ ((box b1 24 v7_) :: []) v7_ (by rfl) rfl rfl rfl rfl rfl rfl (fun _ => by kernel_rfl) ?_)
    refine TA.onk (Hp.old (vt hV7 hV8) w12_ (dr1 kp0) ol0) fun o18_ => ?_
    refine TA.tp 11 (vi r5.2) rfl (fun _ => by kernel_rfl) (fun _ _ _ h => h) o18_ ?_
    refine TA.done (by kernel_rfl) ?_
    exact fun a w' hf hh => ⟨A7, c7, V8, (vt hV7 hV8), (SlOk.mono hs7 (made_mono vr)), (Fr.sel hf rfl), (hh.sub (kp1 kp0))⟩
   rintro a w' ⟨A8, c8, V9, hV9, hs8, hf, hh⟩
   let v8_ : List Value := [vi r5.1.root, .slice A8 r5.1.nodes.length c8]
   let i3_ : HObj := box b1 24 v8_
   refine (?_ : T 87 w V9 (i3_ :: []) [(1, .slice A2 p1.length c2), (2, pB b1 0), (5, .slice A5 x3.length c5), (6, vi r5.2), (7, vi x4), (8, vi z3)] _) a w' hf hh
   clear hf hh
   refine T.seq (T.seq (T.region (T.p2 (vi r5.2) (.bool (r5.2 != 0)) (fun _ => by kernel_rfl) (T.nil ?_))))
   refine T.cond (r5.2 != 0) (by kernel_rfl) (by kernel_rfl) (fun hc5 => ?_) (fun hc5 => ?_)
   ·
    rw [hc5, cond_true] at hY1
    refine T.seq (T.region (T.pk (.bool false) (fun _ => by kernel_rfl) (T.nil ?_)))
    cases hY1
    cases (hr1 _ rfl)
    try dsimp only at hF
    cases hF
    refine T.ret rfl ?_
    exact T.ret1 rfl (ResIs.tmp rfl) fun w' hh => ⟨_, rfl, hh.below, (show _ from rfl)⟩
   rw [hc5, cond_false] at hY1
   refine T.skip_code ?_
   refine T.seq ?_
   refine T.held (i3_ :: []) (by kernel_rfl) ?_
   have w13_ := vt (vt (vt (vt hV1 hV2) hV3) hV5) hV9
   refine TA.keep (Hp.old vr w13_ (kp1 kp0) (oB1 ol0)) fun o19_ => ?_
   refine TA.tp 0 (.slice A5 x3.length c5) rfl (fun _ => by kernel_rfl) (fun _ _ _ h => h) o19_ ?_
   refine TA.tp 1 (vi z3) rfl (fun _ => by kernel_rfl) (fun _ _ _ h => h) o19_ ?_
   obtain ⟨s2, hb8, hY1⟩ := ob hY1
   refine TA.tk 2 (.slice A5 s2.length c5) rfl (by kernel_rfl) (fun _ _ _ h => h) o19_ (fun w' hh => exec_slice_list0 (e := 28) (s := 6) (lx := none) (hx := (some _)) (k := .i64) (k' := .i64) rfl rfl (by kernel_rfl) (by kernel_rfl) ((SlOk.mono hs5 (vt (made_le _ _) (vt hV5 hV9)))).1 rfl rfl hb8) ?_
   refine TA.tp 3 (.slice A5 x3.length c5) rfl (fun _ => by kernel_rfl) (fun _ _ _ h => h) o19_ ?_
   refine TA.tp 4 (vi z3) rfl (fun _ => by kernel_rfl) (fun _ _ _ h => h) o19_ ?_
   refine TA.tp 5 (vi (IntKind.i64.wrap (z3 + 1))) rfl (fun _ => by kernel_rfl) (fun _ _ _ h => h) o19_ ?_
   obtain ⟨s3, hb9, hY1⟩ := ob hY1
   refine TA.tk 6 (.slice (cutA A5 c5 (IntKind.i64.wrap (z3 + 1)).toNat 6) s3.length (c5 - (IntKind.i64.wrap (z3 + 1)).toNat)) rfl (by kernel_rfl) (fun _ _ _ h => h) o19_ (fun w' hh => exec_slice_list (e := 28) (s := 6) (lx := (some _)) (hx := none) (k := .i64) (k' := .i64) rfl rfl (by kernel_rfl) (by kernel_rfl) ((SlOk.mono hs5 (vt (made_le _ _) (vt hV5 hV9)))).1 rfl rfl hb9) ?_
   refine TA.all [7] (by kernel_rfl) rfl ⟨?_, trivial⟩
   refine TA.br rfl (W1.new 34 [.slice A5 s2.length c5, .slice (cutA A5 c5 (IntKind.i64.wrap (z3 + 1)).toNat 6) s3.length (c5 - (IntKind.i64.wrap (z3 + 1)).toNat)] (fun b => .slice (some ⟨b, 0, none⟩) 2 2) (by kernel_rfl) (fun _ => by kernel_rfl) (fun b2 => ?_))
   refine TA.on (Hp.old vr w13_ (dr1 (kp1 kp0)) (oB1 ol0)) ?_
   refine TA.all [8] (by kernel_rfl) rfl ⟨?_, trivial⟩
   obtain ⟨z4, hX2, hY1⟩ := ob hY1
   refine TA.br rfl (W1.within 25 [.slice (some ⟨b2, 0, none⟩) 2 2] (fun v w' => ∃ (A9 : Option Addr) (c9 : Nat) (A10 : Option Addr) (c10 : Nat) (A11 : Option Addr) (c11 : Nat) (A12 : Option Addr) (c12 : Nat) (A13 : Option Addr) (c13 : Nat) (V10 : View), View.le V9 V10 ∧ SlOk (made w V10) eElem A10 c10 s2 ∧ SlOk (made w V10) eElem A11 c11 s3 ∧ SlOk (made w V10) eElem A12 c12 s2 ∧ SlOk (made w V10) eElem A13 c13 s3 ∧ v = .slice A9 z4.length c9 ∧ Hp w V10 ((row 28 eElem A9 c9 z4) :: (box b2 34 [.slice A10 s2.length c10, .slice A11 s3.length c11]) :: i3_ :: []) w') Try.func25 rfl rfl (by kernel_rfl) (fun _ => by kernel_rfl) rfl ?_ ?_)
   ·
    refine T.seq (T.region (T.pk sN (fun _ => by kernel_rfl) (T.nil (T.seq (T.region (T.pk (vi 0) (fun _ => by kernel_rfl) (T.nil (T.seq (T.seq (T.region (T.p3 (.slice (some ⟨b2, 0, none⟩) 2 2) (vi 2) (vi 0) (fun _ => by kernel_rfl) (T.nil (T.block ?_)))))))))))))
    refine T.rounds 3 ?_
    refine T.round ?_
    refine T.seq (T.region (T.pk (.bool true) (fun _ => by kernel_rfl) (T.nil (T.seq ?_))))
    refine T.cond true (by kernel_rfl) (by kernel_rfl) (fun _ => ?_) (fun h => Bool.noConfusion h)
    refine T.skip_code ?_
    refine T.seq (T.block (T.seq (T.region (T.pk (pB b2 0) (fun _ => by kernel_rfl) (T.look (.slice A5 s2.length c5) (by kernel_rfl) (ld1 0 rfl rfl (fun _ => by kernel_rfl) (by rfl) rfl) ?_)))))
    refine T.pk (.slice A5 s2.length c5) (fun _ => by kernel_rfl) (T.nil (T.seq (T.region (T.p5 (vi 0) (.slice A5 s2.length c5) (vi (s2.length : Int)) (vi (IntKind.i64.wrap (0 + (s2.length : Int)))) (vi (IntKind.i64.wrap (0 + (s2.length : Int)))) (fun _ => by kernel_rfl) (T.nil (T.seq (T.region (T.p2 (vi (IntKind.i64.wrap (0 + (s2.length : Int)))) (.bool (decide ((IntKind.i64.wrap (0 + (s2.length : Int))) < 0))) (fun _ => by kernel_rfl) (T.nil ?_)))))))))
    refine T.cond (decide ((IntKind.i64.wrap (0 + (s2.length : Int))) < 0)) (by kernel_rfl) (by kernel_rfl) (fun hc6 => ?_) (fun hc6 => ?_)
    ·
     rw [hc6, cond_true] at hX2
     cases hX2
    rw [hc6, cond_false] at hX2
    refine T.skip_code ?_
    refine T.region (T.p2 (vi 1) (vi 1) (fun _ => by kernel_rfl) (T.nil ?_))
    refine T.round ?_
    refine T.seq (T.region (T.pk (.bool true) (fun _ => by kernel_rfl) (T.nil (T.seq ?_))))
    refine T.cond true (by kernel_rfl) (by kernel_rfl) (fun _ => ?_) (fun h => Bool.noConfusion h)
    refine T.skip_code ?_
    refine T.seq (T.block (T.seq (T.region (T.pk (pB b2 1) (fun _ => by kernel_rfl) (T.look (.slice (cutA A5 c5 (IntKind.i64.wrap (z3 + 1)).toNat 6) s3.length (c5 - (IntKind.i64.wrap (z3 + 1)).toNat)) (by kernel_rfl) (ld1 0 rfl rfl (fun _ => by kernel_rfl) (by rfl) rfl) ?_)))))
    refine T.pk (.slice (cutA A5 c5 (IntKind.i64.wrap (z3 + 1)).toNat 6) s3.length (c5 - (IntKind.i64.wrap (z3 + 1)).toNat)) (fun _ => by kernel_rfl) (T.nil (T.seq (T.region (T.p5 (vi (IntKind.i64.wrap (0 + (s2.length : Int)))) (.slice (cutA A5 c5 (IntKind.i64.wrap (z3 + 1)).toNat 6) s3.length (c5 - (IntKind.i64.wrap (z3 + 1)).toNat)) (vi (s3.length : Int)) (vi (IntKind.i64.wrap ((IntKind.i64.wrap (0 + (s2.length : Int))) + (s3.length : Int)))) (vi (IntKind.i64.wrap ((IntKind.i64.wrap (0 + (s2.length : Int))) + (s3.length : Int)))) (fun _ => by kernel_rfl) (T.nil (T.seq (T.region (T.p2 (vi (IntKind.i64.wrap ((IntKind.i64.wrap (0 + (s2.length : Int))) + (s3.length : Int)))) (.bool (decide ((IntKind.i64.wrap ((IntKind.i64.wrap (0 + (s2.length : Int))) + (s3.length : Int))) < 0))) (fun _ => by kernel_rfl) (T.nil ?_)))))))))
    refine T.cond (decide ((IntKind.i64.wrap ((IntKind.i64.wrap (0 + (s2.length : Int))) + (s3.length : Int))) < 0)) (by kernel_rfl) (by kernel_rfl) (fun hc7 => ?_) (fun hc7 => ?_)
    ·
     rw [hc7, cond_true] at hX2
     cases hX2
    rw [hc7, cond_false] at hX2
    refine T.skip_code ?_
    refine T.region (T.p2 (vi 2) (vi 2) (fun _ => by kernel_rfl) (T.nil ?_))
    refine T.round ?_
    refine T.seq (T.region (T.pk (.bool false) (fun _ => by kernel_rfl) (T.nil (T.seq ?_))))
    refine T.cond false (by kernel_rfl) (by kernel_rfl) (fun h => Bool.noConfusion h) (fun _ => ?_)
    refine T.exit ?_
    refine T.seq (T.region (T.pk (vi (IntKind.i64.wrap ((IntKind.i64.wrap (0 + (s2.length : Int))) + (s3.length : Int)))) (fun _ => by kernel_rfl) ?_))
    obtain ⟨z5, hX3, hX2⟩ := ob hX2
    refine T.step (W1.within 52 [sN, vi (IntKind.i64.wrap ((IntKind.i64.wrap (0 + (s2.length : Int))) + (s3.length : Int)))] (fun v w' => ∃ (A14 : Option Addr) (c14 : Nat) (A15 : Option Addr) (c15 : Nat) (A16 : Option Addr) (c16 : Nat) (V11 : View), View.le V9 V11 ∧ SlOk (made w V11) eElem A15 c15 s2 ∧ SlOk (made w V11) eElem A16 c16 s3 ∧ v = .slice A14 z5.length c14 ∧ Hp w V11 ((row 28 eElem A14 c14 z5) :: (box b2 34 [.slice A15 s2.length c15, .slice A16 s3.length c16]) :: i3_ :: []) w') Try.func52 rfl rfl (by kernel_rfl) (fun _ => by kernel_rfl) rfl ?_ ?_)
    ·
     refine T.seq (T.region (T.pk sN (fun _ => by kernel_rfl) (T.nil (T.seq (T.seq (T.region (T.p2 (vi (IntKind.i64.wrap ((IntKind.i64.wrap (0 + (s2.length : Int))) + (s3.length : Int)))) (.bool (decide ((IntKind.i64.wrap ((IntKind.i64.wrap (0 + (s2.length : Int))) + (s3.length : Int))) < 0))) (fun _ => by kernel_rfl) (T.nil ?_))))))))
     refine T.cond (decide ((IntKind.i64.wrap ((IntKind.i64.wrap (0 + (s2.length : Int))) + (s3.length : Int))) < 0)) (by kernel_rfl) (by kernel_rfl) (fun h => absurd (hc7.symm.trans h) (by decide)) (fun _ => ?_)
     refine T.skip_code ?_
     obtain ⟨z6, hX4, hX3⟩ := ob hX3
     refine T.cut (fun a w' => ∃ (A17 : Option Addr) (c17 : Nat) (A18 : Option Addr) (c18 : Nat) (A19 : Option Addr) (c19 : Nat) (V12 : View), View.le V9 V12 ∧ SlOk (made w V12) eElem A18 c18 s2 ∧ SlOk (made w V12) eElem A19 c19 s3 ∧ Fr 27 [(0, .slice A17 z6.length c17)] a ∧ Hp w V12 ((row 28 eElem A17 c17 z6) :: (box b2 34 [.slice A18 s2.length c18, .slice A19 s3.length c19]) :: i3_ :: []) w') ?_ ?_
     ·
      refine T.seq (T.region (T.p8 (vi (IntKind.i64.wrap ((IntKind.i64.wrap (0 + (s2.length : Int))) + (s3.length : Int)))) sN (vi 0) sN (vi 0) (vi 0) (vi (IntKind.i64.wrap ((IntKind.i64.wrap ((IntKind.i64.wrap (0 + (s2.length : Int))) + (s3.length : Int))) - 0))) (vi (IntKind.i64.wrap ((IntKind.i64.wrap ((IntKind.i64.wrap (0 + (s2.length : Int))) + (s3.length : Int))) - 0))) (fun _ => by kernel_rfl) (T.nil (T.seq (T.region (T.p2 (vi (IntKind.i64.wrap ((IntKind.i64.wrap ((IntKind.i64.wrap (0 + (s2.length : Int))) + (s3.length : Int))) - 0))) (.bool (decide ((0 : Int) < (IntKind.i64.wrap ((IntKind.i64.wrap ((IntKind.i64.wrap (0 + (s2.length : Int))) + (s3.length : Int))) - 0))))) (fun _ => by kernel_rfl) (T.nil ?_)))))))
      refine T.cond (decide ((0 : Int) < (IntKind.i64.wrap ((IntKind.i64.wrap ((IntKind.i64.wrap (0 + (s2.length : Int))) + (s3.length : Int))) - 0)))) (by kernel_rfl) (by kernel_rfl) (fun hc8 => ?_) (fun hc8 => ?_)
      ·
       rw [hc8, cond_true] at hX4
       refine T.region (T.p5 sN sN (vi 0) sN (vi (IntKind.i64.wrap ((IntKind.i64.wrap ((IntKind.i64.wrap (0 + (s2.length : Int))) + (s3.length : Int))) - 0))) (fun _ => by kernel_rfl) ?_)
       obtain ⟨u5, hb10, hX4⟩ := ob hX4
       obtain ⟨ti, hti, hz1, hz2, hz3⟩ := ipWShrinkAllL_1
       obtain ⟨hb10_0, hb10_r, hb10_m, hb10_n⟩ := noughts_some hb10
       refine T.step (W1.growz (E := eElem) (x := ((DElem.mk (DKey.mk 0 0 0) 0 0 (ByteArray.mk #[])) : DElem)) (z := .agg #[vi 0, vi 0, vi 0, vi 0, vi 0, .string (ByteArray.mk #[])]) (kn := .i64) ((IntKind.i64.wrap ((IntKind.i64.wrap ((IntKind.i64.wrap (0 + (s2.length : Int))) + (s3.length : Int))) - 0)).toNat) _ _ 56 ti hb10_0 (by kernel_rfl) rfl (by kernel_rfl) (by kernel_rfl) hti hz1 hz2 hz3 (fun _ => rfl) rfl (by decide) rfl (congrArg (Value.int _) hb10_n) hb10_r hb10_m (fun A20 c20 => ?_))
       refine T.p2 sN (vi 0) (fun _ => by kernel_rfl) ?_
       obtain ⟨s4, hb11, hX4⟩ := ob hX4
       refine T.look (.slice A20 s4.length c20) (by kernel_rfl) (sl0 0 (e := 28) (s := 6) rfl rfl (fun _ => by kernel_rfl) (by rfl) rfl hb11) ?_
       refine T.pk (.slice A20 s4.length c20) (fun _ => by kernel_rfl) (T.nil ?_)
       refine T.shrink (l := s4) 0 (by rfl) (lslice_prefix hb11) ?_
       cases hX4
       exact fun a w' hf hh => ⟨A20, c20, A5, c5, (cutA A5 c5 (IntKind.i64.wrap (z3 + 1)).toNat 6), (c5 - (IntKind.i64.wrap (z3 + 1)).toNat), V9, vr, (SlOk.cut0 (SlOk.mono hs5 (made_mono (vt hV5 hV9))) hb8), (SlOk.cut (SlOk.mono hs5 (made_mono (vt hV5 hV9))) hb9), (Fr.sel hf rfl), (hh.sub (kp2 (kp1 kp0)))⟩
      rw [hc8, cond_false] at hX4
      refine T.skip_code ?_
      refine T.rownil 28 eElem ?_
      cases hX4
      exact fun a w' hf hh => ⟨none, 0, A5, c5, (cutA A5 c5 (IntKind.i64.wrap (z3 + 1)).toNat 6), (c5 - (IntKind.i64.wrap (z3 + 1)).toNat), V9, vr, (SlOk.cut0 (SlOk.mono hs5 (made_mono (vt hV5 hV9))) hb8), (SlOk.cut (SlOk.mono hs5 (made_mono (vt hV5 hV9))) hb9), (Fr.sel hf rfl), (hh.sub (kp2 (kp1 kp0)))⟩
     rintro a w' ⟨A17, c17, A18, c18, A19, c19, V12, hV12, hs15, hs16, hf, hh⟩
     refine (?_ : T 27 w V12 ((row 28 eElem A17 c17 z6) :: (box b2 34 [.slice A18 s2.length c18, .slice A19 s3.length c19]) :: i3_ :: []) [(0, .slice A17 z6.length c17)] _) a w' hf hh
     clear hf hh
     refine T.seq (T.region (T.p2 (.slice A17 z6.length c17) (.slice A17 z6.length c17) (fun _ => by kernel_rfl) (T.nil ?_)))
     cases hX3
     refine T.ret rfl ?_
     exact T.ret1 rfl (ResIs.tmp rfl) fun w' hh => ⟨_, rfl, ⟨A17, c17, A18, c18, A19, c19, V12, hV12, (SlOk.mono hs15 (made_mono vr)), (SlOk.mono hs16 (made_mono vr)), rfl, (hh.sub (kp2 (kp1 kp0)))⟩⟩
    rintro v w' ⟨A14, c14, A15, c15, A16, c16, V11, hV11, hs13, hs14, rfl, hh⟩
    refine ⟨V11, ((row 28 eElem A14 c14 z5) :: (box b2 34 [.slice A15 s2.length c15, .slice A16 s3.length c16]) :: i3_ :: []), hh, ?_⟩
    clear hh
    refine T.pk (.slice A14 z5.length c14) (fun _ => by kernel_rfl) (T.nil (T.seq (T.seq (T.region (T.p3 (.slice (some ⟨b2, 0, none⟩) 2 2) (vi 2) (vi 0) (fun _ => by kernel_rfl) (T.nil (T.block ?_)))))))
    refine T.rounds 3 ?_
    refine T.round ?_
    refine T.seq (T.region (T.pk (.bool true) (fun _ => by kernel_rfl) (T.nil (T.seq ?_))))
    refine T.cond true (by kernel_rfl) (by kernel_rfl) (fun _ => ?_) (fun h => Bool.noConfusion h)
    refine T.skip_code ?_
    refine T.seq (T.block (T.seq (T.region (T.pk (pB b2 0) (fun _ => by kernel_rfl) (T.look (.slice A15 s2.length c15) (by kernel_rfl) (ld1 1 rfl rfl (fun _ => by kernel_rfl) (by rfl) rfl) ?_)))))
    refine T.pk (.slice A15 s2.length c15) (fun _ => by kernel_rfl) (T.nil (T.region (T.p2 (.slice A14 z5.length c14) (.slice A15 s2.length c15) (fun _ => by kernel_rfl) ?_)))
    obtain ⟨y2, hb12, hX2⟩ := ob hX2
    obtain ⟨hb12_r, hb12_m, rfl⟩ := grow_some hb12
    obtain ⟨ti, hti, hz1, hz2, hz3⟩ := ipWShrinkAllL_1
    refine T.step (W1.append (E := eElem) (l := z5) (m := s2) 0 _ _ 56 ti _ (by rfl) (by kernel_rfl) rfl (by kernel_rfl) hti hz1 hz2 hz3 rfl (by decide) rfl rfl (fun w' hh => (SlOk.srcF (SlOk.mono (SlOk.mono hs13 (vt (made_le _ _) vr)) hh.view) (fun _ _ _ _ h => h))) hb12_r hb12_m (fun A21 c21 => ?_))
    refine T.pk (.slice A21 ((z5 ++ s2).length) c21) (fun _ => by kernel_rfl) (T.nil (T.region (T.p2 (vi 1) (vi 1) (fun _ => by kernel_rfl) (T.nil ?_))))
    refine T.round ?_
    refine T.seq (T.region (T.pk (.bool true) (fun _ => by kernel_rfl) (T.nil (T.seq ?_))))
    refine T.cond true (by kernel_rfl) (by kernel_rfl) (fun _ => ?_) (fun h => Bool.noConfusion h)
    refine T.skip_code ?_
    refine T.seq (T.block (T.seq (T.region (T.pk (pB b2 1) (fun _ => by kernel_rfl) (T.look (.slice A16 s3.length c16) (by kernel_rfl) (ld1 1 rfl rfl (fun _ => by kernel_rfl) (by rfl) rfl) ?_)))))
    refine T.pk (.slice A16 s3.length c16) (fun _ => by kernel_rfl) (T.nil (T.region (T.p2 (.slice A21 ((z5 ++ s2).length) c21) (.slice A16 s3.length c16) (fun _ => by kernel_rfl) ?_)))
    obtain ⟨y3, hb13, hX2⟩ := ob hX2
    obtain ⟨hb13_r, hb13_m, rfl⟩ := grow_some hb13
    obtain ⟨ti, hti, hz1, hz2, hz3⟩ := ipWShrinkAllL_1
    refine T.step (W1.append (E := eElem) (l := (z5 ++ s2)) (m := s3) 0 _ _ 56 ti _ (by rfl) (by kernel_rfl) rfl (by kernel_rfl) hti hz1 hz2 hz3 rfl (by decide) rfl rfl (fun w' hh => (SlOk.srcF (SlOk.mono (SlOk.mono hs14 (vt (made_le _ _) vr)) hh.view) (fun _ _ _ _ h => h))) hb13_r hb13_m (fun A22 c22 => ?_))
    refine T.pk (.slice A22 (((z5 ++ s2) ++ s3).length) c22) (fun _ => by kernel_rfl) (T.nil (T.region (T.p2 (vi 2) (vi 2) (fun _ => by kernel_rfl) (T.nil ?_))))
    refine T.round ?_
    refine T.seq (T.region (T.pk (.bool false) (fun _ => by kernel_rfl) (T.nil (T.seq ?_))))
    refine T.cond false (by kernel_rfl) (by kernel_rfl) (fun h => Bool.noConfusion h) (fun _ => ?_)
    refine T.exit ?_
    refine T.seq (T.region (T.p2 (.slice A22 (((z5 ++ s2) ++ s3).length) c22) (.slice A22 (((z5 ++ s2) ++ s3).length) c22) (fun _ => by kernel_rfl) (T.nil ?_)))
    cases hX2
    refine T.ret rfl ?_
    exact T.ret1 rfl (ResIs.tmp rfl) fun w' hh => ⟨_, rfl, ⟨A22, c22, A15, c15, A16, c16, A5, c5, (cutA A5 c5 (IntKind.i64.wrap (z3 + 1)).toNat 6), (c5 - (IntKind.i64.wrap (z3 + 1)).toNat), V11, hV11, (SlOk.mono hs13 (made_mono vr)), (SlOk.mono hs14 (made_mono vr)), (SlOk.cut0 (SlOk.mono hs5 (made_mono (vt (vt hV5 hV9) hV11))) hb8), (SlOk.cut (SlOk.mono hs5 (made_mono (vt (vt hV5 hV9) hV11))) hb9), rfl, (hh.sub (kp2 (kp1 kp0)))⟩⟩
   rintro v w' ⟨A9, c9, A10, c10, A11, c11, A12, c12, A13, c13, V10, hV10, hs9, hs10, hs11, hs12, rfl, hh⟩
   refine ⟨V10, ((row 28 eElem A9 c9 z4) :: (box b2 34 [.slice A10 s2.length c10, .slice A11 s3.length c11]) :: i3_ :: []), hh, ?_⟩
   clear hh
   refine TA.onk (Hp.old hV10 w13_ (dr2 (kp1 kp0)) (oB1 ol0)) fun o20_ => ?_
   refine TA.tp 9 (.slice A9 z4.length c9) rfl (fun _ => by kernel_rfl) (fun _ _ _ h => h) o20_ ?_
   refine TA.done (by kernel_rfl) ?_
   refine T.seq (T.region (T.look (.agg #[vi r5.1.root, .slice A8 r5.1.nodes.length c8]) (by kernel_rfl) (ldN 2 rfl rfl (fun _ => by kernel_rfl) (by rfl) rfl) ?_))
   obtain ⟨r8, hb14, hY1⟩ := ob hY1
   refine T.step (W1.call (vT2 (vSc (eList eElem)) (vSc eInt)) r8 17 #[.agg #[vi r5.1.root, .slice A8 r5.1.nodes.length c8]] (by kernel_rfl) (fun _ => by kernel_rfl) (fun w' hh => tree_All_l F r5.1 r8 hb14 w' A8 c8 (SlOk.mono (SlOk.mono hs8 (vt (made_le _ _) hV10)) hh.view)) ?_)
   intro u V13 hV13 hu
   obtain ⟨u6, u7, rfl, hu5, hu6⟩ := vT2_elim hu
   obtain ⟨A23, c23, rfl, hs17⟩ := vlist_elim hu5
   obtain rfl := sureInt _ _ _ hu6
   refine T.p5 (.tuple #[.slice A23 r8.1.length c23, vi r8.2]) (.slice A23 r8.1.length c23) (vi r8.2) (.slice A23 r8.1.length c23) (vi r8.2) (fun _ => by kernel_rfl) (T.nil ?_)
   obtain ⟨z7, hX5, hY1⟩ := ob hY1
   refine T.cut (fun a w' => ∃ (V14 : View), View.le V13 V14 ∧ Fr 87 [(1, .slice A2 p1.length c2), (2, pB b1 0), (5, .slice A9 z4.length c9), (7, vi x4), (75, .bool z7)] a ∧ Hp w V14 ((row 28 eElem A9 c9 z4) :: i3_ :: []) w') ?_ ?_
   ·
    refine T.region (T.p3 (vi r8.2) (.bool (r8.2 != 0)) (.bool (r8.2 != 0)) (fun _ => by kernel_rfl) ?_)
    cases hg2 : (r8.2 != 0)
    ·
     skip
     rw [hg2, cond_false] at hX5
     refine T.p2 (.slice A23 r8.1.length c23) (.slice A9 z4.length c9) (fun _ => by kernel_rfl) ?_
     obtain ⟨r9, hb15, hX5⟩ := ob hX5
     refine T.step (W1.call (vSc eBool) r9 18 #[.slice A23 r8.1.length c23, .slice A9 z4.length c9] (by kernel_rfl) (fun _ => by kernel_rfl) (fun w' hh => slices_Equal_Elem_l F r8.1 z4 r9 hb15 w' A23 c23 (SlOk.mono (SlOk.mono hs17 (vt (made_le _ _) vr)) hh.view) A9 c9 (hh.row_slOk (i := 0) (by rfl))) ?_)
     intro u V15 hV15 hu
     obtain rfl := sureBool _ _ _ hu
     refine T.p2 (.bool (!r9)) (.bool (!r9)) (fun _ => by kernel_rfl) (T.nil ?_)
     cases hX5
     exact fun a w' hf hh => ⟨V15, hV15, (Fr.sel hf rfl), (hh.sub (kp1 (dr1 (kp1 kp0))))⟩
    skip
    rw [hg2, cond_true] at hX5
    refine T.pass (by kernel_rfl) (by kernel_rfl) (T.pass (by kernel_rfl) (by kernel_rfl) (T.pass (by kernel_rfl) (by kernel_rfl) (T.pass (by kernel_rfl) (by kernel_rfl) (T.pk (.bool true) (fun _ => by kernel_rfl) (T.nil ?_)))))
    cases hX5
    exact fun a w' hf hh => ⟨V13, vr, (Fr.sel hf rfl), (hh.sub (kp1 (dr1 (kp1 kp0))))⟩
   rintro a w' ⟨V14, hV14, hf, hh⟩
   refine (?_ : T 87 w V14 ((row 28 eElem A9 c9 z4) :: i3_ :: []) [(1, .slice A2 p1.length c2), (2, pB b1 0), (5, .slice A9 z4.length c9), (7, vi x4), (75, .bool z7)] _) a w' hf hh
   clear hf hh
   refine T.cond z7 (by kernel_rfl) (by kernel_rfl) (fun hc9 => ?_) (fun hc9 => ?_)
   ·
    rw [hc9, cond_true] at hY1
    refine T.seq (T.region (T.pk (.bool false) (fun _ => by kernel_rfl) (T.nil ?_)))
    cases hY1
    cases (hr1 _ rfl)
    try dsimp only at hF
    cases hF
    refine T.ret rfl ?_
    exact T.ret1 rfl (ResIs.tmp rfl) fun w' hh => ⟨_, rfl, hh.below, (show _ from rfl)⟩
   rw [hc9, cond_false] at hY1
   refine T.skip_code ?_
   refine T.region (T.p3 (vi x4) (vi (IntKind.i64.wrap (x4 + 1))) (vi (IntKind.i64.wrap (x4 + 1))) (fun _ => by kernel_rfl) (T.nil ?_))
   refine T.freezeF (E := eElem) (H' := (i3_ :: [])) 0 (by rfl) rfl (fun _ _ _ _ h => h) (fun V16 hV16 hs18 => ?_)
   cases hY1
   exact fun a w' hf hh => ⟨(r5.1.root, r5.1.nodes, z4, IntKind.i64.wrap (x4 + 1)), rfl, r5.1.root, r5.1.nodes, z4, (IntKind.i64.wrap (x4 + 1)), rfl, A8, c8, A9, c9, V16, (vt (vt (vt (vt (vt (vt hV3 hV5) hV9) hV10) hV13) hV14) hV16), (SlOk.mono hs8 (vt (made_le _ _) (vt (vt (vt hV10 hV13) hV14) hV16))), (SlOk.mono hs18 (made_mono vr)), (Fr.sel hf rfl), (hh.sub (kp1 kp0))⟩
  rw [hc3, cond_false] at hY1
  refine T.exit ?_
  cases hY1
  cases (hr1 _ rfl)
  exact fun a w' hf hh => ⟨x1, x2, rfl, A4, c4, V3, hV3, hs4, (Fr.sel hf rfl), (hh.sub (kp1 kp0))⟩
 rintro a w' ⟨z1, z2, rfl, A6, c6, V4, hV4, hs6, hf, hh⟩
 try dsimp only at hF
 let v9_ : List Value := [vi z1, .slice A6 z2.length c6]
 refine (?_ : T 87 w V4 ((box b1 24 v9_) :: []) [(2, pB b1 0)] _) a w' hf hh
 clear hf hh
 refine T.seq (T.region (T.look (.agg #[vi z1, .slice A6 z2.length c6]) (by kernel_rfl) (ldN 0 rfl rfl (fun _ => by kernel_rfl) (by rfl) rfl) ?_))
 obtain ⟨r10, hb16, hF⟩ := ob hF
 refine T.step (W1.call (vT2 (vSc eInt) (vSc eInt)) r10 26 #[.agg #[vi z1, .slice A6 z2.length c6]] (by kernel_rfl) (fun _ => by kernel_rfl) (fun w' hh => tree_Depth_l F (DTree.mk z1 z2) r10 hb16 w' A6 c6 (SlOk.mono hs6 hh.view)) ?_)
 intro u V17 hV17 hu
 obtain rfl := (Sure.t2 sureInt sureInt) _ _ _ hu
 refine T.p5 (.tuple #[vi r10.1, vi r10.2]) (vi r10.1) (vi r10.2) (vi r10.1) (vi r10.2) (fun _ => by kernel_rfl) (T.nil ?_)
 refine T.cut (fun a w' => Fr 87 [(4, .bool ((r10.1 == 1) && (r10.2 == 0)))] a ∧ Hp w V17 [] w') ?_ ?_
 ·
  refine T.region (T.p3 (vi r10.1) (.bool (r10.1 == 1)) (.bool (r10.1 == 1)) (fun _ => by kernel_rfl) ?_)
  cases hg3 : (r10.1 == 1)
  ·
   skip
   refine T.pass (by kernel_rfl) (by kernel_rfl) (T.pass (by kernel_rfl) (by kernel_rfl) (T.p2 (.bool false) (.bool false) (fun _ => by kernel_rfl) (T.nil ?_)))
   exact fun a w' hf hh => ⟨(Fr.sel hf rfl), (hh.sub (dr1 kp0))⟩
  skip
  refine T.p4 (vi r10.2) (.bool (r10.2 == 0)) (.bool (r10.2 == 0)) (.bool (r10.2 == 0)) (fun _ => by kernel_rfl) (T.nil ?_)
  exact fun a w' hf hh => ⟨(Fr.sel hf rfl), (hh.sub (dr1 kp0))⟩
 rintro a w' ⟨hf, hh⟩
 refine (?_ : T 87 w V17 [] [(4, .bool ((r10.1 == 1) && (r10.2 == 0)))] _) a w' hf hh
 clear hf hh
 cases hF
 refine T.ret rfl ?_
 exact T.ret1 rfl (ResIs.tmp rfl) fun w' hh => ⟨_, rfl, hh.below, (show _ from rfl)⟩
end Go.Proofs.Ytcmkdoahkncakaa
