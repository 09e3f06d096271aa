/- The Go functions of group WGrowMany compute the pure functions of that group: written by walkgen.py. Condition of each: the pure function yields a result. -/
import Derived.Test.YtcmkdoahkncakaaSh2J
import Derived.Test.YtcmkdoahkncakaaGrowILJ
import Derived.Test.YtcmkdoahkncakaaPackLJ
import Derived.Test.YtcmkdoahkncakaaRunLJ
import Derived.Test.YtcmkdoahkncakaaTreeLJ
import Derived.Test.YtcmkdoahkncakaaEqsLJ
import Derived.Test.YtcmkdoahkncakaaOwnLJ
import Derived.Test.YtcmkdoahkncakaaClearJ
import Derived.Test.YtcmkdoahkncakaaWGrowManyFJ
import Derived.Test.YtcmkdoahkncakaaEqLJ
namespace Go.Proofs.Ytcmkdoahkncakaa
set_option linter.unusedVariables false
set_option maxRecDepth 100000 in
set_option maxHeartbeats 4000000 in
theorem annalkeep_GrowMany_l (F : Nat) (p0 : (List DElem)) (p1 : (List Int)) (r : Bool) (hF : annalkeep_GrowMany F p0 p1 = some r) (w : World) (A1 : Option Addr) (c1 : Nat) (hs1 : SlOk (vw w) eElem A1 c1 p0) (A2 : Option Addr) (c2 : Nat) (hs2 : SlOk (vw w) eInt A2 c2 p1) :
 Calls Try.prog 9 #[.slice A1 p0.length c1, .slice A2 p1.length c2] w (Post (vSc eBool) r w) := by
 unfold annalkeep_GrowMany at hF
 refine T.start (l := [.slice A1 p0.length c1, .slice A2 p1.length c2]) Try.func9 rfl rfl rfl ?_
 refine T.seq ?_
 refine T.region ?_
 refine T.pk (.bool false) (fun _ => by kernel_rfl) ?_
 refine T.nil ?_
 refine T.seq ?_
 refine T.seq ?_
 refine T.region ?_
 obtain ⟨r1, hb1, hF⟩ := ob hF
 refine T.step (W1.call (vSc eBool) r1 24 #[] (by kernel_rfl) (fun _ => by kernel_rfl) (fun w' hh => annalkeep_begun_l F r1 hb1 w' ) ?_)
 intro u V1 hV1 hu
 obtain rfl := sureBool _ _ _ hu
 refine T.pk (.bool (!r1)) (fun _ => by kernel_rfl) ?_
 refine T.nil ?_
 refine T.cond (!r1) (by kernel_rfl) (by kernel_rfl) (fun hc1 => ?_) (fun hc1 => ?_)
 ·
  rw [hc1, cond_true] at hF
  refine T.seq ?_
  refine T.region ?_
  refine T.pk (.bool false) (fun _ => by kernel_rfl) ?_
  refine T.nil ?_
  cases hF
  refine T.ret rfl ?_
  exact T.ret1 rfl (ResIs.tmp rfl) fun w' hh => ⟨_, rfl, hh.below, (show _ from rfl)⟩
 rw [hc1, cond_false] at hF
 refine T.skip_code ?_
 refine T.seq ?_
 refine T.region ?_
 refine T.p4 (.slice A1 p0.length c1) (.slice A1 p0.length c1) (vi (p0.length : Int)) (vi (if (40 : Int) < (p0.length : Int) then 40 else (p0.length : Int))) (fun _ => by kernel_rfl) ?_
 obtain ⟨s1, hb2, hF⟩ := ob hF
 refine T.look (.slice A1 s1.length c1) (by kernel_rfl) (fun w' hh => exec_slice_list0 (e := 28) (s := 6) (lx := none) (hx := (some _)) (k := .i64) (k' := .i64) rfl rfl (by kernel_rfl) (by kernel_rfl) ((SlOk.mono hs1 hV1)).1 rfl rfl hb2) ?_
 refine T.pk (.slice A1 s1.length c1) (fun _ => by kernel_rfl) ?_
 refine T.nil ?_
 refine T.seq ?_
 refine T.seq ?_
 refine T.region ?_
 refine T.pk (.slice A1 s1.length c1) (fun _ => by kernel_rfl) ?_
 obtain ⟨r2, hb3, hF⟩ := ob hF
 refine T.step (W1.call (vSc eInt) r2 35 #[.slice A1 s1.length c1] (by kernel_rfl) (fun _ => by kernel_rfl) (fun w' hh => run_Check_l F s1 r2 hb3 w' A1 c1 (SlOk.cut0 (SlOk.mono (SlOk.mono hs1 hV1) hh.view) hb2)) ?_)
 intro u V2 hV2 hu
 obtain rfl := sureInt _ _ _ hu
 refine T.pk (.bool (r2 != 0)) (fun _ => by kernel_rfl) ?_
 refine T.nil ?_
 refine T.cond (r2 != 0) (by kernel_rfl) (by kernel_rfl) (fun hc2 => ?_) (fun hc2 => ?_)
 ·
  rw [hc2, cond_true] at hF
  refine T.seq ?_
  refine T.region ?_
  refine T.pk (.bool true) (fun _ => by kernel_rfl) ?_
  refine T.nil ?_
  cases hF
  refine T.ret rfl ?_
  exact T.ret1 rfl (ResIs.tmp rfl) fun w' hh => ⟨_, rfl, hh.below, (show _ from rfl)⟩
 rw [hc2, cond_false] at hF
 refine T.skip_code ?_
 refine T.seq ?_
 refine T.region ?_
 obtain ⟨r3, hb4, hF⟩ := ob hF
 refine T.step (W1.call (vAg eTree) r3 31 #[] (by kernel_rfl) (fun _ => by kernel_rfl) (fun w' hh => tree_New_l  r3 hb4 w' ) ?_)
 intro u V3 hV3 hu
 obtain ⟨cs1, rfl, hr1⟩ := vagg_elim hu
 obtain ⟨A3, c3, rfl, hs3⟩ := hr1
 let v7_ : List Value := [vi 0, sN]
 refine T.step (W1.np 24 v7_ (fun _ => by kernel_rfl) (fun b1 => ?_))
 let v8_ : List Value := [vi r3.root, .slice A3 r3.nodes.length c3]
 let i1_ : HObj := box b1 24 v8_
 refine T.step (W1.st 0 v8_ (i1_ :: []) v8_ (by rfl) rfl rfl rfl rfl rfl rfl (fun _ => by kernel_rfl) ?_)
 refine T.nil ?_
 refine T.seq ?_
 refine T.region ?_
 refine T.pk (.slice A1 s1.length c1) (fun _ => by kernel_rfl) ?_
 obtain ⟨y1, hb5, hF⟩ := ob hF
 obtain ⟨hb5_r, hb5_m, _⟩ := grow_some hb5
 refine T.step (W1.callI 36 [.slice A1 s1.length c1] (fun v w' => ∃ (A4 : Option Addr) (c4 : Nat), v = .slice A4 s1.length c4 ∧ Hp w V3 ((row 28 eElem A4 c4 s1) :: i1_ :: []) w') (by kernel_rfl) (fun _ => by kernel_rfl) (fun w' hh => (own_clone_Elem w V3 (i1_ :: []) w' _ _ _ (fun w' hh => (SlOk.cut0 (SlOk.mono (SlOk.mono hs1 (vt (vt hV1 hV2) hV3)) hh.view) hb2)) (by simpa +zetaDelta using hb5_r) (by simpa +zetaDelta using hb5_m) hh).mono (by rintro e_ w_ ⟨A_, c_, rfl, h_⟩; exact ⟨_, rfl, A_, c_, rfl, h_⟩)) ?_)
 rintro v w' ⟨A4, c4, rfl, hh⟩
 refine ⟨V3, ((row 28 eElem A4 c4 s1) :: i1_ :: []), hh, ?_⟩
 clear hh
 refine T.pk (.slice A4 s1.length c4) (fun _ => by kernel_rfl) ?_
 refine T.nil ?_
 refine T.seq ?_
 refine T.seq ?_
 refine T.region ?_
 refine T.pk (vi 0) (fun _ => by kernel_rfl) ?_
 refine T.nil ?_
 refine T.freezeF (E := eElem) (H' := (i1_ :: [])) 0 (by rfl) rfl (fun _ _ _ _ h => h) (fun V4 hV4 hs4 => ?_)
 obtain ⟨q1, hz1, hF⟩ := ob hF
 refine T.mid (fun a w' => ∃ (z1 : Int) (z2 : List DNode), q1 = Sum.inl (z1, z2) ∧ ∃ (A8 : Option Addr) (c8 : Nat) (A9 : Option Addr) (c9 : Nat) (V6 : View), View.le V4 V6 ∧ SlOk (made w V6) eNode A8 c8 z2 ∧ SlOk V6 eElem A9 c9 s1 ∧ Fr 104 [(0, .slice A9 s1.length c9), (5, pB b1 0)] a ∧ Hp w V6 ((box b1 24 [vi z1, .slice A8 z2.length c8]) :: []) w') ?_ ?_
 ·
  refine T.block ?_
  refine T.iter (fun s2 a w' => ∃ (x1 : Int) (x2 : List DNode) (x3 : List DElem) (x4 : Int), s2 = (x1, x2, x3, x4) ∧ ∃ (A5 : Option Addr) (c5 : Nat) (A6 : Option Addr) (c6 : Nat) (A7 : Option Addr) (c7 : Nat) (V5 : View), View.le V4 V5 ∧ SlOk (made w V5) eNode A5 c5 x2 ∧ SlOk V5 eElem A6 c6 s1 ∧ SlOk (made w V5) eElem A7 c7 x3 ∧ Fr 104 [(0, .slice A6 s1.length c6), (1, .slice A2 p1.length c2), (5, pB b1 0), (6, .slice A7 x3.length c7), (7, vi x4)] a ∧ Hp w V5 ((box b1 24 [vi x1, .slice A5 x2.length c5]) :: []) w') hz1 ?_ ?_
  ·
   exact fun a w' hf hh => ⟨r3.root, r3.nodes, s1, 0, rfl, A3, c3, A1, c1, A4, c4, V4, vr, (SlOk.mono hs3 (made_mono hV4)), (SlOk.cut0 (SlOk.mono hs1 (vt (vt (vt hV1 hV2) hV3) hV4)) hb2), (SlOk.mono hs4 (made_mono vr)), ((((((Fr.nil hf).pick hf 7 rfl).pick hf 6 rfl).pick hf 5 rfl).pick hf 1 rfl).pick hf 0 rfl), (hh.sub (kp1 kp0))⟩
  rintro s2 y2 hY1 hr2 a w' ⟨x1, x2, x3, x4, rfl, A5, c5, A6, c6, A7, c7, V5, hV5, hs5, hs6, hs7, hf, hh⟩
  let v9_ : List Value := [vi x1, .slice A5 x2.length c5]
  let i2_ : HObj := box b1 24 v9_
  refine (?_ : T 104 w V5 (i2_ :: []) [(0, .slice A6 s1.length c6), (1, .slice A2 p1.length c2), (5, pB b1 0), (6, .slice A7 x3.length c7), (7, vi x4)] _) a w' hf hh
  clear hf hh
  try dsimp only at hY1
  refine T.seq ?_
  refine T.seq ?_
  refine T.region ?_
  refine T.p3 (.slice A7 x3.length c7) (vi (x3.length : Int)) (.bool (decide ((0 : Int) < (x3.length : Int)))) (fun _ => by kernel_rfl) ?_
  refine T.nil ?_
  refine T.cond (decide ((0 : Int) < (x3.length : Int))) (by kernel_rfl) (by kernel_rfl) (fun hc3 => ?_) (fun hc3 => ?_)
  ·
   rw [hc3, cond_true] at hY1
   refine T.skip_code ?_
   refine T.seq ?_
   refine T.block ?_
   refine T.seq ?_
   refine T.region ?_
   refine T.pk (vi 0) (fun _ => by kernel_rfl) ?_
   refine T.nil ?_
   obtain ⟨z3, hX1, hY1⟩ := ob hY1
   refine T.cut (fun a w' => ∃ (V7 : View), View.le V5 V7 ∧ Fr 104 [(0, .slice A6 s1.length c6), (1, .slice A2 p1.length c2), (5, pB b1 0), (6, .slice A7 x3.length c7), (7, vi x4), (8, vi z3)] a ∧ Hp w V7 (i2_ :: []) w') ?_ ?_
   ·
    refine T.seq ?_
    refine T.region ?_
    refine T.p4 (vi x4) (.slice A2 p1.length c2) (vi (p1.length : Int)) (.bool (decide (x4 < (p1.length : Int)))) (fun _ => by kernel_rfl) ?_
    refine T.nil ?_
    refine T.cond (decide (x4 < (p1.length : Int))) (by kernel_rfl) (by kernel_rfl) (fun hc4 => ?_) (fun hc4 => ?_)
    ·
     rw [hc4, cond_true] at hX1
     refine T.region ?_
     refine T.p2 (.slice A2 p1.length c2) (vi x4) (fun _ => by kernel_rfl) ?_
     obtain ⟨e1, hb6, hX1⟩ := ob hX1
     obtain ⟨hi1, hi2, hi3⟩ := idx_some hb6
     refine T.look (.pointer (some ((sadr A2).add (x4.toNat * 1)))) (by kernel_rfl) (fun w' hh => exec_indexAddr (e := 3) (s := 1) rfl rfl rfl (by kernel_rfl) (by kernel_rfl) hi1 hi2 ((SlOk.mono hs2 (vt (vt (vt (vt hV1 hV2) hV3) hV4) hV5)).some_ hi3 (by decide))) ?_
     refine T.look (vi e1) (by kernel_rfl) (fun w' hh => exec_load1 rfl rfl (by kernel_rfl) (hh.cell_view (SlOk.cellF0 (E := eInt) (SlOk.mono hs2 (vt (vt (vt (vt hV1 hV2) hV3) hV4) hV5)) hi3 (fun _ _ _ h => h) rfl))) ?_
     refine T.p2 (.slice A7 x3.length c7) (vi (x3.length : Int)) (fun _ => by kernel_rfl) ?_
     obtain ⟨r5, hb7, hX1⟩ := ob hX1
     refine T.step (W1.call (vSc eInt) r5 19 #[vi e1, vi (x3.length : Int)] (by kernel_rfl) (fun _ => by kernel_rfl) (fun w' hh => annalkeep_Within_l e1 (x3.length : Int) r5 hb7 w' ) ?_)
     intro u V8 hV8 hu
     obtain rfl := sureInt _ _ _ hu
     refine T.pk (vi r5) (fun _ => by kernel_rfl) ?_
     refine T.nil ?_
     cases hX1
     exact fun a w' hf hh => ⟨V8, hV8, (((((((Fr.nil hf).pick hf 8 rfl).pick hf 7 rfl).pick hf 6 rfl).pick hf 5 rfl).pick hf 1 rfl).pick hf 0 rfl), (hh.sub (kp1 kp0))⟩
    rw [hc4, cond_false] at hX1
    refine T.skip_code ?_
    cases hX1
    exact fun a w' hf hh => ⟨V5, vr, (((((((Fr.nil hf).pick hf 8 rfl).pick hf 7 rfl).pick hf 6 rfl).pick hf 5 rfl).pick hf 1 rfl).pick hf 0 rfl), (hh.sub (kp1 kp0))⟩
   rintro a w' ⟨V7, hV7, hf, hh⟩
   refine (?_ : T 104 w V7 (i2_ :: []) [(0, .slice A6 s1.length c6), (1, .slice A2 p1.length c2), (5, pB b1 0), (6, .slice A7 x3.length c7), (7, vi x4), (8, vi z3)] _) a w' hf hh
   clear hf hh
   refine T.seq ?_
   obtain ⟨e2, hb8, hY1⟩ := ob hY1
   obtain ⟨r6, hb9, hY1⟩ := ob hY1
   refine T.mid (fun a w' => ∃ (b2 : Nat) (A11 : Option Addr) (c11 : Nat) (V10 : View), View.le V7 V10 ∧ SlOk (made w V10) eNode A11 c11 r6.1.nodes ∧ Fr 104 [(0, .slice A6 s1.length c6), (1, .slice A2 p1.length c2), (5, pB b1 0), (6, .slice A7 x3.length c7), (7, vi x4), (8, vi z3), (9, pB b2 0), (10, vi r6.2)] a ∧ Hp w V10 ((box b2 24 [vi r6.1.root, .slice A11 r6.1.nodes.length c11]) :: i2_ :: []) w') ?_ ?_
   ·
    refine T.held (i2_ :: []) (by kernel_rfl) ?_
    let a14_ : Value := .agg #[vi x1, .slice A5 x2.length c5]
    have w17_ := vt (vt (vt (vt (vt hV1 hV2) hV3) hV4) hV5) hV7
    refine TA.keep (Hp.old vr w17_ (kp1 kp0) (oB1 ol0)) fun o19_ => ?_
    refine TA.tk 0 a14_ rfl (by kernel_rfl) (fun _ _ _ h => h) o19_ (ldN 0 rfl rfl (fun _ => by kernel_rfl) (by rfl) rfl) ?_
    refine TA.tp 1 (.slice A7 x3.length c7) rfl (fun _ => by kernel_rfl) (fun _ _ _ h => h) o19_ ?_
    refine TA.tp 2 (vi z3) rfl (fun _ => by kernel_rfl) (fun _ _ _ h => h) o19_ ?_
    obtain ⟨hi4, hi5, hi6⟩ := idx_some hb8
    refine TA.tk 3 (.pointer (some ((sadr A7).add (z3.toNat * 6)))) rfl (by kernel_rfl) (fun _ _ _ h => h) o19_ (fun w' hh => exec_indexAddr (e := 28) (s := 6) rfl rfl rfl (by kernel_rfl) (by kernel_rfl) hi4 hi5 ((SlOk.mono hs7 (vt (made_le _ _) hV7)).some_ hi6 (by decide))) ?_
    let a15_ : Value := .agg #[vi e2.key.pfs, vi e2.key.obj, vi e2.key.off, vi e2.made, vi e2.gone, .string e2.val]
    refine TA.tk 4 a15_ rfl (by kernel_rfl) (fun _ _ _ h => h) o19_ (fun w' hh => exec_loadN (cs := [vi e2.key.pfs, vi e2.key.obj, vi e2.key.off, vi e2.made, vi e2.gone, .string e2.val]) rfl rfl (by kernel_rfl) (by kernel_rfl) (fun j u hj => (hh.cell_view (SlOk.cellF (E := eElem) (SlOk.mono hs7 (vt (made_le _ _) hV7)) hi6 j (fun _ _ _ h => h) hj)))) ?_
    refine TA.all [5, 9] (by kernel_rfl) rfl ⟨?_, ?_, trivial⟩
    ·
     refine TA.br rfl (W1.call (vT2 (vAg eTree) (vSc eInt)) r6 29 #[a14_, a15_] (by kernel_rfl) (fun _ => by kernel_rfl) (fun w' hh => grow_Insert_l F (DTree.mk x1 x2) e2 r6 hb9 w' A5 c5 (SlOk.mono (SlOk.mono hs5 (vt (made_le _ _) hV7)) hh.view)) ?_)
     intro u V9 hV9 hu
     obtain ⟨u1, u2, rfl, hu1, hu2⟩ := vT2_elim hu
     obtain ⟨cs2, rfl, hr3⟩ := vagg_elim hu1
     obtain ⟨A10, c10, rfl, hs10⟩ := hr3
     obtain rfl := sureInt _ _ _ hu2
     refine TA.onk (Hp.old hV9 w17_ (kp1 kp0) (oB1 ol0)) fun o20_ => ?_
     refine TA.tp 6 (.tuple #[.agg #[vi r6.1.root, .slice A10 r6.1.nodes.length c10], vi r6.2]) rfl (fun _ => by kernel_rfl) (fun _ _ _ h => h) o20_ ?_
     refine TA.tp 7 (.agg #[vi r6.1.root, .slice A10 r6.1.nodes.length c10]) rfl (fun _ => by kernel_rfl) (fun _ _ _ h => h) o20_ ?_
     refine TA.tp 8 (vi r6.2) rfl (fun _ => by kernel_rfl) (fun _ _ _ h => h) o20_ ?_
     refine TA.all [9] (by kernel_rfl) rfl ⟨?_, trivial⟩
     refine TA.br rfl (W1.np 24 v7_ (fun _ => by kernel_rfl) (fun b2 => ?_))
     refine TA.on (Hp.old hV9 w17_ (dr1 (kp1 kp0)) (oB1 ol0)) ?_
     refine TA.all [10] (by kernel_rfl) rfl ⟨?_, trivial⟩
     let v10_ : List Value := [vi r6.1.root, .slice A10 r6.1.nodes.length c10]
     refine TA.br rfl (W1.st 0 v10_ ((box b2 24 v10_) :: i2_ :: []) v10_ (by rfl) rfl rfl rfl rfl rfl rfl (fun _ => by kernel_rfl) ?_)
     refine TA.onk (Hp.old hV9 w17_ (dr1 (kp1 kp0)) (oB1 ol0)) fun o21_ => ?_
     refine TA.tp 11 (vi r6.2) rfl (fun _ => by kernel_rfl) (fun _ _ _ h => h) o21_ ?_
     refine TA.done (by kernel_rfl) ?_
     exact fun a w' hf hh => ⟨b2, A10, c10, V9, hV9, (SlOk.mono hs10 (made_mono vr)), (((((((((Fr.nil hf).pick hf 10 rfl).pick hf 9 rfl).pick hf 8 rfl).pick hf 7 rfl).pick hf 6 rfl).pick hf 5 rfl).pick hf 1 rfl).pick hf 0 rfl), (hh.sub (kp1 (kp1 kp0)))⟩
    refine TA.br rfl (W1.np 24 v7_ (fun _ => by kernel_rfl) (fun b2 => ?_))
    refine TA.on (Hp.old vr w17_ (dr1 (kp1 kp0)) (oB1 ol0)) ?_
    refine TA.all [5] (by kernel_rfl) rfl ⟨?_, trivial⟩
    refine TA.br rfl (W1.call (vT2 (vAg eTree) (vSc eInt)) r6 29 #[a14_, a15_] (by kernel_rfl) (fun _ => by kernel_rfl) (fun w' hh => grow_Insert_l F (DTree.mk x1 x2) e2 r6 hb9 w' A5 c5 (SlOk.mono (SlOk.mono hs5 (vt (made_le _ _) hV7)) hh.view)) ?_)
    intro u V9 hV9 hu
    obtain ⟨u1, u2, rfl, hu1, hu2⟩ := vT2_elim hu
    obtain ⟨cs2, rfl, hr3⟩ := vagg_elim hu1
    obtain ⟨A10, c10, rfl, hs10⟩ := hr3
    obtain rfl := sureInt _ _ _ hu2
    refine TA.onk (Hp.old hV9 w17_ (dr1 (kp1 kp0)) (oB1 ol0)) fun o22_ => ?_
    refine TA.tp 6 (.tuple #[.agg #[vi r6.1.root, .slice A10 r6.1.nodes.length c10], vi r6.2]) rfl (fun _ => by kernel_rfl) (fun _ _ _ h => h) o22_ ?_
    refine TA.tp 7 (.agg #[vi r6.1.root, .slice A10 r6.1.nodes.length c10]) rfl (fun _ => by kernel_rfl) (fun _ _ _ h => h) o22_ ?_
    refine TA.tp 8 (vi r6.2) rfl (fun _ => by kernel_rfl) (fun _ _ _ h => h) o22_ ?_
    refine TA.all [10] (by kernel_rfl) rfl ⟨?_, trivial⟩
    let v11_ : List Value := [vi r6.1.root, .slice A10 r6.1.nodes.length c10]
    refine TA.br rfl (W1.st 0 v11_ ((box b2 24 v11_) :: i2_ :: []) v11_ (by rfl) rfl rfl rfl rfl rfl rfl (fun _ => by kernel_rfl) ?_)
    refine TA.onk (Hp.old hV9 w17_ (dr1 (kp1 kp0)) (oB1 ol0)) fun o23_ => ?_
    refine TA.tp 11 (vi r6.2) rfl (fun _ => by kernel_rfl) (fun _ _ _ h => h) o23_ ?_
    refine TA.done (by kernel_rfl) ?_
    exact fun a w' hf hh => ⟨b2, A10, c10, V9, hV9, (SlOk.mono hs10 (made_mono vr)), (((((((((Fr.nil hf).pick hf 10 rfl).pick hf 9 rfl).pick hf 8 rfl).pick hf 7 rfl).pick hf 6 rfl).pick hf 5 rfl).pick hf 1 rfl).pick hf 0 rfl), (hh.sub (kp1 (kp1 kp0)))⟩
   rintro a w' ⟨b2, A11, c11, V10, hV10, hs11, hf, hh⟩
   let v12_ : List Value := [vi r6.1.root, .slice A11 r6.1.nodes.length c11]
   let i3_ : HObj := box b2 24 v12_
   let t4_ : List HObj := i3_ :: i2_ :: []
   refine (?_ : T 104 w V10 t4_ [(0, .slice A6 s1.length c6), (1, .slice A2 p1.length c2), (5, pB b1 0), (6, .slice A7 x3.length c7), (7, vi x4), (8, vi z3), (9, pB b2 0), (10, vi r6.2)] _) a w' hf hh
   clear hf hh
   refine T.seq ?_
   refine T.seq ?_
   refine T.region ?_
   refine T.p2 (vi r6.2) (.bool (r6.2 != 0)) (fun _ => by kernel_rfl) ?_
   refine T.nil ?_
   refine T.cond (r6.2 != 0) (by kernel_rfl) (by kernel_rfl) (fun hc5 => ?_) (fun hc5 => ?_)
   ·
    rw [hc5, cond_true] at hY1
    refine T.seq ?_
    refine T.region ?_
    refine T.pk (.bool false) (fun _ => by kernel_rfl) ?_
    refine T.nil ?_
    cases hY1
    cases (hr2 _ rfl)
    try dsimp only at hF
    cases hF
    refine T.ret rfl ?_
    exact T.ret1 rfl (ResIs.tmp rfl) fun w' hh => ⟨_, rfl, hh.below, (show _ from rfl)⟩
   rw [hc5, cond_false] at hY1
   refine T.skip_code ?_
   refine T.held (i3_ :: []) (by kernel_rfl) ?_
   have w18_ := vt (vt (vt (vt (vt (vt hV1 hV2) hV3) hV4) hV5) hV7) hV10
   refine TA.keep (Hp.old vr w18_ (kp1 (dr1 kp0)) (oB1 ol0)) fun o24_ => ?_
   refine TA.tk 0 (.agg #[vi r6.1.root, .slice A11 r6.1.nodes.length c11]) rfl (by kernel_rfl) (fun _ _ _ h => h) o24_ (ldN 0 rfl rfl (fun _ => by kernel_rfl) (by rfl) rfl) ?_
   refine TA.tp 1 (.slice A7 x3.length c7) rfl (fun _ => by kernel_rfl) (fun _ _ _ h => h) o24_ ?_
   refine TA.tp 2 (vi z3) rfl (fun _ => by kernel_rfl) (fun _ _ _ h => h) o24_ ?_
   obtain ⟨s3, hb10, hY1⟩ := ob hY1
   refine TA.tk 3 (.slice A7 s3.length c7) rfl (by kernel_rfl) (fun _ _ _ h => h) o24_ (fun w' hh => exec_slice_list0 (e := 28) (s := 6) (lx := none) (hx := (some _)) (k := .i64) (k' := .i64) rfl rfl (by kernel_rfl) (by kernel_rfl) ((SlOk.mono hs7 (vt (made_le _ _) (vt hV7 hV10)))).1 rfl rfl hb10) ?_
   refine TA.tp 4 (.slice A7 x3.length c7) rfl (fun _ => by kernel_rfl) (fun _ _ _ h => h) o24_ ?_
   refine TA.tp 5 (vi z3) rfl (fun _ => by kernel_rfl) (fun _ _ _ h => h) o24_ ?_
   refine TA.tp 6 (vi (IntKind.i64.wrap (z3 + 1))) rfl (fun _ => by kernel_rfl) (fun _ _ _ h => h) o24_ ?_
   obtain ⟨s4, hb11, hY1⟩ := ob hY1
   refine TA.tk 7 (.slice (cutA A7 c7 (IntKind.i64.wrap (z3 + 1)).toNat 6) s4.length (c7 - (IntKind.i64.wrap (z3 + 1)).toNat)) rfl (by kernel_rfl) (fun _ _ _ h => h) o24_ (fun w' hh => exec_slice_list (e := 28) (s := 6) (lx := (some _)) (hx := none) (k := .i64) (k' := .i64) rfl rfl (by kernel_rfl) (by kernel_rfl) ((SlOk.mono hs7 (vt (made_le _ _) (vt hV7 hV10)))).1 rfl rfl hb11) ?_
   refine TA.all [8] (by kernel_rfl) rfl ⟨?_, trivial⟩
   refine TA.br rfl (W1.new 34 [.slice A7 s3.length c7, .slice (cutA A7 c7 (IntKind.i64.wrap (z3 + 1)).toNat 6) s4.length (c7 - (IntKind.i64.wrap (z3 + 1)).toNat)] (fun b => .slice (some ⟨b, 0, none⟩) 2 2) (by kernel_rfl) (fun _ => by kernel_rfl) (fun b3 => ?_))
   refine TA.on (Hp.old vr w18_ (dr1 (kp1 (dr1 kp0))) (oB1 ol0)) ?_
   refine TA.all [9] (by kernel_rfl) rfl ⟨?_, trivial⟩
   obtain ⟨z4, hX2, hY1⟩ := ob hY1
   refine TA.br rfl (W1.within 25 [.slice (some ⟨b3, 0, none⟩) 2 2] (fun v w' => ∃ (A12 : Option Addr) (c12 : Nat) (A13 : Option Addr) (c13 : Nat) (A14 : Option Addr) (c14 : Nat) (A15 : Option Addr) (c15 : Nat) (A16 : Option Addr) (c16 : Nat) (V11 : View), View.le V10 V11 ∧ SlOk (made w V11) eElem A13 c13 s3 ∧ SlOk (made w V11) eElem A14 c14 s4 ∧ SlOk (made w V11) eElem A15 c15 s3 ∧ SlOk (made w V11) eElem A16 c16 s4 ∧ v = .slice A12 z4.length c12 ∧ Hp w V11 ((row 28 eElem A12 c12 z4) :: (box b3 34 [.slice A13 s3.length c13, .slice A14 s4.length c14]) :: t4_) w') Try.func25 rfl rfl (by kernel_rfl) (fun _ => by kernel_rfl) rfl ?_ ?_)
   ·
    refine T.seq ?_
    refine T.region ?_
    refine T.pk sN (fun _ => by kernel_rfl) ?_
    refine T.nil ?_
    refine T.seq ?_
    refine T.region ?_
    refine T.pk (vi 0) (fun _ => by kernel_rfl) ?_
    refine T.nil ?_
    refine T.seq ?_
    refine T.seq ?_
    refine T.region ?_
    refine T.p3 (.slice (some ⟨b3, 0, none⟩) 2 2) (vi 2) (vi 0) (fun _ => by kernel_rfl) ?_
    refine T.nil ?_
    refine T.block ?_
    refine T.rounds 3 ?_
    refine T.round ?_
    refine T.seq ?_
    refine T.region ?_
    refine T.pk (.bool true) (fun _ => by kernel_rfl) ?_
    refine T.nil ?_
    refine T.seq ?_
    refine T.cond true (by kernel_rfl) (by kernel_rfl) (fun _ => ?_) (fun h => Bool.noConfusion h)
    refine T.skip_code ?_
    refine T.seq ?_
    refine T.block ?_
    refine T.seq ?_
    refine T.region ?_
    refine T.pk (pB b3 0) (fun _ => by kernel_rfl) ?_
    refine T.look (.slice A7 s3.length c7) (by kernel_rfl) (ld1 0 rfl rfl (fun _ => by kernel_rfl) (by rfl) rfl) ?_
    refine T.pk (.slice A7 s3.length c7) (fun _ => by kernel_rfl) ?_
    refine T.nil ?_
    refine T.seq ?_
    refine T.region ?_
    refine T.p5 (vi 0) (.slice A7 s3.length c7) (vi (s3.length : Int)) (vi (IntKind.i64.wrap (0 + (s3.length : Int)))) (vi (IntKind.i64.wrap (0 + (s3.length : Int)))) (fun _ => by kernel_rfl) ?_
    refine T.nil ?_
    refine T.seq ?_
    refine T.region ?_
    refine T.p2 (vi (IntKind.i64.wrap (0 + (s3.length : Int)))) (.bool (decide ((IntKind.i64.wrap (0 + (s3.length : Int))) < 0))) (fun _ => by kernel_rfl) ?_
    refine T.nil ?_
    refine T.cond (decide ((IntKind.i64.wrap (0 + (s3.length : Int))) < 0)) (by kernel_rfl) (by kernel_rfl) (fun hc6 => ?_) (fun hc6 => ?_)
    ·
     rw [hc6, cond_true] at hX2
     cases hX2
    rw [hc6, cond_false] at hX2
    refine T.skip_code ?_
    refine T.region ?_
    refine T.p2 (vi 1) (vi 1) (fun _ => by kernel_rfl) ?_
    refine T.nil ?_
    refine T.round ?_
    refine T.seq ?_
    refine T.region ?_
    refine T.pk (.bool true) (fun _ => by kernel_rfl) ?_
    refine T.nil ?_
    refine T.seq ?_
    refine T.cond true (by kernel_rfl) (by kernel_rfl) (fun _ => ?_) (fun h => Bool.noConfusion h)
    refine T.skip_code ?_
    refine T.seq ?_
    refine T.block ?_
    refine T.seq ?_
    refine T.region ?_
    refine T.pk (pB b3 1) (fun _ => by kernel_rfl) ?_
    refine T.look (.slice (cutA A7 c7 (IntKind.i64.wrap (z3 + 1)).toNat 6) s4.length (c7 - (IntKind.i64.wrap (z3 + 1)).toNat)) (by kernel_rfl) (ld1 0 rfl rfl (fun _ => by kernel_rfl) (by rfl) rfl) ?_
    refine T.pk (.slice (cutA A7 c7 (IntKind.i64.wrap (z3 + 1)).toNat 6) s4.length (c7 - (IntKind.i64.wrap (z3 + 1)).toNat)) (fun _ => by kernel_rfl) ?_
    refine T.nil ?_
    refine T.seq ?_
    refine T.region ?_
    refine T.p5 (vi (IntKind.i64.wrap (0 + (s3.length : Int)))) (.slice (cutA A7 c7 (IntKind.i64.wrap (z3 + 1)).toNat 6) s4.length (c7 - (IntKind.i64.wrap (z3 + 1)).toNat)) (vi (s4.length : Int)) (vi (IntKind.i64.wrap ((IntKind.i64.wrap (0 + (s3.length : Int))) + (s4.length : Int)))) (vi (IntKind.i64.wrap ((IntKind.i64.wrap (0 + (s3.length : Int))) + (s4.length : Int)))) (fun _ => by kernel_rfl) ?_
    refine T.nil ?_
    refine T.seq ?_
    refine T.region ?_
    refine T.p2 (vi (IntKind.i64.wrap ((IntKind.i64.wrap (0 + (s3.length : Int))) + (s4.length : Int)))) (.bool (decide ((IntKind.i64.wrap ((IntKind.i64.wrap (0 + (s3.length : Int))) + (s4.length : Int))) < 0))) (fun _ => by kernel_rfl) ?_
    refine T.nil ?_
    refine T.cond (decide ((IntKind.i64.wrap ((IntKind.i64.wrap (0 + (s3.length : Int))) + (s4.length : Int))) < 0)) (by kernel_rfl) (by kernel_rfl) (fun hc7 => ?_) (fun hc7 => ?_)
    ·
     rw [hc7, cond_true] at hX2
     cases hX2
    rw [hc7, cond_false] at hX2
    refine T.skip_code ?_
    refine T.region ?_
    refine T.p2 (vi 2) (vi 2) (fun _ => by kernel_rfl) ?_
    refine T.nil ?_
    refine T.round ?_
    refine T.seq ?_
    refine T.region ?_
    refine T.pk (.bool false) (fun _ => by kernel_rfl) ?_
    refine T.nil ?_
    refine T.seq ?_
    refine T.cond false (by kernel_rfl) (by kernel_rfl) (fun h => Bool.noConfusion h) (fun _ => ?_)
    refine T.exit ?_
    refine T.seq ?_
    refine T.region ?_
    refine T.pk (vi (IntKind.i64.wrap ((IntKind.i64.wrap (0 + (s3.length : Int))) + (s4.length : Int)))) (fun _ => by kernel_rfl) ?_
    obtain ⟨z5, hX3, hX2⟩ := ob hX2
    refine T.step (W1.within 52 [sN, vi (IntKind.i64.wrap ((IntKind.i64.wrap (0 + (s3.length : Int))) + (s4.length : Int)))] (fun v w' => ∃ (A17 : Option Addr) (c17 : Nat) (A18 : Option Addr) (c18 : Nat) (A19 : Option Addr) (c19 : Nat) (V12 : View), View.le V10 V12 ∧ SlOk (made w V12) eElem A18 c18 s3 ∧ SlOk (made w V12) eElem A19 c19 s4 ∧ v = .slice A17 z5.length c17 ∧ Hp w V12 ((row 28 eElem A17 c17 z5) :: (box b3 34 [.slice A18 s3.length c18, .slice A19 s4.length c19]) :: t4_) w') Try.func52 rfl rfl (by kernel_rfl) (fun _ => by kernel_rfl) rfl ?_ ?_)
    ·
     refine T.seq ?_
     refine T.region ?_
     refine T.pk sN (fun _ => by kernel_rfl) ?_
     refine T.nil ?_
     refine T.seq ?_
     refine T.seq ?_
     refine T.region ?_
     refine T.p2 (vi (IntKind.i64.wrap ((IntKind.i64.wrap (0 + (s3.length : Int))) + (s4.length : Int)))) (.bool (decide ((IntKind.i64.wrap ((IntKind.i64.wrap (0 + (s3.length : Int))) + (s4.length : Int))) < 0))) (fun _ => by kernel_rfl) ?_
     refine T.nil ?_
     refine T.cond (decide ((IntKind.i64.wrap ((IntKind.i64.wrap (0 + (s3.length : Int))) + (s4.length : Int))) < 0)) (by kernel_rfl) (by kernel_rfl) (fun h => absurd (hc7.symm.trans h) (by decide)) (fun _ => ?_)
     refine T.skip_code ?_
     obtain ⟨z6, hX4, hX3⟩ := ob hX3
     refine T.cut (fun a w' => ∃ (A20 : Option Addr) (c20 : Nat) (A21 : Option Addr) (c21 : Nat) (A22 : Option Addr) (c22 : Nat) (V13 : View), View.le V10 V13 ∧ SlOk (made w V13) eElem A21 c21 s3 ∧ SlOk (made w V13) eElem A22 c22 s4 ∧ Fr 27 [(0, .slice A20 z6.length c20)] a ∧ Hp w V13 ((row 28 eElem A20 c20 z6) :: (box b3 34 [.slice A21 s3.length c21, .slice A22 s4.length c22]) :: t4_) w') ?_ ?_
     ·
      refine T.seq ?_
      refine T.region ?_
      refine T.p8 (vi (IntKind.i64.wrap ((IntKind.i64.wrap (0 + (s3.length : Int))) + (s4.length : Int)))) sN (vi 0) sN (vi 0) (vi 0) (vi (IntKind.i64.wrap ((IntKind.i64.wrap ((IntKind.i64.wrap (0 + (s3.length : Int))) + (s4.length : Int))) - 0))) (vi (IntKind.i64.wrap ((IntKind.i64.wrap ((IntKind.i64.wrap (0 + (s3.length : Int))) + (s4.length : Int))) - 0))) (fun _ => by kernel_rfl) ?_
      refine T.nil ?_
      refine T.seq ?_
      refine T.region ?_
      refine T.p2 (vi (IntKind.i64.wrap ((IntKind.i64.wrap ((IntKind.i64.wrap (0 + (s3.length : Int))) + (s4.length : Int))) - 0))) (.bool (decide ((0 : Int) < (IntKind.i64.wrap ((IntKind.i64.wrap ((IntKind.i64.wrap (0 + (s3.length : Int))) + (s4.length : Int))) - 0))))) (fun _ => by kernel_rfl) ?_
      refine T.nil ?_
      refine T.cond (decide ((0 : Int) < (IntKind.i64.wrap ((IntKind.i64.wrap ((IntKind.i64.wrap (0 + (s3.length : Int))) + (s4.length : Int))) - 0)))) (by kernel_rfl) (by kernel_rfl) (fun hc8 => ?_) (fun hc8 => ?_)
      ·
       rw [hc8, cond_true] at hX4
       refine T.region ?_
       refine T.p5 sN sN (vi 0) sN (vi (IntKind.i64.wrap ((IntKind.i64.wrap ((IntKind.i64.wrap (0 + (s3.length : Int))) + (s4.length : Int))) - 0))) (fun _ => by kernel_rfl) ?_
       obtain ⟨u3, hb12, hX4⟩ := ob hX4
       obtain ⟨ti, hti, hz1, hz2, hz3⟩ := info_parts (P := Try.prog) (e := 28) (z := .agg #[vi 0, vi 0, vi 0, vi 0, vi 0, .string (ByteArray.mk #[])]) (size := 6) (bytes := 56) (by kernel_rfl)
       obtain ⟨hb12_0, hb12_r, hb12_m, hb12_n⟩ := noughts_some hb12
       refine T.step (W1.growz (E := eElem) (x := ((DElem.mk (DKey.mk 0 0 0) 0 0 (ByteArray.mk #[])) : DElem)) (z := .agg #[vi 0, vi 0, vi 0, vi 0, vi 0, .string (ByteArray.mk #[])]) (kn := .i64) ((IntKind.i64.wrap ((IntKind.i64.wrap ((IntKind.i64.wrap (0 + (s3.length : Int))) + (s4.length : Int))) - 0)).toNat) _ _ 56 ti hb12_0 (by kernel_rfl) rfl (by kernel_rfl) (by kernel_rfl) hti hz1 hz2 hz3 (fun _ => rfl) rfl (by decide) rfl (congrArg (Value.int _) hb12_n) hb12_r hb12_m (fun A23 c23 => ?_))
       refine T.p2 sN (vi 0) (fun _ => by kernel_rfl) ?_
       obtain ⟨s5, hb13, hX4⟩ := ob hX4
       refine T.look (.slice A23 s5.length c23) (by kernel_rfl) (sl0 0 (e := 28) (s := 6) rfl rfl (fun _ => by kernel_rfl) (by rfl) rfl hb13) ?_
       refine T.pk (.slice A23 s5.length c23) (fun _ => by kernel_rfl) ?_
       refine T.nil ?_
       refine T.shrink (l := s5) 0 (by rfl) (lslice_prefix hb13) ?_
       cases hX4
       exact fun a w' hf hh => ⟨A23, c23, A7, c7, (cutA A7 c7 (IntKind.i64.wrap (z3 + 1)).toNat 6), (c7 - (IntKind.i64.wrap (z3 + 1)).toNat), V10, vr, (SlOk.cut0 (SlOk.mono hs7 (made_mono (vt hV7 hV10))) hb10), (SlOk.cut (SlOk.mono hs7 (made_mono (vt hV7 hV10))) hb11), ((Fr.nil hf).pick hf 0 rfl), (hh.sub (kp3 (kp1 kp0)))⟩
      rw [hc8, cond_false] at hX4
      refine T.skip_code ?_
      refine T.rownil 28 eElem ?_
      cases hX4
      exact fun a w' hf hh => ⟨none, 0, A7, c7, (cutA A7 c7 (IntKind.i64.wrap (z3 + 1)).toNat 6), (c7 - (IntKind.i64.wrap (z3 + 1)).toNat), V10, vr, (SlOk.cut0 (SlOk.mono hs7 (made_mono (vt hV7 hV10))) hb10), (SlOk.cut (SlOk.mono hs7 (made_mono (vt hV7 hV10))) hb11), ((Fr.nil hf).pick hf 0 rfl), (hh.sub (kp3 (kp1 kp0)))⟩
     rintro a w' ⟨A20, c20, A21, c21, A22, c22, V13, hV13, hs18, hs19, hf, hh⟩
     refine (?_ : T 27 w V13 ((row 28 eElem A20 c20 z6) :: (box b3 34 [.slice A21 s3.length c21, .slice A22 s4.length c22]) :: t4_) [(0, .slice A20 z6.length c20)] _) a w' hf hh
     clear hf hh
     refine T.seq ?_
     refine T.region ?_
     refine T.p2 (.slice A20 z6.length c20) (.slice A20 z6.length c20) (fun _ => by kernel_rfl) ?_
     refine T.nil ?_
     cases hX3
     refine T.ret rfl ?_
     exact T.ret1 rfl (ResIs.tmp rfl) fun w' hh => ⟨_, rfl, ⟨A20, c20, A21, c21, A22, c22, V13, hV13, (SlOk.mono hs18 (made_mono vr)), (SlOk.mono hs19 (made_mono vr)), rfl, (hh.sub (kp3 (kp1 kp0)))⟩⟩
    rintro v w' ⟨A17, c17, A18, c18, A19, c19, V12, hV12, hs16, hs17, rfl, hh⟩
    refine ⟨V12, ((row 28 eElem A17 c17 z5) :: (box b3 34 [.slice A18 s3.length c18, .slice A19 s4.length c19]) :: t4_), hh, ?_⟩
    clear hh
    refine T.pk (.slice A17 z5.length c17) (fun _ => by kernel_rfl) ?_
    refine T.nil ?_
    refine T.seq ?_
    refine T.seq ?_
    refine T.region ?_
    refine T.p3 (.slice (some ⟨b3, 0, none⟩) 2 2) (vi 2) (vi 0) (fun _ => by kernel_rfl) ?_
    refine T.nil ?_
    refine T.block ?_
    refine T.rounds 3 ?_
    refine T.round ?_
    refine T.seq ?_
    refine T.region ?_
    refine T.pk (.bool true) (fun _ => by kernel_rfl) ?_
    refine T.nil ?_
    refine T.seq ?_
    refine T.cond true (by kernel_rfl) (by kernel_rfl) (fun _ => ?_) (fun h => Bool.noConfusion h)
    refine T.skip_code ?_
    refine T.seq ?_
    refine T.block ?_
    refine T.seq ?_
    refine T.region ?_
    refine T.pk (pB b3 0) (fun _ => by kernel_rfl) ?_
    refine T.look (.slice A18 s3.length c18) (by kernel_rfl) (ld1 1 rfl rfl (fun _ => by kernel_rfl) (by rfl) rfl) ?_
    refine T.pk (.slice A18 s3.length c18) (fun _ => by kernel_rfl) ?_
    refine T.nil ?_
    refine T.region ?_
    refine T.p2 (.slice A17 z5.length c17) (.slice A18 s3.length c18) (fun _ => by kernel_rfl) ?_
    obtain ⟨y3, hb14, hX2⟩ := ob hX2
    obtain ⟨hb14_r, hb14_m, rfl⟩ := grow_some hb14
    obtain ⟨ti, hti, hz1, hz2, hz3⟩ := info_parts (P := Try.prog) (e := 28) (z := .agg #[vi 0, vi 0, vi 0, vi 0, vi 0, .string (ByteArray.mk #[])]) (size := 6) (bytes := 56) (by kernel_rfl)
    refine T.step (W1.append (E := eElem) (l := z5) (m := s3) 0 _ _ 56 ti _ (by rfl) (by kernel_rfl) rfl (by kernel_rfl) hti hz1 hz2 hz3 rfl (by decide) rfl rfl (fun w' hh => (SlOk.srcF (SlOk.mono (SlOk.mono hs16 (vt (made_le _ _) vr)) hh.view) (fun _ _ _ _ h => h))) hb14_r hb14_m (fun A24 c24 => ?_))
    refine T.pk (.slice A24 ((z5 ++ s3).length) c24) (fun _ => by kernel_rfl) ?_
    refine T.nil ?_
    refine T.region ?_
    refine T.p2 (vi 1) (vi 1) (fun _ => by kernel_rfl) ?_
    refine T.nil ?_
    refine T.round ?_
    refine T.seq ?_
    refine T.region ?_
    refine T.pk (.bool true) (fun _ => by kernel_rfl) ?_
    refine T.nil ?_
    refine T.seq ?_
    refine T.cond true (by kernel_rfl) (by kernel_rfl) (fun _ => ?_) (fun h => Bool.noConfusion h)
    refine T.skip_code ?_
    refine T.seq ?_
    refine T.block ?_
    refine T.seq ?_
    refine T.region ?_
    refine T.pk (pB b3 1) (fun _ => by kernel_rfl) ?_
    refine T.look (.slice A19 s4.length c19) (by kernel_rfl) (ld1 1 rfl rfl (fun _ => by kernel_rfl) (by rfl) rfl) ?_
    refine T.pk (.slice A19 s4.length c19) (fun _ => by kernel_rfl) ?_
    refine T.nil ?_
    refine T.region ?_
    refine T.p2 (.slice A24 ((z5 ++ s3).length) c24) (.slice A19 s4.length c19) (fun _ => by kernel_rfl) ?_
    obtain ⟨y4, hb15, hX2⟩ := ob hX2
    obtain ⟨hb15_r, hb15_m, rfl⟩ := grow_some hb15
    obtain ⟨ti, hti, hz1, hz2, hz3⟩ := info_parts (P := Try.prog) (e := 28) (z := .agg #[vi 0, vi 0, vi 0, vi 0, vi 0, .string (ByteArray.mk #[])]) (size := 6) (bytes := 56) (by kernel_rfl)
    refine T.step (W1.append (E := eElem) (l := (z5 ++ s3)) (m := s4) 0 _ _ 56 ti _ (by rfl) (by kernel_rfl) rfl (by kernel_rfl) hti hz1 hz2 hz3 rfl (by decide) rfl rfl (fun w' hh => (SlOk.srcF (SlOk.mono (SlOk.mono hs17 (vt (made_le _ _) vr)) hh.view) (fun _ _ _ _ h => h))) hb15_r hb15_m (fun A25 c25 => ?_))
    refine T.pk (.slice A25 (((z5 ++ s3) ++ s4).length) c25) (fun _ => by kernel_rfl) ?_
    refine T.nil ?_
    refine T.region ?_
    refine T.p2 (vi 2) (vi 2) (fun _ => by kernel_rfl) ?_
    refine T.nil ?_
    refine T.round ?_
    refine T.seq ?_
    refine T.region ?_
    refine T.pk (.bool false) (fun _ => by kernel_rfl) ?_
    refine T.nil ?_
    refine T.seq ?_
    refine T.cond false (by kernel_rfl) (by kernel_rfl) (fun h => Bool.noConfusion h) (fun _ => ?_)
    refine T.exit ?_
    refine T.seq ?_
    refine T.region ?_
    refine T.p2 (.slice A25 (((z5 ++ s3) ++ s4).length) c25) (.slice A25 (((z5 ++ s3) ++ s4).length) c25) (fun _ => by kernel_rfl) ?_
    refine T.nil ?_
    cases hX2
    refine T.ret rfl ?_
    exact T.ret1 rfl (ResIs.tmp rfl) fun w' hh => ⟨_, rfl, ⟨A25, c25, A18, c18, A19, c19, A7, c7, (cutA A7 c7 (IntKind.i64.wrap (z3 + 1)).toNat 6), (c7 - (IntKind.i64.wrap (z3 + 1)).toNat), V12, hV12, (SlOk.mono hs16 (made_mono vr)), (SlOk.mono hs17 (made_mono vr)), (SlOk.cut0 (SlOk.mono hs7 (made_mono (vt (vt hV7 hV10) hV12))) hb10), (SlOk.cut (SlOk.mono hs7 (made_mono (vt (vt hV7 hV10) hV12))) hb11), rfl, (hh.sub (kp3 (kp1 kp0)))⟩⟩
   rintro v w' ⟨A12, c12, A13, c13, A14, c14, A15, c15, A16, c16, V11, hV11, hs12, hs13, hs14, hs15, rfl, hh⟩
   let i5_ : HObj := box b3 34 [.slice A13 s3.length c13, .slice A14 s4.length c14]
   refine ⟨V11, ((row 28 eElem A12 c12 z4) :: i5_ :: t4_), hh, ?_⟩
   clear hh
   refine TA.on (Hp.old hV11 w18_ (dr2 (kp1 (dr1 kp0))) (oB1 ol0)) ?_
   refine TA.all [10] (by kernel_rfl) rfl ⟨?_, trivial⟩
   let i6_ : HObj := box b1 24 v12_
   refine TA.br rfl (W1.st 3 v12_ ((row 28 eElem A12 c12 z4) :: i5_ :: i3_ :: i6_ :: []) v12_ (by rfl) rfl rfl rfl rfl rfl rfl (fun _ => by kernel_rfl) ?_)
   refine TA.onk (Hp.old hV11 w18_ (dr2 (kp1 (dr1 kp0))) (oB1 ol0)) fun o25_ => ?_
   refine TA.tp 11 (.slice A12 z4.length c12) rfl (fun _ => by kernel_rfl) (fun _ _ _ h => h) o25_ ?_
   refine TA.done (by kernel_rfl) ?_
   refine T.region ?_
   refine T.p3 (vi x4) (vi (IntKind.i64.wrap (x4 + 1))) (vi (IntKind.i64.wrap (x4 + 1))) (fun _ => by kernel_rfl) ?_
   refine T.nil ?_
   refine T.freezeF (E := eElem) (H' := (i5_ :: i3_ :: i6_ :: [])) 0 (by rfl) rfl (fun _ _ _ _ h => h) (fun V14 hV14 hs20 => ?_)
   cases hY1
   exact fun a w' hf hh => ⟨(r6.1.root, r6.1.nodes, z4, IntKind.i64.wrap (x4 + 1)), rfl, r6.1.root, r6.1.nodes, z4, (IntKind.i64.wrap (x4 + 1)), rfl, A11, c11, A6, c6, A12, c12, V14, (vt (vt (vt (vt hV5 hV7) hV10) hV11) hV14), (SlOk.mono hs11 (made_mono (vt hV11 hV14))), (SlOk.mono hs6 (vt (vt (vt hV7 hV10) hV11) hV14)), (SlOk.mono hs20 (made_mono vr)), ((((((Fr.nil hf).pick hf 7 rfl).pick hf 6 rfl).pick hf 5 rfl).pick hf 1 rfl).pick hf 0 rfl), (hh.sub (dr2 (kp1 kp0)))⟩
  rw [hc3, cond_false] at hY1
  refine T.exit ?_
  cases hY1
  cases (hr2 _ rfl)
  exact fun a w' hf hh => ⟨x1, x2, rfl, A5, c5, A6, c6, V5, hV5, (SlOk.mono hs5 (made_mono vr)), hs6, (((Fr.nil hf).pick hf 5 rfl).pick hf 0 rfl), (hh.sub (kp1 kp0))⟩
 rintro a w' ⟨z1, z2, rfl, A8, c8, A9, c9, V6, hV6, hs8, hs9, hf, hh⟩
 try dsimp only at hF
 let v13_ : List Value := [vi z1, .slice A8 z2.length c8]
 refine (?_ : T 104 w V6 ((box b1 24 v13_) :: []) [(0, .slice A9 s1.length c9), (5, pB b1 0)] _) a w' hf hh
 clear hf hh
 refine T.seq ?_
 refine T.region ?_
 let a16_ : Value := .agg #[vi z1, .slice A8 z2.length c8]
 refine T.look a16_ (by kernel_rfl) (ldN 0 rfl rfl (fun _ => by kernel_rfl) (by rfl) rfl) ?_
 obtain ⟨r9, hb16, hF⟩ := ob hF
 refine T.step (W1.call (vT2 (vSc (eList eElem)) (vSc eInt)) r9 17 #[a16_] (by kernel_rfl) (fun _ => by kernel_rfl) (fun w' hh => tree_All_l F (DTree.mk z1 z2) r9 hb16 w' A8 c8 (SlOk.mono (SlOk.mono hs8 (vt (made_le _ _) vr)) hh.view)) ?_)
 intro u V15 hV15 hu
 obtain ⟨u4, u5, rfl, hu3, hu4⟩ := vT2_elim hu
 obtain ⟨A26, c26, rfl, hs21⟩ := vlist_elim hu3
 obtain rfl := sureInt _ _ _ hu4
 refine T.p5 (.tuple #[.slice A26 r9.1.length c26, vi r9.2]) (.slice A26 r9.1.length c26) (vi r9.2) (.slice A26 r9.1.length c26) (vi r9.2) (fun _ => by kernel_rfl) ?_
 refine T.nil ?_
 refine T.seq ?_
 refine T.region ?_
 refine T.look a16_ (by kernel_rfl) (ldN 0 rfl rfl (fun _ => by kernel_rfl) (by rfl) rfl) ?_
 obtain ⟨r10, hb17, hF⟩ := ob hF
 refine T.step (W1.call (vT2 (vSc eInt) (vSc eInt)) r10 26 #[a16_] (by kernel_rfl) (fun _ => by kernel_rfl) (fun w' hh => tree_Depth_l F (DTree.mk z1 z2) r10 hb17 w' A8 c8 (SlOk.mono (SlOk.mono hs8 (vt (made_le _ _) hV15)) hh.view)) ?_)
 intro u V16 hV16 hu
 obtain rfl := (Sure.t2 sureInt sureInt) _ _ _ hu
 refine T.p5 (.tuple #[vi r10.1, vi r10.2]) (vi r10.1) (vi r10.2) (vi r10.1) (vi r10.2) (fun _ => by kernel_rfl) ?_
 refine T.nil ?_
 obtain ⟨z7, hX5, hF⟩ := ob hF
 refine T.cut (fun a w' => ∃ (V17 : View), View.le V16 V17 ∧ Fr 104 [(4, .bool z7)] a ∧ Hp w V17 [] w') ?_ ?_
 ·
  refine T.region ?_
  refine T.p3 (vi r9.2) (.bool (r9.2 == 0)) (.bool (r9.2 == 0)) (fun _ => by kernel_rfl) ?_
  cases hg1 : (r9.2 == 0)
  ·
   skip
   rw [hg1, cond_false] at hX5
   refine T.pass (by kernel_rfl) (by kernel_rfl) ?_
   refine T.pass (by kernel_rfl) (by kernel_rfl) ?_
   refine T.p2 (.bool false) (.bool false) (fun _ => by kernel_rfl) ?_
   refine T.pass (by kernel_rfl) (by kernel_rfl) ?_
   refine T.pass (by kernel_rfl) (by kernel_rfl) ?_
   refine T.pass (by kernel_rfl) (by kernel_rfl) ?_
   refine T.p2 (.bool false) (.bool false) (fun _ => by kernel_rfl) ?_
   refine T.pass (by kernel_rfl) (by kernel_rfl) ?_
   refine T.pass (by kernel_rfl) (by kernel_rfl) ?_
   refine T.pass (by kernel_rfl) (by kernel_rfl) ?_
   refine T.pass (by kernel_rfl) (by kernel_rfl) ?_
   refine T.pass (by kernel_rfl) (by kernel_rfl) ?_
   refine T.pass (by kernel_rfl) (by kernel_rfl) ?_
   refine T.pass (by kernel_rfl) (by kernel_rfl) ?_
   refine T.p2 (.bool false) (.bool false) (fun _ => by kernel_rfl) ?_
   refine T.pass (by kernel_rfl) (by kernel_rfl) ?_
   refine T.pass (by kernel_rfl) (by kernel_rfl) ?_
   refine T.pass (by kernel_rfl) (by kernel_rfl) ?_
   refine T.pass (by kernel_rfl) (by kernel_rfl) ?_
   refine T.pass (by kernel_rfl) (by kernel_rfl) ?_
   refine T.pass (by kernel_rfl) (by kernel_rfl) ?_
   refine T.pass (by kernel_rfl) (by kernel_rfl) ?_
   refine T.p2 (.bool false) (.bool false) (fun _ => by kernel_rfl) ?_
   refine T.nil ?_
   cases hX5
   exact fun a w' hf hh => ⟨V16, vr, ((Fr.nil hf).pick hf 4 rfl), (hh.sub (dr1 kp0))⟩
  skip
  rw [hg1, cond_true] at hX5
  refine T.p4 (vi r10.2) (.bool (r10.2 == 0)) (.bool (r10.2 == 0)) (.bool (r10.2 == 0)) (fun _ => by kernel_rfl) ?_
  cases hg2 : (r10.2 == 0)
  ·
   skip
   rw [hg2, cond_false] at hX5
   refine T.pass (by kernel_rfl) (by kernel_rfl) ?_
   refine T.pass (by kernel_rfl) (by kernel_rfl) ?_
   refine T.pass (by kernel_rfl) (by kernel_rfl) ?_
   refine T.p2 (.bool false) (.bool false) (fun _ => by kernel_rfl) ?_
   refine T.pass (by kernel_rfl) (by kernel_rfl) ?_
   refine T.pass (by kernel_rfl) (by kernel_rfl) ?_
   refine T.pass (by kernel_rfl) (by kernel_rfl) ?_
   refine T.pass (by kernel_rfl) (by kernel_rfl) ?_
   refine T.pass (by kernel_rfl) (by kernel_rfl) ?_
   refine T.pass (by kernel_rfl) (by kernel_rfl) ?_
   refine T.pass (by kernel_rfl) (by kernel_rfl) ?_
   refine T.p2 (.bool false) (.bool false) (fun _ => by kernel_rfl) ?_
   refine T.pass (by kernel_rfl) (by kernel_rfl) ?_
   refine T.pass (by kernel_rfl) (by kernel_rfl) ?_
   refine T.pass (by kernel_rfl) (by kernel_rfl) ?_
   refine T.pass (by kernel_rfl) (by kernel_rfl) ?_
   refine T.pass (by kernel_rfl) (by kernel_rfl) ?_
   refine T.pass (by kernel_rfl) (by kernel_rfl) ?_
   refine T.pass (by kernel_rfl) (by kernel_rfl) ?_
   refine T.p2 (.bool false) (.bool false) (fun _ => by kernel_rfl) ?_
   refine T.nil ?_
   cases hX5
   exact fun a w' hf hh => ⟨V16, vr, ((Fr.nil hf).pick hf 4 rfl), (hh.sub (dr1 kp0))⟩
  skip
  rw [hg2, cond_true] at hX5
  refine T.p2 (.slice A26 r9.1.length c26) (.slice A9 s1.length c9) (fun _ => by kernel_rfl) ?_
  obtain ⟨r11, hb18, hX5⟩ := ob hX5
  refine T.step (W1.call (vSc eBool) r11 18 #[.slice A26 r9.1.length c26, .slice A9 s1.length c9] (by kernel_rfl) (fun _ => by kernel_rfl) (fun w' hh => slices_Equal_Elem_l F r9.1 s1 r11 hb18 w' A26 c26 (SlOk.mono (SlOk.mono hs21 (vt (made_le _ _) hV16)) hh.view) A9 c9 (SlOk.mono (SlOk.mono hs9 (vt hV15 hV16)) hh.view)) ?_)
  intro u V18 hV18 hu
  obtain rfl := sureBool _ _ _ hu
  refine T.p2 (.bool r11) (.bool r11) (fun _ => by kernel_rfl) ?_
  cases hg3 : r11
  ·
   skip
   rw [hg3, cond_false] at hX5
   refine T.pass (by kernel_rfl) (by kernel_rfl) ?_
   refine T.pass (by kernel_rfl) (by kernel_rfl) ?_
   refine T.pass (by kernel_rfl) (by kernel_rfl) ?_
   refine T.pass (by kernel_rfl) (by kernel_rfl) ?_
   refine T.pass (by kernel_rfl) (by kernel_rfl) ?_
   refine T.pass (by kernel_rfl) (by kernel_rfl) ?_
   refine T.pass (by kernel_rfl) (by kernel_rfl) ?_
   refine T.p2 (.bool false) (.bool false) (fun _ => by kernel_rfl) ?_
   refine T.pass (by kernel_rfl) (by kernel_rfl) ?_
   refine T.pass (by kernel_rfl) (by kernel_rfl) ?_
   refine T.pass (by kernel_rfl) (by kernel_rfl) ?_
   refine T.pass (by kernel_rfl) (by kernel_rfl) ?_
   refine T.pass (by kernel_rfl) (by kernel_rfl) ?_
   refine T.pass (by kernel_rfl) (by kernel_rfl) ?_
   refine T.pass (by kernel_rfl) (by kernel_rfl) ?_
   refine T.p2 (.bool false) (.bool false) (fun _ => by kernel_rfl) ?_
   refine T.nil ?_
   cases hX5
   exact fun a w' hf hh => ⟨V18, hV18, ((Fr.nil hf).pick hf 4 rfl), (hh.sub (dr1 kp0))⟩
  skip
  rw [hg3, cond_true] at hX5
  refine T.p4 (.slice A9 s1.length c9) (vi (s1.length : Int)) (.bool (decide ((7 : Int) < (s1.length : Int)))) (.bool (decide ((7 : Int) < (s1.length : Int)))) (fun _ => by kernel_rfl) ?_
  cases hg4 : decide ((7 : Int) < (s1.length : Int))
  ·
   skip
   rw [hg4, cond_false] at hX5
   refine T.p5 (vi r10.1) (.bool (r10.1 == 1)) (.bool (r10.1 == 1)) (.bool (r10.1 == 1)) (.bool (r10.1 == 1)) (fun _ => by kernel_rfl) ?_
   cases hg5 : (r10.1 == 1)
   ·
    skip
    rw [hg5, cond_false] at hX5
    refine T.pass (by kernel_rfl) (by kernel_rfl) ?_
    refine T.pass (by kernel_rfl) (by kernel_rfl) ?_
    refine T.pass (by kernel_rfl) (by kernel_rfl) ?_
    refine T.pass (by kernel_rfl) (by kernel_rfl) ?_
    refine T.pass (by kernel_rfl) (by kernel_rfl) ?_
    refine T.pass (by kernel_rfl) (by kernel_rfl) ?_
    refine T.pass (by kernel_rfl) (by kernel_rfl) ?_
    refine T.p2 (.bool false) (.bool false) (fun _ => by kernel_rfl) ?_
    refine T.nil ?_
    cases hX5
    exact fun a w' hf hh => ⟨V18, hV18, ((Fr.nil hf).pick hf 4 rfl), (hh.sub (dr1 kp0))⟩
   skip
   rw [hg5, cond_true] at hX5
   refine T.p4 (.slice A9 s1.length c9) (vi (s1.length : Int)) (.bool (decide ((31 : Int) < (s1.length : Int)))) (.bool (decide ((31 : Int) < (s1.length : Int)))) (fun _ => by kernel_rfl) ?_
   cases hg6 : decide ((31 : Int) < (s1.length : Int))
   ·
    skip
    rw [hg6, cond_false] at hX5
    refine T.p5 (vi r10.1) (.bool (decide (r10.1 ≤ 2))) (.bool (decide (r10.1 ≤ 2))) (.bool (decide (r10.1 ≤ 2))) (.bool (decide (r10.1 ≤ 2))) (fun _ => by kernel_rfl) ?_
    refine T.nil ?_
    cases hX5
    exact fun a w' hf hh => ⟨V18, hV18, ((Fr.nil hf).pick hf 4 rfl), (hh.sub (dr1 kp0))⟩
   skip
   rw [hg6, cond_true] at hX5
   refine T.pass (by kernel_rfl) (by kernel_rfl) ?_
   refine T.pass (by kernel_rfl) (by kernel_rfl) ?_
   refine T.p3 (.bool true) (.bool true) (.bool true) (fun _ => by kernel_rfl) ?_
   refine T.nil ?_
   cases hX5
   exact fun a w' hf hh => ⟨V18, hV18, ((Fr.nil hf).pick hf 4 rfl), (hh.sub (dr1 kp0))⟩
  skip
  rw [hg4, cond_true] at hX5
  refine T.pass (by kernel_rfl) (by kernel_rfl) ?_
  refine T.pass (by kernel_rfl) (by kernel_rfl) ?_
  refine T.p7 (.bool true) (.bool true) (.bool true) (.slice A9 s1.length c9) (vi (s1.length : Int)) (.bool (decide ((31 : Int) < (s1.length : Int)))) (.bool (decide ((31 : Int) < (s1.length : Int)))) (fun _ => by kernel_rfl) ?_
  cases hg7 : decide ((31 : Int) < (s1.length : Int))
  ·
   skip
   rw [hg7, cond_false] at hX5
   refine T.p5 (vi r10.1) (.bool (decide (r10.1 ≤ 2))) (.bool (decide (r10.1 ≤ 2))) (.bool (decide (r10.1 ≤ 2))) (.bool (decide (r10.1 ≤ 2))) (fun _ => by kernel_rfl) ?_
   refine T.nil ?_
   cases hX5
   exact fun a w' hf hh => ⟨V18, hV18, ((Fr.nil hf).pick hf 4 rfl), (hh.sub (dr1 kp0))⟩
  skip
  rw [hg7, cond_true] at hX5
  refine T.pass (by kernel_rfl) (by kernel_rfl) ?_
  refine T.pass (by kernel_rfl) (by kernel_rfl) ?_
  refine T.p3 (.bool true) (.bool true) (.bool true) (fun _ => by kernel_rfl) ?_
  refine T.nil ?_
  cases hX5
  exact fun a w' hf hh => ⟨V18, hV18, ((Fr.nil hf).pick hf 4 rfl), (hh.sub (dr1 kp0))⟩
 rintro a w' ⟨V17, hV17, hf, hh⟩
 refine (?_ : T 104 w V17 [] [(4, .bool z7)] _) a w' hf hh
 clear hf hh
 cases hF
 refine T.ret rfl ?_
 exact T.ret1 rfl (ResIs.tmp rfl) fun w' hh => ⟨_, rfl, hh.below, (show _ from rfl)⟩
end Go.Proofs.Ytcmkdoahkncakaa
