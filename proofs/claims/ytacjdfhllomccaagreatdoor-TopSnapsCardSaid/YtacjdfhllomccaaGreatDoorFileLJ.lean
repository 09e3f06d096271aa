/- The Go functions of group File compute the pure functions of that group: written by walkgen.py. Condition of each: the pure function yields a result. -/
import Derived.Test.YtacjdfhllomccaaGreatDoorSh2J
import Derived.Test.YtacjdfhllomccaaGreatDoorRunLJ
import Derived.Test.YtacjdfhllomccaaGreatDoorFileFJ
import Derived.Test.YtacjdfhllomccaaGreatDoorEqLJ
namespace Go.Proofs.YtacjdfhllomccaaGreatDoor
set_option linter.unusedVariables false
set_option maxRecDepth 100000 in
set_option maxHeartbeats 4000000 in
theorem file_block_l (p0 : Int) (p1 : Int) (p2 : Int) (r : DKey) (hF : file_block p0 p1 p2 = some r) (w : World)  :
 Calls Tryz.prog 98 #[.int .i64 p0, .int .i64 p1, .int .i64 p2] w (Post (vAg eKey) r w) := by
 unfold file_block at hF
 refine T.start (l := [vi p0, vi p1, vi p2]) Tryz.func98 rfl rfl rfl ?_
 refine T.seq (T.region (T.step (W1.np 42 [vi 0, vi 0, vi 0] (fun _ => by kernel_rfl) (fun b1 => ?_))))
 refine T.nil (T.seq (T.region (T.p5 (vi p0) (vi p1) (vi p2) (vi (IntKind.i64.wrap (1 + p2))) (.agg #[vi p0, vi p1, vi (IntKind.i64.wrap (1 + p2))]) (fun _ => by kernel_rfl) ?_)))
 let v1_ : List Value := [vi p0, vi p1, vi (IntKind.i64.wrap (1 + p2))]
 refine T.step (W1.st 0 v1_ ((box b1 42 v1_) :: []) v1_ (by rfl) rfl rfl rfl rfl rfl rfl (fun _ => by kernel_rfl) ?_)
 refine T.nil ?_
 cases hF
 refine T.ret rfl ?_
 exact T.ret1 rfl (ResIs.cellN 0 rfl (by rfl) (fun _ => by kernel_rfl) (fun _ => by kernel_rfl)) fun w' hh => ⟨_, rfl, hh.below, (vAg.mk rfl)⟩
set_option maxRecDepth 100000 in
set_option maxHeartbeats 4000000 in
theorem file_look_l (F : Nat) (p0 : (List DElem)) (p1 : Int) (p2 : Int) (r : Int) (hF : file_look F p0 p1 p2 = some r) (w : World) (A1 : Option Addr) (c1 : Nat) (hs1 : SlOk (vw w) eElem A1 c1 p0) :
 Calls Tryz.prog 96 #[.slice A1 p0.length c1, .int .i64 p1, .int .i64 p2] w (Post (vSc eInt) r w) := by
 unfold file_look at hF
 refine T.start (l := [.slice A1 p0.length c1, vi p1, vi p2]) Tryz.func96 rfl rfl rfl ?_
 refine T.seq (T.region (T.pk (vi 0) (fun _ => by kernel_rfl) (T.nil (T.seq (T.seq (T.region (T.pk (.slice A1 p0.length c1) (fun _ => by kernel_rfl) ?_)))))))
 obtain ⟨r1, hb1, hF⟩ := ob hF
 refine T.step (W1.call (vSc eInt) r1 64 #[.slice A1 p0.length c1] (by kernel_rfl) (fun _ => by kernel_rfl) (fun w' hh => run_Check_l F p0 r1 hb1 w' A1 c1 (SlOk.mono hs1 hh.view)) ?_)
 intro u V1 hV1 hu
 obtain rfl := sureInt _ _ _ hu
 refine T.pk (vi r1) (fun _ => by kernel_rfl) (T.nil (T.seq (T.region (T.p2 (vi r1) (.bool (r1 != 0)) (fun _ => by kernel_rfl) (T.nil ?_)))))
 refine T.cond (r1 != 0) (by kernel_rfl) (by kernel_rfl) (fun hc1 => ?_) (fun hc1 => ?_)
 ·
  rw [hc1, cond_true] at hF
  refine T.seq (T.region (T.p2 (vi r1) (vi r1) (fun _ => by kernel_rfl) (T.nil ?_)))
  cases hF
  refine T.ret rfl ?_
  exact T.ret1 rfl (ResIs.tmp rfl) fun w' hh => ⟨_, rfl, hh.below, (show _ from rfl)⟩
 rw [hc1, cond_false] at hF
 refine T.skip_code ?_
 refine T.seq (T.region (T.p2 (vi p1) (vi p2) (fun _ => by kernel_rfl) ?_))
 obtain ⟨r2, hb2, hF⟩ := ob hF
 refine T.step (W1.call (vAg eKey) r2 98 #[vi p1, vi p2, vi 0] (by kernel_rfl) (fun _ => by kernel_rfl) (fun w' hh => file_block_l p1 p2 0 r2 hb2 w' ) ?_)
 intro u V2 hV2 hu
 obtain rfl := sureKey _ _ _ hu
 obtain ⟨r3, hb3, hF⟩ := ob hF
 refine T.step (W1.call (vSc eInt) r3 106 #[.agg #[vi r2.pfs, vi r2.obj, vi r2.off]] (by kernel_rfl) (fun _ => by kernel_rfl) (fun w' hh => key_Check_l r2 r3 hb3 w' ) ?_)
 intro u V3 hV3 hu
 obtain rfl := sureInt _ _ _ hu
 refine T.pk (vi r3) (fun _ => by kernel_rfl) (T.nil ?_)
 cases hF
 refine T.ret rfl ?_
 exact T.ret1 rfl (ResIs.tmp rfl) fun w' hh => ⟨_, rfl, hh.below, (show _ from rfl)⟩
set_option maxRecDepth 100000 in
set_option maxHeartbeats 4000000 in
theorem file_Get_l (F : Nat) (p0 : (List DElem)) (p1 : Int) (p2 : Int) (p3 : Int) (r : ByteArray × Int) (hF : file_Get F p0 p1 p2 p3 = some r) (w : World) (A1 : Option Addr) (c1 : Nat) (hs1 : SlOk (vw w) eElem A1 c1 p0) :
 Calls Tryz.prog 62 #[.slice A1 p0.length c1, .int .i64 p1, .int .i64 p2, .int .i64 p3] w (Post (vT2 (vSc eStr) (vSc eInt)) r w) := by
 unfold file_Get at hF
 refine T.start (l := [.slice A1 p0.length c1, vi p1, vi p2, vi p3]) Tryz.func62 rfl rfl rfl ?_
 refine T.seq (T.region (T.p2 (.string (ByteArray.mk #[])) (vi 0) (fun _ => by kernel_rfl) (T.nil (T.seq (T.seq (T.region (T.p3 (.slice A1 p0.length c1) (vi p1) (vi p2) (fun _ => by kernel_rfl) ?_)))))))
 obtain ⟨r1, hb1, hF⟩ := ob hF
 refine T.step (W1.call (vSc eInt) r1 96 #[.slice A1 p0.length c1, vi p1, vi p2] (by kernel_rfl) (fun _ => by kernel_rfl) (fun w' hh => file_look_l F p0 p1 p2 r1 hb1 w' A1 c1 (SlOk.mono hs1 hh.view)) ?_)
 intro u V1 hV1 hu
 obtain rfl := sureInt _ _ _ hu
 refine T.pk (vi r1) (fun _ => by kernel_rfl) (T.nil (T.seq (T.region (T.p2 (vi r1) (.bool (r1 != 0)) (fun _ => by kernel_rfl) (T.nil ?_)))))
 refine T.cond (r1 != 0) (by kernel_rfl) (by kernel_rfl) (fun hc1 => ?_) (fun hc1 => ?_)
 ·
  rw [hc1, cond_true] at hF
  refine T.seq (T.region (T.p3 (vi r1) (.string (ByteArray.mk #[])) (vi r1) (fun _ => by kernel_rfl) (T.nil ?_)))
  cases hF
  refine T.ret rfl ?_
  exact T.ret2 rfl (ResIs.tmp rfl) (ResIs.tmp rfl) fun w' hh => ⟨_, rfl, hh.below, (vT2.mk (show _ from rfl) (show _ from rfl))⟩
 rw [hc1, cond_false] at hF
 refine T.skip_code ?_
 refine T.seq (T.region (T.p4 (.slice A1 p0.length c1) (vi p1) (vi p2) (vi p3) (fun _ => by kernel_rfl) ?_))
 obtain ⟨z1, hX1, hF⟩ := ob hF
 refine T.step (W1.within 97 [.slice A1 p0.length c1, vi p1, vi p2, vi p3] (fun v w' => ∃ (m1 : Nat) (V2 : View), View.le V1 V2 ∧ v = .map (some m1) ∧ Hp w V2 [mapo m1 z1] w') Tryz.func97 rfl rfl (by kernel_rfl) (fun _ => by kernel_rfl) rfl ?_ ?_)
 ·
  refine T.seq (T.region (T.pk (.map none) (fun _ => by kernel_rfl) (T.nil (T.seq (T.region (T.step (W1.makeMap (by kernel_rfl) rfl (fun m1 => ?_))))))))
  refine T.pk (.map (some m1)) (fun _ => by kernel_rfl) (T.nil (T.seq (T.seq (T.region (T.p3 (.slice A1 p0.length c1) (vi (p0.length : Int)) (vi 0) (fun _ => by kernel_rfl) (T.nil ?_))))))
  obtain ⟨z2, hz1, hX1⟩ := ob hX1
  refine T.mid (fun a w' => ∃ (V4 : View), View.le V1 V4 ∧ Fr 55 [(9, .map (some m1))] a ∧ Hp w V4 [mapo m1 z2] w') ?_ ?_
  ·
   refine T.block ?_
   refine T.iter (fun s1 a w' => ∃ (x1 : List (Int × ByteArray)) (x2 : Int), s1 = (x1, x2) ∧ ∃ (V3 : View), View.le V1 V3 ∧ Fr 55 [(1, vi p1), (2, vi p2), (3, vi p3), (9, .map (some m1)), (14, .slice A1 p0.length c1), (15, vi (p0.length : Int)), (16, vi x2)] a ∧ Hp w V3 [mapo m1 x1] w') hz1 ?_ ?_
   ·
    exact fun a w' hf hh => ⟨[], 0, rfl, V1, vr, (Fr.sel hf rfl), (hh.sub (kp1 kp0))⟩
   rintro s1 y1 hY1 hr1 a w' ⟨x1, x2, rfl, V3, hV3, hf, hh⟩
   refine (?_ : T 55 w V3 [mapo m1 x1] [(1, vi p1), (2, vi p2), (3, vi p3), (9, .map (some m1)), (14, .slice A1 p0.length c1), (15, vi (p0.length : Int)), (16, vi x2)] _) a w' hf hh
   clear hf hh
   try dsimp only at hY1
   refine T.seq (T.region (T.pk (.bool (decide (x2 < (p0.length : Int)))) (fun _ => by kernel_rfl) (T.nil (T.seq ?_))))
   refine T.cond (decide (x2 < (p0.length : Int))) (by kernel_rfl) (by kernel_rfl) (fun hc2 => ?_) (fun hc2 => ?_)
   ·
    rw [hc2, cond_true] at hY1
    refine T.skip_code ?_
    obtain ⟨z3, hX2, hY1⟩ := ob hY1
    refine T.cut (fun a w' => ∃ (V5 : View), View.le V3 V5 ∧ Fr 55 [(1, vi p1), (2, vi p2), (3, vi p3), (9, .map (some m1)), (14, .slice A1 p0.length c1), (15, vi (p0.length : Int)), (16, vi x2)] a ∧ Hp w V5 [mapo m1 z3] w') ?_ ?_
    ·
     refine T.block (T.seq (T.region ?_))
     obtain ⟨e1, hb2, hX2⟩ := ob hX2
     obtain ⟨hi1, hi2, hi3⟩ := idx_some hb2
     refine T.look (.pointer (some ((sadr A1).add (x2.toNat * 6)))) (by kernel_rfl) (fun w' hh => exec_indexAddr (e := 44) (s := 6) rfl rfl rfl (by kernel_rfl) (by kernel_rfl) hi1 hi2 ((SlOk.mono hs1 (vt hV1 hV3)).some_ hi3 (by decide))) ?_
     let v4_ : List Value := [vi e1.key.pfs, vi e1.key.obj, vi e1.key.off, vi e1.made, vi e1.gone, .string e1.val]
     let a5_ : Value := .agg #[vi e1.key.pfs, vi e1.key.obj, vi e1.key.off, vi e1.made, vi e1.gone, .string e1.val]
     refine T.look a5_ (by kernel_rfl) (fun w' hh => exec_loadN (cs := v4_) rfl rfl (by kernel_rfl) (by kernel_rfl) (fun j u hj => (hh.cell_view (SlOk.cellF (E := eElem) (SlOk.mono hs1 (vt hV1 hV3)) hi3 j (fun _ _ _ h => h) hj)))) ?_
     refine T.step (W1.np 44 [vi 0, vi 0, vi 0, vi 0, vi 0, .string (ByteArray.mk #[])] (fun _ => by kernel_rfl) (fun b1 => ?_))
     let i2_ : HObj := box b1 44 v4_
     let t3_ : List HObj := i2_ :: (mapo m1 x1) :: []
     refine T.step (W1.st 0 v4_ t3_ v4_ (by rfl) rfl rfl rfl rfl rfl rfl (fun _ => by kernel_rfl) ?_)
     refine T.nil (T.seq (T.region (T.p2 (pB b1 0) (pB b1 2) (fun _ => by kernel_rfl) (T.look (vi e1.key.off) (by kernel_rfl) (ld1 0 rfl rfl (fun _ => by kernel_rfl) (by rfl) rfl) ?_))))
     refine T.p2 (vi (IntKind.i64.wrap (e1.key.off - 1))) (vi (IntKind.i64.wrap (e1.key.off - 1))) (fun _ => by kernel_rfl) (T.nil ?_)
     obtain ⟨z4, hX3, hX2⟩ := ob hX2
     refine T.cut (fun a w' => ∃ (V6 : View), View.le V3 V6 ∧ Fr 55 [(1, vi p1), (2, vi p2), (3, vi p3), (9, .map (some m1)), (11, pB b1 0), (12, vi (IntKind.i64.wrap (e1.key.off - 1))), (14, .slice A1 p0.length c1), (15, vi (p0.length : Int)), (16, vi x2), (48, .bool z4)] a ∧ Hp w V6 t3_ w') ?_ ?_
     ·
      refine T.region (T.p2 (pB b1 0) (pB b1 0) (fun _ => by kernel_rfl) (T.look (vi e1.key.pfs) (by kernel_rfl) (ld1 0 rfl rfl (fun _ => by kernel_rfl) (by rfl) rfl) ?_))
      refine T.p3 (vi p1) (.bool (e1.key.pfs == p1)) (.bool (e1.key.pfs == p1)) (fun _ => by kernel_rfl) ?_
      cases hg1 : (e1.key.pfs == p1)
      ·
       skip
       rw [hg1, cond_false] at hX3
       refine T.pass (by kernel_rfl) (by kernel_rfl) (T.pass (by kernel_rfl) (by kernel_rfl) (T.pass (by kernel_rfl) (by kernel_rfl) (T.pass (by kernel_rfl) (by kernel_rfl) (T.pass (by kernel_rfl) (by kernel_rfl) (T.p2 (.bool false) (.bool false) (fun _ => by kernel_rfl) (T.pass (by kernel_rfl) (by kernel_rfl) (T.pass (by kernel_rfl) (by kernel_rfl) (T.p2 (.bool false) (.bool false) (fun _ => by kernel_rfl) (T.pass (by kernel_rfl) (by kernel_rfl) (T.pass (by kernel_rfl) (by kernel_rfl) (T.p2 (.bool false) (.bool false) (fun _ => by kernel_rfl) (T.pass (by kernel_rfl) (by kernel_rfl) (T.pass (by kernel_rfl) (by kernel_rfl) (T.pass (by kernel_rfl) (by kernel_rfl) (T.pk (.bool false) (fun _ => by kernel_rfl) (T.nil ?_))))))))))))))))
       cases hX3
       exact fun a w' hf hh => ⟨V3, vr, (Fr.sel hf rfl), (hh.sub (kp1 (kp1 kp0)))⟩
      skip
      rw [hg1, cond_true] at hX3
      refine T.p2 (pB b1 0) (pB b1 1) (fun _ => by kernel_rfl) (T.look (vi e1.key.obj) (by kernel_rfl) (ld1 0 rfl rfl (fun _ => by kernel_rfl) (by rfl) rfl) ?_)
      refine T.p4 (vi p2) (.bool (e1.key.obj == p2)) (.bool (e1.key.obj == p2)) (.bool (e1.key.obj == p2)) (fun _ => by kernel_rfl) ?_
      cases hg2 : (e1.key.obj == p2)
      ·
       skip
       rw [hg2, cond_false] at hX3
       refine T.pass (by kernel_rfl) (by kernel_rfl) (T.pass (by kernel_rfl) (by kernel_rfl) (T.p2 (.bool false) (.bool false) (fun _ => by kernel_rfl) (T.pass (by kernel_rfl) (by kernel_rfl) (T.pass (by kernel_rfl) (by kernel_rfl) (T.p2 (.bool false) (.bool false) (fun _ => by kernel_rfl) (T.pass (by kernel_rfl) (by kernel_rfl) (T.pass (by kernel_rfl) (by kernel_rfl) (T.pass (by kernel_rfl) (by kernel_rfl) (T.pk (.bool false) (fun _ => by kernel_rfl) (T.nil ?_))))))))))
       cases hX3
       exact fun a w' hf hh => ⟨V3, vr, (Fr.sel hf rfl), (hh.sub (kp1 (kp1 kp0)))⟩
      skip
      rw [hg2, cond_true] at hX3
      refine T.p4 (vi (IntKind.i64.wrap (e1.key.off - 1))) (.bool (decide ((0 : Int) ≤ (IntKind.i64.wrap (e1.key.off - 1))))) (.bool (decide ((0 : Int) ≤ (IntKind.i64.wrap (e1.key.off - 1))))) (.bool (decide ((0 : Int) ≤ (IntKind.i64.wrap (e1.key.off - 1))))) (fun _ => by kernel_rfl) ?_
      cases hg3 : decide ((0 : Int) ≤ (IntKind.i64.wrap (e1.key.off - 1)))
      ·
       skip
       rw [hg3, cond_false] at hX3
       refine T.pass (by kernel_rfl) (by kernel_rfl) (T.pass (by kernel_rfl) (by kernel_rfl) (T.p2 (.bool false) (.bool false) (fun _ => by kernel_rfl) (T.pass (by kernel_rfl) (by kernel_rfl) (T.pass (by kernel_rfl) (by kernel_rfl) (T.pass (by kernel_rfl) (by kernel_rfl) (T.pk (.bool false) (fun _ => by kernel_rfl) (T.nil ?_)))))))
       cases hX3
       exact fun a w' hf hh => ⟨V3, vr, (Fr.sel hf rfl), (hh.sub (kp1 (kp1 kp0)))⟩
      skip
      rw [hg3, cond_true] at hX3
      refine T.p4 (vi (IntKind.i64.wrap (e1.key.off - 1))) (.bool (decide ((IntKind.i64.wrap (e1.key.off - 1)) < 20))) (.bool (decide ((IntKind.i64.wrap (e1.key.off - 1)) < 20))) (.bool (decide ((IntKind.i64.wrap (e1.key.off - 1)) < 20))) (fun _ => by kernel_rfl) ?_
      cases hg4 : decide ((IntKind.i64.wrap (e1.key.off - 1)) < 20)
      ·
       skip
       rw [hg4, cond_false] at hX3
       refine T.pass (by kernel_rfl) (by kernel_rfl) (T.pass (by kernel_rfl) (by kernel_rfl) (T.pass (by kernel_rfl) (by kernel_rfl) (T.pk (.bool false) (fun _ => by kernel_rfl) (T.nil ?_))))
       cases hX3
       exact fun a w' hf hh => ⟨V3, vr, (Fr.sel hf rfl), (hh.sub (kp1 (kp1 kp0)))⟩
      skip
      rw [hg4, cond_true] at hX3
      refine T.look a5_ (by kernel_rfl) (ldN 0 rfl rfl (fun _ => by kernel_rfl) (by rfl) rfl) ?_
      refine T.pk (vi p3) (fun _ => by kernel_rfl) ?_
      obtain ⟨r2, hb3, hX3⟩ := ob hX3
      refine T.step (W1.call (vSc eBool) r2 63 #[a5_, vi p3] (by kernel_rfl) (fun _ => by kernel_rfl) (fun w' hh => elem_Live_l e1 p3 r2 hb3 w' ) ?_)
      intro u V7 hV7 hu
      obtain rfl := sureBool _ _ _ hu
      refine T.pk (.bool r2) (fun _ => by kernel_rfl) (T.nil ?_)
      cases hX3
      exact fun a w' hf hh => ⟨V7, hV7, (Fr.sel hf rfl), (hh.sub (kp1 (kp1 kp0)))⟩
     rintro a w' ⟨V6, hV6, hf, hh⟩
     refine (?_ : T 55 w V6 t3_ [(1, vi p1), (2, vi p2), (3, vi p3), (9, .map (some m1)), (11, pB b1 0), (12, vi (IntKind.i64.wrap (e1.key.off - 1))), (14, .slice A1 p0.length c1), (15, vi (p0.length : Int)), (16, vi x2), (48, .bool z4)] _) a w' hf hh
     clear hf hh
     refine T.cond z4 (by kernel_rfl) (by kernel_rfl) (fun hc3 => ?_) (fun hc3 => ?_)
     ·
      rw [hc3, cond_true] at hX2
      refine T.region (T.p3 (.map (some m1)) (vi (IntKind.i64.wrap (e1.key.off - 1))) (pB b1 5) (fun _ => by kernel_rfl) (T.look (.string e1.val) (by kernel_rfl) (ld1 0 rfl rfl (fun _ => by kernel_rfl) (by rfl) rfl) ?_))
      refine T.step (W1.mapUpdate (kt := 3) (et := 9) 1 (by rfl) (by kernel_rfl) rfl rfl rfl rfl (by kernel_rfl) (by kernel_rfl) ?_)
      refine T.nil ?_
      cases hX2
      exact fun a w' hf hh => ⟨V6, hV6, (Fr.sel hf rfl), (hh.sub (dr1 (kp1 kp0)))⟩
     rw [hc3, cond_false] at hX2
     refine T.skip_code ?_
     cases hX2
     exact fun a w' hf hh => ⟨V6, hV6, (Fr.sel hf rfl), (hh.sub (dr1 (kp1 kp0)))⟩
    rintro a w' ⟨V5, hV5, hf, hh⟩
    refine (?_ : T 55 w V5 [mapo m1 z3] [(1, vi p1), (2, vi p2), (3, vi p3), (9, .map (some m1)), (14, .slice A1 p0.length c1), (15, vi (p0.length : Int)), (16, vi x2)] _) a w' hf hh
    clear hf hh
    refine T.region (T.p2 (vi (IntKind.i64.wrap (x2 + 1))) (vi (IntKind.i64.wrap (x2 + 1))) (fun _ => by kernel_rfl) (T.nil ?_))
    cases hY1
    exact fun a w' hf hh => ⟨(z3, IntKind.i64.wrap (x2 + 1)), rfl, z3, (IntKind.i64.wrap (x2 + 1)), rfl, V5, (vt hV3 hV5), (Fr.sel hf rfl), (hh.sub (kp1 kp0))⟩
   rw [hc2, cond_false] at hY1
   refine T.exit ?_
   cases hY1
   cases (hr1 _ rfl)
   exact fun a w' hf hh => ⟨V3, hV3, (Fr.sel hf rfl), (hh.sub (kp1 kp0))⟩
  rintro a w' ⟨V4, hV4, hf, hh⟩
  refine (?_ : T 55 w V4 [mapo m1 z2] [(9, .map (some m1))] _) a w' hf hh
  clear hf hh
  refine T.seq (T.region (T.p2 (.map (some m1)) (.map (some m1)) (fun _ => by kernel_rfl) (T.nil ?_)))
  cases hX1
  refine T.ret rfl ?_
  exact T.ret1 rfl (ResIs.tmp rfl) fun w' hh => ⟨_, rfl, ⟨m1, V4, hV4, rfl, (hh.sub (kp1 kp0))⟩⟩
 rintro v w' ⟨m1, V2, hV2, rfl, hh⟩
 refine ⟨V2, [mapo m1 z1], hh, ?_⟩
 clear hh
 refine T.pk (.map (some m1)) (fun _ => by kernel_rfl) (T.nil (T.seq (T.region (T.pk (.string (ByteArray.mk #[])) (fun _ => by kernel_rfl) (T.nil (T.seq (T.seq (T.region (T.pk (vi 0) (fun _ => by kernel_rfl) (T.nil ?_))))))))))
 obtain ⟨z5, hz2, hF⟩ := ob hF
 refine T.mid (fun a w' => Fr 36 [(12, .string z5)] a ∧ Hp w V2 [] w') ?_ ?_
 ·
  refine T.block ?_
  refine T.iter (fun s2 a w' => ∃ (x3 : ByteArray) (x4 : Int), s2 = (x3, x4) ∧ Fr 36 [(11, .map (some m1)), (12, .string x3), (26, vi x4)] a ∧ Hp w V2 [mapo m1 z1] w') hz2 ?_ ?_
  ·
   exact fun a w' hf hh => ⟨(ByteArray.mk #[]), 0, rfl, (Fr.sel hf rfl), (hh.sub (kp1 kp0))⟩
  rintro s2 y2 hY2 hr2 a w' ⟨x3, x4, rfl, hf, hh⟩
  refine (?_ : T 36 w V2 [mapo m1 z1] [(11, .map (some m1)), (12, .string x3), (26, vi x4)] _) a w' hf hh
  clear hf hh
  try dsimp only at hY2
  refine T.seq (T.region (T.pk (.bool (decide (x4 < 20))) (fun _ => by kernel_rfl) (T.nil (T.seq ?_))))
  refine T.cond (decide (x4 < 20)) (by kernel_rfl) (by kernel_rfl) (fun hc4 => ?_) (fun hc4 => ?_)
  ·
   rw [hc4, cond_true] at hY2
   refine T.skip_code ?_
   refine T.seq (T.block (T.seq (T.region (T.p2 (vi x4) (vi x4) (fun _ => by kernel_rfl) (T.nil (T.region (T.p3 (.string x3) (.map (some m1)) (vi x4) (fun _ => by kernel_rfl) (T.look (.string (mget z1 x4)) (by kernel_rfl) (fun w' hh => exec_lookup (kt := 3) (et := 9) 0 hh (by rfl) rfl rfl rfl (by kernel_rfl) (by kernel_rfl) (by kernel_rfl)) ?_))))))))
   obtain ⟨s3, hb4, hY2⟩ := ob hY2
   refine T.look (.string s3) (by kernel_rfl) (fun w' hh => exec_scat rfl rfl rfl hb4) ?_
   refine T.pk (.string s3) (fun _ => by kernel_rfl) (T.nil (T.region (T.p2 (vi (IntKind.i64.wrap (x4 + 1))) (vi (IntKind.i64.wrap (x4 + 1))) (fun _ => by kernel_rfl) (T.nil ?_))))
   cases hY2
   exact fun a w' hf hh => ⟨(s3, IntKind.i64.wrap (x4 + 1)), rfl, s3, (IntKind.i64.wrap (x4 + 1)), rfl, (Fr.sel hf rfl), (hh.sub (kp1 kp0))⟩
  rw [hc4, cond_false] at hY2
  refine T.exit ?_
  cases hY2
  cases (hr2 _ rfl)
  exact fun a w' hf hh => ⟨(Fr.sel hf rfl), (hh.sub (dr1 kp0))⟩
 rintro a w' ⟨hf, hh⟩
 refine (?_ : T 36 w V2 [] [(12, .string z5)] _) a w' hf hh
 clear hf hh
 refine T.seq (T.region (T.p3 (.string z5) (.string z5) (vi 0) (fun _ => by kernel_rfl) (T.nil ?_)))
 cases hF
 refine T.ret rfl ?_
 exact T.ret2 rfl (ResIs.tmp rfl) (ResIs.tmp rfl) fun w' hh => ⟨_, rfl, hh.below, (vT2.mk (show _ from rfl) (show _ from rfl))⟩
set_option maxRecDepth 100000 in
set_option maxHeartbeats 4000000 in
theorem file_Set_l (F : Nat) (p0 : (List DElem)) (p1 : Int) (p2 : Int) (p3 : ByteArray) (p4 : Int) (r : ((List DElem)) × Int) (hF : file_Set F p0 p1 p2 p3 p4 = some r) (w : World) (A1 : Option Addr) (c1 : Nat) (hs1 : SlOk (vw w) eElem A1 c1 p0) :
 Calls Tryz.prog 60 #[.slice A1 p0.length c1, .int .i64 p1, .int .i64 p2, .string p3, .int .i64 p4] w (Post (vT2 (vSc (eList eElem)) (vSc eInt)) r w) := by
 unfold file_Set at hF
 refine T.start (l := [.slice A1 p0.length c1, vi p1, vi p2, .string p3, vi p4]) Tryz.func60 rfl rfl rfl ?_
 refine T.seq (T.region (T.p2 sN (vi 0) (fun _ => by kernel_rfl) (T.nil (T.seq (T.seq (T.region (T.p3 (.slice A1 p0.length c1) (vi p1) (vi p2) (fun _ => by kernel_rfl) ?_)))))))
 obtain ⟨r1, hb1, hF⟩ := ob hF
 refine T.step (W1.call (vSc eInt) r1 96 #[.slice A1 p0.length c1, vi p1, vi p2] (by kernel_rfl) (fun _ => by kernel_rfl) (fun w' hh => file_look_l F p0 p1 p2 r1 hb1 w' A1 c1 (SlOk.mono hs1 hh.view)) ?_)
 intro u V1 hV1 hu
 obtain rfl := sureInt _ _ _ hu
 refine T.pk (vi r1) (fun _ => by kernel_rfl) (T.nil (T.seq (T.region (T.p2 (vi r1) (.bool (r1 != 0)) (fun _ => by kernel_rfl) (T.nil ?_)))))
 refine T.cond (r1 != 0) (by kernel_rfl) (by kernel_rfl) (fun hc1 => ?_) (fun hc1 => ?_)
 ·
  rw [hc1, cond_true] at hF
  refine T.seq (T.region (T.p3 (vi r1) sN (vi r1) (fun _ => by kernel_rfl) (T.nil ?_)))
  cases hF
  refine T.ret rfl ?_
  exact T.ret2 rfl (ResIs.tmp rfl) (ResIs.tmp rfl) fun w' hh => ⟨_, rfl, hh.below, (vT2.mk ⟨_, _, rfl, (SlOk.nil _ _)⟩ (show _ from rfl))⟩
 rw [hc1, cond_false] at hF
 refine T.skip_code ?_
 refine T.seq (T.seq (T.region (T.p3 (.string p3) (vi (p3.size : Int)) (.bool (decide ((320 : Int) < (p3.size : Int)))) (fun _ => by kernel_rfl) (T.nil ?_))))
 refine T.cond (decide ((320 : Int) < (p3.size : Int))) (by kernel_rfl) (by kernel_rfl) (fun hc2 => ?_) (fun hc2 => ?_)
 ·
  rw [hc2, cond_true] at hF
  refine T.seq (T.region (T.p2 sN (vi 2) (fun _ => by kernel_rfl) (T.nil ?_)))
  cases hF
  refine T.ret rfl ?_
  exact T.ret2 rfl (ResIs.tmp rfl) (ResIs.tmp rfl) fun w' hh => ⟨_, rfl, hh.below, (vT2.mk ⟨_, _, rfl, (SlOk.nil _ _)⟩ (show _ from rfl))⟩
 rw [hc2, cond_false] at hF
 refine T.skip_code ?_
 refine T.seq (T.seq (T.region (T.pk (.slice A1 p0.length c1) (fun _ => by kernel_rfl) ?_)))
 obtain ⟨r2, hb2, hF⟩ := ob hF
 refine T.step (W1.call (vT2 (vSc eInt) (vSc eInt)) r2 29 #[.slice A1 p0.length c1] (by kernel_rfl) (fun _ => by kernel_rfl) (fun w' hh => run_Last_l F p0 r2 hb2 w' A1 c1 (SlOk.mono (SlOk.mono hs1 hV1) hh.view)) ?_)
 intro u V2 hV2 hu
 obtain rfl := (Sure.t2 sureInt sureInt) _ _ _ hu
 refine T.p5 (.tuple #[vi r2.1, vi r2.2]) (vi r2.1) (vi r2.2) (vi r2.1) (vi r2.2) (fun _ => by kernel_rfl) (T.nil ?_)
 refine T.cut (fun a w' => Fr 113 [(0, .slice A1 p0.length c1), (1, vi p1), (2, vi p2), (3, .string p3), (4, vi p4), (48, .bool ((decide (p4 < 1)) || ((decide ((2147483647 : Int) < p4)) || (decide (p4 < r2.1)))))] a ∧ Hp w V2 [] w') ?_ ?_
 ·
  refine T.region (T.p3 (vi p4) (.bool (decide (p4 < 1))) (.bool (decide (p4 < 1))) (fun _ => by kernel_rfl) ?_)
  cases hg1 : decide (p4 < 1)
  ·
   skip
   refine T.p4 (vi p4) (.bool (decide ((2147483647 : Int) < p4))) (.bool (decide ((2147483647 : Int) < p4))) (.bool (decide ((2147483647 : Int) < p4))) (fun _ => by kernel_rfl) ?_
   cases hg2 : decide ((2147483647 : Int) < p4)
   ·
    skip
    refine T.p4 (vi p4) (vi r2.1) (.bool (decide (p4 < r2.1))) (.bool (decide (p4 < r2.1))) (fun _ => by kernel_rfl) (T.nil ?_)
    exact fun a w' hf hh => ⟨(Fr.sel hf rfl), (hh.sub List.Sublist.slnil)⟩
   skip
   refine T.pass (by kernel_rfl) (by kernel_rfl) (T.pass (by kernel_rfl) (by kernel_rfl) (T.pass (by kernel_rfl) (by kernel_rfl) (T.pk (.bool true) (fun _ => by kernel_rfl) (T.nil ?_))))
   exact fun a w' hf hh => ⟨(Fr.sel hf rfl), (hh.sub List.Sublist.slnil)⟩
  skip
  refine T.pass (by kernel_rfl) (by kernel_rfl) (T.pass (by kernel_rfl) (by kernel_rfl) (T.p2 (.bool true) (.bool true) (fun _ => by kernel_rfl) (T.pass (by kernel_rfl) (by kernel_rfl) (T.pass (by kernel_rfl) (by kernel_rfl) (T.pass (by kernel_rfl) (by kernel_rfl) (T.pk (.bool true) (fun _ => by kernel_rfl) (T.nil ?_)))))))
  exact fun a w' hf hh => ⟨(Fr.sel hf rfl), (hh.sub List.Sublist.slnil)⟩
 rintro a w' ⟨hf, hh⟩
 refine (?_ : T 113 w V2 [] [(0, .slice A1 p0.length c1), (1, vi p1), (2, vi p2), (3, .string p3), (4, vi p4), (48, .bool ((decide (p4 < 1)) || ((decide ((2147483647 : Int) < p4)) || (decide (p4 < r2.1)))))] _) a w' hf hh
 clear hf hh
 refine T.cond ((decide (p4 < 1)) || ((decide ((2147483647 : Int) < p4)) || (decide (p4 < r2.1)))) (by kernel_rfl) (by kernel_rfl) (fun hc3 => ?_) (fun hc3 => ?_)
 ·
  rw [hc3, cond_true] at hF
  refine T.seq (T.region (T.p2 sN (vi 9) (fun _ => by kernel_rfl) (T.nil ?_)))
  cases hF
  refine T.ret rfl ?_
  exact T.ret2 rfl (ResIs.tmp rfl) (ResIs.tmp rfl) fun w' hh => ⟨_, rfl, hh.below, (vT2.mk ⟨_, _, rfl, (SlOk.nil _ _)⟩ (show _ from rfl))⟩
 rw [hc3, cond_false] at hF
 refine T.skip_code ?_
 refine T.seq (T.region (T.p3 (.slice A1 p0.length c1) (vi p1) (vi p2) (fun _ => by kernel_rfl) ?_))
 obtain ⟨z1, hX1, hF⟩ := ob hF
 refine T.step (W1.within 97 [.slice A1 p0.length c1, vi p1, vi p2, vi 2147483647] (fun v w' => ∃ (m1 : Nat) (V3 : View), View.le V2 V3 ∧ v = .map (some m1) ∧ Hp w V3 [mapo m1 z1] w') Tryz.func97 rfl rfl (by kernel_rfl) (fun _ => by kernel_rfl) rfl ?_ ?_)
 ·
  refine T.seq (T.region (T.pk (.map none) (fun _ => by kernel_rfl) (T.nil (T.seq (T.region (T.step (W1.makeMap (by kernel_rfl) rfl (fun m1 => ?_))))))))
  refine T.pk (.map (some m1)) (fun _ => by kernel_rfl) (T.nil (T.seq (T.seq (T.region (T.p3 (.slice A1 p0.length c1) (vi (p0.length : Int)) (vi 0) (fun _ => by kernel_rfl) (T.nil ?_))))))
  obtain ⟨z2, hz1, hX1⟩ := ob hX1
  refine T.mid (fun a w' => ∃ (V5 : View), View.le V2 V5 ∧ Fr 55 [(9, .map (some m1))] a ∧ Hp w V5 [mapo m1 z2] w') ?_ ?_
  ·
   refine T.block ?_
   refine T.iter (fun s1 a w' => ∃ (x1 : List (Int × ByteArray)) (x2 : Int), s1 = (x1, x2) ∧ ∃ (V4 : View), View.le V2 V4 ∧ Fr 55 [(1, vi p1), (2, vi p2), (3, vi 2147483647), (9, .map (some m1)), (14, .slice A1 p0.length c1), (15, vi (p0.length : Int)), (16, vi x2)] a ∧ Hp w V4 [mapo m1 x1] w') hz1 ?_ ?_
   ·
    exact fun a w' hf hh => ⟨[], 0, rfl, V2, vr, (Fr.sel hf rfl), (hh.sub (kp1 kp0))⟩
   rintro s1 y1 hY1 hr1 a w' ⟨x1, x2, rfl, V4, hV4, hf, hh⟩
   refine (?_ : T 55 w V4 [mapo m1 x1] [(1, vi p1), (2, vi p2), (3, vi 2147483647), (9, .map (some m1)), (14, .slice A1 p0.length c1), (15, vi (p0.length : Int)), (16, vi x2)] _) a w' hf hh
   clear hf hh
   try dsimp only at hY1
   refine T.seq (T.region (T.pk (.bool (decide (x2 < (p0.length : Int)))) (fun _ => by kernel_rfl) (T.nil (T.seq ?_))))
   refine T.cond (decide (x2 < (p0.length : Int))) (by kernel_rfl) (by kernel_rfl) (fun hc4 => ?_) (fun hc4 => ?_)
   ·
    rw [hc4, cond_true] at hY1
    refine T.skip_code ?_
    obtain ⟨z3, hX2, hY1⟩ := ob hY1
    refine T.cut (fun a w' => ∃ (V6 : View), View.le V4 V6 ∧ Fr 55 [(1, vi p1), (2, vi p2), (3, vi 2147483647), (9, .map (some m1)), (14, .slice A1 p0.length c1), (15, vi (p0.length : Int)), (16, vi x2)] a ∧ Hp w V6 [mapo m1 z3] w') ?_ ?_
    ·
     refine T.block (T.seq (T.region ?_))
     obtain ⟨e1, hb3, hX2⟩ := ob hX2
     obtain ⟨hi1, hi2, hi3⟩ := idx_some hb3
     refine T.look (.pointer (some ((sadr A1).add (x2.toNat * 6)))) (by kernel_rfl) (fun w' hh => exec_indexAddr (e := 44) (s := 6) rfl rfl rfl (by kernel_rfl) (by kernel_rfl) hi1 hi2 ((SlOk.mono hs1 (vt (vt hV1 hV2) hV4)).some_ hi3 (by decide))) ?_
     let v8_ : List Value := [vi e1.key.pfs, vi e1.key.obj, vi e1.key.off, vi e1.made, vi e1.gone, .string e1.val]
     let a9_ : Value := .agg #[vi e1.key.pfs, vi e1.key.obj, vi e1.key.off, vi e1.made, vi e1.gone, .string e1.val]
     refine T.look a9_ (by kernel_rfl) (fun w' hh => exec_loadN (cs := v8_) rfl rfl (by kernel_rfl) (by kernel_rfl) (fun j u hj => (hh.cell_view (SlOk.cellF (E := eElem) (SlOk.mono hs1 (vt (vt hV1 hV2) hV4)) hi3 j (fun _ _ _ h => h) hj)))) ?_
     refine T.step (W1.np 44 [vi 0, vi 0, vi 0, vi 0, vi 0, .string (ByteArray.mk #[])] (fun _ => by kernel_rfl) (fun b1 => ?_))
     let i6_ : HObj := box b1 44 v8_
     let t7_ : List HObj := i6_ :: (mapo m1 x1) :: []
     refine T.step (W1.st 0 v8_ t7_ v8_ (by rfl) rfl rfl rfl rfl rfl rfl (fun _ => by kernel_rfl) ?_)
     refine T.nil (T.seq (T.region (T.p2 (pB b1 0) (pB b1 2) (fun _ => by kernel_rfl) (T.look (vi e1.key.off) (by kernel_rfl) (ld1 0 rfl rfl (fun _ => by kernel_rfl) (by rfl) rfl) ?_))))
     refine T.p2 (vi (IntKind.i64.wrap (e1.key.off - 1))) (vi (IntKind.i64.wrap (e1.key.off - 1))) (fun _ => by kernel_rfl) (T.nil ?_)
     obtain ⟨z4, hX3, hX2⟩ := ob hX2
     refine T.cut (fun a w' => ∃ (V7 : View), View.le V4 V7 ∧ Fr 55 [(1, vi p1), (2, vi p2), (3, vi 2147483647), (9, .map (some m1)), (11, pB b1 0), (12, vi (IntKind.i64.wrap (e1.key.off - 1))), (14, .slice A1 p0.length c1), (15, vi (p0.length : Int)), (16, vi x2), (48, .bool z4)] a ∧ Hp w V7 t7_ w') ?_ ?_
     ·
      refine T.region (T.p2 (pB b1 0) (pB b1 0) (fun _ => by kernel_rfl) (T.look (vi e1.key.pfs) (by kernel_rfl) (ld1 0 rfl rfl (fun _ => by kernel_rfl) (by rfl) rfl) ?_))
      refine T.p3 (vi p1) (.bool (e1.key.pfs == p1)) (.bool (e1.key.pfs == p1)) (fun _ => by kernel_rfl) ?_
      cases hg3 : (e1.key.pfs == p1)
      ·
       skip
       rw [hg3, cond_false] at hX3
       refine T.pass (by kernel_rfl) (by kernel_rfl) (T.pass (by kernel_rfl) (by kernel_rfl) (T.pass (by kernel_rfl) (by kernel_rfl) (T.pass (by kernel_rfl) (by kernel_rfl) (T.pass (by kernel_rfl) (by kernel_rfl) (T.p2 (.bool false) (.bool false) (fun _ => by kernel_rfl) (T.pass (by kernel_rfl) (by kernel_rfl) (T.pass (by kernel_rfl) (by kernel_rfl) (T.p2 (.bool false) (.bool false) (fun _ => by kernel_rfl) (T.pass (by kernel_rfl) (by kernel_rfl) (T.pass (by kernel_rfl) (by kernel_rfl) (T.p2 (.bool false) (.bool false) (fun _ => by kernel_rfl) (T.pass (by kernel_rfl) (by kernel_rfl) (T.pass (by kernel_rfl) (by kernel_rfl) (T.pass (by kernel_rfl) (by kernel_rfl) (T.pk (.bool false) (fun _ => by kernel_rfl) (T.nil ?_))))))))))))))))
       cases hX3
       exact fun a w' hf hh => ⟨V4, vr, (Fr.sel hf rfl), (hh.sub (kp1 (kp1 kp0)))⟩
      skip
      rw [hg3, cond_true] at hX3
      refine T.p2 (pB b1 0) (pB b1 1) (fun _ => by kernel_rfl) (T.look (vi e1.key.obj) (by kernel_rfl) (ld1 0 rfl rfl (fun _ => by kernel_rfl) (by rfl) rfl) ?_)
      refine T.p4 (vi p2) (.bool (e1.key.obj == p2)) (.bool (e1.key.obj == p2)) (.bool (e1.key.obj == p2)) (fun _ => by kernel_rfl) ?_
      cases hg4 : (e1.key.obj == p2)
      ·
       skip
       rw [hg4, cond_false] at hX3
       refine T.pass (by kernel_rfl) (by kernel_rfl) (T.pass (by kernel_rfl) (by kernel_rfl) (T.p2 (.bool false) (.bool false) (fun _ => by kernel_rfl) (T.pass (by kernel_rfl) (by kernel_rfl) (T.pass (by kernel_rfl) (by kernel_rfl) (T.p2 (.bool false) (.bool false) (fun _ => by kernel_rfl) (T.pass (by kernel_rfl) (by kernel_rfl) (T.pass (by kernel_rfl) (by kernel_rfl) (T.pass (by kernel_rfl) (by kernel_rfl) (T.pk (.bool false) (fun _ => by kernel_rfl) (T.nil ?_))))))))))
       cases hX3
       exact fun a w' hf hh => ⟨V4, vr, (Fr.sel hf rfl), (hh.sub (kp1 (kp1 kp0)))⟩
      skip
      rw [hg4, cond_true] at hX3
      refine T.p4 (vi (IntKind.i64.wrap (e1.key.off - 1))) (.bool (decide ((0 : Int) ≤ (IntKind.i64.wrap (e1.key.off - 1))))) (.bool (decide ((0 : Int) ≤ (IntKind.i64.wrap (e1.key.off - 1))))) (.bool (decide ((0 : Int) ≤ (IntKind.i64.wrap (e1.key.off - 1))))) (fun _ => by kernel_rfl) ?_
      cases hg5 : decide ((0 : Int) ≤ (IntKind.i64.wrap (e1.key.off - 1)))
      ·
       skip
       rw [hg5, cond_false] at hX3
       refine T.pass (by kernel_rfl) (by kernel_rfl) (T.pass (by kernel_rfl) (by kernel_rfl) (T.p2 (.bool false) (.bool false) (fun _ => by kernel_rfl) (T.pass (by kernel_rfl) (by kernel_rfl) (T.pass (by kernel_rfl) (by kernel_rfl) (T.pass (by kernel_rfl) (by kernel_rfl) (T.pk (.bool false) (fun _ => by kernel_rfl) (T.nil ?_)))))))
       cases hX3
       exact fun a w' hf hh => ⟨V4, vr, (Fr.sel hf rfl), (hh.sub (kp1 (kp1 kp0)))⟩
      skip
      rw [hg5, cond_true] at hX3
      refine T.p4 (vi (IntKind.i64.wrap (e1.key.off - 1))) (.bool (decide ((IntKind.i64.wrap (e1.key.off - 1)) < 20))) (.bool (decide ((IntKind.i64.wrap (e1.key.off - 1)) < 20))) (.bool (decide ((IntKind.i64.wrap (e1.key.off - 1)) < 20))) (fun _ => by kernel_rfl) ?_
      cases hg6 : decide ((IntKind.i64.wrap (e1.key.off - 1)) < 20)
      ·
       skip
       rw [hg6, cond_false] at hX3
       refine T.pass (by kernel_rfl) (by kernel_rfl) (T.pass (by kernel_rfl) (by kernel_rfl) (T.pass (by kernel_rfl) (by kernel_rfl) (T.pk (.bool false) (fun _ => by kernel_rfl) (T.nil ?_))))
       cases hX3
       exact fun a w' hf hh => ⟨V4, vr, (Fr.sel hf rfl), (hh.sub (kp1 (kp1 kp0)))⟩
      skip
      rw [hg6, cond_true] at hX3
      refine T.look a9_ (by kernel_rfl) (ldN 0 rfl rfl (fun _ => by kernel_rfl) (by rfl) rfl) ?_
      refine T.pk (vi 2147483647) (fun _ => by kernel_rfl) ?_
      obtain ⟨r3, hb4, hX3⟩ := ob hX3
      refine T.step (W1.call (vSc eBool) r3 63 #[a9_, vi 2147483647] (by kernel_rfl) (fun _ => by kernel_rfl) (fun w' hh => elem_Live_l e1 2147483647 r3 hb4 w' ) ?_)
      intro u V8 hV8 hu
      obtain rfl := sureBool _ _ _ hu
      refine T.pk (.bool r3) (fun _ => by kernel_rfl) (T.nil ?_)
      cases hX3
      exact fun a w' hf hh => ⟨V8, hV8, (Fr.sel hf rfl), (hh.sub (kp1 (kp1 kp0)))⟩
     rintro a w' ⟨V7, hV7, hf, hh⟩
     refine (?_ : T 55 w V7 t7_ [(1, vi p1), (2, vi p2), (3, vi 2147483647), (9, .map (some m1)), (11, pB b1 0), (12, vi (IntKind.i64.wrap (e1.key.off - 1))), (14, .slice A1 p0.length c1), (15, vi (p0.length : Int)), (16, vi x2), (48, .bool z4)] _) a w' hf hh
     clear hf hh
     refine T.cond z4 (by kernel_rfl) (by kernel_rfl) (fun hc5 => ?_) (fun hc5 => ?_)
     ·
      rw [hc5, cond_true] at hX2
      refine T.region (T.p3 (.map (some m1)) (vi (IntKind.i64.wrap (e1.key.off - 1))) (pB b1 5) (fun _ => by kernel_rfl) (T.look (.string e1.val) (by kernel_rfl) (ld1 0 rfl rfl (fun _ => by kernel_rfl) (by rfl) rfl) ?_))
      refine T.step (W1.mapUpdate (kt := 3) (et := 9) 1 (by rfl) (by kernel_rfl) rfl rfl rfl rfl (by kernel_rfl) (by kernel_rfl) ?_)
      refine T.nil ?_
      cases hX2
      exact fun a w' hf hh => ⟨V7, hV7, (Fr.sel hf rfl), (hh.sub (dr1 (kp1 kp0)))⟩
     rw [hc5, cond_false] at hX2
     refine T.skip_code ?_
     cases hX2
     exact fun a w' hf hh => ⟨V7, hV7, (Fr.sel hf rfl), (hh.sub (dr1 (kp1 kp0)))⟩
    rintro a w' ⟨V6, hV6, hf, hh⟩
    refine (?_ : T 55 w V6 [mapo m1 z3] [(1, vi p1), (2, vi p2), (3, vi 2147483647), (9, .map (some m1)), (14, .slice A1 p0.length c1), (15, vi (p0.length : Int)), (16, vi x2)] _) a w' hf hh
    clear hf hh
    refine T.region (T.p2 (vi (IntKind.i64.wrap (x2 + 1))) (vi (IntKind.i64.wrap (x2 + 1))) (fun _ => by kernel_rfl) (T.nil ?_))
    cases hY1
    exact fun a w' hf hh => ⟨(z3, IntKind.i64.wrap (x2 + 1)), rfl, z3, (IntKind.i64.wrap (x2 + 1)), rfl, V6, (vt hV4 hV6), (Fr.sel hf rfl), (hh.sub (kp1 kp0))⟩
   rw [hc4, cond_false] at hY1
   refine T.exit ?_
   cases hY1
   cases (hr1 _ rfl)
   exact fun a w' hf hh => ⟨V4, hV4, (Fr.sel hf rfl), (hh.sub (kp1 kp0))⟩
  rintro a w' ⟨V5, hV5, hf, hh⟩
  refine (?_ : T 55 w V5 [mapo m1 z2] [(9, .map (some m1))] _) a w' hf hh
  clear hf hh
  refine T.seq (T.region (T.p2 (.map (some m1)) (.map (some m1)) (fun _ => by kernel_rfl) (T.nil ?_)))
  cases hX1
  refine T.ret rfl ?_
  exact T.ret1 rfl (ResIs.tmp rfl) fun w' hh => ⟨_, rfl, ⟨m1, V5, hV5, rfl, (hh.sub (kp1 kp0))⟩⟩
 rintro v w' ⟨m1, V3, hV3, rfl, hh⟩
 refine ⟨V3, [mapo m1 z1], hh, ?_⟩
 clear hh
 refine T.pk (.map (some m1)) (fun _ => by kernel_rfl) (T.nil (T.seq (T.region (T.pk (.slice A1 p0.length c1) (fun _ => by kernel_rfl) ?_))))
 refine T.rownil 44 eElem ?_
 obtain ⟨y2, hb5, hF⟩ := ob hF
 obtain ⟨hb5_r, hb5_m, rfl⟩ := grow_some hb5
 obtain ⟨ti, hti, hz1, hz2, hz3⟩ := info_parts (P := Tryz.prog) (e := 44) (z := .agg #[vi 0, vi 0, vi 0, vi 0, vi 0, .string (ByteArray.mk #[])]) (size := 6) (bytes := 56) (by kernel_rfl)
 refine T.step (W1.append (E := eElem) (l := ([] : List DElem)) (m := p0) 0 _ _ 56 ti _ (by rfl) (by kernel_rfl) rfl (by kernel_rfl) hti hz1 hz2 hz3 rfl (by decide) rfl rfl (fun w' hh => (SlOk.srcF (SlOk.mono (SlOk.mono hs1 (vt (vt hV1 hV2) hV3)) hh.view) (fun _ _ _ _ h => h))) hb5_r hb5_m (fun A2 c2 => ?_))
 refine T.pk (.slice A2 ((([] : List DElem) ++ p0).length) c2) (fun _ => by kernel_rfl) (T.nil (T.seq (T.seq (T.region (T.pk (vi 0) (fun _ => by kernel_rfl) (T.nil ?_))))))
 refine T.freezeF (E := eElem) (H' := [mapo m1 z1]) 0 (by rfl) rfl (fun _ _ _ _ h => h) (fun V9 hV9 hs2 => ?_)
 obtain ⟨q1, hz2, hF⟩ := ob hF
 refine T.mid (fun a w' => ∃ (z5 : List DElem), q1 = Sum.inl z5 ∧ ∃ (A4 : Option Addr) (c4 : Nat) (V11 : View), View.le V9 V11 ∧ SlOk (made w V11) eElem A4 c4 z5 ∧ Fr 113 [(16, .slice A4 z5.length c4)] a ∧ Hp w V11 [] w') ?_ ?_
 ·
  refine T.block ?_
  refine T.iter (fun s2 a w' => ∃ (x3 : List DElem) (x4 : Int), s2 = (x3, x4) ∧ ∃ (A3 : Option Addr) (c3 : Nat) (V10 : View), View.le V9 V10 ∧ SlOk (made w V10) eElem A3 c3 x3 ∧ Fr 113 [(1, vi p1), (2, vi p2), (3, .string p3), (4, vi p4), (15, .map (some m1)), (16, .slice A3 x3.length c3), (55, vi x4)] a ∧ Hp w V10 [mapo m1 z1] w') hz2 ?_ ?_
  ·
   exact fun a w' hf hh => ⟨(([] : List DElem) ++ p0), 0, rfl, A2, c2, V9, vr, (SlOk.mono hs2 (made_mono vr)), (Fr.sel hf rfl), (hh.sub (kp1 kp0))⟩
  rintro s2 y3 hY2 hr2 a w' ⟨x3, x4, rfl, A3, c3, V10, hV10, hs3, hf, hh⟩
  refine (?_ : T 113 w V10 [mapo m1 z1] [(1, vi p1), (2, vi p2), (3, .string p3), (4, vi p4), (15, .map (some m1)), (16, .slice A3 x3.length c3), (55, vi x4)] _) a w' hf hh
  clear hf hh
  try dsimp only at hY2
  refine T.seq (T.region (T.pk (.bool (decide (x4 < 20))) (fun _ => by kernel_rfl) (T.nil (T.seq ?_))))
  refine T.cond (decide (x4 < 20)) (by kernel_rfl) (by kernel_rfl) (fun hc6 => ?_) (fun hc6 => ?_)
  ·
   rw [hc6, cond_true] at hY2
   refine T.skip_code ?_
   obtain ⟨q2, hX4, hY2⟩ := ob hY2
   refine T.cut (fun a w' => ∃ (z6 : List DElem), q2 = Sum.inl z6 ∧ ∃ (A5 : Option Addr) (c5 : Nat) (V12 : View), View.le V10 V12 ∧ SlOk (made w V12) eElem A5 c5 z6 ∧ Fr 113 [(1, vi p1), (2, vi p2), (3, .string p3), (4, vi p4), (15, .map (some m1)), (16, .slice A5 z6.length c5), (55, vi x4)] a ∧ Hp w V12 [mapo m1 z1] w') ?_ ?_
   ·
    refine T.block (T.seq (T.region (T.p2 (vi x4) (vi x4) (fun _ => by kernel_rfl) (T.nil (T.seq (T.region (T.p2 (.map (some m1)) (vi x4) (fun _ => by kernel_rfl) (T.look (.tuple #[.string (mget z1 x4), .bool (mhas z1 x4)]) (by kernel_rfl) (fun w' hh => exec_lookupOk (kt := 3) (et := 9) 0 hh (by rfl) rfl rfl rfl (by kernel_rfl) (by kernel_rfl) (by kernel_rfl)) ?_))))))))
    refine T.p5 (.tuple #[.string (mget z1 x4), .bool (mhas z1 x4)]) (.string (mget z1 x4)) (.bool (mhas z1 x4)) (.string (mget z1 x4)) (.bool (mhas z1 x4)) (fun _ => by kernel_rfl) (T.nil (T.seq (T.region (T.pk (vi 0) (fun _ => by kernel_rfl) (T.nil ?_)))))
    obtain ⟨q3, hX5, hX4⟩ := ob hX4
    refine T.cut (fun a w' => ∃ (z7 : List DElem) (z8 : Int), q3 = Sum.inl (z7, z8) ∧ ∃ (A6 : Option Addr) (c6 : Nat) (V13 : View), View.le V10 V13 ∧ SlOk (made w V13) eElem A6 c6 z7 ∧ Fr 113 [(1, vi p1), (2, vi p2), (3, .string p3), (4, vi p4), (15, .map (some m1)), (16, .slice A6 z7.length c6), (20, vi z8), (55, vi x4)] a ∧ Hp w V13 [mapo m1 z1] w') ?_ ?_
    ·
     refine T.seq (T.region (T.p3 (vi x4) (vi (IntKind.i64.wrap (x4 * 16))) (vi (IntKind.i64.wrap (x4 * 16))) (fun _ => by kernel_rfl) (T.nil (T.block (T.seq (T.region (T.p5 (vi (IntKind.i64.wrap (x4 * 16))) (.string p3) (vi (p3.size : Int)) (.bool (decide ((IntKind.i64.wrap (x4 * 16)) < (p3.size : Int)))) (.bool (decide ((IntKind.i64.wrap (x4 * 16)) < (p3.size : Int)))) (fun _ => by kernel_rfl) (T.nil ?_))))))))
     refine T.cond (decide ((IntKind.i64.wrap (x4 * 16)) < (p3.size : Int))) (by kernel_rfl) (by kernel_rfl) (fun hc7 => ?_) (fun hc7 => ?_)
     ·
      rw [hc7, cond_true] at hX5
      refine T.seq (T.region (T.p7 (.string p3) (vi (IntKind.i64.wrap (x4 * 16))) (.string p3) (vi (p3.size : Int)) (vi (IntKind.i64.wrap (x4 * 16))) (vi (IntKind.i64.wrap ((IntKind.i64.wrap (x4 * 16)) + 16))) (vi (if (IntKind.i64.wrap ((IntKind.i64.wrap (x4 * 16)) + 16)) < (p3.size : Int) then IntKind.i64.wrap ((IntKind.i64.wrap (x4 * 16)) + 16) else (p3.size : Int))) (fun _ => by kernel_rfl) ?_))
      obtain ⟨s3, hb6, hX5⟩ := ob hX5
      refine T.look (.string s3) (by kernel_rfl) (fun w' hh => exec_slice_str rfl rfl rfl rfl (by kernel_rfl) hb6) ?_
      refine T.pk (.string s3) (fun _ => by kernel_rfl) (T.nil (T.seq ?_))
      refine T.cut (fun a w' => Fr 113 [(1, vi p1), (2, vi p2), (3, .string p3), (4, vi p4), (15, .map (some m1)), (16, .slice A3 x3.length c3), (17, vi x4), (22, .string s3), (55, vi x4), (84, .bool ((mhas z1 x4) && (seq (mget z1 x4) s3)))] a ∧ Hp w V10 [mapo m1 z1] w') ?_ ?_
      ·
       refine T.region (T.p2 (.bool (mhas z1 x4)) (.bool (mhas z1 x4)) (fun _ => by kernel_rfl) ?_)
       cases hg7 : (mhas z1 x4)
       ·
        skip
        refine T.pass (by kernel_rfl) (by kernel_rfl) (T.pass (by kernel_rfl) (by kernel_rfl) (T.pass (by kernel_rfl) (by kernel_rfl) (T.pk (.bool false) (fun _ => by kernel_rfl) (T.nil ?_))))
        exact fun a w' hf hh => ⟨(Fr.sel hf rfl), (hh.sub (kp1 kp0))⟩
       skip
       refine T.p4 (.string (mget z1 x4)) (.string s3) (.bool (seq (mget z1 x4) s3)) (.bool (seq (mget z1 x4) s3)) (fun _ => by kernel_rfl) (T.nil ?_)
       exact fun a w' hf hh => ⟨(Fr.sel hf rfl), (hh.sub (kp1 kp0))⟩
      rintro a w' ⟨hf, hh⟩
      refine (?_ : T 113 w V10 [mapo m1 z1] [(1, vi p1), (2, vi p2), (3, .string p3), (4, vi p4), (15, .map (some m1)), (16, .slice A3 x3.length c3), (17, vi x4), (22, .string s3), (55, vi x4), (84, .bool ((mhas z1 x4) && (seq (mget z1 x4) s3)))] _) a w' hf hh
      clear hf hh
      refine T.cond ((mhas z1 x4) && (seq (mget z1 x4) s3)) (by kernel_rfl) (by kernel_rfl) (fun hc8 => ?_) (fun hc8 => ?_)
      ·
       rw [hc8, cond_true] at hX5
       refine T.exit ?_
       cases hX5
       try dsimp only at hX4
       cases hX4
       exact fun a w' hf hh => ⟨x3, rfl, A3, c3, V10, vr, (SlOk.mono hs3 (made_mono vr)), (Fr.sel hf rfl), (hh.sub (kp1 kp0))⟩
      rw [hc8, cond_false] at hX5
      refine T.skip_code ?_
      refine T.region (T.p4 (.slice A3 x3.length c3) (vi p1) (vi p2) (vi x4) (fun _ => by kernel_rfl) ?_)
      obtain ⟨r5, hb7, hX5⟩ := ob hX5
      refine T.step (W1.call (vAg eKey) r5 98 #[vi p1, vi p2, vi x4] (by kernel_rfl) (fun _ => by kernel_rfl) (fun w' hh => file_block_l p1 p2 x4 r5 hb7 w' ) ?_)
      intro u V14 hV14 hu
      obtain rfl := sureKey _ _ _ hu
      refine T.p2 (.string s3) (vi p4) (fun _ => by kernel_rfl) ?_
      obtain ⟨r6, hb8, hX5⟩ := ob hX5
      refine T.step (W1.call (vT2 (vSc (eList eElem)) (vSc eInt)) r6 79 #[.slice A3 x3.length c3, .agg #[vi r5.pfs, vi r5.obj, vi r5.off], .string s3, vi p4] (by kernel_rfl) (fun _ => by kernel_rfl) (fun w' hh => run_Put_l F x3 r5 s3 p4 r6 hb8 w' A3 c3 (SlOk.mono (SlOk.mono hs3 (vt (made_le _ _) hV14)) hh.view)) ?_)
      intro u V15 hV15 hu
      obtain ⟨u1, u2, rfl, hu1, hu2⟩ := vT2_elim hu
      obtain ⟨A7, c7, rfl, hs7⟩ := vlist_elim hu1
      obtain rfl := sureInt _ _ _ hu2
      refine T.p5 (.tuple #[.slice A7 r6.1.length c7, vi r6.2]) (.slice A7 r6.1.length c7) (vi r6.2) (.slice A7 r6.1.length c7) (vi r6.2) (fun _ => by kernel_rfl) (T.nil ?_)
      cases hX5
      exact fun a w' hf hh => ⟨r6.1, r6.2, rfl, A7, c7, V15, (vt hV14 hV15), (SlOk.mono hs7 (made_mono vr)), (Fr.sel hf rfl), (hh.sub (kp1 kp0))⟩
     rw [hc7, cond_false] at hX5
     refine T.seq (T.region (T.p2 (.bool (mhas z1 x4)) (.bool (mhas z1 x4)) (fun _ => by kernel_rfl) (T.nil ?_)))
     refine T.cond (mhas z1 x4) (by kernel_rfl) (by kernel_rfl) (fun hc9 => ?_) (fun hc9 => ?_)
     ·
      rw [hc9, cond_true] at hX5
      refine T.region (T.p4 (.slice A3 x3.length c3) (vi p1) (vi p2) (vi x4) (fun _ => by kernel_rfl) ?_)
      obtain ⟨r7, hb9, hX5⟩ := ob hX5
      refine T.step (W1.call (vAg eKey) r7 98 #[vi p1, vi p2, vi x4] (by kernel_rfl) (fun _ => by kernel_rfl) (fun w' hh => file_block_l p1 p2 x4 r7 hb9 w' ) ?_)
      intro u V16 hV16 hu
      obtain rfl := sureKey _ _ _ hu
      refine T.pk (vi p4) (fun _ => by kernel_rfl) ?_
      obtain ⟨r8, hb10, hX5⟩ := ob hX5
      refine T.step (W1.call (vT2 (vSc (eList eElem)) (vSc eInt)) r8 67 #[.slice A3 x3.length c3, .agg #[vi r7.pfs, vi r7.obj, vi r7.off], vi p4] (by kernel_rfl) (fun _ => by kernel_rfl) (fun w' hh => run_Cut_l F x3 r7 p4 r8 hb10 w' A3 c3 (SlOk.mono (SlOk.mono hs3 (vt (made_le _ _) hV16)) hh.view)) ?_)
      intro u V17 hV17 hu
      obtain ⟨u3, u4, rfl, hu3, hu4⟩ := vT2_elim hu
      obtain ⟨A8, c8, rfl, hs8⟩ := vlist_elim hu3
      obtain rfl := sureInt _ _ _ hu4
      refine T.p5 (.tuple #[.slice A8 r8.1.length c8, vi r8.2]) (.slice A8 r8.1.length c8) (vi r8.2) (.slice A8 r8.1.length c8) (vi r8.2) (fun _ => by kernel_rfl) (T.nil ?_)
      cases hX5
      exact fun a w' hf hh => ⟨r8.1, r8.2, rfl, A8, c8, V17, (vt hV16 hV17), (SlOk.mono hs8 (made_mono vr)), (Fr.sel hf rfl), (hh.sub (kp1 kp0))⟩
     rw [hc9, cond_false] at hX5
     refine T.skip_code ?_
     cases hX5
     exact fun a w' hf hh => ⟨x3, 0, rfl, A3, c3, V10, vr, (SlOk.mono hs3 (made_mono vr)), (Fr.sel hf rfl), (hh.sub (kp1 kp0))⟩
    rintro a w' ⟨z7, z8, rfl, A6, c6, V13, hV13, hs6, hf, hh⟩
    try dsimp only at hX4
    refine (?_ : T 113 w V13 [mapo m1 z1] [(1, vi p1), (2, vi p2), (3, .string p3), (4, vi p4), (15, .map (some m1)), (16, .slice A6 z7.length c6), (20, vi z8), (55, vi x4)] _) a w' hf hh
    clear hf hh
    refine T.seq (T.region (T.p2 (vi z8) (.bool (z8 != 0)) (fun _ => by kernel_rfl) (T.nil ?_)))
    refine T.cond (z8 != 0) (by kernel_rfl) (by kernel_rfl) (fun hc10 => ?_) (fun hc10 => ?_)
    ·
     rw [hc10, cond_true] at hX4
     refine T.seq (T.region (T.p3 (vi z8) sN (vi z8) (fun _ => by kernel_rfl) (T.nil ?_)))
     cases hX4
     try dsimp only at hY2
     cases hY2
     cases (hr2 _ rfl)
     try dsimp only at hF
     cases hF
     refine T.ret rfl ?_
     exact T.ret2 rfl (ResIs.tmp rfl) (ResIs.tmp rfl) fun w' hh => ⟨_, rfl, hh.below, (vT2.mk ⟨_, _, rfl, (SlOk.nil _ _)⟩ (show _ from rfl))⟩
    rw [hc10, cond_false] at hX4
    refine T.skip_code ?_
    cases hX4
    exact fun a w' hf hh => ⟨z7, rfl, A6, c6, V13, hV13, (SlOk.mono hs6 (made_mono vr)), (Fr.sel hf rfl), (hh.sub (kp1 kp0))⟩
   rintro a w' ⟨z6, rfl, A5, c5, V12, hV12, hs5, hf, hh⟩
   try dsimp only at hY2
   refine (?_ : T 113 w V12 [mapo m1 z1] [(1, vi p1), (2, vi p2), (3, .string p3), (4, vi p4), (15, .map (some m1)), (16, .slice A5 z6.length c5), (55, vi x4)] _) a w' hf hh
   clear hf hh
   refine T.region (T.p2 (vi (IntKind.i64.wrap (x4 + 1))) (vi (IntKind.i64.wrap (x4 + 1))) (fun _ => by kernel_rfl) (T.nil ?_))
   cases hY2
   exact fun a w' hf hh => ⟨(z6, IntKind.i64.wrap (x4 + 1)), rfl, z6, (IntKind.i64.wrap (x4 + 1)), rfl, A5, c5, V12, (vt hV10 hV12), (SlOk.mono hs5 (made_mono vr)), (Fr.sel hf rfl), (hh.sub (kp1 kp0))⟩
  rw [hc6, cond_false] at hY2
  refine T.exit ?_
  cases hY2
  cases (hr2 _ rfl)
  exact fun a w' hf hh => ⟨x3, rfl, A3, c3, V10, hV10, (SlOk.mono hs3 (made_mono vr)), (Fr.sel hf rfl), (hh.sub (dr1 kp0))⟩
 rintro a w' ⟨z5, rfl, A4, c4, V11, hV11, hs4, hf, hh⟩
 try dsimp only at hF
 refine (?_ : T 113 w V11 [] [(16, .slice A4 z5.length c4)] _) a w' hf hh
 clear hf hh
 refine T.seq (T.region (T.p3 (.slice A4 z5.length c4) (.slice A4 z5.length c4) (vi 0) (fun _ => by kernel_rfl) (T.nil ?_)))
 cases hF
 refine T.ret rfl ?_
 exact T.ret2 rfl (ResIs.tmp rfl) (ResIs.tmp rfl) fun w' hh => ⟨_, rfl, hh.below, (vT2.mk ⟨_, _, rfl, (SlOk.mono hs4 (vt (made_mono vr) (made_fresh hh)))⟩ (show _ from rfl))⟩
end Go.Proofs.YtacjdfhllomccaaGreatDoor
