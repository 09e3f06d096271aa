/- The Go functions of group Run compute the pure functions of that group: written by walkgen.py. Condition of each: the pure function yields a result. -/
import Derived.Test.YtacjdfhllomccaaGreatDoorSh2J
import Derived.Test.YtacjdfhllomccaaGreatDoorKeyLJ
import Derived.Test.YtacjdfhllomccaaGreatDoorRunFJ
import Derived.Test.YtacjdfhllomccaaGreatDoorEqLJ
namespace Go.Proofs.YtacjdfhllomccaaGreatDoor
set_option linter.unusedVariables false
set_option maxRecDepth 100000 in
set_option maxHeartbeats 4000000 in
theorem run_Check_l (F : Nat) (p0 : (List DElem)) (r : Int) (hF : run_Check F p0 = some r) (w : World) (A1 : Option Addr) (c1 : Nat) (hs1 : SlOk (vw w) eElem A1 c1 p0) :
 Calls Tryz.prog 64 #[.slice A1 p0.length c1] w (Post (vSc eInt) r w) := by
 unfold run_Check at hF
 refine T.start (l := [.slice A1 p0.length c1]) Tryz.func64 rfl rfl rfl ?_
 refine T.seq (T.region (T.pk (vi 0) (fun _ => by kernel_rfl) (T.nil (T.seq (T.seq (T.region (T.p3 (.slice A1 p0.length c1) (vi (p0.length : Int)) (.bool (decide ((400 : Int) < (p0.length : Int)))) (fun _ => by kernel_rfl) (T.nil ?_))))))))
 refine T.cond (decide ((400 : Int) < (p0.length : Int))) (by kernel_rfl) (by kernel_rfl) (fun hc1 => ?_) (fun hc1 => ?_)
 ·
  rw [hc1, cond_true] at hF
  refine T.seq (T.region (T.pk (vi 2) (fun _ => by kernel_rfl) (T.nil ?_)))
  cases hF
  refine T.ret rfl ?_
  exact T.ret1 rfl (ResIs.tmp rfl) fun w' hh => ⟨_, rfl, hh.below, (show _ from rfl)⟩
 rw [hc1, cond_false] at hF
 refine T.skip_code ?_
 refine T.seq (T.seq (T.region (T.p3 (.slice A1 p0.length c1) (vi (p0.length : Int)) (vi 0) (fun _ => by kernel_rfl) (T.nil ?_))))
 obtain ⟨q1, hz1, hF⟩ := ob hF
 refine T.mid (fun a w' => q1 = Sum.inl () ∧ ∃ (V2 : View), View.le (vw w) V2 ∧ Fr 55 [] a ∧ Hp w V2 [] w') ?_ ?_
 ·
  refine T.block ?_
  refine T.iter (fun x1 a w' => ∃ (V1 : View), View.le (vw w) V1 ∧ Fr 55 [(0, .slice A1 p0.length c1), (10, .slice A1 p0.length c1), (11, vi (p0.length : Int)), (12, vi x1)] a ∧ Hp w V1 [] w') hz1 ?_ ?_
  ·
   exact fun a w' hf hh => ⟨(vw w), vr, (Fr.sel hf rfl), (hh.sub List.Sublist.slnil)⟩
  rintro x1 y1 hY1 hr1 a w' ⟨V1, hV1, hf, hh⟩
  refine (?_ : T 55 w V1 [] [(0, .slice A1 p0.length c1), (10, .slice A1 p0.length c1), (11, vi (p0.length : Int)), (12, vi x1)] _) a w' hf hh
  clear hf hh
  try dsimp only at hY1
  refine T.seq (T.region (T.pk (.bool (decide (x1 < (p0.length : Int)))) (fun _ => by kernel_rfl) (T.nil (T.seq ?_))))
  refine T.cond (decide (x1 < (p0.length : Int))) (by kernel_rfl) (by kernel_rfl) (fun hc2 => ?_) (fun hc2 => ?_)
  ·
   rw [hc2, cond_true] at hY1
   refine T.skip_code ?_
   obtain ⟨q2, hX1, hY1⟩ := ob hY1
   refine T.cut (fun a w' => q2 = Sum.inl () ∧ ∃ (V3 : View), View.le V1 V3 ∧ Fr 55 [(0, .slice A1 p0.length c1), (10, .slice A1 p0.length c1), (11, vi (p0.length : Int)), (12, vi x1)] a ∧ Hp w V3 [] w') ?_ ?_
   ·
    refine T.block (T.seq (T.region (T.pk (vi x1) (fun _ => by kernel_rfl) ?_)))
    obtain ⟨e1, hb1, hX1⟩ := ob hX1
    obtain ⟨hi1, hi2, hi3⟩ := idx_some hb1
    refine T.look (.pointer (some ((sadr A1).add (x1.toNat * 6)))) (by kernel_rfl) (fun w' hh => exec_indexAddr (e := 44) (s := 6) rfl rfl rfl (by kernel_rfl) (by kernel_rfl) hi1 hi2 ((SlOk.mono hs1 hV1).some_ hi3 (by decide))) ?_
    let v2_ : List Value := [vi e1.key.pfs, vi e1.key.obj, vi e1.key.off, vi e1.made, vi e1.gone, .string e1.val]
    let a5_ : Value := .agg #[vi e1.key.pfs, vi e1.key.obj, vi e1.key.off, vi e1.made, vi e1.gone, .string e1.val]
    refine T.look a5_ (by kernel_rfl) (fun w' hh => exec_loadN (cs := v2_) rfl rfl (by kernel_rfl) (by kernel_rfl) (fun j u hj => (hh.cell_view (SlOk.cellF (E := eElem) (SlOk.mono hs1 hV1) hi3 j (fun _ _ _ h => h) hj)))) ?_
    let v3_ : List Value := [vi 0, vi 0, vi 0, vi 0, vi 0, .string (ByteArray.mk #[])]
    refine T.step (W1.np 44 v3_ (fun _ => by kernel_rfl) (fun b1 => ?_))
    refine T.pk (vi x1) (fun _ => by kernel_rfl) ?_
    let i1_ : HObj := box b1 44 v2_
    refine T.step (W1.st 0 v2_ (i1_ :: []) v2_ (by rfl) rfl rfl rfl rfl rfl rfl (fun _ => by kernel_rfl) ?_)
    refine T.nil (T.seq (T.seq (T.region (T.look a5_ (by kernel_rfl) (ldN 0 rfl rfl (fun _ => by kernel_rfl) (by rfl) rfl) ?_))))
    obtain ⟨r1, hb2, hX1⟩ := ob hX1
    refine T.step (W1.call (vSc eInt) r1 99 #[a5_] (by kernel_rfl) (fun _ => by kernel_rfl) (fun w' hh => elem_Check_l e1 r1 hb2 w' ) ?_)
    intro u V4 hV4 hu
    obtain rfl := sureInt _ _ _ hu
    refine T.pk (vi r1) (fun _ => by kernel_rfl) (T.nil (T.seq (T.region (T.p2 (vi r1) (.bool (r1 != 0)) (fun _ => by kernel_rfl) (T.nil ?_)))))
    refine T.cond (r1 != 0) (by kernel_rfl) (by kernel_rfl) (fun hc3 => ?_) (fun hc3 => ?_)
    ·
     rw [hc3, cond_true] at hX1
     refine T.seq (T.region (T.p2 (vi r1) (vi r1) (fun _ => by kernel_rfl) (T.nil ?_)))
     cases hX1
     try dsimp only at hY1
     cases hY1
     cases (hr1 _ rfl)
     try dsimp only at hF
     cases hF
     refine T.ret rfl ?_
     exact T.ret1 rfl (ResIs.tmp rfl) fun w' hh => ⟨_, rfl, hh.below, (show _ from rfl)⟩
    rw [hc3, cond_false] at hX1
    refine T.skip_code ?_
    refine T.seq (T.seq (T.region (T.p2 (vi x1) (.bool (x1 == 0)) (fun _ => by kernel_rfl) (T.nil ?_))))
    refine T.cond (x1 == 0) (by kernel_rfl) (by kernel_rfl) (fun hc4 => ?_) (fun hc4 => ?_)
    ·
     rw [hc4, cond_true] at hX1
     refine T.exit ?_
     cases hX1
     exact fun a w' hf hh => ⟨rfl, V4, hV4, (Fr.sel hf rfl), (hh.sub (dr1 kp0))⟩
    rw [hc4, cond_false] at hX1
    refine T.skip_code ?_
    refine T.seq (T.region (T.p3 (.slice A1 p0.length c1) (vi x1) (vi (IntKind.i64.wrap (x1 - 1))) (fun _ => by kernel_rfl) ?_))
    obtain ⟨e2, hb3, hX1⟩ := ob hX1
    obtain ⟨hi4, hi5, hi6⟩ := idx_some hb3
    refine T.look (.pointer (some ((sadr A1).add (((IntKind.i64.wrap (x1 - 1)).toNat) * 6)))) (by kernel_rfl) (fun w' hh => exec_indexAddr (e := 44) (s := 6) rfl rfl rfl (by kernel_rfl) (by kernel_rfl) hi4 hi5 ((SlOk.mono hs1 (vt hV1 hV4)).some_ hi6 (by decide))) ?_
    let v4_ : List Value := [vi e2.key.pfs, vi e2.key.obj, vi e2.key.off, vi e2.made, vi e2.gone, .string e2.val]
    let a6_ : Value := .agg #[vi e2.key.pfs, vi e2.key.obj, vi e2.key.off, vi e2.made, vi e2.gone, .string e2.val]
    refine T.look a6_ (by kernel_rfl) (fun w' hh => exec_loadN (cs := v4_) rfl rfl (by kernel_rfl) (by kernel_rfl) (fun j u hj => (hh.cell_view (SlOk.cellF (E := eElem) (SlOk.mono hs1 (vt hV1 hV4)) hi6 j (fun _ _ _ h => h) hj)))) ?_
    refine T.step (W1.np 44 v3_ (fun _ => by kernel_rfl) (fun b2 => ?_))
    refine T.step (W1.st 0 v4_ ((box b2 44 v4_) :: i1_ :: []) v4_ (by rfl) rfl rfl rfl rfl rfl rfl (fun _ => by kernel_rfl) ?_)
    refine T.nil ?_
    obtain ⟨z1, hX2, hX1⟩ := ob hX1
    refine T.cut (fun a w' => Fr 55 [(0, .slice A1 p0.length c1), (10, .slice A1 p0.length c1), (11, vi (p0.length : Int)), (12, vi x1), (53, .bool z1)] a ∧ Hp w V4 [] w') ?_ ?_
    ·
     refine T.quiet (by kernel_rfl) (by kernel_rfl) ?_
     refine TQ.look a6_ (by kernel_rfl) (ldN 0 rfl rfl (fun _ => by kernel_rfl) (by rfl) rfl) ?_
     obtain ⟨r2, hb4, hX2⟩ := ob hX2
     let a7_ : Value := .agg #[vi r2.key.pfs, vi r2.key.obj, vi r2.key.off, vi r2.made]
     refine TQ.call (vAg eSpot) r2 101 #[a6_] a7_ (fun V u hu => sureSpot V u _ hu) (by kernel_rfl) (fun _ => by kernel_rfl) (fun w' hh => elem_Spot_l e2 r2 hb4 w' ) ?_
     refine TQ.look a5_ (by kernel_rfl) (ldN 1 rfl rfl (fun _ => by kernel_rfl) (by rfl) rfl) ?_
     obtain ⟨r3, hb5, hX2⟩ := ob hX2
     let a8_ : Value := .agg #[vi r3.key.pfs, vi r3.key.obj, vi r3.key.off, vi r3.made]
     refine TQ.call (vAg eSpot) r3 101 #[a5_] a8_ (fun V u hu => sureSpot V u _ hu) (by kernel_rfl) (fun _ => by kernel_rfl) (fun w' hh => elem_Spot_l e1 r3 hb5 w' ) ?_
     obtain ⟨r4, hb6, hX2⟩ := ob hX2
     refine TQ.call (vSc eInt) r4 100 #[a7_, a8_] (vi r4) (fun V u hu => sureInt V u _ hu) (by kernel_rfl) (fun _ => by kernel_rfl) (fun w' hh => key_CmpSpot_l r2 r3 r4 hb6 w' ) ?_
     refine TQ.pure (.bool (decide ((0 : Int) ≤ r4))) (by kernel_rfl) (fun _ => by kernel_rfl) ?_
     refine TQ.pure (.bool (decide ((0 : Int) ≤ r4))) (by kernel_rfl) (fun _ => by kernel_rfl) ?_
     cases hg1 : decide ((0 : Int) ≤ r4)
     ·
      skip
      rw [hg1, cond_false] at hX2
      refine TQ.pure (pB b2 0) (by kernel_rfl) (fun _ => by kernel_rfl) ?_
      refine TQ.look (.agg #[vi e2.key.pfs, vi e2.key.obj, vi e2.key.off]) (by kernel_rfl) (ldN 0 rfl rfl (fun _ => by kernel_rfl) (by rfl) rfl) ?_
      refine TQ.pure (pB b1 0) (by kernel_rfl) (fun _ => by kernel_rfl) ?_
      refine TQ.look (.agg #[vi e1.key.pfs, vi e1.key.obj, vi e1.key.off]) (by kernel_rfl) (ldN 1 rfl rfl (fun _ => by kernel_rfl) (by rfl) rfl) ?_
      refine TQ.look (.bool (e2.key == e1.key)) (by kernel_rfl) (fun w' hh => exec_eql_DKey e2.key e1.key w' rfl rfl rfl) ?_
      refine TQ.pure (.bool (e2.key == e1.key)) (by kernel_rfl) (fun _ => by kernel_rfl) ?_
      cases hg2 : (e2.key == e1.key)
      ·
       skip
       rw [hg2, cond_false] at hX2
       refine TQ.pass (by kernel_rfl) (by kernel_rfl) ?_
       refine TQ.pass (by kernel_rfl) (by kernel_rfl) ?_
       refine TQ.pass (by kernel_rfl) (by kernel_rfl) ?_
       refine TQ.pass (by kernel_rfl) (by kernel_rfl) ?_
       refine TQ.pass (by kernel_rfl) (by kernel_rfl) ?_
       refine TQ.pass (by kernel_rfl) (by kernel_rfl) ?_
       refine TQ.pass (by kernel_rfl) (by kernel_rfl) ?_
       refine TQ.pass (by kernel_rfl) (by kernel_rfl) ?_
       refine TQ.pass (by kernel_rfl) (by kernel_rfl) ?_
       refine TQ.pass (by kernel_rfl) (by kernel_rfl) ?_
       refine TQ.pure (.bool false) (by kernel_rfl) (fun _ => by kernel_rfl) ?_
       refine TQ.pure (.bool false) (by kernel_rfl) (fun _ => by kernel_rfl) ?_
       refine TQ.nil ?_
       cases hX2
       exact fun a w' hf hh => ⟨(Fr.sel hf rfl), (hh.sub (dr1 (dr1 kp0)))⟩
      skip
      rw [hg2, cond_true] at hX2
      refine TQ.pure (pB b2 4) (by kernel_rfl) (fun _ => by kernel_rfl) ?_
      refine TQ.look (vi e2.gone) (by kernel_rfl) (ld1 0 rfl rfl (fun _ => by kernel_rfl) (by rfl) rfl) ?_
      refine TQ.pure (.bool (e2.gone == 0)) (by kernel_rfl) (fun _ => by kernel_rfl) ?_
      refine TQ.pure (.bool (e2.gone == 0)) (by kernel_rfl) (fun _ => by kernel_rfl) ?_
      cases hg3 : (e2.gone == 0)
      ·
       skip
       rw [hg3, cond_false] at hX2
       refine TQ.pure (pB b2 4) (by kernel_rfl) (fun _ => by kernel_rfl) ?_
       refine TQ.look (vi e2.gone) (by kernel_rfl) (ld1 0 rfl rfl (fun _ => by kernel_rfl) (by rfl) rfl) ?_
       refine TQ.pure (pB b1 3) (by kernel_rfl) (fun _ => by kernel_rfl) ?_
       refine TQ.look (vi e1.made) (by kernel_rfl) (ld1 1 rfl rfl (fun _ => by kernel_rfl) (by rfl) rfl) ?_
       refine TQ.pure (.bool (decide (e1.made < e2.gone))) (by kernel_rfl) (fun _ => by kernel_rfl) ?_
       refine TQ.pure (.bool (decide (e1.made < e2.gone))) (by kernel_rfl) (fun _ => by kernel_rfl) ?_
       refine TQ.pure (.bool (decide (e1.made < e2.gone))) (by kernel_rfl) (fun _ => by kernel_rfl) ?_
       refine TQ.pure (.bool (decide (e1.made < e2.gone))) (by kernel_rfl) (fun _ => by kernel_rfl) ?_
       refine TQ.nil ?_
       cases hX2
       exact fun a w' hf hh => ⟨(Fr.sel hf rfl), (hh.sub (dr1 (dr1 kp0)))⟩
      skip
      rw [hg3, cond_true] at hX2
      refine TQ.pass (by kernel_rfl) (by kernel_rfl) ?_
      refine TQ.pass (by kernel_rfl) (by kernel_rfl) ?_
      refine TQ.pass (by kernel_rfl) (by kernel_rfl) ?_
      refine TQ.pass (by kernel_rfl) (by kernel_rfl) ?_
      refine TQ.pass (by kernel_rfl) (by kernel_rfl) ?_
      refine TQ.pure (.bool true) (by kernel_rfl) (fun _ => by kernel_rfl) ?_
      refine TQ.pure (.bool true) (by kernel_rfl) (fun _ => by kernel_rfl) ?_
      refine TQ.pure (.bool true) (by kernel_rfl) (fun _ => by kernel_rfl) ?_
      refine TQ.nil ?_
      cases hX2
      exact fun a w' hf hh => ⟨(Fr.sel hf rfl), (hh.sub (dr1 (dr1 kp0)))⟩
     skip
     rw [hg1, cond_true] at hX2
     refine TQ.pass (by kernel_rfl) (by kernel_rfl) ?_
     refine TQ.pass (by kernel_rfl) (by kernel_rfl) ?_
     refine TQ.pass (by kernel_rfl) (by kernel_rfl) ?_
     refine TQ.pass (by kernel_rfl) (by kernel_rfl) ?_
     refine TQ.pass (by kernel_rfl) (by kernel_rfl) ?_
     refine TQ.pass (by kernel_rfl) (by kernel_rfl) ?_
     refine TQ.pass (by kernel_rfl) (by kernel_rfl) ?_
     refine TQ.pass (by kernel_rfl) (by kernel_rfl) ?_
     refine TQ.pass (by kernel_rfl) (by kernel_rfl) ?_
     refine TQ.pass (by kernel_rfl) (by kernel_rfl) ?_
     refine TQ.pass (by kernel_rfl) (by kernel_rfl) ?_
     refine TQ.pass (by kernel_rfl) (by kernel_rfl) ?_
     refine TQ.pass (by kernel_rfl) (by kernel_rfl) ?_
     refine TQ.pass (by kernel_rfl) (by kernel_rfl) ?_
     refine TQ.pass (by kernel_rfl) (by kernel_rfl) ?_
     refine TQ.pass (by kernel_rfl) (by kernel_rfl) ?_
     refine TQ.pass (by kernel_rfl) (by kernel_rfl) ?_
     refine TQ.pure (.bool true) (by kernel_rfl) (fun _ => by kernel_rfl) ?_
     refine TQ.nil ?_
     cases hX2
     exact fun a w' hf hh => ⟨(Fr.sel hf rfl), (hh.sub (dr1 (dr1 kp0)))⟩
    rintro a w' ⟨hf, hh⟩
    refine (?_ : T 55 w V4 [] [(0, .slice A1 p0.length c1), (10, .slice A1 p0.length c1), (11, vi (p0.length : Int)), (12, vi x1), (53, .bool z1)] _) a w' hf hh
    clear hf hh
    refine T.cond z1 (by kernel_rfl) (by kernel_rfl) (fun hc5 => ?_) (fun hc5 => ?_)
    ·
     rw [hc5, cond_true] at hX1
     refine T.seq (T.region (T.pk (vi 3) (fun _ => by kernel_rfl) (T.nil ?_)))
     cases hX1
     try dsimp only at hY1
     cases hY1
     cases (hr1 _ rfl)
     try dsimp only at hF
     cases hF
     refine T.ret rfl ?_
     exact T.ret1 rfl (ResIs.tmp rfl) fun w' hh => ⟨_, rfl, hh.below, (show _ from rfl)⟩
    rw [hc5, cond_false] at hX1
    refine T.skip_code ?_
    cases hX1
    exact fun a w' hf hh => ⟨rfl, V4, hV4, (Fr.sel hf rfl), (hh.sub List.Sublist.slnil)⟩
   rintro a w' ⟨rfl, V3, hV3, hf, hh⟩
   try dsimp only at hY1
   refine (?_ : T 55 w V3 [] [(0, .slice A1 p0.length c1), (10, .slice A1 p0.length c1), (11, vi (p0.length : Int)), (12, vi x1)] _) a w' hf hh
   clear hf hh
   refine T.region (T.p2 (vi (IntKind.i64.wrap (x1 + 1))) (vi (IntKind.i64.wrap (x1 + 1))) (fun _ => by kernel_rfl) (T.nil ?_))
   cases hY1
   exact fun a w' hf hh => ⟨(IntKind.i64.wrap (x1 + 1)), rfl, V3, (vt hV1 hV3), (Fr.sel hf rfl), (hh.sub List.Sublist.slnil)⟩
  rw [hc2, cond_false] at hY1
  refine T.exit ?_
  cases hY1
  cases (hr1 _ rfl)
  exact fun a w' hf hh => ⟨rfl, V1, hV1, (Fr.nil hf), (hh.sub List.Sublist.slnil)⟩
 rintro a w' ⟨rfl, V2, hV2, hf, hh⟩
 try dsimp only at hF
 refine (?_ : T 55 w V2 [] [] _) a w' hf hh
 clear hf hh
 refine T.seq (T.region (T.pk (vi 0) (fun _ => by kernel_rfl) (T.nil ?_)))
 cases hF
 refine T.ret rfl ?_
 exact T.ret1 rfl (ResIs.tmp rfl) fun w' hh => ⟨_, rfl, hh.below, (show _ from rfl)⟩
set_option maxRecDepth 100000 in
set_option maxHeartbeats 4000000 in
theorem run_last_l (F : Nat) (p0 : (List DElem)) (r : Int) (hF : run_last F p0 = some r) (w : World) (A1 : Option Addr) (c1 : Nat) (hs1 : SlOk (vw w) eElem A1 c1 p0) :
 Calls Tryz.prog 65 #[.slice A1 p0.length c1] w (Post (vSc eInt) r w) := by
 unfold run_last at hF
 refine T.start (l := [.slice A1 p0.length c1]) Tryz.func65 rfl rfl rfl ?_
 refine T.seq (T.region (T.pk (vi 0) (fun _ => by kernel_rfl) (T.nil (T.seq (T.region (T.pk (vi 0) (fun _ => by kernel_rfl) (T.nil (T.seq (T.seq (T.region (T.p3 (.slice A1 p0.length c1) (vi (p0.length : Int)) (vi 0) (fun _ => by kernel_rfl) (T.nil ?_))))))))))))
 obtain ⟨z1, hz1, hF⟩ := ob hF
 refine T.mid (fun a w' => ∃ (V2 : View), View.le (vw w) V2 ∧ Fr 18 [(3, vi z1)] a ∧ Hp w V2 [] w') ?_ ?_
 ·
  refine T.block ?_
  refine T.iter (fun s1 a w' => ∃ (x1 : Int) (x2 : Int), s1 = (x1, x2) ∧ ∃ (V1 : View), View.le (vw w) V1 ∧ Fr 18 [(3, vi x1), (6, .slice A1 p0.length c1), (7, vi (p0.length : Int)), (8, vi x2)] a ∧ Hp w V1 [] w') hz1 ?_ ?_
  ·
   exact fun a w' hf hh => ⟨0, 0, rfl, (vw w), vr, (Fr.sel hf rfl), (hh.sub List.Sublist.slnil)⟩
  rintro s1 y1 hY1 hr1 a w' ⟨x1, x2, rfl, V1, hV1, hf, hh⟩
  refine (?_ : T 18 w V1 [] [(3, vi x1), (6, .slice A1 p0.length c1), (7, vi (p0.length : Int)), (8, vi x2)] _) a w' hf hh
  clear hf hh
  try dsimp only at hY1
  refine T.seq (T.region (T.pk (.bool (decide (x2 < (p0.length : Int)))) (fun _ => by kernel_rfl) (T.nil (T.seq ?_))))
  refine T.cond (decide (x2 < (p0.length : Int))) (by kernel_rfl) (by kernel_rfl) (fun hc1 => ?_) (fun hc1 => ?_)
  ·
   rw [hc1, cond_true] at hY1
   refine T.skip_code ?_
   refine T.seq (T.block (T.seq (T.region ?_)))
   obtain ⟨e1, hb1, hY1⟩ := ob hY1
   obtain ⟨hi1, hi2, hi3⟩ := idx_some hb1
   refine T.look (.pointer (some ((sadr A1).add (x2.toNat * 6)))) (by kernel_rfl) (fun w' hh => exec_indexAddr (e := 44) (s := 6) rfl rfl rfl (by kernel_rfl) (by kernel_rfl) hi1 hi2 ((SlOk.mono hs1 hV1).some_ hi3 (by decide))) ?_
   let v9_ : List Value := [vi e1.key.pfs, vi e1.key.obj, vi e1.key.off, vi e1.made, vi e1.gone, .string e1.val]
   let a10_ : Value := .agg #[vi e1.key.pfs, vi e1.key.obj, vi e1.key.off, vi e1.made, vi e1.gone, .string e1.val]
   refine T.look a10_ (by kernel_rfl) (fun w' hh => exec_loadN (cs := v9_) rfl rfl (by kernel_rfl) (by kernel_rfl) (fun j u hj => (hh.cell_view (SlOk.cellF (E := eElem) (SlOk.mono hs1 hV1) hi3 j (fun _ _ _ h => h) hj)))) ?_
   refine T.step (W1.np 44 [vi 0, vi 0, vi 0, vi 0, vi 0, .string (ByteArray.mk #[])] (fun _ => by kernel_rfl) (fun b1 => ?_))
   refine T.step (W1.st 0 v9_ ((box b1 44 v9_) :: []) v9_ (by rfl) rfl rfl rfl rfl rfl rfl (fun _ => by kernel_rfl) ?_)
   refine T.nil (T.region (T.pk (vi x1) (fun _ => by kernel_rfl) (T.look a10_ (by kernel_rfl) (ldN 0 rfl rfl (fun _ => by kernel_rfl) (by rfl) rfl) ?_)))
   obtain ⟨r1, hb2, hY1⟩ := ob hY1
   refine T.step (W1.call (vSc eInt) r1 102 #[a10_] (by kernel_rfl) (fun _ => by kernel_rfl) (fun w' hh => elem_Last_l e1 r1 hb2 w' ) ?_)
   intro u V3 hV3 hu
   obtain rfl := sureInt _ _ _ hu
   refine T.p2 (vi (if x1 < r1 then r1 else x1)) (vi (if x1 < r1 then r1 else x1)) (fun _ => by kernel_rfl) (T.nil (T.region (T.p2 (vi (IntKind.i64.wrap (x2 + 1))) (vi (IntKind.i64.wrap (x2 + 1))) (fun _ => by kernel_rfl) (T.nil ?_))))
   cases hY1
   exact fun a w' hf hh => ⟨((if x1 < r1 then r1 else x1), IntKind.i64.wrap (x2 + 1)), rfl, (if x1 < r1 then r1 else x1), (IntKind.i64.wrap (x2 + 1)), rfl, V3, (vt hV1 hV3), (Fr.sel hf rfl), (hh.sub (dr1 kp0))⟩
  rw [hc1, cond_false] at hY1
  refine T.exit ?_
  cases hY1
  cases (hr1 _ rfl)
  exact fun a w' hf hh => ⟨V1, hV1, (Fr.sel hf rfl), (hh.sub List.Sublist.slnil)⟩
 rintro a w' ⟨V2, hV2, hf, hh⟩
 refine (?_ : T 18 w V2 [] [(3, vi z1)] _) a w' hf hh
 clear hf hh
 refine T.seq (T.region (T.p2 (vi z1) (vi z1) (fun _ => by kernel_rfl) (T.nil ?_)))
 cases hF
 refine T.ret rfl ?_
 exact T.ret1 rfl (ResIs.tmp rfl) fun w' hh => ⟨_, rfl, hh.below, (show _ from rfl)⟩
set_option maxRecDepth 100000 in
set_option maxHeartbeats 4000000 in
theorem run_place_l (F : Nat) (p0 : (List DElem)) (p1 : DSpot) (r : Int) (hF : run_place F p0 p1 = some r) (w : World) (A1 : Option Addr) (c1 : Nat) (hs1 : SlOk (vw w) eElem A1 c1 p0) :
 Calls Tryz.prog 111 #[.slice A1 p0.length c1, .agg #[.int .i64 p1.key.pfs, .int .i64 p1.key.obj, .int .i64 p1.key.off, .int .i64 p1.made]] w (Post (vSc eInt) r w) := by
 unfold run_place at hF
 let a15_ : Value := .agg #[vi p1.key.pfs, vi p1.key.obj, vi p1.key.off, vi p1.made]
 refine T.start (l := [.slice A1 p0.length c1, a15_]) Tryz.func111 rfl rfl rfl ?_
 refine T.seq (T.region (T.step (W1.np 38 [.slice A1 p0.length c1] (fun _ => by kernel_rfl) (fun b1 => ?_))))
 let v14_ : List Value := [vi p1.key.pfs, vi p1.key.obj, vi p1.key.off, vi p1.made]
 refine T.step (W1.np 133 v14_ (fun _ => by kernel_rfl) (fun b2 => ?_))
 refine T.pk (vi 0) (fun _ => by kernel_rfl) (T.nil (T.seq (T.region (T.look (.slice A1 p0.length c1) (by kernel_rfl) (ld1 1 rfl rfl (fun _ => by kernel_rfl) (by rfl) rfl) ?_))))
 refine T.p2 (vi (p0.length : Int)) (.func (.func 130) #[] #[pB b1 0, pB b2 0]) (fun _ => by kernel_rfl) ?_
 obtain ⟨z1, hX1, hF⟩ := ob hF
 let i11_ : HObj := box b2 133 v14_
 let i12_ : HObj := box b1 38 [.slice A1 p0.length c1]
 let t13_ : List HObj := i11_ :: i12_ :: []
 refine T.step (W1.within 112 [vi (p0.length : Int), .func (.func 130) #[] #[pB b1 0, pB b2 0]] (fun v w' => v = vi z1 ∧ Hp w (vw w) t13_ w') Tryz.func112 rfl rfl (by kernel_rfl) (fun _ => by kernel_rfl) rfl ?_ ?_)
 ·
  refine T.seq (T.region (T.pk (vi 0) (fun _ => by kernel_rfl) (T.nil (T.seq (T.region (T.p3 (vi (p0.length : Int)) (vi 0) (vi (p0.length : Int)) (fun _ => by kernel_rfl) (T.nil ?_)))))))
  obtain ⟨z2, hz1, hX1⟩ := ob hX1
  refine T.cut (fun a w' => Fr 26 [(5, vi z2)] a ∧ Hp w (vw w) t13_ w') ?_ ?_
  ·
   refine T.block ?_
   refine T.iter (fun s1 a w' => ∃ (x1 : Int) (x2 : Int), s1 = (x1, x2) ∧ Fr 26 [(1, .func (.func 130) #[] #[pB b1 0, pB b2 0]), (5, vi x1), (6, vi x2)] a ∧ Hp w (vw w) t13_ w') hz1 ?_ ?_
   ·
    exact fun a w' hf hh => ⟨0, (p0.length : Int), rfl, (Fr.sel hf rfl), (hh.sub (kp1 (kp1 kp0)))⟩
   rintro s1 y1 hY1 hr1 a w' ⟨x1, x2, rfl, hf, hh⟩
   refine (?_ : T 26 w (vw w) t13_ [(1, .func (.func 130) #[] #[pB b1 0, pB b2 0]), (5, vi x1), (6, vi x2)] _) a w' hf hh
   clear hf hh
   try dsimp only at hY1
   refine T.seq (T.seq (T.region (T.p3 (vi x1) (vi x2) (.bool (decide (x1 < x2))) (fun _ => by kernel_rfl) (T.nil ?_))))
   refine T.cond (decide (x1 < x2)) (by kernel_rfl) (by kernel_rfl) (fun hc1 => ?_) (fun hc1 => ?_)
   ·
    rw [hc1, cond_true] at hY1
    refine T.skip_code ?_
    refine T.block (T.seq (T.region (T.p7 (vi x1) (vi x2) (vi (IntKind.i64.wrap (x1 + x2))) (.int .u64 (IntKind.u64.wrap (IntKind.i64.wrap (x1 + x2)))) (.int .u64 (shr .u64 (IntKind.u64.wrap (IntKind.i64.wrap (x1 + x2))) 1)) (vi (IntKind.i64.wrap (shr .u64 (IntKind.u64.wrap (IntKind.i64.wrap (x1 + x2))) 1))) (vi (IntKind.i64.wrap (shr .u64 (IntKind.u64.wrap (IntKind.i64.wrap (x1 + x2))) 1))) (fun _ => by kernel_rfl) (T.nil (T.seq (T.region (T.p2 (.func (.func 130) #[] #[pB b1 0, pB b2 0]) (vi (IntKind.i64.wrap (shr .u64 (IntKind.u64.wrap (IntKind.i64.wrap (x1 + x2))) 1))) (fun _ => by kernel_rfl) ?_)))))))
    obtain ⟨z3, hX2, hY1⟩ := ob hY1
    refine T.step (W1.within 130 [vi (IntKind.i64.wrap (shr .u64 (IntKind.u64.wrap (IntKind.i64.wrap (x1 + x2))) 1)), pB b1 0, pB b2 0] (fun v w' => v = .bool z3 ∧ Hp w (vw w) t13_ w') Tryz.func130 rfl rfl (by kernel_rfl) (fun _ => by kernel_rfl) rfl ?_ ?_)
    ·
     refine T.seq (T.region (T.pk (.bool false) (fun _ => by kernel_rfl) (T.nil (T.seq ?_))))
     refine T.quiet (by kernel_rfl) (by kernel_rfl) ?_
     refine TQ.look (.slice A1 p0.length c1) (by kernel_rfl) (ld1 1 rfl rfl (fun _ => by kernel_rfl) (by rfl) rfl) ?_
     refine TQ.pure (vi (IntKind.i64.wrap (shr .u64 (IntKind.u64.wrap (IntKind.i64.wrap (x1 + x2))) 1))) (by kernel_rfl) (fun _ => by kernel_rfl) ?_
     obtain ⟨e1, hb1, hX2⟩ := ob hX2
     obtain ⟨hi1, hi2, hi3⟩ := idx_some hb1
     refine TQ.look (.pointer (some ((sadr A1).add (((IntKind.i64.wrap (shr .u64 (IntKind.u64.wrap (IntKind.i64.wrap (x1 + x2))) 1)).toNat) * 6)))) (by kernel_rfl) (fun w' hh => exec_indexAddr (e := 44) (s := 6) rfl rfl rfl (by kernel_rfl) (by kernel_rfl) hi1 hi2 (hs1.some_ hi3 (by decide))) ?_
     let a16_ : Value := .agg #[vi e1.key.pfs, vi e1.key.obj, vi e1.key.off, vi e1.made, vi e1.gone, .string e1.val]
     refine TQ.look a16_ (by kernel_rfl) (fun w' hh => exec_loadN (cs := [vi e1.key.pfs, vi e1.key.obj, vi e1.key.off, vi e1.made, vi e1.gone, .string e1.val]) rfl rfl (by kernel_rfl) (by kernel_rfl) (fun j u hj => (hh.cell_view (SlOk.cellF (E := eElem) hs1 hi3 j (fun _ _ _ h => h) hj)))) ?_
     obtain ⟨r1, hb2, hX2⟩ := ob hX2
     let a17_ : Value := .agg #[vi r1.key.pfs, vi r1.key.obj, vi r1.key.off, vi r1.made]
     refine TQ.call (vAg eSpot) r1 101 #[a16_] a17_ (fun V u hu => sureSpot V u _ hu) (by kernel_rfl) (fun _ => by kernel_rfl) (fun w' hh => elem_Spot_l e1 r1 hb2 w' ) ?_
     refine TQ.look a15_ (by kernel_rfl) (ldN 0 rfl rfl (fun _ => by kernel_rfl) (by rfl) rfl) ?_
     obtain ⟨r2, hb3, hX2⟩ := ob hX2
     refine TQ.call (vSc eInt) r2 100 #[a17_, a15_] (vi r2) (fun V u hu => sureInt V u _ hu) (by kernel_rfl) (fun _ => by kernel_rfl) (fun w' hh => key_CmpSpot_l r1 p1 r2 hb3 w' ) ?_
     refine TQ.pure (.bool (decide ((0 : Int) ≤ r2))) (by kernel_rfl) (fun _ => by kernel_rfl) ?_
     refine TQ.pure (.bool (decide ((0 : Int) ≤ r2))) (by kernel_rfl) (fun _ => by kernel_rfl) ?_
     refine TQ.nil ?_
     cases hX2
     refine T.ret rfl ?_
     exact T.ret1 rfl (ResIs.tmp rfl) fun w' hh => ⟨_, rfl, ⟨rfl, (hh.sub (kp1 (kp1 kp0)))⟩⟩
    rintro v w' ⟨rfl, hh⟩
    refine ⟨(vw w), t13_, hh, ?_⟩
    clear hh
    refine T.pk (.bool (!z3)) (fun _ => by kernel_rfl) (T.nil ?_)
    refine T.cond (!z3) (by kernel_rfl) (by kernel_rfl) (fun hc2 => ?_) (fun hc2 => ?_)
    ·
     rw [hc2, cond_true] at hY1
     refine T.region (T.p3 (vi (IntKind.i64.wrap (shr .u64 (IntKind.u64.wrap (IntKind.i64.wrap (x1 + x2))) 1))) (vi (IntKind.i64.wrap ((IntKind.i64.wrap (shr .u64 (IntKind.u64.wrap (IntKind.i64.wrap (x1 + x2))) 1)) + 1))) (vi (IntKind.i64.wrap ((IntKind.i64.wrap (shr .u64 (IntKind.u64.wrap (IntKind.i64.wrap (x1 + x2))) 1)) + 1))) (fun _ => by kernel_rfl) (T.nil ?_))
     cases hY1
     exact fun a w' hf hh => ⟨(IntKind.i64.wrap ((IntKind.i64.wrap (shr .u64 (IntKind.u64.wrap (IntKind.i64.wrap (x1 + x2))) 1)) + 1), x2), rfl, (IntKind.i64.wrap ((IntKind.i64.wrap (shr .u64 (IntKind.u64.wrap (IntKind.i64.wrap (x1 + x2))) 1)) + 1)), x2, rfl, (Fr.sel hf rfl), (hh.sub (kp1 (kp1 kp0)))⟩
    rw [hc2, cond_false] at hY1
    refine T.region (T.p2 (vi (IntKind.i64.wrap (shr .u64 (IntKind.u64.wrap (IntKind.i64.wrap (x1 + x2))) 1))) (vi (IntKind.i64.wrap (shr .u64 (IntKind.u64.wrap (IntKind.i64.wrap (x1 + x2))) 1))) (fun _ => by kernel_rfl) (T.nil ?_))
    cases hY1
    exact fun a w' hf hh => ⟨(x1, IntKind.i64.wrap (shr .u64 (IntKind.u64.wrap (IntKind.i64.wrap (x1 + x2))) 1)), rfl, x1, (IntKind.i64.wrap (shr .u64 (IntKind.u64.wrap (IntKind.i64.wrap (x1 + x2))) 1)), rfl, (Fr.sel hf rfl), (hh.sub (kp1 (kp1 kp0)))⟩
   rw [hc1, cond_false] at hY1
   refine T.exit ?_
   cases hY1
   cases (hr1 _ rfl)
   exact fun a w' hf hh => ⟨(Fr.sel hf rfl), (hh.sub (kp1 (kp1 kp0)))⟩
  rintro a w' ⟨hf, hh⟩
  refine (?_ : T 26 w (vw w) t13_ [(5, vi z2)] _) a w' hf hh
  clear hf hh
  refine T.seq (T.region (T.p2 (vi z2) (vi z2) (fun _ => by kernel_rfl) (T.nil ?_)))
  cases hX1
  refine T.ret rfl ?_
  exact T.ret1 rfl (ResIs.tmp rfl) fun w' hh => ⟨_, rfl, ⟨rfl, (hh.sub (kp1 (kp1 kp0)))⟩⟩
 rintro v w' ⟨rfl, hh⟩
 refine ⟨(vw w), t13_, hh, ?_⟩
 clear hh
 refine T.pk (vi z1) (fun _ => by kernel_rfl) (T.nil ?_)
 cases hF
 refine T.ret rfl ?_
 exact T.ret1 rfl (ResIs.tmp rfl) fun w' hh => ⟨_, rfl, hh.below, (show _ from rfl)⟩
set_option maxRecDepth 100000 in
set_option maxHeartbeats 4000000 in
theorem run_now_l (F : Nat) (p0 : (List DElem)) (p1 : DKey) (r : Int) (hF : run_now F p0 p1 = some r) (w : World) (A1 : Option Addr) (c1 : Nat) (hs1 : SlOk (vw w) eElem A1 c1 p0) :
 Calls Tryz.prog 107 #[.slice A1 p0.length c1, .agg #[.int .i64 p1.pfs, .int .i64 p1.obj, .int .i64 p1.off]] w (Post (vSc eInt) r w) := by
 unfold run_now at hF
 let a19_ : Value := .agg #[vi p1.pfs, vi p1.obj, vi p1.off]
 refine T.start (l := [.slice A1 p0.length c1, a19_]) Tryz.func107 rfl rfl rfl ?_
 refine T.seq (T.region ?_)
 let v18_ : List Value := [vi p1.pfs, vi p1.obj, vi p1.off]
 refine T.step (W1.np 42 v18_ (fun _ => by kernel_rfl) (fun b1 => ?_))
 refine T.pk (vi 0) (fun _ => by kernel_rfl) (T.nil (T.seq (T.region (T.pk (.slice A1 p0.length c1) (fun _ => by kernel_rfl) (T.look a19_ (by kernel_rfl) (ldN 0 rfl rfl (fun _ => by kernel_rfl) (by rfl) rfl) ?_)))))
 let a20_ : Value := .agg #[vi p1.pfs, vi p1.obj, vi p1.off, vi 2147483648]
 refine T.pk a20_ (fun _ => by kernel_rfl) ?_
 obtain ⟨r1, hb1, hF⟩ := ob hF
 refine T.step (W1.call (vSc eInt) r1 111 #[.slice A1 p0.length c1, a20_] (by kernel_rfl) (fun _ => by kernel_rfl) (fun w' hh => run_place_l F p0 (DSpot.mk p1 2147483648) r1 hb1 w' A1 c1 (SlOk.mono hs1 hh.view)) ?_)
 intro u V1 hV1 hu
 obtain rfl := sureInt _ _ _ hu
 refine T.p2 (vi (IntKind.i64.wrap (r1 - 1))) (vi (IntKind.i64.wrap (r1 - 1))) (fun _ => by kernel_rfl) (T.nil (T.seq ?_))
 obtain ⟨z1, hX1, hF⟩ := ob hF
 refine T.cut (fun a w' => Fr 31 [(5, vi (IntKind.i64.wrap (r1 - 1))), (29, .bool z1)] a ∧ Hp w V1 [] w') ?_ ?_
 ·
  refine T.quiet (by kernel_rfl) (by kernel_rfl) ?_
  refine TQ.pure (vi (IntKind.i64.wrap (r1 - 1))) (by kernel_rfl) (fun _ => by kernel_rfl) ?_
  refine TQ.pure (.bool (decide ((IntKind.i64.wrap (r1 - 1)) < 0))) (by kernel_rfl) (fun _ => by kernel_rfl) ?_
  refine TQ.pure (.bool (decide ((IntKind.i64.wrap (r1 - 1)) < 0))) (by kernel_rfl) (fun _ => by kernel_rfl) ?_
  cases hg1 : decide ((IntKind.i64.wrap (r1 - 1)) < 0)
  ·
   skip
   rw [hg1, cond_false] at hX1
   refine TQ.pure (.slice A1 p0.length c1) (by kernel_rfl) (fun _ => by kernel_rfl) ?_
   refine TQ.pure (vi (IntKind.i64.wrap (r1 - 1))) (by kernel_rfl) (fun _ => by kernel_rfl) ?_
   obtain ⟨e1, hb2, hX1⟩ := ob hX1
   obtain ⟨hi1, hi2, hi3⟩ := idx_some hb2
   refine TQ.look (.pointer (some ((sadr A1).add (((IntKind.i64.wrap (r1 - 1)).toNat) * 6)))) (by kernel_rfl) (fun w' hh => exec_indexAddr (e := 44) (s := 6) rfl rfl rfl (by kernel_rfl) (by kernel_rfl) hi1 hi2 ((SlOk.mono hs1 hV1).some_ hi3 (by decide))) ?_
   refine TQ.pure (.pointer (some ((sadr A1).add (((IntKind.i64.wrap (r1 - 1)).toNat) * 6)))) (by kernel_rfl) (fun _ => by kernel_rfl) ?_
   refine TQ.look (.agg #[vi e1.key.pfs, vi e1.key.obj, vi e1.key.off]) (by kernel_rfl) (fun w' hh => exec_loadN (cs := [vi e1.key.pfs, vi e1.key.obj, vi e1.key.off]) rfl rfl (by kernel_rfl) (by kernel_rfl) (fun j u hj => (hh.cell_view (SlOk.cellF (E := eElem) (SlOk.mono hs1 hV1) hi3 j (fun _ _ _ h => h) (take_at (n := 3) rfl hj))))) ?_
   refine TQ.look a19_ (by kernel_rfl) (ldN 0 rfl rfl (fun _ => by kernel_rfl) (by rfl) rfl) ?_
   refine TQ.look (.bool (!(e1.key == p1))) (by kernel_rfl) (fun w' hh => exec_neq_DKey e1.key p1 w' rfl rfl rfl) ?_
   refine TQ.pure (.bool (!(e1.key == p1))) (by kernel_rfl) (fun _ => by kernel_rfl) ?_
   refine TQ.pure (.bool (!(e1.key == p1))) (by kernel_rfl) (fun _ => by kernel_rfl) ?_
   cases hg2 : (!(e1.key == p1))
   ·
    skip
    rw [hg2, cond_false] at hX1
    refine TQ.pure (.slice A1 p0.length c1) (by kernel_rfl) (fun _ => by kernel_rfl) ?_
    refine TQ.pure (vi (IntKind.i64.wrap (r1 - 1))) (by kernel_rfl) (fun _ => by kernel_rfl) ?_
    obtain ⟨e2, hb3, hX1⟩ := ob hX1
    obtain ⟨hi4, hi5, hi6⟩ := idx_some hb3
    refine TQ.look (.pointer (some ((sadr A1).add (((IntKind.i64.wrap (r1 - 1)).toNat) * 6)))) (by kernel_rfl) (fun w' hh => exec_indexAddr (e := 44) (s := 6) rfl rfl rfl (by kernel_rfl) (by kernel_rfl) hi4 hi5 ((SlOk.mono hs1 hV1).some_ hi6 (by decide))) ?_
    refine TQ.pure (.pointer (some (((sadr A1).add (((IntKind.i64.wrap (r1 - 1)).toNat) * 6)).add 4))) (by kernel_rfl) (fun _ => by kernel_rfl) ?_
    refine TQ.look (vi e2.gone) (by kernel_rfl) (fun w' hh => exec_load1 rfl rfl (by kernel_rfl) (hh.cell_view (SlOk.cellF (E := eElem) (SlOk.mono hs1 hV1) hi6 4 (fun _ _ _ h => h) rfl))) ?_
    refine TQ.pure (.bool (e2.gone != 0)) (by kernel_rfl) (fun _ => by kernel_rfl) ?_
    refine TQ.pure (.bool (e2.gone != 0)) (by kernel_rfl) (fun _ => by kernel_rfl) ?_
    refine TQ.nil ?_
    cases hX1
    exact fun a w' hf hh => ⟨(Fr.sel hf rfl), (hh.sub (dr1 kp0))⟩
   skip
   rw [hg2, cond_true] at hX1
   refine TQ.pass (by kernel_rfl) (by kernel_rfl) ?_
   refine TQ.pass (by kernel_rfl) (by kernel_rfl) ?_
   refine TQ.pass (by kernel_rfl) (by kernel_rfl) ?_
   refine TQ.pass (by kernel_rfl) (by kernel_rfl) ?_
   refine TQ.pass (by kernel_rfl) (by kernel_rfl) ?_
   refine TQ.pass (by kernel_rfl) (by kernel_rfl) ?_
   refine TQ.pure (.bool true) (by kernel_rfl) (fun _ => by kernel_rfl) ?_
   refine TQ.nil ?_
   cases hX1
   exact fun a w' hf hh => ⟨(Fr.sel hf rfl), (hh.sub (dr1 kp0))⟩
  skip
  rw [hg1, cond_true] at hX1
  refine TQ.pass (by kernel_rfl) (by kernel_rfl) ?_
  refine TQ.pass (by kernel_rfl) (by kernel_rfl) ?_
  refine TQ.pass (by kernel_rfl) (by kernel_rfl) ?_
  refine TQ.pass (by kernel_rfl) (by kernel_rfl) ?_
  refine TQ.pass (by kernel_rfl) (by kernel_rfl) ?_
  refine TQ.pass (by kernel_rfl) (by kernel_rfl) ?_
  refine TQ.pass (by kernel_rfl) (by kernel_rfl) ?_
  refine TQ.pure (.bool true) (by kernel_rfl) (fun _ => by kernel_rfl) ?_
  refine TQ.pure (.bool true) (by kernel_rfl) (fun _ => by kernel_rfl) ?_
  refine TQ.pass (by kernel_rfl) (by kernel_rfl) ?_
  refine TQ.pass (by kernel_rfl) (by kernel_rfl) ?_
  refine TQ.pass (by kernel_rfl) (by kernel_rfl) ?_
  refine TQ.pass (by kernel_rfl) (by kernel_rfl) ?_
  refine TQ.pass (by kernel_rfl) (by kernel_rfl) ?_
  refine TQ.pass (by kernel_rfl) (by kernel_rfl) ?_
  refine TQ.pure (.bool true) (by kernel_rfl) (fun _ => by kernel_rfl) ?_
  refine TQ.nil ?_
  cases hX1
  exact fun a w' hf hh => ⟨(Fr.sel hf rfl), (hh.sub (dr1 kp0))⟩
 rintro a w' ⟨hf, hh⟩
 refine (?_ : T 31 w V1 [] [(5, vi (IntKind.i64.wrap (r1 - 1))), (29, .bool z1)] _) a w' hf hh
 clear hf hh
 refine T.cond z1 (by kernel_rfl) (by kernel_rfl) (fun hc1 => ?_) (fun hc1 => ?_)
 ·
  rw [hc1, cond_true] at hF
  refine T.seq (T.region (T.pk (vi (-1)) (fun _ => by kernel_rfl) (T.nil ?_)))
  cases hF
  refine T.ret rfl ?_
  exact T.ret1 rfl (ResIs.tmp rfl) fun w' hh => ⟨_, rfl, hh.below, (show _ from rfl)⟩
 rw [hc1, cond_false] at hF
 refine T.skip_code ?_
 refine T.seq (T.region (T.p2 (vi (IntKind.i64.wrap (r1 - 1))) (vi (IntKind.i64.wrap (r1 - 1))) (fun _ => by kernel_rfl) (T.nil ?_)))
 cases hF
 refine T.ret rfl ?_
 exact T.ret1 rfl (ResIs.tmp rfl) fun w' hh => ⟨_, rfl, hh.below, (show _ from rfl)⟩
set_option maxRecDepth 100000 in
set_option maxHeartbeats 4000000 in
theorem run_At_l (F : Nat) (p0 : (List DElem)) (p1 : DKey) (p2 : Int) (r : DElem × Int) (hF : run_At F p0 p1 p2 = some r) (w : World) (A1 : Option Addr) (c1 : Nat) (hs1 : SlOk (vw w) eElem A1 c1 p0) :
 Calls Tryz.prog 94 #[.slice A1 p0.length c1, .agg #[.int .i64 p1.pfs, .int .i64 p1.obj, .int .i64 p1.off], .int .i64 p2] w (Post (vT2 (vAg eElem) (vSc eInt)) r w) := by
 unfold run_At at hF
 let a29_ : Value := .agg #[vi p1.pfs, vi p1.obj, vi p1.off]
 refine T.start (l := [.slice A1 p0.length c1, a29_, vi p2]) Tryz.func94 rfl rfl rfl ?_
 refine T.seq (T.region ?_)
 let v26_ : List Value := [vi p1.pfs, vi p1.obj, vi p1.off]
 refine T.step (W1.np 42 v26_ (fun _ => by kernel_rfl) (fun b1 => ?_))
 let v27_ : List Value := [vi 0, vi 0, vi 0, vi 0, vi 0, .string (ByteArray.mk #[])]
 refine T.step (W1.np 44 v27_ (fun _ => by kernel_rfl) (fun b2 => ?_))
 refine T.pk (vi 0) (fun _ => by kernel_rfl) (T.nil (T.seq (T.seq (T.region (T.pk (.slice A1 p0.length c1) (fun _ => by kernel_rfl) ?_)))))
 obtain ⟨r1, hb1, hF⟩ := ob hF
 refine T.step (W1.call (vSc eInt) r1 64 #[.slice A1 p0.length c1] (by kernel_rfl) (fun _ => by kernel_rfl) (fun w' hh => run_Check_l F p0 r1 hb1 w' A1 c1 (SlOk.mono hs1 hh.view)) ?_)
 intro u V1 hV1 hu
 obtain rfl := sureInt _ _ _ hu
 refine T.pk (vi r1) (fun _ => by kernel_rfl) (T.nil (T.seq (T.region (T.p2 (vi r1) (.bool (r1 != 0)) (fun _ => by kernel_rfl) (T.nil ?_)))))
 refine T.cond (r1 != 0) (by kernel_rfl) (by kernel_rfl) (fun hc1 => ?_) (fun hc1 => ?_)
 ·
  rw [hc1, cond_true] at hF
  refine T.seq (T.region (T.p2 (.agg #[vi 0, vi 0, vi 0, vi 0, vi 0, .string (ByteArray.mk #[])]) (vi r1) (fun _ => by kernel_rfl) (T.step (W1.st 0 v27_ ((box b2 44 v27_) :: (box b1 42 v26_) :: []) v27_ (by rfl) rfl rfl rfl rfl rfl rfl (fun _ => by kernel_rfl) ?_))))
  refine T.pk (vi r1) (fun _ => by kernel_rfl) (T.nil ?_)
  cases hF
  refine T.ret rfl ?_
  exact T.ret2 rfl (ResIs.cellN 0 rfl (by rfl) (fun _ => by kernel_rfl) (fun _ => by kernel_rfl)) (ResIs.tmp rfl) fun w' hh => ⟨_, rfl, hh.below, (vT2.mk (vAg.mk rfl) (show _ from rfl))⟩
 rw [hc1, cond_false] at hF
 refine T.skip_code ?_
 refine T.seq (T.seq (T.region (T.look a29_ (by kernel_rfl) (ldN 1 rfl rfl (fun _ => by kernel_rfl) (by rfl) rfl) ?_)))
 obtain ⟨r2, hb2, hF⟩ := ob hF
 refine T.step (W1.call (vSc eInt) r2 106 #[a29_] (by kernel_rfl) (fun _ => by kernel_rfl) (fun w' hh => key_Check_l p1 r2 hb2 w' ) ?_)
 intro u V2 hV2 hu
 obtain rfl := sureInt _ _ _ hu
 refine T.pk (vi r2) (fun _ => by kernel_rfl) (T.nil (T.seq (T.region (T.p2 (vi r2) (.bool (r2 != 0)) (fun _ => by kernel_rfl) (T.nil ?_)))))
 refine T.cond (r2 != 0) (by kernel_rfl) (by kernel_rfl) (fun hc2 => ?_) (fun hc2 => ?_)
 ·
  rw [hc2, cond_true] at hF
  refine T.seq (T.region (T.p2 (.agg #[vi 0, vi 0, vi 0, vi 0, vi 0, .string (ByteArray.mk #[])]) (vi r2) (fun _ => by kernel_rfl) (T.step (W1.st 0 v27_ ((box b2 44 v27_) :: (box b1 42 v26_) :: []) v27_ (by rfl) rfl rfl rfl rfl rfl rfl (fun _ => by kernel_rfl) ?_))))
  refine T.pk (vi r2) (fun _ => by kernel_rfl) (T.nil ?_)
  cases hF
  refine T.ret rfl ?_
  exact T.ret2 rfl (ResIs.cellN 0 rfl (by rfl) (fun _ => by kernel_rfl) (fun _ => by kernel_rfl)) (ResIs.tmp rfl) fun w' hh => ⟨_, rfl, hh.below, (vT2.mk (vAg.mk rfl) (show _ from rfl))⟩
 rw [hc2, cond_false] at hF
 refine T.skip_code ?_
 refine T.seq (T.seq (T.region (T.p3 (.slice A1 p0.length c1) (vi (p0.length : Int)) (vi 0) (fun _ => by kernel_rfl) (T.nil ?_))))
 obtain ⟨q1, hz1, hF⟩ := ob hF
 let i21_ : HObj := box b2 44 v27_
 refine T.mid (fun a w' => q1 = Sum.inl () ∧ ∃ (V4 : View), View.le V2 V4 ∧ Fr 42 [(6, pB b2 0)] a ∧ Hp w V4 (i21_ :: []) w') ?_ ?_
 ·
  refine T.block ?_
  let i22_ : HObj := box b1 42 v26_
  let t23_ : List HObj := i21_ :: i22_ :: []
  refine T.iter (fun x1 a w' => ∃ (V3 : View), View.le V2 V3 ∧ Fr 42 [(2, vi p2), (4, pB b1 0), (6, pB b2 0), (24, .slice A1 p0.length c1), (25, vi (p0.length : Int)), (26, vi x1)] a ∧ Hp w V3 t23_ w') hz1 ?_ ?_
  ·
   exact fun a w' hf hh => ⟨V2, vr, (Fr.sel hf rfl), (hh.sub (kp1 (kp1 kp0)))⟩
  rintro x1 y1 hY1 hr1 a w' ⟨V3, hV3, hf, hh⟩
  refine (?_ : T 42 w V3 t23_ [(2, vi p2), (4, pB b1 0), (6, pB b2 0), (24, .slice A1 p0.length c1), (25, vi (p0.length : Int)), (26, vi x1)] _) a w' hf hh
  clear hf hh
  try dsimp only at hY1
  refine T.seq (T.region (T.pk (.bool (decide (x1 < (p0.length : Int)))) (fun _ => by kernel_rfl) (T.nil (T.seq ?_))))
  refine T.cond (decide (x1 < (p0.length : Int))) (by kernel_rfl) (by kernel_rfl) (fun hc3 => ?_) (fun hc3 => ?_)
  ·
   rw [hc3, cond_true] at hY1
   refine T.skip_code ?_
   refine T.seq (T.block (T.seq (T.region ?_)))
   obtain ⟨e1, hb3, hY1⟩ := ob hY1
   obtain ⟨hi1, hi2, hi3⟩ := idx_some hb3
   refine T.look (.pointer (some ((sadr A1).add (x1.toNat * 6)))) (by kernel_rfl) (fun w' hh => exec_indexAddr (e := 44) (s := 6) rfl rfl rfl (by kernel_rfl) (by kernel_rfl) hi1 hi2 ((SlOk.mono hs1 (vt (vt hV1 hV2) hV3)).some_ hi3 (by decide))) ?_
   let v28_ : List Value := [vi e1.key.pfs, vi e1.key.obj, vi e1.key.off, vi e1.made, vi e1.gone, .string e1.val]
   let a30_ : Value := .agg #[vi e1.key.pfs, vi e1.key.obj, vi e1.key.off, vi e1.made, vi e1.gone, .string e1.val]
   refine T.look a30_ (by kernel_rfl) (fun w' hh => exec_loadN (cs := v28_) rfl rfl (by kernel_rfl) (by kernel_rfl) (fun j u hj => (hh.cell_view (SlOk.cellF (E := eElem) (SlOk.mono hs1 (vt (vt hV1 hV2) hV3)) hi3 j (fun _ _ _ h => h) hj)))) ?_
   refine T.step (W1.np 44 v27_ (fun _ => by kernel_rfl) (fun b3 => ?_))
   let i24_ : HObj := box b3 44 v28_
   let t25_ : List HObj := i24_ :: t23_
   refine T.step (W1.st 0 v28_ t25_ v28_ (by rfl) rfl rfl rfl rfl rfl rfl (fun _ => by kernel_rfl) ?_)
   refine T.nil ?_
   obtain ⟨z1, hX1, hY1⟩ := ob hY1
   refine T.cut (fun a w' => ∃ (V5 : View), View.le V3 V5 ∧ Fr 42 [(2, vi p2), (4, pB b1 0), (6, pB b2 0), (11, pB b3 0), (24, .slice A1 p0.length c1), (25, vi (p0.length : Int)), (26, vi x1), (38, .bool z1)] a ∧ Hp w V5 t25_ w') ?_ ?_
   ·
    refine T.region (T.pk (pB b3 0) (fun _ => by kernel_rfl) (T.look (.agg #[vi e1.key.pfs, vi e1.key.obj, vi e1.key.off]) (by kernel_rfl) (ldN 0 rfl rfl (fun _ => by kernel_rfl) (by rfl) rfl) ?_))
    refine T.look a29_ (by kernel_rfl) (ldN 2 rfl rfl (fun _ => by kernel_rfl) (by rfl) rfl) ?_
    refine T.look (.bool (e1.key == p1)) (by kernel_rfl) (fun w' hh => exec_eql_DKey e1.key p1 w' rfl rfl rfl) ?_
    refine T.pk (.bool (e1.key == p1)) (fun _ => by kernel_rfl) ?_
    cases hg1 : (e1.key == p1)
    ·
     skip
     rw [hg1, cond_false] at hX1
     refine T.pass (by kernel_rfl) (by kernel_rfl) (T.pass (by kernel_rfl) (by kernel_rfl) (T.pass (by kernel_rfl) (by kernel_rfl) (T.pk (.bool false) (fun _ => by kernel_rfl) (T.nil ?_))))
     cases hX1
     exact fun a w' hf hh => ⟨V3, vr, (Fr.sel hf rfl), (hh.sub (kp2 (kp1 kp0)))⟩
    skip
    rw [hg1, cond_true] at hX1
    refine T.look a30_ (by kernel_rfl) (ldN 0 rfl rfl (fun _ => by kernel_rfl) (by rfl) rfl) ?_
    refine T.pk (vi p2) (fun _ => by kernel_rfl) ?_
    obtain ⟨r3, hb4, hX1⟩ := ob hX1
    refine T.step (W1.call (vSc eBool) r3 63 #[a30_, vi p2] (by kernel_rfl) (fun _ => by kernel_rfl) (fun w' hh => elem_Live_l e1 p2 r3 hb4 w' ) ?_)
    intro u V6 hV6 hu
    obtain rfl := sureBool _ _ _ hu
    refine T.pk (.bool r3) (fun _ => by kernel_rfl) (T.nil ?_)
    cases hX1
    exact fun a w' hf hh => ⟨V6, hV6, (Fr.sel hf rfl), (hh.sub (kp2 (kp1 kp0)))⟩
   rintro a w' ⟨V5, hV5, hf, hh⟩
   refine (?_ : T 42 w V5 t25_ [(2, vi p2), (4, pB b1 0), (6, pB b2 0), (11, pB b3 0), (24, .slice A1 p0.length c1), (25, vi (p0.length : Int)), (26, vi x1), (38, .bool z1)] _) a w' hf hh
   clear hf hh
   refine T.cond z1 (by kernel_rfl) (by kernel_rfl) (fun hc4 => ?_) (fun hc4 => ?_)
   ·
    rw [hc4, cond_true] at hY1
    refine T.seq (T.region (T.look a30_ (by kernel_rfl) (ldN 0 rfl rfl (fun _ => by kernel_rfl) (by rfl) rfl) ?_))
    refine T.step (W1.st 1 v28_ (i24_ :: (box b2 44 v28_) :: i22_ :: []) v28_ (by rfl) rfl rfl rfl rfl rfl rfl (fun _ => by kernel_rfl) ?_)
    refine T.pk (vi 0) (fun _ => by kernel_rfl) (T.nil ?_)
    cases hY1
    cases (hr1 _ rfl)
    try dsimp only at hF
    cases hF
    refine T.ret rfl ?_
    exact T.ret2 rfl (ResIs.cellN 1 rfl (by rfl) (fun _ => by kernel_rfl) (fun _ => by kernel_rfl)) (ResIs.tmp rfl) fun w' hh => ⟨_, rfl, hh.below, (vT2.mk (vAg.mk rfl) (show _ from rfl))⟩
   rw [hc4, cond_false] at hY1
   refine T.skip_code ?_
   refine T.region (T.p2 (vi (IntKind.i64.wrap (x1 + 1))) (vi (IntKind.i64.wrap (x1 + 1))) (fun _ => by kernel_rfl) (T.nil ?_))
   cases hY1
   exact fun a w' hf hh => ⟨(IntKind.i64.wrap (x1 + 1)), rfl, V5, (vt hV3 hV5), (Fr.sel hf rfl), (hh.sub (dr1 (kp1 (kp1 kp0))))⟩
  rw [hc3, cond_false] at hY1
  refine T.exit ?_
  cases hY1
  cases (hr1 _ rfl)
  exact fun a w' hf hh => ⟨rfl, V3, hV3, (Fr.sel hf rfl), (hh.sub (kp1 (dr1 kp0)))⟩
 rintro a w' ⟨rfl, V4, hV4, hf, hh⟩
 try dsimp only at hF
 refine (?_ : T 42 w V4 (i21_ :: []) [(6, pB b2 0)] _) a w' hf hh
 clear hf hh
 refine T.seq (T.region (T.pk (.agg #[vi 0, vi 0, vi 0, vi 0, vi 0, .string (ByteArray.mk #[])]) (fun _ => by kernel_rfl) (T.step (W1.st 0 v27_ (i21_ :: []) v27_ (by rfl) rfl rfl rfl rfl rfl rfl (fun _ => by kernel_rfl) ?_))))
 refine T.pk (vi 4) (fun _ => by kernel_rfl) (T.nil ?_)
 cases hF
 refine T.ret rfl ?_
 exact T.ret2 rfl (ResIs.cellN 0 rfl (by rfl) (fun _ => by kernel_rfl) (fun _ => by kernel_rfl)) (ResIs.tmp rfl) fun w' hh => ⟨_, rfl, hh.below, (vT2.mk (vAg.mk rfl) (show _ from rfl))⟩
set_option maxRecDepth 100000 in
set_option maxHeartbeats 4000000 in
theorem run_Put_l (F : Nat) (p0 : (List DElem)) (p1 : DKey) (p2 : ByteArray) (p3 : Int) (r : ((List DElem)) × Int) (hF : run_Put F p0 p1 p2 p3 = some r) (w : World) (A1 : Option Addr) (c1 : Nat) (hs1 : SlOk (vw w) eElem A1 c1 p0) :
 Calls Tryz.prog 79 #[.slice A1 p0.length c1, .agg #[.int .i64 p1.pfs, .int .i64 p1.obj, .int .i64 p1.off], .string p2, .int .i64 p3] w (Post (vT2 (vSc (eList eElem)) (vSc eInt)) r w) := by
 unfold run_Put at hF
 let a35_ : Value := .agg #[vi p1.pfs, vi p1.obj, vi p1.off]
 refine T.start (l := [.slice A1 p0.length c1, a35_, .string p2, vi p3]) Tryz.func79 rfl rfl rfl ?_
 refine T.seq (T.region ?_)
 let v33_ : List Value := [vi p1.pfs, vi p1.obj, vi p1.off]
 refine T.step (W1.np 42 v33_ (fun _ => by kernel_rfl) (fun b1 => ?_))
 refine T.p2 sN (vi 0) (fun _ => by kernel_rfl) (T.nil (T.seq (T.seq (T.region (T.pk (.slice A1 p0.length c1) (fun _ => by kernel_rfl) ?_)))))
 obtain ⟨r1, hb1, hF⟩ := ob hF
 refine T.step (W1.call (vSc eInt) r1 64 #[.slice A1 p0.length c1] (by kernel_rfl) (fun _ => by kernel_rfl) (fun w' hh => run_Check_l F p0 r1 hb1 w' A1 c1 (SlOk.mono hs1 hh.view)) ?_)
 intro u V1 hV1 hu
 obtain rfl := sureInt _ _ _ hu
 refine T.pk (vi r1) (fun _ => by kernel_rfl) (T.nil (T.seq (T.region (T.p2 (vi r1) (.bool (r1 != 0)) (fun _ => by kernel_rfl) (T.nil ?_)))))
 refine T.cond (r1 != 0) (by kernel_rfl) (by kernel_rfl) (fun hc1 => ?_) (fun hc1 => ?_)
 ·
  rw [hc1, cond_true] at hF
  refine T.seq (T.region (T.p3 (vi r1) sN (vi r1) (fun _ => by kernel_rfl) (T.nil ?_)))
  cases hF
  refine T.ret rfl ?_
  exact T.ret2 rfl (ResIs.tmp rfl) (ResIs.tmp rfl) fun w' hh => ⟨_, rfl, hh.below, (vT2.mk ⟨_, _, rfl, (SlOk.nil _ _)⟩ (show _ from rfl))⟩
 rw [hc1, cond_false] at hF
 refine T.skip_code ?_
 refine T.seq (T.seq (T.region (T.look a35_ (by kernel_rfl) (ldN 0 rfl rfl (fun _ => by kernel_rfl) (by rfl) rfl) ?_)))
 refine T.p2 (vi p3) (.string p2) (fun _ => by kernel_rfl) ?_
 let a36_ : Value := .agg #[vi p1.pfs, vi p1.obj, vi p1.off, vi p3, vi 0, .string p2]
 refine T.pk a36_ (fun _ => by kernel_rfl) ?_
 obtain ⟨r2, hb2, hF⟩ := ob hF
 refine T.step (W1.call (vSc eInt) r2 99 #[a36_] (by kernel_rfl) (fun _ => by kernel_rfl) (fun w' hh => elem_Check_l (DElem.mk p1 p3 0 p2) r2 hb2 w' ) ?_)
 intro u V2 hV2 hu
 obtain rfl := sureInt _ _ _ hu
 refine T.pk (vi r2) (fun _ => by kernel_rfl) (T.nil (T.seq (T.region (T.p2 (vi r2) (.bool (r2 != 0)) (fun _ => by kernel_rfl) (T.nil ?_)))))
 refine T.cond (r2 != 0) (by kernel_rfl) (by kernel_rfl) (fun hc2 => ?_) (fun hc2 => ?_)
 ·
  rw [hc2, cond_true] at hF
  refine T.seq (T.region (T.p3 (vi r2) sN (vi r2) (fun _ => by kernel_rfl) (T.nil ?_)))
  cases hF
  refine T.ret rfl ?_
  exact T.ret2 rfl (ResIs.tmp rfl) (ResIs.tmp rfl) fun w' hh => ⟨_, rfl, hh.below, (vT2.mk ⟨_, _, rfl, (SlOk.nil _ _)⟩ (show _ from rfl))⟩
 rw [hc2, cond_false] at hF
 refine T.skip_code ?_
 refine T.seq (T.seq (T.region (T.p2 (vi p3) (.slice A1 p0.length c1) (fun _ => by kernel_rfl) ?_)))
 obtain ⟨r3, hb3, hF⟩ := ob hF
 refine T.step (W1.call (vSc eInt) r3 65 #[.slice A1 p0.length c1] (by kernel_rfl) (fun _ => by kernel_rfl) (fun w' hh => run_last_l F p0 r3 hb3 w' A1 c1 (SlOk.mono (SlOk.mono hs1 (vt hV1 hV2)) hh.view)) ?_)
 intro u V3 hV3 hu
 obtain rfl := sureInt _ _ _ hu
 refine T.pk (.bool (decide (p3 < r3))) (fun _ => by kernel_rfl) (T.nil ?_)
 refine T.cond (decide (p3 < r3)) (by kernel_rfl) (by kernel_rfl) (fun hc3 => ?_) (fun hc3 => ?_)
 ·
  rw [hc3, cond_true] at hF
  refine T.seq (T.region (T.p2 sN (vi 9) (fun _ => by kernel_rfl) (T.nil ?_)))
  cases hF
  refine T.ret rfl ?_
  exact T.ret2 rfl (ResIs.tmp rfl) (ResIs.tmp rfl) fun w' hh => ⟨_, rfl, hh.below, (vT2.mk ⟨_, _, rfl, (SlOk.nil _ _)⟩ (show _ from rfl))⟩
 rw [hc3, cond_false] at hF
 refine T.skip_code ?_
 refine T.seq (T.region (T.pk (.slice A1 p0.length c1) (fun _ => by kernel_rfl) ?_))
 refine T.rownil 44 eElem ?_
 obtain ⟨y1, hb4, hF⟩ := ob hF
 obtain ⟨hb4_r, hb4_m, rfl⟩ := grow_some hb4
 let a37_ : Value := .agg #[vi 0, vi 0, vi 0, vi 0, vi 0, .string (ByteArray.mk #[])]
 obtain ⟨ti, hti, hz1, hz2, hz3⟩ := info_parts (P := Tryz.prog) (e := 44) (z := a37_) (size := 6) (bytes := 56) (by kernel_rfl)
 refine T.step (W1.append (E := eElem) (l := ([] : List DElem)) (m := p0) 0 _ _ 56 ti _ (by rfl) (by kernel_rfl) rfl (by kernel_rfl) hti hz1 hz2 hz3 rfl (by decide) rfl rfl (fun w' hh => (SlOk.srcF (SlOk.mono (SlOk.mono hs1 (vt (vt hV1 hV2) hV3)) hh.view) (fun _ _ _ _ h => h))) hb4_r hb4_m (fun A2 c2 => ?_))
 refine T.pk (.slice A2 ((([] : List DElem) ++ p0).length) c2) (fun _ => by kernel_rfl) (T.nil ?_)
 obtain ⟨q1, hX1, hF⟩ := ob hF
 let i31_ : HObj := box b1 42 v33_
 refine T.cut (fun a w' => ∃ (z1 : List DElem), q1 = Sum.inl z1 ∧ ∃ (V4 : View), View.le V3 V4 ∧ Fr 85 [(2, .string p2), (3, vi p3), (5, pB b1 0), (12, .slice A2 z1.length c2)] a ∧ Hp w V4 ((row 44 eElem A2 c2 z1) :: i31_ :: []) w') ?_ ?_
 ·
  refine T.seq (T.region (T.pk (.slice A2 ((([] : List DElem) ++ p0).length) c2) (fun _ => by kernel_rfl) (T.look a35_ (by kernel_rfl) (ldN 1 rfl rfl (fun _ => by kernel_rfl) (by rfl) rfl) ?_)))
  obtain ⟨r5, hb5, hX1⟩ := ob hX1
  refine T.step (W1.call (vSc eInt) r5 107 #[.slice A2 ((([] : List DElem) ++ p0).length) c2, a35_] (by kernel_rfl) (fun _ => by kernel_rfl) (fun w' hh => run_now_l F (([] : List DElem) ++ p0) p1 r5 hb5 w' A2 c2 (hh.row_slOk (i := 0) (by rfl))) ?_)
  intro u V5 hV5 hu
  obtain rfl := sureInt _ _ _ hu
  refine T.pk (vi r5) (fun _ => by kernel_rfl) (T.nil (T.seq (T.region (T.p2 (vi r5) (.bool (decide ((0 : Int) ≤ r5))) (fun _ => by kernel_rfl) (T.nil ?_)))))
  refine T.cond (decide ((0 : Int) ≤ r5)) (by kernel_rfl) (by kernel_rfl) (fun hc4 => ?_) (fun hc4 => ?_)
  ·
   rw [hc4, cond_true] at hX1
   refine T.seq (T.seq (T.region (T.p2 (.slice A2 ((([] : List DElem) ++ p0).length) c2) (vi r5) (fun _ => by kernel_rfl) ?_)))
   obtain ⟨e1, hb6, hX1⟩ := ob hX1
   obtain ⟨hi1, hi2, hi3⟩ := idx_some hb6
   refine T.look (.pointer (some ((sadr A2).add (r5.toNat * 6)))) (by kernel_rfl) (ixR 0 (e := 44) (s := 6) rfl rfl rfl (fun _ => by kernel_rfl) hi1 hi2 (by rfl) hi3 (by decide)) ?_
   refine T.pk (.pointer (some (((sadr A2).add (r5.toNat * 6)).add 3))) (fun _ => by kernel_rfl) (T.look (vi e1.made) (by kernel_rfl) (fun w' hh => exec_load1 rfl rfl (by kernel_rfl) (SlOk.wcellF (E := eElem) (hh.row_slOk (i := 0) (by rfl)) hi3 3 (fun _ _ _ h => h) rfl)) ?_)
   refine T.p2 (vi p3) (.bool (e1.made == p3)) (fun _ => by kernel_rfl) (T.nil ?_)
   refine T.cond (e1.made == p3) (by kernel_rfl) (by kernel_rfl) (fun hc5 => ?_) (fun hc5 => ?_)
   ·
    rw [hc5, cond_true] at hX1
    refine T.seq (T.region (T.p3 (.slice A2 ((([] : List DElem) ++ p0).length) c2) (vi r5) (.string p2) (fun _ => by kernel_rfl) ?_))
    obtain ⟨e2, hb7, hX1⟩ := ob hX1
    obtain ⟨hi4, hi5, hi6⟩ := idx_some hb7
    refine T.look (.pointer (some ((sadr A2).add (r5.toNat * 6)))) (by kernel_rfl) (ixR 0 (e := 44) (s := 6) rfl rfl rfl (fun _ => by kernel_rfl) hi4 hi5 (by rfl) hi6 (by decide)) ?_
    refine T.pk (.pointer (some (((sadr A2).add (r5.toNat * 6)).add 5))) (fun _ => by kernel_rfl) (T.step (W1.storeRow (E := eElem) 0 (r5.toNat) 5 e2 (DElem.mk e2.key e2.made e2.gone p2) _ (vs := [.string p2]) (by rfl) (by kernel_rfl) rfl rfl rfl rfl rfl (fun _ => by kernel_rfl) (one_of rfl) hi6 (Nat.le_of_ble_eq_true (by kernel_rfl)) (fun _ _ h => by cases h; rfl) ?_))
    refine T.reslot 12 (.slice A2 (((([] : List DElem) ++ p0).set r5.toNat (DElem.mk e2.key e2.made e2.gone p2)).length) c2) rfl (by simp +zetaDelta only [List.length_set]) ?_
    refine T.reslot 33 (.slice A2 (((([] : List DElem) ++ p0).set r5.toNat (DElem.mk e2.key e2.made e2.gone p2)).length) c2) rfl (by simp +zetaDelta only [List.length_set]) ?_
    refine T.reslot 34 (.slice A2 (((([] : List DElem) ++ p0).set r5.toNat (DElem.mk e2.key e2.made e2.gone p2)).length) c2) rfl (by simp +zetaDelta only [List.length_set]) ?_
    refine T.reslot 39 (.slice A2 (((([] : List DElem) ++ p0).set r5.toNat (DElem.mk e2.key e2.made e2.gone p2)).length) c2) rfl (by simp +zetaDelta only [List.length_set]) ?_
    refine T.reslot 46 (.slice A2 (((([] : List DElem) ++ p0).set r5.toNat (DElem.mk e2.key e2.made e2.gone p2)).length) c2) rfl (by simp +zetaDelta only [List.length_set]) ?_
    refine T.nil (T.seq (T.region (T.p3 (.slice A2 (((([] : List DElem) ++ p0).set r5.toNat (DElem.mk e2.key e2.made e2.gone p2)).length) c2) (.slice A2 (((([] : List DElem) ++ p0).set r5.toNat (DElem.mk e2.key e2.made e2.gone p2)).length) c2) (vi 0) (fun _ => by kernel_rfl) (T.nil ?_))))
    cases hX1
    try dsimp only at hF
    cases hF
    refine T.ret rfl ?_
    exact T.ret2 rfl (ResIs.tmp rfl) (ResIs.tmp rfl) fun w' hh => ⟨_, rfl, hh.below, (vT2.mk ⟨_, _, rfl, (hh.row_fresh (i := 0) (by rfl) (fun _ h => h))⟩ (show _ from rfl))⟩
   rw [hc5, cond_false] at hX1
   refine T.skip_code ?_
   refine T.region (T.p3 (.slice A2 ((([] : List DElem) ++ p0).length) c2) (vi r5) (vi p3) (fun _ => by kernel_rfl) ?_)
   obtain ⟨e3, hb8, hX1⟩ := ob hX1
   obtain ⟨hi7, hi8, hi9⟩ := idx_some hb8
   refine T.look (.pointer (some ((sadr A2).add (r5.toNat * 6)))) (by kernel_rfl) (ixR 0 (e := 44) (s := 6) rfl rfl rfl (fun _ => by kernel_rfl) hi7 hi8 (by rfl) hi9 (by decide)) ?_
   refine T.pk (.pointer (some (((sadr A2).add (r5.toNat * 6)).add 4))) (fun _ => by kernel_rfl) (T.step (W1.storeRow (E := eElem) 0 (r5.toNat) 4 e3 (DElem.mk e3.key e3.made p3 e3.val) _ (vs := [vi p3]) (by rfl) (by kernel_rfl) rfl rfl rfl rfl rfl (fun _ => by kernel_rfl) (one_of rfl) hi9 (Nat.le_of_ble_eq_true (by kernel_rfl)) (fun _ _ h => by cases h; rfl) ?_))
   refine T.reslot 12 (.slice A2 (((([] : List DElem) ++ p0).set r5.toNat (DElem.mk e3.key e3.made p3 e3.val)).length) c2) rfl (by simp +zetaDelta only [List.length_set]) ?_
   refine T.reslot 33 (.slice A2 (((([] : List DElem) ++ p0).set r5.toNat (DElem.mk e3.key e3.made p3 e3.val)).length) c2) rfl (by simp +zetaDelta only [List.length_set]) ?_
   refine T.reslot 34 (.slice A2 (((([] : List DElem) ++ p0).set r5.toNat (DElem.mk e3.key e3.made p3 e3.val)).length) c2) rfl (by simp +zetaDelta only [List.length_set]) ?_
   refine T.reslot 39 (.slice A2 (((([] : List DElem) ++ p0).set r5.toNat (DElem.mk e3.key e3.made p3 e3.val)).length) c2) rfl (by simp +zetaDelta only [List.length_set]) ?_
   refine T.reslot 52 (.slice A2 (((([] : List DElem) ++ p0).set r5.toNat (DElem.mk e3.key e3.made p3 e3.val)).length) c2) rfl (by simp +zetaDelta only [List.length_set]) ?_
   refine T.nil ?_
   cases hX1
   exact fun a w' hf hh => ⟨((([] : List DElem) ++ p0).set r5.toNat (DElem.mk e3.key e3.made p3 e3.val)), rfl, V5, hV5, (Fr.sel hf rfl), (hh.sub (kp1 (kp1 kp0)))⟩
  rw [hc4, cond_false] at hX1
  refine T.skip_code ?_
  cases hX1
  exact fun a w' hf hh => ⟨(([] : List DElem) ++ p0), rfl, V5, hV5, (Fr.sel hf rfl), (hh.sub (kp1 (kp1 kp0)))⟩
 rintro a w' ⟨z1, rfl, V4, hV4, hf, hh⟩
 try dsimp only at hF
 refine (?_ : T 85 w V4 ((row 44 eElem A2 c2 z1) :: i31_ :: []) [(2, .string p2), (3, vi p3), (5, pB b1 0), (12, .slice A2 z1.length c2)] _) a w' hf hh
 clear hf hh
 refine T.seq (T.seq (T.region (T.p3 (.slice A2 z1.length c2) (vi (z1.length : Int)) (.bool ((z1.length : Int) == 400)) (fun _ => by kernel_rfl) (T.nil ?_))))
 refine T.cond ((z1.length : Int) == 400) (by kernel_rfl) (by kernel_rfl) (fun hc6 => ?_) (fun hc6 => ?_)
 ·
  rw [hc6, cond_true] at hF
  refine T.seq (T.region (T.p2 sN (vi 8) (fun _ => by kernel_rfl) (T.nil ?_)))
  cases hF
  refine T.ret rfl ?_
  exact T.ret2 rfl (ResIs.tmp rfl) (ResIs.tmp rfl) fun w' hh => ⟨_, rfl, hh.below, (vT2.mk ⟨_, _, rfl, (SlOk.nil _ _)⟩ (show _ from rfl))⟩
 rw [hc6, cond_false] at hF
 refine T.skip_code ?_
 refine T.seq (T.region (T.pk (.slice A2 z1.length c2) (fun _ => by kernel_rfl) (T.look a35_ (by kernel_rfl) (ldN 1 rfl rfl (fun _ => by kernel_rfl) (by rfl) rfl) ?_)))
 refine T.pk (vi p3) (fun _ => by kernel_rfl) ?_
 let a38_ : Value := .agg #[vi p1.pfs, vi p1.obj, vi p1.off, vi p3]
 refine T.pk a38_ (fun _ => by kernel_rfl) ?_
 obtain ⟨r6, hb9, hF⟩ := ob hF
 refine T.step (W1.call (vSc eInt) r6 111 #[.slice A2 z1.length c2, a38_] (by kernel_rfl) (fun _ => by kernel_rfl) (fun w' hh => run_place_l F z1 (DSpot.mk p1 p3) r6 hb9 w' A2 c2 (hh.row_slOk (i := 0) (by rfl))) ?_)
 intro u V6 hV6 hu
 obtain rfl := sureInt _ _ _ hu
 refine T.pk (vi r6) (fun _ => by kernel_rfl) (T.nil (T.seq (T.region (T.p2 (.slice A2 z1.length c2) a37_ (fun _ => by kernel_rfl) ?_))))
 let v34_ : List Value := [vi 0, vi 0, vi 0, vi 0, vi 0, .string (ByteArray.mk #[])]
 refine T.step (W1.ns 44 v34_ (fun _ => by kernel_rfl) (fun b2 => ?_))
 obtain ⟨y2, hb10, hF⟩ := ob hF
 obtain ⟨hb10_r, hb10_m, rfl⟩ := grow_some hb10
 obtain ⟨ti, hti, hz1, hz2, hz3⟩ := info_parts (P := Tryz.prog) (e := 44) (z := a37_) (size := 6) (bytes := 56) (by kernel_rfl)
 refine T.step (W1.append (E := eElem) (l := z1) (m := [(DElem.mk (DKey.mk 0 0 0) 0 0 (ByteArray.mk #[]))]) 1 _ _ 56 ti _ (by rfl) (by kernel_rfl) rfl (by kernel_rfl) hti hz1 hz2 hz3 rfl (by decide) rfl rfl (fun w' hh => (SlOk.srcF (slok_lit (E := eElem) (f := DElem.cells) [(DElem.mk (DKey.mk 0 0 0) 0 0 (ByteArray.mk #[]))] (fun _ _ => rfl) (Nat.le_of_ble_eq_true (by rfl)) (fun j => hh.cellBox (i := 0) (by rfl) j)) (fun _ _ _ _ h => h))) hb10_r hb10_m (fun A3 c3 => ?_))
 refine T.pk (.slice A3 ((z1 ++ [(DElem.mk (DKey.mk 0 0 0) 0 0 (ByteArray.mk #[]))]).length) c3) (fun _ => by kernel_rfl) (T.nil (T.seq ?_))
 obtain ⟨s1, hb11, hF⟩ := ob hF
 obtain ⟨s2, hb12, hF⟩ := ob hF
 let i32_ : HObj := row 44 eElem A3 c3 (over (z1 ++ [(DElem.mk (DKey.mk 0 0 0) 0 0 (ByteArray.mk #[]))]) ((IntKind.i64.wrap (r6 + 1)).toNat) (s2.take s1.length))
 refine T.mid (fun a w' => Fr 85 [(2, .string p2), (3, vi p3), (5, pB b1 0), (12, .slice A3 ((over (z1 ++ [(DElem.mk (DKey.mk 0 0 0) 0 0 (ByteArray.mk #[]))]) ((IntKind.i64.wrap (r6 + 1)).toNat) (s2.take s1.length)).length) c3), (14, vi r6)] a ∧ Hp w V6 (i32_ :: i31_ :: []) w') ?_ ?_
 ·
  refine T.held ((box b2 44 v34_) :: i31_ :: []) (by kernel_rfl) ?_
  have w39_ := vt (vt (vt (vt hV1 hV2) hV3) hV4) hV6
  refine TA.keep (Hp.old vr w39_ (kp1 (dr1 (kp1 kp0))) (oB1 (oB1 ol0))) fun o40_ => ?_
  refine TA.tp 0 (.slice A3 ((z1 ++ [(DElem.mk (DKey.mk 0 0 0) 0 0 (ByteArray.mk #[]))]).length) c3) rfl (fun _ => by kernel_rfl) (fun _ _ _ h => h) o40_ ?_
  refine TA.tp 1 (vi r6) rfl (fun _ => by kernel_rfl) (fun _ _ _ h => h) o40_ ?_
  refine TA.tp 2 (vi (IntKind.i64.wrap (r6 + 1))) rfl (fun _ => by kernel_rfl) (fun _ _ _ h => h) o40_ ?_
  refine TA.tp 4 (.slice A3 ((z1 ++ [(DElem.mk (DKey.mk 0 0 0) 0 0 (ByteArray.mk #[]))]).length) c3) rfl (fun _ => by kernel_rfl) (fun _ _ _ h => h) o40_ ?_
  refine TA.tp 5 (vi r6) rfl (fun _ => by kernel_rfl) (fun _ _ _ h => h) o40_ ?_
  refine TA.all [3, 6] (by kernel_rfl) rfl ⟨?_, ?_, trivial⟩
  ·
   refine TA.br rfl (W1.look (.slice (cutA A3 c3 (IntKind.i64.wrap (r6 + 1)).toNat 6) s1.length (c3 - (IntKind.i64.wrap (r6 + 1)).toNat)) (by kernel_rfl) (fun w' hh => exec_slice_list (e := 44) (s := 6) (lx := (some _)) (hx := none) (k := .i64) (k' := .i64) rfl rfl (by kernel_rfl) (by kernel_rfl) ((hh.row_slOk (i := 1) (by rfl))).1 rfl rfl hb11) ?_)
   refine TA.on (Hp.old vr w39_ (kp1 (dr1 (kp1 kp0))) (oB1 (oB1 ol0))) ?_
   refine TA.all [6] (by kernel_rfl) rfl ⟨?_, trivial⟩
   refine TA.br rfl (W1.look (.slice (cutA A3 c3 r6.toNat 6) s2.length (c3 - r6.toNat)) (by kernel_rfl) (fun w' hh => exec_slice_list (e := 44) (s := 6) (lx := (some _)) (hx := none) (k := .i64) (k' := .i64) rfl rfl (by kernel_rfl) (by kernel_rfl) ((hh.row_slOk (i := 1) (by rfl))).1 rfl rfl hb12) ?_)
   refine TA.on (Hp.old vr w39_ (kp1 (dr1 (kp1 kp0))) (oB1 (oB1 ol0))) ?_
   refine TA.all [7] (by kernel_rfl) rfl ⟨?_, trivial⟩
   refine TA.br rfl (W1.copy (E := eElem) (l := (z1 ++ [(DElem.mk (DKey.mk 0 0 0) 0 0 (ByteArray.mk #[]))])) (m := s2) 1 ((IntKind.i64.wrap (r6 + 1)).toNat) s1.length _ _ (by rfl) (by kernel_rfl) rfl (by kernel_rfl) (fun _ => by kernel_rfl) (by decide) rfl rfl (lslice_fit hb11) (fun w' hh => (SlOk.srcF (SlOk.cut (hh.row_slOk (i := 1) (by rfl)) hb12) (fun _ _ _ _ h => h))) ?_)
   have hl1 : (over (z1 ++ [(DElem.mk (DKey.mk 0 0 0) 0 0 (ByteArray.mk #[]))]) ((IntKind.i64.wrap (r6 + 1)).toNat) (s2.take s1.length)).length = (z1 ++ [(DElem.mk (DKey.mk 0 0 0) 0 0 (ByteArray.mk #[]))]).length := (by exact over_length _ _ _ (by rw [List.length_take]; have := (lslice_fit hb11); omega))
   refine TA.on (Hp.old vr w39_ (kp1 (dr1 (kp1 kp0))) (oB1 (oB1 ol0))) ?_
   refine T.reslot 12 (.slice A3 ((over (z1 ++ [(DElem.mk (DKey.mk 0 0 0) 0 0 (ByteArray.mk #[]))]) ((IntKind.i64.wrap (r6 + 1)).toNat) (s2.take s1.length)).length) c3) rfl (by simp +zetaDelta only [hl1]) ?_
   refine T.reslot 68 (.slice A3 ((over (z1 ++ [(DElem.mk (DKey.mk 0 0 0) 0 0 (ByteArray.mk #[]))]) ((IntKind.i64.wrap (r6 + 1)).toNat) (s2.take s1.length)).length) c3) rfl (by simp +zetaDelta only [hl1]) ?_
   refine T.reslot 69 (.slice A3 ((over (z1 ++ [(DElem.mk (DKey.mk 0 0 0) 0 0 (ByteArray.mk #[]))]) ((IntKind.i64.wrap (r6 + 1)).toNat) (s2.take s1.length)).length) c3) rfl (by simp +zetaDelta only [hl1]) ?_
   refine T.reslot 73 (.slice A3 ((over (z1 ++ [(DElem.mk (DKey.mk 0 0 0) 0 0 (ByteArray.mk #[]))]) ((IntKind.i64.wrap (r6 + 1)).toNat) (s2.take s1.length)).length) c3) rfl (by simp +zetaDelta only [hl1]) ?_
   refine TA.done (by kernel_rfl) ?_
   exact fun a w' hf hh => ⟨(Fr.sel hf rfl), (hh.sub (dr1 (kp1 (kp1 kp0))))⟩
  refine TA.br rfl (W1.look (.slice (cutA A3 c3 r6.toNat 6) s2.length (c3 - r6.toNat)) (by kernel_rfl) (fun w' hh => exec_slice_list (e := 44) (s := 6) (lx := (some _)) (hx := none) (k := .i64) (k' := .i64) rfl rfl (by kernel_rfl) (by kernel_rfl) ((hh.row_slOk (i := 1) (by rfl))).1 rfl rfl hb12) ?_)
  refine TA.on (Hp.old vr w39_ (kp1 (dr1 (kp1 kp0))) (oB1 (oB1 ol0))) ?_
  refine TA.all [3] (by kernel_rfl) rfl ⟨?_, trivial⟩
  refine TA.br rfl (W1.look (.slice (cutA A3 c3 (IntKind.i64.wrap (r6 + 1)).toNat 6) s1.length (c3 - (IntKind.i64.wrap (r6 + 1)).toNat)) (by kernel_rfl) (fun w' hh => exec_slice_list (e := 44) (s := 6) (lx := (some _)) (hx := none) (k := .i64) (k' := .i64) rfl rfl (by kernel_rfl) (by kernel_rfl) ((hh.row_slOk (i := 1) (by rfl))).1 rfl rfl hb11) ?_)
  refine TA.on (Hp.old vr w39_ (kp1 (dr1 (kp1 kp0))) (oB1 (oB1 ol0))) ?_
  refine TA.all [7] (by kernel_rfl) rfl ⟨?_, trivial⟩
  refine TA.br rfl (W1.copy (E := eElem) (l := (z1 ++ [(DElem.mk (DKey.mk 0 0 0) 0 0 (ByteArray.mk #[]))])) (m := s2) 1 ((IntKind.i64.wrap (r6 + 1)).toNat) s1.length _ _ (by rfl) (by kernel_rfl) rfl (by kernel_rfl) (fun _ => by kernel_rfl) (by decide) rfl rfl (lslice_fit hb11) (fun w' hh => (SlOk.srcF (SlOk.cut (hh.row_slOk (i := 1) (by rfl)) hb12) (fun _ _ _ _ h => h))) ?_)
  have hl1 : (over (z1 ++ [(DElem.mk (DKey.mk 0 0 0) 0 0 (ByteArray.mk #[]))]) ((IntKind.i64.wrap (r6 + 1)).toNat) (s2.take s1.length)).length = (z1 ++ [(DElem.mk (DKey.mk 0 0 0) 0 0 (ByteArray.mk #[]))]).length := (by exact over_length _ _ _ (by rw [List.length_take]; have := (lslice_fit hb11); omega))
  refine TA.on (Hp.old vr w39_ (kp1 (dr1 (kp1 kp0))) (oB1 (oB1 ol0))) ?_
  refine T.reslot 12 (.slice A3 ((over (z1 ++ [(DElem.mk (DKey.mk 0 0 0) 0 0 (ByteArray.mk #[]))]) ((IntKind.i64.wrap (r6 + 1)).toNat) (s2.take s1.length)).length) c3) rfl (by simp +zetaDelta only [hl1]) ?_
  refine T.reslot 68 (.slice A3 ((over (z1 ++ [(DElem.mk (DKey.mk 0 0 0) 0 0 (ByteArray.mk #[]))]) ((IntKind.i64.wrap (r6 + 1)).toNat) (s2.take s1.length)).length) c3) rfl (by simp +zetaDelta only [hl1]) ?_
  refine T.reslot 69 (.slice A3 ((over (z1 ++ [(DElem.mk (DKey.mk 0 0 0) 0 0 (ByteArray.mk #[]))]) ((IntKind.i64.wrap (r6 + 1)).toNat) (s2.take s1.length)).length) c3) rfl (by simp +zetaDelta only [hl1]) ?_
  refine T.reslot 73 (.slice A3 ((over (z1 ++ [(DElem.mk (DKey.mk 0 0 0) 0 0 (ByteArray.mk #[]))]) ((IntKind.i64.wrap (r6 + 1)).toNat) (s2.take s1.length)).length) c3) rfl (by simp +zetaDelta only [hl1]) ?_
  refine TA.done (by kernel_rfl) ?_
  exact fun a w' hf hh => ⟨(Fr.sel hf rfl), (hh.sub (dr1 (kp1 (kp1 kp0))))⟩
 rintro a w' ⟨hf, hh⟩
 refine (?_ : T 85 w V6 (i32_ :: i31_ :: []) [(2, .string p2), (3, vi p3), (5, pB b1 0), (12, .slice A3 ((over (z1 ++ [(DElem.mk (DKey.mk 0 0 0) 0 0 (ByteArray.mk #[]))]) ((IntKind.i64.wrap (r6 + 1)).toNat) (s2.take s1.length)).length) c3), (14, vi r6)] _) a w' hf hh
 clear hf hh
 refine T.seq (T.region (T.p2 (.slice A3 ((over (z1 ++ [(DElem.mk (DKey.mk 0 0 0) 0 0 (ByteArray.mk #[]))]) ((IntKind.i64.wrap (r6 + 1)).toNat) (s2.take s1.length)).length) c3) (vi r6) (fun _ => by kernel_rfl) (T.look a35_ (by kernel_rfl) (ldN 1 rfl rfl (fun _ => by kernel_rfl) (by rfl) rfl) ?_)))
 refine T.p3 (vi p3) (.string p2) a36_ (fun _ => by kernel_rfl) ?_
 obtain ⟨e4, hb13, hF⟩ := ob hF
 obtain ⟨hi10, hi11, hi12⟩ := idx_some hb13
 refine T.look (.pointer (some ((sadr A3).add (r6.toNat * 6)))) (by kernel_rfl) (ixR 0 (e := 44) (s := 6) rfl rfl rfl (fun _ => by kernel_rfl) hi10 hi11 (by rfl) hi12 (by decide)) ?_
 refine T.step (W1.storeRow (E := eElem) 0 (r6.toNat) 0 e4 (DElem.mk p1 p3 0 p2) _ (vs := [vi p1.pfs, vi p1.obj, vi p1.off, vi p3, vi 0, .string p2]) (by rfl) (by kernel_rfl) rfl rfl (addr_add0 _).symm rfl rfl (fun _ => by kernel_rfl) (one_of rfl) hi12 (Nat.le_of_ble_eq_true (by kernel_rfl)) (fun _ _ h => by cases h; rfl) ?_)
 refine T.reslot 12 (.slice A3 (((over (z1 ++ [(DElem.mk (DKey.mk 0 0 0) 0 0 (ByteArray.mk #[]))]) ((IntKind.i64.wrap (r6 + 1)).toNat) (s2.take s1.length)).set r6.toNat (DElem.mk p1 p3 0 p2)).length) c3) rfl (by simp +zetaDelta only [List.length_set]) ?_
 refine T.reslot 77 (.slice A3 (((over (z1 ++ [(DElem.mk (DKey.mk 0 0 0) 0 0 (ByteArray.mk #[]))]) ((IntKind.i64.wrap (r6 + 1)).toNat) (s2.take s1.length)).set r6.toNat (DElem.mk p1 p3 0 p2)).length) c3) rfl (by simp +zetaDelta only [List.length_set]) ?_
 refine T.nil (T.seq (T.region (T.p3 (.slice A3 (((over (z1 ++ [(DElem.mk (DKey.mk 0 0 0) 0 0 (ByteArray.mk #[]))]) ((IntKind.i64.wrap (r6 + 1)).toNat) (s2.take s1.length)).set r6.toNat (DElem.mk p1 p3 0 p2)).length) c3) (.slice A3 (((over (z1 ++ [(DElem.mk (DKey.mk 0 0 0) 0 0 (ByteArray.mk #[]))]) ((IntKind.i64.wrap (r6 + 1)).toNat) (s2.take s1.length)).set r6.toNat (DElem.mk p1 p3 0 p2)).length) c3) (vi 0) (fun _ => by kernel_rfl) (T.nil ?_))))
 cases hF
 refine T.ret rfl ?_
 exact T.ret2 rfl (ResIs.tmp rfl) (ResIs.tmp rfl) fun w' hh => ⟨_, rfl, hh.below, (vT2.mk ⟨_, _, rfl, (hh.row_fresh (i := 0) (by rfl) (fun _ h => h))⟩ (show _ from rfl))⟩
set_option maxRecDepth 100000 in
set_option maxHeartbeats 4000000 in
theorem run_Cut_l (F : Nat) (p0 : (List DElem)) (p1 : DKey) (p2 : Int) (r : ((List DElem)) × Int) (hF : run_Cut F p0 p1 p2 = some r) (w : World) (A1 : Option Addr) (c1 : Nat) (hs1 : SlOk (vw w) eElem A1 c1 p0) :
 Calls Tryz.prog 67 #[.slice A1 p0.length c1, .agg #[.int .i64 p1.pfs, .int .i64 p1.obj, .int .i64 p1.off], .int .i64 p2] w (Post (vT2 (vSc (eList eElem)) (vSc eInt)) r w) := by
 unfold run_Cut at hF
 let a43_ : Value := .agg #[vi p1.pfs, vi p1.obj, vi p1.off]
 refine T.start (l := [.slice A1 p0.length c1, a43_, vi p2]) Tryz.func67 rfl rfl rfl ?_
 refine T.seq (T.region ?_)
 let v42_ : List Value := [vi p1.pfs, vi p1.obj, vi p1.off]
 refine T.step (W1.np 42 v42_ (fun _ => by kernel_rfl) (fun b1 => ?_))
 refine T.p2 sN (vi 0) (fun _ => by kernel_rfl) (T.nil (T.seq (T.seq (T.region (T.pk (.slice A1 p0.length c1) (fun _ => by kernel_rfl) ?_)))))
 obtain ⟨r1, hb1, hF⟩ := ob hF
 refine T.step (W1.call (vSc eInt) r1 64 #[.slice A1 p0.length c1] (by kernel_rfl) (fun _ => by kernel_rfl) (fun w' hh => run_Check_l F p0 r1 hb1 w' A1 c1 (SlOk.mono hs1 hh.view)) ?_)
 intro u V1 hV1 hu
 obtain rfl := sureInt _ _ _ hu
 refine T.pk (vi r1) (fun _ => by kernel_rfl) (T.nil (T.seq (T.region (T.p2 (vi r1) (.bool (r1 != 0)) (fun _ => by kernel_rfl) (T.nil ?_)))))
 refine T.cond (r1 != 0) (by kernel_rfl) (by kernel_rfl) (fun hc1 => ?_) (fun hc1 => ?_)
 ·
  rw [hc1, cond_true] at hF
  refine T.seq (T.region (T.p3 (vi r1) sN (vi r1) (fun _ => by kernel_rfl) (T.nil ?_)))
  cases hF
  refine T.ret rfl ?_
  exact T.ret2 rfl (ResIs.tmp rfl) (ResIs.tmp rfl) fun w' hh => ⟨_, rfl, hh.below, (vT2.mk ⟨_, _, rfl, (SlOk.nil _ _)⟩ (show _ from rfl))⟩
 rw [hc1, cond_false] at hF
 refine T.skip_code ?_
 refine T.seq (T.seq (T.region (T.look a43_ (by kernel_rfl) (ldN 0 rfl rfl (fun _ => by kernel_rfl) (by rfl) rfl) ?_)))
 obtain ⟨r2, hb2, hF⟩ := ob hF
 refine T.step (W1.call (vSc eInt) r2 106 #[a43_] (by kernel_rfl) (fun _ => by kernel_rfl) (fun w' hh => key_Check_l p1 r2 hb2 w' ) ?_)
 intro u V2 hV2 hu
 obtain rfl := sureInt _ _ _ hu
 refine T.pk (vi r2) (fun _ => by kernel_rfl) (T.nil (T.seq (T.region (T.p2 (vi r2) (.bool (r2 != 0)) (fun _ => by kernel_rfl) (T.nil ?_)))))
 refine T.cond (r2 != 0) (by kernel_rfl) (by kernel_rfl) (fun hc2 => ?_) (fun hc2 => ?_)
 ·
  rw [hc2, cond_true] at hF
  refine T.seq (T.region (T.p3 (vi r2) sN (vi r2) (fun _ => by kernel_rfl) (T.nil ?_)))
  cases hF
  refine T.ret rfl ?_
  exact T.ret2 rfl (ResIs.tmp rfl) (ResIs.tmp rfl) fun w' hh => ⟨_, rfl, hh.below, (vT2.mk ⟨_, _, rfl, (SlOk.nil _ _)⟩ (show _ from rfl))⟩
 rw [hc2, cond_false] at hF
 refine T.skip_code ?_
 refine T.seq ?_
 obtain ⟨z1, hX1, hF⟩ := ob hF
 let i41_ : HObj := box b1 42 v42_
 refine T.cut (fun a w' => ∃ (V3 : View), View.le V2 V3 ∧ Fr 62 [(0, .slice A1 p0.length c1), (2, vi p2), (4, pB b1 0), (33, .bool z1)] a ∧ Hp w V3 (i41_ :: []) w') ?_ ?_
 ·
  refine T.region (T.p3 (vi p2) (.bool (decide (p2 < 1))) (.bool (decide (p2 < 1))) (fun _ => by kernel_rfl) ?_)
  cases hg1 : decide (p2 < 1)
  ·
   skip
   rw [hg1, cond_false] at hX1
   refine T.p4 (vi p2) (.bool (decide ((2147483647 : Int) < p2))) (.bool (decide ((2147483647 : Int) < p2))) (.bool (decide ((2147483647 : Int) < p2))) (fun _ => by kernel_rfl) ?_
   cases hg2 : decide ((2147483647 : Int) < p2)
   ·
    skip
    rw [hg2, cond_false] at hX1
    refine T.p2 (vi p2) (.slice A1 p0.length c1) (fun _ => by kernel_rfl) ?_
    obtain ⟨r3, hb3, hX1⟩ := ob hX1
    refine T.step (W1.call (vSc eInt) r3 65 #[.slice A1 p0.length c1] (by kernel_rfl) (fun _ => by kernel_rfl) (fun w' hh => run_last_l F p0 r3 hb3 w' A1 c1 (SlOk.mono (SlOk.mono hs1 (vt hV1 hV2)) hh.view)) ?_)
    intro u V4 hV4 hu
    obtain rfl := sureInt _ _ _ hu
    refine T.p2 (.bool (decide (p2 < r3))) (.bool (decide (p2 < r3))) (fun _ => by kernel_rfl) (T.nil ?_)
    cases hX1
    exact fun a w' hf hh => ⟨V4, hV4, (Fr.sel hf rfl), (hh.sub (kp1 kp0))⟩
   skip
   rw [hg2, cond_true] at hX1
   refine T.pass (by kernel_rfl) (by kernel_rfl) (T.pass (by kernel_rfl) (by kernel_rfl) (T.pass (by kernel_rfl) (by kernel_rfl) (T.pass (by kernel_rfl) (by kernel_rfl) (T.pk (.bool true) (fun _ => by kernel_rfl) (T.nil ?_)))))
   cases hX1
   exact fun a w' hf hh => ⟨V2, vr, (Fr.sel hf rfl), (hh.sub (kp1 kp0))⟩
  skip
  rw [hg1, cond_true] at hX1
  refine T.pass (by kernel_rfl) (by kernel_rfl) (T.pass (by kernel_rfl) (by kernel_rfl) (T.p2 (.bool true) (.bool true) (fun _ => by kernel_rfl) (T.pass (by kernel_rfl) (by kernel_rfl) (T.pass (by kernel_rfl) (by kernel_rfl) (T.pass (by kernel_rfl) (by kernel_rfl) (T.pass (by kernel_rfl) (by kernel_rfl) (T.pk (.bool true) (fun _ => by kernel_rfl) (T.nil ?_))))))))
  cases hX1
  exact fun a w' hf hh => ⟨V2, vr, (Fr.sel hf rfl), (hh.sub (kp1 kp0))⟩
 rintro a w' ⟨V3, hV3, hf, hh⟩
 refine (?_ : T 62 w V3 (i41_ :: []) [(0, .slice A1 p0.length c1), (2, vi p2), (4, pB b1 0), (33, .bool z1)] _) a w' hf hh
 clear hf hh
 refine T.cond z1 (by kernel_rfl) (by kernel_rfl) (fun hc3 => ?_) (fun hc3 => ?_)
 ·
  rw [hc3, cond_true] at hF
  refine T.seq (T.region (T.p2 sN (vi 9) (fun _ => by kernel_rfl) (T.nil ?_)))
  cases hF
  refine T.ret rfl ?_
  exact T.ret2 rfl (ResIs.tmp rfl) (ResIs.tmp rfl) fun w' hh => ⟨_, rfl, hh.below, (vT2.mk ⟨_, _, rfl, (SlOk.nil _ _)⟩ (show _ from rfl))⟩
 rw [hc3, cond_false] at hF
 refine T.skip_code ?_
 refine T.seq (T.region (T.pk (.slice A1 p0.length c1) (fun _ => by kernel_rfl) (T.look a43_ (by kernel_rfl) (ldN 0 rfl rfl (fun _ => by kernel_rfl) (by rfl) rfl) ?_)))
 obtain ⟨r4, hb4, hF⟩ := ob hF
 refine T.step (W1.call (vSc eInt) r4 107 #[.slice A1 p0.length c1, a43_] (by kernel_rfl) (fun _ => by kernel_rfl) (fun w' hh => run_now_l F p0 p1 r4 hb4 w' A1 c1 (SlOk.mono (SlOk.mono hs1 (vt (vt hV1 hV2) hV3)) hh.view)) ?_)
 intro u V5 hV5 hu
 obtain rfl := sureInt _ _ _ hu
 refine T.pk (vi r4) (fun _ => by kernel_rfl) (T.nil (T.seq (T.seq (T.region (T.p2 (vi r4) (.bool (decide (r4 < 0))) (fun _ => by kernel_rfl) (T.nil ?_))))))
 refine T.cond (decide (r4 < 0)) (by kernel_rfl) (by kernel_rfl) (fun hc4 => ?_) (fun hc4 => ?_)
 ·
  rw [hc4, cond_true] at hF
  refine T.seq (T.region (T.p2 sN (vi 4) (fun _ => by kernel_rfl) (T.nil ?_)))
  cases hF
  refine T.ret rfl ?_
  exact T.ret2 rfl (ResIs.tmp rfl) (ResIs.tmp rfl) fun w' hh => ⟨_, rfl, hh.below, (vT2.mk ⟨_, _, rfl, (SlOk.nil _ _)⟩ (show _ from rfl))⟩
 rw [hc4, cond_false] at hF
 refine T.skip_code ?_
 refine T.seq (T.region (T.pk (.slice A1 p0.length c1) (fun _ => by kernel_rfl) ?_))
 refine T.rownil 44 eElem ?_
 obtain ⟨y1, hb5, hF⟩ := ob hF
 obtain ⟨hb5_r, hb5_m, rfl⟩ := grow_some hb5
 let a44_ : Value := .agg #[vi 0, vi 0, vi 0, vi 0, vi 0, .string (ByteArray.mk #[])]
 obtain ⟨ti, hti, hz1, hz2, hz3⟩ := info_parts (P := Tryz.prog) (e := 44) (z := a44_) (size := 6) (bytes := 56) (by kernel_rfl)
 have w45_ := vt (vt (vt hV1 hV2) hV3) hV5
 refine T.step (W1.append (E := eElem) (l := ([] : List DElem)) (m := p0) 0 _ _ 56 ti _ (by rfl) (by kernel_rfl) rfl (by kernel_rfl) hti hz1 hz2 hz3 rfl (by decide) rfl rfl (fun w' hh => (SlOk.srcF (SlOk.mono (SlOk.mono hs1 w45_) hh.view) (fun _ _ _ _ h => h))) hb5_r hb5_m (fun A2 c2 => ?_))
 refine T.pk (.slice A2 ((([] : List DElem) ++ p0).length) c2) (fun _ => by kernel_rfl) (T.nil (T.seq (T.seq (T.region (T.p2 (.slice A2 ((([] : List DElem) ++ p0).length) c2) (vi r4) (fun _ => by kernel_rfl) ?_)))))
 obtain ⟨e1, hb6, hF⟩ := ob hF
 obtain ⟨hi1, hi2, hi3⟩ := idx_some hb6
 refine T.look (.pointer (some ((sadr A2).add (r4.toNat * 6)))) (by kernel_rfl) (ixR 0 (e := 44) (s := 6) rfl rfl rfl (fun _ => by kernel_rfl) hi1 hi2 (by rfl) hi3 (by decide)) ?_
 refine T.pk (.pointer (some (((sadr A2).add (r4.toNat * 6)).add 3))) (fun _ => by kernel_rfl) (T.look (vi e1.made) (by kernel_rfl) (fun w' hh => exec_load1 rfl rfl (by kernel_rfl) (SlOk.wcellF (E := eElem) (hh.row_slOk (i := 0) (by rfl)) hi3 3 (fun _ _ _ h => h) rfl)) ?_)
 refine T.p2 (vi p2) (.bool (e1.made == p2)) (fun _ => by kernel_rfl) (T.nil ?_)
 refine T.cond (e1.made == p2) (by kernel_rfl) (by kernel_rfl) (fun hc5 => ?_) (fun hc5 => ?_)
 ·
  rw [hc5, cond_true] at hF
  refine T.seq ?_
  obtain ⟨s1, hb7, hF⟩ := ob hF
  obtain ⟨s2, hb8, hF⟩ := ob hF
  obtain ⟨y2, hb9, hF⟩ := ob hF
  refine T.mid (fun a w' => ∃ (A4 : Option Addr) (c4 : Nat), Fr 62 [(6, .slice A4 ((s1 ++ s2).length) c4), (7, vi 0)] a ∧ Hp w V5 ((row 44 eElem A4 c4 (s1 ++ s2)) :: []) w') ?_ ?_
  ·
   refine T.held (i41_ :: []) (by kernel_rfl) ?_
   refine TA.keep (Hp.old vr w45_ (dr1 (kp1 kp0)) (oB1 ol0)) fun o46_ => ?_
   refine TA.tp 0 (.slice A2 ((([] : List DElem) ++ p0).length) c2) rfl (fun _ => by kernel_rfl) (fun _ _ _ h => h) o46_ ?_
   refine TA.tp 1 (vi r4) rfl (fun _ => by kernel_rfl) (fun _ _ _ h => h) o46_ ?_
   refine TA.tp 3 (.slice A2 ((([] : List DElem) ++ p0).length) c2) rfl (fun _ => by kernel_rfl) (fun _ _ _ h => h) o46_ ?_
   refine TA.tp 4 (vi r4) rfl (fun _ => by kernel_rfl) (fun _ _ _ h => h) o46_ ?_
   refine TA.tp 5 (vi (IntKind.i64.wrap (r4 + 1))) rfl (fun _ => by kernel_rfl) (fun _ _ _ h => h) o46_ ?_
   refine TA.all [2, 6] (by kernel_rfl) rfl ⟨?_, ?_, trivial⟩
   ·
    refine TA.br rfl (W1.look (.slice A2 s1.length c2) (by kernel_rfl) (sl0 0 (e := 44) (s := 6) rfl rfl (fun _ => by kernel_rfl) (by rfl) rfl hb7) ?_)
    refine TA.on (Hp.old vr w45_ (dr1 (kp1 kp0)) (oB1 ol0)) ?_
    refine TA.all [6] (by kernel_rfl) rfl ⟨?_, trivial⟩
    refine TA.br rfl (W1.look (.slice (cutA A2 c2 (IntKind.i64.wrap (r4 + 1)).toNat 6) s2.length (c2 - (IntKind.i64.wrap (r4 + 1)).toNat)) (by kernel_rfl) (fun w' hh => exec_slice_list (e := 44) (s := 6) (lx := (some _)) (hx := none) (k := .i64) (k' := .i64) rfl rfl (by kernel_rfl) (by kernel_rfl) ((hh.row_slOk (i := 0) (by rfl))).1 rfl rfl hb8) ?_)
    refine TA.on (Hp.old vr w45_ (dr1 (kp1 kp0)) (oB1 ol0)) ?_
    refine TA.all [7] (by kernel_rfl) rfl ⟨?_, trivial⟩
    obtain ⟨hb9_r, hb9_m, rfl⟩ := grow_some hb9
    obtain ⟨ti, hti, hz1, hz2, hz3⟩ := info_parts (P := Tryz.prog) (e := 44) (z := a44_) (size := 6) (bytes := 56) (by kernel_rfl)
    refine TA.br rfl (W1.appendTo (E := eElem) (l := s1) (m := s2) 0 _ _ 56 ti _ (by rfl) (lslice_prefix hb7) (by kernel_rfl) rfl (by kernel_rfl) hti hz1 hz2 hz3 rfl (by decide) rfl rfl (fun w' hh => (SlOk.srcF (SlOk.cut (hh.row_slOk (i := 0) (by rfl)) hb8) (fun _ _ _ _ h => h))) hb9_r hb9_m (fun A3 c3 => ?_))
    refine TA.onk (Hp.old vr w45_ (dr1 (kp1 kp0)) (oB1 ol0)) fun o47_ => ?_
    refine TA.tp 8 (.slice A3 ((s1 ++ s2).length) c3) rfl (fun _ => by kernel_rfl) (fun _ _ _ h => h) o47_ ?_
    refine TA.tp 9 (vi 0) rfl (fun _ => by kernel_rfl) (fun _ _ _ h => h) o47_ ?_
    refine TA.done (by kernel_rfl) ?_
    exact fun a w' hf hh => ⟨A3, c3, (Fr.sel hf rfl), (hh.sub (kp1 (dr1 kp0)))⟩
   refine TA.br rfl (W1.look (.slice (cutA A2 c2 (IntKind.i64.wrap (r4 + 1)).toNat 6) s2.length (c2 - (IntKind.i64.wrap (r4 + 1)).toNat)) (by kernel_rfl) (fun w' hh => exec_slice_list (e := 44) (s := 6) (lx := (some _)) (hx := none) (k := .i64) (k' := .i64) rfl rfl (by kernel_rfl) (by kernel_rfl) ((hh.row_slOk (i := 0) (by rfl))).1 rfl rfl hb8) ?_)
   refine TA.on (Hp.old vr w45_ (dr1 (kp1 kp0)) (oB1 ol0)) ?_
   refine TA.all [2] (by kernel_rfl) rfl ⟨?_, trivial⟩
   refine TA.br rfl (W1.look (.slice A2 s1.length c2) (by kernel_rfl) (sl0 0 (e := 44) (s := 6) rfl rfl (fun _ => by kernel_rfl) (by rfl) rfl hb7) ?_)
   refine TA.on (Hp.old vr w45_ (dr1 (kp1 kp0)) (oB1 ol0)) ?_
   refine TA.all [7] (by kernel_rfl) rfl ⟨?_, trivial⟩
   obtain ⟨hb9_r, hb9_m, rfl⟩ := grow_some hb9
   obtain ⟨ti, hti, hz1, hz2, hz3⟩ := info_parts (P := Tryz.prog) (e := 44) (z := a44_) (size := 6) (bytes := 56) (by kernel_rfl)
   refine TA.br rfl (W1.appendTo (E := eElem) (l := s1) (m := s2) 0 _ _ 56 ti _ (by rfl) (lslice_prefix hb7) (by kernel_rfl) rfl (by kernel_rfl) hti hz1 hz2 hz3 rfl (by decide) rfl rfl (fun w' hh => (SlOk.srcF (SlOk.cut (hh.row_slOk (i := 0) (by rfl)) hb8) (fun _ _ _ _ h => h))) hb9_r hb9_m (fun A3 c3 => ?_))
   refine TA.onk (Hp.old vr w45_ (dr1 (kp1 kp0)) (oB1 ol0)) fun o48_ => ?_
   refine TA.tp 8 (.slice A3 ((s1 ++ s2).length) c3) rfl (fun _ => by kernel_rfl) (fun _ _ _ h => h) o48_ ?_
   refine TA.tp 9 (vi 0) rfl (fun _ => by kernel_rfl) (fun _ _ _ h => h) o48_ ?_
   refine TA.done (by kernel_rfl) ?_
   exact fun a w' hf hh => ⟨A3, c3, (Fr.sel hf rfl), (hh.sub (kp1 (dr1 kp0)))⟩
  rintro a w' ⟨A4, c4, hf, hh⟩
  refine (?_ : T 62 w V5 ((row 44 eElem A4 c4 (s1 ++ s2)) :: []) [(6, .slice A4 ((s1 ++ s2).length) c4), (7, vi 0)] _) a w' hf hh
  clear hf hh
  cases hF
  refine T.ret rfl ?_
  exact T.ret2 rfl (ResIs.tmp rfl) (ResIs.tmp rfl) fun w' hh => ⟨_, rfl, hh.below, (vT2.mk ⟨_, _, rfl, (hh.row_fresh (i := 0) (by rfl) (fun _ h => h))⟩ (show _ from rfl))⟩
 rw [hc5, cond_false] at hF
 refine T.skip_code ?_
 refine T.seq (T.region (T.p3 (.slice A2 ((([] : List DElem) ++ p0).length) c2) (vi r4) (vi p2) (fun _ => by kernel_rfl) ?_))
 obtain ⟨e2, hb10, hF⟩ := ob hF
 obtain ⟨hi4, hi5, hi6⟩ := idx_some hb10
 refine T.look (.pointer (some ((sadr A2).add (r4.toNat * 6)))) (by kernel_rfl) (ixR 0 (e := 44) (s := 6) rfl rfl rfl (fun _ => by kernel_rfl) hi4 hi5 (by rfl) hi6 (by decide)) ?_
 refine T.pk (.pointer (some (((sadr A2).add (r4.toNat * 6)).add 4))) (fun _ => by kernel_rfl) (T.step (W1.storeRow (E := eElem) 0 (r4.toNat) 4 e2 (DElem.mk e2.key e2.made p2 e2.val) _ (vs := [vi p2]) (by rfl) (by kernel_rfl) rfl rfl rfl rfl rfl (fun _ => by kernel_rfl) (one_of rfl) hi6 (Nat.le_of_ble_eq_true (by kernel_rfl)) (fun _ _ h => by cases h; rfl) ?_))
 refine T.reslot 11 (.slice A2 (((([] : List DElem) ++ p0).set r4.toNat (DElem.mk e2.key e2.made p2 e2.val)).length) c2) rfl (by simp +zetaDelta only [List.length_set]) ?_
 refine T.reslot 40 (.slice A2 (((([] : List DElem) ++ p0).set r4.toNat (DElem.mk e2.key e2.made p2 e2.val)).length) c2) rfl (by simp +zetaDelta only [List.length_set]) ?_
 refine T.reslot 41 (.slice A2 (((([] : List DElem) ++ p0).set r4.toNat (DElem.mk e2.key e2.made p2 e2.val)).length) c2) rfl (by simp +zetaDelta only [List.length_set]) ?_
 refine T.reslot 56 (.slice A2 (((([] : List DElem) ++ p0).set r4.toNat (DElem.mk e2.key e2.made p2 e2.val)).length) c2) rfl (by simp +zetaDelta only [List.length_set]) ?_
 refine T.nil (T.seq (T.region (T.p3 (.slice A2 (((([] : List DElem) ++ p0).set r4.toNat (DElem.mk e2.key e2.made p2 e2.val)).length) c2) (.slice A2 (((([] : List DElem) ++ p0).set r4.toNat (DElem.mk e2.key e2.made p2 e2.val)).length) c2) (vi 0) (fun _ => by kernel_rfl) (T.nil ?_))))
 cases hF
 refine T.ret rfl ?_
 exact T.ret2 rfl (ResIs.tmp rfl) (ResIs.tmp rfl) fun w' hh => ⟨_, rfl, hh.below, (vT2.mk ⟨_, _, rfl, (hh.row_fresh (i := 0) (by rfl) (fun _ h => h))⟩ (show _ from rfl))⟩
set_option maxRecDepth 100000 in
set_option maxHeartbeats 4000000 in
theorem run_Last_l (F : Nat) (p0 : (List DElem)) (r : Int × Int) (hF : run_Last F p0 = some r) (w : World) (A1 : Option Addr) (c1 : Nat) (hs1 : SlOk (vw w) eElem A1 c1 p0) :
 Calls Tryz.prog 29 #[.slice A1 p0.length c1] w (Post (vT2 (vSc eInt) (vSc eInt)) r w) := by
 unfold run_Last at hF
 refine T.start (l := [.slice A1 p0.length c1]) Tryz.func29 rfl rfl rfl ?_
 refine T.seq (T.region (T.p2 (vi 0) (vi 0) (fun _ => by kernel_rfl) (T.nil (T.seq (T.seq (T.region (T.pk (.slice A1 p0.length c1) (fun _ => by kernel_rfl) ?_)))))))
 obtain ⟨r1, hb1, hF⟩ := ob hF
 refine T.step (W1.call (vSc eInt) r1 64 #[.slice A1 p0.length c1] (by kernel_rfl) (fun _ => by kernel_rfl) (fun w' hh => run_Check_l F p0 r1 hb1 w' A1 c1 (SlOk.mono hs1 hh.view)) ?_)
 intro u V1 hV1 hu
 obtain rfl := sureInt _ _ _ hu
 refine T.pk (vi r1) (fun _ => by kernel_rfl) (T.nil (T.seq (T.region (T.p2 (vi r1) (.bool (r1 != 0)) (fun _ => by kernel_rfl) (T.nil ?_)))))
 refine T.cond (r1 != 0) (by kernel_rfl) (by kernel_rfl) (fun hc1 => ?_) (fun hc1 => ?_)
 ·
  rw [hc1, cond_true] at hF
  refine T.seq (T.region (T.p3 (vi r1) (vi 0) (vi r1) (fun _ => by kernel_rfl) (T.nil ?_)))
  cases hF
  refine T.ret rfl ?_
  exact T.ret2 rfl (ResIs.tmp rfl) (ResIs.tmp rfl) fun w' hh => ⟨_, rfl, hh.below, (vT2.mk (show _ from rfl) (show _ from rfl))⟩
 rw [hc1, cond_false] at hF
 refine T.skip_code ?_
 refine T.seq (T.region (T.pk (.slice A1 p0.length c1) (fun _ => by kernel_rfl) ?_))
 obtain ⟨r2, hb2, hF⟩ := ob hF
 refine T.step (W1.call (vSc eInt) r2 65 #[.slice A1 p0.length c1] (by kernel_rfl) (fun _ => by kernel_rfl) (fun w' hh => run_last_l F p0 r2 hb2 w' A1 c1 (SlOk.mono (SlOk.mono hs1 hV1) hh.view)) ?_)
 intro u V2 hV2 hu
 obtain rfl := sureInt _ _ _ hu
 refine T.p2 (vi r2) (vi 0) (fun _ => by kernel_rfl) (T.nil ?_)
 cases hF
 refine T.ret rfl ?_
 exact T.ret2 rfl (ResIs.tmp rfl) (ResIs.tmp rfl) fun w' hh => ⟨_, rfl, hh.below, (vT2.mk (show _ from rfl) (show _ from rfl))⟩
end Go.Proofs.YtacjdfhllomccaaGreatDoor
