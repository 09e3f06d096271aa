/- The Go functions of group Run compute the pure functions of that group: written by walkgen.py. Condition of each: the pure function yields a result. -/
import Derived.Test.YtcmkdoahkncakaaSh2R
import Derived.Test.YtcmkdoahkncakaaKeyLR
import Derived.Test.YtcmkdoahkncakaaRunFR
import Derived.Test.YtcmkdoahkncakaaEqLR
namespace Go.Proofs.Ytcmkdoahkncakaa
set_option linter.unusedVariables false
set_option linter.defProp false
set_option maxRecDepth 100000 in
set_option maxHeartbeats 4000000 in
theorem run_Check_l (F : Nat) (p0 : (List DElem)) (r : Int) (hF : run_Check F p0 = some r) (w : World) (A1 : Option Addr) (c1 : Nat) (hs1 : SlOk (vw w) eElem A1 c1 p0) :
 Calls Try.prog 35 #[.slice A1 p0.length c1] w (Post (vSc eInt) r w) := by
 unfold run_Check at hF
 refine T.start (l := [.slice A1 p0.length c1]) Try.func35 rfl rfl rfl ?_
 refine T.seq (T.region (T.pk (vi 0) (fun _ => by kernel_rfl) (T.nil (T.seq (T.seq (T.region (T.p3 (.slice A1 p0.length c1) (vi (p0.length : Int)) (.bool (decide ((400 : Int) < (p0.length : Int)))) (fun _ => by kernel_rfl) (T.nil ?_))))))))
 refine T.cond (decide ((400 : Int) < (p0.length : Int))) (by kernel_rfl) (by kernel_rfl) (fun hc1 => ?_) (fun hc1 => ?_)
 ·
  rw [hc1, cond_true] at hF
  refine T.seq (T.region (T.pk (vi 2) (fun _ => by kernel_rfl) (T.nil ?_)))
  cases hF
  refine T.ret rfl ?_
  exact T.ret1 rfl (ResIs.tmp rfl) fun w' hh => ⟨_, rfl, hh.below, (show _ from rfl)⟩
 rw [hc1, cond_false] at hF
 refine T.skip_code ?_
 refine T.seq (T.seq (T.region (T.p3 (.slice A1 p0.length c1) (vi (p0.length : Int)) (vi 0) (fun _ => by kernel_rfl) (T.nil ?_))))
 obtain ⟨q1, hz1, hF⟩ := ob hF
 refine T.mid (fun a w' => q1 = Sum.inl () ∧ ∃ (V2 : View), View.le (vw w) V2 ∧ Fr 55 [] a ∧ Hp w V2 [] w') ?_ ?_
 ·
  refine T.block ?_
  refine T.iter (fun x1 a w' => ∃ (V1 : View), View.le (vw w) V1 ∧ Fr 55 [(0, .slice A1 p0.length c1), (10, .slice A1 p0.length c1), (11, vi (p0.length : Int)), (12, vi x1)] a ∧ Hp w V1 [] w') hz1 ?_ ?_
  ·
   exact fun a w' hf hh => ⟨(vw w), vr, (Fr.sel hf rfl), (hh.sub List.Sublist.slnil)⟩
  rintro x1 y1 hY1 hr1 a w' ⟨V1, hV1, hf, hh⟩
  refine (?_ : T 55 w V1 [] [(0, .slice A1 p0.length c1), (10, .slice A1 p0.length c1), (11, vi (p0.length : Int)), (12, vi x1)] _) a w' hf hh
  clear hf hh
  try dsimp only at hY1
  refine T.seq (T.region (T.pk (.bool (decide (x1 < (p0.length : Int)))) (fun _ => by kernel_rfl) (T.nil (T.seq ?_))))
  refine T.cond (decide (x1 < (p0.length : Int))) (by kernel_rfl) (by kernel_rfl) (fun hc2 => ?_) (fun hc2 => ?_)
  ·
   rw [hc2, cond_true] at hY1
   refine T.skip_code ?_
   obtain ⟨q2, hX1, hY1⟩ := ob hY1
   refine T.cut (fun a w' => q2 = Sum.inl () ∧ ∃ (V3 : View), View.le V1 V3 ∧ Fr 55 [(0, .slice A1 p0.length c1), (10, .slice A1 p0.length c1), (11, vi (p0.length : Int)), (12, vi x1)] a ∧ Hp w V3 [] w') ?_ ?_
   ·
    refine T.block (T.seq (T.region (T.pk (vi x1) (fun _ => by kernel_rfl) ?_)))
    obtain ⟨e1, hb1, hX1⟩ := ob hX1
    obtain ⟨hi1, hi2, hi3⟩ := idx_some hb1
    refine T.look (.pointer (some ((sadr A1).add (x1.toNat * 6)))) (by kernel_rfl) (fun w' hh => exec_indexAddr (e := 28) (s := 6) rfl rfl rfl (by kernel_rfl) (by kernel_rfl) hi1 hi2 ((SlOk.mono hs1 hV1).some_ hi3 (by decide))) ?_
    let v2_ : List Value := [vi e1.key.pfs, vi e1.key.obj, vi e1.key.off, vi e1.made, vi e1.gone, .string e1.val]
    let a5_ : Value := .agg #[vi e1.key.pfs, vi e1.key.obj, vi e1.key.off, vi e1.made, vi e1.gone, .string e1.val]
    refine T.look a5_ (by kernel_rfl) (fun w' hh => exec_loadN (cs := v2_) rfl rfl (by kernel_rfl) (by kernel_rfl) (fun j u hj => (hh.cell_view (SlOk.cellF (E := eElem) (SlOk.mono hs1 hV1) hi3 j (fun _ _ _ h => h) hj)))) ?_
    let v3_ : List Value := [vi 0, vi 0, vi 0, vi 0, vi 0, .string (ByteArray.mk #[])]
    refine T.step (W1.np 28 v3_ (fun _ => by kernel_rfl) (fun b1 => ?_))
    refine T.pk (vi x1) (fun _ => by kernel_rfl) ?_
    let i1_ : HObj := box b1 28 v2_
    refine T.step (W1.st 0 v2_ (i1_ :: []) v2_ (by rfl) rfl rfl rfl rfl rfl rfl (fun _ => by kernel_rfl) ?_)
    refine T.nil (T.seq (T.seq (T.region (T.look a5_ (by kernel_rfl) (ldN 0 rfl rfl (fun _ => by kernel_rfl) (by rfl) rfl) ?_))))
    obtain ⟨r1, hb2, hX1⟩ := ob hX1
    refine T.step (W1.call (vSc eInt) r1 20 #[a5_] (by kernel_rfl) (fun _ => by kernel_rfl) (fun w' hh => elem_Check_l e1 r1 hb2 w' ) ?_)
    intro u V4 hV4 hu
    obtain rfl := sureInt _ _ _ hu
    refine T.pk (vi r1) (fun _ => by kernel_rfl) (T.nil (T.seq (T.region (T.p2 (vi r1) (.bool (r1 != 0)) (fun _ => by kernel_rfl) (T.nil ?_)))))
    refine T.cond (r1 != 0) (by kernel_rfl) (by kernel_rfl) (fun hc3 => ?_) (fun hc3 => ?_)
    ·
     rw [hc3, cond_true] at hX1
     refine T.seq (T.region (T.p2 (vi r1) (vi r1) (fun _ => by kernel_rfl) (T.nil ?_)))
     cases hX1
     try dsimp only at hY1
     cases hY1
     cases (hr1 _ rfl)
     try dsimp only at hF
     cases hF
     refine T.ret rfl ?_
     exact T.ret1 rfl (ResIs.tmp rfl) fun w' hh => ⟨_, rfl, hh.below, (show _ from rfl)⟩
    rw [hc3, cond_false] at hX1
    refine T.skip_code ?_
    refine T.seq (T.seq (T.region (T.p2 (vi x1) (.bool (x1 == 0)) (fun _ => by kernel_rfl) (T.nil ?_))))
    refine T.cond (x1 == 0) (by kernel_rfl) (by kernel_rfl) (fun hc4 => ?_) (fun hc4 => ?_)
    ·
     rw [hc4, cond_true] at hX1
     refine T.exit ?_
     cases hX1
     exact fun a w' hf hh => ⟨rfl, V4, hV4, (Fr.sel hf rfl), (hh.sub (dr1 kp0))⟩
    rw [hc4, cond_false] at hX1
    refine T.skip_code ?_
    refine T.seq (T.region (T.p3 (.slice A1 p0.length c1) (vi x1) (vi (IntKind.i64.wrap (x1 - 1))) (fun _ => by kernel_rfl) ?_))
    obtain ⟨e2, hb3, hX1⟩ := ob hX1
    obtain ⟨hi4, hi5, hi6⟩ := idx_some hb3
    refine T.look (.pointer (some ((sadr A1).add (((IntKind.i64.wrap (x1 - 1)).toNat) * 6)))) (by kernel_rfl) (fun w' hh => exec_indexAddr (e := 28) (s := 6) rfl rfl rfl (by kernel_rfl) (by kernel_rfl) hi4 hi5 ((SlOk.mono hs1 (vt hV1 hV4)).some_ hi6 (by decide))) ?_
    let v4_ : List Value := [vi e2.key.pfs, vi e2.key.obj, vi e2.key.off, vi e2.made, vi e2.gone, .string e2.val]
    let a6_ : Value := .agg #[vi e2.key.pfs, vi e2.key.obj, vi e2.key.off, vi e2.made, vi e2.gone, .string e2.val]
    refine T.look a6_ (by kernel_rfl) (fun w' hh => exec_loadN (cs := v4_) rfl rfl (by kernel_rfl) (by kernel_rfl) (fun j u hj => (hh.cell_view (SlOk.cellF (E := eElem) (SlOk.mono hs1 (vt hV1 hV4)) hi6 j (fun _ _ _ h => h) hj)))) ?_
    refine T.step (W1.np 28 v3_ (fun _ => by kernel_rfl) (fun b2 => ?_))
    refine T.step (W1.st 0 v4_ ((box b2 28 v4_) :: i1_ :: []) v4_ (by rfl) rfl rfl rfl rfl rfl rfl (fun _ => by kernel_rfl) ?_)
    refine T.nil ?_
    obtain ⟨z1, hX2, hX1⟩ := ob hX1
    refine T.cut (fun a w' => Fr 55 [(0, .slice A1 p0.length c1), (10, .slice A1 p0.length c1), (11, vi (p0.length : Int)), (12, vi x1), (53, .bool z1)] a ∧ Hp w V4 [] w') ?_ ?_
    ·
     refine T.quiet (by kernel_rfl) (by kernel_rfl) ?_
     refine TQ.look a6_ (by kernel_rfl) (ldN 0 rfl rfl (fun _ => by kernel_rfl) (by rfl) rfl) ?_
     obtain ⟨r2, hb4, hX2⟩ := ob hX2
     let a7_ : Value := .agg #[vi r2.key.pfs, vi r2.key.obj, vi r2.key.off, vi r2.made]
     refine TQ.call (vAg eSpot) r2 22 #[a6_] a7_ (fun V u hu => sureSpot V u _ hu) (by kernel_rfl) (fun _ => by kernel_rfl) (fun w' hh => elem_Spot_l e2 r2 hb4 w' ) ?_
     refine TQ.look a5_ (by kernel_rfl) (ldN 1 rfl rfl (fun _ => by kernel_rfl) (by rfl) rfl) ?_
     obtain ⟨r3, hb5, hX2⟩ := ob hX2
     let a8_ : Value := .agg #[vi r3.key.pfs, vi r3.key.obj, vi r3.key.off, vi r3.made]
     refine TQ.call (vAg eSpot) r3 22 #[a5_] a8_ (fun V u hu => sureSpot V u _ hu) (by kernel_rfl) (fun _ => by kernel_rfl) (fun w' hh => elem_Spot_l e1 r3 hb5 w' ) ?_
     obtain ⟨r4, hb6, hX2⟩ := ob hX2
     refine TQ.call (vSc eInt) r4 62 #[a7_, a8_] (vi r4) (fun V u hu => sureInt V u _ hu) (by kernel_rfl) (fun _ => by kernel_rfl) (fun w' hh => key_CmpSpot_l r2 r3 r4 hb6 w' ) ?_
     refine TQ.pure (.bool (decide ((0 : Int) ≤ r4))) (by kernel_rfl) (fun _ => by kernel_rfl) ?_
     refine TQ.pure (.bool (decide ((0 : Int) ≤ r4))) (by kernel_rfl) (fun _ => by kernel_rfl) ?_
     cases hg1 : decide ((0 : Int) ≤ r4)
     ·
      skip
      rw [hg1, cond_false] at hX2
      refine TQ.pure (pB b2 0) (by kernel_rfl) (fun _ => by kernel_rfl) ?_
      refine TQ.look (.agg #[vi e2.key.pfs, vi e2.key.obj, vi e2.key.off]) (by kernel_rfl) (ldN 0 rfl rfl (fun _ => by kernel_rfl) (by rfl) rfl) ?_
      refine TQ.pure (pB b1 0) (by kernel_rfl) (fun _ => by kernel_rfl) ?_
      refine TQ.look (.agg #[vi e1.key.pfs, vi e1.key.obj, vi e1.key.off]) (by kernel_rfl) (ldN 1 rfl rfl (fun _ => by kernel_rfl) (by rfl) rfl) ?_
      refine TQ.look (.bool (e2.key == e1.key)) (by kernel_rfl) (fun w' hh => exec_eql_DKey e2.key e1.key w' rfl rfl rfl) ?_
      refine TQ.pure (.bool (e2.key == e1.key)) (by kernel_rfl) (fun _ => by kernel_rfl) ?_
      cases hg2 : (e2.key == e1.key)
      ·
       skip
       rw [hg2, cond_false] at hX2
       refine TQ.pass (by kernel_rfl) (by kernel_rfl) ?_
       refine TQ.pass (by kernel_rfl) (by kernel_rfl) ?_
       refine TQ.pass (by kernel_rfl) (by kernel_rfl) ?_
       refine TQ.pass (by kernel_rfl) (by kernel_rfl) ?_
       refine TQ.pass (by kernel_rfl) (by kernel_rfl) ?_
       refine TQ.pass (by kernel_rfl) (by kernel_rfl) ?_
       refine TQ.pass (by kernel_rfl) (by kernel_rfl) ?_
       refine TQ.pass (by kernel_rfl) (by kernel_rfl) ?_
       refine TQ.pass (by kernel_rfl) (by kernel_rfl) ?_
       refine TQ.pass (by kernel_rfl) (by kernel_rfl) ?_
       refine TQ.pure (.bool false) (by kernel_rfl) (fun _ => by kernel_rfl) ?_
       refine TQ.pure (.bool false) (by kernel_rfl) (fun _ => by kernel_rfl) ?_
       refine TQ.nil ?_
       cases hX2
       exact fun a w' hf hh => ⟨(Fr.sel hf rfl), (hh.sub (dr1 (dr1 kp0)))⟩
      skip
      rw [hg2, cond_true] at hX2
      refine TQ.pure (pB b2 4) (by kernel_rfl) (fun _ => by kernel_rfl) ?_
      refine TQ.look (vi e2.gone) (by kernel_rfl) (ld1 0 rfl rfl (fun _ => by kernel_rfl) (by rfl) rfl) ?_
      refine TQ.pure (.bool (e2.gone == 0)) (by kernel_rfl) (fun _ => by kernel_rfl) ?_
      refine TQ.pure (.bool (e2.gone == 0)) (by kernel_rfl) (fun _ => by kernel_rfl) ?_
      cases hg3 : (e2.gone == 0)
      ·
       skip
       rw [hg3, cond_false] at hX2
       refine TQ.pure (pB b2 4) (by kernel_rfl) (fun _ => by kernel_rfl) ?_
       refine TQ.look (vi e2.gone) (by kernel_rfl) (ld1 0 rfl rfl (fun _ => by kernel_rfl) (by rfl) rfl) ?_
       refine TQ.pure (pB b1 3) (by kernel_rfl) (fun _ => by kernel_rfl) ?_
       refine TQ.look (vi e1.made) (by kernel_rfl) (ld1 1 rfl rfl (fun _ => by kernel_rfl) (by rfl) rfl) ?_
       refine TQ.pure (.bool (decide (e1.made < e2.gone))) (by kernel_rfl) (fun _ => by kernel_rfl) ?_
       refine TQ.pure (.bool (decide (e1.made < e2.gone))) (by kernel_rfl) (fun _ => by kernel_rfl) ?_
       refine TQ.pure (.bool (decide (e1.made < e2.gone))) (by kernel_rfl) (fun _ => by kernel_rfl) ?_
       refine TQ.pure (.bool (decide (e1.made < e2.gone))) (by kernel_rfl) (fun _ => by kernel_rfl) ?_
       refine TQ.nil ?_
       cases hX2
       exact fun a w' hf hh => ⟨(Fr.sel hf rfl), (hh.sub (dr1 (dr1 kp0)))⟩
      skip
      rw [hg3, cond_true] at hX2
      refine TQ.pass (by kernel_rfl) (by kernel_rfl) ?_
      refine TQ.pass (by kernel_rfl) (by kernel_rfl) ?_
      refine TQ.pass (by kernel_rfl) (by kernel_rfl) ?_
      refine TQ.pass (by kernel_rfl) (by kernel_rfl) ?_
      refine TQ.pass (by kernel_rfl) (by kernel_rfl) ?_
      refine TQ.pure (.bool true) (by kernel_rfl) (fun _ => by kernel_rfl) ?_
      refine TQ.pure (.bool true) (by kernel_rfl) (fun _ => by kernel_rfl) ?_
      refine TQ.pure (.bool true) (by kernel_rfl) (fun _ => by kernel_rfl) ?_
      refine TQ.nil ?_
      cases hX2
      exact fun a w' hf hh => ⟨(Fr.sel hf rfl), (hh.sub (dr1 (dr1 kp0)))⟩
     skip
     rw [hg1, cond_true] at hX2
     refine TQ.pass (by kernel_rfl) (by kernel_rfl) ?_
     refine TQ.pass (by kernel_rfl) (by kernel_rfl) ?_
     refine TQ.pass (by kernel_rfl) (by kernel_rfl) ?_
     refine TQ.pass (by kernel_rfl) (by kernel_rfl) ?_
     refine TQ.pass (by kernel_rfl) (by kernel_rfl) ?_
     refine TQ.pass (by kernel_rfl) (by kernel_rfl) ?_
     refine TQ.pass (by kernel_rfl) (by kernel_rfl) ?_
     refine TQ.pass (by kernel_rfl) (by kernel_rfl) ?_
     refine TQ.pass (by kernel_rfl) (by kernel_rfl) ?_
     refine TQ.pass (by kernel_rfl) (by kernel_rfl) ?_
     refine TQ.pass (by kernel_rfl) (by kernel_rfl) ?_
     refine TQ.pass (by kernel_rfl) (by kernel_rfl) ?_
     refine TQ.pass (by kernel_rfl) (by kernel_rfl) ?_
     refine TQ.pass (by kernel_rfl) (by kernel_rfl) ?_
     refine TQ.pass (by kernel_rfl) (by kernel_rfl) ?_
     refine TQ.pass (by kernel_rfl) (by kernel_rfl) ?_
     refine TQ.pass (by kernel_rfl) (by kernel_rfl) ?_
     refine TQ.pure (.bool true) (by kernel_rfl) (fun _ => by kernel_rfl) ?_
     refine TQ.nil ?_
     cases hX2
     exact fun a w' hf hh => ⟨(Fr.sel hf rfl), (hh.sub (dr1 (dr1 kp0)))⟩
    rintro a w' ⟨hf, hh⟩
    refine (?_ : T 55 w V4 [] [(0, .slice A1 p0.length c1), (10, .slice A1 p0.length c1), (11, vi (p0.length : Int)), (12, vi x1), (53, .bool z1)] _) a w' hf hh
    clear hf hh
    refine T.cond z1 (by kernel_rfl) (by kernel_rfl) (fun hc5 => ?_) (fun hc5 => ?_)
    ·
     rw [hc5, cond_true] at hX1
     refine T.seq (T.region (T.pk (vi 3) (fun _ => by kernel_rfl) (T.nil ?_)))
     cases hX1
     try dsimp only at hY1
     cases hY1
     cases (hr1 _ rfl)
     try dsimp only at hF
     cases hF
     refine T.ret rfl ?_
     exact T.ret1 rfl (ResIs.tmp rfl) fun w' hh => ⟨_, rfl, hh.below, (show _ from rfl)⟩
    rw [hc5, cond_false] at hX1
    refine T.skip_code ?_
    cases hX1
    exact fun a w' hf hh => ⟨rfl, V4, hV4, (Fr.sel hf rfl), (hh.sub List.Sublist.slnil)⟩
   rintro a w' ⟨rfl, V3, hV3, hf, hh⟩
   try dsimp only at hY1
   refine (?_ : T 55 w V3 [] [(0, .slice A1 p0.length c1), (10, .slice A1 p0.length c1), (11, vi (p0.length : Int)), (12, vi x1)] _) a w' hf hh
   clear hf hh
   refine T.region (T.p2 (vi (IntKind.i64.wrap (x1 + 1))) (vi (IntKind.i64.wrap (x1 + 1))) (fun _ => by kernel_rfl) (T.nil ?_))
   cases hY1
   exact fun a w' hf hh => ⟨(IntKind.i64.wrap (x1 + 1)), rfl, V3, (vt hV1 hV3), (Fr.sel hf rfl), (hh.sub List.Sublist.slnil)⟩
  rw [hc2, cond_false] at hY1
  refine T.exit ?_
  cases hY1
  cases (hr1 _ rfl)
  exact fun a w' hf hh => ⟨rfl, V1, hV1, (Fr.nil hf), (hh.sub List.Sublist.slnil)⟩
 rintro a w' ⟨rfl, V2, hV2, hf, hh⟩
 try dsimp only at hF
 refine (?_ : T 55 w V2 [] [] _) a w' hf hh
 clear hf hh
 refine T.seq (T.region (T.pk (vi 0) (fun _ => by kernel_rfl) (T.nil ?_)))
 cases hF
 refine T.ret rfl ?_
 exact T.ret1 rfl (ResIs.tmp rfl) fun w' hh => ⟨_, rfl, hh.below, (show _ from rfl)⟩
end Go.Proofs.Ytcmkdoahkncakaa
