/- The Go functions of group Node compute the pure functions of that group: written by walkgen.py. Condition of each: the pure function yields a result. -/
import Derived.Test.YtcmkdoahkncakaaSh2Q
import Derived.Test.YtcmkdoahkncakaaKeyLQ
import Derived.Test.YtcmkdoahkncakaaNodeFQ
import Derived.Test.YtcmkdoahkncakaaEqLQ
namespace Go.Proofs.Ytcmkdoahkncakaa
set_option linter.unusedVariables false
set_option maxRecDepth 100000 in
set_option maxHeartbeats 4000000 in
theorem node_leaf_l (F : Nat) (p0 : DNode) (r : Int) (hF : node_leaf F p0 = some r) (w : World) (A1 : Option Addr) (c1 : Nat) (hs1 : SlOk (vw w) eElem A1 c1 p0.elems) (A2 : Option Addr) (c2 : Nat) (hs2 : SlOk (vw w) eInt A2 c2 p0.kids) (A3 : Option Addr) (c3 : Nat) (hs3 : SlOk (vw w) eSpot A3 c3 p0.seps) (A4 : Option Addr) (c4 : Nat) (hs4 : SlOk (vw w) eInt A4 c4 p0.tids) :
 Calls Try.prog 90 #[.agg #[.int .i64 p0.kind, .slice A1 p0.elems.length c1, .slice A2 p0.kids.length c2, .slice A3 p0.seps.length c3, .slice A4 p0.tids.length c4]] w (Post (vSc eInt) r w) := by
 unfold node_leaf at hF
 refine T.start (l := [.agg #[vi p0.kind, .slice A1 p0.elems.length c1, .slice A2 p0.kids.length c2, .slice A3 p0.seps.length c3, .slice A4 p0.tids.length c4]]) Try.func90 rfl rfl rfl ?_
 refine T.seq (T.region ?_)
 let v2_ : List Value := [vi p0.kind, .slice A1 p0.elems.length c1, .slice A2 p0.kids.length c2, .slice A3 p0.seps.length c3, .slice A4 p0.tids.length c4]
 refine T.step (W1.np 97 v2_ (fun _ => by kernel_rfl) (fun b1 => ?_))
 refine T.pk (vi 0) (fun _ => by kernel_rfl) (T.nil (T.seq ?_))
 let i1_ : HObj := box b1 97 v2_
 refine T.cut (fun a w' => Fr 55 [(1, pB b1 0), (21, .bool ((decide ((0 : Int) < (p0.kids.length : Int))) || ((decide ((0 : Int) < (p0.seps.length : Int))) || (decide ((0 : Int) < (p0.tids.length : Int))))))] a ∧ Hp w (vw w) (i1_ :: []) w') ?_ ?_
 ·
  refine T.region (T.pk (pB b1 2) (fun _ => by kernel_rfl) (T.look (.slice A2 p0.kids.length c2) (by kernel_rfl) (ld1 0 rfl rfl (fun _ => by kernel_rfl) (by rfl) rfl) ?_))
  refine T.p3 (vi (p0.kids.length : Int)) (.bool (decide ((0 : Int) < (p0.kids.length : Int)))) (.bool (decide ((0 : Int) < (p0.kids.length : Int)))) (fun _ => by kernel_rfl) ?_
  cases hg1 : decide ((0 : Int) < (p0.kids.length : Int))
  ·
   skip
   refine T.pk (pB b1 3) (fun _ => by kernel_rfl) (T.look (.slice A3 p0.seps.length c3) (by kernel_rfl) (ld1 0 rfl rfl (fun _ => by kernel_rfl) (by rfl) rfl) ?_)
   refine T.p4 (vi (p0.seps.length : Int)) (.bool (decide ((0 : Int) < (p0.seps.length : Int)))) (.bool (decide ((0 : Int) < (p0.seps.length : Int)))) (.bool (decide ((0 : Int) < (p0.seps.length : Int)))) (fun _ => by kernel_rfl) ?_
   cases hg2 : decide ((0 : Int) < (p0.seps.length : Int))
   ·
    skip
    refine T.pk (pB b1 4) (fun _ => by kernel_rfl) (T.look (.slice A4 p0.tids.length c4) (by kernel_rfl) (ld1 0 rfl rfl (fun _ => by kernel_rfl) (by rfl) rfl) ?_)
    refine T.p3 (vi (p0.tids.length : Int)) (.bool (decide ((0 : Int) < (p0.tids.length : Int)))) (.bool (decide ((0 : Int) < (p0.tids.length : Int)))) (fun _ => by kernel_rfl) (T.nil ?_)
    exact fun a w' hf hh => ⟨(Fr.sel hf rfl), (hh.sub (kp1 kp0))⟩
   skip
   refine T.pass (by kernel_rfl) (by kernel_rfl) (T.pass (by kernel_rfl) (by kernel_rfl) (T.pass (by kernel_rfl) (by kernel_rfl) (T.pass (by kernel_rfl) (by kernel_rfl) (T.pk (.bool true) (fun _ => by kernel_rfl) (T.nil ?_)))))
   exact fun a w' hf hh => ⟨(Fr.sel hf rfl), (hh.sub (kp1 kp0))⟩
  skip
  refine T.pass (by kernel_rfl) (by kernel_rfl) (T.pass (by kernel_rfl) (by kernel_rfl) (T.pass (by kernel_rfl) (by kernel_rfl) (T.pass (by kernel_rfl) (by kernel_rfl) (T.p2 (.bool true) (.bool true) (fun _ => by kernel_rfl) (T.pass (by kernel_rfl) (by kernel_rfl) (T.pass (by kernel_rfl) (by kernel_rfl) (T.pass (by kernel_rfl) (by kernel_rfl) (T.pass (by kernel_rfl) (by kernel_rfl) (T.pk (.bool true) (fun _ => by kernel_rfl) (T.nil ?_))))))))))
  exact fun a w' hf hh => ⟨(Fr.sel hf rfl), (hh.sub (kp1 kp0))⟩
 rintro a w' ⟨hf, hh⟩
 refine (?_ : T 55 w (vw w) (i1_ :: []) [(1, pB b1 0), (21, .bool ((decide ((0 : Int) < (p0.kids.length : Int))) || ((decide ((0 : Int) < (p0.seps.length : Int))) || (decide ((0 : Int) < (p0.tids.length : Int))))))] _) a w' hf hh
 clear hf hh
 refine T.cond ((decide ((0 : Int) < (p0.kids.length : Int))) || ((decide ((0 : Int) < (p0.seps.length : Int))) || (decide ((0 : Int) < (p0.tids.length : Int))))) (by kernel_rfl) (by kernel_rfl) (fun hc1 => ?_) (fun hc1 => ?_)
 ·
  rw [hc1, cond_true] at hF
  refine T.seq (T.region (T.pk (vi 3) (fun _ => by kernel_rfl) (T.nil ?_)))
  cases hF
  refine T.ret rfl ?_
  exact T.ret1 rfl (ResIs.tmp rfl) fun w' hh => ⟨_, rfl, hh.below, (show _ from rfl)⟩
 rw [hc1, cond_false] at hF
 refine T.skip_code ?_
 refine T.seq (T.seq (T.region (T.pk (pB b1 1) (fun _ => by kernel_rfl) (T.look (.slice A1 p0.elems.length c1) (by kernel_rfl) (ld1 0 rfl rfl (fun _ => by kernel_rfl) (by rfl) rfl) ?_))))
 refine T.p2 (vi (p0.elems.length : Int)) (.bool (decide ((8 : Int) < (p0.elems.length : Int)))) (fun _ => by kernel_rfl) (T.nil ?_)
 refine T.cond (decide ((8 : Int) < (p0.elems.length : Int))) (by kernel_rfl) (by kernel_rfl) (fun hc2 => ?_) (fun hc2 => ?_)
 ·
  rw [hc2, cond_true] at hF
  refine T.seq (T.region (T.pk (vi 2) (fun _ => by kernel_rfl) (T.nil ?_)))
  cases hF
  refine T.ret rfl ?_
  exact T.ret1 rfl (ResIs.tmp rfl) fun w' hh => ⟨_, rfl, hh.below, (show _ from rfl)⟩
 rw [hc2, cond_false] at hF
 refine T.skip_code ?_
 refine T.seq (T.seq (T.region (T.pk (pB b1 1) (fun _ => by kernel_rfl) (T.look (.slice A1 p0.elems.length c1) (by kernel_rfl) (ld1 0 rfl rfl (fun _ => by kernel_rfl) (by rfl) rfl) ?_))))
 refine T.p2 (vi (p0.elems.length : Int)) (vi 0) (fun _ => by kernel_rfl) (T.nil ?_)
 obtain ⟨q1, hz1, hF⟩ := ob hF
 refine T.mid (fun a w' => q1 = Sum.inl () ∧ ∃ (V2 : View), View.le (vw w) V2 ∧ Fr 55 [] a ∧ Hp w V2 [] w') ?_ ?_
 ·
  refine T.block ?_
  refine T.iter (fun x1 a w' => ∃ (V1 : View), View.le (vw w) V1 ∧ Fr 55 [(1, pB b1 0), (27, .slice A1 p0.elems.length c1), (28, vi (p0.elems.length : Int)), (29, vi x1)] a ∧ Hp w V1 (i1_ :: []) w') hz1 ?_ ?_
  ·
   exact fun a w' hf hh => ⟨(vw w), vr, (Fr.sel hf rfl), (hh.sub (kp1 kp0))⟩
  rintro x1 y1 hY1 hr1 a w' ⟨V1, hV1, hf, hh⟩
  refine (?_ : T 55 w V1 (i1_ :: []) [(1, pB b1 0), (27, .slice A1 p0.elems.length c1), (28, vi (p0.elems.length : Int)), (29, vi x1)] _) a w' hf hh
  clear hf hh
  try dsimp only at hY1
  refine T.seq (T.region (T.pk (.bool (decide (x1 < (p0.elems.length : Int)))) (fun _ => by kernel_rfl) (T.nil (T.seq ?_))))
  refine T.cond (decide (x1 < (p0.elems.length : Int))) (by kernel_rfl) (by kernel_rfl) (fun hc3 => ?_) (fun hc3 => ?_)
  ·
   rw [hc3, cond_true] at hY1
   refine T.skip_code ?_
   refine T.seq (T.block (T.seq (T.region (T.pk (vi x1) (fun _ => by kernel_rfl) ?_))))
   obtain ⟨e1, hb1, hY1⟩ := ob hY1
   obtain ⟨hi1, hi2, hi3⟩ := idx_some hb1
   refine T.look (.pointer (some ((sadr A1).add (x1.toNat * 6)))) (by kernel_rfl) (fun w' hh => exec_indexAddr (e := 28) (s := 6) rfl rfl rfl (by kernel_rfl) (by kernel_rfl) hi1 hi2 ((SlOk.mono hs1 hV1).some_ hi3 (by decide))) ?_
   let v3_ : List Value := [vi e1.key.pfs, vi e1.key.obj, vi e1.key.off, vi e1.made, vi e1.gone, .string e1.val]
   let a4_ : Value := .agg #[vi e1.key.pfs, vi e1.key.obj, vi e1.key.off, vi e1.made, vi e1.gone, .string e1.val]
   refine T.look a4_ (by kernel_rfl) (fun w' hh => exec_loadN (cs := v3_) rfl rfl (by kernel_rfl) (by kernel_rfl) (fun j u hj => (hh.cell_view (SlOk.cellF (E := eElem) (SlOk.mono hs1 hV1) hi3 j (fun _ _ _ h => h) hj)))) ?_
   refine T.step (W1.np 28 [vi 0, vi 0, vi 0, vi 0, vi 0, .string (ByteArray.mk #[])] (fun _ => by kernel_rfl) (fun b2 => ?_))
   refine T.pk (vi x1) (fun _ => by kernel_rfl) (T.step (W1.st 0 v3_ ((box b2 28 v3_) :: i1_ :: []) v3_ (by rfl) rfl rfl rfl rfl rfl rfl (fun _ => by kernel_rfl) ?_))
   refine T.nil (T.seq (T.seq (T.region (T.look a4_ (by kernel_rfl) (ldN 0 rfl rfl (fun _ => by kernel_rfl) (by rfl) rfl) ?_))))
   obtain ⟨r1, hb2, hY1⟩ := ob hY1
   refine T.step (W1.call (vSc eInt) r1 20 #[a4_] (by kernel_rfl) (fun _ => by kernel_rfl) (fun w' hh => elem_Check_l e1 r1 hb2 w' ) ?_)
   intro u V3 hV3 hu
   obtain rfl := sureInt _ _ _ hu
   refine T.pk (vi r1) (fun _ => by kernel_rfl) (T.nil (T.seq (T.region (T.p2 (vi r1) (.bool (r1 != 0)) (fun _ => by kernel_rfl) (T.nil ?_)))))
   refine T.cond (r1 != 0) (by kernel_rfl) (by kernel_rfl) (fun hc4 => ?_) (fun hc4 => ?_)
   ·
    rw [hc4, cond_true] at hY1
    refine T.seq (T.region (T.p2 (vi r1) (vi r1) (fun _ => by kernel_rfl) (T.nil ?_)))
    cases hY1
    cases (hr1 _ rfl)
    try dsimp only at hF
    cases hF
    refine T.ret rfl ?_
    exact T.ret1 rfl (ResIs.tmp rfl) fun w' hh => ⟨_, rfl, hh.below, (show _ from rfl)⟩
   rw [hc4, cond_false] at hY1
   refine T.skip_code ?_
   obtain ⟨z1, hX1, hY1⟩ := ob hY1
   refine T.cut (fun a w' => Fr 55 [(1, pB b1 0), (27, .slice A1 p0.elems.length c1), (28, vi (p0.elems.length : Int)), (29, vi x1), (53, .bool z1)] a ∧ Hp w V3 (i1_ :: []) w') ?_ ?_
   ·
    refine T.quiet (by kernel_rfl) (by kernel_rfl) ?_
    refine TQ.pure (vi x1) (by kernel_rfl) (fun _ => by kernel_rfl) ?_
    refine TQ.pure (.bool (decide ((0 : Int) < x1))) (by kernel_rfl) (fun _ => by kernel_rfl) ?_
    refine TQ.pure (.bool (decide ((0 : Int) < x1))) (by kernel_rfl) (fun _ => by kernel_rfl) ?_
    cases hg3 : decide ((0 : Int) < x1)
    ·
     skip
     rw [hg3, cond_false] at hX1
     refine TQ.pass (by kernel_rfl) (by kernel_rfl) ?_
     refine TQ.pass (by kernel_rfl) (by kernel_rfl) ?_
     refine TQ.pass (by kernel_rfl) (by kernel_rfl) ?_
     refine TQ.pass (by kernel_rfl) (by kernel_rfl) ?_
     refine TQ.pass (by kernel_rfl) (by kernel_rfl) ?_
     refine TQ.pass (by kernel_rfl) (by kernel_rfl) ?_
     refine TQ.pass (by kernel_rfl) (by kernel_rfl) ?_
     refine TQ.pass (by kernel_rfl) (by kernel_rfl) ?_
     refine TQ.pass (by kernel_rfl) (by kernel_rfl) ?_
     refine TQ.pass (by kernel_rfl) (by kernel_rfl) ?_
     refine TQ.pass (by kernel_rfl) (by kernel_rfl) ?_
     refine TQ.pure (.bool false) (by kernel_rfl) (fun _ => by kernel_rfl) ?_
     refine TQ.nil ?_
     cases hX1
     exact fun a w' hf hh => ⟨(Fr.sel hf rfl), (hh.sub (dr1 (kp1 kp0)))⟩
    skip
    rw [hg3, cond_true] at hX1
    refine TQ.pure (pB b1 1) (by kernel_rfl) (fun _ => by kernel_rfl) ?_
    refine TQ.look (.slice A1 p0.elems.length c1) (by kernel_rfl) (ld1 1 rfl rfl (fun _ => by kernel_rfl) (by rfl) rfl) ?_
    refine TQ.pure (vi x1) (by kernel_rfl) (fun _ => by kernel_rfl) ?_
    refine TQ.pure (vi (IntKind.i64.wrap (x1 - 1))) (by kernel_rfl) (fun _ => by kernel_rfl) ?_
    obtain ⟨e2, hb3, hX1⟩ := ob hX1
    obtain ⟨hi4, hi5, hi6⟩ := idx_some hb3
    refine TQ.look (.pointer (some ((sadr A1).add (((IntKind.i64.wrap (x1 - 1)).toNat) * 6)))) (by kernel_rfl) (fun w' hh => exec_indexAddr (e := 28) (s := 6) rfl rfl rfl (by kernel_rfl) (by kernel_rfl) hi4 hi5 ((SlOk.mono hs1 (vt hV1 hV3)).some_ hi6 (by decide))) ?_
    let a5_ : Value := .agg #[vi e2.key.pfs, vi e2.key.obj, vi e2.key.off, vi e2.made, vi e2.gone, .string e2.val]
    refine TQ.look a5_ (by kernel_rfl) (fun w' hh => exec_loadN (cs := [vi e2.key.pfs, vi e2.key.obj, vi e2.key.off, vi e2.made, vi e2.gone, .string e2.val]) rfl rfl (by kernel_rfl) (by kernel_rfl) (fun j u hj => (hh.cell_view (SlOk.cellF (E := eElem) (SlOk.mono hs1 (vt hV1 hV3)) hi6 j (fun _ _ _ h => h) hj)))) ?_
    obtain ⟨r2, hb4, hX1⟩ := ob hX1
    let a6_ : Value := .agg #[vi r2.key.pfs, vi r2.key.obj, vi r2.key.off, vi r2.made]
    refine TQ.call (vAg eSpot) r2 22 #[a5_] a6_ (fun V u hu => sureSpot V u _ hu) (by kernel_rfl) (fun _ => by kernel_rfl) (fun w' hh => elem_Spot_l e2 r2 hb4 w' ) ?_
    refine TQ.look a4_ (by kernel_rfl) (ldN 0 rfl rfl (fun _ => by kernel_rfl) (by rfl) rfl) ?_
    obtain ⟨r3, hb5, hX1⟩ := ob hX1
    let a7_ : Value := .agg #[vi r3.key.pfs, vi r3.key.obj, vi r3.key.off, vi r3.made]
    refine TQ.call (vAg eSpot) r3 22 #[a4_] a7_ (fun V u hu => sureSpot V u _ hu) (by kernel_rfl) (fun _ => by kernel_rfl) (fun w' hh => elem_Spot_l e1 r3 hb5 w' ) ?_
    obtain ⟨r4, hb6, hX1⟩ := ob hX1
    refine TQ.call (vSc eInt) r4 62 #[a6_, a7_] (vi r4) (fun V u hu => sureInt V u _ hu) (by kernel_rfl) (fun _ => by kernel_rfl) (fun w' hh => key_CmpSpot_l r2 r3 r4 hb6 w' ) ?_
    refine TQ.pure (.bool (decide ((0 : Int) ≤ r4))) (by kernel_rfl) (fun _ => by kernel_rfl) ?_
    refine TQ.pure (.bool (decide ((0 : Int) ≤ r4))) (by kernel_rfl) (fun _ => by kernel_rfl) ?_
    refine TQ.nil ?_
    cases hX1
    exact fun a w' hf hh => ⟨(Fr.sel hf rfl), (hh.sub (dr1 (kp1 kp0)))⟩
   rintro a w' ⟨hf, hh⟩
   refine (?_ : T 55 w V3 (i1_ :: []) [(1, pB b1 0), (27, .slice A1 p0.elems.length c1), (28, vi (p0.elems.length : Int)), (29, vi x1), (53, .bool z1)] _) a w' hf hh
   clear hf hh
   refine T.cond z1 (by kernel_rfl) (by kernel_rfl) (fun hc5 => ?_) (fun hc5 => ?_)
   ·
    rw [hc5, cond_true] at hY1
    refine T.seq (T.region (T.pk (vi 3) (fun _ => by kernel_rfl) (T.nil ?_)))
    cases hY1
    cases (hr1 _ rfl)
    try dsimp only at hF
    cases hF
    refine T.ret rfl ?_
    exact T.ret1 rfl (ResIs.tmp rfl) fun w' hh => ⟨_, rfl, hh.below, (show _ from rfl)⟩
   rw [hc5, cond_false] at hY1
   refine T.skip_code ?_
   refine T.region (T.p2 (vi (IntKind.i64.wrap (x1 + 1))) (vi (IntKind.i64.wrap (x1 + 1))) (fun _ => by kernel_rfl) (T.nil ?_))
   cases hY1
   exact fun a w' hf hh => ⟨(IntKind.i64.wrap (x1 + 1)), rfl, V3, (vt hV1 hV3), (Fr.sel hf rfl), (hh.sub (kp1 kp0))⟩
  rw [hc3, cond_false] at hY1
  refine T.exit ?_
  cases hY1
  cases (hr1 _ rfl)
  exact fun a w' hf hh => ⟨rfl, V1, hV1, (Fr.nil hf), (hh.sub (dr1 kp0))⟩
 rintro a w' ⟨rfl, V2, hV2, hf, hh⟩
 try dsimp only at hF
 refine (?_ : T 55 w V2 [] [] _) a w' hf hh
 clear hf hh
 refine T.seq (T.region (T.pk (vi 0) (fun _ => by kernel_rfl) (T.nil ?_)))
 cases hF
 refine T.ret rfl ?_
 exact T.ret1 rfl (ResIs.tmp rfl) fun w' hh => ⟨_, rfl, hh.below, (show _ from rfl)⟩
set_option maxRecDepth 100000 in
set_option maxHeartbeats 4000000 in
theorem node_inner_l (F : Nat) (p0 : DNode) (r : Int) (hF : node_inner F p0 = some r) (w : World) (A1 : Option Addr) (c1 : Nat) (hs1 : SlOk (vw w) eElem A1 c1 p0.elems) (A2 : Option Addr) (c2 : Nat) (hs2 : SlOk (vw w) eInt A2 c2 p0.kids) (A3 : Option Addr) (c3 : Nat) (hs3 : SlOk (vw w) eSpot A3 c3 p0.seps) (A4 : Option Addr) (c4 : Nat) (hs4 : SlOk (vw w) eInt A4 c4 p0.tids) :
 Calls Try.prog 91 #[.agg #[.int .i64 p0.kind, .slice A1 p0.elems.length c1, .slice A2 p0.kids.length c2, .slice A3 p0.seps.length c3, .slice A4 p0.tids.length c4]] w (Post (vSc eInt) r w) := by
 unfold node_inner at hF
 refine T.start (l := [.agg #[vi p0.kind, .slice A1 p0.elems.length c1, .slice A2 p0.kids.length c2, .slice A3 p0.seps.length c3, .slice A4 p0.tids.length c4]]) Try.func91 rfl rfl rfl ?_
 refine T.seq (T.region ?_)
 let v9_ : List Value := [vi p0.kind, .slice A1 p0.elems.length c1, .slice A2 p0.kids.length c2, .slice A3 p0.seps.length c3, .slice A4 p0.tids.length c4]
 refine T.step (W1.np 97 v9_ (fun _ => by kernel_rfl) (fun b1 => ?_))
 refine T.pk (vi 0) (fun _ => by kernel_rfl) (T.nil (T.seq ?_))
 let i8_ : HObj := box b1 97 v9_
 refine T.cut (fun a w' => Fr 99 [(1, pB b1 0), (37, .bool ((decide ((0 : Int) < (p0.elems.length : Int))) || ((decide ((p0.kids.length : Int) < 2)) || (((p0.seps.length : Int) != (IntKind.i64.wrap ((p0.kids.length : Int) - 1))) || ((p0.tids.length : Int) != (p0.kids.length : Int))))))] a ∧ Hp w (vw w) (i8_ :: []) w') ?_ ?_
 ·
  refine T.region (T.pk (pB b1 1) (fun _ => by kernel_rfl) (T.look (.slice A1 p0.elems.length c1) (by kernel_rfl) (ld1 0 rfl rfl (fun _ => by kernel_rfl) (by rfl) rfl) ?_))
  refine T.p3 (vi (p0.elems.length : Int)) (.bool (decide ((0 : Int) < (p0.elems.length : Int)))) (.bool (decide ((0 : Int) < (p0.elems.length : Int)))) (fun _ => by kernel_rfl) ?_
  cases hg1 : decide ((0 : Int) < (p0.elems.length : Int))
  ·
   skip
   refine T.pk (pB b1 2) (fun _ => by kernel_rfl) (T.look (.slice A2 p0.kids.length c2) (by kernel_rfl) (ld1 0 rfl rfl (fun _ => by kernel_rfl) (by rfl) rfl) ?_)
   refine T.p4 (vi (p0.kids.length : Int)) (.bool (decide ((p0.kids.length : Int) < 2))) (.bool (decide ((p0.kids.length : Int) < 2))) (.bool (decide ((p0.kids.length : Int) < 2))) (fun _ => by kernel_rfl) ?_
   cases hg2 : decide ((p0.kids.length : Int) < 2)
   ·
    skip
    refine T.pk (pB b1 3) (fun _ => by kernel_rfl) (T.look (.slice A3 p0.seps.length c3) (by kernel_rfl) (ld1 0 rfl rfl (fun _ => by kernel_rfl) (by rfl) rfl) ?_)
    refine T.p2 (vi (p0.seps.length : Int)) (pB b1 2) (fun _ => by kernel_rfl) (T.look (.slice A2 p0.kids.length c2) (by kernel_rfl) (ld1 0 rfl rfl (fun _ => by kernel_rfl) (by rfl) rfl) ?_)
    refine T.p5 (vi (p0.kids.length : Int)) (vi (IntKind.i64.wrap ((p0.kids.length : Int) - 1))) (.bool ((p0.seps.length : Int) != (IntKind.i64.wrap ((p0.kids.length : Int) - 1)))) (.bool ((p0.seps.length : Int) != (IntKind.i64.wrap ((p0.kids.length : Int) - 1)))) (.bool ((p0.seps.length : Int) != (IntKind.i64.wrap ((p0.kids.length : Int) - 1)))) (fun _ => by kernel_rfl) ?_
    cases hg3 : ((p0.seps.length : Int) != (IntKind.i64.wrap ((p0.kids.length : Int) - 1)))
    ·
     skip
     refine T.pk (pB b1 4) (fun _ => by kernel_rfl) (T.look (.slice A4 p0.tids.length c4) (by kernel_rfl) (ld1 0 rfl rfl (fun _ => by kernel_rfl) (by rfl) rfl) ?_)
     refine T.p2 (vi (p0.tids.length : Int)) (pB b1 2) (fun _ => by kernel_rfl) (T.look (.slice A2 p0.kids.length c2) (by kernel_rfl) (ld1 0 rfl rfl (fun _ => by kernel_rfl) (by rfl) rfl) ?_)
     refine T.p3 (vi (p0.kids.length : Int)) (.bool ((p0.tids.length : Int) != (p0.kids.length : Int))) (.bool ((p0.tids.length : Int) != (p0.kids.length : Int))) (fun _ => by kernel_rfl) (T.nil ?_)
     exact fun a w' hf hh => ⟨(Fr.sel hf rfl), (hh.sub (kp1 kp0))⟩
    skip
    refine T.pass (by kernel_rfl) (by kernel_rfl) (T.pass (by kernel_rfl) (by kernel_rfl) (T.pass (by kernel_rfl) (by kernel_rfl) (T.pass (by kernel_rfl) (by kernel_rfl) (T.pass (by kernel_rfl) (by kernel_rfl) (T.pass (by kernel_rfl) (by kernel_rfl) (T.pass (by kernel_rfl) (by kernel_rfl) (T.pk (.bool true) (fun _ => by kernel_rfl) (T.nil ?_))))))))
    exact fun a w' hf hh => ⟨(Fr.sel hf rfl), (hh.sub (kp1 kp0))⟩
   skip
   refine T.pass (by kernel_rfl) (by kernel_rfl) (T.pass (by kernel_rfl) (by kernel_rfl) (T.pass (by kernel_rfl) (by kernel_rfl) (T.pass (by kernel_rfl) (by kernel_rfl) (T.pass (by kernel_rfl) (by kernel_rfl) (T.pass (by kernel_rfl) (by kernel_rfl) (T.pass (by kernel_rfl) (by kernel_rfl) (T.pass (by kernel_rfl) (by kernel_rfl) (T.p2 (.bool true) (.bool true) (fun _ => by kernel_rfl) (T.pass (by kernel_rfl) (by kernel_rfl) (T.pass (by kernel_rfl) (by kernel_rfl) (T.pass (by kernel_rfl) (by kernel_rfl) (T.pass (by kernel_rfl) (by kernel_rfl) (T.pass (by kernel_rfl) (by kernel_rfl) (T.pass (by kernel_rfl) (by kernel_rfl) (T.pass (by kernel_rfl) (by kernel_rfl) (T.pk (.bool true) (fun _ => by kernel_rfl) (T.nil ?_)))))))))))))))))
   exact fun a w' hf hh => ⟨(Fr.sel hf rfl), (hh.sub (kp1 kp0))⟩
  skip
  refine T.pass (by kernel_rfl) (by kernel_rfl) (T.pass (by kernel_rfl) (by kernel_rfl) (T.pass (by kernel_rfl) (by kernel_rfl) (T.pass (by kernel_rfl) (by kernel_rfl) (T.p2 (.bool true) (.bool true) (fun _ => by kernel_rfl) (T.pass (by kernel_rfl) (by kernel_rfl) (T.pass (by kernel_rfl) (by kernel_rfl) (T.pass (by kernel_rfl) (by kernel_rfl) (T.pass (by kernel_rfl) (by kernel_rfl) (T.pass (by kernel_rfl) (by kernel_rfl) (T.pass (by kernel_rfl) (by kernel_rfl) (T.pass (by kernel_rfl) (by kernel_rfl) (T.pass (by kernel_rfl) (by kernel_rfl) (T.p2 (.bool true) (.bool true) (fun _ => by kernel_rfl) (T.pass (by kernel_rfl) (by kernel_rfl) (T.pass (by kernel_rfl) (by kernel_rfl) (T.pass (by kernel_rfl) (by kernel_rfl) (T.pass (by kernel_rfl) (by kernel_rfl) (T.pass (by kernel_rfl) (by kernel_rfl) (T.pass (by kernel_rfl) (by kernel_rfl) (T.pass (by kernel_rfl) (by kernel_rfl) (T.pk (.bool true) (fun _ => by kernel_rfl) (T.nil ?_))))))))))))))))))))))
  exact fun a w' hf hh => ⟨(Fr.sel hf rfl), (hh.sub (kp1 kp0))⟩
 rintro a w' ⟨hf, hh⟩
 refine (?_ : T 99 w (vw w) (i8_ :: []) [(1, pB b1 0), (37, .bool ((decide ((0 : Int) < (p0.elems.length : Int))) || ((decide ((p0.kids.length : Int) < 2)) || (((p0.seps.length : Int) != (IntKind.i64.wrap ((p0.kids.length : Int) - 1))) || ((p0.tids.length : Int) != (p0.kids.length : Int))))))] _) a w' hf hh
 clear hf hh
 refine T.cond ((decide ((0 : Int) < (p0.elems.length : Int))) || ((decide ((p0.kids.length : Int) < 2)) || (((p0.seps.length : Int) != (IntKind.i64.wrap ((p0.kids.length : Int) - 1))) || ((p0.tids.length : Int) != (p0.kids.length : Int))))) (by kernel_rfl) (by kernel_rfl) (fun hc1 => ?_) (fun hc1 => ?_)
 ·
  rw [hc1, cond_true] at hF
  refine T.seq (T.region (T.pk (vi 3) (fun _ => by kernel_rfl) (T.nil ?_)))
  cases hF
  refine T.ret rfl ?_
  exact T.ret1 rfl (ResIs.tmp rfl) fun w' hh => ⟨_, rfl, hh.below, (show _ from rfl)⟩
 rw [hc1, cond_false] at hF
 refine T.skip_code ?_
 refine T.seq (T.seq (T.region (T.pk (pB b1 2) (fun _ => by kernel_rfl) (T.look (.slice A2 p0.kids.length c2) (by kernel_rfl) (ld1 0 rfl rfl (fun _ => by kernel_rfl) (by rfl) rfl) ?_))))
 refine T.p2 (vi (p0.kids.length : Int)) (.bool (decide ((8 : Int) < (p0.kids.length : Int)))) (fun _ => by kernel_rfl) (T.nil ?_)
 refine T.cond (decide ((8 : Int) < (p0.kids.length : Int))) (by kernel_rfl) (by kernel_rfl) (fun hc2 => ?_) (fun hc2 => ?_)
 ·
  rw [hc2, cond_true] at hF
  refine T.seq (T.region (T.pk (vi 2) (fun _ => by kernel_rfl) (T.nil ?_)))
  cases hF
  refine T.ret rfl ?_
  exact T.ret1 rfl (ResIs.tmp rfl) fun w' hh => ⟨_, rfl, hh.below, (show _ from rfl)⟩
 rw [hc2, cond_false] at hF
 refine T.skip_code ?_
 refine T.seq (T.seq (T.region (T.pk (pB b1 2) (fun _ => by kernel_rfl) (T.look (.slice A2 p0.kids.length c2) (by kernel_rfl) (ld1 0 rfl rfl (fun _ => by kernel_rfl) (by rfl) rfl) ?_))))
 refine T.p2 (vi (p0.kids.length : Int)) (vi 0) (fun _ => by kernel_rfl) (T.nil ?_)
 obtain ⟨q1, hz1, hF⟩ := ob hF
 refine T.mid (fun a w' => q1 = Sum.inl () ∧ Fr 99 [(1, pB b1 0)] a ∧ Hp w (vw w) (i8_ :: []) w') ?_ ?_
 ·
  refine T.block ?_
  refine T.iter (fun x1 a w' => Fr 99 [(1, pB b1 0), (43, .slice A2 p0.kids.length c2), (44, vi (p0.kids.length : Int)), (45, vi x1)] a ∧ Hp w (vw w) (i8_ :: []) w') hz1 ?_ ?_
  ·
   exact fun a w' hf hh => ⟨(Fr.sel hf rfl), (hh.sub (kp1 kp0))⟩
  rintro x1 y1 hY1 hr1 a w' ⟨hf, hh⟩
  refine (?_ : T 99 w (vw w) (i8_ :: []) [(1, pB b1 0), (43, .slice A2 p0.kids.length c2), (44, vi (p0.kids.length : Int)), (45, vi x1)] _) a w' hf hh
  clear hf hh
  try dsimp only at hY1
  refine T.seq (T.region (T.pk (.bool (decide (x1 < (p0.kids.length : Int)))) (fun _ => by kernel_rfl) (T.nil (T.seq ?_))))
  refine T.cond (decide (x1 < (p0.kids.length : Int))) (by kernel_rfl) (by kernel_rfl) (fun hc3 => ?_) (fun hc3 => ?_)
  ·
   rw [hc3, cond_true] at hY1
   refine T.skip_code ?_
   refine T.seq (T.block (T.seq (T.region (T.pk (vi x1) (fun _ => by kernel_rfl) ?_))))
   obtain ⟨e1, hb1, hY1⟩ := ob hY1
   obtain ⟨hi1, hi2, hi3⟩ := idx_some hb1
   refine T.look (.pointer (some ((sadr A2).add (x1.toNat * 1)))) (by kernel_rfl) (fun w' hh => exec_indexAddr (e := 3) (s := 1) rfl rfl rfl (by kernel_rfl) (by kernel_rfl) hi1 hi2 (hs2.some_ hi3 (by decide))) ?_
   refine T.look (vi e1) (by kernel_rfl) (fun w' hh => exec_load1 rfl rfl (by kernel_rfl) (hh.cell_view (SlOk.cellF0 (E := eInt) hs2 hi3 (fun _ _ _ h => h) rfl))) ?_
   refine T.p2 (vi x1) (vi e1) (fun _ => by kernel_rfl) (T.nil (T.seq ?_))
   refine T.cut (fun a w' => Fr 99 [(1, pB b1 0), (3, vi x1), (43, .slice A2 p0.kids.length c2), (44, vi (p0.kids.length : Int)), (45, vi x1), (55, .bool ((decide (e1 < 0)) || (decide ((400 : Int) ≤ e1))))] a ∧ Hp w (vw w) (i8_ :: []) w') ?_ ?_
   ·
    refine T.region (T.p3 (vi e1) (.bool (decide (e1 < 0))) (.bool (decide (e1 < 0))) (fun _ => by kernel_rfl) ?_)
    cases hg4 : decide (e1 < 0)
    ·
     skip
     refine T.p3 (vi e1) (.bool (decide ((400 : Int) ≤ e1))) (.bool (decide ((400 : Int) ≤ e1))) (fun _ => by kernel_rfl) (T.nil ?_)
     exact fun a w' hf hh => ⟨(Fr.sel hf rfl), (hh.sub (kp1 kp0))⟩
    skip
    refine T.pass (by kernel_rfl) (by kernel_rfl) (T.pass (by kernel_rfl) (by kernel_rfl) (T.pk (.bool true) (fun _ => by kernel_rfl) (T.nil ?_)))
    exact fun a w' hf hh => ⟨(Fr.sel hf rfl), (hh.sub (kp1 kp0))⟩
   rintro a w' ⟨hf, hh⟩
   refine (?_ : T 99 w (vw w) (i8_ :: []) [(1, pB b1 0), (3, vi x1), (43, .slice A2 p0.kids.length c2), (44, vi (p0.kids.length : Int)), (45, vi x1), (55, .bool ((decide (e1 < 0)) || (decide ((400 : Int) ≤ e1))))] _) a w' hf hh
   clear hf hh
   refine T.cond ((decide (e1 < 0)) || (decide ((400 : Int) ≤ e1))) (by kernel_rfl) (by kernel_rfl) (fun hc4 => ?_) (fun hc4 => ?_)
   ·
    rw [hc4, cond_true] at hY1
    refine T.seq (T.region (T.pk (vi 1) (fun _ => by kernel_rfl) (T.nil ?_)))
    cases hY1
    cases (hr1 _ rfl)
    try dsimp only at hF
    cases hF
    refine T.ret rfl ?_
    exact T.ret1 rfl (ResIs.tmp rfl) fun w' hh => ⟨_, rfl, hh.below, (show _ from rfl)⟩
   rw [hc4, cond_false] at hY1
   refine T.skip_code ?_
   refine T.seq (T.region (T.pk (pB b1 4) (fun _ => by kernel_rfl) (T.look (.slice A4 p0.tids.length c4) (by kernel_rfl) (ld1 0 rfl rfl (fun _ => by kernel_rfl) (by rfl) rfl) ?_)))
   refine T.pk (vi x1) (fun _ => by kernel_rfl) ?_
   obtain ⟨e2, hb2, hY1⟩ := ob hY1
   obtain ⟨hi4, hi5, hi6⟩ := idx_some hb2
   refine T.look (.pointer (some ((sadr A4).add (x1.toNat * 1)))) (by kernel_rfl) (fun w' hh => exec_indexAddr (e := 3) (s := 1) rfl rfl rfl (by kernel_rfl) (by kernel_rfl) hi4 hi5 (hs4.some_ hi6 (by decide))) ?_
   refine T.look (vi e2) (by kernel_rfl) (fun w' hh => exec_load1 rfl rfl (by kernel_rfl) (hh.cell_view (SlOk.cellF0 (E := eInt) hs4 hi6 (fun _ _ _ h => h) rfl))) ?_
   refine T.pk (vi e2) (fun _ => by kernel_rfl) (T.nil ?_)
   refine T.cut (fun a w' => Fr 99 [(1, pB b1 0), (43, .slice A2 p0.kids.length c2), (44, vi (p0.kids.length : Int)), (45, vi x1), (66, .bool ((decide (e2 < 0)) || (decide ((2147483647 : Int) < e2))))] a ∧ Hp w (vw w) (i8_ :: []) w') ?_ ?_
   ·
    refine T.region (T.p3 (vi e2) (.bool (decide (e2 < 0))) (.bool (decide (e2 < 0))) (fun _ => by kernel_rfl) ?_)
    cases hg5 : decide (e2 < 0)
    ·
     skip
     refine T.p3 (vi e2) (.bool (decide ((2147483647 : Int) < e2))) (.bool (decide ((2147483647 : Int) < e2))) (fun _ => by kernel_rfl) (T.nil ?_)
     exact fun a w' hf hh => ⟨(Fr.sel hf rfl), (hh.sub (kp1 kp0))⟩
    skip
    refine T.pass (by kernel_rfl) (by kernel_rfl) (T.pass (by kernel_rfl) (by kernel_rfl) (T.pk (.bool true) (fun _ => by kernel_rfl) (T.nil ?_)))
    exact fun a w' hf hh => ⟨(Fr.sel hf rfl), (hh.sub (kp1 kp0))⟩
   rintro a w' ⟨hf, hh⟩
   refine (?_ : T 99 w (vw w) (i8_ :: []) [(1, pB b1 0), (43, .slice A2 p0.kids.length c2), (44, vi (p0.kids.length : Int)), (45, vi x1), (66, .bool ((decide (e2 < 0)) || (decide ((2147483647 : Int) < e2))))] _) a w' hf hh
   clear hf hh
   refine T.cond ((decide (e2 < 0)) || (decide ((2147483647 : Int) < e2))) (by kernel_rfl) (by kernel_rfl) (fun hc5 => ?_) (fun hc5 => ?_)
   ·
    rw [hc5, cond_true] at hY1
    refine T.seq (T.region (T.pk (vi 9) (fun _ => by kernel_rfl) (T.nil ?_)))
    cases hY1
    cases (hr1 _ rfl)
    try dsimp only at hF
    cases hF
    refine T.ret rfl ?_
    exact T.ret1 rfl (ResIs.tmp rfl) fun w' hh => ⟨_, rfl, hh.below, (show _ from rfl)⟩
   rw [hc5, cond_false] at hY1
   refine T.skip_code ?_
   refine T.region (T.p2 (vi (IntKind.i64.wrap (x1 + 1))) (vi (IntKind.i64.wrap (x1 + 1))) (fun _ => by kernel_rfl) (T.nil ?_))
   cases hY1
   exact fun a w' hf hh => ⟨(IntKind.i64.wrap (x1 + 1)), rfl, (Fr.sel hf rfl), (hh.sub (kp1 kp0))⟩
  rw [hc3, cond_false] at hY1
  refine T.exit ?_
  cases hY1
  cases (hr1 _ rfl)
  exact fun a w' hf hh => ⟨rfl, (Fr.sel hf rfl), (hh.sub (kp1 kp0))⟩
 rintro a w' ⟨rfl, hf, hh⟩
 try dsimp only at hF
 refine (?_ : T 99 w (vw w) (i8_ :: []) [(1, pB b1 0)] _) a w' hf hh
 clear hf hh
 refine T.seq (T.seq (T.region (T.pk (pB b1 3) (fun _ => by kernel_rfl) (T.look (.slice A3 p0.seps.length c3) (by kernel_rfl) (ld1 0 rfl rfl (fun _ => by kernel_rfl) (by rfl) rfl) ?_))))
 refine T.p2 (vi (p0.seps.length : Int)) (vi 0) (fun _ => by kernel_rfl) (T.nil ?_)
 obtain ⟨q2, hz2, hF⟩ := ob hF
 refine T.mid (fun a w' => q2 = Sum.inl () ∧ ∃ (V2 : View), View.le (vw w) V2 ∧ Fr 99 [] a ∧ Hp w V2 [] w') ?_ ?_
 ·
  refine T.block ?_
  refine T.iter (fun x2 a w' => ∃ (V1 : View), View.le (vw w) V1 ∧ Fr 99 [(1, pB b1 0), (69, .slice A3 p0.seps.length c3), (70, vi (p0.seps.length : Int)), (71, vi x2)] a ∧ Hp w V1 (i8_ :: []) w') hz2 ?_ ?_
  ·
   exact fun a w' hf hh => ⟨(vw w), vr, (Fr.sel hf rfl), (hh.sub (kp1 kp0))⟩
  rintro x2 y2 hY2 hr2 a w' ⟨V1, hV1, hf, hh⟩
  refine (?_ : T 99 w V1 (i8_ :: []) [(1, pB b1 0), (69, .slice A3 p0.seps.length c3), (70, vi (p0.seps.length : Int)), (71, vi x2)] _) a w' hf hh
  clear hf hh
  try dsimp only at hY2
  refine T.seq (T.region (T.pk (.bool (decide (x2 < (p0.seps.length : Int)))) (fun _ => by kernel_rfl) (T.nil (T.seq ?_))))
  refine T.cond (decide (x2 < (p0.seps.length : Int))) (by kernel_rfl) (by kernel_rfl) (fun hc6 => ?_) (fun hc6 => ?_)
  ·
   rw [hc6, cond_true] at hY2
   refine T.skip_code ?_
   refine T.seq (T.block (T.seq (T.region (T.pk (vi x2) (fun _ => by kernel_rfl) ?_))))
   obtain ⟨e3, hb3, hY2⟩ := ob hY2
   obtain ⟨hi7, hi8, hi9⟩ := idx_some hb3
   refine T.look (.pointer (some ((sadr A3).add (x2.toNat * 4)))) (by kernel_rfl) (fun w' hh => exec_indexAddr (e := 43) (s := 4) rfl rfl rfl (by kernel_rfl) (by kernel_rfl) hi7 hi8 ((SlOk.mono hs3 hV1).some_ hi9 (by decide))) ?_
   let v10_ : List Value := [vi e3.key.pfs, vi e3.key.obj, vi e3.key.off, vi e3.made]
   let a11_ : Value := .agg #[vi e3.key.pfs, vi e3.key.obj, vi e3.key.off, vi e3.made]
   refine T.look a11_ (by kernel_rfl) (fun w' hh => exec_loadN (cs := v10_) rfl rfl (by kernel_rfl) (by kernel_rfl) (fun j u hj => (hh.cell_view (SlOk.cellF (E := eSpot) (SlOk.mono hs3 hV1) hi9 j (fun _ _ _ h => h) hj)))) ?_
   refine T.step (W1.np 43 [vi 0, vi 0, vi 0, vi 0] (fun _ => by kernel_rfl) (fun b2 => ?_))
   refine T.pk (vi x2) (fun _ => by kernel_rfl) (T.step (W1.st 0 v10_ ((box b2 43 v10_) :: i8_ :: []) v10_ (by rfl) rfl rfl rfl rfl rfl rfl (fun _ => by kernel_rfl) ?_))
   refine T.nil (T.seq (T.seq (T.region (T.pk (pB b2 0) (fun _ => by kernel_rfl) (T.look (.agg #[vi e3.key.pfs, vi e3.key.obj, vi e3.key.off]) (by kernel_rfl) (ldN 0 rfl rfl (fun _ => by kernel_rfl) (by rfl) rfl) ?_)))))
   refine T.pk (pB b2 3) (fun _ => by kernel_rfl) (T.look (vi e3.made) (by kernel_rfl) (ld1 0 rfl rfl (fun _ => by kernel_rfl) (by rfl) rfl) ?_)
   let a12_ : Value := .agg #[vi e3.key.pfs, vi e3.key.obj, vi e3.key.off, vi e3.made, vi 0, .string (ByteArray.mk #[])]
   refine T.pk a12_ (fun _ => by kernel_rfl) ?_
   obtain ⟨r1, hb4, hY2⟩ := ob hY2
   refine T.step (W1.call (vSc eInt) r1 20 #[a12_] (by kernel_rfl) (fun _ => by kernel_rfl) (fun w' hh => elem_Check_l (DElem.mk e3.key e3.made 0 (ByteArray.mk #[])) r1 hb4 w' ) ?_)
   intro u V3 hV3 hu
   obtain rfl := sureInt _ _ _ hu
   refine T.pk (vi r1) (fun _ => by kernel_rfl) (T.nil (T.seq (T.region (T.p2 (vi r1) (.bool (r1 != 0)) (fun _ => by kernel_rfl) (T.nil ?_)))))
   refine T.cond (r1 != 0) (by kernel_rfl) (by kernel_rfl) (fun hc7 => ?_) (fun hc7 => ?_)
   ·
    rw [hc7, cond_true] at hY2
    refine T.seq (T.region (T.p2 (vi r1) (vi r1) (fun _ => by kernel_rfl) (T.nil ?_)))
    cases hY2
    cases (hr2 _ rfl)
    try dsimp only at hF
    cases hF
    refine T.ret rfl ?_
    exact T.ret1 rfl (ResIs.tmp rfl) fun w' hh => ⟨_, rfl, hh.below, (show _ from rfl)⟩
   rw [hc7, cond_false] at hY2
   refine T.skip_code ?_
   obtain ⟨z1, hX1, hY2⟩ := ob hY2
   refine T.cut (fun a w' => Fr 99 [(1, pB b1 0), (69, .slice A3 p0.seps.length c3), (70, vi (p0.seps.length : Int)), (71, vi x2), (97, .bool z1)] a ∧ Hp w V3 (i8_ :: []) w') ?_ ?_
   ·
    refine T.quiet (by kernel_rfl) (by kernel_rfl) ?_
    refine TQ.pure (vi x2) (by kernel_rfl) (fun _ => by kernel_rfl) ?_
    refine TQ.pure (.bool (decide ((0 : Int) < x2))) (by kernel_rfl) (fun _ => by kernel_rfl) ?_
    refine TQ.pure (.bool (decide ((0 : Int) < x2))) (by kernel_rfl) (fun _ => by kernel_rfl) ?_
    cases hg6 : decide ((0 : Int) < x2)
    ·
     skip
     rw [hg6, cond_false] at hX1
     refine TQ.pass (by kernel_rfl) (by kernel_rfl) ?_
     refine TQ.pass (by kernel_rfl) (by kernel_rfl) ?_
     refine TQ.pass (by kernel_rfl) (by kernel_rfl) ?_
     refine TQ.pass (by kernel_rfl) (by kernel_rfl) ?_
     refine TQ.pass (by kernel_rfl) (by kernel_rfl) ?_
     refine TQ.pass (by kernel_rfl) (by kernel_rfl) ?_
     refine TQ.pass (by kernel_rfl) (by kernel_rfl) ?_
     refine TQ.pass (by kernel_rfl) (by kernel_rfl) ?_
     refine TQ.pass (by kernel_rfl) (by kernel_rfl) ?_
     refine TQ.pure (.bool false) (by kernel_rfl) (fun _ => by kernel_rfl) ?_
     refine TQ.nil ?_
     cases hX1
     exact fun a w' hf hh => ⟨(Fr.sel hf rfl), (hh.sub (dr1 (kp1 kp0)))⟩
    skip
    rw [hg6, cond_true] at hX1
    refine TQ.pure (pB b1 3) (by kernel_rfl) (fun _ => by kernel_rfl) ?_
    refine TQ.look (.slice A3 p0.seps.length c3) (by kernel_rfl) (ld1 1 rfl rfl (fun _ => by kernel_rfl) (by rfl) rfl) ?_
    refine TQ.pure (vi x2) (by kernel_rfl) (fun _ => by kernel_rfl) ?_
    refine TQ.pure (vi (IntKind.i64.wrap (x2 - 1))) (by kernel_rfl) (fun _ => by kernel_rfl) ?_
    obtain ⟨e4, hb5, hX1⟩ := ob hX1
    obtain ⟨hi10, hi11, hi12⟩ := idx_some hb5
    refine TQ.look (.pointer (some ((sadr A3).add (((IntKind.i64.wrap (x2 - 1)).toNat) * 4)))) (by kernel_rfl) (fun w' hh => exec_indexAddr (e := 43) (s := 4) rfl rfl rfl (by kernel_rfl) (by kernel_rfl) hi10 hi11 ((SlOk.mono hs3 (vt hV1 hV3)).some_ hi12 (by decide))) ?_
    let a13_ : Value := .agg #[vi e4.key.pfs, vi e4.key.obj, vi e4.key.off, vi e4.made]
    refine TQ.look a13_ (by kernel_rfl) (fun w' hh => exec_loadN (cs := [vi e4.key.pfs, vi e4.key.obj, vi e4.key.off, vi e4.made]) rfl rfl (by kernel_rfl) (by kernel_rfl) (fun j u hj => (hh.cell_view (SlOk.cellF (E := eSpot) (SlOk.mono hs3 (vt hV1 hV3)) hi12 j (fun _ _ _ h => h) hj)))) ?_
    refine TQ.look a11_ (by kernel_rfl) (ldN 0 rfl rfl (fun _ => by kernel_rfl) (by rfl) rfl) ?_
    obtain ⟨r2, hb6, hX1⟩ := ob hX1
    refine TQ.call (vSc eInt) r2 62 #[a13_, a11_] (vi r2) (fun V u hu => sureInt V u _ hu) (by kernel_rfl) (fun _ => by kernel_rfl) (fun w' hh => key_CmpSpot_l e4 e3 r2 hb6 w' ) ?_
    refine TQ.pure (.bool (decide ((0 : Int) ≤ r2))) (by kernel_rfl) (fun _ => by kernel_rfl) ?_
    refine TQ.pure (.bool (decide ((0 : Int) ≤ r2))) (by kernel_rfl) (fun _ => by kernel_rfl) ?_
    refine TQ.nil ?_
    cases hX1
    exact fun a w' hf hh => ⟨(Fr.sel hf rfl), (hh.sub (dr1 (kp1 kp0)))⟩
   rintro a w' ⟨hf, hh⟩
   refine (?_ : T 99 w V3 (i8_ :: []) [(1, pB b1 0), (69, .slice A3 p0.seps.length c3), (70, vi (p0.seps.length : Int)), (71, vi x2), (97, .bool z1)] _) a w' hf hh
   clear hf hh
   refine T.cond z1 (by kernel_rfl) (by kernel_rfl) (fun hc8 => ?_) (fun hc8 => ?_)
   ·
    rw [hc8, cond_true] at hY2
    refine T.seq (T.region (T.pk (vi 3) (fun _ => by kernel_rfl) (T.nil ?_)))
    cases hY2
    cases (hr2 _ rfl)
    try dsimp only at hF
    cases hF
    refine T.ret rfl ?_
    exact T.ret1 rfl (ResIs.tmp rfl) fun w' hh => ⟨_, rfl, hh.below, (show _ from rfl)⟩
   rw [hc8, cond_false] at hY2
   refine T.skip_code ?_
   refine T.region (T.p2 (vi (IntKind.i64.wrap (x2 + 1))) (vi (IntKind.i64.wrap (x2 + 1))) (fun _ => by kernel_rfl) (T.nil ?_))
   cases hY2
   exact fun a w' hf hh => ⟨(IntKind.i64.wrap (x2 + 1)), rfl, V3, (vt hV1 hV3), (Fr.sel hf rfl), (hh.sub (kp1 kp0))⟩
  rw [hc6, cond_false] at hY2
  refine T.exit ?_
  cases hY2
  cases (hr2 _ rfl)
  exact fun a w' hf hh => ⟨rfl, V1, hV1, (Fr.nil hf), (hh.sub (dr1 kp0))⟩
 rintro a w' ⟨rfl, V2, hV2, hf, hh⟩
 try dsimp only at hF
 refine (?_ : T 99 w V2 [] [] _) a w' hf hh
 clear hf hh
 refine T.seq (T.region (T.pk (vi 0) (fun _ => by kernel_rfl) (T.nil ?_)))
 cases hF
 refine T.ret rfl ?_
 exact T.ret1 rfl (ResIs.tmp rfl) fun w' hh => ⟨_, rfl, hh.below, (show _ from rfl)⟩
set_option maxRecDepth 100000 in
set_option maxHeartbeats 4000000 in
theorem node_Check_l (F : Nat) (p0 : DNode) (r : Int) (hF : node_Check F p0 = some r) (w : World) (A1 : Option Addr) (c1 : Nat) (hs1 : SlOk (vw w) eElem A1 c1 p0.elems) (A2 : Option Addr) (c2 : Nat) (hs2 : SlOk (vw w) eInt A2 c2 p0.kids) (A3 : Option Addr) (c3 : Nat) (hs3 : SlOk (vw w) eSpot A3 c3 p0.seps) (A4 : Option Addr) (c4 : Nat) (hs4 : SlOk (vw w) eInt A4 c4 p0.tids) :
 Calls Try.prog 73 #[.agg #[.int .i64 p0.kind, .slice A1 p0.elems.length c1, .slice A2 p0.kids.length c2, .slice A3 p0.seps.length c3, .slice A4 p0.tids.length c4]] w (Post (vSc eInt) r w) := by
 unfold node_Check at hF
 let a15_ : Value := .agg #[vi p0.kind, .slice A1 p0.elems.length c1, .slice A2 p0.kids.length c2, .slice A3 p0.seps.length c3, .slice A4 p0.tids.length c4]
 refine T.start (l := [a15_]) Try.func73 rfl rfl rfl ?_
 refine T.seq (T.region ?_)
 let v14_ : List Value := [vi p0.kind, .slice A1 p0.elems.length c1, .slice A2 p0.kids.length c2, .slice A3 p0.seps.length c3, .slice A4 p0.tids.length c4]
 refine T.step (W1.np 97 v14_ (fun _ => by kernel_rfl) (fun b1 => ?_))
 refine T.pk (vi 0) (fun _ => by kernel_rfl) (T.nil (T.seq (T.seq (T.region (T.pk (pB b1 0) (fun _ => by kernel_rfl) (T.look (vi p0.kind) (by kernel_rfl) (ld1 0 rfl rfl (fun _ => by kernel_rfl) (by rfl) rfl) ?_))))))
 refine T.nil (T.block (T.seq (T.region (T.p2 (.bool (p0.kind == 0)) (.bool (p0.kind == 0)) (fun _ => by kernel_rfl) (T.nil ?_)))))
 refine T.cond (p0.kind == 0) (by kernel_rfl) (by kernel_rfl) (fun hc1 => ?_) (fun hc1 => ?_)
 ·
  rw [hc1, cond_true] at hF
  refine T.seq ?_
  refine T.cut (fun a w' => Fr 37 [(28, .bool ((decide ((0 : Int) < (p0.elems.length : Int))) || ((decide ((0 : Int) < (p0.kids.length : Int))) || ((decide ((0 : Int) < (p0.seps.length : Int))) || (decide ((0 : Int) < (p0.tids.length : Int)))))))] a ∧ Hp w (vw w) [] w') ?_ ?_
  ·
   refine T.region (T.pk (pB b1 1) (fun _ => by kernel_rfl) (T.look (.slice A1 p0.elems.length c1) (by kernel_rfl) (ld1 0 rfl rfl (fun _ => by kernel_rfl) (by rfl) rfl) ?_))
   refine T.p3 (vi (p0.elems.length : Int)) (.bool (decide ((0 : Int) < (p0.elems.length : Int)))) (.bool (decide ((0 : Int) < (p0.elems.length : Int)))) (fun _ => by kernel_rfl) ?_
   cases hg1 : decide ((0 : Int) < (p0.elems.length : Int))
   ·
    skip
    refine T.pk (pB b1 2) (fun _ => by kernel_rfl) (T.look (.slice A2 p0.kids.length c2) (by kernel_rfl) (ld1 0 rfl rfl (fun _ => by kernel_rfl) (by rfl) rfl) ?_)
    refine T.p4 (vi (p0.kids.length : Int)) (.bool (decide ((0 : Int) < (p0.kids.length : Int)))) (.bool (decide ((0 : Int) < (p0.kids.length : Int)))) (.bool (decide ((0 : Int) < (p0.kids.length : Int)))) (fun _ => by kernel_rfl) ?_
    cases hg2 : decide ((0 : Int) < (p0.kids.length : Int))
    ·
     skip
     refine T.pk (pB b1 3) (fun _ => by kernel_rfl) (T.look (.slice A3 p0.seps.length c3) (by kernel_rfl) (ld1 0 rfl rfl (fun _ => by kernel_rfl) (by rfl) rfl) ?_)
     refine T.p4 (vi (p0.seps.length : Int)) (.bool (decide ((0 : Int) < (p0.seps.length : Int)))) (.bool (decide ((0 : Int) < (p0.seps.length : Int)))) (.bool (decide ((0 : Int) < (p0.seps.length : Int)))) (fun _ => by kernel_rfl) ?_
     cases hg3 : decide ((0 : Int) < (p0.seps.length : Int))
     ·
      skip
      refine T.pk (pB b1 4) (fun _ => by kernel_rfl) (T.look (.slice A4 p0.tids.length c4) (by kernel_rfl) (ld1 0 rfl rfl (fun _ => by kernel_rfl) (by rfl) rfl) ?_)
      refine T.p3 (vi (p0.tids.length : Int)) (.bool (decide ((0 : Int) < (p0.tids.length : Int)))) (.bool (decide ((0 : Int) < (p0.tids.length : Int)))) (fun _ => by kernel_rfl) (T.nil ?_)
      exact fun a w' hf hh => ⟨(Fr.sel hf rfl), (hh.sub (dr1 kp0))⟩
     skip
     refine T.pass (by kernel_rfl) (by kernel_rfl) (T.pass (by kernel_rfl) (by kernel_rfl) (T.pass (by kernel_rfl) (by kernel_rfl) (T.pass (by kernel_rfl) (by kernel_rfl) (T.pk (.bool true) (fun _ => by kernel_rfl) (T.nil ?_)))))
     exact fun a w' hf hh => ⟨(Fr.sel hf rfl), (hh.sub (dr1 kp0))⟩
    skip
    refine T.pass (by kernel_rfl) (by kernel_rfl) (T.pass (by kernel_rfl) (by kernel_rfl) (T.pass (by kernel_rfl) (by kernel_rfl) (T.pass (by kernel_rfl) (by kernel_rfl) (T.p2 (.bool true) (.bool true) (fun _ => by kernel_rfl) (T.pass (by kernel_rfl) (by kernel_rfl) (T.pass (by kernel_rfl) (by kernel_rfl) (T.pass (by kernel_rfl) (by kernel_rfl) (T.pass (by kernel_rfl) (by kernel_rfl) (T.pk (.bool true) (fun _ => by kernel_rfl) (T.nil ?_))))))))))
    exact fun a w' hf hh => ⟨(Fr.sel hf rfl), (hh.sub (dr1 kp0))⟩
   skip
   refine T.pass (by kernel_rfl) (by kernel_rfl) (T.pass (by kernel_rfl) (by kernel_rfl) (T.pass (by kernel_rfl) (by kernel_rfl) (T.pass (by kernel_rfl) (by kernel_rfl) (T.p2 (.bool true) (.bool true) (fun _ => by kernel_rfl) (T.pass (by kernel_rfl) (by kernel_rfl) (T.pass (by kernel_rfl) (by kernel_rfl) (T.pass (by kernel_rfl) (by kernel_rfl) (T.pass (by kernel_rfl) (by kernel_rfl) (T.p2 (.bool true) (.bool true) (fun _ => by kernel_rfl) (T.pass (by kernel_rfl) (by kernel_rfl) (T.pass (by kernel_rfl) (by kernel_rfl) (T.pass (by kernel_rfl) (by kernel_rfl) (T.pass (by kernel_rfl) (by kernel_rfl) (T.pk (.bool true) (fun _ => by kernel_rfl) (T.nil ?_)))))))))))))))
   exact fun a w' hf hh => ⟨(Fr.sel hf rfl), (hh.sub (dr1 kp0))⟩
  rintro a w' ⟨hf, hh⟩
  refine (?_ : T 37 w (vw w) [] [(28, .bool ((decide ((0 : Int) < (p0.elems.length : Int))) || ((decide ((0 : Int) < (p0.kids.length : Int))) || ((decide ((0 : Int) < (p0.seps.length : Int))) || (decide ((0 : Int) < (p0.tids.length : Int)))))))] _) a w' hf hh
  clear hf hh
  refine T.cond ((decide ((0 : Int) < (p0.elems.length : Int))) || ((decide ((0 : Int) < (p0.kids.length : Int))) || ((decide ((0 : Int) < (p0.seps.length : Int))) || (decide ((0 : Int) < (p0.tids.length : Int)))))) (by kernel_rfl) (by kernel_rfl) (fun hc2 => ?_) (fun hc2 => ?_)
  ·
   rw [hc2, cond_true] at hF
   refine T.seq (T.region (T.pk (vi 3) (fun _ => by kernel_rfl) (T.nil ?_)))
   cases hF
   refine T.ret rfl ?_
   exact T.ret1 rfl (ResIs.tmp rfl) fun w' hh => ⟨_, rfl, hh.below, (show _ from rfl)⟩
  rw [hc2, cond_false] at hF
  refine T.skip_code ?_
  refine T.seq (T.region (T.pk (vi 0) (fun _ => by kernel_rfl) (T.nil ?_)))
  cases hF
  refine T.ret rfl ?_
  exact T.ret1 rfl (ResIs.tmp rfl) fun w' hh => ⟨_, rfl, hh.below, (show _ from rfl)⟩
 rw [hc1, cond_false] at hF
 refine T.seq (T.region (T.p2 (.bool (p0.kind == 1)) (.bool (p0.kind == 1)) (fun _ => by kernel_rfl) (T.nil ?_)))
 refine T.cond (p0.kind == 1) (by kernel_rfl) (by kernel_rfl) (fun hc3 => ?_) (fun hc3 => ?_)
 ·
  rw [hc3, cond_true] at hF
  refine T.seq (T.region (T.look a15_ (by kernel_rfl) (ldN 0 rfl rfl (fun _ => by kernel_rfl) (by rfl) rfl) ?_))
  obtain ⟨r1, hb1, hF⟩ := ob hF
  refine T.step (W1.call (vSc eInt) r1 90 #[a15_] (by kernel_rfl) (fun _ => by kernel_rfl) (fun w' hh => node_leaf_l F p0 r1 hb1 w' A1 c1 (SlOk.mono hs1 hh.view) A2 c2 (SlOk.mono hs2 hh.view) A3 c3 (SlOk.mono hs3 hh.view) A4 c4 (SlOk.mono hs4 hh.view)) ?_)
  intro u V1 hV1 hu
  obtain rfl := sureInt _ _ _ hu
  refine T.pk (vi r1) (fun _ => by kernel_rfl) (T.nil ?_)
  cases hF
  refine T.ret rfl ?_
  exact T.ret1 rfl (ResIs.tmp rfl) fun w' hh => ⟨_, rfl, hh.below, (show _ from rfl)⟩
 rw [hc3, cond_false] at hF
 refine T.seq (T.region (T.p2 (.bool (p0.kind == 2)) (.bool (p0.kind == 2)) (fun _ => by kernel_rfl) (T.nil ?_)))
 refine T.cond (p0.kind == 2) (by kernel_rfl) (by kernel_rfl) (fun hc4 => ?_) (fun hc4 => ?_)
 ·
  rw [hc4, cond_true] at hF
  refine T.seq (T.region (T.look a15_ (by kernel_rfl) (ldN 0 rfl rfl (fun _ => by kernel_rfl) (by rfl) rfl) ?_))
  obtain ⟨r2, hb2, hF⟩ := ob hF
  refine T.step (W1.call (vSc eInt) r2 91 #[a15_] (by kernel_rfl) (fun _ => by kernel_rfl) (fun w' hh => node_inner_l F p0 r2 hb2 w' A1 c1 (SlOk.mono hs1 hh.view) A2 c2 (SlOk.mono hs2 hh.view) A3 c3 (SlOk.mono hs3 hh.view) A4 c4 (SlOk.mono hs4 hh.view)) ?_)
  intro u V2 hV2 hu
  obtain rfl := sureInt _ _ _ hu
  refine T.pk (vi r2) (fun _ => by kernel_rfl) (T.nil ?_)
  cases hF
  refine T.ret rfl ?_
  exact T.ret1 rfl (ResIs.tmp rfl) fun w' hh => ⟨_, rfl, hh.below, (show _ from rfl)⟩
 rw [hc4, cond_false] at hF
 refine T.skip_code ?_
 refine T.seq (T.region (T.pk (vi 3) (fun _ => by kernel_rfl) (T.nil ?_)))
 cases hF
 refine T.ret rfl ?_
 exact T.ret1 rfl (ResIs.tmp rfl) fun w' hh => ⟨_, rfl, hh.below, (show _ from rfl)⟩
set_option maxRecDepth 100000 in
set_option maxHeartbeats 4000000 in
theorem node_Greatest_l (F : Nat) (p0 : DNode) (r : Int) (hF : node_Greatest F p0 = some r) (w : World) (A1 : Option Addr) (c1 : Nat) (hs1 : SlOk (vw w) eElem A1 c1 p0.elems) (A2 : Option Addr) (c2 : Nat) (hs2 : SlOk (vw w) eInt A2 c2 p0.kids) (A3 : Option Addr) (c3 : Nat) (hs3 : SlOk (vw w) eSpot A3 c3 p0.seps) (A4 : Option Addr) (c4 : Nat) (hs4 : SlOk (vw w) eInt A4 c4 p0.tids) :
 Calls Try.prog 60 #[.agg #[.int .i64 p0.kind, .slice A1 p0.elems.length c1, .slice A2 p0.kids.length c2, .slice A3 p0.seps.length c3, .slice A4 p0.tids.length c4]] w (Post (vSc eInt) r w) := by
 unfold node_Greatest at hF
 refine T.start (l := [.agg #[vi p0.kind, .slice A1 p0.elems.length c1, .slice A2 p0.kids.length c2, .slice A3 p0.seps.length c3, .slice A4 p0.tids.length c4]]) Try.func60 rfl rfl rfl ?_
 refine T.seq (T.region ?_)
 let v17_ : List Value := [vi p0.kind, .slice A1 p0.elems.length c1, .slice A2 p0.kids.length c2, .slice A3 p0.seps.length c3, .slice A4 p0.tids.length c4]
 refine T.step (W1.np 97 v17_ (fun _ => by kernel_rfl) (fun b1 => ?_))
 refine T.pk (vi 0) (fun _ => by kernel_rfl) (T.nil (T.seq (T.region (T.pk (vi 0) (fun _ => by kernel_rfl) (T.nil (T.seq (T.seq (T.region (T.pk (pB b1 1) (fun _ => by kernel_rfl) (T.look (.slice A1 p0.elems.length c1) (by kernel_rfl) (ld1 0 rfl rfl (fun _ => by kernel_rfl) (by rfl) rfl) ?_))))))))))
 refine T.p2 (vi (p0.elems.length : Int)) (vi 0) (fun _ => by kernel_rfl) (T.nil ?_)
 obtain ⟨z1, hz1, hF⟩ := ob hF
 let i16_ : HObj := box b1 97 v17_
 refine T.mid (fun a w' => ∃ (V2 : View), View.le (vw w) V2 ∧ Fr 32 [(1, pB b1 0), (3, vi z1)] a ∧ Hp w V2 (i16_ :: []) w') ?_ ?_
 ·
  refine T.block ?_
  refine T.iter (fun s1 a w' => ∃ (x1 : Int) (x2 : Int), s1 = (x1, x2) ∧ ∃ (V1 : View), View.le (vw w) V1 ∧ Fr 32 [(1, pB b1 0), (3, vi x1), (9, .slice A1 p0.elems.length c1), (10, vi (p0.elems.length : Int)), (11, vi x2)] a ∧ Hp w V1 (i16_ :: []) w') hz1 ?_ ?_
  ·
   exact fun a w' hf hh => ⟨0, 0, rfl, (vw w), vr, (Fr.sel hf rfl), (hh.sub (kp1 kp0))⟩
  rintro s1 y1 hY1 hr1 a w' ⟨x1, x2, rfl, V1, hV1, hf, hh⟩
  refine (?_ : T 32 w V1 (i16_ :: []) [(1, pB b1 0), (3, vi x1), (9, .slice A1 p0.elems.length c1), (10, vi (p0.elems.length : Int)), (11, vi x2)] _) a w' hf hh
  clear hf hh
  try dsimp only at hY1
  refine T.seq (T.region (T.pk (.bool (decide (x2 < (p0.elems.length : Int)))) (fun _ => by kernel_rfl) (T.nil (T.seq ?_))))
  refine T.cond (decide (x2 < (p0.elems.length : Int))) (by kernel_rfl) (by kernel_rfl) (fun hc1 => ?_) (fun hc1 => ?_)
  ·
   rw [hc1, cond_true] at hY1
   refine T.skip_code ?_
   refine T.seq (T.block (T.seq (T.region ?_)))
   obtain ⟨e1, hb1, hY1⟩ := ob hY1
   obtain ⟨hi1, hi2, hi3⟩ := idx_some hb1
   refine T.look (.pointer (some ((sadr A1).add (x2.toNat * 6)))) (by kernel_rfl) (fun w' hh => exec_indexAddr (e := 28) (s := 6) rfl rfl rfl (by kernel_rfl) (by kernel_rfl) hi1 hi2 ((SlOk.mono hs1 hV1).some_ hi3 (by decide))) ?_
   let v18_ : List Value := [vi e1.key.pfs, vi e1.key.obj, vi e1.key.off, vi e1.made, vi e1.gone, .string e1.val]
   let a19_ : Value := .agg #[vi e1.key.pfs, vi e1.key.obj, vi e1.key.off, vi e1.made, vi e1.gone, .string e1.val]
   refine T.look a19_ (by kernel_rfl) (fun w' hh => exec_loadN (cs := v18_) rfl rfl (by kernel_rfl) (by kernel_rfl) (fun j u hj => (hh.cell_view (SlOk.cellF (E := eElem) (SlOk.mono hs1 hV1) hi3 j (fun _ _ _ h => h) hj)))) ?_
   refine T.step (W1.np 28 [vi 0, vi 0, vi 0, vi 0, vi 0, .string (ByteArray.mk #[])] (fun _ => by kernel_rfl) (fun b2 => ?_))
   refine T.step (W1.st 0 v18_ ((box b2 28 v18_) :: i16_ :: []) v18_ (by rfl) rfl rfl rfl rfl rfl rfl (fun _ => by kernel_rfl) ?_)
   refine T.nil (T.region (T.pk (vi x1) (fun _ => by kernel_rfl) (T.look a19_ (by kernel_rfl) (ldN 0 rfl rfl (fun _ => by kernel_rfl) (by rfl) rfl) ?_)))
   obtain ⟨r1, hb2, hY1⟩ := ob hY1
   refine T.step (W1.call (vSc eInt) r1 85 #[a19_] (by kernel_rfl) (fun _ => by kernel_rfl) (fun w' hh => elem_Last_l e1 r1 hb2 w' ) ?_)
   intro u V3 hV3 hu
   obtain rfl := sureInt _ _ _ hu
   refine T.p2 (vi (if x1 < r1 then r1 else x1)) (vi (if x1 < r1 then r1 else x1)) (fun _ => by kernel_rfl) (T.nil (T.region (T.p2 (vi (IntKind.i64.wrap (x2 + 1))) (vi (IntKind.i64.wrap (x2 + 1))) (fun _ => by kernel_rfl) (T.nil ?_))))
   cases hY1
   exact fun a w' hf hh => ⟨((if x1 < r1 then r1 else x1), IntKind.i64.wrap (x2 + 1)), rfl, (if x1 < r1 then r1 else x1), (IntKind.i64.wrap (x2 + 1)), rfl, V3, (vt hV1 hV3), (Fr.sel hf rfl), (hh.sub (dr1 (kp1 kp0)))⟩
  rw [hc1, cond_false] at hY1
  refine T.exit ?_
  cases hY1
  cases (hr1 _ rfl)
  exact fun a w' hf hh => ⟨V1, hV1, (Fr.sel hf rfl), (hh.sub (kp1 kp0))⟩
 rintro a w' ⟨V2, hV2, hf, hh⟩
 refine (?_ : T 32 w V2 (i16_ :: []) [(1, pB b1 0), (3, vi z1)] _) a w' hf hh
 clear hf hh
 refine T.seq (T.seq (T.region (T.pk (pB b1 4) (fun _ => by kernel_rfl) (T.look (.slice A4 p0.tids.length c4) (by kernel_rfl) (ld1 0 rfl rfl (fun _ => by kernel_rfl) (by rfl) rfl) ?_))))
 refine T.p2 (vi (p0.tids.length : Int)) (vi 0) (fun _ => by kernel_rfl) (T.nil ?_)
 obtain ⟨z2, hz2, hF⟩ := ob hF
 refine T.mid (fun a w' => Fr 32 [(3, vi z2)] a ∧ Hp w V2 [] w') ?_ ?_
 ·
  refine T.block ?_
  refine T.iter (fun s2 a w' => ∃ (x3 : Int) (x4 : Int), s2 = (x3, x4) ∧ Fr 32 [(3, vi x3), (21, .slice A4 p0.tids.length c4), (22, vi (p0.tids.length : Int)), (23, vi x4)] a ∧ Hp w V2 [] w') hz2 ?_ ?_
  ·
   exact fun a w' hf hh => ⟨z1, 0, rfl, (Fr.sel hf rfl), (hh.sub (dr1 kp0))⟩
  rintro s2 y2 hY2 hr2 a w' ⟨x3, x4, rfl, hf, hh⟩
  refine (?_ : T 32 w V2 [] [(3, vi x3), (21, .slice A4 p0.tids.length c4), (22, vi (p0.tids.length : Int)), (23, vi x4)] _) a w' hf hh
  clear hf hh
  try dsimp only at hY2
  refine T.seq (T.region (T.pk (.bool (decide (x4 < (p0.tids.length : Int)))) (fun _ => by kernel_rfl) (T.nil (T.seq ?_))))
  refine T.cond (decide (x4 < (p0.tids.length : Int))) (by kernel_rfl) (by kernel_rfl) (fun hc2 => ?_) (fun hc2 => ?_)
  ·
   rw [hc2, cond_true] at hY2
   refine T.skip_code ?_
   refine T.seq (T.block (T.seq (T.region ?_)))
   obtain ⟨e2, hb3, hY2⟩ := ob hY2
   obtain ⟨hi4, hi5, hi6⟩ := idx_some hb3
   refine T.look (.pointer (some ((sadr A4).add (x4.toNat * 1)))) (by kernel_rfl) (fun w' hh => exec_indexAddr (e := 3) (s := 1) rfl rfl rfl (by kernel_rfl) (by kernel_rfl) hi4 hi5 ((SlOk.mono hs4 hV2).some_ hi6 (by decide))) ?_
   refine T.look (vi e2) (by kernel_rfl) (fun w' hh => exec_load1 rfl rfl (by kernel_rfl) (hh.cell_view (SlOk.cellF0 (E := eInt) (SlOk.mono hs4 hV2) hi6 (fun _ _ _ h => h) rfl))) ?_
   refine T.pk (vi e2) (fun _ => by kernel_rfl) (T.nil (T.region (T.p4 (vi x3) (vi e2) (vi (if x3 < e2 then e2 else x3)) (vi (if x3 < e2 then e2 else x3)) (fun _ => by kernel_rfl) (T.nil (T.region (T.p2 (vi (IntKind.i64.wrap (x4 + 1))) (vi (IntKind.i64.wrap (x4 + 1))) (fun _ => by kernel_rfl) (T.nil ?_)))))))
   cases hY2
   exact fun a w' hf hh => ⟨((if x3 < e2 then e2 else x3), IntKind.i64.wrap (x4 + 1)), rfl, (if x3 < e2 then e2 else x3), (IntKind.i64.wrap (x4 + 1)), rfl, (Fr.sel hf rfl), (hh.sub List.Sublist.slnil)⟩
  rw [hc2, cond_false] at hY2
  refine T.exit ?_
  cases hY2
  cases (hr2 _ rfl)
  exact fun a w' hf hh => ⟨(Fr.sel hf rfl), (hh.sub List.Sublist.slnil)⟩
 rintro a w' ⟨hf, hh⟩
 refine (?_ : T 32 w V2 [] [(3, vi z2)] _) a w' hf hh
 clear hf hh
 refine T.seq (T.region (T.p2 (vi z2) (vi z2) (fun _ => by kernel_rfl) (T.nil ?_)))
 cases hF
 refine T.ret rfl ?_
 exact T.ret1 rfl (ResIs.tmp rfl) fun w' hh => ⟨_, rfl, hh.below, (show _ from rfl)⟩
set_option maxRecDepth 100000 in
set_option maxHeartbeats 4000000 in
theorem node_Way_l (F : Nat) (p0 : DNode) (p1 : DSpot) (r : Int) (hF : node_Way F p0 p1 = some r) (w : World) (A1 : Option Addr) (c1 : Nat) (hs1 : SlOk (vw w) eElem A1 c1 p0.elems) (A2 : Option Addr) (c2 : Nat) (hs2 : SlOk (vw w) eInt A2 c2 p0.kids) (A3 : Option Addr) (c3 : Nat) (hs3 : SlOk (vw w) eSpot A3 c3 p0.seps) (A4 : Option Addr) (c4 : Nat) (hs4 : SlOk (vw w) eInt A4 c4 p0.tids) :
 Calls Try.prog 71 #[.agg #[.int .i64 p0.kind, .slice A1 p0.elems.length c1, .slice A2 p0.kids.length c2, .slice A3 p0.seps.length c3, .slice A4 p0.tids.length c4], .agg #[.int .i64 p1.key.pfs, .int .i64 p1.key.obj, .int .i64 p1.key.off, .int .i64 p1.made]] w (Post (vSc eInt) r w) := by
 unfold node_Way at hF
 let a25_ : Value := .agg #[vi p1.key.pfs, vi p1.key.obj, vi p1.key.off, vi p1.made]
 refine T.start (l := [.agg #[vi p0.kind, .slice A1 p0.elems.length c1, .slice A2 p0.kids.length c2, .slice A3 p0.seps.length c3, .slice A4 p0.tids.length c4], a25_]) Try.func71 rfl rfl rfl ?_
 refine T.seq (T.region ?_)
 let v23_ : List Value := [vi p0.kind, .slice A1 p0.elems.length c1, .slice A2 p0.kids.length c2, .slice A3 p0.seps.length c3, .slice A4 p0.tids.length c4]
 refine T.step (W1.np 97 v23_ (fun _ => by kernel_rfl) (fun b1 => ?_))
 let v24_ : List Value := [vi p1.key.pfs, vi p1.key.obj, vi p1.key.off, vi p1.made]
 refine T.step (W1.np 43 v24_ (fun _ => by kernel_rfl) (fun b2 => ?_))
 refine T.pk (vi 0) (fun _ => by kernel_rfl) (T.nil (T.seq (T.region (T.pk (vi 0) (fun _ => by kernel_rfl) (T.nil ?_)))))
 obtain ⟨z1, hz1, hF⟩ := ob hF
 refine T.cut (fun a w' => Fr 24 [(5, vi z1)] a ∧ Hp w (vw w) [] w') ?_ ?_
 ·
  refine T.block ?_
  let i20_ : HObj := box b2 43 v24_
  let i21_ : HObj := box b1 97 v23_
  let t22_ : List HObj := i20_ :: i21_ :: []
  refine T.iter (fun x1 a w' => Fr 24 [(2, pB b1 0), (3, pB b2 0), (5, vi x1)] a ∧ Hp w (vw w) t22_ w') hz1 ?_ ?_
  ·
   exact fun a w' hf hh => ⟨(Fr.sel hf rfl), (hh.sub (kp1 (kp1 kp0)))⟩
  rintro x1 y1 hY1 hr1 a w' ⟨hf, hh⟩
  refine (?_ : T 24 w (vw w) t22_ [(2, pB b1 0), (3, pB b2 0), (5, vi x1)] _) a w' hf hh
  clear hf hh
  try dsimp only at hY1
  refine T.seq ?_
  obtain ⟨z2, hX1, hY1⟩ := ob hY1
  refine T.cut (fun a w' => Fr 24 [(2, pB b1 0), (3, pB b2 0), (5, vi x1), (20, .bool z2)] a ∧ Hp w (vw w) t22_ w') ?_ ?_
  ·
   refine T.quiet (by kernel_rfl) (by kernel_rfl) ?_
   refine TQ.pure (vi x1) (by kernel_rfl) (fun _ => by kernel_rfl) ?_
   refine TQ.pure (pB b1 3) (by kernel_rfl) (fun _ => by kernel_rfl) ?_
   refine TQ.look (.slice A3 p0.seps.length c3) (by kernel_rfl) (ld1 1 rfl rfl (fun _ => by kernel_rfl) (by rfl) rfl) ?_
   refine TQ.pure (vi (p0.seps.length : Int)) (by kernel_rfl) (fun _ => by kernel_rfl) ?_
   refine TQ.pure (.bool (decide (x1 < (p0.seps.length : Int)))) (by kernel_rfl) (fun _ => by kernel_rfl) ?_
   refine TQ.pure (.bool (decide (x1 < (p0.seps.length : Int)))) (by kernel_rfl) (fun _ => by kernel_rfl) ?_
   cases hg1 : decide (x1 < (p0.seps.length : Int))
   ·
    skip
    rw [hg1, cond_false] at hX1
    refine TQ.pass (by kernel_rfl) (by kernel_rfl) ?_
    refine TQ.pass (by kernel_rfl) (by kernel_rfl) ?_
    refine TQ.pass (by kernel_rfl) (by kernel_rfl) ?_
    refine TQ.pass (by kernel_rfl) (by kernel_rfl) ?_
    refine TQ.pass (by kernel_rfl) (by kernel_rfl) ?_
    refine TQ.pass (by kernel_rfl) (by kernel_rfl) ?_
    refine TQ.pass (by kernel_rfl) (by kernel_rfl) ?_
    refine TQ.pass (by kernel_rfl) (by kernel_rfl) ?_
    refine TQ.pure (.bool false) (by kernel_rfl) (fun _ => by kernel_rfl) ?_
    refine TQ.nil ?_
    cases hX1
    exact fun a w' hf hh => ⟨(Fr.sel hf rfl), (hh.sub (kp1 (kp1 kp0)))⟩
   skip
   rw [hg1, cond_true] at hX1
   refine TQ.pure (pB b1 3) (by kernel_rfl) (fun _ => by kernel_rfl) ?_
   refine TQ.look (.slice A3 p0.seps.length c3) (by kernel_rfl) (ld1 1 rfl rfl (fun _ => by kernel_rfl) (by rfl) rfl) ?_
   refine TQ.pure (vi x1) (by kernel_rfl) (fun _ => by kernel_rfl) ?_
   obtain ⟨e1, hb1, hX1⟩ := ob hX1
   obtain ⟨hi1, hi2, hi3⟩ := idx_some hb1
   refine TQ.look (.pointer (some ((sadr A3).add (x1.toNat * 4)))) (by kernel_rfl) (fun w' hh => exec_indexAddr (e := 43) (s := 4) rfl rfl rfl (by kernel_rfl) (by kernel_rfl) hi1 hi2 (hs3.some_ hi3 (by decide))) ?_
   let a26_ : Value := .agg #[vi e1.key.pfs, vi e1.key.obj, vi e1.key.off, vi e1.made]
   refine TQ.look a26_ (by kernel_rfl) (fun w' hh => exec_loadN (cs := [vi e1.key.pfs, vi e1.key.obj, vi e1.key.off, vi e1.made]) rfl rfl (by kernel_rfl) (by kernel_rfl) (fun j u hj => (hh.cell_view (SlOk.cellF (E := eSpot) hs3 hi3 j (fun _ _ _ h => h) hj)))) ?_
   refine TQ.look a25_ (by kernel_rfl) (ldN 0 rfl rfl (fun _ => by kernel_rfl) (by rfl) rfl) ?_
   obtain ⟨r1, hb2, hX1⟩ := ob hX1
   refine TQ.call (vSc eInt) r1 62 #[a26_, a25_] (vi r1) (fun V u hu => sureInt V u _ hu) (by kernel_rfl) (fun _ => by kernel_rfl) (fun w' hh => key_CmpSpot_l e1 p1 r1 hb2 w' ) ?_
   refine TQ.pure (.bool (decide (r1 ≤ 0))) (by kernel_rfl) (fun _ => by kernel_rfl) ?_
   refine TQ.pure (.bool (decide (r1 ≤ 0))) (by kernel_rfl) (fun _ => by kernel_rfl) ?_
   refine TQ.nil ?_
   cases hX1
   exact fun a w' hf hh => ⟨(Fr.sel hf rfl), (hh.sub (kp1 (kp1 kp0)))⟩
  rintro a w' ⟨hf, hh⟩
  refine (?_ : T 24 w (vw w) t22_ [(2, pB b1 0), (3, pB b2 0), (5, vi x1), (20, .bool z2)] _) a w' hf hh
  clear hf hh
  refine T.cond z2 (by kernel_rfl) (by kernel_rfl) (fun hc1 => ?_) (fun hc1 => ?_)
  ·
   rw [hc1, cond_true] at hY1
   refine T.skip_code ?_
   refine T.block (T.region (T.p3 (vi x1) (vi (IntKind.i64.wrap (x1 + 1))) (vi (IntKind.i64.wrap (x1 + 1))) (fun _ => by kernel_rfl) (T.nil ?_)))
   cases hY1
   exact fun a w' hf hh => ⟨(IntKind.i64.wrap (x1 + 1)), rfl, (Fr.sel hf rfl), (hh.sub (kp1 (kp1 kp0)))⟩
  rw [hc1, cond_false] at hY1
  refine T.exit ?_
  cases hY1
  cases (hr1 _ rfl)
  exact fun a w' hf hh => ⟨(Fr.sel hf rfl), (hh.sub (dr1 (dr1 kp0)))⟩
 rintro a w' ⟨hf, hh⟩
 refine (?_ : T 24 w (vw w) [] [(5, vi z1)] _) a w' hf hh
 clear hf hh
 refine T.seq (T.region (T.p2 (vi z1) (vi z1) (fun _ => by kernel_rfl) (T.nil ?_)))
 cases hF
 refine T.ret rfl ?_
 exact T.ret1 rfl (ResIs.tmp rfl) fun w' hh => ⟨_, rfl, hh.below, (show _ from rfl)⟩
end Go.Proofs.Ytcmkdoahkncakaa
