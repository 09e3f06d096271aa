/- The Go functions of group FindN compute the pure functions of that group: written by walkgen.py. Condition of each: the pure function yields a result. -/
import Derived.Test.YtcmkdoahkncakaaSh2Q
import Derived.Test.YtcmkdoahkncakaaTreeLQ
import Derived.Test.YtcmkdoahkncakaaFindNFQ
import Derived.Test.YtcmkdoahkncakaaEqLQ
namespace Go.Proofs.Ytcmkdoahkncakaa
set_option linter.unusedVariables false
set_option linter.defProp false
def ipFindNL_1 := info_parts (P := Try.prog) (e := 28) (z := .agg #[.int .i64 0, .int .i64 0, .int .i64 0, .int .i64 0, .int .i64 0, .string (ByteArray.mk #[])]) (size := 6) (bytes := 56) (by kernel_rfl)
set_option maxRecDepth 100000 in
set_option maxHeartbeats 4000000 in
theorem find_Since_l (F : Nat) (p0 : DTree) (p1 : Int) (r : ((List DElem)) × Int × Int) (hF : find_Since F p0 p1 = some r) (w : World) (A1 : Option Addr) (c1 : Nat) (hs1 : SlOk (vw w) eNode A1 c1 p0.nodes) :
 Calls Try.prog 33 #[.agg #[.int .i64 p0.root, .slice A1 p0.nodes.length c1], .int .i64 p1] w (Post (vT3 (vSc (eList eElem)) (vSc eInt) (vSc eInt)) r w) := by
 unfold find_Since at hF
 let a12_ : Value := .agg #[vi p0.root, .slice A1 p0.nodes.length c1]
 refine T.start (l := [a12_, vi p1]) Try.func33 rfl rfl rfl ?_
 refine T.seq (T.region ?_)
 let v6_ : List Value := [vi p0.root, .slice A1 p0.nodes.length c1]
 refine T.step (W1.np 24 v6_ (fun _ => by kernel_rfl) (fun b1 => ?_))
 refine T.p3 sN (vi 0) (vi 0) (fun _ => by kernel_rfl) (T.nil (T.seq (T.seq (T.region (T.look a12_ (by kernel_rfl) (ldN 0 rfl rfl (fun _ => by kernel_rfl) (by rfl) rfl) ?_)))))
 obtain ⟨r1, hb1, hF⟩ := ob hF
 refine T.step (W1.call (vSc eInt) r1 47 #[a12_] (by kernel_rfl) (fun _ => by kernel_rfl) (fun w' hh => tree_Check_l F p0 r1 hb1 w' A1 c1 (SlOk.mono hs1 hh.view)) ?_)
 intro u V1 hV1 hu
 obtain rfl := sureInt _ _ _ hu
 refine T.pk (vi r1) (fun _ => by kernel_rfl) (T.nil (T.seq (T.region (T.p2 (vi r1) (.bool (r1 != 0)) (fun _ => by kernel_rfl) (T.nil ?_)))))
 refine T.cond (r1 != 0) (by kernel_rfl) (by kernel_rfl) (fun hc1 => ?_) (fun hc1 => ?_)
 ·
  rw [hc1, cond_true] at hF
  refine T.seq (T.region (T.p4 (vi r1) sN (vi 0) (vi r1) (fun _ => by kernel_rfl) (T.nil ?_)))
  cases hF
  refine T.ret rfl ?_
  exact T.ret3 rfl (ResIs.tmp rfl) (ResIs.tmp rfl) (ResIs.tmp rfl) fun w' hh => ⟨_, rfl, hh.below, (vT3.mk ⟨_, _, rfl, (SlOk.nil _ _)⟩ (show _ from rfl) (show _ from rfl))⟩
 rw [hc1, cond_false] at hF
 refine T.skip_code ?_
 refine T.seq (T.region (T.look a12_ (by kernel_rfl) (ldN 0 rfl rfl (fun _ => by kernel_rfl) (by rfl) rfl) ?_))
 refine T.p2 (vi p1) (.agg #[vi p0.root, .slice A1 p0.nodes.length c1, vi p1, sN, vi 0]) (fun _ => by kernel_rfl) (T.step (W1.np 106 [vi p0.root, .slice A1 p0.nodes.length c1, vi p1, sN, vi 0] (fun _ => by kernel_rfl) (fun b2 => ?_)))
 refine T.pk (pB b2 0) (fun _ => by kernel_rfl) (T.nil ?_)
 obtain ⟨q1, hX1, hF⟩ := ob hF
 refine T.cut (fun a w' => ∃ (z1 : List DElem) (z2 : Int), q1 = (z1, z2) ∧ ∃ (A2 : Option Addr) (c2 : Nat) (V2 : View), View.le V1 V2 ∧ Fr 39 [(8, pB b2 0)] a ∧ Hp w V2 ((row 28 eElem A2 c2 z1) :: (box b2 106 [vi p0.root, .slice A1 p0.nodes.length c1, vi p1, .slice A2 z1.length c2, vi z2]) :: []) w') ?_ ?_
 ·
  refine T.seq (T.region (T.pk (pB b1 1) (fun _ => by kernel_rfl) (T.look (.slice A1 p0.nodes.length c1) (by kernel_rfl) (ld1 1 rfl rfl (fun _ => by kernel_rfl) (by rfl) rfl) ?_)))
  refine T.pk (pB b1 0) (fun _ => by kernel_rfl) (T.look (vi p0.root) (by kernel_rfl) (ld1 1 rfl rfl (fun _ => by kernel_rfl) (by rfl) rfl) ?_)
  obtain ⟨e1, hb2, hX1⟩ := ob hX1
  obtain ⟨hi1, hi2, hi3⟩ := idx_some hb2
  obtain ⟨cs1, hr1, hc2⟩ := SlOk.elem (SlOk.mono hs1 hV1) hi3
  obtain ⟨A3, c3, A4, c4, A5, c5, A6, c6, rfl, hs2, hs3, hs4, hs5⟩ := hr1
  refine T.look (.pointer (some ((sadr A1).add (p0.root.toNat * 5)))) (by kernel_rfl) (fun w' hh => exec_indexAddr (e := 97) (s := 5) rfl rfl rfl (by kernel_rfl) (by kernel_rfl) hi1 hi2 ((SlOk.mono hs1 hV1).some_ hi3 (by decide))) ?_
  let a13_ : Value := .agg #[vi e1.kind, .slice A3 e1.elems.length c3, .slice A4 e1.kids.length c4, .slice A5 e1.seps.length c5, .slice A6 e1.tids.length c6]
  refine T.look a13_ (by kernel_rfl) (fun w' hh => exec_loadN (cs := [vi e1.kind, .slice A3 e1.elems.length c3, .slice A4 e1.kids.length c4, .slice A5 e1.seps.length c5, .slice A6 e1.tids.length c6]) rfl rfl (by kernel_rfl) (by kernel_rfl) (fun j u hj => hh.cell_view (View.cell_mono vr (hc2 j u hj).2))) ?_
  obtain ⟨r2, hb3, hX1⟩ := ob hX1
  refine T.step (W1.call (vSc eInt) r2 60 #[a13_] (by kernel_rfl) (fun _ => by kernel_rfl) (fun w' hh => node_Greatest_l F e1 r2 hb3 w' A3 c3 (SlOk.mono hs2 hh.view) A4 c4 (SlOk.mono hs3 hh.view) A5 c5 (SlOk.mono hs4 hh.view) A6 c6 (SlOk.mono hs5 hh.view)) ?_)
  intro u V3 hV3 hu
  obtain rfl := sureInt _ _ _ hu
  refine T.p2 (vi p1) (.bool (decide (p1 < r2))) (fun _ => by kernel_rfl) (T.nil ?_)
  refine T.cond (decide (p1 < r2)) (by kernel_rfl) (by kernel_rfl) (fun hc3 => ?_) (fun hc3 => ?_)
  ·
   rw [hc3, cond_true] at hX1
   refine T.region (T.p2 (pB b2 0) (pB b1 0) (fun _ => by kernel_rfl) (T.look (vi p0.root) (by kernel_rfl) (ld1 1 rfl rfl (fun _ => by kernel_rfl) (by rfl) rfl) ?_))
   refine T.rownil 28 eElem ?_
   obtain ⟨q2, hz1, hX1⟩ := ob hX1
   refine (have hq1 := fix_rec (fun (s_ : (List DElem) × Int × Int) (r_ : (List DElem) × Int) => ∀ (x1 : List DElem) (x2 : Int) (x3 : Int), s_ = (x1, x2, x3) → ∀ (A7 : Option Addr) (c7 : Nat) (V4 : View) (G2 : List HObj) (w1 : World), View.le V3 V4 → Hp w V4 ((row 28 eElem A7 c7 x1) :: (box b2 106 [vi p0.root, .slice A1 p0.nodes.length c1, vi p1, .slice A7 x1.length c7, vi x2]) :: G2) w1 → Calls Try.prog 61 #[pB b2 0, vi x3] w1 (fun e w2 => ∃ v, e = .returned v ∧ ∃ (z3 : List DElem) (z4 : Int), r_ = (z3, z4) ∧ ∃ (A8 : Option Addr) (c8 : Nat) (V5 : View), View.le V4 V5 ∧ v = .tuple #[] ∧ Hp w V5 ((row 28 eElem A8 c8 z3) :: (box b2 106 [vi p0.root, .slice A1 p0.nodes.length c1, vi p1, .slice A8 z3.length c8, vi z4]) :: G2) w2)) hz1 ?_; ?_)
   ·
    rintro rf2 ih1 s_ r_ hS1 x1 x2 x3 rfl A7 c7 V4 G2 w1 hV4 hh
    try dsimp only at hS1
    refine T.startI (l := [pB b2 0, vi x3]) Try.func61 rfl rfl rfl ?_ hh
    clear hh
    refine T.seq (T.region (T.p3 (pB b2 0) (pB b2 0) (pB b2 4) (fun _ => by kernel_rfl) (T.look (vi x2) (by kernel_rfl) (ld1 1 rfl rfl (fun _ => by kernel_rfl) (by rfl) rfl) ?_)))
    refine T.p3 (vi (IntKind.i64.wrap (x2 + 1))) (pB b2 0) (pB b2 4) (fun _ => by kernel_rfl) ?_
    let v7_ : List Value := [vi p0.root, .slice A1 p0.nodes.length c1, vi p1, .slice A7 x1.length c7, vi (IntKind.i64.wrap (x2 + 1))]
    let i1_ : HObj := box b2 106 v7_
    refine T.step (W1.st 1 v7_ ((row 28 eElem A7 c7 x1) :: i1_ :: G2) [vi (IntKind.i64.wrap (x2 + 1))] (by rfl) rfl rfl rfl rfl rfl rfl (fun _ => by kernel_rfl) ?_)
    refine T.nil (T.seq (T.region (T.p4 (pB b2 0) (pB b2 0) (pB b2 0) (pB b2 1) (fun _ => by kernel_rfl) (T.look (.slice A1 p0.nodes.length c1) (by kernel_rfl) (ld1 1 rfl rfl (fun _ => by kernel_rfl) (by rfl) rfl) ?_))))
    refine T.pk (vi x3) (fun _ => by kernel_rfl) ?_
    obtain ⟨e2, hb4, hS1⟩ := ob hS1
    obtain ⟨hi4, hi5, hi6⟩ := idx_some hb4
    have w15_ := vt (vt hV1 hV3) hV4
    obtain ⟨cs2, hr2, hc4⟩ := SlOk.elem (SlOk.mono hs1 w15_) hi6
    obtain ⟨A9, c9, A10, c10, A11, c11, A12, c12, rfl, hs6, hs7, hs8, hs9⟩ := hr2
    refine T.look (.pointer (some ((sadr A1).add (x3.toNat * 5)))) (by kernel_rfl) (fun w' hh => exec_indexAddr (e := 97) (s := 5) rfl rfl rfl (by kernel_rfl) (by kernel_rfl) hi4 hi5 ((SlOk.mono hs1 w15_).some_ hi6 (by decide))) ?_
    let v8_ : List Value := [vi e2.kind, .slice A9 e2.elems.length c9, .slice A10 e2.kids.length c10, .slice A11 e2.seps.length c11, .slice A12 e2.tids.length c12]
    refine T.look (.agg #[vi e2.kind, .slice A9 e2.elems.length c9, .slice A10 e2.kids.length c10, .slice A11 e2.seps.length c11, .slice A12 e2.tids.length c12]) (by kernel_rfl) (fun w' hh => exec_loadN (cs := v8_) rfl rfl (by kernel_rfl) (by kernel_rfl) (fun j u hj => hh.cell_view (View.cell_mono vr (hc4 j u hj).2))) ?_
    refine T.step (W1.np 97 [vi 0, sN, sN, sN, sN] (fun _ => by kernel_rfl) (fun b3 => ?_))
    let i2_ : HObj := box b3 97 v8_
    refine T.step (W1.st 0 v8_ (i2_ :: (row 28 eElem A7 c7 x1) :: i1_ :: G2) v8_ (by rfl) rfl rfl rfl rfl rfl rfl (fun _ => by kernel_rfl) ?_)
    refine T.nil (T.seq (T.seq (T.region (T.pk (pB b3 1) (fun _ => by kernel_rfl) (T.look (.slice A9 e2.elems.length c9) (by kernel_rfl) (ld1 0 rfl rfl (fun _ => by kernel_rfl) (by rfl) rfl) ?_)))))
    refine T.p2 (vi (e2.elems.length : Int)) (vi 0) (fun _ => by kernel_rfl) (T.nil ?_)
    obtain ⟨z5, hz2, hS1⟩ := ob hS1
    refine T.mid (fun a w' => ∃ (A14 : Option Addr) (c14 : Nat), Fr 71 [(0, pB b2 0), (4, pB b3 0)] a ∧ Hp w V4 (i2_ :: (row 28 eElem A14 c14 z5) :: (box b2 106 [vi p0.root, .slice A1 p0.nodes.length c1, vi p1, .slice A14 z5.length c14, vi (IntKind.i64.wrap (x2 + 1))]) :: G2) w') ?_ ?_
    ·
     refine T.block ?_
     refine T.iter (fun s1 a w' => ∃ (x4 : List DElem) (x5 : Int), s1 = (x4, x5) ∧ ∃ (A13 : Option Addr) (c13 : Nat), Fr 71 [(0, pB b2 0), (4, pB b3 0), (25, .slice A9 e2.elems.length c9), (26, vi (e2.elems.length : Int)), (27, vi x5)] a ∧ Hp w V4 (i2_ :: (row 28 eElem A13 c13 x4) :: (box b2 106 [vi p0.root, .slice A1 p0.nodes.length c1, vi p1, .slice A13 x4.length c13, vi (IntKind.i64.wrap (x2 + 1))]) :: G2) w') hz2 ?_ ?_
     ·
      exact fun a w' hf hh => ⟨x1, 0, rfl, A7, c7, (Fr.sel hf rfl), (hh.sub (kp2 (kp1 kpr)))⟩
     rintro s1 y1 hY1 hr3 a w' ⟨x4, x5, rfl, A13, c13, hf, hh⟩
     let i3_ : HObj := box b2 106 [vi p0.root, .slice A1 p0.nodes.length c1, vi p1, .slice A13 x4.length c13, vi (IntKind.i64.wrap (x2 + 1))]
     refine (?_ : T 71 w V4 (i2_ :: (row 28 eElem A13 c13 x4) :: i3_ :: G2) [(0, pB b2 0), (4, pB b3 0), (25, .slice A9 e2.elems.length c9), (26, vi (e2.elems.length : Int)), (27, vi x5)] _) a w' hf hh
     clear hf hh
     try dsimp only at hY1
     refine T.seq (T.region (T.pk (.bool (decide (x5 < (e2.elems.length : Int)))) (fun _ => by kernel_rfl) (T.nil (T.seq ?_))))
     refine T.cond (decide (x5 < (e2.elems.length : Int))) (by kernel_rfl) (by kernel_rfl) (fun hc5 => ?_) (fun hc5 => ?_)
     ·
      rw [hc5, cond_true] at hY1
      refine T.skip_code ?_
      obtain ⟨z6, hX2, hY1⟩ := ob hY1
      refine T.cut (fun a w' => ∃ (A15 : Option Addr) (c15 : Nat), Fr 71 [(0, pB b2 0), (4, pB b3 0), (25, .slice A9 e2.elems.length c9), (26, vi (e2.elems.length : Int)), (27, vi x5)] a ∧ Hp w V4 (i2_ :: (row 28 eElem A15 c15 z6) :: (box b2 106 [vi p0.root, .slice A1 p0.nodes.length c1, vi p1, .slice A15 z6.length c15, vi (IntKind.i64.wrap (x2 + 1))]) :: G2) w') ?_ ?_
      ·
       refine T.block (T.seq (T.region ?_))
       obtain ⟨e3, hb5, hX2⟩ := ob hX2
       obtain ⟨hi7, hi8, hi9⟩ := idx_some hb5
       refine T.look (.pointer (some ((sadr A9).add (x5.toNat * 6)))) (by kernel_rfl) (fun w' hh => exec_indexAddr (e := 28) (s := 6) rfl rfl rfl (by kernel_rfl) (by kernel_rfl) hi7 hi8 (hs6.some_ hi9 (by decide))) ?_
       let v9_ : List Value := [vi e3.key.pfs, vi e3.key.obj, vi e3.key.off, vi e3.made, vi e3.gone, .string e3.val]
       let a14_ : Value := .agg #[vi e3.key.pfs, vi e3.key.obj, vi e3.key.off, vi e3.made, vi e3.gone, .string e3.val]
       refine T.look a14_ (by kernel_rfl) (fun w' hh => exec_loadN (cs := v9_) rfl rfl (by kernel_rfl) (by kernel_rfl) (fun j u hj => (hh.cell_view (SlOk.cellF (E := eElem) hs6 hi9 j (fun _ _ _ h => h) hj)))) ?_
       refine T.step (W1.np 28 [vi 0, vi 0, vi 0, vi 0, vi 0, .string (ByteArray.mk #[])] (fun _ => by kernel_rfl) (fun b4 => ?_))
       let i4_ : HObj := box b4 28 v9_
       refine T.step (W1.st 0 v9_ (i4_ :: i2_ :: (row 28 eElem A13 c13 x4) :: i3_ :: G2) v9_ (by rfl) rfl rfl rfl rfl rfl rfl (fun _ => by kernel_rfl) ?_)
       refine T.nil (T.seq ?_)
       refine T.quiet (by kernel_rfl) (by kernel_rfl) ?_
       refine TQ.look a14_ (by kernel_rfl) (ldN 0 rfl rfl (fun _ => by kernel_rfl) (by rfl) rfl) ?_
       obtain ⟨r4, hb6, hX2⟩ := ob hX2
       refine TQ.call (vSc eInt) r4 85 #[a14_] (vi r4) (fun V u hu => sureInt V u _ hu) (by kernel_rfl) (fun _ => by kernel_rfl) (fun w' hh => elem_Last_l e3 r4 hb6 w' ) ?_
       refine TQ.pure (pB b2 0) (by kernel_rfl) (fun _ => by kernel_rfl) ?_
       refine TQ.pure (pB b2 0) (by kernel_rfl) (fun _ => by kernel_rfl) ?_
       refine TQ.pure (pB b2 2) (by kernel_rfl) (fun _ => by kernel_rfl) ?_
       refine TQ.look (vi p1) (by kernel_rfl) (ld1 3 rfl rfl (fun _ => by kernel_rfl) (by rfl) rfl) ?_
       refine TQ.pure (.bool (decide (p1 < r4))) (by kernel_rfl) (fun _ => by kernel_rfl) ?_
       refine TQ.nil ?_
       refine T.cond (decide (p1 < r4)) (by kernel_rfl) (by kernel_rfl) (fun hc6 => ?_) (fun hc6 => ?_)
       ·
        rw [hc6, cond_true] at hX2
        obtain ⟨y2, hb7, hX2⟩ := ob hX2
        refine T.mid (fun a w' => ∃ (A17 : Option Addr) (c17 : Nat), Fr 71 [(0, pB b2 0), (4, pB b3 0), (25, .slice A9 e2.elems.length c9), (26, vi (e2.elems.length : Int)), (27, vi x5)] a ∧ Hp w V4 (i2_ :: (row 28 eElem A17 c17 (x4 ++ [e3])) :: (box b2 106 [vi p0.root, .slice A1 p0.nodes.length c1, vi p1, .slice A17 ((x4 ++ [e3]).length) c17, vi (IntKind.i64.wrap (x2 + 1))]) :: G2) w') ?_ ?_
        ·
         refine T.held (i4_ :: i2_ :: []) (by kernel_rfl) ?_
         refine TA.keep (Hp.old vr w15_ (kp2 (dr1 (dr1 kp0))) (oB1 (oB1 ol0))) fun o16_ => ?_
         refine TA.tp 0 (pB b2 0) rfl (fun _ => by kernel_rfl) (fun _ _ _ h => h) o16_ ?_
         refine TA.tp 1 (pB b2 0) rfl (fun _ => by kernel_rfl) (fun _ _ _ h => h) o16_ ?_
         refine TA.tp 2 (pB b2 0) rfl (fun _ => by kernel_rfl) (fun _ _ _ h => h) o16_ ?_
         refine TA.tp 3 (pB b2 3) rfl (fun _ => by kernel_rfl) (fun _ _ _ h => h) o16_ ?_
         refine TA.tk 5 a14_ rfl (by kernel_rfl) (fun _ _ _ h => h) o16_ (ldN 0 rfl rfl (fun _ => by kernel_rfl) (by rfl) rfl) ?_
         refine TA.all [4, 6] (by kernel_rfl) rfl ⟨?_, ?_, trivial⟩
         ·
          refine TA.br rfl (W1.look (.slice A13 x4.length c13) (by kernel_rfl) (ld1 3 rfl rfl (fun _ => by kernel_rfl) (by rfl) rfl) ?_)
          refine TA.on (Hp.old vr w15_ (kp2 (dr1 (dr1 kp0))) (oB1 (oB1 ol0))) ?_
          refine TA.all [6] (by kernel_rfl) rfl ⟨?_, trivial⟩
          refine TA.br rfl (W1.ns 28 v9_ (fun _ => by kernel_rfl) (fun b5 => ?_))
          refine TA.on (Hp.old vr w15_ (dr1 (kp2 (dr1 (dr1 kp0)))) (oB1 (oB1 ol0))) ?_
          refine TA.all [7] (by kernel_rfl) rfl ⟨?_, trivial⟩
          obtain ⟨hb7_r, hb7_m, rfl⟩ := grow_some hb7
          obtain ⟨ti, hti, hz1, hz2, hz3⟩ := ipFindNL_1
          refine TA.br rfl (W1.append (E := eElem) (l := x4) (m := [e3]) 3 _ _ 56 ti _ (by rfl) (by kernel_rfl) rfl (by kernel_rfl) hti hz1 hz2 hz3 rfl (by decide) rfl rfl (fun w' hh => (SlOk.srcF (slok_lit (E := eElem) (f := DElem.cells) [e3] (fun _ _ => rfl) (Nat.le_of_ble_eq_true (by rfl)) (fun j => hh.cellBox (i := 0) (by rfl) j)) (fun _ _ _ _ h => h))) hb7_r hb7_m (fun A16 c16 => ?_))
          refine TA.onk (Hp.old vr w15_ (dr1 (kp2 (dr1 (dr1 kp0)))) (oB1 (oB1 ol0))) fun o17_ => ?_
          refine TA.tp 8 (pB b2 0) rfl (fun _ => by kernel_rfl) (fun _ _ _ h => h) o17_ ?_
          refine TA.tp 9 (pB b2 3) rfl (fun _ => by kernel_rfl) (fun _ _ _ h => h) o17_ ?_
          refine TA.all [10] (by kernel_rfl) rfl ⟨?_, trivial⟩
          let v10_ : List Value := [vi p0.root, .slice A1 p0.nodes.length c1, vi p1, .slice A16 ((x4 ++ [e3]).length) c16, vi (IntKind.i64.wrap (x2 + 1))]
          refine TA.br rfl (W1.st 4 v10_ ((box b5 28 v9_) :: i4_ :: i2_ :: (row 28 eElem A16 c16 (x4 ++ [e3])) :: (box b2 106 v10_) :: G2) [.slice A16 ((x4 ++ [e3]).length) c16] (by rfl) rfl rfl rfl rfl rfl rfl (fun _ => by kernel_rfl) ?_)
          refine TA.on (Hp.old vr w15_ (dr1 (kp2 (dr1 (dr1 kp0)))) (oB1 (oB1 ol0))) ?_
          refine TA.done (by kernel_rfl) ?_
          exact fun a w' hf hh => ⟨A16, c16, (Fr.sel hf rfl), (hh.sub (dr2 (kp2 (kp1 kpr))))⟩
         refine TA.br rfl (W1.ns 28 v9_ (fun _ => by kernel_rfl) (fun b5 => ?_))
         refine TA.on (Hp.old vr w15_ (dr1 (kp2 (dr1 (dr1 kp0)))) (oB1 (oB1 ol0))) ?_
         refine TA.all [4] (by kernel_rfl) rfl ⟨?_, trivial⟩
         refine TA.br rfl (W1.look (.slice A13 x4.length c13) (by kernel_rfl) (ld1 4 rfl rfl (fun _ => by kernel_rfl) (by rfl) rfl) ?_)
         refine TA.on (Hp.old vr w15_ (dr1 (kp2 (dr1 (dr1 kp0)))) (oB1 (oB1 ol0))) ?_
         refine TA.all [7] (by kernel_rfl) rfl ⟨?_, trivial⟩
         obtain ⟨hb7_r, hb7_m, rfl⟩ := grow_some hb7
         obtain ⟨ti, hti, hz1, hz2, hz3⟩ := ipFindNL_1
         refine TA.br rfl (W1.append (E := eElem) (l := x4) (m := [e3]) 3 _ _ 56 ti _ (by rfl) (by kernel_rfl) rfl (by kernel_rfl) hti hz1 hz2 hz3 rfl (by decide) rfl rfl (fun w' hh => (SlOk.srcF (slok_lit (E := eElem) (f := DElem.cells) [e3] (fun _ _ => rfl) (Nat.le_of_ble_eq_true (by rfl)) (fun j => hh.cellBox (i := 0) (by rfl) j)) (fun _ _ _ _ h => h))) hb7_r hb7_m (fun A16 c16 => ?_))
         refine TA.onk (Hp.old vr w15_ (dr1 (kp2 (dr1 (dr1 kp0)))) (oB1 (oB1 ol0))) fun o18_ => ?_
         refine TA.tp 8 (pB b2 0) rfl (fun _ => by kernel_rfl) (fun _ _ _ h => h) o18_ ?_
         refine TA.tp 9 (pB b2 3) rfl (fun _ => by kernel_rfl) (fun _ _ _ h => h) o18_ ?_
         refine TA.all [10] (by kernel_rfl) rfl ⟨?_, trivial⟩
         let v11_ : List Value := [vi p0.root, .slice A1 p0.nodes.length c1, vi p1, .slice A16 ((x4 ++ [e3]).length) c16, vi (IntKind.i64.wrap (x2 + 1))]
         refine TA.br rfl (W1.st 4 v11_ ((box b5 28 v9_) :: i4_ :: i2_ :: (row 28 eElem A16 c16 (x4 ++ [e3])) :: (box b2 106 v11_) :: G2) [.slice A16 ((x4 ++ [e3]).length) c16] (by rfl) rfl rfl rfl rfl rfl rfl (fun _ => by kernel_rfl) ?_)
         refine TA.on (Hp.old vr w15_ (dr1 (kp2 (dr1 (dr1 kp0)))) (oB1 (oB1 ol0))) ?_
         refine TA.done (by kernel_rfl) ?_
         exact fun a w' hf hh => ⟨A16, c16, (Fr.sel hf rfl), (hh.sub (dr2 (kp2 (kp1 kpr))))⟩
        rintro a w' ⟨A17, c17, hf, hh⟩
        refine (?_ : T 71 w V4 (i2_ :: (row 28 eElem A17 c17 (x4 ++ [e3])) :: (box b2 106 [vi p0.root, .slice A1 p0.nodes.length c1, vi p1, .slice A17 ((x4 ++ [e3]).length) c17, vi (IntKind.i64.wrap (x2 + 1))]) :: G2) [(0, pB b2 0), (4, pB b3 0), (25, .slice A9 e2.elems.length c9), (26, vi (e2.elems.length : Int)), (27, vi x5)] _) a w' hf hh
        clear hf hh
        cases hX2
        exact fun a w' hf hh => ⟨A17, c17, (Fr.sel hf rfl), (hh.sub (kp2 (kp1 kpr)))⟩
       rw [hc6, cond_false] at hX2
       refine T.skip_code ?_
       cases hX2
       exact fun a w' hf hh => ⟨A13, c13, (Fr.sel hf rfl), (hh.sub (dr1 (kp2 (kp1 kpr))))⟩
      rintro a w' ⟨A15, c15, hf, hh⟩
      refine (?_ : T 71 w V4 (i2_ :: (row 28 eElem A15 c15 z6) :: (box b2 106 [vi p0.root, .slice A1 p0.nodes.length c1, vi p1, .slice A15 z6.length c15, vi (IntKind.i64.wrap (x2 + 1))]) :: G2) [(0, pB b2 0), (4, pB b3 0), (25, .slice A9 e2.elems.length c9), (26, vi (e2.elems.length : Int)), (27, vi x5)] _) a w' hf hh
      clear hf hh
      refine T.region (T.p2 (vi (IntKind.i64.wrap (x5 + 1))) (vi (IntKind.i64.wrap (x5 + 1))) (fun _ => by kernel_rfl) (T.nil ?_))
      cases hY1
      exact fun a w' hf hh => ⟨(z6, IntKind.i64.wrap (x5 + 1)), rfl, z6, (IntKind.i64.wrap (x5 + 1)), rfl, A15, c15, (Fr.sel hf rfl), (hh.sub (kp2 (kp1 kpr)))⟩
     rw [hc5, cond_false] at hY1
     refine T.exit ?_
     cases hY1
     cases (hr3 _ rfl)
     exact fun a w' hf hh => ⟨A13, c13, (Fr.sel hf rfl), (hh.sub (kp2 (kp1 kpr)))⟩
    rintro a w' ⟨A14, c14, hf, hh⟩
    refine (?_ : T 71 w V4 (i2_ :: (row 28 eElem A14 c14 z5) :: (box b2 106 [vi p0.root, .slice A1 p0.nodes.length c1, vi p1, .slice A14 z5.length c14, vi (IntKind.i64.wrap (x2 + 1))]) :: G2) [(0, pB b2 0), (4, pB b3 0)] _) a w' hf hh
    clear hf hh
    refine T.seq (T.region (T.pk (pB b3 2) (fun _ => by kernel_rfl) (T.look (.slice A10 e2.kids.length c10) (by kernel_rfl) (ld1 0 rfl rfl (fun _ => by kernel_rfl) (by rfl) rfl) ?_)))
    refine T.p2 (vi (e2.kids.length : Int)) (vi 0) (fun _ => by kernel_rfl) (T.nil ?_)
    obtain ⟨q3, hz3, hS1⟩ := ob hS1
    refine T.mid (fun a w' => ∃ (z7 : List DElem) (z8 : Int), q3 = (z7, z8) ∧ ∃ (A19 : Option Addr) (c19 : Nat) (V7 : View), View.le V4 V7 ∧ Fr 71 [] a ∧ Hp w V7 ((row 28 eElem A19 c19 z7) :: (box b2 106 [vi p0.root, .slice A1 p0.nodes.length c1, vi p1, .slice A19 z7.length c19, vi z8]) :: G2) w') ?_ ?_
    ·
     refine T.block ?_
     refine T.iter (fun s2 a w' => ∃ (x6 : List DElem) (x7 : Int) (x8 : Int), s2 = (x6, x7, x8) ∧ ∃ (A18 : Option Addr) (c18 : Nat) (V6 : View), View.le V4 V6 ∧ Fr 71 [(0, pB b2 0), (4, pB b3 0), (50, .slice A10 e2.kids.length c10), (51, vi (e2.kids.length : Int)), (52, vi x8)] a ∧ Hp w V6 (i2_ :: (row 28 eElem A18 c18 x6) :: (box b2 106 [vi p0.root, .slice A1 p0.nodes.length c1, vi p1, .slice A18 x6.length c18, vi x7]) :: G2) w') hz3 ?_ ?_
     ·
      exact fun a w' hf hh => ⟨z5, (IntKind.i64.wrap (x2 + 1)), 0, rfl, A14, c14, V4, vr, (Fr.sel hf rfl), (hh.sub (kp2 (kp1 kpr)))⟩
     rintro s2 y3 hY2 hr4 a w' ⟨x6, x7, x8, rfl, A18, c18, V6, hV6, hf, hh⟩
     refine (?_ : T 71 w V6 (i2_ :: (row 28 eElem A18 c18 x6) :: (box b2 106 [vi p0.root, .slice A1 p0.nodes.length c1, vi p1, .slice A18 x6.length c18, vi x7]) :: G2) [(0, pB b2 0), (4, pB b3 0), (50, .slice A10 e2.kids.length c10), (51, vi (e2.kids.length : Int)), (52, vi x8)] _) a w' hf hh
     clear hf hh
     try dsimp only at hY2
     refine T.seq (T.region (T.pk (.bool (decide (x8 < (e2.kids.length : Int)))) (fun _ => by kernel_rfl) (T.nil (T.seq ?_))))
     refine T.cond (decide (x8 < (e2.kids.length : Int))) (by kernel_rfl) (by kernel_rfl) (fun hc7 => ?_) (fun hc7 => ?_)
     ·
      rw [hc7, cond_true] at hY2
      refine T.skip_code ?_
      obtain ⟨q4, hX3, hY2⟩ := ob hY2
      refine T.cut (fun a w' => ∃ (z9 : List DElem) (z10 : Int), q4 = (z9, z10) ∧ ∃ (A20 : Option Addr) (c20 : Nat) (V8 : View), View.le V6 V8 ∧ Fr 71 [(0, pB b2 0), (4, pB b3 0), (50, .slice A10 e2.kids.length c10), (51, vi (e2.kids.length : Int)), (52, vi x8)] a ∧ Hp w V8 (i2_ :: (row 28 eElem A20 c20 z9) :: (box b2 106 [vi p0.root, .slice A1 p0.nodes.length c1, vi p1, .slice A20 z9.length c20, vi z10]) :: G2) w') ?_ ?_
      ·
       refine T.block (T.seq (T.region (T.pk (vi x8) (fun _ => by kernel_rfl) ?_)))
       obtain ⟨e4, hb8, hX3⟩ := ob hX3
       obtain ⟨hi10, hi11, hi12⟩ := idx_some hb8
       refine T.look (.pointer (some ((sadr A10).add (x8.toNat * 1)))) (by kernel_rfl) (fun w' hh => exec_indexAddr (e := 3) (s := 1) rfl rfl rfl (by kernel_rfl) (by kernel_rfl) hi10 hi11 ((SlOk.mono hs7 hV6).some_ hi12 (by decide))) ?_
       refine T.look (vi e4) (by kernel_rfl) (fun w' hh => exec_load1 rfl rfl (by kernel_rfl) (hh.cell_view (SlOk.cellF0 (E := eInt) (SlOk.mono hs7 hV6) hi12 (fun _ _ _ h => h) rfl))) ?_
       refine T.p2 (vi x8) (vi e4) (fun _ => by kernel_rfl) (T.nil (T.seq ?_))
       refine T.quiet (by kernel_rfl) (by kernel_rfl) ?_
       refine TQ.pure (pB b3 4) (by kernel_rfl) (fun _ => by kernel_rfl) ?_
       refine TQ.look (.slice A12 e2.tids.length c12) (by kernel_rfl) (ld1 0 rfl rfl (fun _ => by kernel_rfl) (by rfl) rfl) ?_
       refine TQ.pure (vi x8) (by kernel_rfl) (fun _ => by kernel_rfl) ?_
       obtain ⟨e5, hb9, hX3⟩ := ob hX3
       obtain ⟨hi13, hi14, hi15⟩ := idx_some hb9
       refine TQ.look (.pointer (some ((sadr A12).add (x8.toNat * 1)))) (by kernel_rfl) (fun w' hh => exec_indexAddr (e := 3) (s := 1) rfl rfl rfl (by kernel_rfl) (by kernel_rfl) hi13 hi14 ((SlOk.mono hs9 hV6).some_ hi15 (by decide))) ?_
       refine TQ.look (vi e5) (by kernel_rfl) (fun w' hh => exec_load1 rfl rfl (by kernel_rfl) (hh.cell_view (SlOk.cellF0 (E := eInt) (SlOk.mono hs9 hV6) hi15 (fun _ _ _ h => h) rfl))) ?_
       refine TQ.pure (pB b2 0) (by kernel_rfl) (fun _ => by kernel_rfl) ?_
       refine TQ.pure (pB b2 0) (by kernel_rfl) (fun _ => by kernel_rfl) ?_
       refine TQ.pure (pB b2 2) (by kernel_rfl) (fun _ => by kernel_rfl) ?_
       refine TQ.look (vi p1) (by kernel_rfl) (ld1 2 rfl rfl (fun _ => by kernel_rfl) (by rfl) rfl) ?_
       refine TQ.pure (.bool (decide (p1 < e5))) (by kernel_rfl) (fun _ => by kernel_rfl) ?_
       refine TQ.nil ?_
       refine T.cond (decide (p1 < e5)) (by kernel_rfl) (by kernel_rfl) (fun hc8 => ?_) (fun hc8 => ?_)
       ·
        rw [hc8, cond_true] at hX3
        refine T.region (T.p2 (pB b2 0) (vi e4) (fun _ => by kernel_rfl) ?_)
        obtain ⟨q5, hz4, hX3⟩ := ob hX3
        refine T.step (W1.callI 61 [pB b2 0, vi e4] (fun v w' => ∃ (z11 : List DElem) (z12 : Int), q5 = (z11, z12) ∧ ∃ (A21 : Option Addr) (c21 : Nat) (V9 : View), View.le V6 V9 ∧ v = .tuple #[] ∧ Hp w V9 ((row 28 eElem A21 c21 z11) :: (box b2 106 [vi p0.root, .slice A1 p0.nodes.length c1, vi p1, .slice A21 z11.length c21, vi z12]) :: i2_ :: G2) w') (by kernel_rfl) (fun _ => by kernel_rfl) (fun w' hh => ih1 _ _ hz4 x6 x7 e4 rfl A18 c18 V6 (i2_ :: G2) w' (vt hV4 hV6) ((hh.sub (kp2 (kp1 kpr))).perm (pt sw0 (pc1 (pt sw0 pz))))) ?_)
        rintro v w' ⟨z11, z12, rfl, A21, c21, V9, hV9, rfl, hh⟩
        try dsimp only at hX3
        refine ⟨V9, (i2_ :: (row 28 eElem A21 c21 z11) :: (box b2 106 [vi p0.root, .slice A1 p0.nodes.length c1, vi p1, .slice A21 z11.length c21, vi z12]) :: G2), (hh.sub (kp2 (kp1 kpr))).perm (pt sw1 (pt sw0 pz)), ?_⟩
        clear hh
        refine T.nil ?_
        cases hX3
        exact fun a w' hf hh => ⟨z11, z12, rfl, A21, c21, V9, hV9, (Fr.sel hf rfl), (hh.sub (kp2 (kp1 kpr)))⟩
       rw [hc8, cond_false] at hX3
       refine T.skip_code ?_
       cases hX3
       exact fun a w' hf hh => ⟨x6, x7, rfl, A18, c18, V6, vr, (Fr.sel hf rfl), (hh.sub (kp2 (kp1 kpr)))⟩
      rintro a w' ⟨z9, z10, rfl, A20, c20, V8, hV8, hf, hh⟩
      try dsimp only at hY2
      refine (?_ : T 71 w V8 (i2_ :: (row 28 eElem A20 c20 z9) :: (box b2 106 [vi p0.root, .slice A1 p0.nodes.length c1, vi p1, .slice A20 z9.length c20, vi z10]) :: G2) [(0, pB b2 0), (4, pB b3 0), (50, .slice A10 e2.kids.length c10), (51, vi (e2.kids.length : Int)), (52, vi x8)] _) a w' hf hh
      clear hf hh
      refine T.region (T.p2 (vi (IntKind.i64.wrap (x8 + 1))) (vi (IntKind.i64.wrap (x8 + 1))) (fun _ => by kernel_rfl) (T.nil ?_))
      cases hY2
      exact fun a w' hf hh => ⟨(z9, z10, IntKind.i64.wrap (x8 + 1)), rfl, z9, z10, (IntKind.i64.wrap (x8 + 1)), rfl, A20, c20, V8, (vt hV6 hV8), (Fr.sel hf rfl), (hh.sub (kp2 (kp1 kpr)))⟩
     rw [hc7, cond_false] at hY2
     refine T.exit ?_
     cases hY2
     cases (hr4 _ rfl)
     exact fun a w' hf hh => ⟨x6, x7, rfl, A18, c18, V6, hV6, (Fr.nil hf), (hh.sub (dr1 (kp1 (kp1 kpr))))⟩
    rintro a w' ⟨z7, z8, rfl, A19, c19, V7, hV7, hf, hh⟩
    try dsimp only at hS1
    refine (?_ : T 71 w V7 ((row 28 eElem A19 c19 z7) :: (box b2 106 [vi p0.root, .slice A1 p0.nodes.length c1, vi p1, .slice A19 z7.length c19, vi z8]) :: G2) [] _) a w' hf hh
    clear hf hh
    have hres := Option.some.inj hS1
    subst hres
    exact T.end0 rfl  fun w' hh => ⟨_, rfl, ⟨z7, z8, rfl, A19, c19, V7, hV7, rfl, (hh.sub (kp1 (kp1 kpr)))⟩⟩
   let i5_ : HObj := box b1 24 v6_
   refine T.step (W1.callI 61 [pB b2 0, vi p0.root] (fun v w' => ∃ (z13 : List DElem) (z14 : Int), q2 = (z13, z14) ∧ ∃ (A22 : Option Addr) (c22 : Nat) (V10 : View), View.le V3 V10 ∧ v = .tuple #[] ∧ Hp w V10 ((row 28 eElem A22 c22 z13) :: (box b2 106 [vi p0.root, .slice A1 p0.nodes.length c1, vi p1, .slice A22 z13.length c22, vi z14]) :: i5_ :: []) w') (by kernel_rfl) (fun _ => by kernel_rfl) (fun w' hh => hq1 [] 0 p0.root rfl none 0 V3 (i5_ :: []) w' vr (hh.sub (kp2 (kp1 kp0)))) ?_)
   rintro v w' ⟨z13, z14, rfl, A22, c22, V10, hV10, rfl, hh⟩
   try dsimp only at hX1
   refine ⟨_, _, hh, ?_⟩
   clear hh
   refine T.nil ?_
   cases hX1
   exact fun a w' hf hh => ⟨z13, z14, rfl, A22, c22, V10, (vt hV3 hV10), (Fr.sel hf rfl), (hh.sub (kp2 (dr1 kp0)))⟩
  rw [hc3, cond_false] at hX1
  refine T.skip_code ?_
  refine T.rownil 28 eElem ?_
  cases hX1
  exact fun a w' hf hh => ⟨[], 0, rfl, none, 0, V3, hV3, (Fr.sel hf rfl), (hh.sub (kp2 (dr1 kp0)))⟩
 rintro a w' ⟨z1, z2, rfl, A2, c2, V2, hV2, hf, hh⟩
 try dsimp only at hF
 refine (?_ : T 39 w V2 ((row 28 eElem A2 c2 z1) :: (box b2 106 [vi p0.root, .slice A1 p0.nodes.length c1, vi p1, .slice A2 z1.length c2, vi z2]) :: []) [(8, pB b2 0)] _) a w' hf hh
 clear hf hh
 refine T.seq ?_
 refine T.quiet (by kernel_rfl) (by kernel_rfl) ?_
 refine TQ.pure (pB b2 0) (by kernel_rfl) (fun _ => by kernel_rfl) ?_
 refine TQ.pure (pB b2 0) (by kernel_rfl) (fun _ => by kernel_rfl) ?_
 refine TQ.pure (pB b2 3) (by kernel_rfl) (fun _ => by kernel_rfl) ?_
 refine TQ.look (.slice A2 z1.length c2) (by kernel_rfl) (ld1 1 rfl rfl (fun _ => by kernel_rfl) (by rfl) rfl) ?_
 refine TQ.pure (pB b2 0) (by kernel_rfl) (fun _ => by kernel_rfl) ?_
 refine TQ.pure (pB b2 0) (by kernel_rfl) (fun _ => by kernel_rfl) ?_
 refine TQ.pure (pB b2 4) (by kernel_rfl) (fun _ => by kernel_rfl) ?_
 refine TQ.look (vi z2) (by kernel_rfl) (ld1 1 rfl rfl (fun _ => by kernel_rfl) (by rfl) rfl) ?_
 refine TQ.pure (.slice A2 z1.length c2) (by kernel_rfl) (fun _ => by kernel_rfl) ?_
 refine TQ.pure (vi z2) (by kernel_rfl) (fun _ => by kernel_rfl) ?_
 refine TQ.pure (vi 0) (by kernel_rfl) (fun _ => by kernel_rfl) ?_
 refine TQ.nil ?_
 cases hF
 refine T.ret rfl ?_
 exact T.ret3 rfl (ResIs.tmp rfl) (ResIs.tmp rfl) (ResIs.tmp rfl) fun w' hh => ⟨_, rfl, hh.below, (vT3.mk ⟨_, _, rfl, (hh.row_fresh (i := 0) (by rfl) (fun _ h => h))⟩ (show _ from rfl) (show _ from rfl))⟩
end Go.Proofs.Ytcmkdoahkncakaa
