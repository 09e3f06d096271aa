/- The Go functions of group FindF compute the pure functions of that group: written by walkgen.py. Condition of each: the pure function yields a result. -/
import Derived.Test.YtcmkdoahkncakaaSh2Q
import Derived.Test.YtcmkdoahkncakaaTreeLQ
import Derived.Test.YtcmkdoahkncakaaRangeQ
import Derived.Test.YtcmkdoahkncakaaClearQ
import Derived.Test.YtcmkdoahkncakaaFindFFQ
import Derived.Test.YtcmkdoahkncakaaEqLQ
namespace Go.Proofs.Ytcmkdoahkncakaa
set_option linter.unusedVariables false
set_option linter.defProp false
def ipFindFL_1 := info_parts (P := Try.prog) (e := 28) (z := .agg #[.int .i64 0, .int .i64 0, .int .i64 0, .int .i64 0, .int .i64 0, .string (ByteArray.mk #[])]) (size := 6) (bytes := 56) (by kernel_rfl)
set_option maxRecDepth 100000 in
set_option maxHeartbeats 4000000 in
theorem find_From_l (F : Nat) (p0 : DTree) (p1 : DSpot) (p2 : Int) (r : ((List DElem)) × Int) (hF : find_From F p0 p1 p2 = some r) (w : World) (A1 : Option Addr) (c1 : Nat) (hs1 : SlOk (vw w) eNode A1 c1 p0.nodes) :
 Calls Try.prog 32 #[.agg #[.int .i64 p0.root, .slice A1 p0.nodes.length c1], .agg #[.int .i64 p1.key.pfs, .int .i64 p1.key.obj, .int .i64 p1.key.off, .int .i64 p1.made], .int .i64 p2] w (Post (vT2 (vSc (eList eElem)) (vSc eInt)) r w) := by
 unfold find_From at hF
 let a56_ : Value := .agg #[vi p0.root, .slice A1 p0.nodes.length c1]
 let a57_ : Value := .agg #[vi p1.key.pfs, vi p1.key.obj, vi p1.key.off, vi p1.made]
 refine T.startM (l := [a56_, a57_, vi p2]) Try.func32 rfl rfl rfl ?_
 refine T.seq (T.region ?_)
 let v45_ : List Value := [vi p0.root, .slice A1 p0.nodes.length c1]
 refine T.step (W1.np 24 v45_ (fun _ => by kernel_rfl) (fun b1 => ?_))
 let v46_ : List Value := [vi p1.key.pfs, vi p1.key.obj, vi p1.key.off, vi p1.made]
 refine T.step (W1.np 43 v46_ (fun _ => by kernel_rfl) (fun b2 => ?_))
 refine T.step (W1.np 3 [vi p2] (fun _ => by kernel_rfl) (fun b3 => ?_))
 refine T.p2 sN (vi 0) (fun _ => by kernel_rfl) (T.nil (T.seq (T.seq (T.region (T.look a56_ (by kernel_rfl) (ldN 2 rfl rfl (fun _ => by kernel_rfl) (by rfl) rfl) ?_)))))
 obtain ⟨r1, hb1, hF⟩ := ob hF
 refine T.step (W1.call (vSc eInt) r1 47 #[a56_] (by kernel_rfl) (fun _ => by kernel_rfl) (fun w' hh => tree_Check_l F p0 r1 hb1 w' A1 c1 (SlOk.mono hs1 hh.view)) ?_)
 intro u V1 hV1 hu
 obtain rfl := sureInt _ _ _ hu
 refine T.pk (vi r1) (fun _ => by kernel_rfl) (T.nil (T.seq (T.region (T.p2 (vi r1) (.bool (r1 != 0)) (fun _ => by kernel_rfl) (T.nil ?_)))))
 refine T.cond (r1 != 0) (by kernel_rfl) (by kernel_rfl) (fun hc1 => ?_) (fun hc1 => ?_)
 ·
  rw [hc1, cond_true] at hF
  refine T.seq (T.region (T.p3 (vi r1) sN (vi r1) (fun _ => by kernel_rfl) (T.nil ?_)))
  cases hF
  refine T.ret rfl ?_
  refine T.leaveM ((box b3 3 [vi p2]) :: (box b2 43 v46_) :: (box b1 24 v45_) :: []) [] (fun w' hh => hh.sub (kp2 (kp1 kp0))) ?_
  exact T.ret2 rfl (ResIs.tmp rfl) (ResIs.tmp rfl) fun w' hh => ⟨_, rfl, hh.below, (vT2.mk ⟨_, _, rfl, (SlOk.nil _ _)⟩ (show _ from rfl))⟩
 rw [hc1, cond_false] at hF
 refine T.skip_code ?_
 refine T.seq (T.seq (T.region (T.look (vi p2) (by kernel_rfl) (ld1 0 rfl rfl (fun _ => by kernel_rfl) (by rfl) rfl) ?_)))
 refine T.pk (.bool (decide (p2 < 0))) (fun _ => by kernel_rfl) (T.nil ?_)
 refine T.cond (decide (p2 < 0)) (by kernel_rfl) (by kernel_rfl) (fun hc2 => ?_) (fun hc2 => ?_)
 ·
  rw [hc2, cond_true] at hF
  refine T.seq (T.region (T.p2 sN (vi 1) (fun _ => by kernel_rfl) (T.nil ?_)))
  cases hF
  refine T.ret rfl ?_
  refine T.leaveM ((box b3 3 [vi p2]) :: (box b2 43 v46_) :: (box b1 24 v45_) :: []) [] (fun w' hh => hh.sub (kp2 (kp1 kp0))) ?_
  exact T.ret2 rfl (ResIs.tmp rfl) (ResIs.tmp rfl) fun w' hh => ⟨_, rfl, hh.below, (vT2.mk ⟨_, _, rfl, (SlOk.nil _ _)⟩ (show _ from rfl))⟩
 rw [hc2, cond_false] at hF
 refine T.skip_code ?_
 refine T.seq (T.region (T.step (W1.np 34 [sN] (fun _ => by kernel_rfl) (fun b4 => ?_))))
 refine T.nil ?_
 obtain ⟨z1, hX1, hF⟩ := ob hF
 refine T.cut (fun a w' => ∃ (A2 : Option Addr) (c2 : Nat) (d1 : Nat) (V2 : View), View.le V1 V2 ∧ Fr ⟨31, [d1]⟩ [(9, pB b4 0)] a ∧ Hp w V2 ((row 28 eElem A2 c2 z1) :: (marko d1) :: (box b4 34 [.slice A2 z1.length c2]) :: []) w') ?_ ?_
 ·
  refine T.seq (T.region (T.look a56_ (by kernel_rfl) (ldN 3 rfl rfl (fun _ => by kernel_rfl) (by rfl) rfl) ?_))
  refine T.look a57_ (by kernel_rfl) (ldN 2 rfl rfl (fun _ => by kernel_rfl) (by rfl) rfl) ?_
  let i1_ : HObj := box b2 43 v46_
  let i2_ : HObj := box b1 24 v45_
  let t3_ : List HObj := i1_ :: i2_ :: []
  let t4_ : List HObj := (box b3 3 [vi p2]) :: t3_
  refine T.step (W1.within 59 [a56_, a57_] (fun v w' => ∃ (b6 : Nat) (b5 : Nat), v = .func (.func 83) #[] #[pB b5 0, pB b6 0] ∧ Hp w V1 ((box b6 43 v46_) :: (box b5 24 v45_) :: (box b4 34 [sN]) :: t4_) w') Try.func59 rfl rfl (by kernel_rfl) (fun _ => by kernel_rfl) rfl ?_ ?_)
  ·
   refine T.seq (T.region (T.step (W1.np 24 v45_ (fun _ => by kernel_rfl) (fun b5 => ?_))))
   refine T.step (W1.np 43 v46_ (fun _ => by kernel_rfl) (fun b6 => ?_))
   refine T.pk (.nilFunc) (fun _ => by kernel_rfl) (T.nil (T.seq (T.region (T.p2 (.func (.func 83) #[] #[pB b5 0, pB b6 0]) (.func (.func 83) #[] #[pB b5 0, pB b6 0]) (fun _ => by kernel_rfl) (T.nil ?_)))))
   refine T.ret rfl ?_
   exact T.ret1 rfl (ResIs.tmp rfl) fun w' hh => ⟨_, rfl, ⟨b6, b5, rfl, (hh.sub (kp5 (kp1 kp0)))⟩⟩
  rintro v w' ⟨b6, b5, rfl, hh⟩
  let i5_ : HObj := box b6 43 v46_
  let i6_ : HObj := box b5 24 v45_
  refine ⟨V1, (i5_ :: i6_ :: (box b4 34 [sN]) :: t4_), hh, ?_⟩
  clear hh
  refine T.nil (T.block ?_)
  obtain ⟨q1, hX2, hX1⟩ := ob hX1
  refine T.range (gf := 83) (lb := [pB b5 0, pB b6 0]) (.exit 0) [] (fun l1 d1 lr1 w' => ∃ (z2 : List DElem) (k1 : Nat), q1 = (z2, k1) ∧ ∃ (A3 : Option Addr) (c3 : Nat) (V3 : View), View.le V1 V3 ∧ Hp w V3 [loopo l1 lr1 (.exit 0) [] k1, row 28 eElem A3 c3 z2, marko d1, box b4 34 [.slice A3 z2.length c3]] w') (by kernel_rfl) (by kernel_rfl) (fun _ _ => by kernel_rfl) ?_ ?_
  ·
   intro l1 d1 lr1 hl1 hl2 hl3 hl4 w1 hh
   refine T.startI (l := [.func (.yield l1) #[] #[], pB b5 0, pB b6 0]) Try.func83 rfl rfl rfl ?_ hh
   clear hh
   refine T.region (T.look a56_ (by kernel_rfl) (ldN 3 rfl rfl (fun _ => by kernel_rfl) (by rfl) rfl) ?_)
   refine T.pk (pB b5 0) (fun _ => by kernel_rfl) (T.look (vi p0.root) (by kernel_rfl) (ld1 3 rfl rfl (fun _ => by kernel_rfl) (by rfl) rfl) ?_)
   refine T.look a57_ (by kernel_rfl) (ldN 2 rfl rfl (fun _ => by kernel_rfl) (by rfl) rfl) ?_
   refine T.pk (.func (.yield l1) #[] #[]) (fun _ => by kernel_rfl) ?_
   refine T.rownil 28 eElem ?_
   obtain ⟨q2, hz1, hX2⟩ := ob hX2
   refine (have hq1 := fix_rec (fun (s_ : (List DElem) × Int) (r_ : (List DElem) × Nat) => ∀ (x1 : List DElem) (x2 : Int), s_ = (x1, x2) → ∀ (A4 : Option Addr) (c4 : Nat) (V4 : View) (G2 : List HObj) (w1 : World), View.le V1 V4 → Hp w V4 ((row 28 eElem A4 c4 x1) :: (loopo l1 lr1 (.exit 0) [] 0) :: (marko d1) :: (box b4 34 [.slice A4 x1.length c4]) :: (box b3 3 [vi p2]) :: G2) w1 → Calls Try.prog 84 #[a56_, vi x2, a57_, .func (.yield l1) #[] #[]] w1 (fun e w2 => ∃ v, e = .returned v ∧ ∃ (z3 : List DElem) (k2 : Nat), r_ = (z3, k2) ∧ ∃ (A5 : Option Addr) (c5 : Nat) (V5 : View), View.le V4 V5 ∧ v = .bool (isz k2) ∧ Hp w V5 ((row 28 eElem A5 c5 z3) :: (loopo l1 lr1 (.exit 0) [] k2) :: (marko d1) :: (box b4 34 [.slice A5 z3.length c5]) :: (box b3 3 [vi p2]) :: G2) w2)) hz1 ?_; ?_)
   ·
    rintro rf2 ih1 s_ r_ hS1 x1 x2 rfl A4 c4 V4 G2 w1 hV4 hh
    try dsimp only at hS1
    refine T.startI (l := [a56_, vi x2, a57_, .func (.yield l1) #[] #[]]) Try.func84 rfl rfl rfl ?_ hh
    clear hh
    refine T.seq (T.region (T.step (W1.np 24 v45_ (fun _ => by kernel_rfl) (fun b7 => ?_))))
    refine T.step (W1.np 43 v46_ (fun _ => by kernel_rfl) (fun b8 => ?_))
    refine T.pk (.bool false) (fun _ => by kernel_rfl) (T.nil (T.seq (T.region (T.pk (pB b7 1) (fun _ => by kernel_rfl) (T.look (.slice A1 p0.nodes.length c1) (by kernel_rfl) (ld1 1 rfl rfl (fun _ => by kernel_rfl) (by rfl) rfl) ?_)))))
    refine T.pk (vi x2) (fun _ => by kernel_rfl) ?_
    obtain ⟨e1, hb2, hS1⟩ := ob hS1
    obtain ⟨hi1, hi2, hi3⟩ := idx_some hb2
    obtain ⟨cs1, hr1, hc3⟩ := SlOk.elem (SlOk.mono hs1 (vt hV1 hV4)) hi3
    obtain ⟨A6, c6, A7, c7, A8, c8, A9, c9, rfl, hs2, hs3, hs4, hs5⟩ := hr1
    refine T.look (.pointer (some ((sadr A1).add (x2.toNat * 5)))) (by kernel_rfl) (fun w' hh => exec_indexAddr (e := 97) (s := 5) rfl rfl rfl (by kernel_rfl) (by kernel_rfl) hi1 hi2 ((SlOk.mono hs1 (vt hV1 hV4)).some_ hi3 (by decide))) ?_
    let v47_ : List Value := [vi e1.kind, .slice A6 e1.elems.length c6, .slice A7 e1.kids.length c7, .slice A8 e1.seps.length c8, .slice A9 e1.tids.length c9]
    let a58_ : Value := .agg #[vi e1.kind, .slice A6 e1.elems.length c6, .slice A7 e1.kids.length c7, .slice A8 e1.seps.length c8, .slice A9 e1.tids.length c9]
    refine T.look a58_ (by kernel_rfl) (fun w' hh => exec_loadN (cs := v47_) rfl rfl (by kernel_rfl) (by kernel_rfl) (fun j u hj => hh.cell_view (View.cell_mono vr (hc3 j u hj).2))) ?_
    refine T.step (W1.np 97 [vi 0, sN, sN, sN, sN] (fun _ => by kernel_rfl) (fun b9 => ?_))
    let i7_ : HObj := box b9 97 v47_
    let i8_ : HObj := box b8 43 v46_
    let i9_ : HObj := box b7 24 v45_
    refine T.step (W1.st 0 v47_ (i7_ :: i8_ :: i9_ :: (row 28 eElem A4 c4 x1) :: (loopo l1 lr1 (.exit 0) [] 0) :: (marko d1) :: (box b4 34 [.slice A4 x1.length c4]) :: (box b3 3 [vi p2]) :: G2) v47_ (by rfl) rfl rfl rfl rfl rfl rfl (fun _ => by kernel_rfl) ?_)
    refine T.nil (T.seq (T.seq (T.region (T.pk (pB b9 1) (fun _ => by kernel_rfl) (T.look (.slice A6 e1.elems.length c6) (by kernel_rfl) (ld1 0 rfl rfl (fun _ => by kernel_rfl) (by rfl) rfl) ?_)))))
    refine T.p2 (vi (e1.elems.length : Int)) (vi 0) (fun _ => by kernel_rfl) (T.nil ?_)
    obtain ⟨q3, hz2, hS1⟩ := ob hS1
    refine T.mid (fun a w' => ∃ (z4 : List DElem), q3 = Sum.inl z4 ∧ ∃ (A11 : Option Addr) (c11 : Nat) (V7 : View), View.le V4 V7 ∧ Fr 59 [(3, .func (.yield l1) #[] #[]), (4, pB b7 0), (6, pB b8 0), (9, pB b9 0)] a ∧ Hp w V7 (i7_ :: i8_ :: i9_ :: (row 28 eElem A11 c11 z4) :: (loopo l1 lr1 (.exit 0) [] 0) :: (marko d1) :: (box b4 34 [.slice A11 z4.length c11]) :: (box b3 3 [vi p2]) :: G2) w') ?_ ?_
    ·
     refine T.block ?_
     refine T.iter (fun s1 a w' => ∃ (x3 : List DElem) (x4 : Int), s1 = (x3, x4) ∧ ∃ (A10 : Option Addr) (c10 : Nat) (V6 : View), View.le V4 V6 ∧ Fr 59 [(3, .func (.yield l1) #[] #[]), (4, pB b7 0), (6, pB b8 0), (9, pB b9 0), (20, .slice A6 e1.elems.length c6), (21, vi (e1.elems.length : Int)), (22, vi x4)] a ∧ Hp w V6 (i7_ :: i8_ :: i9_ :: (row 28 eElem A10 c10 x3) :: (loopo l1 lr1 (.exit 0) [] 0) :: (marko d1) :: (box b4 34 [.slice A10 x3.length c10]) :: (box b3 3 [vi p2]) :: G2) w') hz2 ?_ ?_
     ·
      exact fun a w' hf hh => ⟨x1, 0, rfl, A4, c4, V4, vr, (Fr.sel hf rfl), (hh.sub (kp7 (kp1 kpr)))⟩
     rintro s1 y1 hY1 hr2 a w' ⟨x3, x4, rfl, A10, c10, V6, hV6, hf, hh⟩
     let i10_ : HObj := box b4 34 [.slice A10 x3.length c10]
     let t11_ : List HObj := i10_ :: (box b3 3 [vi p2]) :: G2
     let t12_ : List HObj := (marko d1) :: t11_
     let t13_ : List HObj := (loopo l1 lr1 (.exit 0) [] 0) :: t12_
     let t14_ : List HObj := (row 28 eElem A10 c10 x3) :: t13_
     let t15_ : List HObj := i9_ :: t14_
     let t16_ : List HObj := i8_ :: t15_
     let t17_ : List HObj := i7_ :: t16_
     refine (?_ : T 59 w V6 t17_ [(3, .func (.yield l1) #[] #[]), (4, pB b7 0), (6, pB b8 0), (9, pB b9 0), (20, .slice A6 e1.elems.length c6), (21, vi (e1.elems.length : Int)), (22, vi x4)] _) a w' hf hh
     clear hf hh
     try dsimp only at hY1
     refine T.seq (T.region (T.pk (.bool (decide (x4 < (e1.elems.length : Int)))) (fun _ => by kernel_rfl) (T.nil (T.seq ?_))))
     refine T.cond (decide (x4 < (e1.elems.length : Int))) (by kernel_rfl) (by kernel_rfl) (fun hc4 => ?_) (fun hc4 => ?_)
     ·
      rw [hc4, cond_true] at hY1
      refine T.skip_code ?_
      refine T.seq (T.block (T.seq (T.region ?_)))
      obtain ⟨e2, hb3, hY1⟩ := ob hY1
      obtain ⟨hi4, hi5, hi6⟩ := idx_some hb3
      refine T.look (.pointer (some ((sadr A6).add (x4.toNat * 6)))) (by kernel_rfl) (fun w' hh => exec_indexAddr (e := 28) (s := 6) rfl rfl rfl (by kernel_rfl) (by kernel_rfl) hi4 hi5 ((SlOk.mono hs2 hV6).some_ hi6 (by decide))) ?_
      let v48_ : List Value := [vi e2.key.pfs, vi e2.key.obj, vi e2.key.off, vi e2.made, vi e2.gone, .string e2.val]
      let a59_ : Value := .agg #[vi e2.key.pfs, vi e2.key.obj, vi e2.key.off, vi e2.made, vi e2.gone, .string e2.val]
      refine T.look a59_ (by kernel_rfl) (fun w' hh => exec_loadN (cs := v48_) rfl rfl (by kernel_rfl) (by kernel_rfl) (fun j u hj => (hh.cell_view (SlOk.cellF (E := eElem) (SlOk.mono hs2 hV6) hi6 j (fun _ _ _ h => h) hj)))) ?_
      let v49_ : List Value := [vi 0, vi 0, vi 0, vi 0, vi 0, .string (ByteArray.mk #[])]
      refine T.step (W1.np 28 v49_ (fun _ => by kernel_rfl) (fun b10 => ?_))
      let i18_ : HObj := box b10 28 v48_
      let t19_ : List HObj := i18_ :: t17_
      refine T.step (W1.st 0 v48_ t19_ v48_ (by rfl) rfl rfl rfl rfl rfl rfl (fun _ => by kernel_rfl) ?_)
      refine T.nil ?_
      obtain ⟨q4, hX3, hY1⟩ := ob hY1
      refine T.cut (fun a w' => ∃ (z5 : List DElem) (k3 : Nat), q4 = (z5, k3) ∧ ∃ (A12 : Option Addr) (c12 : Nat) (V8 : View), View.le V6 V8 ∧ Fr 59 [(3, .func (.yield l1) #[] #[]), (4, pB b7 0), (6, pB b8 0), (9, pB b9 0), (20, .slice A6 e1.elems.length c6), (21, vi (e1.elems.length : Int)), (22, vi x4), (36, .bool (!(isz k3)))] a ∧ Hp w V8 (i7_ :: i8_ :: i9_ :: (row 28 eElem A12 c12 z5) :: (loopo l1 lr1 (.exit 0) [] k3) :: (marko d1) :: (box b4 34 [.slice A12 z5.length c12]) :: (box b3 3 [vi p2]) :: G2) w') ?_ ?_
      ·
       refine T.anyI (by kernel_rfl) ?_
       refine TI.all [0, 2] (by kernel_rfl) rfl ⟨?_, ?_, trivial⟩
       ·
        refine TI.br rfl (W1.toR (W1.look a59_ (by kernel_rfl) (ldN 0 rfl rfl (fun _ => by kernel_rfl) (by rfl) rfl) ?_))
        refine TI.all [1, 2] (by kernel_rfl) rfl ⟨?_, ?_, trivial⟩
        ·
         obtain ⟨r3, hb4, hX3⟩ := ob hX3
         refine TI.br rfl <| W1.toR (W1.call (vAg eSpot) r3 22 #[a59_] (by kernel_rfl) (fun _ => by kernel_rfl) (fun w' hh => elem_Spot_l e2 r3 hb4 w' ) ?_)
         intro u V9 hV9 hu
         obtain rfl := sureSpot _ _ _ hu
         refine TI.all [2] (by kernel_rfl) rfl ⟨?_, trivial⟩
         refine TI.br rfl (W1.toR (W1.look a57_ (by kernel_rfl) (ldN 2 rfl rfl (fun _ => by kernel_rfl) (by rfl) rfl) ?_))
         refine TI.all [3] (by kernel_rfl) rfl ⟨?_, trivial⟩
         obtain ⟨r4, hb5, hX3⟩ := ob hX3
         refine TI.br rfl <| W1.toR (W1.call (vSc eInt) r4 62 #[.agg #[vi r3.key.pfs, vi r3.key.obj, vi r3.key.off, vi r3.made], a57_] (by kernel_rfl) (fun _ => by kernel_rfl) (fun w' hh => key_CmpSpot_l r3 p1 r4 hb5 w' ) ?_)
         intro u V10 hV10 hu
         obtain rfl := sureInt _ _ _ hu
         refine TI.all [4] (by kernel_rfl) rfl ⟨?_, trivial⟩
         refine TI.br rfl (W1.toR (W1.look (.bool (decide ((0 : Int) ≤ r4))) (by kernel_rfl) (fun _ _ => by kernel_rfl) ?_))
         refine TI.all [5] (by kernel_rfl) rfl ⟨?_, trivial⟩
         refine TI.br rfl (W1.toR (W1.look (.bool (decide ((0 : Int) ≤ r4))) (by kernel_rfl) (fun _ _ => by kernel_rfl) ?_))
         cases hg1 : decide ((0 : Int) ≤ r4)
         ·
          rw [hg1, cond_false] at hX3
          refine TI.all [6, 7] (by kernel_rfl) rfl ⟨?_, ?_, trivial⟩
          ·
           refine TI.no rfl (by kernel_rfl) (by kernel_rfl) ?_
           refine TI.all [7] (by kernel_rfl) rfl ⟨?_, trivial⟩
           refine TI.no rfl (by kernel_rfl) (by kernel_rfl) ?_
           refine TI.all [8] (by kernel_rfl) rfl ⟨?_, trivial⟩
           refine TI.no rfl (by kernel_rfl) (by kernel_rfl) ?_
           refine TI.all [9] (by kernel_rfl) rfl ⟨?_, trivial⟩
           refine TI.no rfl (by kernel_rfl) (by kernel_rfl) ?_
           refine TI.all [10] (by kernel_rfl) rfl ⟨?_, trivial⟩
           refine TI.br rfl (W1.toR (W1.look (.bool false) (by kernel_rfl) (fun _ _ => by kernel_rfl) ?_))
           refine TI.done (by kernel_rfl) ?_
           cases hX3
           exact fun a w' hf hh => ⟨x3, 0, rfl, A10, c10, V10, (vt hV9 hV10), (Fr.sel hf rfl), (hh.sub (dr1 (kp7 (kp1 kpr))))⟩
          refine TI.no rfl (by kernel_rfl) (by kernel_rfl) ?_
          refine TI.all [6] (by kernel_rfl) rfl ⟨?_, trivial⟩
          refine TI.no rfl (by kernel_rfl) (by kernel_rfl) ?_
          refine TI.all [8] (by kernel_rfl) rfl ⟨?_, trivial⟩
          refine TI.no rfl (by kernel_rfl) (by kernel_rfl) ?_
          refine TI.all [9] (by kernel_rfl) rfl ⟨?_, trivial⟩
          refine TI.no rfl (by kernel_rfl) (by kernel_rfl) ?_
          refine TI.all [10] (by kernel_rfl) rfl ⟨?_, trivial⟩
          refine TI.br rfl (W1.toR (W1.look (.bool false) (by kernel_rfl) (fun _ _ => by kernel_rfl) ?_))
          refine TI.done (by kernel_rfl) ?_
          cases hX3
          exact fun a w' hf hh => ⟨x3, 0, rfl, A10, c10, V10, (vt hV9 hV10), (Fr.sel hf rfl), (hh.sub (dr1 (kp7 (kp1 kpr))))⟩
         rw [hg1, cond_true] at hX3
         refine TI.all [6, 7] (by kernel_rfl) rfl ⟨?_, ?_, trivial⟩
         ·
          refine TI.br rfl (W1.toR (W1.look (.func (.yield l1) #[] #[]) (by kernel_rfl) (fun _ _ => by kernel_rfl) ?_))
          refine TI.all [7] (by kernel_rfl) rfl ⟨?_, trivial⟩
          refine TI.br rfl (W1.toR (W1.look a59_ (by kernel_rfl) (ldN 0 rfl rfl (fun _ => by kernel_rfl) (by rfl) rfl) ?_))
          refine TI.all [8] (by kernel_rfl) rfl ⟨?_, trivial⟩
          obtain ⟨q5, hX4, hX3⟩ := ob hX3
          refine TI.br rfl (W1R.yield 5 l1 (fun v w' => ∃ (z6 : List DElem) (k4 : Nat), q5 = (z6, k4) ∧ ∃ (A13 : Option Addr) (c13 : Nat), v = .bool (isz k4) ∧ Hp w V10 (i18_ :: i7_ :: i8_ :: i9_ :: (row 28 eElem A13 c13 z6) :: (loopo l1 lr1 (.exit 0) [] k4) :: (marko d1) :: (box b4 34 [.slice A13 z6.length c13]) :: (box b3 3 [vi p2]) :: G2) w') (by rfl) hl1 hl2 hl3 hl4 (by rfl) (by kernel_rfl) rfl (by kernel_rfl) rfl ?_ ?_)
          ·
           refine T.region (T.step (W1.np 28 v49_ (fun _ => by kernel_rfl) (fun b11 => ?_)))
           let i20_ : HObj := box b11 28 v48_
           refine T.step (W1.st 0 v48_ (i20_ :: t19_) v48_ (by rfl) rfl rfl rfl rfl rfl rfl (fun _ => by kernel_rfl) ?_)
           refine T.nil ?_
           refine T.unthenN ?_
           refine T.begin 6 (i20_ :: i18_ :: i7_ :: i8_ :: i9_ :: (row 28 eElem A10 c10 x3) :: (busyo l1 lr1) :: t12_) (by rfl) rfl ?_
           refine T.block (T.seq (T.seq (T.region (T.look (.slice A10 x3.length c10) (by kernel_rfl) (ld1 8 rfl rfl (fun _ => by kernel_rfl) (by rfl) rfl) ?_))))
           refine T.pk (vi (x3.length : Int)) (fun _ => by kernel_rfl) (T.look (vi p2) (by kernel_rfl) (ld1 9 rfl rfl (fun _ => by kernel_rfl) (by rfl) rfl) ?_)
           refine T.pk (.bool ((x3.length : Int) == p2)) (fun _ => by kernel_rfl) (T.nil ?_)
           refine T.cond ((x3.length : Int) == p2) (by kernel_rfl) (by kernel_rfl) (fun hc5 => ?_) (fun hc5 => ?_)
           ·
            rw [hc5, cond_true] at hX4
            refine T.exit ?_
            cases hX4
            repeat first | refine T.unthenX ?_ | refine T.unblockX rfl ?_
            exact T.roundExit (.exit 0) [] 0 6 (i20_ :: i18_ :: i7_ :: i8_ :: i9_ :: (row 28 eElem A10 c10 x3) :: (loopo l1 lr1 (.exit 0) [] (0 + 1)) :: t12_) (by rfl) rfl rfl (fun w' hh => ⟨_, rfl, ⟨x3, (0 + 1), rfl, A10, c10, rfl, (hh.sub (dr1 (kp8 (kp1 kpr))))⟩⟩)
           rw [hc5, cond_false] at hX4
           refine T.skip_code ?_
           refine T.region (T.look (.slice A10 x3.length c10) (by kernel_rfl) (ld1 8 rfl rfl (fun _ => by kernel_rfl) (by rfl) rfl) ?_)
           refine T.look a59_ (by kernel_rfl) (ldN 0 rfl rfl (fun _ => by kernel_rfl) (by rfl) rfl) ?_
           refine T.step (W1.ns 28 v48_ (fun _ => by kernel_rfl) (fun b12 => ?_))
           obtain ⟨y2, hb6, hX4⟩ := ob hX4
           obtain ⟨hb6_r, hb6_m, rfl⟩ := grow_some hb6
           obtain ⟨ti, hti, hz1, hz2, hz3⟩ := ipFindFL_1
           refine T.step (W1.append (E := eElem) (l := x3) (m := [e2]) 6 _ _ 56 ti _ (by rfl) (by kernel_rfl) rfl (by kernel_rfl) hti hz1 hz2 hz3 rfl (by decide) rfl rfl (fun w' hh => (SlOk.srcF (slok_lit (E := eElem) (f := DElem.cells) [e2] (fun _ _ => rfl) (Nat.le_of_ble_eq_true (by rfl)) (fun j => hh.cellBox (i := 0) (by rfl) j)) (fun _ _ _ _ h => h))) hb6_r hb6_m (fun A14 c14 => ?_))
           let i21_ : HObj := box b12 28 v48_
           let i22_ : HObj := row 28 eElem A14 c14 (x3 ++ [e2])
           let v50_ : List Value := [.slice A14 ((x3 ++ [e2]).length) c14]
           let i23_ : HObj := box b4 34 v50_
           refine T.step (W1.st 9 v50_ (i21_ :: i20_ :: i18_ :: i7_ :: i8_ :: i9_ :: i22_ :: (busyo l1 lr1) :: (marko d1) :: i23_ :: (box b3 3 [vi p2]) :: G2) v50_ (by rfl) rfl rfl rfl rfl rfl rfl (fun _ => by kernel_rfl) ?_)
           refine T.nil ?_
           cases hX4
           repeat first | refine T.unthenN ?_ | refine T.unblockN ?_
           exact T.roundEnd (.exit 0) [] 7 (i21_ :: i20_ :: i18_ :: i7_ :: i8_ :: i9_ :: i22_ :: (loopo l1 lr1 (.exit 0) [] 0) :: (marko d1) :: i23_ :: (box b3 3 [vi p2]) :: G2) (by rfl) rfl (fun w' hh => ⟨_, rfl, ⟨(x3 ++ [e2]), 0, rfl, A14, c14, rfl, (hh.sub (dr2 (kp8 (kp1 kpr))))⟩⟩)
          rintro v w' ⟨z6, k4, rfl, A13, c13, rfl, hh⟩
          try dsimp only at hX3
          refine ⟨V10, (i18_ :: i7_ :: i8_ :: i9_ :: (row 28 eElem A13 c13 z6) :: (loopo l1 lr1 (.exit 0) [] k4) :: (marko d1) :: (box b4 34 [.slice A13 z6.length c13]) :: (box b3 3 [vi p2]) :: G2), hh, ?_⟩
          clear hh
          cases k4 with
          | zero =>
           rw [natCase_zero] at hX3
           refine TI.all [9] (by kernel_rfl) rfl ⟨?_, trivial⟩
           refine TI.br rfl (W1.toR (W1.look (.bool false) (by kernel_rfl) (fun _ _ => by kernel_rfl) ?_))
           refine TI.all [10] (by kernel_rfl) rfl ⟨?_, trivial⟩
           refine TI.br rfl (W1.toR (W1.look (.bool false) (by kernel_rfl) (fun _ _ => by kernel_rfl) ?_))
           refine TI.done (by kernel_rfl) ?_
           cases hX3
           exact fun a w' hf hh => ⟨z6, 0, rfl, A13, c13, V10, (vt hV9 hV10), (Fr.sel hf rfl), (hh.sub (dr1 (kp7 (kp1 kpr))))⟩
          | succ k5 =>
           rw [natCase_succ] at hX3
           refine TI.all [9] (by kernel_rfl) rfl ⟨?_, trivial⟩
           refine TI.br rfl (W1.toR (W1.look (.bool true) (by kernel_rfl) (fun _ _ => by kernel_rfl) ?_))
           refine TI.all [10] (by kernel_rfl) rfl ⟨?_, trivial⟩
           refine TI.br rfl (W1.toR (W1.look (.bool true) (by kernel_rfl) (fun _ _ => by kernel_rfl) ?_))
           refine TI.done (by kernel_rfl) ?_
           cases hX3
           exact fun a w' hf hh => ⟨z6, (k5 + 1), rfl, A13, c13, V10, (vt hV9 hV10), (Fr.sel hf rfl), (hh.sub (dr1 (kp7 (kp1 kpr))))⟩
         refine TI.br rfl (W1.toR (W1.look a59_ (by kernel_rfl) (ldN 0 rfl rfl (fun _ => by kernel_rfl) (by rfl) rfl) ?_))
         refine TI.all [6] (by kernel_rfl) rfl ⟨?_, trivial⟩
         refine TI.br rfl (W1.toR (W1.look (.func (.yield l1) #[] #[]) (by kernel_rfl) (fun _ _ => by kernel_rfl) ?_))
         refine TI.all [8] (by kernel_rfl) rfl ⟨?_, trivial⟩
         obtain ⟨q5, hX4, hX3⟩ := ob hX3
         refine TI.br rfl (W1R.yield 5 l1 (fun v w' => ∃ (z6 : List DElem) (k4 : Nat), q5 = (z6, k4) ∧ ∃ (A13 : Option Addr) (c13 : Nat), v = .bool (isz k4) ∧ Hp w V10 (i18_ :: i7_ :: i8_ :: i9_ :: (row 28 eElem A13 c13 z6) :: (loopo l1 lr1 (.exit 0) [] k4) :: (marko d1) :: (box b4 34 [.slice A13 z6.length c13]) :: (box b3 3 [vi p2]) :: G2) w') (by rfl) hl1 hl2 hl3 hl4 (by rfl) (by kernel_rfl) rfl (by kernel_rfl) rfl ?_ ?_)
         ·
          refine T.region (T.step (W1.np 28 v49_ (fun _ => by kernel_rfl) (fun b11 => ?_)))
          let i24_ : HObj := box b11 28 v48_
          refine T.step (W1.st 0 v48_ (i24_ :: t19_) v48_ (by rfl) rfl rfl rfl rfl rfl rfl (fun _ => by kernel_rfl) ?_)
          refine T.nil ?_
          refine T.unthenN ?_
          refine T.begin 6 (i24_ :: i18_ :: i7_ :: i8_ :: i9_ :: (row 28 eElem A10 c10 x3) :: (busyo l1 lr1) :: t12_) (by rfl) rfl ?_
          refine T.block (T.seq (T.seq (T.region (T.look (.slice A10 x3.length c10) (by kernel_rfl) (ld1 8 rfl rfl (fun _ => by kernel_rfl) (by rfl) rfl) ?_))))
          refine T.pk (vi (x3.length : Int)) (fun _ => by kernel_rfl) (T.look (vi p2) (by kernel_rfl) (ld1 9 rfl rfl (fun _ => by kernel_rfl) (by rfl) rfl) ?_)
          refine T.pk (.bool ((x3.length : Int) == p2)) (fun _ => by kernel_rfl) (T.nil ?_)
          refine T.cond ((x3.length : Int) == p2) (by kernel_rfl) (by kernel_rfl) (fun hc5 => ?_) (fun hc5 => ?_)
          ·
           rw [hc5, cond_true] at hX4
           refine T.exit ?_
           cases hX4
           repeat first | refine T.unthenX ?_ | refine T.unblockX rfl ?_
           exact T.roundExit (.exit 0) [] 0 6 (i24_ :: i18_ :: i7_ :: i8_ :: i9_ :: (row 28 eElem A10 c10 x3) :: (loopo l1 lr1 (.exit 0) [] (0 + 1)) :: t12_) (by rfl) rfl rfl (fun w' hh => ⟨_, rfl, ⟨x3, (0 + 1), rfl, A10, c10, rfl, (hh.sub (dr1 (kp8 (kp1 kpr))))⟩⟩)
          rw [hc5, cond_false] at hX4
          refine T.skip_code ?_
          refine T.region (T.look (.slice A10 x3.length c10) (by kernel_rfl) (ld1 8 rfl rfl (fun _ => by kernel_rfl) (by rfl) rfl) ?_)
          refine T.look a59_ (by kernel_rfl) (ldN 0 rfl rfl (fun _ => by kernel_rfl) (by rfl) rfl) ?_
          refine T.step (W1.ns 28 v48_ (fun _ => by kernel_rfl) (fun b12 => ?_))
          obtain ⟨y2, hb6, hX4⟩ := ob hX4
          obtain ⟨hb6_r, hb6_m, rfl⟩ := grow_some hb6
          obtain ⟨ti, hti, hz1, hz2, hz3⟩ := ipFindFL_1
          refine T.step (W1.append (E := eElem) (l := x3) (m := [e2]) 6 _ _ 56 ti _ (by rfl) (by kernel_rfl) rfl (by kernel_rfl) hti hz1 hz2 hz3 rfl (by decide) rfl rfl (fun w' hh => (SlOk.srcF (slok_lit (E := eElem) (f := DElem.cells) [e2] (fun _ _ => rfl) (Nat.le_of_ble_eq_true (by rfl)) (fun j => hh.cellBox (i := 0) (by rfl) j)) (fun _ _ _ _ h => h))) hb6_r hb6_m (fun A14 c14 => ?_))
          let i25_ : HObj := box b12 28 v48_
          let i26_ : HObj := row 28 eElem A14 c14 (x3 ++ [e2])
          let v51_ : List Value := [.slice A14 ((x3 ++ [e2]).length) c14]
          let i27_ : HObj := box b4 34 v51_
          refine T.step (W1.st 9 v51_ (i25_ :: i24_ :: i18_ :: i7_ :: i8_ :: i9_ :: i26_ :: (busyo l1 lr1) :: (marko d1) :: i27_ :: (box b3 3 [vi p2]) :: G2) v51_ (by rfl) rfl rfl rfl rfl rfl rfl (fun _ => by kernel_rfl) ?_)
          refine T.nil ?_
          cases hX4
          repeat first | refine T.unthenN ?_ | refine T.unblockN ?_
          exact T.roundEnd (.exit 0) [] 7 (i25_ :: i24_ :: i18_ :: i7_ :: i8_ :: i9_ :: i26_ :: (loopo l1 lr1 (.exit 0) [] 0) :: (marko d1) :: i27_ :: (box b3 3 [vi p2]) :: G2) (by rfl) rfl (fun w' hh => ⟨_, rfl, ⟨(x3 ++ [e2]), 0, rfl, A14, c14, rfl, (hh.sub (dr2 (kp8 (kp1 kpr))))⟩⟩)
         rintro v w' ⟨z6, k4, rfl, A13, c13, rfl, hh⟩
         try dsimp only at hX3
         refine ⟨V10, (i18_ :: i7_ :: i8_ :: i9_ :: (row 28 eElem A13 c13 z6) :: (loopo l1 lr1 (.exit 0) [] k4) :: (marko d1) :: (box b4 34 [.slice A13 z6.length c13]) :: (box b3 3 [vi p2]) :: G2), hh, ?_⟩
         clear hh
         cases k4 with
         | zero =>
          rw [natCase_zero] at hX3
          refine TI.all [9] (by kernel_rfl) rfl ⟨?_, trivial⟩
          refine TI.br rfl (W1.toR (W1.look (.bool false) (by kernel_rfl) (fun _ _ => by kernel_rfl) ?_))
          refine TI.all [10] (by kernel_rfl) rfl ⟨?_, trivial⟩
          refine TI.br rfl (W1.toR (W1.look (.bool false) (by kernel_rfl) (fun _ _ => by kernel_rfl) ?_))
          refine TI.done (by kernel_rfl) ?_
          cases hX3
          exact fun a w' hf hh => ⟨z6, 0, rfl, A13, c13, V10, (vt hV9 hV10), (Fr.sel hf rfl), (hh.sub (dr1 (kp7 (kp1 kpr))))⟩
         | succ k5 =>
          rw [natCase_succ] at hX3
          refine TI.all [9] (by kernel_rfl) rfl ⟨?_, trivial⟩
          refine TI.br rfl (W1.toR (W1.look (.bool true) (by kernel_rfl) (fun _ _ => by kernel_rfl) ?_))
          refine TI.all [10] (by kernel_rfl) rfl ⟨?_, trivial⟩
          refine TI.br rfl (W1.toR (W1.look (.bool true) (by kernel_rfl) (fun _ _ => by kernel_rfl) ?_))
          refine TI.done (by kernel_rfl) ?_
          cases hX3
          exact fun a w' hf hh => ⟨z6, (k5 + 1), rfl, A13, c13, V10, (vt hV9 hV10), (Fr.sel hf rfl), (hh.sub (dr1 (kp7 (kp1 kpr))))⟩
        refine TI.br rfl (W1.toR (W1.look a57_ (by kernel_rfl) (ldN 2 rfl rfl (fun _ => by kernel_rfl) (by rfl) rfl) ?_))
        refine TI.all [1] (by kernel_rfl) rfl ⟨?_, trivial⟩
        obtain ⟨r3, hb4, hX3⟩ := ob hX3
        refine TI.br rfl <| W1.toR (W1.call (vAg eSpot) r3 22 #[a59_] (by kernel_rfl) (fun _ => by kernel_rfl) (fun w' hh => elem_Spot_l e2 r3 hb4 w' ) ?_)
        intro u V9 hV9 hu
        obtain rfl := sureSpot _ _ _ hu
        refine TI.all [3] (by kernel_rfl) rfl ⟨?_, trivial⟩
        obtain ⟨r4, hb5, hX3⟩ := ob hX3
        refine TI.br rfl <| W1.toR (W1.call (vSc eInt) r4 62 #[.agg #[vi r3.key.pfs, vi r3.key.obj, vi r3.key.off, vi r3.made], a57_] (by kernel_rfl) (fun _ => by kernel_rfl) (fun w' hh => key_CmpSpot_l r3 p1 r4 hb5 w' ) ?_)
        intro u V10 hV10 hu
        obtain rfl := sureInt _ _ _ hu
        refine TI.all [4] (by kernel_rfl) rfl ⟨?_, trivial⟩
        refine TI.br rfl (W1.toR (W1.look (.bool (decide ((0 : Int) ≤ r4))) (by kernel_rfl) (fun _ _ => by kernel_rfl) ?_))
        refine TI.all [5] (by kernel_rfl) rfl ⟨?_, trivial⟩
        refine TI.br rfl (W1.toR (W1.look (.bool (decide ((0 : Int) ≤ r4))) (by kernel_rfl) (fun _ _ => by kernel_rfl) ?_))
        cases hg1 : decide ((0 : Int) ≤ r4)
        ·
         rw [hg1, cond_false] at hX3
         refine TI.all [6, 7] (by kernel_rfl) rfl ⟨?_, ?_, trivial⟩
         ·
          refine TI.no rfl (by kernel_rfl) (by kernel_rfl) ?_
          refine TI.all [7] (by kernel_rfl) rfl ⟨?_, trivial⟩
          refine TI.no rfl (by kernel_rfl) (by kernel_rfl) ?_
          refine TI.all [8] (by kernel_rfl) rfl ⟨?_, trivial⟩
          refine TI.no rfl (by kernel_rfl) (by kernel_rfl) ?_
          refine TI.all [9] (by kernel_rfl) rfl ⟨?_, trivial⟩
          refine TI.no rfl (by kernel_rfl) (by kernel_rfl) ?_
          refine TI.all [10] (by kernel_rfl) rfl ⟨?_, trivial⟩
          refine TI.br rfl (W1.toR (W1.look (.bool false) (by kernel_rfl) (fun _ _ => by kernel_rfl) ?_))
          refine TI.done (by kernel_rfl) ?_
          cases hX3
          exact fun a w' hf hh => ⟨x3, 0, rfl, A10, c10, V10, (vt hV9 hV10), (Fr.sel hf rfl), (hh.sub (dr1 (kp7 (kp1 kpr))))⟩
         refine TI.no rfl (by kernel_rfl) (by kernel_rfl) ?_
         refine TI.all [6] (by kernel_rfl) rfl ⟨?_, trivial⟩
         refine TI.no rfl (by kernel_rfl) (by kernel_rfl) ?_
         refine TI.all [8] (by kernel_rfl) rfl ⟨?_, trivial⟩
         refine TI.no rfl (by kernel_rfl) (by kernel_rfl) ?_
         refine TI.all [9] (by kernel_rfl) rfl ⟨?_, trivial⟩
         refine TI.no rfl (by kernel_rfl) (by kernel_rfl) ?_
         refine TI.all [10] (by kernel_rfl) rfl ⟨?_, trivial⟩
         refine TI.br rfl (W1.toR (W1.look (.bool false) (by kernel_rfl) (fun _ _ => by kernel_rfl) ?_))
         refine TI.done (by kernel_rfl) ?_
         cases hX3
         exact fun a w' hf hh => ⟨x3, 0, rfl, A10, c10, V10, (vt hV9 hV10), (Fr.sel hf rfl), (hh.sub (dr1 (kp7 (kp1 kpr))))⟩
        rw [hg1, cond_true] at hX3
        refine TI.all [6, 7] (by kernel_rfl) rfl ⟨?_, ?_, trivial⟩
        ·
         refine TI.br rfl (W1.toR (W1.look (.func (.yield l1) #[] #[]) (by kernel_rfl) (fun _ _ => by kernel_rfl) ?_))
         refine TI.all [7] (by kernel_rfl) rfl ⟨?_, trivial⟩
         refine TI.br rfl (W1.toR (W1.look a59_ (by kernel_rfl) (ldN 0 rfl rfl (fun _ => by kernel_rfl) (by rfl) rfl) ?_))
         refine TI.all [8] (by kernel_rfl) rfl ⟨?_, trivial⟩
         obtain ⟨q5, hX4, hX3⟩ := ob hX3
         refine TI.br rfl (W1R.yield 5 l1 (fun v w' => ∃ (z6 : List DElem) (k4 : Nat), q5 = (z6, k4) ∧ ∃ (A13 : Option Addr) (c13 : Nat), v = .bool (isz k4) ∧ Hp w V10 (i18_ :: i7_ :: i8_ :: i9_ :: (row 28 eElem A13 c13 z6) :: (loopo l1 lr1 (.exit 0) [] k4) :: (marko d1) :: (box b4 34 [.slice A13 z6.length c13]) :: (box b3 3 [vi p2]) :: G2) w') (by rfl) hl1 hl2 hl3 hl4 (by rfl) (by kernel_rfl) rfl (by kernel_rfl) rfl ?_ ?_)
         ·
          refine T.region (T.step (W1.np 28 v49_ (fun _ => by kernel_rfl) (fun b11 => ?_)))
          let i28_ : HObj := box b11 28 v48_
          refine T.step (W1.st 0 v48_ (i28_ :: t19_) v48_ (by rfl) rfl rfl rfl rfl rfl rfl (fun _ => by kernel_rfl) ?_)
          refine T.nil ?_
          refine T.unthenN ?_
          refine T.begin 6 (i28_ :: i18_ :: i7_ :: i8_ :: i9_ :: (row 28 eElem A10 c10 x3) :: (busyo l1 lr1) :: t12_) (by rfl) rfl ?_
          refine T.block (T.seq (T.seq (T.region (T.look (.slice A10 x3.length c10) (by kernel_rfl) (ld1 8 rfl rfl (fun _ => by kernel_rfl) (by rfl) rfl) ?_))))
          refine T.pk (vi (x3.length : Int)) (fun _ => by kernel_rfl) (T.look (vi p2) (by kernel_rfl) (ld1 9 rfl rfl (fun _ => by kernel_rfl) (by rfl) rfl) ?_)
          refine T.pk (.bool ((x3.length : Int) == p2)) (fun _ => by kernel_rfl) (T.nil ?_)
          refine T.cond ((x3.length : Int) == p2) (by kernel_rfl) (by kernel_rfl) (fun hc5 => ?_) (fun hc5 => ?_)
          ·
           rw [hc5, cond_true] at hX4
           refine T.exit ?_
           cases hX4
           repeat first | refine T.unthenX ?_ | refine T.unblockX rfl ?_
           exact T.roundExit (.exit 0) [] 0 6 (i28_ :: i18_ :: i7_ :: i8_ :: i9_ :: (row 28 eElem A10 c10 x3) :: (loopo l1 lr1 (.exit 0) [] (0 + 1)) :: t12_) (by rfl) rfl rfl (fun w' hh => ⟨_, rfl, ⟨x3, (0 + 1), rfl, A10, c10, rfl, (hh.sub (dr1 (kp8 (kp1 kpr))))⟩⟩)
          rw [hc5, cond_false] at hX4
          refine T.skip_code ?_
          refine T.region (T.look (.slice A10 x3.length c10) (by kernel_rfl) (ld1 8 rfl rfl (fun _ => by kernel_rfl) (by rfl) rfl) ?_)
          refine T.look a59_ (by kernel_rfl) (ldN 0 rfl rfl (fun _ => by kernel_rfl) (by rfl) rfl) ?_
          refine T.step (W1.ns 28 v48_ (fun _ => by kernel_rfl) (fun b12 => ?_))
          obtain ⟨y2, hb6, hX4⟩ := ob hX4
          obtain ⟨hb6_r, hb6_m, rfl⟩ := grow_some hb6
          obtain ⟨ti, hti, hz1, hz2, hz3⟩ := ipFindFL_1
          refine T.step (W1.append (E := eElem) (l := x3) (m := [e2]) 6 _ _ 56 ti _ (by rfl) (by kernel_rfl) rfl (by kernel_rfl) hti hz1 hz2 hz3 rfl (by decide) rfl rfl (fun w' hh => (SlOk.srcF (slok_lit (E := eElem) (f := DElem.cells) [e2] (fun _ _ => rfl) (Nat.le_of_ble_eq_true (by rfl)) (fun j => hh.cellBox (i := 0) (by rfl) j)) (fun _ _ _ _ h => h))) hb6_r hb6_m (fun A14 c14 => ?_))
          let i29_ : HObj := box b12 28 v48_
          let i30_ : HObj := row 28 eElem A14 c14 (x3 ++ [e2])
          let v52_ : List Value := [.slice A14 ((x3 ++ [e2]).length) c14]
          let i31_ : HObj := box b4 34 v52_
          refine T.step (W1.st 9 v52_ (i29_ :: i28_ :: i18_ :: i7_ :: i8_ :: i9_ :: i30_ :: (busyo l1 lr1) :: (marko d1) :: i31_ :: (box b3 3 [vi p2]) :: G2) v52_ (by rfl) rfl rfl rfl rfl rfl rfl (fun _ => by kernel_rfl) ?_)
          refine T.nil ?_
          cases hX4
          repeat first | refine T.unthenN ?_ | refine T.unblockN ?_
          exact T.roundEnd (.exit 0) [] 7 (i29_ :: i28_ :: i18_ :: i7_ :: i8_ :: i9_ :: i30_ :: (loopo l1 lr1 (.exit 0) [] 0) :: (marko d1) :: i31_ :: (box b3 3 [vi p2]) :: G2) (by rfl) rfl (fun w' hh => ⟨_, rfl, ⟨(x3 ++ [e2]), 0, rfl, A14, c14, rfl, (hh.sub (dr2 (kp8 (kp1 kpr))))⟩⟩)
         rintro v w' ⟨z6, k4, rfl, A13, c13, rfl, hh⟩
         try dsimp only at hX3
         refine ⟨V10, (i18_ :: i7_ :: i8_ :: i9_ :: (row 28 eElem A13 c13 z6) :: (loopo l1 lr1 (.exit 0) [] k4) :: (marko d1) :: (box b4 34 [.slice A13 z6.length c13]) :: (box b3 3 [vi p2]) :: G2), hh, ?_⟩
         clear hh
         cases k4 with
         | zero =>
          rw [natCase_zero] at hX3
          refine TI.all [9] (by kernel_rfl) rfl ⟨?_, trivial⟩
          refine TI.br rfl (W1.toR (W1.look (.bool false) (by kernel_rfl) (fun _ _ => by kernel_rfl) ?_))
          refine TI.all [10] (by kernel_rfl) rfl ⟨?_, trivial⟩
          refine TI.br rfl (W1.toR (W1.look (.bool false) (by kernel_rfl) (fun _ _ => by kernel_rfl) ?_))
          refine TI.done (by kernel_rfl) ?_
          cases hX3
          exact fun a w' hf hh => ⟨z6, 0, rfl, A13, c13, V10, (vt hV9 hV10), (Fr.sel hf rfl), (hh.sub (dr1 (kp7 (kp1 kpr))))⟩
         | succ k5 =>
          rw [natCase_succ] at hX3
          refine TI.all [9] (by kernel_rfl) rfl ⟨?_, trivial⟩
          refine TI.br rfl (W1.toR (W1.look (.bool true) (by kernel_rfl) (fun _ _ => by kernel_rfl) ?_))
          refine TI.all [10] (by kernel_rfl) rfl ⟨?_, trivial⟩
          refine TI.br rfl (W1.toR (W1.look (.bool true) (by kernel_rfl) (fun _ _ => by kernel_rfl) ?_))
          refine TI.done (by kernel_rfl) ?_
          cases hX3
          exact fun a w' hf hh => ⟨z6, (k5 + 1), rfl, A13, c13, V10, (vt hV9 hV10), (Fr.sel hf rfl), (hh.sub (dr1 (kp7 (kp1 kpr))))⟩
        refine TI.br rfl (W1.toR (W1.look a59_ (by kernel_rfl) (ldN 0 rfl rfl (fun _ => by kernel_rfl) (by rfl) rfl) ?_))
        refine TI.all [6] (by kernel_rfl) rfl ⟨?_, trivial⟩
        refine TI.br rfl (W1.toR (W1.look (.func (.yield l1) #[] #[]) (by kernel_rfl) (fun _ _ => by kernel_rfl) ?_))
        refine TI.all [8] (by kernel_rfl) rfl ⟨?_, trivial⟩
        obtain ⟨q5, hX4, hX3⟩ := ob hX3
        refine TI.br rfl (W1R.yield 5 l1 (fun v w' => ∃ (z6 : List DElem) (k4 : Nat), q5 = (z6, k4) ∧ ∃ (A13 : Option Addr) (c13 : Nat), v = .bool (isz k4) ∧ Hp w V10 (i18_ :: i7_ :: i8_ :: i9_ :: (row 28 eElem A13 c13 z6) :: (loopo l1 lr1 (.exit 0) [] k4) :: (marko d1) :: (box b4 34 [.slice A13 z6.length c13]) :: (box b3 3 [vi p2]) :: G2) w') (by rfl) hl1 hl2 hl3 hl4 (by rfl) (by kernel_rfl) rfl (by kernel_rfl) rfl ?_ ?_)
        ·
         refine T.region (T.step (W1.np 28 v49_ (fun _ => by kernel_rfl) (fun b11 => ?_)))
         let i32_ : HObj := box b11 28 v48_
         refine T.step (W1.st 0 v48_ (i32_ :: t19_) v48_ (by rfl) rfl rfl rfl rfl rfl rfl (fun _ => by kernel_rfl) ?_)
         refine T.nil ?_
         refine T.unthenN ?_
         refine T.begin 6 (i32_ :: i18_ :: i7_ :: i8_ :: i9_ :: (row 28 eElem A10 c10 x3) :: (busyo l1 lr1) :: t12_) (by rfl) rfl ?_
         refine T.block (T.seq (T.seq (T.region (T.look (.slice A10 x3.length c10) (by kernel_rfl) (ld1 8 rfl rfl (fun _ => by kernel_rfl) (by rfl) rfl) ?_))))
         refine T.pk (vi (x3.length : Int)) (fun _ => by kernel_rfl) (T.look (vi p2) (by kernel_rfl) (ld1 9 rfl rfl (fun _ => by kernel_rfl) (by rfl) rfl) ?_)
         refine T.pk (.bool ((x3.length : Int) == p2)) (fun _ => by kernel_rfl) (T.nil ?_)
         refine T.cond ((x3.length : Int) == p2) (by kernel_rfl) (by kernel_rfl) (fun hc5 => ?_) (fun hc5 => ?_)
         ·
          rw [hc5, cond_true] at hX4
          refine T.exit ?_
          cases hX4
          repeat first | refine T.unthenX ?_ | refine T.unblockX rfl ?_
          exact T.roundExit (.exit 0) [] 0 6 (i32_ :: i18_ :: i7_ :: i8_ :: i9_ :: (row 28 eElem A10 c10 x3) :: (loopo l1 lr1 (.exit 0) [] (0 + 1)) :: t12_) (by rfl) rfl rfl (fun w' hh => ⟨_, rfl, ⟨x3, (0 + 1), rfl, A10, c10, rfl, (hh.sub (dr1 (kp8 (kp1 kpr))))⟩⟩)
         rw [hc5, cond_false] at hX4
         refine T.skip_code ?_
         refine T.region (T.look (.slice A10 x3.length c10) (by kernel_rfl) (ld1 8 rfl rfl (fun _ => by kernel_rfl) (by rfl) rfl) ?_)
         refine T.look a59_ (by kernel_rfl) (ldN 0 rfl rfl (fun _ => by kernel_rfl) (by rfl) rfl) ?_
         refine T.step (W1.ns 28 v48_ (fun _ => by kernel_rfl) (fun b12 => ?_))
         obtain ⟨y2, hb6, hX4⟩ := ob hX4
         obtain ⟨hb6_r, hb6_m, rfl⟩ := grow_some hb6
         obtain ⟨ti, hti, hz1, hz2, hz3⟩ := ipFindFL_1
         refine T.step (W1.append (E := eElem) (l := x3) (m := [e2]) 6 _ _ 56 ti _ (by rfl) (by kernel_rfl) rfl (by kernel_rfl) hti hz1 hz2 hz3 rfl (by decide) rfl rfl (fun w' hh => (SlOk.srcF (slok_lit (E := eElem) (f := DElem.cells) [e2] (fun _ _ => rfl) (Nat.le_of_ble_eq_true (by rfl)) (fun j => hh.cellBox (i := 0) (by rfl) j)) (fun _ _ _ _ h => h))) hb6_r hb6_m (fun A14 c14 => ?_))
         let i33_ : HObj := box b12 28 v48_
         let i34_ : HObj := row 28 eElem A14 c14 (x3 ++ [e2])
         let v53_ : List Value := [.slice A14 ((x3 ++ [e2]).length) c14]
         let i35_ : HObj := box b4 34 v53_
         refine T.step (W1.st 9 v53_ (i33_ :: i32_ :: i18_ :: i7_ :: i8_ :: i9_ :: i34_ :: (busyo l1 lr1) :: (marko d1) :: i35_ :: (box b3 3 [vi p2]) :: G2) v53_ (by rfl) rfl rfl rfl rfl rfl rfl (fun _ => by kernel_rfl) ?_)
         refine T.nil ?_
         cases hX4
         repeat first | refine T.unthenN ?_ | refine T.unblockN ?_
         exact T.roundEnd (.exit 0) [] 7 (i33_ :: i32_ :: i18_ :: i7_ :: i8_ :: i9_ :: i34_ :: (loopo l1 lr1 (.exit 0) [] 0) :: (marko d1) :: i35_ :: (box b3 3 [vi p2]) :: G2) (by rfl) rfl (fun w' hh => ⟨_, rfl, ⟨(x3 ++ [e2]), 0, rfl, A14, c14, rfl, (hh.sub (dr2 (kp8 (kp1 kpr))))⟩⟩)
        rintro v w' ⟨z6, k4, rfl, A13, c13, rfl, hh⟩
        try dsimp only at hX3
        refine ⟨V10, (i18_ :: i7_ :: i8_ :: i9_ :: (row 28 eElem A13 c13 z6) :: (loopo l1 lr1 (.exit 0) [] k4) :: (marko d1) :: (box b4 34 [.slice A13 z6.length c13]) :: (box b3 3 [vi p2]) :: G2), hh, ?_⟩
        clear hh
        cases k4 with
        | zero =>
         rw [natCase_zero] at hX3
         refine TI.all [9] (by kernel_rfl) rfl ⟨?_, trivial⟩
         refine TI.br rfl (W1.toR (W1.look (.bool false) (by kernel_rfl) (fun _ _ => by kernel_rfl) ?_))
         refine TI.all [10] (by kernel_rfl) rfl ⟨?_, trivial⟩
         refine TI.br rfl (W1.toR (W1.look (.bool false) (by kernel_rfl) (fun _ _ => by kernel_rfl) ?_))
         refine TI.done (by kernel_rfl) ?_
         cases hX3
         exact fun a w' hf hh => ⟨z6, 0, rfl, A13, c13, V10, (vt hV9 hV10), (Fr.sel hf rfl), (hh.sub (dr1 (kp7 (kp1 kpr))))⟩
        | succ k5 =>
         rw [natCase_succ] at hX3
         refine TI.all [9] (by kernel_rfl) rfl ⟨?_, trivial⟩
         refine TI.br rfl (W1.toR (W1.look (.bool true) (by kernel_rfl) (fun _ _ => by kernel_rfl) ?_))
         refine TI.all [10] (by kernel_rfl) rfl ⟨?_, trivial⟩
         refine TI.br rfl (W1.toR (W1.look (.bool true) (by kernel_rfl) (fun _ _ => by kernel_rfl) ?_))
         refine TI.done (by kernel_rfl) ?_
         cases hX3
         exact fun a w' hf hh => ⟨z6, (k5 + 1), rfl, A13, c13, V10, (vt hV9 hV10), (Fr.sel hf rfl), (hh.sub (dr1 (kp7 (kp1 kpr))))⟩
       refine TI.br rfl (W1.toR (W1.look a57_ (by kernel_rfl) (ldN 2 rfl rfl (fun _ => by kernel_rfl) (by rfl) rfl) ?_))
       refine TI.all [0] (by kernel_rfl) rfl ⟨?_, trivial⟩
       refine TI.br rfl (W1.toR (W1.look a59_ (by kernel_rfl) (ldN 0 rfl rfl (fun _ => by kernel_rfl) (by rfl) rfl) ?_))
       refine TI.all [1] (by kernel_rfl) rfl ⟨?_, trivial⟩
       obtain ⟨r3, hb4, hX3⟩ := ob hX3
       refine TI.br rfl <| W1.toR (W1.call (vAg eSpot) r3 22 #[a59_] (by kernel_rfl) (fun _ => by kernel_rfl) (fun w' hh => elem_Spot_l e2 r3 hb4 w' ) ?_)
       intro u V9 hV9 hu
       obtain rfl := sureSpot _ _ _ hu
       refine TI.all [3] (by kernel_rfl) rfl ⟨?_, trivial⟩
       obtain ⟨r4, hb5, hX3⟩ := ob hX3
       refine TI.br rfl <| W1.toR (W1.call (vSc eInt) r4 62 #[.agg #[vi r3.key.pfs, vi r3.key.obj, vi r3.key.off, vi r3.made], a57_] (by kernel_rfl) (fun _ => by kernel_rfl) (fun w' hh => key_CmpSpot_l r3 p1 r4 hb5 w' ) ?_)
       intro u V10 hV10 hu
       obtain rfl := sureInt _ _ _ hu
       refine TI.all [4] (by kernel_rfl) rfl ⟨?_, trivial⟩
       refine TI.br rfl (W1.toR (W1.look (.bool (decide ((0 : Int) ≤ r4))) (by kernel_rfl) (fun _ _ => by kernel_rfl) ?_))
       refine TI.all [5] (by kernel_rfl) rfl ⟨?_, trivial⟩
       refine TI.br rfl (W1.toR (W1.look (.bool (decide ((0 : Int) ≤ r4))) (by kernel_rfl) (fun _ _ => by kernel_rfl) ?_))
       cases hg1 : decide ((0 : Int) ≤ r4)
       ·
        rw [hg1, cond_false] at hX3
        refine TI.all [6, 7] (by kernel_rfl) rfl ⟨?_, ?_, trivial⟩
        ·
         refine TI.no rfl (by kernel_rfl) (by kernel_rfl) ?_
         refine TI.all [7] (by kernel_rfl) rfl ⟨?_, trivial⟩
         refine TI.no rfl (by kernel_rfl) (by kernel_rfl) ?_
         refine TI.all [8] (by kernel_rfl) rfl ⟨?_, trivial⟩
         refine TI.no rfl (by kernel_rfl) (by kernel_rfl) ?_
         refine TI.all [9] (by kernel_rfl) rfl ⟨?_, trivial⟩
         refine TI.no rfl (by kernel_rfl) (by kernel_rfl) ?_
         refine TI.all [10] (by kernel_rfl) rfl ⟨?_, trivial⟩
         refine TI.br rfl (W1.toR (W1.look (.bool false) (by kernel_rfl) (fun _ _ => by kernel_rfl) ?_))
         refine TI.done (by kernel_rfl) ?_
         cases hX3
         exact fun a w' hf hh => ⟨x3, 0, rfl, A10, c10, V10, (vt hV9 hV10), (Fr.sel hf rfl), (hh.sub (dr1 (kp7 (kp1 kpr))))⟩
        refine TI.no rfl (by kernel_rfl) (by kernel_rfl) ?_
        refine TI.all [6] (by kernel_rfl) rfl ⟨?_, trivial⟩
        refine TI.no rfl (by kernel_rfl) (by kernel_rfl) ?_
        refine TI.all [8] (by kernel_rfl) rfl ⟨?_, trivial⟩
        refine TI.no rfl (by kernel_rfl) (by kernel_rfl) ?_
        refine TI.all [9] (by kernel_rfl) rfl ⟨?_, trivial⟩
        refine TI.no rfl (by kernel_rfl) (by kernel_rfl) ?_
        refine TI.all [10] (by kernel_rfl) rfl ⟨?_, trivial⟩
        refine TI.br rfl (W1.toR (W1.look (.bool false) (by kernel_rfl) (fun _ _ => by kernel_rfl) ?_))
        refine TI.done (by kernel_rfl) ?_
        cases hX3
        exact fun a w' hf hh => ⟨x3, 0, rfl, A10, c10, V10, (vt hV9 hV10), (Fr.sel hf rfl), (hh.sub (dr1 (kp7 (kp1 kpr))))⟩
       rw [hg1, cond_true] at hX3
       refine TI.all [6, 7] (by kernel_rfl) rfl ⟨?_, ?_, trivial⟩
       ·
        refine TI.br rfl (W1.toR (W1.look (.func (.yield l1) #[] #[]) (by kernel_rfl) (fun _ _ => by kernel_rfl) ?_))
        refine TI.all [7] (by kernel_rfl) rfl ⟨?_, trivial⟩
        refine TI.br rfl (W1.toR (W1.look a59_ (by kernel_rfl) (ldN 0 rfl rfl (fun _ => by kernel_rfl) (by rfl) rfl) ?_))
        refine TI.all [8] (by kernel_rfl) rfl ⟨?_, trivial⟩
        obtain ⟨q5, hX4, hX3⟩ := ob hX3
        refine TI.br rfl (W1R.yield 5 l1 (fun v w' => ∃ (z6 : List DElem) (k4 : Nat), q5 = (z6, k4) ∧ ∃ (A13 : Option Addr) (c13 : Nat), v = .bool (isz k4) ∧ Hp w V10 (i18_ :: i7_ :: i8_ :: i9_ :: (row 28 eElem A13 c13 z6) :: (loopo l1 lr1 (.exit 0) [] k4) :: (marko d1) :: (box b4 34 [.slice A13 z6.length c13]) :: (box b3 3 [vi p2]) :: G2) w') (by rfl) hl1 hl2 hl3 hl4 (by rfl) (by kernel_rfl) rfl (by kernel_rfl) rfl ?_ ?_)
        ·
         refine T.region (T.step (W1.np 28 v49_ (fun _ => by kernel_rfl) (fun b11 => ?_)))
         let i36_ : HObj := box b11 28 v48_
         refine T.step (W1.st 0 v48_ (i36_ :: t19_) v48_ (by rfl) rfl rfl rfl rfl rfl rfl (fun _ => by kernel_rfl) ?_)
         refine T.nil ?_
         refine T.unthenN ?_
         refine T.begin 6 (i36_ :: i18_ :: i7_ :: i8_ :: i9_ :: (row 28 eElem A10 c10 x3) :: (busyo l1 lr1) :: t12_) (by rfl) rfl ?_
         refine T.block (T.seq (T.seq (T.region (T.look (.slice A10 x3.length c10) (by kernel_rfl) (ld1 8 rfl rfl (fun _ => by kernel_rfl) (by rfl) rfl) ?_))))
         refine T.pk (vi (x3.length : Int)) (fun _ => by kernel_rfl) (T.look (vi p2) (by kernel_rfl) (ld1 9 rfl rfl (fun _ => by kernel_rfl) (by rfl) rfl) ?_)
         refine T.pk (.bool ((x3.length : Int) == p2)) (fun _ => by kernel_rfl) (T.nil ?_)
         refine T.cond ((x3.length : Int) == p2) (by kernel_rfl) (by kernel_rfl) (fun hc5 => ?_) (fun hc5 => ?_)
         ·
          rw [hc5, cond_true] at hX4
          refine T.exit ?_
          cases hX4
          repeat first | refine T.unthenX ?_ | refine T.unblockX rfl ?_
          exact T.roundExit (.exit 0) [] 0 6 (i36_ :: i18_ :: i7_ :: i8_ :: i9_ :: (row 28 eElem A10 c10 x3) :: (loopo l1 lr1 (.exit 0) [] (0 + 1)) :: t12_) (by rfl) rfl rfl (fun w' hh => ⟨_, rfl, ⟨x3, (0 + 1), rfl, A10, c10, rfl, (hh.sub (dr1 (kp8 (kp1 kpr))))⟩⟩)
         rw [hc5, cond_false] at hX4
         refine T.skip_code ?_
         refine T.region (T.look (.slice A10 x3.length c10) (by kernel_rfl) (ld1 8 rfl rfl (fun _ => by kernel_rfl) (by rfl) rfl) ?_)
         refine T.look a59_ (by kernel_rfl) (ldN 0 rfl rfl (fun _ => by kernel_rfl) (by rfl) rfl) ?_
         refine T.step (W1.ns 28 v48_ (fun _ => by kernel_rfl) (fun b12 => ?_))
         obtain ⟨y2, hb6, hX4⟩ := ob hX4
         obtain ⟨hb6_r, hb6_m, rfl⟩ := grow_some hb6
         obtain ⟨ti, hti, hz1, hz2, hz3⟩ := ipFindFL_1
         refine T.step (W1.append (E := eElem) (l := x3) (m := [e2]) 6 _ _ 56 ti _ (by rfl) (by kernel_rfl) rfl (by kernel_rfl) hti hz1 hz2 hz3 rfl (by decide) rfl rfl (fun w' hh => (SlOk.srcF (slok_lit (E := eElem) (f := DElem.cells) [e2] (fun _ _ => rfl) (Nat.le_of_ble_eq_true (by rfl)) (fun j => hh.cellBox (i := 0) (by rfl) j)) (fun _ _ _ _ h => h))) hb6_r hb6_m (fun A14 c14 => ?_))
         let i37_ : HObj := box b12 28 v48_
         let i38_ : HObj := row 28 eElem A14 c14 (x3 ++ [e2])
         let v54_ : List Value := [.slice A14 ((x3 ++ [e2]).length) c14]
         let i39_ : HObj := box b4 34 v54_
         refine T.step (W1.st 9 v54_ (i37_ :: i36_ :: i18_ :: i7_ :: i8_ :: i9_ :: i38_ :: (busyo l1 lr1) :: (marko d1) :: i39_ :: (box b3 3 [vi p2]) :: G2) v54_ (by rfl) rfl rfl rfl rfl rfl rfl (fun _ => by kernel_rfl) ?_)
         refine T.nil ?_
         cases hX4
         repeat first | refine T.unthenN ?_ | refine T.unblockN ?_
         exact T.roundEnd (.exit 0) [] 7 (i37_ :: i36_ :: i18_ :: i7_ :: i8_ :: i9_ :: i38_ :: (loopo l1 lr1 (.exit 0) [] 0) :: (marko d1) :: i39_ :: (box b3 3 [vi p2]) :: G2) (by rfl) rfl (fun w' hh => ⟨_, rfl, ⟨(x3 ++ [e2]), 0, rfl, A14, c14, rfl, (hh.sub (dr2 (kp8 (kp1 kpr))))⟩⟩)
        rintro v w' ⟨z6, k4, rfl, A13, c13, rfl, hh⟩
        try dsimp only at hX3
        refine ⟨V10, (i18_ :: i7_ :: i8_ :: i9_ :: (row 28 eElem A13 c13 z6) :: (loopo l1 lr1 (.exit 0) [] k4) :: (marko d1) :: (box b4 34 [.slice A13 z6.length c13]) :: (box b3 3 [vi p2]) :: G2), hh, ?_⟩
        clear hh
        cases k4 with
        | zero =>
         rw [natCase_zero] at hX3
         refine TI.all [9] (by kernel_rfl) rfl ⟨?_, trivial⟩
         refine TI.br rfl (W1.toR (W1.look (.bool false) (by kernel_rfl) (fun _ _ => by kernel_rfl) ?_))
         refine TI.all [10] (by kernel_rfl) rfl ⟨?_, trivial⟩
         refine TI.br rfl (W1.toR (W1.look (.bool false) (by kernel_rfl) (fun _ _ => by kernel_rfl) ?_))
         refine TI.done (by kernel_rfl) ?_
         cases hX3
         exact fun a w' hf hh => ⟨z6, 0, rfl, A13, c13, V10, (vt hV9 hV10), (Fr.sel hf rfl), (hh.sub (dr1 (kp7 (kp1 kpr))))⟩
        | succ k5 =>
         rw [natCase_succ] at hX3
         refine TI.all [9] (by kernel_rfl) rfl ⟨?_, trivial⟩
         refine TI.br rfl (W1.toR (W1.look (.bool true) (by kernel_rfl) (fun _ _ => by kernel_rfl) ?_))
         refine TI.all [10] (by kernel_rfl) rfl ⟨?_, trivial⟩
         refine TI.br rfl (W1.toR (W1.look (.bool true) (by kernel_rfl) (fun _ _ => by kernel_rfl) ?_))
         refine TI.done (by kernel_rfl) ?_
         cases hX3
         exact fun a w' hf hh => ⟨z6, (k5 + 1), rfl, A13, c13, V10, (vt hV9 hV10), (Fr.sel hf rfl), (hh.sub (dr1 (kp7 (kp1 kpr))))⟩
       refine TI.br rfl (W1.toR (W1.look a59_ (by kernel_rfl) (ldN 0 rfl rfl (fun _ => by kernel_rfl) (by rfl) rfl) ?_))
       refine TI.all [6] (by kernel_rfl) rfl ⟨?_, trivial⟩
       refine TI.br rfl (W1.toR (W1.look (.func (.yield l1) #[] #[]) (by kernel_rfl) (fun _ _ => by kernel_rfl) ?_))
       refine TI.all [8] (by kernel_rfl) rfl ⟨?_, trivial⟩
       obtain ⟨q5, hX4, hX3⟩ := ob hX3
       refine TI.br rfl (W1R.yield 5 l1 (fun v w' => ∃ (z6 : List DElem) (k4 : Nat), q5 = (z6, k4) ∧ ∃ (A13 : Option Addr) (c13 : Nat), v = .bool (isz k4) ∧ Hp w V10 (i18_ :: i7_ :: i8_ :: i9_ :: (row 28 eElem A13 c13 z6) :: (loopo l1 lr1 (.exit 0) [] k4) :: (marko d1) :: (box b4 34 [.slice A13 z6.length c13]) :: (box b3 3 [vi p2]) :: G2) w') (by rfl) hl1 hl2 hl3 hl4 (by rfl) (by kernel_rfl) rfl (by kernel_rfl) rfl ?_ ?_)
       ·
        refine T.region (T.step (W1.np 28 v49_ (fun _ => by kernel_rfl) (fun b11 => ?_)))
        let i40_ : HObj := box b11 28 v48_
        refine T.step (W1.st 0 v48_ (i40_ :: t19_) v48_ (by rfl) rfl rfl rfl rfl rfl rfl (fun _ => by kernel_rfl) ?_)
        refine T.nil ?_
        refine T.unthenN ?_
        refine T.begin 6 (i40_ :: i18_ :: i7_ :: i8_ :: i9_ :: (row 28 eElem A10 c10 x3) :: (busyo l1 lr1) :: t12_) (by rfl) rfl ?_
        refine T.block (T.seq (T.seq (T.region (T.look (.slice A10 x3.length c10) (by kernel_rfl) (ld1 8 rfl rfl (fun _ => by kernel_rfl) (by rfl) rfl) ?_))))
        refine T.pk (vi (x3.length : Int)) (fun _ => by kernel_rfl) (T.look (vi p2) (by kernel_rfl) (ld1 9 rfl rfl (fun _ => by kernel_rfl) (by rfl) rfl) ?_)
        refine T.pk (.bool ((x3.length : Int) == p2)) (fun _ => by kernel_rfl) (T.nil ?_)
        refine T.cond ((x3.length : Int) == p2) (by kernel_rfl) (by kernel_rfl) (fun hc5 => ?_) (fun hc5 => ?_)
        ·
         rw [hc5, cond_true] at hX4
         refine T.exit ?_
         cases hX4
         repeat first | refine T.unthenX ?_ | refine T.unblockX rfl ?_
         exact T.roundExit (.exit 0) [] 0 6 (i40_ :: i18_ :: i7_ :: i8_ :: i9_ :: (row 28 eElem A10 c10 x3) :: (loopo l1 lr1 (.exit 0) [] (0 + 1)) :: t12_) (by rfl) rfl rfl (fun w' hh => ⟨_, rfl, ⟨x3, (0 + 1), rfl, A10, c10, rfl, (hh.sub (dr1 (kp8 (kp1 kpr))))⟩⟩)
        rw [hc5, cond_false] at hX4
        refine T.skip_code ?_
        refine T.region (T.look (.slice A10 x3.length c10) (by kernel_rfl) (ld1 8 rfl rfl (fun _ => by kernel_rfl) (by rfl) rfl) ?_)
        refine T.look a59_ (by kernel_rfl) (ldN 0 rfl rfl (fun _ => by kernel_rfl) (by rfl) rfl) ?_
        refine T.step (W1.ns 28 v48_ (fun _ => by kernel_rfl) (fun b12 => ?_))
        obtain ⟨y2, hb6, hX4⟩ := ob hX4
        obtain ⟨hb6_r, hb6_m, rfl⟩ := grow_some hb6
        obtain ⟨ti, hti, hz1, hz2, hz3⟩ := ipFindFL_1
        refine T.step (W1.append (E := eElem) (l := x3) (m := [e2]) 6 _ _ 56 ti _ (by rfl) (by kernel_rfl) rfl (by kernel_rfl) hti hz1 hz2 hz3 rfl (by decide) rfl rfl (fun w' hh => (SlOk.srcF (slok_lit (E := eElem) (f := DElem.cells) [e2] (fun _ _ => rfl) (Nat.le_of_ble_eq_true (by rfl)) (fun j => hh.cellBox (i := 0) (by rfl) j)) (fun _ _ _ _ h => h))) hb6_r hb6_m (fun A14 c14 => ?_))
        let i41_ : HObj := box b12 28 v48_
        let i42_ : HObj := row 28 eElem A14 c14 (x3 ++ [e2])
        let v55_ : List Value := [.slice A14 ((x3 ++ [e2]).length) c14]
        let i43_ : HObj := box b4 34 v55_
        refine T.step (W1.st 9 v55_ (i41_ :: i40_ :: i18_ :: i7_ :: i8_ :: i9_ :: i42_ :: (busyo l1 lr1) :: (marko d1) :: i43_ :: (box b3 3 [vi p2]) :: G2) v55_ (by rfl) rfl rfl rfl rfl rfl rfl (fun _ => by kernel_rfl) ?_)
        refine T.nil ?_
        cases hX4
        repeat first | refine T.unthenN ?_ | refine T.unblockN ?_
        exact T.roundEnd (.exit 0) [] 7 (i41_ :: i40_ :: i18_ :: i7_ :: i8_ :: i9_ :: i42_ :: (loopo l1 lr1 (.exit 0) [] 0) :: (marko d1) :: i43_ :: (box b3 3 [vi p2]) :: G2) (by rfl) rfl (fun w' hh => ⟨_, rfl, ⟨(x3 ++ [e2]), 0, rfl, A14, c14, rfl, (hh.sub (dr2 (kp8 (kp1 kpr))))⟩⟩)
       rintro v w' ⟨z6, k4, rfl, A13, c13, rfl, hh⟩
       try dsimp only at hX3
       refine ⟨V10, (i18_ :: i7_ :: i8_ :: i9_ :: (row 28 eElem A13 c13 z6) :: (loopo l1 lr1 (.exit 0) [] k4) :: (marko d1) :: (box b4 34 [.slice A13 z6.length c13]) :: (box b3 3 [vi p2]) :: G2), hh, ?_⟩
       clear hh
       cases k4 with
       | zero =>
        rw [natCase_zero] at hX3
        refine TI.all [9] (by kernel_rfl) rfl ⟨?_, trivial⟩
        refine TI.br rfl (W1.toR (W1.look (.bool false) (by kernel_rfl) (fun _ _ => by kernel_rfl) ?_))
        refine TI.all [10] (by kernel_rfl) rfl ⟨?_, trivial⟩
        refine TI.br rfl (W1.toR (W1.look (.bool false) (by kernel_rfl) (fun _ _ => by kernel_rfl) ?_))
        refine TI.done (by kernel_rfl) ?_
        cases hX3
        exact fun a w' hf hh => ⟨z6, 0, rfl, A13, c13, V10, (vt hV9 hV10), (Fr.sel hf rfl), (hh.sub (dr1 (kp7 (kp1 kpr))))⟩
       | succ k5 =>
        rw [natCase_succ] at hX3
        refine TI.all [9] (by kernel_rfl) rfl ⟨?_, trivial⟩
        refine TI.br rfl (W1.toR (W1.look (.bool true) (by kernel_rfl) (fun _ _ => by kernel_rfl) ?_))
        refine TI.all [10] (by kernel_rfl) rfl ⟨?_, trivial⟩
        refine TI.br rfl (W1.toR (W1.look (.bool true) (by kernel_rfl) (fun _ _ => by kernel_rfl) ?_))
        refine TI.done (by kernel_rfl) ?_
        cases hX3
        exact fun a w' hf hh => ⟨z6, (k5 + 1), rfl, A13, c13, V10, (vt hV9 hV10), (Fr.sel hf rfl), (hh.sub (dr1 (kp7 (kp1 kpr))))⟩
      rintro a w' ⟨z5, k3, rfl, A12, c12, V8, hV8, hf, hh⟩
      try dsimp only at hY1
      refine (?_ : T 59 w V8 (i7_ :: i8_ :: i9_ :: (row 28 eElem A12 c12 z5) :: (loopo l1 lr1 (.exit 0) [] k3) :: (marko d1) :: (box b4 34 [.slice A12 z5.length c12]) :: (box b3 3 [vi p2]) :: G2) [(3, .func (.yield l1) #[] #[]), (4, pB b7 0), (6, pB b8 0), (9, pB b9 0), (20, .slice A6 e1.elems.length c6), (21, vi (e1.elems.length : Int)), (22, vi x4), (36, .bool (!(isz k3)))] _) a w' hf hh
      clear hf hh
      cases k3 with
      | zero =>
       rw [natCase_zero] at hY1
       refine T.cond false (by kernel_rfl) (by kernel_rfl) (fun h => Bool.noConfusion h) (fun _ => ?_)
       refine T.skip_code ?_
       refine T.region (T.p2 (vi (IntKind.i64.wrap (x4 + 1))) (vi (IntKind.i64.wrap (x4 + 1))) (fun _ => by kernel_rfl) (T.nil ?_))
       cases hY1
       exact fun a w' hf hh => ⟨(z5, IntKind.i64.wrap (x4 + 1)), rfl, z5, (IntKind.i64.wrap (x4 + 1)), rfl, A12, c12, V8, (vt hV6 hV8), (Fr.sel hf rfl), (hh.sub (kp7 (kp1 kpr)))⟩
      | succ k6 =>
       rw [natCase_succ] at hY1
       refine T.cond true (by kernel_rfl) (by kernel_rfl) (fun _ => ?_) (fun h => Bool.noConfusion h)
       refine T.seq (T.region (T.pk (.bool false) (fun _ => by kernel_rfl) (T.nil ?_)))
       cases hY1
       cases (hr2 _ rfl)
       try dsimp only at hS1
       have hres := Option.some.inj hS1
       subst hres
       refine T.ret rfl ?_
       repeat first | refine T.unthen ?_ | refine T.unblock ?_
       exact T.ret1 rfl (ResIs.tmp rfl) fun w' hh => ⟨_, rfl, ⟨z5, (k6 + 1), rfl, A12, c12, V8, (vt hV6 hV8), rfl, (hh.sub (dr3 (kp4 (kp1 kpr))))⟩⟩
     rw [hc4, cond_false] at hY1
     refine T.exit ?_
     cases hY1
     cases (hr2 _ rfl)
     exact fun a w' hf hh => ⟨x3, rfl, A10, c10, V6, hV6, (Fr.sel hf rfl), (hh.sub (kp7 (kp1 kpr)))⟩
    rintro a w' ⟨z4, rfl, A11, c11, V7, hV7, hf, hh⟩
    try dsimp only at hS1
    refine (?_ : T 59 w V7 (i7_ :: i8_ :: i9_ :: (row 28 eElem A11 c11 z4) :: (loopo l1 lr1 (.exit 0) [] 0) :: (marko d1) :: (box b4 34 [.slice A11 z4.length c11]) :: (box b3 3 [vi p2]) :: G2) [(3, .func (.yield l1) #[] #[]), (4, pB b7 0), (6, pB b8 0), (9, pB b9 0)] _) a w' hf hh
    clear hf hh
    refine T.seq (T.seq (T.region (T.pk (pB b9 0) (fun _ => by kernel_rfl) (T.look (vi e1.kind) (by kernel_rfl) (ld1 0 rfl rfl (fun _ => by kernel_rfl) (by rfl) rfl) ?_))))
    refine T.pk (.bool (e1.kind == 1)) (fun _ => by kernel_rfl) (T.nil ?_)
    refine T.cond (e1.kind == 1) (by kernel_rfl) (by kernel_rfl) (fun hc6 => ?_) (fun hc6 => ?_)
    ·
     rw [hc6, cond_true] at hS1
     refine T.seq (T.region (T.pk (.bool true) (fun _ => by kernel_rfl) (T.nil ?_)))
     have hres := Option.some.inj hS1
     subst hres
     refine T.ret rfl ?_
     repeat first | refine T.unthen ?_ | refine T.unblock ?_
     exact T.ret1 rfl (ResIs.tmp rfl) fun w' hh => ⟨_, rfl, ⟨z4, 0, rfl, A11, c11, V7, hV7, rfl, (hh.sub (dr3 (kp4 (kp1 kpr))))⟩⟩
    rw [hc6, cond_false] at hS1
    refine T.skip_code ?_
    refine T.seq (T.seq ?_)
    refine T.quiet (by kernel_rfl) (by kernel_rfl) ?_
    refine TQ.pure (pB b9 2) (by kernel_rfl) (fun _ => by kernel_rfl) ?_
    refine TQ.look (.slice A7 e1.kids.length c7) (by kernel_rfl) (ld1 0 rfl rfl (fun _ => by kernel_rfl) (by rfl) rfl) ?_
    refine TQ.look a58_ (by kernel_rfl) (ldN 0 rfl rfl (fun _ => by kernel_rfl) (by rfl) rfl) ?_
    refine TQ.look a57_ (by kernel_rfl) (ldN 1 rfl rfl (fun _ => by kernel_rfl) (by rfl) rfl) ?_
    obtain ⟨r5, hb7, hS1⟩ := ob hS1
    refine TQ.call (vSc eInt) r5 71 #[a58_, a57_] (vi r5) (fun V u hu => sureInt V u _ hu) (by kernel_rfl) (fun _ => by kernel_rfl) (fun w' hh => node_Way_l F e1 p1 r5 hb7 w' A6 c6 (SlOk.mono (SlOk.mono hs2 hV7) hh.view) A7 c7 (SlOk.mono (SlOk.mono hs3 hV7) hh.view) A8 c8 (SlOk.mono (SlOk.mono hs4 hV7) hh.view) A9 c9 (SlOk.mono (SlOk.mono hs5 hV7) hh.view)) ?_
    obtain ⟨s2, hb8, hS1⟩ := ob hS1
    refine TQ.look (.slice (cutA A7 c7 r5.toNat 1) s2.length (c7 - r5.toNat)) (by kernel_rfl) (fun w' hh => exec_slice_list (e := 3) (s := 1) (lx := (some _)) (hx := none) (k := .i64) (k' := .i64) rfl rfl (by kernel_rfl) (by kernel_rfl) ((SlOk.mono hs3 hV7)).1 rfl rfl hb8) ?_
    refine TQ.pure (vi (s2.length : Int)) (by kernel_rfl) (fun _ => by kernel_rfl) ?_
    refine TQ.pure (vi 0) (by kernel_rfl) (fun _ => by kernel_rfl) ?_
    refine TQ.nil ?_
    obtain ⟨q6, hz3, hS1⟩ := ob hS1
    refine T.mid (fun a w' => ∃ (z7 : List DElem), q6 = Sum.inl z7 ∧ ∃ (A17 : Option Addr) (c17 : Nat) (V12 : View), View.le V7 V12 ∧ Fr 59 [] a ∧ Hp w V12 ((row 28 eElem A17 c17 z7) :: (loopo l1 lr1 (.exit 0) [] 0) :: (marko d1) :: (box b4 34 [.slice A17 z7.length c17]) :: (box b3 3 [vi p2]) :: G2) w') ?_ ?_
    ·
     refine T.block ?_
     refine T.iter (fun s3 a w' => ∃ (x5 : List DElem) (x6 : Int), s3 = (x5, x6) ∧ ∃ (A15 : Option Addr) (c15 : Nat) (A16 : Option Addr) (c16 : Nat) (V11 : View), View.le V7 V11 ∧ SlOk V11 eInt A16 c16 s2 ∧ Fr 59 [(3, .func (.yield l1) #[] #[]), (4, pB b7 0), (6, pB b8 0), (46, .slice A16 s2.length c16), (47, vi (s2.length : Int)), (48, vi x6)] a ∧ Hp w V11 (i8_ :: i9_ :: (row 28 eElem A15 c15 x5) :: (loopo l1 lr1 (.exit 0) [] 0) :: (marko d1) :: (box b4 34 [.slice A15 x5.length c15]) :: (box b3 3 [vi p2]) :: G2) w') hz3 ?_ ?_
     ·
      exact fun a w' hf hh => ⟨z4, 0, rfl, A11, c11, (cutA A7 c7 r5.toNat 1), (c7 - r5.toNat), V7, vr, (SlOk.cut (SlOk.mono hs3 hV7) hb8), (Fr.sel hf rfl), (hh.sub (dr1 (kp6 (kp1 kpr))))⟩
     rintro s3 y3 hY2 hr3 a w' ⟨x5, x6, rfl, A15, c15, A16, c16, V11, hV11, hs6, hf, hh⟩
     refine (?_ : T 59 w V11 (i8_ :: i9_ :: (row 28 eElem A15 c15 x5) :: (loopo l1 lr1 (.exit 0) [] 0) :: (marko d1) :: (box b4 34 [.slice A15 x5.length c15]) :: (box b3 3 [vi p2]) :: G2) [(3, .func (.yield l1) #[] #[]), (4, pB b7 0), (6, pB b8 0), (46, .slice A16 s2.length c16), (47, vi (s2.length : Int)), (48, vi x6)] _) a w' hf hh
     clear hf hh
     try dsimp only at hY2
     refine T.seq (T.region (T.pk (.bool (decide (x6 < (s2.length : Int)))) (fun _ => by kernel_rfl) (T.nil (T.seq ?_))))
     refine T.cond (decide (x6 < (s2.length : Int))) (by kernel_rfl) (by kernel_rfl) (fun hc7 => ?_) (fun hc7 => ?_)
     ·
      rw [hc7, cond_true] at hY2
      refine T.skip_code ?_
      refine T.seq (T.block (T.seq (T.region ?_)))
      obtain ⟨e3, hb9, hY2⟩ := ob hY2
      obtain ⟨hi7, hi8, hi9⟩ := idx_some hb9
      refine T.look (.pointer (some ((sadr A16).add (x6.toNat * 1)))) (by kernel_rfl) (fun w' hh => exec_indexAddr (e := 3) (s := 1) rfl rfl rfl (by kernel_rfl) (by kernel_rfl) hi7 hi8 (hs6.some_ hi9 (by decide))) ?_
      refine T.look (vi e3) (by kernel_rfl) (fun w' hh => exec_load1 rfl rfl (by kernel_rfl) (hh.cell_view (SlOk.cellF0 (E := eInt) hs6 hi9 (fun _ _ _ h => h) rfl))) ?_
      refine T.pk (vi e3) (fun _ => by kernel_rfl) (T.nil ?_)
      obtain ⟨q7, hX5, hY2⟩ := ob hY2
      refine T.cut (fun a w' => ∃ (z8 : List DElem) (k7 : Nat), q7 = (z8, k7) ∧ ∃ (A18 : Option Addr) (c18 : Nat) (V13 : View), View.le V11 V13 ∧ Fr 59 [(3, .func (.yield l1) #[] #[]), (4, pB b7 0), (6, pB b8 0), (46, .slice A16 s2.length c16), (47, vi (s2.length : Int)), (48, vi x6), (57, .bool (!(isz k7)))] a ∧ Hp w V13 (i8_ :: i9_ :: (row 28 eElem A18 c18 z8) :: (loopo l1 lr1 (.exit 0) [] k7) :: (marko d1) :: (box b4 34 [.slice A18 z8.length c18]) :: (box b3 3 [vi p2]) :: G2) w') ?_ ?_
      ·
       refine T.region (T.look a56_ (by kernel_rfl) (ldN 1 rfl rfl (fun _ => by kernel_rfl) (by rfl) rfl) ?_)
       refine T.pk (vi e3) (fun _ => by kernel_rfl) (T.look a57_ (by kernel_rfl) (ldN 0 rfl rfl (fun _ => by kernel_rfl) (by rfl) rfl) ?_)
       refine T.pk (.func (.yield l1) #[] #[]) (fun _ => by kernel_rfl) ?_
       obtain ⟨q8, hz4, hX5⟩ := ob hX5
       refine T.step (W1.callI 84 [a56_, vi e3, a57_, .func (.yield l1) #[] #[]] (fun v w' => ∃ (z9 : List DElem) (z10 : Nat), q8 = (z9, z10) ∧ ∃ (A19 : Option Addr) (c19 : Nat) (V14 : View), View.le V11 V14 ∧ v = .bool (isz z10) ∧ Hp w V14 ((row 28 eElem A19 c19 z9) :: (loopo l1 lr1 (.exit 0) [] z10) :: (marko d1) :: (box b4 34 [.slice A19 z9.length c19]) :: (box b3 3 [vi p2]) :: i8_ :: i9_ :: G2) w') (by kernel_rfl) (fun _ => by kernel_rfl) (fun w' hh => ih1 _ _ hz4 x5 e3 rfl A15 c15 V11 (i8_ :: i9_ :: G2) w' (vt (vt hV4 hV7) hV11) ((hh.sub (kp6 (kp1 kpr))).perm (pt sw1 (pt sw0 (pc1 (pt sw1 (pt sw0 (pc1 (pt sw1 (pt sw0 (pc1 (pt sw1 (pt sw0 (pc1 (pt sw1 (pt sw0 pz)))))))))))))))) ?_)
       rintro v w' ⟨z9, z10, rfl, A19, c19, V14, hV14, rfl, hh⟩
       try dsimp only at hX5
       refine ⟨V14, (i8_ :: i9_ :: (row 28 eElem A19 c19 z9) :: (loopo l1 lr1 (.exit 0) [] z10) :: (marko d1) :: (box b4 34 [.slice A19 z9.length c19]) :: (box b3 3 [vi p2]) :: G2), (hh.sub (kp6 (kp1 kpr))).perm (pt sw4 (pt sw3 (pt sw2 (pt sw1 (pt sw0 (pc1 (pt sw4 (pt sw3 (pt sw2 (pt sw1 (pt sw0 pz))))))))))), ?_⟩
       clear hh
       cases z10 with
       | zero =>
        rw [natCase_zero] at hX5
        refine T.pk (.bool false) (fun _ => by kernel_rfl) (T.nil ?_)
        cases hX5
        exact fun a w' hf hh => ⟨z9, 0, rfl, A19, c19, V14, hV14, (Fr.sel hf rfl), (hh.sub (kp6 (kp1 kpr)))⟩
       | succ k8 =>
        rw [natCase_succ] at hX5
        refine T.pk (.bool true) (fun _ => by kernel_rfl) (T.nil ?_)
        cases hX5
        exact fun a w' hf hh => ⟨z9, (k8 + 1), rfl, A19, c19, V14, hV14, (Fr.sel hf rfl), (hh.sub (kp6 (kp1 kpr)))⟩
      rintro a w' ⟨z8, k7, rfl, A18, c18, V13, hV13, hf, hh⟩
      try dsimp only at hY2
      refine (?_ : T 59 w V13 (i8_ :: i9_ :: (row 28 eElem A18 c18 z8) :: (loopo l1 lr1 (.exit 0) [] k7) :: (marko d1) :: (box b4 34 [.slice A18 z8.length c18]) :: (box b3 3 [vi p2]) :: G2) [(3, .func (.yield l1) #[] #[]), (4, pB b7 0), (6, pB b8 0), (46, .slice A16 s2.length c16), (47, vi (s2.length : Int)), (48, vi x6), (57, .bool (!(isz k7)))] _) a w' hf hh
      clear hf hh
      cases k7 with
      | zero =>
       rw [natCase_zero] at hY2
       refine T.cond false (by kernel_rfl) (by kernel_rfl) (fun h => Bool.noConfusion h) (fun _ => ?_)
       refine T.skip_code ?_
       refine T.region (T.p2 (vi (IntKind.i64.wrap (x6 + 1))) (vi (IntKind.i64.wrap (x6 + 1))) (fun _ => by kernel_rfl) (T.nil ?_))
       cases hY2
       exact fun a w' hf hh => ⟨(z8, IntKind.i64.wrap (x6 + 1)), rfl, z8, (IntKind.i64.wrap (x6 + 1)), rfl, A18, c18, A16, c16, V13, (vt hV11 hV13), (SlOk.mono hs6 hV13), (Fr.sel hf rfl), (hh.sub (kp6 (kp1 kpr)))⟩
      | succ k9 =>
       rw [natCase_succ] at hY2
       refine T.cond true (by kernel_rfl) (by kernel_rfl) (fun _ => ?_) (fun h => Bool.noConfusion h)
       refine T.seq (T.region (T.pk (.bool false) (fun _ => by kernel_rfl) (T.nil ?_)))
       cases hY2
       cases (hr3 _ rfl)
       try dsimp only at hS1
       have hres := Option.some.inj hS1
       subst hres
       refine T.ret rfl ?_
       repeat first | refine T.unthen ?_ | refine T.unblock ?_
       exact T.ret1 rfl (ResIs.tmp rfl) fun w' hh => ⟨_, rfl, ⟨z8, (k9 + 1), rfl, A18, c18, V13, (vt (vt hV7 hV11) hV13), rfl, (hh.sub (dr2 (kp4 (kp1 kpr))))⟩⟩
     rw [hc7, cond_false] at hY2
     refine T.exit ?_
     cases hY2
     cases (hr3 _ rfl)
     exact fun a w' hf hh => ⟨x5, rfl, A15, c15, V11, hV11, (Fr.nil hf), (hh.sub (dr2 (kp4 (kp1 kpr))))⟩
    rintro a w' ⟨z7, rfl, A17, c17, V12, hV12, hf, hh⟩
    try dsimp only at hS1
    refine (?_ : T 59 w V12 ((row 28 eElem A17 c17 z7) :: (loopo l1 lr1 (.exit 0) [] 0) :: (marko d1) :: (box b4 34 [.slice A17 z7.length c17]) :: (box b3 3 [vi p2]) :: G2) [] _) a w' hf hh
    clear hf hh
    refine T.seq (T.region (T.pk (.bool true) (fun _ => by kernel_rfl) (T.nil ?_)))
    have hres := Option.some.inj hS1
    subst hres
    refine T.ret rfl ?_
    repeat first | refine T.unthen ?_ | refine T.unblock ?_
    exact T.ret1 rfl (ResIs.tmp rfl) fun w' hh => ⟨_, rfl, ⟨z7, 0, rfl, A17, c17, V12, (vt hV7 hV12), rfl, (hh.sub (kp4 (kp1 kpr)))⟩⟩
   refine T.step (W1.callI 84 [a56_, vi p0.root, a57_, .func (.yield l1) #[] #[]] (fun v w' => ∃ (z11 : List DElem) (z12 : Nat), q2 = (z11, z12) ∧ ∃ (A20 : Option Addr) (c20 : Nat) (V15 : View), View.le V1 V15 ∧ v = .bool (isz z12) ∧ Hp w V15 ((row 28 eElem A20 c20 z11) :: (loopo l1 lr1 (.exit 0) [] z12) :: (marko d1) :: (box b4 34 [.slice A20 z11.length c20]) :: (box b3 3 [vi p2]) :: i5_ :: i6_ :: t3_) w') (by kernel_rfl) (fun _ => by kernel_rfl) (fun w' hh => hq1 [] p0.root rfl none 0 V1 (i5_ :: i6_ :: t3_) w' vr ((hh.sub (kp8 (kp1 kp0))).perm (pc3 (pt sw1 (pt sw0 (pc1 (pt sw1 (pt sw0 pz)))))))) ?_)
   rintro v w' ⟨z11, z12, rfl, A20, c20, V15, hV15, rfl, hh⟩
   try dsimp only at hX2
   refine ⟨V15, ((row 28 eElem A20 c20 z11) :: (loopo l1 lr1 (.exit 0) [] z12) :: (marko d1) :: i5_ :: i6_ :: (box b4 34 [.slice A20 z11.length c20]) :: t4_), (hh.sub (kp8 (kp1 kp0))).perm (pc3 (pt sw1 (pt sw0 (pc1 (pt sw1 (pt sw0 pz)))))), ?_⟩
   clear hh
   cases z12 with
   | zero =>
    rw [natCase_zero] at hX2
    refine T.nil ?_
    cases hX2
    repeat first | refine T.unthenN ?_ | refine T.unblockN ?_
    exact T.end0 rfl (fun w' hh => ⟨_, rfl, ⟨z11, 0, rfl, A20, c20, V15, hV15, ((hh.sub (kp3 (dr2 (kp1 (dr2 (dr1 kp0)))))).perm (pt sw0 pz))⟩⟩)
   | succ k10 =>
    rw [natCase_succ] at hX2
    refine T.nil ?_
    cases hX2
    repeat first | refine T.unthenN ?_ | refine T.unblockN ?_
    exact T.end0 rfl (fun w' hh => ⟨_, rfl, ⟨z11, (k10 + 1), rfl, A20, c20, V15, hV15, ((hh.sub (kp3 (dr2 (kp1 (dr2 (dr1 kp0)))))).perm (pt sw0 pz))⟩⟩)
  rintro l1 d1 lr1 w' ⟨z2, k1, rfl, A3, c3, V3, hV3, hh⟩
  try dsimp only at hX1
  refine ⟨V3, ((row 28 eElem A3 c3 z2) :: (marko d1) :: (box b4 34 [.slice A3 z2.length c3]) :: []), k1, hh, ?_⟩
  clear hh
  cases k1 with
  | zero =>
   rw [natCase_zero] at hX1
   rw [natCase_zero]
   cases hX1
   exact fun a w' hf hh => ⟨A3, c3, d1, V3, hV3, (Fr.sel hf rfl), (hh.sub (kp2 (kp1 kp0)))⟩
  | succ k11 =>
   rw [natCase_succ] at hX1
   rw [natCase_succ]
   rw [pick_nil]
   refine T.exit ?_
   cases hX1
   exact fun a w' hf hh => ⟨A3, c3, d1, V3, hV3, (Fr.sel hf rfl), (hh.sub (kp2 (kp1 kp0)))⟩
 rintro a w' ⟨A2, c2, d1, V2, hV2, hf, hh⟩
 let i44_ : HObj := box b4 34 [.slice A2 z1.length c2]
 refine (?_ : T ⟨31, [d1]⟩ w V2 ((row 28 eElem A2 c2 z1) :: (marko d1) :: i44_ :: []) [(9, pB b4 0)] _) a w' hf hh
 clear hf hh
 refine T.seq (T.region (T.look (.slice A2 z1.length c2) (by kernel_rfl) (ld1 2 rfl rfl (fun _ => by kernel_rfl) (by rfl) rfl) ?_))
 refine T.p2 (.slice A2 z1.length c2) (vi 0) (fun _ => by kernel_rfl) (T.nil ?_)
 cases hF
 refine T.ret rfl ?_
 refine T.leaveM ((row 28 eElem A2 c2 z1) :: i44_ :: []) [d1] (fun w' hh => (hh.sub (kp2 (kp1 kp0))).perm (pt sw0 pz)) ?_
 exact T.ret2 rfl (ResIs.tmp rfl) (ResIs.tmp rfl) fun w' hh => ⟨_, rfl, hh.below, (vT2.mk ⟨_, _, rfl, (hh.row_fresh (i := 0) (by rfl) (fun _ h => h))⟩ (show _ from rfl))⟩
end Go.Proofs.Ytcmkdoahkncakaa
