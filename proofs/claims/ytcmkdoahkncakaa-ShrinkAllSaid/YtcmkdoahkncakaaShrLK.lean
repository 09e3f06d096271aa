/- The Go functions of group Shr compute the pure functions of that group: written by walkgen.py. Condition of each: the pure function yields a result. -/
import Derived.Test.YtcmkdoahkncakaaSh2K
import Derived.Test.YtcmkdoahkncakaaFindSLK
import Derived.Test.YtcmkdoahkncakaaCpLK
import Derived.Test.YtcmkdoahkncakaaAnyLK
import Derived.Test.YtcmkdoahkncakaaTreeOK
import Derived.Test.YtcmkdoahkncakaaOwnLK
import Derived.Test.YtcmkdoahkncakaaClearK
import Derived.Test.YtcmkdoahkncakaaShrFK
import Derived.Test.YtcmkdoahkncakaaEqLK
namespace Go.Proofs.Ytcmkdoahkncakaa
set_option linter.unusedVariables false
set_option linter.defProp false
def ipShrL_1 := info_parts (P := Try.prog) (e := 28) (z := .agg #[.int .i64 0, .int .i64 0, .int .i64 0, .int .i64 0, .int .i64 0, .string (ByteArray.mk #[])]) (size := 6) (bytes := 56) (by kernel_rfl)
def ipShrL_2 := info_parts (P := Try.prog) (e := 43) (z := .agg #[.int .i64 0, .int .i64 0, .int .i64 0, .int .i64 0]) (size := 4) (bytes := 32) (by kernel_rfl)
def ipShrL_3 := info_parts (P := Try.prog) (e := 3) (z := .int .i64 0) (size := 1) (bytes := 8) (by kernel_rfl)
set_option maxRecDepth 100000 in
set_option maxHeartbeats 4000000 in
theorem shrink_Remove_l (F : Nat) (p0 : DTree) (p1 : DSpot) (r : DTree × Int) (hF : shrink_Remove F p0 p1 = some r) (w : World) (A1 : Option Addr) (c1 : Nat) (hs1 : SlOk (vw w) eNode A1 c1 p0.nodes) :
 Calls Try.prog 21 #[.agg #[.int .i64 p0.root, .slice A1 p0.nodes.length c1], .agg #[.int .i64 p1.key.pfs, .int .i64 p1.key.obj, .int .i64 p1.key.off, .int .i64 p1.made]] w (Post (vT2 (vAg eTree) (vSc eInt)) r w) := by
 unfold shrink_Remove at hF
 let a315_ : Value := .agg #[vi p0.root, .slice A1 p0.nodes.length c1]
 let a316_ : Value := .agg #[vi p1.key.pfs, vi p1.key.obj, vi p1.key.off, vi p1.made]
 refine T.start (l := [a315_, a316_]) Try.func21 rfl rfl rfl ?_
 refine T.seq (T.region ?_)
 let v232_ : List Value := [vi p0.root, .slice A1 p0.nodes.length c1]
 refine T.step (W1.np 24 v232_ (fun _ => by kernel_rfl) (fun b1 => ?_))
 let v233_ : List Value := [vi p1.key.pfs, vi p1.key.obj, vi p1.key.off, vi p1.made]
 refine T.step (W1.np 43 v233_ (fun _ => by kernel_rfl) (fun b2 => ?_))
 let v234_ : List Value := [vi 0, sN]
 refine T.step (W1.np 24 v234_ (fun _ => by kernel_rfl) (fun b3 => ?_))
 refine T.pk (vi 0) (fun _ => by kernel_rfl) (T.nil (T.seq (T.seq (T.region (T.look a315_ (by kernel_rfl) (ldN 2 rfl rfl (fun _ => by kernel_rfl) (by rfl) rfl) ?_)))))
 refine T.look a316_ (by kernel_rfl) (ldN 1 rfl rfl (fun _ => by kernel_rfl) (by rfl) rfl) ?_
 obtain ⟨r1, hb1, hF⟩ := ob hF
 refine T.step (W1.call (vT2 (vAg eElem) (vSc eInt)) r1 34 #[a315_, a316_] (by kernel_rfl) (fun _ => by kernel_rfl) (fun w' hh => find_Spot_l F p0 p1 r1 hb1 w' A1 c1 (SlOk.mono hs1 hh.view)) ?_)
 intro u V1 hV1 hu
 obtain rfl := (Sure.t2 sureElem sureInt) _ _ _ hu
 refine T.p3 (.tuple #[.agg #[vi r1.1.key.pfs, vi r1.1.key.obj, vi r1.1.key.off, vi r1.1.made, vi r1.1.gone, .string r1.1.val], vi r1.2]) (.agg #[vi r1.1.key.pfs, vi r1.1.key.obj, vi r1.1.key.off, vi r1.1.made, vi r1.1.gone, .string r1.1.val]) (vi r1.2) (fun _ => by kernel_rfl) ?_
 let v235_ : List Value := [vi 0, vi 0, vi 0, vi 0, vi 0, .string (ByteArray.mk #[])]
 refine T.step (W1.np 28 v235_ (fun _ => by kernel_rfl) (fun b4 => ?_))
 let v236_ : List Value := [vi r1.1.key.pfs, vi r1.1.key.obj, vi r1.1.key.off, vi r1.1.made, vi r1.1.gone, .string r1.1.val]
 let i1_ : HObj := box b4 28 v236_
 let i2_ : HObj := box b3 24 v234_
 let i3_ : HObj := box b2 43 v233_
 let i4_ : HObj := box b1 24 v232_
 let t5_ : List HObj := i3_ :: i4_ :: []
 let t6_ : List HObj := i2_ :: t5_
 let t7_ : List HObj := i1_ :: t6_
 refine T.step (W1.st 0 v236_ t7_ v236_ (by rfl) rfl rfl rfl rfl rfl rfl (fun _ => by kernel_rfl) ?_)
 refine T.pk (vi r1.2) (fun _ => by kernel_rfl) (T.nil (T.seq (T.region (T.p2 (vi r1.2) (.bool (r1.2 != 0)) (fun _ => by kernel_rfl) (T.nil ?_)))))
 refine T.cond (r1.2 != 0) (by kernel_rfl) (by kernel_rfl) (fun hc1 => ?_) (fun hc1 => ?_)
 ·
  rw [hc1, cond_true] at hF
  refine T.seq (T.region (T.p2 (.agg #[vi 0, sN]) (vi r1.2) (fun _ => by kernel_rfl) (T.step (W1.st 1 v234_ t7_ v234_ (by rfl) rfl rfl rfl rfl rfl rfl (fun _ => by kernel_rfl) ?_))))
  refine T.pk (vi r1.2) (fun _ => by kernel_rfl) (T.nil ?_)
  cases hF
  refine T.ret rfl ?_
  exact T.ret2 rfl (ResIs.cellN 1 rfl (by rfl) (fun _ => by kernel_rfl) (fun _ => by kernel_rfl)) (ResIs.tmp rfl) fun w' hh => ⟨_, rfl, hh.below, (vT2.mk (vAg.mk ⟨_, _, rfl, (SlOk.nil _ _)⟩) (show _ from rfl))⟩
 rw [hc1, cond_false] at hF
 refine T.skip_code ?_
 refine T.seq ?_
 refine T.held t5_ (by kernel_rfl) ?_
 refine TA.keep (Hp.old vr hV1 (dr2 (kp1 (kp1 kp0))) (oB1 (oB1 ol0))) fun o359_ => ?_
 refine TA.tk 0 a315_ rfl (by kernel_rfl) (fun _ _ _ h => h) o359_ (ldN 1 rfl rfl (fun _ => by kernel_rfl) (by rfl) rfl) ?_
 refine TA.tk 2 a316_ rfl (by kernel_rfl) (fun _ _ _ h => h) o359_ (ldN 0 rfl rfl (fun _ => by kernel_rfl) (by rfl) rfl) ?_
 refine TA.all [1] (by kernel_rfl) rfl ⟨?_, trivial⟩
 obtain ⟨r2, hb2, hF⟩ := ob hF
 refine TA.br rfl (W1.callG 44 #[a315_] (fun p : Option Addr × Nat × List DHdr => .agg #[vi r2.root, .slice p.1 p.2.2.length p.2.1]) (fun p => ((row 97 eHdr p.1 p.2.1 p.2.2) :: (treeo (TreeTy.mk 28 3 43) p.2.2 (r2.nodes.map Sum.inr)) :: [])) (fun p => p.2.2.length = r2.nodes.length) (by kernel_rfl) (fun _ => by kernel_rfl) (fun w' hh => tree_Copy_l F p0 r2 hb2 w' A1 c1 (SlOk.mono (SlOk.mono hs1 hV1) hh.view)) ?_)
 rintro ⟨A2, c2, hs2⟩ hl1
 refine T.reH (H' := ((row 97 eHdr A2 c2 hs2) :: (treeo (TreeTy.mk 28 3 43) hs2 (r2.nodes.map Sum.inr)) :: t7_)) (by rfl) ?_
 refine TA.on (Hp.old vr hV1 (dr4 (kp1 (kp1 kp0))) (oB1 (oB1 ol0))) ?_
 refine TA.all [3] (by kernel_rfl) rfl ⟨?_, trivial⟩
 obtain ⟨q1, hX1, hF⟩ := ob hF
 let a317_ : Value := .agg #[vi r2.root, .slice A2 hs2.length c2]
 refine TA.br rfl (W1.within 50 [a317_, a316_] (fun v w' => ∃ (z1 : List (Int ⊕ DNode)) (z2 : Int), q1 = (z1, z2) ∧ ∃ (hs3 : List DHdr) (V2 : View), View.le V1 V2 ∧ v = .agg #[vi z2, .slice A2 hs3.length c2] ∧ Hp w V2 ((row 97 eHdr A2 c2 hs3) :: (treeo (TreeTy.mk 28 3 43) hs3 z1) :: t6_) w') Try.func50 rfl rfl (by kernel_rfl) (fun _ => by kernel_rfl) rfl ?_ ?_)
 ·
  refine T.seq (T.region ?_)
  let v237_ : List Value := [vi r2.root, .slice A2 hs2.length c2]
  refine T.step (W1.np 24 v237_ (fun _ => by kernel_rfl) (fun b5 => ?_))
  refine T.step (W1.np 43 v233_ (fun _ => by kernel_rfl) (fun b6 => ?_))
  refine T.step (W1.np 24 v234_ (fun _ => by kernel_rfl) (fun b7 => ?_))
  refine T.nil (T.seq (T.region (T.look a317_ (by kernel_rfl) (ldN 2 rfl rfl (fun _ => by kernel_rfl) (by rfl) rfl) ?_)))
  refine T.p2 a317_ a317_ (fun _ => by kernel_rfl) (T.step (W1.np 137 v237_ (fun _ => by kernel_rfl) (fun b8 => ?_)))
  refine T.pk (pB b8 0) (fun _ => by kernel_rfl) (T.nil (T.seq ?_))
  refine T.tree 5 (by rfl) (fun ht1 => ?_)
  let i8_ : HObj := box b8 137 v237_
  let i9_ : HObj := box b7 24 v234_
  let i10_ : HObj := box b6 43 v233_
  refine T.heldL 8 (i8_ :: i9_ :: i10_ :: (row 97 eHdr A2 c2 hs2) :: t6_) (by kernel_rfl) ?_
  refine TL.keep (Hp.old vr hV1 (kp3 (dr1 (kp1 (dr2 (kp2 (kp1 kp0)))))) (oB3 (oR1 (oB2 (oB1 ol0))))) fun o360_ => ?_
  refine TL.tv 0 (pB b8 0) rfl (fun _ => by kernel_rfl) (fun _ _ _ h => h) o360_ ?_
  refine TL.tv 1 (pB b8 0) rfl (fun _ => by kernel_rfl) (fun _ _ _ h => h) o360_ ?_
  refine TL.tv 2 (pB b8 0) rfl (fun _ => by kernel_rfl) (fun _ _ _ h => h) o360_ ?_
  refine TL.tv 3 (pB b8 0) rfl (fun _ => by kernel_rfl) (fun _ _ _ h => h) o360_ ?_
  refine TL.tv 4 (pB b8 0) rfl (fun _ => by kernel_rfl) (fun _ _ _ h => h) o360_ ?_
  refine TL.tv 5 (pB b8 0) rfl (fun _ => by kernel_rfl) (fun _ _ _ h => h) o360_ ?_
  refine TL.tk 6 (vi r2.root) [] rfl (by kernel_rfl) (fun _ _ _ h => h) o360_ (ld1 0 rfl rfl (fun _ => by kernel_rfl) (by rfl) rfl) ?_
  refine TL.tk 7 a316_ [] rfl (by kernel_rfl) (fun _ _ _ h => h) o360_ (ldN 2 rfl rfl (fun _ => by kernel_rfl) (by rfl) rfl) ?_
  refine TL.all [8] (by kernel_rfl) rfl ⟨?_, trivial⟩
  obtain ⟨q2, hz1, hX1⟩ := ob hX1
  refine (have hq1 := fix_rec (fun (s_ : (List (Int ⊕ DNode)) × Int) (r_ : (List (Int ⊕ DNode))) => ∀ (x1 : List (Int ⊕ DNode)) (x2 : Int), s_ = (x1, x2) → ∀ (V3 : View) (G1 : List HObj) (w1 : World), View.le V1 V3 → Hp w V3 (i8_ :: (row 97 eHdr A2 c2 hs2) :: (treeo (TreeTy.mk 28 3 43) hs2 x1) :: G1) w1 → Calls Try.prog 78 #[pB b8 0, vi x2, a316_] w1 (fun e w2 => ∃ v, e = .returned v ∧ ∃ (z3 : List (Int ⊕ DNode)), r_ = z3 ∧ ∃ (hs4 : List DHdr) (V4 : View), View.le V3 V4 ∧ v = .tuple #[] ∧ Hp w V4 ((box b8 137 [vi r2.root, .slice A2 hs4.length c2]) :: (row 97 eHdr A2 c2 hs4) :: (treeo (TreeTy.mk 28 3 43) hs4 z3) :: G1) w2)) hz1 ?_; ?_)
  ·
   rintro rf1 ih1 s_ r_ hS1 x1 x2 rfl V3 G1 w1 hV3 hh
   try dsimp only at hS1
   refine T.startI (l := [pB b8 0, vi x2, a316_]) Try.func78 rfl rfl rfl ?_ hh
   clear hh
   refine T.seq (T.region (T.step (W1.np 43 v233_ (fun _ => by kernel_rfl) (fun b9 => ?_))))
   refine T.nil (T.seq ?_)
   refine T.tree 3 (by rfl) (fun ht2 => ?_)
   refine T.region (T.p5 (pB b8 0) (pB b8 0) (pB b8 0) (pB b8 0) (pB b8 1) (fun _ => by kernel_rfl) (T.look (.slice A2 hs2.length c2) (by kernel_rfl) (ld1 1 rfl rfl (fun _ => by kernel_rfl) (by rfl) rfl) ?_))
   refine T.pk (vi x2) (fun _ => by kernel_rfl) ?_
   obtain ⟨n1, hb3, hS1⟩ := ob hS1
   obtain ⟨A3, c3, A4, c4, A5, c5, A6, c6, hi1, hi2, hx1⟩ := ht2.at_ hb3
   refine T.look (.pointer (some ((sadr A2).add (x2.toNat * 5)))) (by kernel_rfl) (ixR 2 (e := 97) (s := 5) rfl rfl rfl (fun _ => by kernel_rfl) hi1 hi2 (by rfl) hx1 (by decide)) ?_
   let v238_ : List Value := [vi n1.kind, .slice A3 n1.elems.length c3, .slice A4 n1.kids.length c4, .slice A5 n1.seps.length c5, .slice A6 n1.tids.length c6]
   let a318_ : Value := .agg #[vi n1.kind, .slice A3 n1.elems.length c3, .slice A4 n1.kids.length c4, .slice A5 n1.seps.length c5, .slice A6 n1.tids.length c6]
   refine T.look a318_ (by kernel_rfl) (fun w' hh => exec_loadN (cs := v238_) rfl rfl (by kernel_rfl) (by kernel_rfl) (fun j u hj => (SlOk.wcellF (E := eHdr) (hh.row_slOk (i := 2) (by rfl)) hx1 j (fun _ _ _ h => h) hj))) ?_
   refine T.takeN (ty := (TreeTy.mk 28 3 43)) (h := (DHdr.mk n1.kind A3 n1.elems.length c3 A4 n1.kids.length c4 A5 n1.seps.length c5 A6 n1.tids.length c6)) 3 (by rfl) hb3 hx1 rfl ?_
   let i11_ : HObj := box b9 43 v233_
   let i12_ : HObj := treeo (TreeTy.mk 28 3 43) hs2 (outAt x1 x2)
   let t13_ : List HObj := (row 97 eHdr A2 c2 hs2) :: i12_ :: G1
   let t14_ : List HObj := i8_ :: t13_
   let t15_ : List HObj := i11_ :: t14_
   let t16_ : List HObj := (row 3 eInt A6 c6 n1.tids) :: t15_
   let t17_ : List HObj := (row 43 eSpot A5 c5 n1.seps) :: t16_
   let t18_ : List HObj := (row 3 eInt A4 c4 n1.kids) :: t17_
   let t19_ : List HObj := (row 28 eElem A3 c3 n1.elems) :: t18_
   refine T.reH (H' := t19_) (by rfl) ?_
   refine T.tree 7 (by rfl) (fun ht3 => ?_)
   let v239_ : List Value := [vi 0, sN, sN, sN, sN]
   refine T.step (W1.np 97 v239_ (fun _ => by kernel_rfl) (fun b10 => ?_))
   let i20_ : HObj := box b10 97 v238_
   let t21_ : List HObj := i20_ :: t19_
   refine T.step (W1.st 0 v238_ t21_ v238_ (by rfl) rfl rfl rfl rfl rfl rfl (fun _ => by kernel_rfl) ?_)
   refine T.nil (T.seq (T.seq (T.region (T.pk (pB b10 0) (fun _ => by kernel_rfl) (T.look (vi n1.kind) (by kernel_rfl) (ld1 0 rfl rfl (fun _ => by kernel_rfl) (by rfl) rfl) ?_)))))
   refine T.pk (.bool (n1.kind == 1)) (fun _ => by kernel_rfl) (T.nil ?_)
   refine T.cond (n1.kind == 1) (by kernel_rfl) (by kernel_rfl) (fun hc2 => ?_) (fun hc2 => ?_)
   ·
    rw [hc2, cond_true] at hS1
    refine T.seq (T.region (T.pk (pB b10 1) (fun _ => by kernel_rfl) (T.look (.slice A3 n1.elems.length c3) (by kernel_rfl) (ld1 0 rfl rfl (fun _ => by kernel_rfl) (by rfl) rfl) ?_)))
    refine T.pk (.func (.func 94) #[] #[pB b9 0]) (fun _ => by kernel_rfl) ?_
    obtain ⟨z4, hX2, hS1⟩ := ob hS1
    let v240_ : List Value := [.slice A3 n1.elems.length c3, .func (.func 94) #[] #[pB b9 0]]
    refine T.step (W1.within 93 v240_ (fun v w' => ∃ (A7 : Option Addr) (c7 : Nat) (A8 : Option Addr) (n2 : Nat) (c8 : Nat), v = .slice A7 z4.length c7 ∧ Hp w V3 ((row 28 eElem A7 c7 z4) :: (box b10 97 [vi n1.kind, .slice A8 n2 c8, .slice A4 n1.kids.length c4, .slice A5 n1.seps.length c5, .slice A6 n1.tids.length c6]) :: t18_) w') Try.func93 rfl rfl (by kernel_rfl) (fun _ => by kernel_rfl) rfl ?_ ?_)
    ·
     refine T.seq (T.region (T.pk sN (fun _ => by kernel_rfl) (T.nil (T.seq (T.region (T.p2 (.slice A3 n1.elems.length c3) (.func (.func 94) #[] #[pB b9 0]) (fun _ => by kernel_rfl) ?_))))))
     obtain ⟨z5, hX3, hX2⟩ := ob hX2
     refine T.step (W1.within 100 v240_ (fun v w' => v = vi z5 ∧ Hp w V3 t21_ w') Try.func100 rfl rfl (by kernel_rfl) (fun _ => by kernel_rfl) rfl ?_ ?_)
     ·
      refine T.seq (T.region (T.pk (vi 0) (fun _ => by kernel_rfl) (T.nil (T.seq (T.seq (T.region (T.p3 (.slice A3 n1.elems.length c3) (vi (n1.elems.length : Int)) (vi 0) (fun _ => by kernel_rfl) (T.nil ?_))))))))
      obtain ⟨q3, hz2, hX3⟩ := ob hX3
      refine T.mid (fun a w' => q3 = Sum.inl () ∧ Fr 19 [] a ∧ Hp w V3 t21_ w') ?_ ?_
      ·
       refine T.block ?_
       refine T.iter (fun x3 a w' => Fr 19 [(0, .slice A3 n1.elems.length c3), (1, .func (.func 94) #[] #[pB b9 0]), (7, vi (n1.elems.length : Int)), (8, vi x3)] a ∧ Hp w V3 t21_ w') hz2 ?_ ?_
       ·
        exact fun a w' hf hh => ⟨(Fr.sel hf rfl), (hh.sub (kp8 (kp1 kpr)))⟩
       rintro x3 y1 hY1 hr1 a w' ⟨hf, hh⟩
       refine (?_ : T 19 w V3 t21_ [(0, .slice A3 n1.elems.length c3), (1, .func (.func 94) #[] #[pB b9 0]), (7, vi (n1.elems.length : Int)), (8, vi x3)] _) a w' hf hh
       clear hf hh
       try dsimp only at hY1
       refine T.seq (T.region (T.pk (.bool (decide (x3 < (n1.elems.length : Int)))) (fun _ => by kernel_rfl) (T.nil (T.seq ?_))))
       refine T.cond (decide (x3 < (n1.elems.length : Int))) (by kernel_rfl) (by kernel_rfl) (fun hc3 => ?_) (fun hc3 => ?_)
       ·
        rw [hc3, cond_true] at hY1
        refine T.skip_code ?_
        refine T.seq (T.block (T.seq (T.region (T.p2 (vi x3) (vi x3) (fun _ => by kernel_rfl) (T.nil (T.seq (T.region (T.p3 (.func (.func 94) #[] #[pB b9 0]) (.slice A3 n1.elems.length c3) (vi x3) (fun _ => by kernel_rfl) ?_))))))))
        obtain ⟨e1, hb4, hY1⟩ := ob hY1
        obtain ⟨hi3, hi4, hi5⟩ := idx_some hb4
        refine T.look (.pointer (some ((sadr A3).add (x3.toNat * 6)))) (by kernel_rfl) (ixR 1 (e := 28) (s := 6) rfl rfl rfl (fun _ => by kernel_rfl) hi3 hi4 (by rfl) hi5 (by decide)) ?_
        let v241_ : List Value := [vi e1.key.pfs, vi e1.key.obj, vi e1.key.off, vi e1.made, vi e1.gone, .string e1.val]
        let a319_ : Value := .agg #[vi e1.key.pfs, vi e1.key.obj, vi e1.key.off, vi e1.made, vi e1.gone, .string e1.val]
        refine T.look a319_ (by kernel_rfl) (fun w' hh => exec_loadN (cs := v241_) rfl rfl (by kernel_rfl) (by kernel_rfl) (fun j u hj => (SlOk.wcellF (E := eElem) (hh.row_slOk (i := 1) (by rfl)) hi5 j (fun _ _ _ h => h) hj))) ?_
        obtain ⟨z6, hX4, hY1⟩ := ob hY1
        refine T.step (W1.within 94 [a319_, pB b9 0] (fun v w' => v = .bool z6 ∧ Hp w V3 t21_ w') Try.func94 rfl rfl (by kernel_rfl) (fun _ => by kernel_rfl) rfl ?_ ?_)
        ·
         refine T.seq (T.region (T.step (W1.np 28 v241_ (fun _ => by kernel_rfl) (fun b11 => ?_))))
         refine T.pk (.bool false) (fun _ => by kernel_rfl) (T.nil (T.seq ?_))
         refine T.quiet (by kernel_rfl) (by kernel_rfl) ?_
         refine TQ.look a319_ (by kernel_rfl) (ldN 0 rfl rfl (fun _ => by kernel_rfl) (by rfl) rfl) ?_
         obtain ⟨r8, hb5, hX4⟩ := ob hX4
         refine TQ.call (vAg eSpot) r8 22 #[a319_] (.agg #[vi r8.key.pfs, vi r8.key.obj, vi r8.key.off, vi r8.made]) (fun V u hu => sureSpot V u _ hu) (by kernel_rfl) (fun _ => by kernel_rfl) (fun w' hh => elem_Spot_l e1 r8 hb5 w' ) ?_
         refine TQ.look a316_ (by kernel_rfl) (ldN 6 rfl rfl (fun _ => by kernel_rfl) (by rfl) rfl) ?_
         refine TQ.look (.bool (r8 == p1)) (by kernel_rfl) (fun w' hh => exec_eql_DSpot r8 p1 w' rfl rfl rfl) ?_
         refine TQ.pure (.bool (r8 == p1)) (by kernel_rfl) (fun _ => by kernel_rfl) ?_
         refine TQ.nil ?_
         cases hX4
         refine T.ret rfl ?_
         exact T.ret1 rfl (ResIs.tmp rfl) fun w' hh => ⟨_, rfl, ⟨rfl, (hh.sub (dr1 (kp8 (kp1 kpr))))⟩⟩
        rintro v w' ⟨rfl, hh⟩
        refine ⟨V3, t21_, hh, ?_⟩
        clear hh
        refine T.nil ?_
        refine T.cond z6 (by kernel_rfl) (by kernel_rfl) (fun hc4 => ?_) (fun hc4 => ?_)
        ·
         rw [hc4, cond_true] at hY1
         refine T.seq (T.region (T.p2 (vi x3) (vi x3) (fun _ => by kernel_rfl) (T.nil ?_)))
         cases hY1
         cases (hr1 _ rfl)
         try dsimp only at hX3
         cases hX3
         refine T.ret rfl ?_
         repeat first | refine T.unthen ?_ | refine T.unblock ?_
         exact T.ret1 rfl (ResIs.tmp rfl) fun w' hh => ⟨_, rfl, ⟨rfl, (hh.sub (kp8 (kp1 kpr)))⟩⟩
        rw [hc4, cond_false] at hY1
        refine T.skip_code ?_
        refine T.region (T.p2 (vi (IntKind.i64.wrap (x3 + 1))) (vi (IntKind.i64.wrap (x3 + 1))) (fun _ => by kernel_rfl) (T.nil ?_))
        cases hY1
        exact fun a w' hf hh => ⟨(IntKind.i64.wrap (x3 + 1)), rfl, (Fr.sel hf rfl), (hh.sub (kp8 (kp1 kpr)))⟩
       rw [hc3, cond_false] at hY1
       refine T.exit ?_
       cases hY1
       cases (hr1 _ rfl)
       exact fun a w' hf hh => ⟨rfl, (Fr.nil hf), (hh.sub (kp8 (kp1 kpr)))⟩
      rintro a w' ⟨rfl, hf, hh⟩
      try dsimp only at hX3
      refine (?_ : T 19 w V3 t21_ [] _) a w' hf hh
      clear hf hh
      refine T.seq (T.region (T.pk (vi (-1)) (fun _ => by kernel_rfl) (T.nil ?_)))
      cases hX3
      refine T.ret rfl ?_
      repeat first | refine T.unthen ?_ | refine T.unblock ?_
      exact T.ret1 rfl (ResIs.tmp rfl) fun w' hh => ⟨_, rfl, ⟨rfl, (hh.sub (kp8 (kp1 kpr)))⟩⟩
     rintro v w' ⟨rfl, hh⟩
     refine ⟨V3, t21_, hh, ?_⟩
     clear hh
     refine T.pk (vi z5) (fun _ => by kernel_rfl) (T.nil (T.seq (T.seq (T.region (T.p2 (vi z5) (.bool (z5 == (-1))) (fun _ => by kernel_rfl) (T.nil ?_))))))
     refine T.cond (z5 == (-1)) (by kernel_rfl) (by kernel_rfl) (fun hc5 => ?_) (fun hc5 => ?_)
     ·
      rw [hc5, cond_true] at hX2
      refine T.seq (T.region (T.p2 (.slice A3 n1.elems.length c3) (.slice A3 n1.elems.length c3) (fun _ => by kernel_rfl) (T.nil ?_)))
      cases hX2
      refine T.ret rfl ?_
      repeat first | refine T.unthen ?_ | refine T.unblock ?_
      exact T.ret1 rfl (ResIs.tmp rfl) fun w' hh => ⟨_, rfl, ⟨A3, c3, A3, n1.elems.length, c3, rfl, ((hh.sub (kp8 (kp1 kpr))).perm (pt sw0 pz))⟩⟩
     rw [hc5, cond_false] at hX2
     refine T.skip_code ?_
     refine T.seq (T.seq (T.region (T.p3 (vi z5) (vi (IntKind.i64.wrap (z5 + 1))) (vi (IntKind.i64.wrap (z5 + 1))) (fun _ => by kernel_rfl) (T.nil ?_))))
     obtain ⟨q4, hz3, hX2⟩ := ob hX2
     refine T.mid (fun a w' => ∃ (z7 : List DElem) (z8 : Int), q4 = (z7, z8) ∧ Fr 42 [(0, .slice A3 z7.length c3), (5, vi z8)] a ∧ Hp w V3 ((box b10 97 [vi n1.kind, .slice A3 z7.length c3, .slice A4 n1.kids.length c4, .slice A5 n1.seps.length c5, .slice A6 n1.tids.length c6]) :: (row 28 eElem A3 c3 z7) :: t18_) w') ?_ ?_
     ·
      refine T.block ?_
      refine T.iter (fun s1 a w' => ∃ (x4 : List DElem) (x5 : Int) (x6 : Int), s1 = (x4, x5, x6) ∧ Fr 42 [(0, .slice A3 x4.length c3), (1, .func (.func 94) #[] #[pB b9 0]), (5, vi x5), (6, vi x6)] a ∧ Hp w V3 ((box b10 97 [vi n1.kind, .slice A3 x4.length c3, .slice A4 n1.kids.length c4, .slice A5 n1.seps.length c5, .slice A6 n1.tids.length c6]) :: (row 28 eElem A3 c3 x4) :: t18_) w') hz3 ?_ ?_
      ·
       exact fun a w' hf hh => ⟨n1.elems, z5, (IntKind.i64.wrap (z5 + 1)), rfl, (Fr.sel hf rfl), (hh.sub (kp8 (kp1 kpr)))⟩
      rintro s1 y2 hY2 hr2 a w' ⟨x4, x5, x6, rfl, hf, hh⟩
      let i22_ : HObj := box b10 97 [vi n1.kind, .slice A3 x4.length c3, .slice A4 n1.kids.length c4, .slice A5 n1.seps.length c5, .slice A6 n1.tids.length c6]
      let t23_ : List HObj := (row 28 eElem A3 c3 x4) :: t18_
      let t24_ : List HObj := i22_ :: t23_
      refine (?_ : T 42 w V3 t24_ [(0, .slice A3 x4.length c3), (1, .func (.func 94) #[] #[pB b9 0]), (5, vi x5), (6, vi x6)] _) a w' hf hh
      clear hf hh
      try dsimp only at hY2
      refine T.seq (T.seq (T.region (T.p4 (vi x6) (.slice A3 x4.length c3) (vi (x4.length : Int)) (.bool (decide (x6 < (x4.length : Int)))) (fun _ => by kernel_rfl) (T.nil ?_))))
      refine T.cond (decide (x6 < (x4.length : Int))) (by kernel_rfl) (by kernel_rfl) (fun hc6 => ?_) (fun hc6 => ?_)
      ·
       rw [hc6, cond_true] at hY2
       refine T.skip_code ?_
       obtain ⟨q5, hX5, hY2⟩ := ob hY2
       refine T.cut (fun a w' => ∃ (z9 : List DElem) (z10 : Int), q5 = (z9, z10) ∧ Fr 42 [(0, .slice A3 z9.length c3), (1, .func (.func 94) #[] #[pB b9 0]), (5, vi z10), (6, vi x6)] a ∧ Hp w V3 ((box b10 97 [vi n1.kind, .slice A3 z9.length c3, .slice A4 n1.kids.length c4, .slice A5 n1.seps.length c5, .slice A6 n1.tids.length c6]) :: (row 28 eElem A3 c3 z9) :: t18_) w') ?_ ?_
       ·
        refine T.block (T.seq (T.region (T.p2 (.slice A3 x4.length c3) (vi x6) (fun _ => by kernel_rfl) ?_)))
        obtain ⟨e2, hb6, hX5⟩ := ob hX5
        obtain ⟨hi6, hi7, hi8⟩ := idx_some hb6
        refine T.look (.pointer (some ((sadr A3).add (x6.toNat * 6)))) (by kernel_rfl) (ixR 1 (e := 28) (s := 6) rfl rfl rfl (fun _ => by kernel_rfl) hi6 hi7 (by rfl) hi8 (by decide)) ?_
        let v242_ : List Value := [vi e2.key.pfs, vi e2.key.obj, vi e2.key.off, vi e2.made, vi e2.gone, .string e2.val]
        let a320_ : Value := .agg #[vi e2.key.pfs, vi e2.key.obj, vi e2.key.off, vi e2.made, vi e2.gone, .string e2.val]
        refine T.look a320_ (by kernel_rfl) (fun w' hh => exec_loadN (cs := v242_) rfl rfl (by kernel_rfl) (by kernel_rfl) (fun j u hj => (SlOk.wcellF (E := eElem) (hh.row_slOk (i := 1) (by rfl)) hi8 j (fun _ _ _ h => h) hj))) ?_
        refine T.step (W1.np 28 v235_ (fun _ => by kernel_rfl) (fun b12 => ?_))
        let i25_ : HObj := box b12 28 v242_
        let t26_ : List HObj := i25_ :: t24_
        refine T.step (W1.st 0 v242_ t26_ v242_ (by rfl) rfl rfl rfl rfl rfl rfl (fun _ => by kernel_rfl) ?_)
        refine T.nil (T.seq (T.region (T.pk (.func (.func 94) #[] #[pB b9 0]) (fun _ => by kernel_rfl) (T.look a320_ (by kernel_rfl) (ldN 0 rfl rfl (fun _ => by kernel_rfl) (by rfl) rfl) ?_))))
        obtain ⟨z11, hX6, hX5⟩ := ob hX5
        refine T.step (W1.within 94 [a320_, pB b9 0] (fun v w' => v = .bool z11 ∧ Hp w V3 t26_ w') Try.func94 rfl rfl (by kernel_rfl) (fun _ => by kernel_rfl) rfl ?_ ?_)
        ·
         refine T.seq (T.region (T.step (W1.np 28 v242_ (fun _ => by kernel_rfl) (fun b13 => ?_))))
         refine T.pk (.bool false) (fun _ => by kernel_rfl) (T.nil (T.seq ?_))
         refine T.quiet (by kernel_rfl) (by kernel_rfl) ?_
         refine TQ.look a320_ (by kernel_rfl) (ldN 0 rfl rfl (fun _ => by kernel_rfl) (by rfl) rfl) ?_
         obtain ⟨r9, hb7, hX6⟩ := ob hX6
         refine TQ.call (vAg eSpot) r9 22 #[a320_] (.agg #[vi r9.key.pfs, vi r9.key.obj, vi r9.key.off, vi r9.made]) (fun V u hu => sureSpot V u _ hu) (by kernel_rfl) (fun _ => by kernel_rfl) (fun w' hh => elem_Spot_l e2 r9 hb7 w' ) ?_
         refine TQ.look a316_ (by kernel_rfl) (ldN 7 rfl rfl (fun _ => by kernel_rfl) (by rfl) rfl) ?_
         refine TQ.look (.bool (r9 == p1)) (by kernel_rfl) (fun w' hh => exec_eql_DSpot r9 p1 w' rfl rfl rfl) ?_
         refine TQ.pure (.bool (r9 == p1)) (by kernel_rfl) (fun _ => by kernel_rfl) ?_
         refine TQ.nil ?_
         cases hX6
         refine T.ret rfl ?_
         exact T.ret1 rfl (ResIs.tmp rfl) fun w' hh => ⟨_, rfl, ⟨rfl, (hh.sub (dr1 (kp9 (kp1 kpr))))⟩⟩
        rintro v w' ⟨rfl, hh⟩
        refine ⟨V3, t26_, hh, ?_⟩
        clear hh
        refine T.pk (.bool (!z11)) (fun _ => by kernel_rfl) (T.nil ?_)
        refine T.cond (!z11) (by kernel_rfl) (by kernel_rfl) (fun hc7 => ?_) (fun hc7 => ?_)
        ·
         rw [hc7, cond_true] at hX5
         refine T.seq (T.region (T.p2 (.slice A3 x4.length c3) (vi x5) (fun _ => by kernel_rfl) (T.look a320_ (by kernel_rfl) (ldN 0 rfl rfl (fun _ => by kernel_rfl) (by rfl) rfl) ?_)))
         obtain ⟨e3, hb8, hX5⟩ := ob hX5
         obtain ⟨hi9, hi10, hi11⟩ := idx_some hb8
         refine T.look (.pointer (some ((sadr A3).add (x5.toNat * 6)))) (by kernel_rfl) (ixR 2 (e := 28) (s := 6) rfl rfl rfl (fun _ => by kernel_rfl) hi9 hi10 (by rfl) hi11 (by decide)) ?_
         refine T.step (W1.storeRow (E := eElem) 2 (x5.toNat) 0 e3 e2 _ (vs := v242_) (by rfl) (by kernel_rfl) rfl rfl (addr_add0 _).symm rfl rfl (fun _ => by kernel_rfl) (one_of rfl) hi11 (Nat.le_of_ble_eq_true (by kernel_rfl)) (fun _ _ h => by cases h; rfl) ?_)
         refine T.reslot 0 (.slice A3 ((x4.set x5.toNat e2).length) c3) rfl (by simp +zetaDelta only [List.length_set]) ?_
         refine T.reslot 17 (.slice A3 ((x4.set x5.toNat e2).length) c3) rfl (by simp +zetaDelta only [List.length_set]) ?_
         refine T.reslot 22 (.slice A3 ((x4.set x5.toNat e2).length) c3) rfl (by simp +zetaDelta only [List.length_set]) ?_
         refine T.reslot 30 (.slice A3 ((x4.set x5.toNat e2).length) c3) rfl (by simp +zetaDelta only [List.length_set]) ?_
         refine T.reH (H' := (i25_ :: (box b10 97 [vi n1.kind, .slice A3 ((x4.set x5.toNat e2).length) c3, .slice A4 n1.kids.length c4, .slice A5 n1.seps.length c5, .slice A6 n1.tids.length c6]) :: (row 28 eElem A3 c3 (x4.set x5.toNat e2)) :: t18_)) (by first | (simp +zetaDelta only [List.length_set]; done) | (simp +zetaDelta only [List.length_set]; rfl)) ?_
         refine T.nil (T.region (T.p3 (vi x5) (vi (IntKind.i64.wrap (x5 + 1))) (vi (IntKind.i64.wrap (x5 + 1))) (fun _ => by kernel_rfl) (T.nil ?_)))
         cases hX5
         exact fun a w' hf hh => ⟨(x4.set x5.toNat e2), (IntKind.i64.wrap (x5 + 1)), rfl, (Fr.sel hf rfl), (hh.sub (dr1 (kp8 (kp1 kpr))))⟩
        rw [hc7, cond_false] at hX5
        refine T.skip_code ?_
        cases hX5
        exact fun a w' hf hh => ⟨x4, x5, rfl, (Fr.sel hf rfl), (hh.sub (dr1 (kp8 (kp1 kpr))))⟩
       rintro a w' ⟨z9, z10, rfl, hf, hh⟩
       try dsimp only at hY2
       refine (?_ : T 42 w V3 ((box b10 97 [vi n1.kind, .slice A3 z9.length c3, .slice A4 n1.kids.length c4, .slice A5 n1.seps.length c5, .slice A6 n1.tids.length c6]) :: (row 28 eElem A3 c3 z9) :: t18_) [(0, .slice A3 z9.length c3), (1, .func (.func 94) #[] #[pB b9 0]), (5, vi z10), (6, vi x6)] _) a w' hf hh
       clear hf hh
       refine T.region (T.p3 (vi x6) (vi (IntKind.i64.wrap (x6 + 1))) (vi (IntKind.i64.wrap (x6 + 1))) (fun _ => by kernel_rfl) (T.nil ?_))
       cases hY2
       exact fun a w' hf hh => ⟨(z9, z10, IntKind.i64.wrap (x6 + 1)), rfl, z9, z10, (IntKind.i64.wrap (x6 + 1)), rfl, (Fr.sel hf rfl), (hh.sub (kp8 (kp1 kpr)))⟩
      rw [hc6, cond_false] at hY2
      refine T.exit ?_
      cases hY2
      cases (hr2 _ rfl)
      exact fun a w' hf hh => ⟨x4, x5, rfl, (Fr.sel hf rfl), (hh.sub (kp8 (kp1 kpr)))⟩
     rintro a w' ⟨z7, z8, rfl, hf, hh⟩
     try dsimp only at hX2
     refine (?_ : T 42 w V3 ((box b10 97 [vi n1.kind, .slice A3 z7.length c3, .slice A4 n1.kids.length c4, .slice A5 n1.seps.length c5, .slice A6 n1.tids.length c6]) :: (row 28 eElem A3 c3 z7) :: t18_) [(0, .slice A3 z7.length c3), (5, vi z8)] _) a w' hf hh
     clear hf hh
     refine T.seq (T.region (T.p2 (.slice A3 z7.length c3) (vi z8) (fun _ => by kernel_rfl) ?_))
     obtain ⟨s2, hb9, hX2⟩ := ob hX2
     refine T.look (.slice (cutA A3 c3 z8.toNat 6) s2.length (c3 - z8.toNat)) (by kernel_rfl) (fun w' hh => exec_slice_list (e := 28) (s := 6) (lx := (some _)) (hx := none) (k := .i64) (k' := .i64) rfl rfl (by kernel_rfl) (by kernel_rfl) ((hh.row_slOk (i := 1) (by rfl))).1 rfl rfl hb9) ?_
     refine T.step (W1.clear (E := eElem) (l := z7) (x := ((DElem.mk (DKey.mk 0 0 0) 0 0 (ByteArray.mk #[])) : DElem)) (z := .agg #[vi 0, vi 0, vi 0, vi 0, vi 0, .string (ByteArray.mk #[])]) 1 z8.toNat s2.length _ (by rfl) (by kernel_rfl) rfl (by kernel_rfl) (fun _ => by kernel_rfl) (fun _ => rfl) rfl (by decide) rfl (lslice_fit hb9) ?_)
     have hl2 : (over z7 z8.toNat (List.replicate s2.length ((DElem.mk (DKey.mk 0 0 0) 0 0 (ByteArray.mk #[])) : DElem))).length = z7.length := (by exact over_length _ _ _ (by rw [List.length_replicate]; have := (lslice_fit hb9); omega))
     refine T.reslot 0 (.slice A3 ((over z7 z8.toNat (List.replicate s2.length ((DElem.mk (DKey.mk 0 0 0) 0 0 (ByteArray.mk #[])) : DElem))).length) c3) rfl (by simp +zetaDelta only [hl2]) ?_
     refine T.reslot 36 (.slice A3 ((over z7 z8.toNat (List.replicate s2.length ((DElem.mk (DKey.mk 0 0 0) 0 0 (ByteArray.mk #[])) : DElem))).length) c3) rfl (by simp +zetaDelta only [hl2]) ?_
     refine T.reH (H' := ((box b10 97 [vi n1.kind, .slice A3 ((over z7 z8.toNat (List.replicate s2.length ((DElem.mk (DKey.mk 0 0 0) 0 0 (ByteArray.mk #[])) : DElem))).length) c3, .slice A4 n1.kids.length c4, .slice A5 n1.seps.length c5, .slice A6 n1.tids.length c6]) :: (row 28 eElem A3 c3 (over z7 z8.toNat (List.replicate s2.length ((DElem.mk (DKey.mk 0 0 0) 0 0 (ByteArray.mk #[])) : DElem)))) :: t18_)) (by first | (simp +zetaDelta only [hl2]; done) | (simp +zetaDelta only [hl2]; rfl)) ?_
     refine T.nil (T.seq (T.region (T.p2 (.slice A3 ((over z7 z8.toNat (List.replicate s2.length ((DElem.mk (DKey.mk 0 0 0) 0 0 (ByteArray.mk #[])) : DElem))).length) c3) (vi z8) (fun _ => by kernel_rfl) ?_)))
     obtain ⟨s3, hb10, hX2⟩ := ob hX2
     refine T.look (.slice A3 s3.length c3) (by kernel_rfl) (sl0 1 (e := 28) (s := 6) rfl rfl (fun _ => by kernel_rfl) (by rfl) rfl hb10) ?_
     refine T.pk (.slice A3 s3.length c3) (fun _ => by kernel_rfl) (T.nil ?_)
     refine T.shrink (l := s3) 1 (by rfl) (lslice_prefix hb10) ?_
     cases hX2
     refine T.ret rfl ?_
     repeat first | refine T.unthen ?_ | refine T.unblock ?_
     exact T.ret1 rfl (ResIs.tmp rfl) fun w' hh => ⟨_, rfl, ⟨A3, c3, A3, ((over z7 z8.toNat (List.replicate s2.length ((DElem.mk (DKey.mk 0 0 0) 0 0 (ByteArray.mk #[])) : DElem))).length), c3, rfl, ((hh.sub (kp8 (kp1 kpr))).perm (pt sw0 pz))⟩⟩
    rintro v w' ⟨A7, c7, A8, n2, c8, rfl, hh⟩
    refine ⟨V3, ((row 28 eElem A7 c7 z4) :: (box b10 97 [vi n1.kind, .slice A8 n2 c8, .slice A4 n1.kids.length c4, .slice A5 n1.seps.length c5, .slice A6 n1.tids.length c6]) :: t18_), hh, ?_⟩
    clear hh
    refine T.pk (pB b10 1) (fun _ => by kernel_rfl) ?_
    let v243_ : List Value := [vi n1.kind, .slice A7 z4.length c7, .slice A4 n1.kids.length c4, .slice A5 n1.seps.length c5, .slice A6 n1.tids.length c6]
    let i27_ : HObj := box b10 97 v243_
    refine T.step (W1.st 1 v243_ ((row 28 eElem A7 c7 z4) :: i27_ :: t18_) [.slice A7 z4.length c7] (by rfl) rfl rfl rfl rfl rfl rfl (fun _ => by kernel_rfl) ?_)
    refine T.nil (T.seq ?_)
    refine T.heldL 9 ((row 28 eElem A7 c7 z4) :: i27_ :: (row 3 eInt A4 c4 n1.kids) :: (row 43 eSpot A5 c5 n1.seps) :: (row 3 eInt A6 c6 n1.tids) :: i8_ :: (row 97 eHdr A2 c2 hs2) :: []) (by kernel_rfl) ?_
    refine TL.keep (Hp.old vr (vt hV1 hV3) (kp5 (dr1 (kp2 (dr1 kp0)))) (oR1 (oB1 (oR3 (oB1 (oR1 ol0)))))) fun o361_ => ?_
    refine TL.tv 0 (pB b8 0) rfl (fun _ => by kernel_rfl) (fun _ _ _ h => h) o361_ ?_
    refine TL.tv 1 (pB b8 0) rfl (fun _ => by kernel_rfl) (fun _ _ _ h => h) o361_ ?_
    refine TL.tv 2 (pB b8 0) rfl (fun _ => by kernel_rfl) (fun _ _ _ h => h) o361_ ?_
    refine TL.tv 3 (pB b8 0) rfl (fun _ => by kernel_rfl) (fun _ _ _ h => h) o361_ ?_
    refine TL.tv 4 (pB b8 1) rfl (fun _ => by kernel_rfl) (fun _ _ _ h => h) o361_ ?_
    refine TL.tk 5 (.slice A2 hs2.length c2) [] rfl (by kernel_rfl) (fun _ _ _ h => h) o361_ (ld1 5 rfl rfl (fun _ => by kernel_rfl) (by rfl) rfl) ?_
    refine TL.tv 6 (vi x2) rfl (fun _ => by kernel_rfl) (fun _ _ _ h => h) o361_ ?_
    refine TL.tk 7 (.agg #[vi n1.kind, .slice A7 z4.length c7, .slice A4 n1.kids.length c4, .slice A5 n1.seps.length c5, .slice A6 n1.tids.length c6]) [] rfl (by kernel_rfl) (fun _ _ _ h => h) o361_ (ldN 1 rfl rfl (fun _ => by kernel_rfl) (by rfl) rfl) ?_
    obtain ⟨u1, hb11, hS1⟩ := ob hS1
    obtain ⟨hi12, hi13, e4, hx2⟩ := ht3.has hb11
    refine TL.tk 8 (.pointer (some ((sadr A2).add (x2.toNat * 5)))) [] rfl (by kernel_rfl) (fun _ _ _ h => h) o361_ (ixR 6 (e := 97) (s := 5) rfl rfl rfl (fun _ => by kernel_rfl) hi12 hi13 (by rfl) hx2 (by decide)) ?_
    refine TL.all [9] (by kernel_rfl) rfl ⟨?_, trivial⟩
    let d335_ : DHdr := DHdr.mk n1.kind A7 z4.length c7 A4 n1.kids.length c4 A5 n1.seps.length c5 A6 n1.tids.length c6
    refine TL.br rfl (W1.storeRow (E := eHdr) 7 (x2.toNat) 0 e4 d335_ _ (vs := v243_) (by rfl) (by kernel_rfl) rfl rfl (addr_add0 _).symm rfl rfl (fun _ => by kernel_rfl) (one_of rfl) hx2 (Nat.le_of_ble_eq_true (by kernel_rfl)) (fun _ _ h => by cases h; rfl) ?_)
    refine TL.onW (by kernel_rfl) ?_
    let h343_ : List DHdr := hs2.set x2.toNat d335_
    refine T.reslot 14 (.slice A2 (h343_.length) c2) rfl (by simp +zetaDelta only [List.length_set]) ?_
    refine T.reslot 31 (.slice A2 (h343_.length) c2) rfl (by simp +zetaDelta only [List.length_set]) ?_
    let i28_ : HObj := box b8 137 [vi r2.root, .slice A2 (h343_.length) c2]
    let i29_ : HObj := row 97 eHdr A2 c2 h343_
    refine T.reH (H' := ((row 28 eElem A7 c7 z4) :: i27_ :: (row 3 eInt A4 c4 n1.kids) :: (row 43 eSpot A5 c5 n1.seps) :: (row 3 eInt A6 c6 n1.tids) :: i11_ :: i28_ :: i29_ :: i12_ :: G1)) (by first | (simp +zetaDelta only [List.length_set]; done) | (simp +zetaDelta only [List.length_set]; rfl)) ?_
    refine T.putS (ty := (TreeTy.mk 28 3 43)) (i27_ :: i11_ :: i28_ :: i29_ :: G1) d335_ (DNode.mk n1.kind z4 n1.kids n1.seps n1.tids) (pc1 (pt sw0 (pc1 (pt sw0 (pc1 (pt sw0 (pc1 (pt sw3 (pt sw2 (pt sw1 (pt sw0 pz))))))))))) ⟨rfl, rfl, rfl, rfl, rfl⟩ hb11 ?_
    have hb12 := nodeAt_put (n := (DNode.mk n1.kind z4 n1.kids n1.seps n1.tids)) hb11
    have hx3 := TreeOk.set_at ht3 d335_ hb11
    refine T.reH (H' := ((treeo (TreeTy.mk 28 3 43) h343_ (putAt (outAt x1 x2) x2 (DNode.mk n1.kind z4 n1.kids n1.seps n1.tids))) :: i27_ :: i11_ :: i28_ :: i29_ :: G1)) (by rfl) ?_
    refine T.tree 0 (by rfl) (fun ht4 => ?_)
    refine TL.done (by kernel_rfl) ?_
    have hres := Option.some.inj hS1
    subst hres
    refine T.ret rfl ?_
    repeat first | refine T.unthen ?_ | refine T.unblock ?_
    exact T.ret0 rfl  fun w' hh => ⟨_, rfl, ⟨(putAt (outAt x1 x2) x2 (DNode.mk n1.kind z4 n1.kids n1.seps n1.tids)), rfl, h343_, V3, vr, rfl, ((hh.sub (kp1 (dr2 (kp1 (kp1 kpr))))).perm (pt sw0 (pc1 (pt sw0 pz))))⟩⟩
   rw [hc2, cond_false] at hS1
   refine T.skip_code ?_
   refine T.seq (T.region (T.look a318_ (by kernel_rfl) (ldN 0 rfl rfl (fun _ => by kernel_rfl) (by rfl) rfl) ?_))
   refine T.look a316_ (by kernel_rfl) (ldN 5 rfl rfl (fun _ => by kernel_rfl) (by rfl) rfl) ?_
   obtain ⟨r10, hb13, hS1⟩ := ob hS1
   refine T.step (W1.call (vSc eInt) r10 71 #[a318_, a316_] (by kernel_rfl) (fun _ => by kernel_rfl) (fun w' hh => node_Way_l F n1 p1 r10 hb13 w' A3 c3 (hh.row_slOk (i := 1) (by rfl)) A4 c4 (hh.row_slOk (i := 2) (by rfl)) A5 c5 (hh.row_slOk (i := 3) (by rfl)) A6 c6 (hh.row_slOk (i := 4) (by rfl))) ?_)
   intro u V5 hV5 hu
   obtain rfl := sureInt _ _ _ hu
   refine T.pk (vi r10) (fun _ => by kernel_rfl) (T.nil (T.seq ?_))
   refine T.heldL 7 (i20_ :: (row 28 eElem A3 c3 n1.elems) :: (row 3 eInt A4 c4 n1.kids) :: (row 43 eSpot A5 c5 n1.seps) :: (row 3 eInt A6 c6 n1.tids) :: i11_ :: i8_ :: (row 97 eHdr A2 c2 hs2) :: []) (by kernel_rfl) ?_
   have w348_ := vt (vt hV1 hV3) hV5
   refine TL.keep (Hp.old vr w348_ (kp8 (dr1 kp0)) (oB1 (oR4 (oB2 (oR1 ol0))))) fun o362_ => ?_
   refine TL.tv 0 (pB b8 0) rfl (fun _ => by kernel_rfl) (fun _ _ _ h => h) o362_ ?_
   refine TL.tv 1 (pB b10 2) rfl (fun _ => by kernel_rfl) (fun _ _ _ h => h) o362_ ?_
   refine TL.tk 2 (.slice A4 n1.kids.length c4) [5, 4] rfl (by kernel_rfl) (fun _ _ _ h => h) o362_ (ld1 0 rfl rfl (fun _ => by kernel_rfl) (by rfl) rfl) ?_
   refine TL.tv 3 (vi r10) rfl (fun _ => by kernel_rfl) (fun _ _ _ h => h) o362_ ?_
   obtain ⟨e5, hb14, hS1⟩ := ob hS1
   obtain ⟨hi14, hi15, hi16⟩ := idx_some hb14
   refine TL.tk 4 (.pointer (some ((sadr A4).add (r10.toNat * 1)))) [5] rfl (by kernel_rfl) (fun _ _ _ h => h) o362_ (ixR 2 (e := 3) (s := 1) rfl rfl rfl (fun _ => by kernel_rfl) hi14 hi15 (by rfl) hi16 (by decide)) ?_
   refine TL.tk 5 (vi e5) [] rfl (by kernel_rfl) (fun _ _ _ h => h) o362_ (fun w' hh => exec_load1 rfl rfl (by kernel_rfl) (SlOk.wcellF0 (E := eInt) (hh.row_slOk (i := 2) (by rfl)) hi16 (fun _ _ _ h => h) rfl)) ?_
   refine TL.tk 6 a316_ [] rfl (by kernel_rfl) (fun _ _ _ h => h) o362_ (ldN 5 rfl rfl (fun _ => by kernel_rfl) (by rfl) rfl) ?_
   refine TL.all [7] (by kernel_rfl) rfl ⟨?_, trivial⟩
   obtain ⟨z12, hz4, hS1⟩ := ob hS1
   refine TL.br rfl (W1.callI 78 [pB b8 0, vi e5, a316_] (fun v w' => ∃ (z12x : List (Int ⊕ DNode)), z12 = z12x ∧ ∃ (c9 : List DHdr) (V6 : View), View.le V5 V6 ∧ v = .tuple #[] ∧ Hp w V6 ((box b8 137 [vi r2.root, .slice A2 c9.length c2]) :: (row 97 eHdr A2 c2 c9) :: (treeo (TreeTy.mk 28 3 43) c9 z12x) :: i20_ :: (row 28 eElem A3 c3 n1.elems) :: (row 3 eInt A4 c4 n1.kids) :: (row 43 eSpot A5 c5 n1.seps) :: (row 3 eInt A6 c6 n1.tids) :: i11_ :: G1) w') (by kernel_rfl) (fun _ => by kernel_rfl) (fun w' hh => ih1 _ _ hz4 (outAt x1 x2) e5 rfl V5 (i20_ :: (row 28 eElem A3 c3 n1.elems) :: (row 3 eInt A4 c4 n1.kids) :: (row 43 eSpot A5 c5 n1.seps) :: (row 3 eInt A6 c6 n1.tids) :: i11_ :: G1) w' (vt hV3 hV5) ((hh.sub (kp8 (kp1 kpr))).perm (pt sw5 (pt sw4 (pt sw3 (pt sw2 (pt sw1 (pt sw0 (pc1 (pt sw5 (pt sw4 (pt sw3 (pt sw2 (pt sw1 (pt sw0 (pc1 (pt sw5 (pt sw4 (pt sw3 (pt sw2 (pt sw1 (pt sw0 pz)))))))))))))))))))))) ?_)
   rintro v w' ⟨z12x, rfl, c9, V6, hV6, rfl, hh⟩
   try dsimp only at hS1
   let i30_ : HObj := box b8 137 [vi r2.root, .slice A2 c9.length c2]
   let i31_ : HObj := treeo (TreeTy.mk 28 3 43) c9 z12
   let t32_ : List HObj := (row 97 eHdr A2 c2 c9) :: i31_ :: G1
   let t33_ : List HObj := i30_ :: t32_
   let t34_ : List HObj := i11_ :: t33_
   refine ⟨V6, (i20_ :: (row 28 eElem A3 c3 n1.elems) :: (row 3 eInt A4 c4 n1.kids) :: (row 43 eSpot A5 c5 n1.seps) :: (row 3 eInt A6 c6 n1.tids) :: t34_), (hh.sub (kp8 (kp1 kpr))).perm (pt sw2 (pt sw1 (pt sw0 (pc1 (pt sw2 (pt sw1 (pt sw0 (pc1 (pt sw2 (pt sw1 (pt sw0 (pc1 (pt sw2 (pt sw1 (pt sw0 (pc1 (pt sw2 (pt sw1 (pt sw0 (pc1 (pt sw2 (pt sw1 (pt sw0 pz))))))))))))))))))))))), ?_⟩
   clear hh
   refine TL.onW (by kernel_rfl) ?_
   refine TL.done (by kernel_rfl) ?_
   refine T.seq ?_
   refine T.tree 8 (by rfl) (fun ht5 => ?_)
   let t35_ : List HObj := i30_ :: (row 97 eHdr A2 c2 c9) :: []
   refine T.held (i20_ :: (row 28 eElem A3 c3 n1.elems) :: (row 3 eInt A4 c4 n1.kids) :: (row 43 eSpot A5 c5 n1.seps) :: (row 3 eInt A6 c6 n1.tids) :: t35_) (by kernel_rfl) ?_
   have w349_ := vt (vt (vt hV1 hV3) hV5) hV6
   refine TA.keep (Hp.old vr w349_ (kp5 (dr1 (kp2 (dr1 kp0)))) (oB1 (oR4 (oB1 (oR1 ol0))))) fun o363_ => ?_
   refine TA.tp 0 (pB b8 0) rfl (fun _ => by kernel_rfl) (fun _ _ _ h => h) o363_ ?_
   refine TA.tp 1 (pB b8 0) rfl (fun _ => by kernel_rfl) (fun _ _ _ h => h) o363_ ?_
   refine TA.tp 2 (pB b8 0) rfl (fun _ => by kernel_rfl) (fun _ _ _ h => h) o363_ ?_
   refine TA.tp 3 (pB b8 0) rfl (fun _ => by kernel_rfl) (fun _ _ _ h => h) o363_ ?_
   refine TA.tp 4 (pB b8 1) rfl (fun _ => by kernel_rfl) (fun _ _ _ h => h) o363_ ?_
   refine TA.tk 5 (.slice A2 c9.length c2) rfl (by kernel_rfl) (fun _ _ _ h => h) o363_ (ld1 5 rfl rfl (fun _ => by kernel_rfl) (by rfl) rfl) ?_
   refine TA.tp 6 (pB b10 2) rfl (fun _ => by kernel_rfl) (fun _ _ _ h => h) o363_ ?_
   refine TA.tk 7 (.slice A4 n1.kids.length c4) rfl (by kernel_rfl) (fun _ _ _ h => h) o363_ (ld1 0 rfl rfl (fun _ => by kernel_rfl) (by rfl) rfl) ?_
   refine TA.tp 8 (vi r10) rfl (fun _ => by kernel_rfl) (fun _ _ _ h => h) o363_ ?_
   obtain ⟨e6, hb15, hS1⟩ := ob hS1
   obtain ⟨hi17, hi18, hi19⟩ := idx_some hb15
   refine TA.tk 9 (.pointer (some ((sadr A4).add (r10.toNat * 1)))) rfl (by kernel_rfl) (fun _ _ _ h => h) o363_ (ixR 2 (e := 3) (s := 1) rfl rfl rfl (fun _ => by kernel_rfl) hi17 hi18 (by rfl) hi19 (by decide)) ?_
   refine TA.tk 10 (vi e6) rfl (by kernel_rfl) (fun _ _ _ h => h) o363_ (fun w' hh => exec_load1 rfl rfl (by kernel_rfl) (SlOk.wcellF0 (E := eInt) (hh.row_slOk (i := 2) (by rfl)) hi19 (fun _ _ _ h => h) rfl)) ?_
   obtain ⟨n4, hb16, hS1⟩ := ob hS1
   obtain ⟨A9, c10, A10, c11, A11, c12, A12, c13, hi20, hi21, hx4⟩ := ht5.at_ hb16
   refine TA.tk 11 (.pointer (some ((sadr A2).add (e6.toNat * 5)))) rfl (by kernel_rfl) (fun _ _ _ h => h) o363_ (ixR 6 (e := 97) (s := 5) rfl rfl rfl (fun _ => by kernel_rfl) hi20 hi21 (by rfl) hx4 (by decide)) ?_
   let v244_ : List Value := [vi n4.kind, .slice A9 n4.elems.length c10, .slice A10 n4.kids.length c11, .slice A11 n4.seps.length c12, .slice A12 n4.tids.length c13]
   let a321_ : Value := .agg #[vi n4.kind, .slice A9 n4.elems.length c10, .slice A10 n4.kids.length c11, .slice A11 n4.seps.length c12, .slice A12 n4.tids.length c13]
   refine TA.tk 12 a321_ rfl (by kernel_rfl) (fun _ _ _ h => h) o363_ (fun w' hh => exec_loadN (cs := v244_) rfl rfl (by kernel_rfl) (by kernel_rfl) (fun j u hj => (SlOk.wcellF (E := eHdr) (hh.row_slOk (i := 6) (by rfl)) hx4 j (fun _ _ _ h => h) hj))) ?_
   refine TA.all [13] (by kernel_rfl) rfl ⟨?_, trivial⟩
   refine TA.br rfl (W1.np 97 v239_ (fun _ => by kernel_rfl) (fun b14 => ?_))
   refine TA.on (Hp.old vr w349_ (dr1 (kp5 (dr1 (kp2 (dr1 kp0))))) (oB1 (oR4 (oB1 (oR1 ol0))))) ?_
   refine TA.all [14] (by kernel_rfl) rfl ⟨?_, trivial⟩
   let i36_ : HObj := box b14 97 v244_
   refine TA.br rfl (W1.st 0 v244_ (i36_ :: i20_ :: (row 28 eElem A3 c3 n1.elems) :: (row 3 eInt A4 c4 n1.kids) :: (row 43 eSpot A5 c5 n1.seps) :: (row 3 eInt A6 c6 n1.tids) :: t34_) v244_ (by rfl) rfl rfl rfl rfl rfl rfl (fun _ => by kernel_rfl) ?_)
   refine TA.on (Hp.old vr w349_ (dr1 (kp5 (dr1 (kp2 (dr1 kp0))))) (oB1 (oR4 (oB1 (oR1 ol0))))) ?_
   refine TA.done (by kernel_rfl) ?_
   refine T.seq ?_
   refine T.heldL 6 (i36_ :: i20_ :: (row 28 eElem A3 c3 n1.elems) :: (row 3 eInt A4 c4 n1.kids) :: (row 43 eSpot A5 c5 n1.seps) :: (row 3 eInt A6 c6 n1.tids) :: t35_) (by kernel_rfl) ?_
   refine TL.keep (Hp.old vr w349_ (kp6 (dr1 (kp2 (dr1 kp0)))) (oB2 (oR4 (oB1 (oR1 ol0))))) fun o364_ => ?_
   refine TL.tv 0 (pB b10 4) rfl (fun _ => by kernel_rfl) (fun _ _ _ h => h) o364_ ?_
   refine TL.tk 1 (.slice A6 n1.tids.length c6) [] rfl (by kernel_rfl) (fun _ _ _ h => h) o364_ (ld1 1 rfl rfl (fun _ => by kernel_rfl) (by rfl) rfl) ?_
   refine TL.tv 2 (vi r10) rfl (fun _ => by kernel_rfl) (fun _ _ _ h => h) o364_ ?_
   refine TL.tk 3 a321_ [] rfl (by kernel_rfl) (fun _ _ _ h => h) o364_ (ldN 0 rfl rfl (fun _ => by kernel_rfl) (by rfl) rfl) ?_
   refine TL.all [4] (by kernel_rfl) rfl ⟨?_, trivial⟩
   obtain ⟨r11, hb17, hS1⟩ := ob hS1
   refine TL.br rfl (W1.call (vSc eInt) r11 60 #[a321_] (by kernel_rfl) (fun _ => by kernel_rfl) (fun w' hh => node_Greatest_l F n4 r11 hb17 w' A9 c10 (hh.lent (i := 9) (by rfl) hb16 hx4).1 A10 c11 (hh.lent (i := 9) (by rfl) hb16 hx4).2.1 A11 c12 (hh.lent (i := 9) (by rfl) hb16 hx4).2.2.1 A12 c13 (hh.lent (i := 9) (by rfl) hb16 hx4).2.2.2) ?_)
   intro u V7 hV7 hu
   obtain rfl := sureInt _ _ _ hu
   refine TL.onk (Hp.old hV7 w349_ (kp6 (dr1 (kp2 (dr1 kp0)))) (oB2 (oR4 (oB1 (oR1 ol0))))) fun o365_ => ?_
   obtain ⟨e7, hb18, hS1⟩ := ob hS1
   obtain ⟨hi22, hi23, hi24⟩ := idx_some hb18
   refine TL.tk 5 (.pointer (some ((sadr A6).add (r10.toNat * 1)))) [] rfl (by kernel_rfl) (fun _ _ _ h => h) o365_ (ixR 5 (e := 3) (s := 1) rfl rfl rfl (fun _ => by kernel_rfl) hi22 hi23 (by rfl) hi24 (by decide)) ?_
   refine TL.all [6] (by kernel_rfl) rfl ⟨?_, trivial⟩
   refine TL.br rfl (W1.storeRow (E := eInt) 5 (r10.toNat) 0 e7 r11 _ (vs := [vi r11]) (by rfl) (by kernel_rfl) rfl rfl (addr_add0 _).symm rfl rfl (fun _ => by kernel_rfl) (one_of rfl) hi24 (Nat.le_of_ble_eq_true (by kernel_rfl)) (fun _ _ h => by cases h; rfl) ?_)
   refine TL.onW (by kernel_rfl) ?_
   let a322_ : Value := .agg #[vi n1.kind, .slice A3 n1.elems.length c3, .slice A4 n1.kids.length c4, .slice A5 n1.seps.length c5, .slice A6 ((n1.tids.set r10.toNat r11).length) c6]
   refine T.reslot 17 a322_ rfl (by simp +zetaDelta only [List.length_set]) ?_
   refine T.reslot 35 a322_ rfl (by simp +zetaDelta only [List.length_set]) ?_
   refine T.reslot 60 (.slice A6 ((n1.tids.set r10.toNat r11).length) c6) rfl (by simp +zetaDelta only [List.length_set]) ?_
   let v245_ : List Value := [vi n1.kind, .slice A3 n1.elems.length c3, .slice A4 n1.kids.length c4, .slice A5 n1.seps.length c5, .slice A6 ((n1.tids.set r10.toNat r11).length) c6]
   let i37_ : HObj := box b10 97 v245_
   let i38_ : HObj := row 3 eInt A6 c6 (n1.tids.set r10.toNat r11)
   refine T.reH (H' := (i36_ :: i37_ :: (row 28 eElem A3 c3 n1.elems) :: (row 3 eInt A4 c4 n1.kids) :: (row 43 eSpot A5 c5 n1.seps) :: i38_ :: t34_)) (by first | (simp +zetaDelta only [List.length_set]; done) | (simp +zetaDelta only [List.length_set]; rfl)) ?_
   refine TL.done (by kernel_rfl) ?_
   obtain ⟨q6, hX7, hS1⟩ := ob hS1
   refine T.cut (fun a w' => ∃ (z13 : List Int) (z14 : List DSpot) (z15 : List Int) (z16 : List (Int ⊕ DNode)), q6 = (z13, z14, z15, z16) ∧ ∃ (A13 : Option Addr) (c14 : Nat) (A14 : Option Addr) (c15 : Nat) (A15 : Option Addr) (c16 : Nat) (hs5 : List DHdr) (V8 : View), View.le V7 V8 ∧ Fr 86 [(0, pB b8 0), (1, vi x2), (6, pB b10 0)] a ∧ Hp w V8 ((box b10 97 [vi n1.kind, .slice A3 n1.elems.length c3, .slice A13 z13.length c14, .slice A14 z14.length c15, .slice A15 z15.length c16]) :: (row 28 eElem A3 c3 n1.elems) :: (row 3 eInt A13 c14 z13) :: (row 43 eSpot A14 c15 z14) :: (row 3 eInt A15 c16 z15) :: (box b8 137 [vi r2.root, .slice A2 hs5.length c2]) :: (row 97 eHdr A2 c2 hs5) :: (treeo (TreeTy.mk 28 3 43) hs5 z16) :: G1) w') ?_ ?_
   ·
    refine T.seq (T.region (T.pk (pB b14 1) (fun _ => by kernel_rfl) (T.look (.slice A9 n4.elems.length c10) (by kernel_rfl) (ld1 0 rfl rfl (fun _ => by kernel_rfl) (by rfl) rfl) ?_)))
    refine T.p2 (vi (n4.elems.length : Int)) (pB b14 2) (fun _ => by kernel_rfl) (T.look (.slice A10 n4.kids.length c11) (by kernel_rfl) (ld1 0 rfl rfl (fun _ => by kernel_rfl) (by rfl) rfl) ?_)
    refine T.p3 (vi (n4.kids.length : Int)) (vi (IntKind.i64.wrap ((n4.elems.length : Int) + (n4.kids.length : Int)))) (.bool (decide ((IntKind.i64.wrap ((n4.elems.length : Int) + (n4.kids.length : Int))) < 4))) (fun _ => by kernel_rfl) (T.nil ?_)
    refine T.cond (decide ((IntKind.i64.wrap ((n4.elems.length : Int) + (n4.kids.length : Int))) < 4)) (by kernel_rfl) (by kernel_rfl) (fun hc8 => ?_) (fun hc8 => ?_)
    ·
     rw [hc8, cond_true] at hX7
     refine T.region (T.pk (pB b8 0) (fun _ => by kernel_rfl) (T.look a322_ (by kernel_rfl) (ldN 1 rfl rfl (fun _ => by kernel_rfl) (by rfl) rfl) ?_))
     refine T.pk (vi r10) (fun _ => by kernel_rfl) ?_
     obtain ⟨q7, hX8, hX7⟩ := ob hX7
     refine T.step (W1.within 95 [pB b8 0, a322_, vi r10] (fun v w' => ∃ (z17 : List Int) (z18 : List DSpot) (z19 : List Int) (z20 : List (Int ⊕ DNode)), q7 = (z17, z18, z19, z20) ∧ ∃ (A16 : Option Addr) (n5 : Nat) (c17 : Nat) (A17 : Option Addr) (n6 : Nat) (c18 : Nat) (A18 : Option Addr) (c19 : Nat) (A19 : Option Addr) (c20 : Nat) (A20 : Option Addr) (c21 : Nat) (hs6 : List DHdr) (V9 : View), View.le V7 V9 ∧ v = .agg #[vi n1.kind, .slice A3 n1.elems.length c3, .slice A18 z17.length c19, .slice A19 z18.length c20, .slice A20 z19.length c21] ∧ Hp w V9 ((box b10 97 [vi n1.kind, .slice A3 n1.elems.length c3, .slice A4 n1.kids.length c4, .slice A16 n5 c17, .slice A17 n6 c18]) :: (row 28 eElem A3 c3 n1.elems) :: (row 3 eInt A18 c19 z17) :: (row 43 eSpot A19 c20 z18) :: (row 3 eInt A20 c21 z19) :: (box b8 137 [vi r2.root, .slice A2 hs6.length c2]) :: (row 97 eHdr A2 c2 hs6) :: (treeo (TreeTy.mk 28 3 43) hs6 z20) :: G1) w') Try.func95 rfl rfl (by kernel_rfl) (fun _ => by kernel_rfl) rfl ?_ ?_)
     ·
      refine T.seq (T.region (T.step (W1.np 97 v245_ (fun _ => by kernel_rfl) (fun b15 => ?_))))
      refine T.step (W1.np 97 v239_ (fun _ => by kernel_rfl) (fun b16 => ?_))
      refine T.nil ?_
      obtain ⟨z21, hX9, hX8⟩ := ob hX8
      let i39_ : HObj := box b16 97 v239_
      let i40_ : HObj := box b15 97 v245_
      refine T.cut (fun a w' => Fr 156 [(0, pB b8 0), (2, vi z21), (4, pB b15 0), (6, pB b16 0)] a ∧ Hp w V7 (i39_ :: i40_ :: i37_ :: (row 28 eElem A3 c3 n1.elems) :: (row 3 eInt A4 c4 n1.kids) :: (row 43 eSpot A5 c5 n1.seps) :: i38_ :: t33_) w') ?_ ?_
      ·
       refine T.seq (T.region (T.p2 (vi r10) (pB b15 2) (fun _ => by kernel_rfl) (T.look (.slice A4 n1.kids.length c4) (by kernel_rfl) (ld1 1 rfl rfl (fun _ => by kernel_rfl) (by rfl) rfl) ?_)))
       refine T.p3 (vi (n1.kids.length : Int)) (vi (IntKind.i64.wrap ((n1.kids.length : Int) - 1))) (.bool (r10 == (IntKind.i64.wrap ((n1.kids.length : Int) - 1)))) (fun _ => by kernel_rfl) (T.nil ?_)
       refine T.cond (r10 == (IntKind.i64.wrap ((n1.kids.length : Int) - 1))) (by kernel_rfl) (by kernel_rfl) (fun hc9 => ?_) (fun hc9 => ?_)
       ·
        rw [hc9, cond_true] at hX9
        refine T.region (T.p3 (vi r10) (vi (IntKind.i64.wrap (r10 - 1))) (vi (IntKind.i64.wrap (r10 - 1))) (fun _ => by kernel_rfl) (T.nil ?_))
        cases hX9
        exact fun a w' hf hh => ⟨(Fr.sel hf rfl), (hh.sub (kp2 (dr1 (kp5 (dr1 (kp2 (kp1 kpr)))))))⟩
       rw [hc9, cond_false] at hX9
       refine T.skip_code ?_
       cases hX9
       exact fun a w' hf hh => ⟨(Fr.sel hf rfl), (hh.sub (kp2 (dr1 (kp5 (dr1 (kp2 (kp1 kpr)))))))⟩
      rintro a w' ⟨hf, hh⟩
      refine (?_ : T 156 w V7 (i39_ :: i40_ :: i37_ :: (row 28 eElem A3 c3 n1.elems) :: (row 3 eInt A4 c4 n1.kids) :: (row 43 eSpot A5 c5 n1.seps) :: i38_ :: t33_) [(0, pB b8 0), (2, vi z21), (4, pB b15 0), (6, pB b16 0)] _) a w' hf hh
      clear hf hh
      refine T.seq ?_
      refine T.quiet (by kernel_rfl) (by kernel_rfl) ?_
      refine TQ.pure (pB b15 2) (by kernel_rfl) (fun _ => by kernel_rfl) ?_
      refine TQ.look (.slice A4 n1.kids.length c4) (by kernel_rfl) (ld1 1 rfl rfl (fun _ => by kernel_rfl) (by rfl) rfl) ?_
      refine TQ.pure (vi z21) (by kernel_rfl) (fun _ => by kernel_rfl) ?_
      obtain ⟨e8, hb19, hX8⟩ := ob hX8
      obtain ⟨hi25, hi26, hi27⟩ := idx_some hb19
      refine TQ.look (.pointer (some ((sadr A4).add (z21.toNat * 1)))) (by kernel_rfl) (ixR 4 (e := 3) (s := 1) rfl rfl rfl (fun _ => by kernel_rfl) hi25 hi26 (by rfl) hi27 (by decide)) ?_
      refine TQ.look (vi e8) (by kernel_rfl) (fun w' hh => exec_load1 rfl rfl (by kernel_rfl) (SlOk.wcellF0 (E := eInt) (hh.row_slOk (i := 4) (by rfl)) hi27 (fun _ _ _ h => h) rfl)) ?_
      refine TQ.pure (pB b15 2) (by kernel_rfl) (fun _ => by kernel_rfl) ?_
      refine TQ.look (.slice A4 n1.kids.length c4) (by kernel_rfl) (ld1 1 rfl rfl (fun _ => by kernel_rfl) (by rfl) rfl) ?_
      refine TQ.pure (vi z21) (by kernel_rfl) (fun _ => by kernel_rfl) ?_
      refine TQ.pure (vi (IntKind.i64.wrap (z21 + 1))) (by kernel_rfl) (fun _ => by kernel_rfl) ?_
      obtain ⟨e9, hb20, hX8⟩ := ob hX8
      obtain ⟨hi28, hi29, hi30⟩ := idx_some hb20
      refine TQ.look (.pointer (some ((sadr A4).add (((IntKind.i64.wrap (z21 + 1)).toNat) * 1)))) (by kernel_rfl) (ixR 4 (e := 3) (s := 1) rfl rfl rfl (fun _ => by kernel_rfl) hi28 hi29 (by rfl) hi30 (by decide)) ?_
      refine TQ.look (vi e9) (by kernel_rfl) (fun w' hh => exec_load1 rfl rfl (by kernel_rfl) (SlOk.wcellF0 (E := eInt) (hh.row_slOk (i := 4) (by rfl)) hi30 (fun _ _ _ h => h) rfl)) ?_
      refine TQ.pure (vi e8) (by kernel_rfl) (fun _ => by kernel_rfl) ?_
      refine TQ.pure (vi e9) (by kernel_rfl) (fun _ => by kernel_rfl) ?_
      refine TQ.nil ?_
      refine T.seq ?_
      obtain ⟨n7, hb21, hX8⟩ := ob hX8
      obtain ⟨n8, hb22, hX8⟩ := ob hX8
      obtain ⟨e10, hb23, hX8⟩ := ob hX8
      obtain ⟨z22, hX10, hX8⟩ := ob hX8
      let i41_ : HObj := treeo (TreeTy.mk 28 3 43) c9 (outAt z12 e8)
      let t42_ : List HObj := (row 97 eHdr A2 c2 c9) :: i41_ :: G1
      let t43_ : List HObj := i30_ :: t42_
      let t44_ : List HObj := i38_ :: t43_
      let t45_ : List HObj := (row 43 eSpot A5 c5 n1.seps) :: t44_
      let t46_ : List HObj := (row 3 eInt A4 c4 n1.kids) :: t45_
      let t47_ : List HObj := (row 28 eElem A3 c3 n1.elems) :: t46_
      let t48_ : List HObj := i37_ :: t47_
      let t49_ : List HObj := i40_ :: t48_
      let t50_ : List HObj := i39_ :: t49_
      refine T.mid (fun a w' => ∃ (b22 : Nat) (A46 : Option Addr) (c47 : Nat) (A47 : Option Addr) (c48 : Nat) (A48 : Option Addr) (c49 : Nat) (A49 : Option Addr) (c50 : Nat), Fr 156 [(0, pB b8 0), (2, vi z21), (4, pB b15 0), (6, pB b16 0), (7, vi e8), (8, vi e9), (9, pB b22 0)] a ∧ Hp w V7 ((box b22 97 [vi n7.kind, .slice A46 ((n7.elems ++ n8.elems).length) c47, .slice A47 ((n7.kids ++ n8.kids).length) c48, .slice A48 z22.length c49, .slice A49 ((n7.tids ++ n8.tids).length) c50]) :: (row 28 eElem A46 c47 (n7.elems ++ n8.elems)) :: (row 3 eInt A47 c48 (n7.kids ++ n8.kids)) :: (row 43 eSpot A48 c49 z22) :: (row 3 eInt A49 c50 (n7.tids ++ n8.tids)) :: t50_) w') ?_ ?_
      ·
       refine T.held (i39_ :: i40_ :: i37_ :: (row 28 eElem A3 c3 n1.elems) :: (row 3 eInt A4 c4 n1.kids) :: t35_) (by kernel_rfl) ?_
       have w350_ := vt (vt (vt (vt hV1 hV3) hV5) hV6) hV7
       refine TA.keep (Hp.old vr w350_ (kp5 (dr2 (kp2 (dr1 kp0)))) (oB3 (oR2 (oB1 (oR1 ol0))))) fun o366_ => ?_
       refine TA.tp 0 (pB b8 0) rfl (fun _ => by kernel_rfl) (fun _ _ _ h => h) o366_ ?_
       refine TA.tp 1 (pB b8 0) rfl (fun _ => by kernel_rfl) (fun _ _ _ h => h) o366_ ?_
       refine TA.tp 2 (pB b8 0) rfl (fun _ => by kernel_rfl) (fun _ _ _ h => h) o366_ ?_
       refine TA.tp 3 (pB b8 0) rfl (fun _ => by kernel_rfl) (fun _ _ _ h => h) o366_ ?_
       refine TA.tp 4 (pB b8 1) rfl (fun _ => by kernel_rfl) (fun _ _ _ h => h) o366_ ?_
       refine TA.tk 5 (.slice A2 c9.length c2) rfl (by kernel_rfl) (fun _ _ _ h => h) o366_ (ld1 5 rfl rfl (fun _ => by kernel_rfl) (by rfl) rfl) ?_
       refine TA.tp 6 (vi e8) rfl (fun _ => by kernel_rfl) (fun _ _ _ h => h) o366_ ?_
       obtain ⟨A21, c22, A22, c23, A23, c24, A24, c25, hi31, hi32, hx5⟩ := ht5.at_ hb21
       refine TA.tk 7 (.pointer (some ((sadr A2).add (e8.toNat * 5)))) rfl (by kernel_rfl) (fun _ _ _ h => h) o366_ (ixR 6 (e := 97) (s := 5) rfl rfl rfl (fun _ => by kernel_rfl) hi31 hi32 (by rfl) hx5 (by decide)) ?_
       let v246_ : List Value := [vi n7.kind, .slice A21 n7.elems.length c22, .slice A22 n7.kids.length c23, .slice A23 n7.seps.length c24, .slice A24 n7.tids.length c25]
       let a323_ : Value := .agg #[vi n7.kind, .slice A21 n7.elems.length c22, .slice A22 n7.kids.length c23, .slice A23 n7.seps.length c24, .slice A24 n7.tids.length c25]
       refine TA.tk 8 a323_ rfl (by kernel_rfl) (fun _ _ _ h => h) o366_ (fun w' hh => exec_loadN (cs := v246_) rfl rfl (by kernel_rfl) (by kernel_rfl) (fun j u hj => (SlOk.wcellF (E := eHdr) (hh.row_slOk (i := 6) (by rfl)) hx5 j (fun _ _ _ h => h) hj))) ?_
       refine T.takeN (ty := (TreeTy.mk 28 3 43)) (h := (DHdr.mk n7.kind A21 n7.elems.length c22 A22 n7.kids.length c23 A23 n7.seps.length c24 A24 n7.tids.length c25)) 9 (by rfl) hb21 hx5 rfl ?_
       let t51_ : List HObj := (row 3 eInt A24 c25 n7.tids) :: t50_
       let t52_ : List HObj := (row 43 eSpot A23 c24 n7.seps) :: t51_
       let t53_ : List HObj := (row 3 eInt A22 c23 n7.kids) :: t52_
       refine T.reH (H' := ((row 28 eElem A21 c22 n7.elems) :: t53_)) (by rfl) ?_
       refine T.tree 13 (by rfl) (fun ht6 => ?_)
       refine TA.keep (Hp.old vr w350_ (dr4 (kp5 (dr2 (kp2 (dr1 kp0))))) (oB3 (oR2 (oB1 (oR1 ol0))))) fun o367_ => ?_
       refine TA.tp 9 (pB b8 0) rfl (fun _ => by kernel_rfl) (fun _ _ _ h => h) o367_ ?_
       refine TA.tp 10 (pB b8 0) rfl (fun _ => by kernel_rfl) (fun _ _ _ h => h) o367_ ?_
       refine TA.tp 11 (pB b8 0) rfl (fun _ => by kernel_rfl) (fun _ _ _ h => h) o367_ ?_
       refine TA.tp 12 (pB b8 0) rfl (fun _ => by kernel_rfl) (fun _ _ _ h => h) o367_ ?_
       refine TA.tp 13 (pB b8 1) rfl (fun _ => by kernel_rfl) (fun _ _ _ h => h) o367_ ?_
       refine TA.tk 14 (.slice A2 c9.length c2) rfl (by kernel_rfl) (fun _ _ _ h => h) o367_ (ld1 5 rfl rfl (fun _ => by kernel_rfl) (by rfl) rfl) ?_
       refine TA.tp 15 (vi e9) rfl (fun _ => by kernel_rfl) (fun _ _ _ h => h) o367_ ?_
       obtain ⟨A25, c26, A26, c27, A27, c28, A28, c29, hi33, hi34, hx6⟩ := ht6.at_ hb22
       refine TA.tk 16 (.pointer (some ((sadr A2).add (e9.toNat * 5)))) rfl (by kernel_rfl) (fun _ _ _ h => h) o367_ (ixR 6 (e := 97) (s := 5) rfl rfl rfl (fun _ => by kernel_rfl) hi33 hi34 (by rfl) hx6 (by decide)) ?_
       let v247_ : List Value := [vi n8.kind, .slice A25 n8.elems.length c26, .slice A26 n8.kids.length c27, .slice A27 n8.seps.length c28, .slice A28 n8.tids.length c29]
       let a324_ : Value := .agg #[vi n8.kind, .slice A25 n8.elems.length c26, .slice A26 n8.kids.length c27, .slice A27 n8.seps.length c28, .slice A28 n8.tids.length c29]
       refine TA.tk 17 a324_ rfl (by kernel_rfl) (fun _ _ _ h => h) o367_ (fun w' hh => exec_loadN (cs := v247_) rfl rfl (by kernel_rfl) (by kernel_rfl) (fun j u hj => (SlOk.wcellF (E := eHdr) (hh.row_slOk (i := 6) (by rfl)) hx6 j (fun _ _ _ h => h) hj))) ?_
       refine TA.tp 18 (pB b15 3) rfl (fun _ => by kernel_rfl) (fun _ _ _ h => h) o367_ ?_
       refine TA.tk 19 (.slice A5 n1.seps.length c5) rfl (by kernel_rfl) (fun _ _ _ h => h) o367_ (ld1 1 rfl rfl (fun _ => by kernel_rfl) (by rfl) rfl) ?_
       refine TA.tp 20 (vi z21) rfl (fun _ => by kernel_rfl) (fun _ _ _ h => h) o367_ ?_
       refine TA.all [21, 24] (by kernel_rfl) rfl ⟨?_, ?_, trivial⟩
       ·
        obtain ⟨hi35, hi36, hi37⟩ := idx_some hb23
        refine TA.br rfl (W1.look (.pointer (some ((sadr A5).add (z21.toNat * 4)))) (by kernel_rfl) (ixR 9 (e := 43) (s := 4) rfl rfl rfl (fun _ => by kernel_rfl) hi35 hi36 (by rfl) hi37 (by decide)) ?_)
        refine TA.on (Hp.old vr w350_ (dr4 (kp5 (dr2 (kp2 (dr1 kp0))))) (oB3 (oR2 (oB1 (oR1 ol0))))) ?_
        refine TA.all [22, 24] (by kernel_rfl) rfl ⟨?_, ?_, trivial⟩
        ·
         let v248_ : List Value := [vi e10.key.pfs, vi e10.key.obj, vi e10.key.off, vi e10.made]
         let a325_ : Value := .agg #[vi e10.key.pfs, vi e10.key.obj, vi e10.key.off, vi e10.made]
         refine TA.br rfl (W1.look a325_ (by kernel_rfl) (fun w' hh => exec_loadN (cs := v248_) rfl rfl (by kernel_rfl) (by kernel_rfl) (fun j u hj => (SlOk.wcellF (E := eSpot) (hh.row_slOk (i := 9) (by rfl)) hi37 j (fun _ _ _ h => h) hj))) ?_)
         refine TA.on (Hp.old vr w350_ (dr4 (kp5 (dr2 (kp2 (dr1 kp0))))) (oB3 (oR2 (oB1 (oR1 ol0))))) ?_
         refine TA.all [23, 24] (by kernel_rfl) rfl ⟨?_, ?_, trivial⟩
         ·
          refine TA.br rfl (W1.within 101 [a323_, a324_, a325_] (fun v w' => ∃ (A29 : Option Addr) (c30 : Nat) (A30 : Option Addr) (c31 : Nat) (A31 : Option Addr) (c32 : Nat) (A32 : Option Addr) (c33 : Nat), v = .agg #[vi n7.kind, .slice A29 ((n7.elems ++ n8.elems).length) c30, .slice A30 ((n7.kids ++ n8.kids).length) c31, .slice A31 z22.length c32, .slice A32 ((n7.tids ++ n8.tids).length) c33] ∧ Hp w V7 ((row 28 eElem A29 c30 (n7.elems ++ n8.elems)) :: (row 3 eInt A30 c31 (n7.kids ++ n8.kids)) :: (row 43 eSpot A31 c32 z22) :: (row 3 eInt A32 c33 (n7.tids ++ n8.tids)) :: t50_) w') Try.func101 rfl rfl (by kernel_rfl) (fun _ => by kernel_rfl) rfl ?_ ?_)
          ·
           refine T.seq (T.region (T.step (W1.np 97 v246_ (fun _ => by kernel_rfl) (fun b17 => ?_))))
           refine T.step (W1.np 97 v247_ (fun _ => by kernel_rfl) (fun b18 => ?_))
           refine T.step (W1.np 43 v248_ (fun _ => by kernel_rfl) (fun b19 => ?_))
           refine T.step (W1.np 97 v239_ (fun _ => by kernel_rfl) (fun b20 => ?_))
           refine T.nil (T.seq (T.region (T.pk (pB b17 1) (fun _ => by kernel_rfl) (T.look (.slice A21 n7.elems.length c22) (by kernel_rfl) (ld1 3 rfl rfl (fun _ => by kernel_rfl) (by rfl) rfl) ?_))))
           refine T.pk (pB b18 1) (fun _ => by kernel_rfl) (T.look (.slice A25 n8.elems.length c26) (by kernel_rfl) (ld1 2 rfl rfl (fun _ => by kernel_rfl) (by rfl) rfl) ?_)
           obtain ⟨y3, hb24, hX10⟩ := ob hX10
           obtain ⟨hb24_r, hb24_m, rfl⟩ := grow_some hb24
           obtain ⟨ti, hti, hz1, hz2, hz3⟩ := ipShrL_1
           refine T.step (W1.append (E := eElem) (l := n7.elems) (m := n8.elems) 4 _ _ 56 ti _ (by rfl) (by kernel_rfl) rfl (by kernel_rfl) hti hz1 hz2 hz3 rfl (by decide) rfl rfl (fun w' hh => (SlOk.srcF (hh.lent (i := 17) (by rfl) hb22 hx6).1 (fun _ _ _ _ h => h))) hb24_r hb24_m (fun A33 c34 => ?_))
           refine T.pk (pB b17 1) (fun _ => by kernel_rfl) ?_
           let i54_ : HObj := box b20 97 v239_
           let i55_ : HObj := box b19 43 v248_
           let i56_ : HObj := box b18 97 v247_
           let i57_ : HObj := row 28 eElem A33 c34 (n7.elems ++ n8.elems)
           let v249_ : List Value := [vi n7.kind, .slice A33 ((n7.elems ++ n8.elems).length) c34, .slice A22 n7.kids.length c23, .slice A23 n7.seps.length c24, .slice A24 n7.tids.length c25]
           refine T.step (W1.st 3 v249_ (i54_ :: i55_ :: i56_ :: (box b17 97 v249_) :: i57_ :: t53_) [.slice A33 ((n7.elems ++ n8.elems).length) c34] (by rfl) rfl rfl rfl rfl rfl rfl (fun _ => by kernel_rfl) ?_)
           refine T.nil ?_
           obtain ⟨z23, hX11, hX10⟩ := ob hX10
           refine T.cut (fun a w' => ∃ (A34 : Option Addr) (c35 : Nat), Fr 38 [(3, pB b17 0), (4, pB b18 0), (6, pB b20 0)] a ∧ Hp w V7 (i54_ :: i56_ :: (box b17 97 [vi n7.kind, .slice A33 ((n7.elems ++ n8.elems).length) c34, .slice A22 n7.kids.length c23, .slice A34 z23.length c35, .slice A24 n7.tids.length c25]) :: i57_ :: (row 3 eInt A22 c23 n7.kids) :: (row 43 eSpot A34 c35 z23) :: t51_) w') ?_ ?_
           ·
            refine T.seq (T.region (T.pk (pB b17 0) (fun _ => by kernel_rfl) (T.look (vi n7.kind) (by kernel_rfl) (ld1 3 rfl rfl (fun _ => by kernel_rfl) (by rfl) rfl) ?_)))
            refine T.pk (.bool (n7.kind == 2)) (fun _ => by kernel_rfl) (T.nil ?_)
            refine T.cond (n7.kind == 2) (by kernel_rfl) (by kernel_rfl) (fun hc10 => ?_) (fun hc10 => ?_)
            ·
             rw [hc10, cond_true] at hX11
             obtain ⟨y14, hb35, hX11⟩ := ob hX11
             obtain ⟨y15, hb36, hX11⟩ := ob hX11
             refine T.mid (fun a w' => ∃ (A37 : Option Addr) (c38 : Nat), Fr 38 [(3, pB b17 0), (4, pB b18 0), (6, pB b20 0)] a ∧ Hp w V7 (i54_ :: i56_ :: (box b17 97 [vi n7.kind, .slice A33 ((n7.elems ++ n8.elems).length) c34, .slice A22 n7.kids.length c23, .slice A37 (((n7.seps ++ [e10]) ++ n8.seps).length) c38, .slice A24 n7.tids.length c25]) :: i57_ :: (row 3 eInt A22 c23 n7.kids) :: (row 43 eSpot A37 c38 ((n7.seps ++ [e10]) ++ n8.seps)) :: t51_) w') ?_ ?_
             ·
              refine T.held (i54_ :: i55_ :: i56_ :: i57_ :: (row 3 eInt A22 c23 n7.kids) :: i39_ :: i40_ :: i37_ :: (row 28 eElem A3 c3 n1.elems) :: (row 3 eInt A4 c4 n1.kids) :: (row 43 eSpot A5 c5 n1.seps) :: i38_ :: t35_) (by kernel_rfl) ?_
              refine TA.keep (Hp.old vr w350_ (kp3 (dr1 (kp2 (dr2 (kp9 (dr1 kp0)))))) (oB3 (oR2 (oB3 (oR4 (oB1 (oR1 ol0))))))) fun o368_ => ?_
              refine TA.tp 0 (pB b17 3) rfl (fun _ => by kernel_rfl) (fun _ _ _ h => h) o368_ ?_
              refine TA.tk 2 a325_ rfl (by kernel_rfl) (fun _ _ _ h => h) o368_ (ldN 1 rfl rfl (fun _ => by kernel_rfl) (by rfl) rfl) ?_
              refine TA.tp 5 (pB b18 3) rfl (fun _ => by kernel_rfl) (fun _ _ _ h => h) o368_ ?_
              refine TA.tk 6 (.slice A27 n8.seps.length c28) rfl (by kernel_rfl) (fun _ _ _ h => h) o368_ (ld1 2 rfl rfl (fun _ => by kernel_rfl) (by rfl) rfl) ?_
              refine TA.all [1, 3] (by kernel_rfl) rfl ⟨?_, ?_, trivial⟩
              ·
               refine TA.br rfl (W1.look (.slice A23 n7.seps.length c24) (by kernel_rfl) (ld1 3 rfl rfl (fun _ => by kernel_rfl) (by rfl) rfl) ?_)
               refine TA.on (Hp.old vr w350_ (kp3 (dr1 (kp2 (dr2 (kp9 (dr1 kp0)))))) (oB3 (oR2 (oB3 (oR4 (oB1 (oR1 ol0))))))) ?_
               refine TA.all [3] (by kernel_rfl) rfl ⟨?_, trivial⟩
               refine TA.br rfl (W1.ns 43 v248_ (fun _ => by kernel_rfl) (fun b26 => ?_))
               refine TA.on (Hp.old vr w350_ (dr1 (kp3 (dr1 (kp2 (dr2 (kp9 (dr1 kp0))))))) (oB3 (oR2 (oB3 (oR4 (oB1 (oR1 ol0))))))) ?_
               refine TA.all [4] (by kernel_rfl) rfl ⟨?_, trivial⟩
               obtain ⟨hb35_r, hb35_m, rfl⟩ := grow_some hb35
               obtain ⟨ti, hti, hz1, hz2, hz3⟩ := ipShrL_2
               refine TA.br rfl (W1.append (E := eSpot) (l := n7.seps) (m := [e10]) 7 _ _ 32 ti _ (by rfl) (by kernel_rfl) rfl (by kernel_rfl) hti hz1 hz2 hz3 rfl (by decide) rfl rfl (fun w' hh => (SlOk.srcF (slok_lit (E := eSpot) (f := DSpot.cells) [e10] (fun _ _ => rfl) (Nat.le_of_ble_eq_true (by rfl)) (fun j => hh.cellBox (i := 0) (by rfl) j)) (fun _ _ _ _ h => h))) hb35_r hb35_m (fun A50 c51 => ?_))
               refine TA.on (Hp.old vr w350_ (dr1 (kp3 (dr1 (kp2 (dr2 (kp9 (dr1 kp0))))))) (oB3 (oR2 (oB3 (oR4 (oB1 (oR1 ol0))))))) ?_
               refine TA.all [7] (by kernel_rfl) rfl ⟨?_, trivial⟩
               obtain ⟨hb36_r, hb36_m, rfl⟩ := grow_some hb36
               obtain ⟨ti, hti, hz1, hz2, hz3⟩ := ipShrL_2
               refine TA.br rfl (W1.append (E := eSpot) (l := (n7.seps ++ [e10])) (m := n8.seps) 7 _ _ 32 ti _ (by rfl) (by kernel_rfl) rfl (by kernel_rfl) hti hz1 hz2 hz3 rfl (by decide) rfl rfl (fun w' hh => (SlOk.srcF (hh.lent (i := 18) (by rfl) hb22 hx6).2.2.1 (fun _ _ _ _ h => h))) hb36_r hb36_m (fun A51 c52 => ?_))
               refine TA.onk (Hp.old vr w350_ (dr1 (kp3 (dr1 (kp2 (dr2 (kp9 (dr1 kp0))))))) (oB3 (oR2 (oB3 (oR4 (oB1 (oR1 ol0))))))) fun o369_ => ?_
               refine TA.tp 8 (pB b17 3) rfl (fun _ => by kernel_rfl) (fun _ _ _ h => h) o369_ ?_
               refine TA.all [9] (by kernel_rfl) rfl ⟨?_, trivial⟩
               let v250_ : List Value := [vi n7.kind, .slice A33 ((n7.elems ++ n8.elems).length) c34, .slice A22 n7.kids.length c23, .slice A51 (((n7.seps ++ [e10]) ++ n8.seps).length) c52, .slice A24 n7.tids.length c25]
               refine TA.br rfl (W1.st 4 v250_ ((box b26 43 v248_) :: i54_ :: i55_ :: i56_ :: (box b17 97 v250_) :: i57_ :: (row 3 eInt A22 c23 n7.kids) :: (row 43 eSpot A51 c52 ((n7.seps ++ [e10]) ++ n8.seps)) :: t51_) [.slice A51 (((n7.seps ++ [e10]) ++ n8.seps).length) c52] (by rfl) rfl rfl rfl rfl rfl rfl (fun _ => by kernel_rfl) ?_)
               refine TA.on (Hp.old vr w350_ (dr1 (kp3 (dr1 (kp2 (dr2 (kp9 (dr1 kp0))))))) (oB3 (oR2 (oB3 (oR4 (oB1 (oR1 ol0))))))) ?_
               refine TA.done (by kernel_rfl) ?_
               exact fun a w' hf hh => ⟨A51, c52, (Fr.sel hf rfl), (hh.sub (dr1 (kp1 (dr1 (kp15 (kp1 kpr))))))⟩
              refine TA.br rfl (W1.ns 43 v248_ (fun _ => by kernel_rfl) (fun b26 => ?_))
              refine TA.on (Hp.old vr w350_ (dr1 (kp3 (dr1 (kp2 (dr2 (kp9 (dr1 kp0))))))) (oB3 (oR2 (oB3 (oR4 (oB1 (oR1 ol0))))))) ?_
              refine TA.all [1] (by kernel_rfl) rfl ⟨?_, trivial⟩
              refine TA.br rfl (W1.look (.slice A23 n7.seps.length c24) (by kernel_rfl) (ld1 4 rfl rfl (fun _ => by kernel_rfl) (by rfl) rfl) ?_)
              refine TA.on (Hp.old vr w350_ (dr1 (kp3 (dr1 (kp2 (dr2 (kp9 (dr1 kp0))))))) (oB3 (oR2 (oB3 (oR4 (oB1 (oR1 ol0))))))) ?_
              refine TA.all [4] (by kernel_rfl) rfl ⟨?_, trivial⟩
              obtain ⟨hb35_r, hb35_m, rfl⟩ := grow_some hb35
              obtain ⟨ti, hti, hz1, hz2, hz3⟩ := ipShrL_2
              refine TA.br rfl (W1.append (E := eSpot) (l := n7.seps) (m := [e10]) 7 _ _ 32 ti _ (by rfl) (by kernel_rfl) rfl (by kernel_rfl) hti hz1 hz2 hz3 rfl (by decide) rfl rfl (fun w' hh => (SlOk.srcF (slok_lit (E := eSpot) (f := DSpot.cells) [e10] (fun _ _ => rfl) (Nat.le_of_ble_eq_true (by rfl)) (fun j => hh.cellBox (i := 0) (by rfl) j)) (fun _ _ _ _ h => h))) hb35_r hb35_m (fun A50 c51 => ?_))
              refine TA.on (Hp.old vr w350_ (dr1 (kp3 (dr1 (kp2 (dr2 (kp9 (dr1 kp0))))))) (oB3 (oR2 (oB3 (oR4 (oB1 (oR1 ol0))))))) ?_
              refine TA.all [7] (by kernel_rfl) rfl ⟨?_, trivial⟩
              obtain ⟨hb36_r, hb36_m, rfl⟩ := grow_some hb36
              obtain ⟨ti, hti, hz1, hz2, hz3⟩ := ipShrL_2
              refine TA.br rfl (W1.append (E := eSpot) (l := (n7.seps ++ [e10])) (m := n8.seps) 7 _ _ 32 ti _ (by rfl) (by kernel_rfl) rfl (by kernel_rfl) hti hz1 hz2 hz3 rfl (by decide) rfl rfl (fun w' hh => (SlOk.srcF (hh.lent (i := 18) (by rfl) hb22 hx6).2.2.1 (fun _ _ _ _ h => h))) hb36_r hb36_m (fun A51 c52 => ?_))
              refine TA.onk (Hp.old vr w350_ (dr1 (kp3 (dr1 (kp2 (dr2 (kp9 (dr1 kp0))))))) (oB3 (oR2 (oB3 (oR4 (oB1 (oR1 ol0))))))) fun o370_ => ?_
              refine TA.tp 8 (pB b17 3) rfl (fun _ => by kernel_rfl) (fun _ _ _ h => h) o370_ ?_
              refine TA.all [9] (by kernel_rfl) rfl ⟨?_, trivial⟩
              let v251_ : List Value := [vi n7.kind, .slice A33 ((n7.elems ++ n8.elems).length) c34, .slice A22 n7.kids.length c23, .slice A51 (((n7.seps ++ [e10]) ++ n8.seps).length) c52, .slice A24 n7.tids.length c25]
              refine TA.br rfl (W1.st 4 v251_ ((box b26 43 v248_) :: i54_ :: i55_ :: i56_ :: (box b17 97 v251_) :: i57_ :: (row 3 eInt A22 c23 n7.kids) :: (row 43 eSpot A51 c52 ((n7.seps ++ [e10]) ++ n8.seps)) :: t51_) [.slice A51 (((n7.seps ++ [e10]) ++ n8.seps).length) c52] (by rfl) rfl rfl rfl rfl rfl rfl (fun _ => by kernel_rfl) ?_)
              refine TA.on (Hp.old vr w350_ (dr1 (kp3 (dr1 (kp2 (dr2 (kp9 (dr1 kp0))))))) (oB3 (oR2 (oB3 (oR4 (oB1 (oR1 ol0))))))) ?_
              refine TA.done (by kernel_rfl) ?_
              exact fun a w' hf hh => ⟨A51, c52, (Fr.sel hf rfl), (hh.sub (dr1 (kp1 (dr1 (kp15 (kp1 kpr))))))⟩
             rintro a w' ⟨A37, c38, hf, hh⟩
             refine (?_ : T 38 w V7 (i54_ :: i56_ :: (box b17 97 [vi n7.kind, .slice A33 ((n7.elems ++ n8.elems).length) c34, .slice A22 n7.kids.length c23, .slice A37 (((n7.seps ++ [e10]) ++ n8.seps).length) c38, .slice A24 n7.tids.length c25]) :: i57_ :: (row 3 eInt A22 c23 n7.kids) :: (row 43 eSpot A37 c38 ((n7.seps ++ [e10]) ++ n8.seps)) :: t51_) [(3, pB b17 0), (4, pB b18 0), (6, pB b20 0)] _) a w' hf hh
             clear hf hh
             cases hX11
             exact fun a w' hf hh => ⟨A37, c38, (Fr.sel hf rfl), (hh.sub (kp16 (kp1 kpr)))⟩
            rw [hc10, cond_false] at hX11
            refine T.skip_code ?_
            cases hX11
            exact fun a w' hf hh => ⟨A23, c24, (Fr.sel hf rfl), (hh.sub (kp1 (dr1 (kp15 (kp1 kpr)))))⟩
           rintro a w' ⟨A34, c35, hf, hh⟩
           refine (?_ : T 38 w V7 (i54_ :: i56_ :: (box b17 97 [vi n7.kind, .slice A33 ((n7.elems ++ n8.elems).length) c34, .slice A22 n7.kids.length c23, .slice A34 z23.length c35, .slice A24 n7.tids.length c25]) :: i57_ :: (row 3 eInt A22 c23 n7.kids) :: (row 43 eSpot A34 c35 z23) :: t51_) [(3, pB b17 0), (4, pB b18 0), (6, pB b20 0)] _) a w' hf hh
           clear hf hh
           refine T.seq (T.region (T.pk (pB b17 2) (fun _ => by kernel_rfl) (T.look (.slice A22 n7.kids.length c23) (by kernel_rfl) (ld1 2 rfl rfl (fun _ => by kernel_rfl) (by rfl) rfl) ?_)))
           refine T.pk (pB b18 2) (fun _ => by kernel_rfl) (T.look (.slice A26 n8.kids.length c27) (by kernel_rfl) (ld1 1 rfl rfl (fun _ => by kernel_rfl) (by rfl) rfl) ?_)
           obtain ⟨y6, hb27, hX10⟩ := ob hX10
           obtain ⟨hb27_r, hb27_m, rfl⟩ := grow_some hb27
           obtain ⟨ti, hti, hz1, hz2, hz3⟩ := ipShrL_3
           refine T.step (W1.append (E := eInt) (l := n7.kids) (m := n8.kids) 4 _ _ 8 ti _ (by rfl) (by kernel_rfl) rfl (by kernel_rfl) hti hz1 hz2 hz3 rfl (by decide) rfl rfl (fun w' hh => (SlOk.srcF (hh.lent (i := 16) (by rfl) hb22 hx6).2.1 (fun _ _ _ _ h => h))) hb27_r hb27_m (fun A38 c39 => ?_))
           refine T.pk (pB b17 2) (fun _ => by kernel_rfl) ?_
           let i58_ : HObj := row 3 eInt A38 c39 (n7.kids ++ n8.kids)
           let v252_ : List Value := [vi n7.kind, .slice A33 ((n7.elems ++ n8.elems).length) c34, .slice A38 ((n7.kids ++ n8.kids).length) c39, .slice A34 z23.length c35, .slice A24 n7.tids.length c25]
           refine T.step (W1.st 2 v252_ (i54_ :: i56_ :: (box b17 97 v252_) :: i57_ :: i58_ :: (row 43 eSpot A34 c35 z23) :: t51_) [.slice A38 ((n7.kids ++ n8.kids).length) c39] (by rfl) rfl rfl rfl rfl rfl rfl (fun _ => by kernel_rfl) ?_)
           refine T.nil (T.seq (T.region (T.pk (pB b17 4) (fun _ => by kernel_rfl) (T.look (.slice A24 n7.tids.length c25) (by kernel_rfl) (ld1 2 rfl rfl (fun _ => by kernel_rfl) (by rfl) rfl) ?_))))
           refine T.pk (pB b18 4) (fun _ => by kernel_rfl) (T.look (.slice A28 n8.tids.length c29) (by kernel_rfl) (ld1 1 rfl rfl (fun _ => by kernel_rfl) (by rfl) rfl) ?_)
           obtain ⟨y7, hb28, hX10⟩ := ob hX10
           obtain ⟨hb28_r, hb28_m, rfl⟩ := grow_some hb28
           obtain ⟨ti, hti, hz1, hz2, hz3⟩ := ipShrL_3
           refine T.step (W1.append (E := eInt) (l := n7.tids) (m := n8.tids) 6 _ _ 8 ti _ (by rfl) (by kernel_rfl) rfl (by kernel_rfl) hti hz1 hz2 hz3 rfl (by decide) rfl rfl (fun w' hh => (SlOk.srcF (hh.lent (i := 16) (by rfl) hb22 hx6).2.2.2 (fun _ _ _ _ h => h))) hb28_r hb28_m (fun A39 c40 => ?_))
           refine T.pk (pB b17 4) (fun _ => by kernel_rfl) ?_
           let v253_ : List Value := [vi n7.kind, .slice A33 ((n7.elems ++ n8.elems).length) c34, .slice A38 ((n7.kids ++ n8.kids).length) c39, .slice A34 z23.length c35, .slice A39 ((n7.tids ++ n8.tids).length) c40]
           let i59_ : HObj := box b17 97 v253_
           let i60_ : HObj := row 3 eInt A39 c40 (n7.tids ++ n8.tids)
           refine T.step (W1.st 2 v253_ (i54_ :: i56_ :: i59_ :: i57_ :: i58_ :: (row 43 eSpot A34 c35 z23) :: i60_ :: t50_) [.slice A39 ((n7.tids ++ n8.tids).length) c40] (by rfl) rfl rfl rfl rfl rfl rfl (fun _ => by kernel_rfl) ?_)
           refine T.nil (T.seq (T.region (T.look (.agg #[vi n7.kind, .slice A33 ((n7.elems ++ n8.elems).length) c34, .slice A38 ((n7.kids ++ n8.kids).length) c39, .slice A34 z23.length c35, .slice A39 ((n7.tids ++ n8.tids).length) c40]) (by kernel_rfl) (ldN 2 rfl rfl (fun _ => by kernel_rfl) (by rfl) rfl) ?_)))
           refine T.step (W1.st 0 v253_ ((box b20 97 v253_) :: i56_ :: i59_ :: i57_ :: i58_ :: (row 43 eSpot A34 c35 z23) :: i60_ :: t50_) v253_ (by rfl) rfl rfl rfl rfl rfl rfl (fun _ => by kernel_rfl) ?_)
           refine T.nil ?_
           cases hX10
           refine T.ret rfl ?_
           exact T.ret1 rfl (ResIs.cellN 0 rfl (by rfl) (fun _ => by kernel_rfl) (fun _ => by kernel_rfl)) fun w' hh => ⟨_, rfl, ⟨A33, c34, A38, c39, A34, c35, A39, c40, rfl, (hh.sub (dr3 (kp13 (kp1 kpr))))⟩⟩
          rintro v w' ⟨A29, c30, A30, c31, A31, c32, A32, c33, rfl, hh⟩
          let i61_ : HObj := row 28 eElem A29 c30 (n7.elems ++ n8.elems)
          let i62_ : HObj := row 3 eInt A30 c31 (n7.kids ++ n8.kids)
          let i63_ : HObj := row 3 eInt A32 c33 (n7.tids ++ n8.tids)
          refine ⟨V7, (i61_ :: i62_ :: (row 43 eSpot A31 c32 z22) :: i63_ :: t50_), hh, ?_⟩
          clear hh
          refine TA.on (Hp.old vr w350_ (dr4 (kp5 (dr2 (kp2 (dr1 kp0))))) (oB3 (oR2 (oB1 (oR1 ol0))))) ?_
          refine TA.all [24] (by kernel_rfl) rfl ⟨?_, trivial⟩
          refine TA.br rfl (W1.np 97 v239_ (fun _ => by kernel_rfl) (fun b22 => ?_))
          refine TA.on (Hp.old vr w350_ (dr5 (kp5 (dr2 (kp2 (dr1 kp0))))) (oB3 (oR2 (oB1 (oR1 ol0))))) ?_
          refine TA.all [25] (by kernel_rfl) rfl ⟨?_, trivial⟩
          let v254_ : List Value := [vi n7.kind, .slice A29 ((n7.elems ++ n8.elems).length) c30, .slice A30 ((n7.kids ++ n8.kids).length) c31, .slice A31 z22.length c32, .slice A32 ((n7.tids ++ n8.tids).length) c33]
          refine TA.br rfl (W1.st 0 v254_ ((box b22 97 v254_) :: i61_ :: i62_ :: (row 43 eSpot A31 c32 z22) :: i63_ :: t50_) v254_ (by rfl) rfl rfl rfl rfl rfl rfl (fun _ => by kernel_rfl) ?_)
          refine TA.on (Hp.old vr w350_ (dr5 (kp5 (dr2 (kp2 (dr1 kp0))))) (oB3 (oR2 (oB1 (oR1 ol0))))) ?_
          refine TA.done (by kernel_rfl) ?_
          exact fun a w' hf hh => ⟨b22, A29, c30, A30, c31, A31, c32, A32, c33, (Fr.sel hf rfl), (hh.sub (kp14 (kp1 kpr)))⟩
         refine TA.br rfl (W1.np 97 v239_ (fun _ => by kernel_rfl) (fun b22 => ?_))
         refine TA.on (Hp.old vr w350_ (dr5 (kp5 (dr2 (kp2 (dr1 kp0))))) (oB3 (oR2 (oB1 (oR1 ol0))))) ?_
         refine TA.all [23] (by kernel_rfl) rfl ⟨?_, trivial⟩
         let i64_ : HObj := box b22 97 v239_
         refine TA.br rfl (W1.within 101 [a323_, a324_, a325_] (fun v w' => ∃ (A29 : Option Addr) (c30 : Nat) (A30 : Option Addr) (c31 : Nat) (A31 : Option Addr) (c32 : Nat) (A32 : Option Addr) (c33 : Nat), v = .agg #[vi n7.kind, .slice A29 ((n7.elems ++ n8.elems).length) c30, .slice A30 ((n7.kids ++ n8.kids).length) c31, .slice A31 z22.length c32, .slice A32 ((n7.tids ++ n8.tids).length) c33] ∧ Hp w V7 (i64_ :: (row 28 eElem A29 c30 (n7.elems ++ n8.elems)) :: (row 3 eInt A30 c31 (n7.kids ++ n8.kids)) :: (row 43 eSpot A31 c32 z22) :: (row 3 eInt A32 c33 (n7.tids ++ n8.tids)) :: t50_) w') Try.func101 rfl rfl (by kernel_rfl) (fun _ => by kernel_rfl) rfl ?_ ?_)
         ·
          refine T.seq (T.region (T.step (W1.np 97 v246_ (fun _ => by kernel_rfl) (fun b17 => ?_))))
          refine T.step (W1.np 97 v247_ (fun _ => by kernel_rfl) (fun b18 => ?_))
          refine T.step (W1.np 43 v248_ (fun _ => by kernel_rfl) (fun b19 => ?_))
          refine T.step (W1.np 97 v239_ (fun _ => by kernel_rfl) (fun b20 => ?_))
          refine T.nil (T.seq (T.region (T.pk (pB b17 1) (fun _ => by kernel_rfl) (T.look (.slice A21 n7.elems.length c22) (by kernel_rfl) (ld1 3 rfl rfl (fun _ => by kernel_rfl) (by rfl) rfl) ?_))))
          refine T.pk (pB b18 1) (fun _ => by kernel_rfl) (T.look (.slice A25 n8.elems.length c26) (by kernel_rfl) (ld1 2 rfl rfl (fun _ => by kernel_rfl) (by rfl) rfl) ?_)
          obtain ⟨y3, hb24, hX10⟩ := ob hX10
          obtain ⟨hb24_r, hb24_m, rfl⟩ := grow_some hb24
          obtain ⟨ti, hti, hz1, hz2, hz3⟩ := ipShrL_1
          refine T.step (W1.append (E := eElem) (l := n7.elems) (m := n8.elems) 5 _ _ 56 ti _ (by rfl) (by kernel_rfl) rfl (by kernel_rfl) hti hz1 hz2 hz3 rfl (by decide) rfl rfl (fun w' hh => (SlOk.srcF (hh.lent (i := 18) (by rfl) hb22 hx6).1 (fun _ _ _ _ h => h))) hb24_r hb24_m (fun A33 c34 => ?_))
          refine T.pk (pB b17 1) (fun _ => by kernel_rfl) ?_
          let i65_ : HObj := box b20 97 v239_
          let i66_ : HObj := box b19 43 v248_
          let i67_ : HObj := box b18 97 v247_
          let i68_ : HObj := row 28 eElem A33 c34 (n7.elems ++ n8.elems)
          let v255_ : List Value := [vi n7.kind, .slice A33 ((n7.elems ++ n8.elems).length) c34, .slice A22 n7.kids.length c23, .slice A23 n7.seps.length c24, .slice A24 n7.tids.length c25]
          refine T.step (W1.st 3 v255_ (i65_ :: i66_ :: i67_ :: (box b17 97 v255_) :: i64_ :: i68_ :: t53_) [.slice A33 ((n7.elems ++ n8.elems).length) c34] (by rfl) rfl rfl rfl rfl rfl rfl (fun _ => by kernel_rfl) ?_)
          refine T.nil ?_
          obtain ⟨z23, hX11, hX10⟩ := ob hX10
          refine T.cut (fun a w' => ∃ (A34 : Option Addr) (c35 : Nat), Fr 38 [(3, pB b17 0), (4, pB b18 0), (6, pB b20 0)] a ∧ Hp w V7 (i65_ :: i67_ :: (box b17 97 [vi n7.kind, .slice A33 ((n7.elems ++ n8.elems).length) c34, .slice A22 n7.kids.length c23, .slice A34 z23.length c35, .slice A24 n7.tids.length c25]) :: i64_ :: i68_ :: (row 3 eInt A22 c23 n7.kids) :: (row 43 eSpot A34 c35 z23) :: t51_) w') ?_ ?_
          ·
           refine T.seq (T.region (T.pk (pB b17 0) (fun _ => by kernel_rfl) (T.look (vi n7.kind) (by kernel_rfl) (ld1 3 rfl rfl (fun _ => by kernel_rfl) (by rfl) rfl) ?_)))
           refine T.pk (.bool (n7.kind == 2)) (fun _ => by kernel_rfl) (T.nil ?_)
           refine T.cond (n7.kind == 2) (by kernel_rfl) (by kernel_rfl) (fun hc10 => ?_) (fun hc10 => ?_)
           ·
            rw [hc10, cond_true] at hX11
            obtain ⟨y16, hb37, hX11⟩ := ob hX11
            obtain ⟨y17, hb38, hX11⟩ := ob hX11
            refine T.mid (fun a w' => ∃ (A37 : Option Addr) (c38 : Nat), Fr 38 [(3, pB b17 0), (4, pB b18 0), (6, pB b20 0)] a ∧ Hp w V7 (i65_ :: i67_ :: (box b17 97 [vi n7.kind, .slice A33 ((n7.elems ++ n8.elems).length) c34, .slice A22 n7.kids.length c23, .slice A37 (((n7.seps ++ [e10]) ++ n8.seps).length) c38, .slice A24 n7.tids.length c25]) :: i64_ :: i68_ :: (row 3 eInt A22 c23 n7.kids) :: (row 43 eSpot A37 c38 ((n7.seps ++ [e10]) ++ n8.seps)) :: t51_) w') ?_ ?_
            ·
             refine T.held (i65_ :: i66_ :: i67_ :: i64_ :: i68_ :: (row 3 eInt A22 c23 n7.kids) :: i39_ :: i40_ :: i37_ :: (row 28 eElem A3 c3 n1.elems) :: (row 3 eInt A4 c4 n1.kids) :: (row 43 eSpot A5 c5 n1.seps) :: i38_ :: t35_) (by kernel_rfl) ?_
             refine TA.keep (Hp.old vr w350_ (kp3 (dr1 (kp3 (dr2 (kp9 (dr1 kp0)))))) (oB4 (oR2 (oB3 (oR4 (oB1 (oR1 ol0))))))) fun o371_ => ?_
             refine TA.tp 0 (pB b17 3) rfl (fun _ => by kernel_rfl) (fun _ _ _ h => h) o371_ ?_
             refine TA.tk 2 a325_ rfl (by kernel_rfl) (fun _ _ _ h => h) o371_ (ldN 1 rfl rfl (fun _ => by kernel_rfl) (by rfl) rfl) ?_
             refine TA.tp 5 (pB b18 3) rfl (fun _ => by kernel_rfl) (fun _ _ _ h => h) o371_ ?_
             refine TA.tk 6 (.slice A27 n8.seps.length c28) rfl (by kernel_rfl) (fun _ _ _ h => h) o371_ (ld1 2 rfl rfl (fun _ => by kernel_rfl) (by rfl) rfl) ?_
             refine TA.all [1, 3] (by kernel_rfl) rfl ⟨?_, ?_, trivial⟩
             ·
              refine TA.br rfl (W1.look (.slice A23 n7.seps.length c24) (by kernel_rfl) (ld1 3 rfl rfl (fun _ => by kernel_rfl) (by rfl) rfl) ?_)
              refine TA.on (Hp.old vr w350_ (kp3 (dr1 (kp3 (dr2 (kp9 (dr1 kp0)))))) (oB4 (oR2 (oB3 (oR4 (oB1 (oR1 ol0))))))) ?_
              refine TA.all [3] (by kernel_rfl) rfl ⟨?_, trivial⟩
              refine TA.br rfl (W1.ns 43 v248_ (fun _ => by kernel_rfl) (fun b27 => ?_))
              refine TA.on (Hp.old vr w350_ (dr1 (kp3 (dr1 (kp3 (dr2 (kp9 (dr1 kp0))))))) (oB4 (oR2 (oB3 (oR4 (oB1 (oR1 ol0))))))) ?_
              refine TA.all [4] (by kernel_rfl) rfl ⟨?_, trivial⟩
              obtain ⟨hb37_r, hb37_m, rfl⟩ := grow_some hb37
              obtain ⟨ti, hti, hz1, hz2, hz3⟩ := ipShrL_2
              refine TA.br rfl (W1.append (E := eSpot) (l := n7.seps) (m := [e10]) 8 _ _ 32 ti _ (by rfl) (by kernel_rfl) rfl (by kernel_rfl) hti hz1 hz2 hz3 rfl (by decide) rfl rfl (fun w' hh => (SlOk.srcF (slok_lit (E := eSpot) (f := DSpot.cells) [e10] (fun _ _ => rfl) (Nat.le_of_ble_eq_true (by rfl)) (fun j => hh.cellBox (i := 0) (by rfl) j)) (fun _ _ _ _ h => h))) hb37_r hb37_m (fun A52 c53 => ?_))
              refine TA.on (Hp.old vr w350_ (dr1 (kp3 (dr1 (kp3 (dr2 (kp9 (dr1 kp0))))))) (oB4 (oR2 (oB3 (oR4 (oB1 (oR1 ol0))))))) ?_
              refine TA.all [7] (by kernel_rfl) rfl ⟨?_, trivial⟩
              obtain ⟨hb38_r, hb38_m, rfl⟩ := grow_some hb38
              obtain ⟨ti, hti, hz1, hz2, hz3⟩ := ipShrL_2
              refine TA.br rfl (W1.append (E := eSpot) (l := (n7.seps ++ [e10])) (m := n8.seps) 8 _ _ 32 ti _ (by rfl) (by kernel_rfl) rfl (by kernel_rfl) hti hz1 hz2 hz3 rfl (by decide) rfl rfl (fun w' hh => (SlOk.srcF (hh.lent (i := 19) (by rfl) hb22 hx6).2.2.1 (fun _ _ _ _ h => h))) hb38_r hb38_m (fun A53 c54 => ?_))
              refine TA.onk (Hp.old vr w350_ (dr1 (kp3 (dr1 (kp3 (dr2 (kp9 (dr1 kp0))))))) (oB4 (oR2 (oB3 (oR4 (oB1 (oR1 ol0))))))) fun o372_ => ?_
              refine TA.tp 8 (pB b17 3) rfl (fun _ => by kernel_rfl) (fun _ _ _ h => h) o372_ ?_
              refine TA.all [9] (by kernel_rfl) rfl ⟨?_, trivial⟩
              let v256_ : List Value := [vi n7.kind, .slice A33 ((n7.elems ++ n8.elems).length) c34, .slice A22 n7.kids.length c23, .slice A53 (((n7.seps ++ [e10]) ++ n8.seps).length) c54, .slice A24 n7.tids.length c25]
              refine TA.br rfl (W1.st 4 v256_ ((box b27 43 v248_) :: i65_ :: i66_ :: i67_ :: (box b17 97 v256_) :: i64_ :: i68_ :: (row 3 eInt A22 c23 n7.kids) :: (row 43 eSpot A53 c54 ((n7.seps ++ [e10]) ++ n8.seps)) :: t51_) [.slice A53 (((n7.seps ++ [e10]) ++ n8.seps).length) c54] (by rfl) rfl rfl rfl rfl rfl rfl (fun _ => by kernel_rfl) ?_)
              refine TA.on (Hp.old vr w350_ (dr1 (kp3 (dr1 (kp3 (dr2 (kp9 (dr1 kp0))))))) (oB4 (oR2 (oB3 (oR4 (oB1 (oR1 ol0))))))) ?_
              refine TA.done (by kernel_rfl) ?_
              exact fun a w' hf hh => ⟨A53, c54, (Fr.sel hf rfl), (hh.sub (dr1 (kp1 (dr1 (kp16 (kp1 kpr))))))⟩
             refine TA.br rfl (W1.ns 43 v248_ (fun _ => by kernel_rfl) (fun b27 => ?_))
             refine TA.on (Hp.old vr w350_ (dr1 (kp3 (dr1 (kp3 (dr2 (kp9 (dr1 kp0))))))) (oB4 (oR2 (oB3 (oR4 (oB1 (oR1 ol0))))))) ?_
             refine TA.all [1] (by kernel_rfl) rfl ⟨?_, trivial⟩
             refine TA.br rfl (W1.look (.slice A23 n7.seps.length c24) (by kernel_rfl) (ld1 4 rfl rfl (fun _ => by kernel_rfl) (by rfl) rfl) ?_)
             refine TA.on (Hp.old vr w350_ (dr1 (kp3 (dr1 (kp3 (dr2 (kp9 (dr1 kp0))))))) (oB4 (oR2 (oB3 (oR4 (oB1 (oR1 ol0))))))) ?_
             refine TA.all [4] (by kernel_rfl) rfl ⟨?_, trivial⟩
             obtain ⟨hb37_r, hb37_m, rfl⟩ := grow_some hb37
             obtain ⟨ti, hti, hz1, hz2, hz3⟩ := ipShrL_2
             refine TA.br rfl (W1.append (E := eSpot) (l := n7.seps) (m := [e10]) 8 _ _ 32 ti _ (by rfl) (by kernel_rfl) rfl (by kernel_rfl) hti hz1 hz2 hz3 rfl (by decide) rfl rfl (fun w' hh => (SlOk.srcF (slok_lit (E := eSpot) (f := DSpot.cells) [e10] (fun _ _ => rfl) (Nat.le_of_ble_eq_true (by rfl)) (fun j => hh.cellBox (i := 0) (by rfl) j)) (fun _ _ _ _ h => h))) hb37_r hb37_m (fun A52 c53 => ?_))
             refine TA.on (Hp.old vr w350_ (dr1 (kp3 (dr1 (kp3 (dr2 (kp9 (dr1 kp0))))))) (oB4 (oR2 (oB3 (oR4 (oB1 (oR1 ol0))))))) ?_
             refine TA.all [7] (by kernel_rfl) rfl ⟨?_, trivial⟩
             obtain ⟨hb38_r, hb38_m, rfl⟩ := grow_some hb38
             obtain ⟨ti, hti, hz1, hz2, hz3⟩ := ipShrL_2
             refine TA.br rfl (W1.append (E := eSpot) (l := (n7.seps ++ [e10])) (m := n8.seps) 8 _ _ 32 ti _ (by rfl) (by kernel_rfl) rfl (by kernel_rfl) hti hz1 hz2 hz3 rfl (by decide) rfl rfl (fun w' hh => (SlOk.srcF (hh.lent (i := 19) (by rfl) hb22 hx6).2.2.1 (fun _ _ _ _ h => h))) hb38_r hb38_m (fun A53 c54 => ?_))
             refine TA.onk (Hp.old vr w350_ (dr1 (kp3 (dr1 (kp3 (dr2 (kp9 (dr1 kp0))))))) (oB4 (oR2 (oB3 (oR4 (oB1 (oR1 ol0))))))) fun o373_ => ?_
             refine TA.tp 8 (pB b17 3) rfl (fun _ => by kernel_rfl) (fun _ _ _ h => h) o373_ ?_
             refine TA.all [9] (by kernel_rfl) rfl ⟨?_, trivial⟩
             let v257_ : List Value := [vi n7.kind, .slice A33 ((n7.elems ++ n8.elems).length) c34, .slice A22 n7.kids.length c23, .slice A53 (((n7.seps ++ [e10]) ++ n8.seps).length) c54, .slice A24 n7.tids.length c25]
             refine TA.br rfl (W1.st 4 v257_ ((box b27 43 v248_) :: i65_ :: i66_ :: i67_ :: (box b17 97 v257_) :: i64_ :: i68_ :: (row 3 eInt A22 c23 n7.kids) :: (row 43 eSpot A53 c54 ((n7.seps ++ [e10]) ++ n8.seps)) :: t51_) [.slice A53 (((n7.seps ++ [e10]) ++ n8.seps).length) c54] (by rfl) rfl rfl rfl rfl rfl rfl (fun _ => by kernel_rfl) ?_)
             refine TA.on (Hp.old vr w350_ (dr1 (kp3 (dr1 (kp3 (dr2 (kp9 (dr1 kp0))))))) (oB4 (oR2 (oB3 (oR4 (oB1 (oR1 ol0))))))) ?_
             refine TA.done (by kernel_rfl) ?_
             exact fun a w' hf hh => ⟨A53, c54, (Fr.sel hf rfl), (hh.sub (dr1 (kp1 (dr1 (kp16 (kp1 kpr))))))⟩
            rintro a w' ⟨A37, c38, hf, hh⟩
            refine (?_ : T 38 w V7 (i65_ :: i67_ :: (box b17 97 [vi n7.kind, .slice A33 ((n7.elems ++ n8.elems).length) c34, .slice A22 n7.kids.length c23, .slice A37 (((n7.seps ++ [e10]) ++ n8.seps).length) c38, .slice A24 n7.tids.length c25]) :: i64_ :: i68_ :: (row 3 eInt A22 c23 n7.kids) :: (row 43 eSpot A37 c38 ((n7.seps ++ [e10]) ++ n8.seps)) :: t51_) [(3, pB b17 0), (4, pB b18 0), (6, pB b20 0)] _) a w' hf hh
            clear hf hh
            cases hX11
            exact fun a w' hf hh => ⟨A37, c38, (Fr.sel hf rfl), (hh.sub (kp17 (kp1 kpr)))⟩
           rw [hc10, cond_false] at hX11
           refine T.skip_code ?_
           cases hX11
           exact fun a w' hf hh => ⟨A23, c24, (Fr.sel hf rfl), (hh.sub (kp1 (dr1 (kp16 (kp1 kpr)))))⟩
          rintro a w' ⟨A34, c35, hf, hh⟩
          refine (?_ : T 38 w V7 (i65_ :: i67_ :: (box b17 97 [vi n7.kind, .slice A33 ((n7.elems ++ n8.elems).length) c34, .slice A22 n7.kids.length c23, .slice A34 z23.length c35, .slice A24 n7.tids.length c25]) :: i64_ :: i68_ :: (row 3 eInt A22 c23 n7.kids) :: (row 43 eSpot A34 c35 z23) :: t51_) [(3, pB b17 0), (4, pB b18 0), (6, pB b20 0)] _) a w' hf hh
          clear hf hh
          refine T.seq (T.region (T.pk (pB b17 2) (fun _ => by kernel_rfl) (T.look (.slice A22 n7.kids.length c23) (by kernel_rfl) (ld1 2 rfl rfl (fun _ => by kernel_rfl) (by rfl) rfl) ?_)))
          refine T.pk (pB b18 2) (fun _ => by kernel_rfl) (T.look (.slice A26 n8.kids.length c27) (by kernel_rfl) (ld1 1 rfl rfl (fun _ => by kernel_rfl) (by rfl) rfl) ?_)
          obtain ⟨y6, hb27, hX10⟩ := ob hX10
          obtain ⟨hb27_r, hb27_m, rfl⟩ := grow_some hb27
          obtain ⟨ti, hti, hz1, hz2, hz3⟩ := ipShrL_3
          refine T.step (W1.append (E := eInt) (l := n7.kids) (m := n8.kids) 5 _ _ 8 ti _ (by rfl) (by kernel_rfl) rfl (by kernel_rfl) hti hz1 hz2 hz3 rfl (by decide) rfl rfl (fun w' hh => (SlOk.srcF (hh.lent (i := 17) (by rfl) hb22 hx6).2.1 (fun _ _ _ _ h => h))) hb27_r hb27_m (fun A38 c39 => ?_))
          refine T.pk (pB b17 2) (fun _ => by kernel_rfl) ?_
          let i69_ : HObj := row 3 eInt A38 c39 (n7.kids ++ n8.kids)
          let v258_ : List Value := [vi n7.kind, .slice A33 ((n7.elems ++ n8.elems).length) c34, .slice A38 ((n7.kids ++ n8.kids).length) c39, .slice A34 z23.length c35, .slice A24 n7.tids.length c25]
          refine T.step (W1.st 2 v258_ (i65_ :: i67_ :: (box b17 97 v258_) :: i64_ :: i68_ :: i69_ :: (row 43 eSpot A34 c35 z23) :: t51_) [.slice A38 ((n7.kids ++ n8.kids).length) c39] (by rfl) rfl rfl rfl rfl rfl rfl (fun _ => by kernel_rfl) ?_)
          refine T.nil (T.seq (T.region (T.pk (pB b17 4) (fun _ => by kernel_rfl) (T.look (.slice A24 n7.tids.length c25) (by kernel_rfl) (ld1 2 rfl rfl (fun _ => by kernel_rfl) (by rfl) rfl) ?_))))
          refine T.pk (pB b18 4) (fun _ => by kernel_rfl) (T.look (.slice A28 n8.tids.length c29) (by kernel_rfl) (ld1 1 rfl rfl (fun _ => by kernel_rfl) (by rfl) rfl) ?_)
          obtain ⟨y7, hb28, hX10⟩ := ob hX10
          obtain ⟨hb28_r, hb28_m, rfl⟩ := grow_some hb28
          obtain ⟨ti, hti, hz1, hz2, hz3⟩ := ipShrL_3
          refine T.step (W1.append (E := eInt) (l := n7.tids) (m := n8.tids) 7 _ _ 8 ti _ (by rfl) (by kernel_rfl) rfl (by kernel_rfl) hti hz1 hz2 hz3 rfl (by decide) rfl rfl (fun w' hh => (SlOk.srcF (hh.lent (i := 17) (by rfl) hb22 hx6).2.2.2 (fun _ _ _ _ h => h))) hb28_r hb28_m (fun A39 c40 => ?_))
          refine T.pk (pB b17 4) (fun _ => by kernel_rfl) ?_
          let v259_ : List Value := [vi n7.kind, .slice A33 ((n7.elems ++ n8.elems).length) c34, .slice A38 ((n7.kids ++ n8.kids).length) c39, .slice A34 z23.length c35, .slice A39 ((n7.tids ++ n8.tids).length) c40]
          let i70_ : HObj := box b17 97 v259_
          let i71_ : HObj := row 3 eInt A39 c40 (n7.tids ++ n8.tids)
          refine T.step (W1.st 2 v259_ (i65_ :: i67_ :: i70_ :: i64_ :: i68_ :: i69_ :: (row 43 eSpot A34 c35 z23) :: i71_ :: t50_) [.slice A39 ((n7.tids ++ n8.tids).length) c40] (by rfl) rfl rfl rfl rfl rfl rfl (fun _ => by kernel_rfl) ?_)
          refine T.nil (T.seq (T.region (T.look (.agg #[vi n7.kind, .slice A33 ((n7.elems ++ n8.elems).length) c34, .slice A38 ((n7.kids ++ n8.kids).length) c39, .slice A34 z23.length c35, .slice A39 ((n7.tids ++ n8.tids).length) c40]) (by kernel_rfl) (ldN 2 rfl rfl (fun _ => by kernel_rfl) (by rfl) rfl) ?_)))
          refine T.step (W1.st 0 v259_ ((box b20 97 v259_) :: i67_ :: i70_ :: i64_ :: i68_ :: i69_ :: (row 43 eSpot A34 c35 z23) :: i71_ :: t50_) v259_ (by rfl) rfl rfl rfl rfl rfl rfl (fun _ => by kernel_rfl) ?_)
          refine T.nil ?_
          cases hX10
          refine T.ret rfl ?_
          exact T.ret1 rfl (ResIs.cellN 0 rfl (by rfl) (fun _ => by kernel_rfl) (fun _ => by kernel_rfl)) fun w' hh => ⟨_, rfl, ⟨A33, c34, A38, c39, A34, c35, A39, c40, rfl, (hh.sub (dr3 (kp14 (kp1 kpr))))⟩⟩
         rintro v w' ⟨A29, c30, A30, c31, A31, c32, A32, c33, rfl, hh⟩
         let i72_ : HObj := row 28 eElem A29 c30 (n7.elems ++ n8.elems)
         let i73_ : HObj := row 3 eInt A30 c31 (n7.kids ++ n8.kids)
         let i74_ : HObj := row 3 eInt A32 c33 (n7.tids ++ n8.tids)
         refine ⟨V7, (i64_ :: i72_ :: i73_ :: (row 43 eSpot A31 c32 z22) :: i74_ :: t50_), hh, ?_⟩
         clear hh
         refine TA.on (Hp.old vr w350_ (dr5 (kp5 (dr2 (kp2 (dr1 kp0))))) (oB3 (oR2 (oB1 (oR1 ol0))))) ?_
         refine TA.all [25] (by kernel_rfl) rfl ⟨?_, trivial⟩
         let v260_ : List Value := [vi n7.kind, .slice A29 ((n7.elems ++ n8.elems).length) c30, .slice A30 ((n7.kids ++ n8.kids).length) c31, .slice A31 z22.length c32, .slice A32 ((n7.tids ++ n8.tids).length) c33]
         refine TA.br rfl (W1.st 0 v260_ ((box b22 97 v260_) :: i72_ :: i73_ :: (row 43 eSpot A31 c32 z22) :: i74_ :: t50_) v260_ (by rfl) rfl rfl rfl rfl rfl rfl (fun _ => by kernel_rfl) ?_)
         refine TA.on (Hp.old vr w350_ (dr5 (kp5 (dr2 (kp2 (dr1 kp0))))) (oB3 (oR2 (oB1 (oR1 ol0))))) ?_
         refine TA.done (by kernel_rfl) ?_
         exact fun a w' hf hh => ⟨b22, A29, c30, A30, c31, A31, c32, A32, c33, (Fr.sel hf rfl), (hh.sub (kp14 (kp1 kpr)))⟩
        refine TA.br rfl (W1.np 97 v239_ (fun _ => by kernel_rfl) (fun b22 => ?_))
        refine TA.on (Hp.old vr w350_ (dr5 (kp5 (dr2 (kp2 (dr1 kp0))))) (oB3 (oR2 (oB1 (oR1 ol0))))) ?_
        refine TA.all [22] (by kernel_rfl) rfl ⟨?_, trivial⟩
        let v261_ : List Value := [vi e10.key.pfs, vi e10.key.obj, vi e10.key.off, vi e10.made]
        let a326_ : Value := .agg #[vi e10.key.pfs, vi e10.key.obj, vi e10.key.off, vi e10.made]
        refine TA.br rfl (W1.look a326_ (by kernel_rfl) (fun w' hh => exec_loadN (cs := v261_) rfl rfl (by kernel_rfl) (by kernel_rfl) (fun j u hj => (SlOk.wcellF (E := eSpot) (hh.row_slOk (i := 10) (by rfl)) hi37 j (fun _ _ _ h => h) hj))) ?_)
        refine TA.on (Hp.old vr w350_ (dr5 (kp5 (dr2 (kp2 (dr1 kp0))))) (oB3 (oR2 (oB1 (oR1 ol0))))) ?_
        refine TA.all [23] (by kernel_rfl) rfl ⟨?_, trivial⟩
        let i75_ : HObj := box b22 97 v239_
        refine TA.br rfl (W1.within 101 [a323_, a324_, a326_] (fun v w' => ∃ (A29 : Option Addr) (c30 : Nat) (A30 : Option Addr) (c31 : Nat) (A31 : Option Addr) (c32 : Nat) (A32 : Option Addr) (c33 : Nat), v = .agg #[vi n7.kind, .slice A29 ((n7.elems ++ n8.elems).length) c30, .slice A30 ((n7.kids ++ n8.kids).length) c31, .slice A31 z22.length c32, .slice A32 ((n7.tids ++ n8.tids).length) c33] ∧ Hp w V7 (i75_ :: (row 28 eElem A29 c30 (n7.elems ++ n8.elems)) :: (row 3 eInt A30 c31 (n7.kids ++ n8.kids)) :: (row 43 eSpot A31 c32 z22) :: (row 3 eInt A32 c33 (n7.tids ++ n8.tids)) :: t50_) w') Try.func101 rfl rfl (by kernel_rfl) (fun _ => by kernel_rfl) rfl ?_ ?_)
        ·
         refine T.seq (T.region (T.step (W1.np 97 v246_ (fun _ => by kernel_rfl) (fun b17 => ?_))))
         refine T.step (W1.np 97 v247_ (fun _ => by kernel_rfl) (fun b18 => ?_))
         refine T.step (W1.np 43 v261_ (fun _ => by kernel_rfl) (fun b19 => ?_))
         refine T.step (W1.np 97 v239_ (fun _ => by kernel_rfl) (fun b20 => ?_))
         refine T.nil (T.seq (T.region (T.pk (pB b17 1) (fun _ => by kernel_rfl) (T.look (.slice A21 n7.elems.length c22) (by kernel_rfl) (ld1 3 rfl rfl (fun _ => by kernel_rfl) (by rfl) rfl) ?_))))
         refine T.pk (pB b18 1) (fun _ => by kernel_rfl) (T.look (.slice A25 n8.elems.length c26) (by kernel_rfl) (ld1 2 rfl rfl (fun _ => by kernel_rfl) (by rfl) rfl) ?_)
         obtain ⟨y3, hb24, hX10⟩ := ob hX10
         obtain ⟨hb24_r, hb24_m, rfl⟩ := grow_some hb24
         obtain ⟨ti, hti, hz1, hz2, hz3⟩ := ipShrL_1
         refine T.step (W1.append (E := eElem) (l := n7.elems) (m := n8.elems) 5 _ _ 56 ti _ (by rfl) (by kernel_rfl) rfl (by kernel_rfl) hti hz1 hz2 hz3 rfl (by decide) rfl rfl (fun w' hh => (SlOk.srcF (hh.lent (i := 18) (by rfl) hb22 hx6).1 (fun _ _ _ _ h => h))) hb24_r hb24_m (fun A33 c34 => ?_))
         refine T.pk (pB b17 1) (fun _ => by kernel_rfl) ?_
         let i76_ : HObj := box b20 97 v239_
         let i77_ : HObj := box b19 43 v261_
         let i78_ : HObj := box b18 97 v247_
         let i79_ : HObj := row 28 eElem A33 c34 (n7.elems ++ n8.elems)
         let v262_ : List Value := [vi n7.kind, .slice A33 ((n7.elems ++ n8.elems).length) c34, .slice A22 n7.kids.length c23, .slice A23 n7.seps.length c24, .slice A24 n7.tids.length c25]
         refine T.step (W1.st 3 v262_ (i76_ :: i77_ :: i78_ :: (box b17 97 v262_) :: i75_ :: i79_ :: t53_) [.slice A33 ((n7.elems ++ n8.elems).length) c34] (by rfl) rfl rfl rfl rfl rfl rfl (fun _ => by kernel_rfl) ?_)
         refine T.nil ?_
         obtain ⟨z23, hX11, hX10⟩ := ob hX10
         refine T.cut (fun a w' => ∃ (A34 : Option Addr) (c35 : Nat), Fr 38 [(3, pB b17 0), (4, pB b18 0), (6, pB b20 0)] a ∧ Hp w V7 (i76_ :: i78_ :: (box b17 97 [vi n7.kind, .slice A33 ((n7.elems ++ n8.elems).length) c34, .slice A22 n7.kids.length c23, .slice A34 z23.length c35, .slice A24 n7.tids.length c25]) :: i75_ :: i79_ :: (row 3 eInt A22 c23 n7.kids) :: (row 43 eSpot A34 c35 z23) :: t51_) w') ?_ ?_
         ·
          refine T.seq (T.region (T.pk (pB b17 0) (fun _ => by kernel_rfl) (T.look (vi n7.kind) (by kernel_rfl) (ld1 3 rfl rfl (fun _ => by kernel_rfl) (by rfl) rfl) ?_)))
          refine T.pk (.bool (n7.kind == 2)) (fun _ => by kernel_rfl) (T.nil ?_)
          refine T.cond (n7.kind == 2) (by kernel_rfl) (by kernel_rfl) (fun hc10 => ?_) (fun hc10 => ?_)
          ·
           rw [hc10, cond_true] at hX11
           obtain ⟨y18, hb39, hX11⟩ := ob hX11
           obtain ⟨y19, hb40, hX11⟩ := ob hX11
           refine T.mid (fun a w' => ∃ (A37 : Option Addr) (c38 : Nat), Fr 38 [(3, pB b17 0), (4, pB b18 0), (6, pB b20 0)] a ∧ Hp w V7 (i76_ :: i78_ :: (box b17 97 [vi n7.kind, .slice A33 ((n7.elems ++ n8.elems).length) c34, .slice A22 n7.kids.length c23, .slice A37 (((n7.seps ++ [e10]) ++ n8.seps).length) c38, .slice A24 n7.tids.length c25]) :: i75_ :: i79_ :: (row 3 eInt A22 c23 n7.kids) :: (row 43 eSpot A37 c38 ((n7.seps ++ [e10]) ++ n8.seps)) :: t51_) w') ?_ ?_
           ·
            refine T.held (i76_ :: i77_ :: i78_ :: i75_ :: i79_ :: (row 3 eInt A22 c23 n7.kids) :: i39_ :: i40_ :: i37_ :: (row 28 eElem A3 c3 n1.elems) :: (row 3 eInt A4 c4 n1.kids) :: (row 43 eSpot A5 c5 n1.seps) :: i38_ :: t35_) (by kernel_rfl) ?_
            refine TA.keep (Hp.old vr w350_ (kp3 (dr1 (kp3 (dr2 (kp9 (dr1 kp0)))))) (oB4 (oR2 (oB3 (oR4 (oB1 (oR1 ol0))))))) fun o374_ => ?_
            refine TA.tp 0 (pB b17 3) rfl (fun _ => by kernel_rfl) (fun _ _ _ h => h) o374_ ?_
            refine TA.tk 2 a326_ rfl (by kernel_rfl) (fun _ _ _ h => h) o374_ (ldN 1 rfl rfl (fun _ => by kernel_rfl) (by rfl) rfl) ?_
            refine TA.tp 5 (pB b18 3) rfl (fun _ => by kernel_rfl) (fun _ _ _ h => h) o374_ ?_
            refine TA.tk 6 (.slice A27 n8.seps.length c28) rfl (by kernel_rfl) (fun _ _ _ h => h) o374_ (ld1 2 rfl rfl (fun _ => by kernel_rfl) (by rfl) rfl) ?_
            refine TA.all [1, 3] (by kernel_rfl) rfl ⟨?_, ?_, trivial⟩
            ·
             refine TA.br rfl (W1.look (.slice A23 n7.seps.length c24) (by kernel_rfl) (ld1 3 rfl rfl (fun _ => by kernel_rfl) (by rfl) rfl) ?_)
             refine TA.on (Hp.old vr w350_ (kp3 (dr1 (kp3 (dr2 (kp9 (dr1 kp0)))))) (oB4 (oR2 (oB3 (oR4 (oB1 (oR1 ol0))))))) ?_
             refine TA.all [3] (by kernel_rfl) rfl ⟨?_, trivial⟩
             refine TA.br rfl (W1.ns 43 v261_ (fun _ => by kernel_rfl) (fun b28 => ?_))
             refine TA.on (Hp.old vr w350_ (dr1 (kp3 (dr1 (kp3 (dr2 (kp9 (dr1 kp0))))))) (oB4 (oR2 (oB3 (oR4 (oB1 (oR1 ol0))))))) ?_
             refine TA.all [4] (by kernel_rfl) rfl ⟨?_, trivial⟩
             obtain ⟨hb39_r, hb39_m, rfl⟩ := grow_some hb39
             obtain ⟨ti, hti, hz1, hz2, hz3⟩ := ipShrL_2
             refine TA.br rfl (W1.append (E := eSpot) (l := n7.seps) (m := [e10]) 8 _ _ 32 ti _ (by rfl) (by kernel_rfl) rfl (by kernel_rfl) hti hz1 hz2 hz3 rfl (by decide) rfl rfl (fun w' hh => (SlOk.srcF (slok_lit (E := eSpot) (f := DSpot.cells) [e10] (fun _ _ => rfl) (Nat.le_of_ble_eq_true (by rfl)) (fun j => hh.cellBox (i := 0) (by rfl) j)) (fun _ _ _ _ h => h))) hb39_r hb39_m (fun A54 c55 => ?_))
             refine TA.on (Hp.old vr w350_ (dr1 (kp3 (dr1 (kp3 (dr2 (kp9 (dr1 kp0))))))) (oB4 (oR2 (oB3 (oR4 (oB1 (oR1 ol0))))))) ?_
             refine TA.all [7] (by kernel_rfl) rfl ⟨?_, trivial⟩
             obtain ⟨hb40_r, hb40_m, rfl⟩ := grow_some hb40
             obtain ⟨ti, hti, hz1, hz2, hz3⟩ := ipShrL_2
             refine TA.br rfl (W1.append (E := eSpot) (l := (n7.seps ++ [e10])) (m := n8.seps) 8 _ _ 32 ti _ (by rfl) (by kernel_rfl) rfl (by kernel_rfl) hti hz1 hz2 hz3 rfl (by decide) rfl rfl (fun w' hh => (SlOk.srcF (hh.lent (i := 19) (by rfl) hb22 hx6).2.2.1 (fun _ _ _ _ h => h))) hb40_r hb40_m (fun A55 c56 => ?_))
             refine TA.onk (Hp.old vr w350_ (dr1 (kp3 (dr1 (kp3 (dr2 (kp9 (dr1 kp0))))))) (oB4 (oR2 (oB3 (oR4 (oB1 (oR1 ol0))))))) fun o375_ => ?_
             refine TA.tp 8 (pB b17 3) rfl (fun _ => by kernel_rfl) (fun _ _ _ h => h) o375_ ?_
             refine TA.all [9] (by kernel_rfl) rfl ⟨?_, trivial⟩
             let v263_ : List Value := [vi n7.kind, .slice A33 ((n7.elems ++ n8.elems).length) c34, .slice A22 n7.kids.length c23, .slice A55 (((n7.seps ++ [e10]) ++ n8.seps).length) c56, .slice A24 n7.tids.length c25]
             refine TA.br rfl (W1.st 4 v263_ ((box b28 43 v261_) :: i76_ :: i77_ :: i78_ :: (box b17 97 v263_) :: i75_ :: i79_ :: (row 3 eInt A22 c23 n7.kids) :: (row 43 eSpot A55 c56 ((n7.seps ++ [e10]) ++ n8.seps)) :: t51_) [.slice A55 (((n7.seps ++ [e10]) ++ n8.seps).length) c56] (by rfl) rfl rfl rfl rfl rfl rfl (fun _ => by kernel_rfl) ?_)
             refine TA.on (Hp.old vr w350_ (dr1 (kp3 (dr1 (kp3 (dr2 (kp9 (dr1 kp0))))))) (oB4 (oR2 (oB3 (oR4 (oB1 (oR1 ol0))))))) ?_
             refine TA.done (by kernel_rfl) ?_
             exact fun a w' hf hh => ⟨A55, c56, (Fr.sel hf rfl), (hh.sub (dr1 (kp1 (dr1 (kp16 (kp1 kpr))))))⟩
            refine TA.br rfl (W1.ns 43 v261_ (fun _ => by kernel_rfl) (fun b28 => ?_))
            refine TA.on (Hp.old vr w350_ (dr1 (kp3 (dr1 (kp3 (dr2 (kp9 (dr1 kp0))))))) (oB4 (oR2 (oB3 (oR4 (oB1 (oR1 ol0))))))) ?_
            refine TA.all [1] (by kernel_rfl) rfl ⟨?_, trivial⟩
            refine TA.br rfl (W1.look (.slice A23 n7.seps.length c24) (by kernel_rfl) (ld1 4 rfl rfl (fun _ => by kernel_rfl) (by rfl) rfl) ?_)
            refine TA.on (Hp.old vr w350_ (dr1 (kp3 (dr1 (kp3 (dr2 (kp9 (dr1 kp0))))))) (oB4 (oR2 (oB3 (oR4 (oB1 (oR1 ol0))))))) ?_
            refine TA.all [4] (by kernel_rfl) rfl ⟨?_, trivial⟩
            obtain ⟨hb39_r, hb39_m, rfl⟩ := grow_some hb39
            obtain ⟨ti, hti, hz1, hz2, hz3⟩ := ipShrL_2
            refine TA.br rfl (W1.append (E := eSpot) (l := n7.seps) (m := [e10]) 8 _ _ 32 ti _ (by rfl) (by kernel_rfl) rfl (by kernel_rfl) hti hz1 hz2 hz3 rfl (by decide) rfl rfl (fun w' hh => (SlOk.srcF (slok_lit (E := eSpot) (f := DSpot.cells) [e10] (fun _ _ => rfl) (Nat.le_of_ble_eq_true (by rfl)) (fun j => hh.cellBox (i := 0) (by rfl) j)) (fun _ _ _ _ h => h))) hb39_r hb39_m (fun A54 c55 => ?_))
            refine TA.on (Hp.old vr w350_ (dr1 (kp3 (dr1 (kp3 (dr2 (kp9 (dr1 kp0))))))) (oB4 (oR2 (oB3 (oR4 (oB1 (oR1 ol0))))))) ?_
            refine TA.all [7] (by kernel_rfl) rfl ⟨?_, trivial⟩
            obtain ⟨hb40_r, hb40_m, rfl⟩ := grow_some hb40
            obtain ⟨ti, hti, hz1, hz2, hz3⟩ := ipShrL_2
            refine TA.br rfl (W1.append (E := eSpot) (l := (n7.seps ++ [e10])) (m := n8.seps) 8 _ _ 32 ti _ (by rfl) (by kernel_rfl) rfl (by kernel_rfl) hti hz1 hz2 hz3 rfl (by decide) rfl rfl (fun w' hh => (SlOk.srcF (hh.lent (i := 19) (by rfl) hb22 hx6).2.2.1 (fun _ _ _ _ h => h))) hb40_r hb40_m (fun A55 c56 => ?_))
            refine TA.onk (Hp.old vr w350_ (dr1 (kp3 (dr1 (kp3 (dr2 (kp9 (dr1 kp0))))))) (oB4 (oR2 (oB3 (oR4 (oB1 (oR1 ol0))))))) fun o376_ => ?_
            refine TA.tp 8 (pB b17 3) rfl (fun _ => by kernel_rfl) (fun _ _ _ h => h) o376_ ?_
            refine TA.all [9] (by kernel_rfl) rfl ⟨?_, trivial⟩
            let v264_ : List Value := [vi n7.kind, .slice A33 ((n7.elems ++ n8.elems).length) c34, .slice A22 n7.kids.length c23, .slice A55 (((n7.seps ++ [e10]) ++ n8.seps).length) c56, .slice A24 n7.tids.length c25]
            refine TA.br rfl (W1.st 4 v264_ ((box b28 43 v261_) :: i76_ :: i77_ :: i78_ :: (box b17 97 v264_) :: i75_ :: i79_ :: (row 3 eInt A22 c23 n7.kids) :: (row 43 eSpot A55 c56 ((n7.seps ++ [e10]) ++ n8.seps)) :: t51_) [.slice A55 (((n7.seps ++ [e10]) ++ n8.seps).length) c56] (by rfl) rfl rfl rfl rfl rfl rfl (fun _ => by kernel_rfl) ?_)
            refine TA.on (Hp.old vr w350_ (dr1 (kp3 (dr1 (kp3 (dr2 (kp9 (dr1 kp0))))))) (oB4 (oR2 (oB3 (oR4 (oB1 (oR1 ol0))))))) ?_
            refine TA.done (by kernel_rfl) ?_
            exact fun a w' hf hh => ⟨A55, c56, (Fr.sel hf rfl), (hh.sub (dr1 (kp1 (dr1 (kp16 (kp1 kpr))))))⟩
           rintro a w' ⟨A37, c38, hf, hh⟩
           refine (?_ : T 38 w V7 (i76_ :: i78_ :: (box b17 97 [vi n7.kind, .slice A33 ((n7.elems ++ n8.elems).length) c34, .slice A22 n7.kids.length c23, .slice A37 (((n7.seps ++ [e10]) ++ n8.seps).length) c38, .slice A24 n7.tids.length c25]) :: i75_ :: i79_ :: (row 3 eInt A22 c23 n7.kids) :: (row 43 eSpot A37 c38 ((n7.seps ++ [e10]) ++ n8.seps)) :: t51_) [(3, pB b17 0), (4, pB b18 0), (6, pB b20 0)] _) a w' hf hh
           clear hf hh
           cases hX11
           exact fun a w' hf hh => ⟨A37, c38, (Fr.sel hf rfl), (hh.sub (kp17 (kp1 kpr)))⟩
          rw [hc10, cond_false] at hX11
          refine T.skip_code ?_
          cases hX11
          exact fun a w' hf hh => ⟨A23, c24, (Fr.sel hf rfl), (hh.sub (kp1 (dr1 (kp16 (kp1 kpr)))))⟩
         rintro a w' ⟨A34, c35, hf, hh⟩
         refine (?_ : T 38 w V7 (i76_ :: i78_ :: (box b17 97 [vi n7.kind, .slice A33 ((n7.elems ++ n8.elems).length) c34, .slice A22 n7.kids.length c23, .slice A34 z23.length c35, .slice A24 n7.tids.length c25]) :: i75_ :: i79_ :: (row 3 eInt A22 c23 n7.kids) :: (row 43 eSpot A34 c35 z23) :: t51_) [(3, pB b17 0), (4, pB b18 0), (6, pB b20 0)] _) a w' hf hh
         clear hf hh
         refine T.seq (T.region (T.pk (pB b17 2) (fun _ => by kernel_rfl) (T.look (.slice A22 n7.kids.length c23) (by kernel_rfl) (ld1 2 rfl rfl (fun _ => by kernel_rfl) (by rfl) rfl) ?_)))
         refine T.pk (pB b18 2) (fun _ => by kernel_rfl) (T.look (.slice A26 n8.kids.length c27) (by kernel_rfl) (ld1 1 rfl rfl (fun _ => by kernel_rfl) (by rfl) rfl) ?_)
         obtain ⟨y6, hb27, hX10⟩ := ob hX10
         obtain ⟨hb27_r, hb27_m, rfl⟩ := grow_some hb27
         obtain ⟨ti, hti, hz1, hz2, hz3⟩ := ipShrL_3
         refine T.step (W1.append (E := eInt) (l := n7.kids) (m := n8.kids) 5 _ _ 8 ti _ (by rfl) (by kernel_rfl) rfl (by kernel_rfl) hti hz1 hz2 hz3 rfl (by decide) rfl rfl (fun w' hh => (SlOk.srcF (hh.lent (i := 17) (by rfl) hb22 hx6).2.1 (fun _ _ _ _ h => h))) hb27_r hb27_m (fun A38 c39 => ?_))
         refine T.pk (pB b17 2) (fun _ => by kernel_rfl) ?_
         let i80_ : HObj := row 3 eInt A38 c39 (n7.kids ++ n8.kids)
         let v265_ : List Value := [vi n7.kind, .slice A33 ((n7.elems ++ n8.elems).length) c34, .slice A38 ((n7.kids ++ n8.kids).length) c39, .slice A34 z23.length c35, .slice A24 n7.tids.length c25]
         refine T.step (W1.st 2 v265_ (i76_ :: i78_ :: (box b17 97 v265_) :: i75_ :: i79_ :: i80_ :: (row 43 eSpot A34 c35 z23) :: t51_) [.slice A38 ((n7.kids ++ n8.kids).length) c39] (by rfl) rfl rfl rfl rfl rfl rfl (fun _ => by kernel_rfl) ?_)
         refine T.nil (T.seq (T.region (T.pk (pB b17 4) (fun _ => by kernel_rfl) (T.look (.slice A24 n7.tids.length c25) (by kernel_rfl) (ld1 2 rfl rfl (fun _ => by kernel_rfl) (by rfl) rfl) ?_))))
         refine T.pk (pB b18 4) (fun _ => by kernel_rfl) (T.look (.slice A28 n8.tids.length c29) (by kernel_rfl) (ld1 1 rfl rfl (fun _ => by kernel_rfl) (by rfl) rfl) ?_)
         obtain ⟨y7, hb28, hX10⟩ := ob hX10
         obtain ⟨hb28_r, hb28_m, rfl⟩ := grow_some hb28
         obtain ⟨ti, hti, hz1, hz2, hz3⟩ := ipShrL_3
         refine T.step (W1.append (E := eInt) (l := n7.tids) (m := n8.tids) 7 _ _ 8 ti _ (by rfl) (by kernel_rfl) rfl (by kernel_rfl) hti hz1 hz2 hz3 rfl (by decide) rfl rfl (fun w' hh => (SlOk.srcF (hh.lent (i := 17) (by rfl) hb22 hx6).2.2.2 (fun _ _ _ _ h => h))) hb28_r hb28_m (fun A39 c40 => ?_))
         refine T.pk (pB b17 4) (fun _ => by kernel_rfl) ?_
         let v266_ : List Value := [vi n7.kind, .slice A33 ((n7.elems ++ n8.elems).length) c34, .slice A38 ((n7.kids ++ n8.kids).length) c39, .slice A34 z23.length c35, .slice A39 ((n7.tids ++ n8.tids).length) c40]
         let i81_ : HObj := box b17 97 v266_
         let i82_ : HObj := row 3 eInt A39 c40 (n7.tids ++ n8.tids)
         refine T.step (W1.st 2 v266_ (i76_ :: i78_ :: i81_ :: i75_ :: i79_ :: i80_ :: (row 43 eSpot A34 c35 z23) :: i82_ :: t50_) [.slice A39 ((n7.tids ++ n8.tids).length) c40] (by rfl) rfl rfl rfl rfl rfl rfl (fun _ => by kernel_rfl) ?_)
         refine T.nil (T.seq (T.region (T.look (.agg #[vi n7.kind, .slice A33 ((n7.elems ++ n8.elems).length) c34, .slice A38 ((n7.kids ++ n8.kids).length) c39, .slice A34 z23.length c35, .slice A39 ((n7.tids ++ n8.tids).length) c40]) (by kernel_rfl) (ldN 2 rfl rfl (fun _ => by kernel_rfl) (by rfl) rfl) ?_)))
         refine T.step (W1.st 0 v266_ ((box b20 97 v266_) :: i78_ :: i81_ :: i75_ :: i79_ :: i80_ :: (row 43 eSpot A34 c35 z23) :: i82_ :: t50_) v266_ (by rfl) rfl rfl rfl rfl rfl rfl (fun _ => by kernel_rfl) ?_)
         refine T.nil ?_
         cases hX10
         refine T.ret rfl ?_
         exact T.ret1 rfl (ResIs.cellN 0 rfl (by rfl) (fun _ => by kernel_rfl) (fun _ => by kernel_rfl)) fun w' hh => ⟨_, rfl, ⟨A33, c34, A38, c39, A34, c35, A39, c40, rfl, (hh.sub (dr3 (kp14 (kp1 kpr))))⟩⟩
        rintro v w' ⟨A29, c30, A30, c31, A31, c32, A32, c33, rfl, hh⟩
        let i83_ : HObj := row 28 eElem A29 c30 (n7.elems ++ n8.elems)
        let i84_ : HObj := row 3 eInt A30 c31 (n7.kids ++ n8.kids)
        let i85_ : HObj := row 3 eInt A32 c33 (n7.tids ++ n8.tids)
        refine ⟨V7, (i75_ :: i83_ :: i84_ :: (row 43 eSpot A31 c32 z22) :: i85_ :: t50_), hh, ?_⟩
        clear hh
        refine TA.on (Hp.old vr w350_ (dr5 (kp5 (dr2 (kp2 (dr1 kp0))))) (oB3 (oR2 (oB1 (oR1 ol0))))) ?_
        refine TA.all [25] (by kernel_rfl) rfl ⟨?_, trivial⟩
        let v267_ : List Value := [vi n7.kind, .slice A29 ((n7.elems ++ n8.elems).length) c30, .slice A30 ((n7.kids ++ n8.kids).length) c31, .slice A31 z22.length c32, .slice A32 ((n7.tids ++ n8.tids).length) c33]
        refine TA.br rfl (W1.st 0 v267_ ((box b22 97 v267_) :: i83_ :: i84_ :: (row 43 eSpot A31 c32 z22) :: i85_ :: t50_) v267_ (by rfl) rfl rfl rfl rfl rfl rfl (fun _ => by kernel_rfl) ?_)
        refine TA.on (Hp.old vr w350_ (dr5 (kp5 (dr2 (kp2 (dr1 kp0))))) (oB3 (oR2 (oB1 (oR1 ol0))))) ?_
        refine TA.done (by kernel_rfl) ?_
        exact fun a w' hf hh => ⟨b22, A29, c30, A30, c31, A31, c32, A32, c33, (Fr.sel hf rfl), (hh.sub (kp14 (kp1 kpr)))⟩
       refine TA.br rfl (W1.np 97 v239_ (fun _ => by kernel_rfl) (fun b22 => ?_))
       refine TA.on (Hp.old vr w350_ (dr5 (kp5 (dr2 (kp2 (dr1 kp0))))) (oB3 (oR2 (oB1 (oR1 ol0))))) ?_
       refine TA.all [21] (by kernel_rfl) rfl ⟨?_, trivial⟩
       obtain ⟨hi35, hi36, hi37⟩ := idx_some hb23
       refine TA.br rfl (W1.look (.pointer (some ((sadr A5).add (z21.toNat * 4)))) (by kernel_rfl) (ixR 10 (e := 43) (s := 4) rfl rfl rfl (fun _ => by kernel_rfl) hi35 hi36 (by rfl) hi37 (by decide)) ?_)
       refine TA.on (Hp.old vr w350_ (dr5 (kp5 (dr2 (kp2 (dr1 kp0))))) (oB3 (oR2 (oB1 (oR1 ol0))))) ?_
       refine TA.all [22] (by kernel_rfl) rfl ⟨?_, trivial⟩
       let v268_ : List Value := [vi e10.key.pfs, vi e10.key.obj, vi e10.key.off, vi e10.made]
       let a327_ : Value := .agg #[vi e10.key.pfs, vi e10.key.obj, vi e10.key.off, vi e10.made]
       refine TA.br rfl (W1.look a327_ (by kernel_rfl) (fun w' hh => exec_loadN (cs := v268_) rfl rfl (by kernel_rfl) (by kernel_rfl) (fun j u hj => (SlOk.wcellF (E := eSpot) (hh.row_slOk (i := 10) (by rfl)) hi37 j (fun _ _ _ h => h) hj))) ?_)
       refine TA.on (Hp.old vr w350_ (dr5 (kp5 (dr2 (kp2 (dr1 kp0))))) (oB3 (oR2 (oB1 (oR1 ol0))))) ?_
       refine TA.all [23] (by kernel_rfl) rfl ⟨?_, trivial⟩
       let i86_ : HObj := box b22 97 v239_
       refine TA.br rfl (W1.within 101 [a323_, a324_, a327_] (fun v w' => ∃ (A29 : Option Addr) (c30 : Nat) (A30 : Option Addr) (c31 : Nat) (A31 : Option Addr) (c32 : Nat) (A32 : Option Addr) (c33 : Nat), v = .agg #[vi n7.kind, .slice A29 ((n7.elems ++ n8.elems).length) c30, .slice A30 ((n7.kids ++ n8.kids).length) c31, .slice A31 z22.length c32, .slice A32 ((n7.tids ++ n8.tids).length) c33] ∧ Hp w V7 (i86_ :: (row 28 eElem A29 c30 (n7.elems ++ n8.elems)) :: (row 3 eInt A30 c31 (n7.kids ++ n8.kids)) :: (row 43 eSpot A31 c32 z22) :: (row 3 eInt A32 c33 (n7.tids ++ n8.tids)) :: t50_) w') Try.func101 rfl rfl (by kernel_rfl) (fun _ => by kernel_rfl) rfl ?_ ?_)
       ·
        refine T.seq (T.region (T.step (W1.np 97 v246_ (fun _ => by kernel_rfl) (fun b17 => ?_))))
        refine T.step (W1.np 97 v247_ (fun _ => by kernel_rfl) (fun b18 => ?_))
        refine T.step (W1.np 43 v268_ (fun _ => by kernel_rfl) (fun b19 => ?_))
        refine T.step (W1.np 97 v239_ (fun _ => by kernel_rfl) (fun b20 => ?_))
        refine T.nil (T.seq (T.region (T.pk (pB b17 1) (fun _ => by kernel_rfl) (T.look (.slice A21 n7.elems.length c22) (by kernel_rfl) (ld1 3 rfl rfl (fun _ => by kernel_rfl) (by rfl) rfl) ?_))))
        refine T.pk (pB b18 1) (fun _ => by kernel_rfl) (T.look (.slice A25 n8.elems.length c26) (by kernel_rfl) (ld1 2 rfl rfl (fun _ => by kernel_rfl) (by rfl) rfl) ?_)
        obtain ⟨y3, hb24, hX10⟩ := ob hX10
        obtain ⟨hb24_r, hb24_m, rfl⟩ := grow_some hb24
        obtain ⟨ti, hti, hz1, hz2, hz3⟩ := ipShrL_1
        refine T.step (W1.append (E := eElem) (l := n7.elems) (m := n8.elems) 5 _ _ 56 ti _ (by rfl) (by kernel_rfl) rfl (by kernel_rfl) hti hz1 hz2 hz3 rfl (by decide) rfl rfl (fun w' hh => (SlOk.srcF (hh.lent (i := 18) (by rfl) hb22 hx6).1 (fun _ _ _ _ h => h))) hb24_r hb24_m (fun A33 c34 => ?_))
        refine T.pk (pB b17 1) (fun _ => by kernel_rfl) ?_
        let i87_ : HObj := box b20 97 v239_
        let i88_ : HObj := box b19 43 v268_
        let i89_ : HObj := box b18 97 v247_
        let i90_ : HObj := row 28 eElem A33 c34 (n7.elems ++ n8.elems)
        let v269_ : List Value := [vi n7.kind, .slice A33 ((n7.elems ++ n8.elems).length) c34, .slice A22 n7.kids.length c23, .slice A23 n7.seps.length c24, .slice A24 n7.tids.length c25]
        refine T.step (W1.st 3 v269_ (i87_ :: i88_ :: i89_ :: (box b17 97 v269_) :: i86_ :: i90_ :: t53_) [.slice A33 ((n7.elems ++ n8.elems).length) c34] (by rfl) rfl rfl rfl rfl rfl rfl (fun _ => by kernel_rfl) ?_)
        refine T.nil ?_
        obtain ⟨z23, hX11, hX10⟩ := ob hX10
        refine T.cut (fun a w' => ∃ (A34 : Option Addr) (c35 : Nat), Fr 38 [(3, pB b17 0), (4, pB b18 0), (6, pB b20 0)] a ∧ Hp w V7 (i87_ :: i89_ :: (box b17 97 [vi n7.kind, .slice A33 ((n7.elems ++ n8.elems).length) c34, .slice A22 n7.kids.length c23, .slice A34 z23.length c35, .slice A24 n7.tids.length c25]) :: i86_ :: i90_ :: (row 3 eInt A22 c23 n7.kids) :: (row 43 eSpot A34 c35 z23) :: t51_) w') ?_ ?_
        ·
         refine T.seq (T.region (T.pk (pB b17 0) (fun _ => by kernel_rfl) (T.look (vi n7.kind) (by kernel_rfl) (ld1 3 rfl rfl (fun _ => by kernel_rfl) (by rfl) rfl) ?_)))
         refine T.pk (.bool (n7.kind == 2)) (fun _ => by kernel_rfl) (T.nil ?_)
         refine T.cond (n7.kind == 2) (by kernel_rfl) (by kernel_rfl) (fun hc10 => ?_) (fun hc10 => ?_)
         ·
          rw [hc10, cond_true] at hX11
          obtain ⟨y20, hb41, hX11⟩ := ob hX11
          obtain ⟨y21, hb42, hX11⟩ := ob hX11
          refine T.mid (fun a w' => ∃ (A37 : Option Addr) (c38 : Nat), Fr 38 [(3, pB b17 0), (4, pB b18 0), (6, pB b20 0)] a ∧ Hp w V7 (i87_ :: i89_ :: (box b17 97 [vi n7.kind, .slice A33 ((n7.elems ++ n8.elems).length) c34, .slice A22 n7.kids.length c23, .slice A37 (((n7.seps ++ [e10]) ++ n8.seps).length) c38, .slice A24 n7.tids.length c25]) :: i86_ :: i90_ :: (row 3 eInt A22 c23 n7.kids) :: (row 43 eSpot A37 c38 ((n7.seps ++ [e10]) ++ n8.seps)) :: t51_) w') ?_ ?_
          ·
           refine T.held (i87_ :: i88_ :: i89_ :: i86_ :: i90_ :: (row 3 eInt A22 c23 n7.kids) :: i39_ :: i40_ :: i37_ :: (row 28 eElem A3 c3 n1.elems) :: (row 3 eInt A4 c4 n1.kids) :: (row 43 eSpot A5 c5 n1.seps) :: i38_ :: t35_) (by kernel_rfl) ?_
           refine TA.keep (Hp.old vr w350_ (kp3 (dr1 (kp3 (dr2 (kp9 (dr1 kp0)))))) (oB4 (oR2 (oB3 (oR4 (oB1 (oR1 ol0))))))) fun o377_ => ?_
           refine TA.tp 0 (pB b17 3) rfl (fun _ => by kernel_rfl) (fun _ _ _ h => h) o377_ ?_
           refine TA.tk 2 a327_ rfl (by kernel_rfl) (fun _ _ _ h => h) o377_ (ldN 1 rfl rfl (fun _ => by kernel_rfl) (by rfl) rfl) ?_
           refine TA.tp 5 (pB b18 3) rfl (fun _ => by kernel_rfl) (fun _ _ _ h => h) o377_ ?_
           refine TA.tk 6 (.slice A27 n8.seps.length c28) rfl (by kernel_rfl) (fun _ _ _ h => h) o377_ (ld1 2 rfl rfl (fun _ => by kernel_rfl) (by rfl) rfl) ?_
           refine TA.all [1, 3] (by kernel_rfl) rfl ⟨?_, ?_, trivial⟩
           ·
            refine TA.br rfl (W1.look (.slice A23 n7.seps.length c24) (by kernel_rfl) (ld1 3 rfl rfl (fun _ => by kernel_rfl) (by rfl) rfl) ?_)
            refine TA.on (Hp.old vr w350_ (kp3 (dr1 (kp3 (dr2 (kp9 (dr1 kp0)))))) (oB4 (oR2 (oB3 (oR4 (oB1 (oR1 ol0))))))) ?_
            refine TA.all [3] (by kernel_rfl) rfl ⟨?_, trivial⟩
            refine TA.br rfl (W1.ns 43 v268_ (fun _ => by kernel_rfl) (fun b29 => ?_))
            refine TA.on (Hp.old vr w350_ (dr1 (kp3 (dr1 (kp3 (dr2 (kp9 (dr1 kp0))))))) (oB4 (oR2 (oB3 (oR4 (oB1 (oR1 ol0))))))) ?_
            refine TA.all [4] (by kernel_rfl) rfl ⟨?_, trivial⟩
            obtain ⟨hb41_r, hb41_m, rfl⟩ := grow_some hb41
            obtain ⟨ti, hti, hz1, hz2, hz3⟩ := ipShrL_2
            refine TA.br rfl (W1.append (E := eSpot) (l := n7.seps) (m := [e10]) 8 _ _ 32 ti _ (by rfl) (by kernel_rfl) rfl (by kernel_rfl) hti hz1 hz2 hz3 rfl (by decide) rfl rfl (fun w' hh => (SlOk.srcF (slok_lit (E := eSpot) (f := DSpot.cells) [e10] (fun _ _ => rfl) (Nat.le_of_ble_eq_true (by rfl)) (fun j => hh.cellBox (i := 0) (by rfl) j)) (fun _ _ _ _ h => h))) hb41_r hb41_m (fun A56 c57 => ?_))
            refine TA.on (Hp.old vr w350_ (dr1 (kp3 (dr1 (kp3 (dr2 (kp9 (dr1 kp0))))))) (oB4 (oR2 (oB3 (oR4 (oB1 (oR1 ol0))))))) ?_
            refine TA.all [7] (by kernel_rfl) rfl ⟨?_, trivial⟩
            obtain ⟨hb42_r, hb42_m, rfl⟩ := grow_some hb42
            obtain ⟨ti, hti, hz1, hz2, hz3⟩ := ipShrL_2
            refine TA.br rfl (W1.append (E := eSpot) (l := (n7.seps ++ [e10])) (m := n8.seps) 8 _ _ 32 ti _ (by rfl) (by kernel_rfl) rfl (by kernel_rfl) hti hz1 hz2 hz3 rfl (by decide) rfl rfl (fun w' hh => (SlOk.srcF (hh.lent (i := 19) (by rfl) hb22 hx6).2.2.1 (fun _ _ _ _ h => h))) hb42_r hb42_m (fun A57 c58 => ?_))
            refine TA.onk (Hp.old vr w350_ (dr1 (kp3 (dr1 (kp3 (dr2 (kp9 (dr1 kp0))))))) (oB4 (oR2 (oB3 (oR4 (oB1 (oR1 ol0))))))) fun o378_ => ?_
            refine TA.tp 8 (pB b17 3) rfl (fun _ => by kernel_rfl) (fun _ _ _ h => h) o378_ ?_
            refine TA.all [9] (by kernel_rfl) rfl ⟨?_, trivial⟩
            let v270_ : List Value := [vi n7.kind, .slice A33 ((n7.elems ++ n8.elems).length) c34, .slice A22 n7.kids.length c23, .slice A57 (((n7.seps ++ [e10]) ++ n8.seps).length) c58, .slice A24 n7.tids.length c25]
            refine TA.br rfl (W1.st 4 v270_ ((box b29 43 v268_) :: i87_ :: i88_ :: i89_ :: (box b17 97 v270_) :: i86_ :: i90_ :: (row 3 eInt A22 c23 n7.kids) :: (row 43 eSpot A57 c58 ((n7.seps ++ [e10]) ++ n8.seps)) :: t51_) [.slice A57 (((n7.seps ++ [e10]) ++ n8.seps).length) c58] (by rfl) rfl rfl rfl rfl rfl rfl (fun _ => by kernel_rfl) ?_)
            refine TA.on (Hp.old vr w350_ (dr1 (kp3 (dr1 (kp3 (dr2 (kp9 (dr1 kp0))))))) (oB4 (oR2 (oB3 (oR4 (oB1 (oR1 ol0))))))) ?_
            refine TA.done (by kernel_rfl) ?_
            exact fun a w' hf hh => ⟨A57, c58, (Fr.sel hf rfl), (hh.sub (dr1 (kp1 (dr1 (kp16 (kp1 kpr))))))⟩
           refine TA.br rfl (W1.ns 43 v268_ (fun _ => by kernel_rfl) (fun b29 => ?_))
           refine TA.on (Hp.old vr w350_ (dr1 (kp3 (dr1 (kp3 (dr2 (kp9 (dr1 kp0))))))) (oB4 (oR2 (oB3 (oR4 (oB1 (oR1 ol0))))))) ?_
           refine TA.all [1] (by kernel_rfl) rfl ⟨?_, trivial⟩
           refine TA.br rfl (W1.look (.slice A23 n7.seps.length c24) (by kernel_rfl) (ld1 4 rfl rfl (fun _ => by kernel_rfl) (by rfl) rfl) ?_)
           refine TA.on (Hp.old vr w350_ (dr1 (kp3 (dr1 (kp3 (dr2 (kp9 (dr1 kp0))))))) (oB4 (oR2 (oB3 (oR4 (oB1 (oR1 ol0))))))) ?_
           refine TA.all [4] (by kernel_rfl) rfl ⟨?_, trivial⟩
           obtain ⟨hb41_r, hb41_m, rfl⟩ := grow_some hb41
           obtain ⟨ti, hti, hz1, hz2, hz3⟩ := ipShrL_2
           refine TA.br rfl (W1.append (E := eSpot) (l := n7.seps) (m := [e10]) 8 _ _ 32 ti _ (by rfl) (by kernel_rfl) rfl (by kernel_rfl) hti hz1 hz2 hz3 rfl (by decide) rfl rfl (fun w' hh => (SlOk.srcF (slok_lit (E := eSpot) (f := DSpot.cells) [e10] (fun _ _ => rfl) (Nat.le_of_ble_eq_true (by rfl)) (fun j => hh.cellBox (i := 0) (by rfl) j)) (fun _ _ _ _ h => h))) hb41_r hb41_m (fun A56 c57 => ?_))
           refine TA.on (Hp.old vr w350_ (dr1 (kp3 (dr1 (kp3 (dr2 (kp9 (dr1 kp0))))))) (oB4 (oR2 (oB3 (oR4 (oB1 (oR1 ol0))))))) ?_
           refine TA.all [7] (by kernel_rfl) rfl ⟨?_, trivial⟩
           obtain ⟨hb42_r, hb42_m, rfl⟩ := grow_some hb42
           obtain ⟨ti, hti, hz1, hz2, hz3⟩ := ipShrL_2
           refine TA.br rfl (W1.append (E := eSpot) (l := (n7.seps ++ [e10])) (m := n8.seps) 8 _ _ 32 ti _ (by rfl) (by kernel_rfl) rfl (by kernel_rfl) hti hz1 hz2 hz3 rfl (by decide) rfl rfl (fun w' hh => (SlOk.srcF (hh.lent (i := 19) (by rfl) hb22 hx6).2.2.1 (fun _ _ _ _ h => h))) hb42_r hb42_m (fun A57 c58 => ?_))
           refine TA.onk (Hp.old vr w350_ (dr1 (kp3 (dr1 (kp3 (dr2 (kp9 (dr1 kp0))))))) (oB4 (oR2 (oB3 (oR4 (oB1 (oR1 ol0))))))) fun o379_ => ?_
           refine TA.tp 8 (pB b17 3) rfl (fun _ => by kernel_rfl) (fun _ _ _ h => h) o379_ ?_
           refine TA.all [9] (by kernel_rfl) rfl ⟨?_, trivial⟩
           let v271_ : List Value := [vi n7.kind, .slice A33 ((n7.elems ++ n8.elems).length) c34, .slice A22 n7.kids.length c23, .slice A57 (((n7.seps ++ [e10]) ++ n8.seps).length) c58, .slice A24 n7.tids.length c25]
           refine TA.br rfl (W1.st 4 v271_ ((box b29 43 v268_) :: i87_ :: i88_ :: i89_ :: (box b17 97 v271_) :: i86_ :: i90_ :: (row 3 eInt A22 c23 n7.kids) :: (row 43 eSpot A57 c58 ((n7.seps ++ [e10]) ++ n8.seps)) :: t51_) [.slice A57 (((n7.seps ++ [e10]) ++ n8.seps).length) c58] (by rfl) rfl rfl rfl rfl rfl rfl (fun _ => by kernel_rfl) ?_)
           refine TA.on (Hp.old vr w350_ (dr1 (kp3 (dr1 (kp3 (dr2 (kp9 (dr1 kp0))))))) (oB4 (oR2 (oB3 (oR4 (oB1 (oR1 ol0))))))) ?_
           refine TA.done (by kernel_rfl) ?_
           exact fun a w' hf hh => ⟨A57, c58, (Fr.sel hf rfl), (hh.sub (dr1 (kp1 (dr1 (kp16 (kp1 kpr))))))⟩
          rintro a w' ⟨A37, c38, hf, hh⟩
          refine (?_ : T 38 w V7 (i87_ :: i89_ :: (box b17 97 [vi n7.kind, .slice A33 ((n7.elems ++ n8.elems).length) c34, .slice A22 n7.kids.length c23, .slice A37 (((n7.seps ++ [e10]) ++ n8.seps).length) c38, .slice A24 n7.tids.length c25]) :: i86_ :: i90_ :: (row 3 eInt A22 c23 n7.kids) :: (row 43 eSpot A37 c38 ((n7.seps ++ [e10]) ++ n8.seps)) :: t51_) [(3, pB b17 0), (4, pB b18 0), (6, pB b20 0)] _) a w' hf hh
          clear hf hh
          cases hX11
          exact fun a w' hf hh => ⟨A37, c38, (Fr.sel hf rfl), (hh.sub (kp17 (kp1 kpr)))⟩
         rw [hc10, cond_false] at hX11
         refine T.skip_code ?_
         cases hX11
         exact fun a w' hf hh => ⟨A23, c24, (Fr.sel hf rfl), (hh.sub (kp1 (dr1 (kp16 (kp1 kpr)))))⟩
        rintro a w' ⟨A34, c35, hf, hh⟩
        refine (?_ : T 38 w V7 (i87_ :: i89_ :: (box b17 97 [vi n7.kind, .slice A33 ((n7.elems ++ n8.elems).length) c34, .slice A22 n7.kids.length c23, .slice A34 z23.length c35, .slice A24 n7.tids.length c25]) :: i86_ :: i90_ :: (row 3 eInt A22 c23 n7.kids) :: (row 43 eSpot A34 c35 z23) :: t51_) [(3, pB b17 0), (4, pB b18 0), (6, pB b20 0)] _) a w' hf hh
        clear hf hh
        refine T.seq (T.region (T.pk (pB b17 2) (fun _ => by kernel_rfl) (T.look (.slice A22 n7.kids.length c23) (by kernel_rfl) (ld1 2 rfl rfl (fun _ => by kernel_rfl) (by rfl) rfl) ?_)))
        refine T.pk (pB b18 2) (fun _ => by kernel_rfl) (T.look (.slice A26 n8.kids.length c27) (by kernel_rfl) (ld1 1 rfl rfl (fun _ => by kernel_rfl) (by rfl) rfl) ?_)
        obtain ⟨y6, hb27, hX10⟩ := ob hX10
        obtain ⟨hb27_r, hb27_m, rfl⟩ := grow_some hb27
        obtain ⟨ti, hti, hz1, hz2, hz3⟩ := ipShrL_3
        refine T.step (W1.append (E := eInt) (l := n7.kids) (m := n8.kids) 5 _ _ 8 ti _ (by rfl) (by kernel_rfl) rfl (by kernel_rfl) hti hz1 hz2 hz3 rfl (by decide) rfl rfl (fun w' hh => (SlOk.srcF (hh.lent (i := 17) (by rfl) hb22 hx6).2.1 (fun _ _ _ _ h => h))) hb27_r hb27_m (fun A38 c39 => ?_))
        refine T.pk (pB b17 2) (fun _ => by kernel_rfl) ?_
        let i91_ : HObj := row 3 eInt A38 c39 (n7.kids ++ n8.kids)
        let v272_ : List Value := [vi n7.kind, .slice A33 ((n7.elems ++ n8.elems).length) c34, .slice A38 ((n7.kids ++ n8.kids).length) c39, .slice A34 z23.length c35, .slice A24 n7.tids.length c25]
        refine T.step (W1.st 2 v272_ (i87_ :: i89_ :: (box b17 97 v272_) :: i86_ :: i90_ :: i91_ :: (row 43 eSpot A34 c35 z23) :: t51_) [.slice A38 ((n7.kids ++ n8.kids).length) c39] (by rfl) rfl rfl rfl rfl rfl rfl (fun _ => by kernel_rfl) ?_)
        refine T.nil (T.seq (T.region (T.pk (pB b17 4) (fun _ => by kernel_rfl) (T.look (.slice A24 n7.tids.length c25) (by kernel_rfl) (ld1 2 rfl rfl (fun _ => by kernel_rfl) (by rfl) rfl) ?_))))
        refine T.pk (pB b18 4) (fun _ => by kernel_rfl) (T.look (.slice A28 n8.tids.length c29) (by kernel_rfl) (ld1 1 rfl rfl (fun _ => by kernel_rfl) (by rfl) rfl) ?_)
        obtain ⟨y7, hb28, hX10⟩ := ob hX10
        obtain ⟨hb28_r, hb28_m, rfl⟩ := grow_some hb28
        obtain ⟨ti, hti, hz1, hz2, hz3⟩ := ipShrL_3
        refine T.step (W1.append (E := eInt) (l := n7.tids) (m := n8.tids) 7 _ _ 8 ti _ (by rfl) (by kernel_rfl) rfl (by kernel_rfl) hti hz1 hz2 hz3 rfl (by decide) rfl rfl (fun w' hh => (SlOk.srcF (hh.lent (i := 17) (by rfl) hb22 hx6).2.2.2 (fun _ _ _ _ h => h))) hb28_r hb28_m (fun A39 c40 => ?_))
        refine T.pk (pB b17 4) (fun _ => by kernel_rfl) ?_
        let v273_ : List Value := [vi n7.kind, .slice A33 ((n7.elems ++ n8.elems).length) c34, .slice A38 ((n7.kids ++ n8.kids).length) c39, .slice A34 z23.length c35, .slice A39 ((n7.tids ++ n8.tids).length) c40]
        let i92_ : HObj := box b17 97 v273_
        let i93_ : HObj := row 3 eInt A39 c40 (n7.tids ++ n8.tids)
        refine T.step (W1.st 2 v273_ (i87_ :: i89_ :: i92_ :: i86_ :: i90_ :: i91_ :: (row 43 eSpot A34 c35 z23) :: i93_ :: t50_) [.slice A39 ((n7.tids ++ n8.tids).length) c40] (by rfl) rfl rfl rfl rfl rfl rfl (fun _ => by kernel_rfl) ?_)
        refine T.nil (T.seq (T.region (T.look (.agg #[vi n7.kind, .slice A33 ((n7.elems ++ n8.elems).length) c34, .slice A38 ((n7.kids ++ n8.kids).length) c39, .slice A34 z23.length c35, .slice A39 ((n7.tids ++ n8.tids).length) c40]) (by kernel_rfl) (ldN 2 rfl rfl (fun _ => by kernel_rfl) (by rfl) rfl) ?_)))
        refine T.step (W1.st 0 v273_ ((box b20 97 v273_) :: i89_ :: i92_ :: i86_ :: i90_ :: i91_ :: (row 43 eSpot A34 c35 z23) :: i93_ :: t50_) v273_ (by rfl) rfl rfl rfl rfl rfl rfl (fun _ => by kernel_rfl) ?_)
        refine T.nil ?_
        cases hX10
        refine T.ret rfl ?_
        exact T.ret1 rfl (ResIs.cellN 0 rfl (by rfl) (fun _ => by kernel_rfl) (fun _ => by kernel_rfl)) fun w' hh => ⟨_, rfl, ⟨A33, c34, A38, c39, A34, c35, A39, c40, rfl, (hh.sub (dr3 (kp14 (kp1 kpr))))⟩⟩
       rintro v w' ⟨A29, c30, A30, c31, A31, c32, A32, c33, rfl, hh⟩
       let i94_ : HObj := row 28 eElem A29 c30 (n7.elems ++ n8.elems)
       let i95_ : HObj := row 3 eInt A30 c31 (n7.kids ++ n8.kids)
       let i96_ : HObj := row 3 eInt A32 c33 (n7.tids ++ n8.tids)
       refine ⟨V7, (i86_ :: i94_ :: i95_ :: (row 43 eSpot A31 c32 z22) :: i96_ :: t50_), hh, ?_⟩
       clear hh
       refine TA.on (Hp.old vr w350_ (dr5 (kp5 (dr2 (kp2 (dr1 kp0))))) (oB3 (oR2 (oB1 (oR1 ol0))))) ?_
       refine TA.all [25] (by kernel_rfl) rfl ⟨?_, trivial⟩
       let v274_ : List Value := [vi n7.kind, .slice A29 ((n7.elems ++ n8.elems).length) c30, .slice A30 ((n7.kids ++ n8.kids).length) c31, .slice A31 z22.length c32, .slice A32 ((n7.tids ++ n8.tids).length) c33]
       refine TA.br rfl (W1.st 0 v274_ ((box b22 97 v274_) :: i94_ :: i95_ :: (row 43 eSpot A31 c32 z22) :: i96_ :: t50_) v274_ (by rfl) rfl rfl rfl rfl rfl rfl (fun _ => by kernel_rfl) ?_)
       refine TA.on (Hp.old vr w350_ (dr5 (kp5 (dr2 (kp2 (dr1 kp0))))) (oB3 (oR2 (oB1 (oR1 ol0))))) ?_
       refine TA.done (by kernel_rfl) ?_
       exact fun a w' hf hh => ⟨b22, A29, c30, A30, c31, A31, c32, A32, c33, (Fr.sel hf rfl), (hh.sub (kp14 (kp1 kpr)))⟩
      rintro a w' ⟨b22, A46, c47, A47, c48, A48, c49, A49, c50, hf, hh⟩
      let v275_ : List Value := [vi n7.kind, .slice A46 ((n7.elems ++ n8.elems).length) c47, .slice A47 ((n7.kids ++ n8.kids).length) c48, .slice A48 z22.length c49, .slice A49 ((n7.tids ++ n8.tids).length) c50]
      let i97_ : HObj := box b22 97 v275_
      let i98_ : HObj := row 28 eElem A46 c47 (n7.elems ++ n8.elems)
      let i99_ : HObj := row 3 eInt A47 c48 (n7.kids ++ n8.kids)
      let i100_ : HObj := row 3 eInt A49 c50 (n7.tids ++ n8.tids)
      let t101_ : List HObj := i100_ :: t50_
      let t102_ : List HObj := (row 43 eSpot A48 c49 z22) :: t101_
      let t103_ : List HObj := i99_ :: t102_
      let t104_ : List HObj := i98_ :: t103_
      let t105_ : List HObj := i97_ :: t104_
      refine (?_ : T 156 w V7 t105_ [(0, pB b8 0), (2, vi z21), (4, pB b15 0), (6, pB b16 0), (7, vi e8), (8, vi e9), (9, pB b22 0)] _) a w' hf hh
      clear hf hh
      obtain ⟨q8, hX12, hX8⟩ := ob hX8
      refine T.cut (fun a w' => ∃ (z24 : List Int) (z25 : List DSpot) (z26 : List Int) (z27 : List (Int ⊕ DNode)), q8 = (z24, z25, z26, z27) ∧ ∃ (A58 : Option Addr) (c59 : Nat) (A59 : Option Addr) (c60 : Nat) (A60 : Option Addr) (c61 : Nat) (A61 : Option Addr) (n9 : Nat) (c62 : Nat) (A62 : Option Addr) (n10 : Nat) (c63 : Nat) (hs7 : List DHdr) (V10 : View), View.le V7 V10 ∧ Fr 156 [(0, pB b8 0), (2, vi z21), (4, pB b15 0), (6, pB b16 0), (7, vi e8)] a ∧ Hp w V10 (i39_ :: (box b15 97 [vi n1.kind, .slice A3 n1.elems.length c3, .slice A58 z24.length c59, .slice A59 z25.length c60, .slice A60 z26.length c61]) :: (box b10 97 [vi n1.kind, .slice A3 n1.elems.length c3, .slice A4 n1.kids.length c4, .slice A61 n9 c62, .slice A62 n10 c63]) :: (row 28 eElem A3 c3 n1.elems) :: (row 3 eInt A58 c59 z24) :: (row 43 eSpot A59 c60 z25) :: (row 3 eInt A60 c61 z26) :: (box b8 137 [vi r2.root, .slice A2 hs7.length c2]) :: (row 97 eHdr A2 c2 hs7) :: (treeo (TreeTy.mk 28 3 43) hs7 z27) :: G1) w') ?_ ?_
      ·
       refine T.seq ?_
       refine T.tree 14 (by rfl) (fun ht7 => ?_)
       refine T.region (T.pk (pB b22 1) (fun _ => by kernel_rfl) (T.look (.slice A46 ((n7.elems ++ n8.elems).length) c47) (by kernel_rfl) (ld1 0 rfl rfl (fun _ => by kernel_rfl) (by rfl) rfl) ?_))
       refine T.p2 (vi ((n7.elems ++ n8.elems).length : Int)) (pB b22 2) (fun _ => by kernel_rfl) (T.look (.slice A47 ((n7.kids ++ n8.kids).length) c48) (by kernel_rfl) (ld1 0 rfl rfl (fun _ => by kernel_rfl) (by rfl) rfl) ?_)
       refine T.p3 (vi ((n7.kids ++ n8.kids).length : Int)) (vi (IntKind.i64.wrap (((n7.elems ++ n8.elems).length : Int) + ((n7.kids ++ n8.kids).length : Int)))) (.bool (decide ((8 : Int) < (IntKind.i64.wrap (((n7.elems ++ n8.elems).length : Int) + ((n7.kids ++ n8.kids).length : Int)))))) (fun _ => by kernel_rfl) (T.nil ?_)
       refine T.cond (decide ((8 : Int) < (IntKind.i64.wrap (((n7.elems ++ n8.elems).length : Int) + ((n7.kids ++ n8.kids).length : Int))))) (by kernel_rfl) (by kernel_rfl) (fun hc11 => ?_) (fun hc11 => ?_)
       ·
        rw [hc11, cond_true] at hX12
        refine T.seq (T.region ?_)
        let a328_ : Value := .agg #[vi n7.kind, .slice A46 ((n7.elems ++ n8.elems).length) c47, .slice A47 ((n7.kids ++ n8.kids).length) c48, .slice A48 z22.length c49, .slice A49 ((n7.tids ++ n8.tids).length) c50]
        refine T.look a328_ (by kernel_rfl) (ldN 0 rfl rfl (fun _ => by kernel_rfl) (by rfl) rfl) ?_
        obtain ⟨q9, hX13, hX12⟩ := ob hX12
        let t106_ : List HObj := i97_ :: t50_
        refine T.step (W1.within 99 [a328_] (fun v w' => ∃ (z28 : List Int) (z29 : List DSpot) (z30 : List Int) (z31 : List DElem) (z32 : List DElem) (z33 : List Int) (z34 : List DSpot) (z35 : List Int) (z36 : Int) (z37 : Int) (z38 : Int) (z39 : Int) (z40 : Int), q9 = (z28, z29, z30, z31, z32, z33, z34, z35, z36, z37, z38, z39, z40) ∧ ∃ (A63 : Option Addr) (c64 : Nat) (A64 : Option Addr) (c65 : Nat) (A65 : Option Addr) (c66 : Nat) (A66 : Option Addr) (c67 : Nat) (A67 : Option Addr) (c68 : Nat) (A68 : Option Addr) (c69 : Nat) (A69 : Option Addr) (c70 : Nat) (A70 : Option Addr) (c71 : Nat) (V11 : View), View.le V7 V11 ∧ v = .tuple #[.agg #[vi n7.kind, .slice A67 z32.length c68, .slice A68 z33.length c69, .slice A69 z34.length c70, .slice A70 z35.length c71], .agg #[vi z36, vi z37, vi z38, vi z39], .agg #[vi z40, .slice A66 z31.length c67, .slice A65 z30.length c66, .slice A64 z29.length c65, .slice A63 z28.length c64]] ∧ Hp w V11 ((row 3 eInt A63 c64 z28) :: (row 43 eSpot A64 c65 z29) :: (row 3 eInt A65 c66 z30) :: (row 28 eElem A66 c67 z31) :: (row 28 eElem A67 c68 z32) :: (row 3 eInt A68 c69 z33) :: (row 43 eSpot A69 c70 z34) :: (row 3 eInt A70 c71 z35) :: t106_) w') Try.func99 rfl rfl (by kernel_rfl) (fun _ => by kernel_rfl) rfl ?_ ?_)
        ·
         refine T.seq (T.region (T.step (W1.np 97 v275_ (fun _ => by kernel_rfl) (fun b30 => ?_))))
         refine T.step (W1.np 97 v239_ (fun _ => by kernel_rfl) (fun b31 => ?_))
         let v276_ : List Value := [vi 0, vi 0, vi 0, vi 0]
         refine T.step (W1.np 43 v276_ (fun _ => by kernel_rfl) (fun b32 => ?_))
         refine T.step (W1.np 97 v239_ (fun _ => by kernel_rfl) (fun b33 => ?_))
         refine T.nil (T.seq (T.seq (T.region (T.pk (pB b30 0) (fun _ => by kernel_rfl) (T.look (vi n7.kind) (by kernel_rfl) (ld1 3 rfl rfl (fun _ => by kernel_rfl) (by rfl) rfl) ?_)))))
         refine T.pk (.bool (n7.kind == 1)) (fun _ => by kernel_rfl) (T.nil ?_)
         refine T.cond (n7.kind == 1) (by kernel_rfl) (by kernel_rfl) (fun hc12 => ?_) (fun hc12 => ?_)
         ·
          rw [hc12, cond_true] at hX13
          refine T.seq (T.region (T.pk (pB b30 1) (fun _ => by kernel_rfl) (T.look (.slice A46 ((n7.elems ++ n8.elems).length) c47) (by kernel_rfl) (ld1 3 rfl rfl (fun _ => by kernel_rfl) (by rfl) rfl) ?_)))
          obtain ⟨s4, hb43, hX13⟩ := ob hX13
          refine T.look (.slice (cutA A46 c47 (4 : Int).toNat 6) s4.length (c47 - (4 : Int).toNat)) (by kernel_rfl) (fun w' hh => exec_slice_list (e := 28) (s := 6) (lx := (some _)) (hx := none) (k := .i64) (k' := .i64) rfl rfl (by kernel_rfl) (by kernel_rfl) ((hh.row_slOk (i := 5) (by rfl))).1 rfl rfl hb43) ?_
          obtain ⟨y22, hb44, hX13⟩ := ob hX13
          obtain ⟨hb44_r, hb44_m, _⟩ := grow_some hb44
          let i107_ : HObj := box b33 97 v239_
          let i108_ : HObj := box b32 43 v276_
          let i109_ : HObj := box b31 97 v239_
          let i110_ : HObj := box b30 97 v275_
          refine T.step (W1.cln 36 [.slice (cutA A46 c47 (4 : Int).toNat 6) s4.length (c47 - (4 : Int).toNat)] (fun _ => by kernel_rfl) (fun w' hh => own_clone_Elem w V7 (i107_ :: i108_ :: i109_ :: i110_ :: t105_) w' _ _ _ (fun w' hh => (SlOk.cut (hh.row_slOk (i := 5) (by rfl)) hb43)) (by simpa +zetaDelta using hb44_r) (by simpa +zetaDelta using hb44_m) hh) (fun A71 c72 => ?_))
          let a329_ : Value := .agg #[vi 1, .slice A71 s4.length c72, sN, sN, sN]
          refine T.pk a329_ (fun _ => by kernel_rfl) (T.step (W1.np 97 v239_ (fun _ => by kernel_rfl) (fun b34 => ?_)))
          let v277_ : List Value := [vi 1, .slice A71 s4.length c72, sN, sN, sN]
          let i111_ : HObj := box b34 97 v277_
          refine T.step (W1.st 0 v277_ (i111_ :: (row 28 eElem A71 c72 s4) :: i107_ :: i108_ :: i109_ :: i110_ :: t105_) v277_ (by rfl) rfl rfl rfl rfl rfl rfl (fun _ => by kernel_rfl) ?_)
          refine T.nil (T.seq (T.region (T.pk (pB b30 1) (fun _ => by kernel_rfl) (T.look (.slice A46 ((n7.elems ++ n8.elems).length) c47) (by kernel_rfl) (ld1 5 rfl rfl (fun _ => by kernel_rfl) (by rfl) rfl) ?_))))
          obtain ⟨s5, hb45, hX13⟩ := ob hX13
          refine T.look (.slice A46 s5.length c47) (by kernel_rfl) (sl0 7 (e := 28) (s := 6) rfl rfl (fun _ => by kernel_rfl) (by rfl) rfl hb45) ?_
          refine T.pk (pB b30 1) (fun _ => by kernel_rfl) ?_
          let v278_ : List Value := [vi n7.kind, .slice A46 s5.length c47, .slice A47 ((n7.kids ++ n8.kids).length) c48, .slice A48 z22.length c49, .slice A49 ((n7.tids ++ n8.tids).length) c50]
          let i112_ : HObj := box b30 97 v278_
          let t113_ : List HObj := i112_ :: t105_
          refine T.step (W1.st 5 v278_ (i111_ :: (row 28 eElem A71 c72 s4) :: i107_ :: i108_ :: i109_ :: t113_) [.slice A46 s5.length c47] (by rfl) rfl rfl rfl rfl rfl rfl (fun _ => by kernel_rfl) ?_)
          refine T.nil (T.seq ?_)
          refine T.held (i111_ :: (row 28 eElem A71 c72 s4) :: i112_ :: i97_ :: i98_ :: i99_ :: (row 43 eSpot A48 c49 z22) :: i100_ :: i39_ :: i40_ :: i37_ :: (row 28 eElem A3 c3 n1.elems) :: (row 3 eInt A4 c4 n1.kids) :: (row 43 eSpot A5 c5 n1.seps) :: i38_ :: t35_) (by kernel_rfl) ?_
          have w351_ := vt (vt (vt (vt hV1 hV3) hV5) hV6) hV7
          refine TA.keep (Hp.old vr w351_ (kp2 (dr3 (kp15 (dr1 kp0)))) (oB1 (oR1 (oB2 (oR4 (oB3 (oR4 (oB1 (oR1 ol0))))))))) fun o380_ => ?_
          refine TA.tk 0 (.agg #[vi n7.kind, .slice A46 s5.length c47, .slice A47 ((n7.kids ++ n8.kids).length) c48, .slice A48 z22.length c49, .slice A49 ((n7.tids ++ n8.tids).length) c50]) rfl (by kernel_rfl) (fun _ _ _ h => h) o380_ (ldN 2 rfl rfl (fun _ => by kernel_rfl) (by rfl) rfl) ?_
          refine TA.tp 1 (pB b34 1) rfl (fun _ => by kernel_rfl) (fun _ _ _ h => h) o380_ ?_
          refine TA.tk 2 (.slice A71 s4.length c72) rfl (by kernel_rfl) (fun _ _ _ h => h) o380_ (ld1 0 rfl rfl (fun _ => by kernel_rfl) (by rfl) rfl) ?_
          obtain ⟨e11, hb46, hX13⟩ := ob hX13
          obtain ⟨hi38, hi39, hi40⟩ := idx_some hb46
          refine TA.tk 3 (.pointer (some ((sadr A71).add (((0 : Int).toNat) * 6)))) rfl (by kernel_rfl) (fun _ _ _ h => h) o380_ (ixR 1 (e := 28) (s := 6) rfl rfl rfl (fun _ => by kernel_rfl) hi38 hi39 (by rfl) hi40 (by decide)) ?_
          let a330_ : Value := .agg #[vi e11.key.pfs, vi e11.key.obj, vi e11.key.off, vi e11.made, vi e11.gone, .string e11.val]
          refine TA.tk 4 a330_ rfl (by kernel_rfl) (fun _ _ _ h => h) o380_ (fun w' hh => exec_loadN (cs := [vi e11.key.pfs, vi e11.key.obj, vi e11.key.off, vi e11.made, vi e11.gone, .string e11.val]) rfl rfl (by kernel_rfl) (by kernel_rfl) (fun j u hj => (SlOk.wcellF (E := eElem) (hh.row_slOk (i := 1) (by rfl)) hi40 j (fun _ _ _ h => h) hj))) ?_
          refine TA.tk 6 a329_ rfl (by kernel_rfl) (fun _ _ _ h => h) o380_ (ldN 0 rfl rfl (fun _ => by kernel_rfl) (by rfl) rfl) ?_
          refine TA.all [5] (by kernel_rfl) rfl ⟨?_, trivial⟩
          obtain ⟨r17, hb47, hX13⟩ := ob hX13
          refine TA.br rfl (W1.call (vAg eSpot) r17 22 #[a330_] (by kernel_rfl) (fun _ => by kernel_rfl) (fun w' hh => elem_Spot_l e11 r17 hb47 w' ) ?_)
          intro u V12 hV12 hu
          obtain rfl := sureSpot _ _ _ hu
          refine TA.on (Hp.old hV12 w351_ (kp2 (dr3 (kp15 (dr1 kp0)))) (oB1 (oR1 (oB2 (oR4 (oB3 (oR4 (oB1 (oR1 ol0))))))))) ?_
          refine TA.all [7] (by kernel_rfl) rfl ⟨?_, trivial⟩
          let i114_ : HObj := box b31 97 v278_
          let t115_ : List HObj := i114_ :: t113_
          refine TA.br rfl (W1.st 4 v278_ (i111_ :: (row 28 eElem A71 c72 s4) :: i107_ :: i108_ :: t115_) v278_ (by rfl) rfl rfl rfl rfl rfl rfl (fun _ => by kernel_rfl) ?_)
          refine TA.on (Hp.old hV12 w351_ (kp2 (dr3 (kp15 (dr1 kp0)))) (oB1 (oR1 (oB2 (oR4 (oB3 (oR4 (oB1 (oR1 ol0))))))))) ?_
          refine TA.all [8] (by kernel_rfl) rfl ⟨?_, trivial⟩
          let v279_ : List Value := [vi r17.key.pfs, vi r17.key.obj, vi r17.key.off, vi r17.made]
          let i116_ : HObj := box b32 43 v279_
          refine TA.br rfl (W1.st 3 v279_ (i111_ :: (row 28 eElem A71 c72 s4) :: i107_ :: i116_ :: t115_) v279_ (by rfl) rfl rfl rfl rfl rfl rfl (fun _ => by kernel_rfl) ?_)
          refine TA.on (Hp.old hV12 w351_ (kp2 (dr3 (kp15 (dr1 kp0)))) (oB1 (oR1 (oB2 (oR4 (oB3 (oR4 (oB1 (oR1 ol0))))))))) ?_
          refine TA.all [9] (by kernel_rfl) rfl ⟨?_, trivial⟩
          refine TA.br rfl (W1.st 2 v277_ (i111_ :: (row 28 eElem A71 c72 s4) :: (box b33 97 v277_) :: i116_ :: t115_) v277_ (by rfl) rfl rfl rfl rfl rfl rfl (fun _ => by kernel_rfl) ?_)
          refine TA.on (Hp.old hV12 w351_ (kp2 (dr3 (kp15 (dr1 kp0)))) (oB1 (oR1 (oB2 (oR4 (oB3 (oR4 (oB1 (oR1 ol0))))))))) ?_
          refine TA.done (by kernel_rfl) ?_
          refine T.shrink (l := s5) 7 (by rfl) (lslice_prefix hb45) ?_
          refine T.rownil 3 eInt ?_
          refine T.rownil 43 eSpot ?_
          refine T.rownil 3 eInt ?_
          cases hX13
          refine T.ret rfl ?_
          repeat first | refine T.unthen ?_ | refine T.unblock ?_
          exact T.ret3 rfl (ResIs.cellN 7 rfl (by rfl) (fun _ => by kernel_rfl) (fun _ => by kernel_rfl)) (ResIs.cellN 6 rfl (by rfl) (fun _ => by kernel_rfl) (fun _ => by kernel_rfl)) (ResIs.cellN 5 rfl (by rfl) (fun _ => by kernel_rfl) (fun _ => by kernel_rfl)) fun w' hh => ⟨_, rfl, ⟨[], [], [], s4, s5, (n7.kids ++ n8.kids), z22, (n7.tids ++ n8.tids), r17.key.pfs, r17.key.obj, r17.key.off, r17.made, 1, rfl, none, 0, none, 0, none, 0, A71, c72, A46, c47, A47, c48, A48, c49, A49, c50, V12, hV12, rfl, ((hh.sub (kp3 (dr1 (kp1 (dr4 (kp14 (kp1 kpr))))))).perm (pc4 (pt sw0 (pc1 (pt sw0 (pc1 (pt sw0 (pc1 (pt sw0 pz)))))))))⟩⟩
         rw [hc12, cond_false] at hX13
         refine T.skip_code ?_
         refine T.seq ?_
         obtain ⟨s6, hb48, hX13⟩ := ob hX13
         obtain ⟨s7, hb49, hX13⟩ := ob hX13
         obtain ⟨s8, hb50, hX13⟩ := ob hX13
         obtain ⟨y23, hb51, hX13⟩ := ob hX13
         obtain ⟨y24, hb52, hX13⟩ := ob hX13
         obtain ⟨y25, hb53, hX13⟩ := ob hX13
         let i117_ : HObj := box b33 97 v239_
         let i118_ : HObj := box b32 43 v276_
         let i119_ : HObj := box b31 97 v239_
         let i120_ : HObj := box b30 97 v275_
         let t121_ : List HObj := i120_ :: t105_
         let t122_ : List HObj := i119_ :: t121_
         let t123_ : List HObj := i118_ :: t122_
         let t124_ : List HObj := i117_ :: t123_
         refine T.mid (fun a w' => ∃ (b35 : Nat) (A75 : Option Addr) (c76 : Nat) (A76 : Option Addr) (c77 : Nat) (A77 : Option Addr) (c78 : Nat), Fr 59 [(1, pB b30 0), (2, pB b31 0), (3, pB b32 0), (4, pB b33 0), (6, pB b35 0)] a ∧ Hp w V7 ((box b35 97 [vi 2, sN, .slice A75 s6.length c76, .slice A76 s7.length c77, .slice A77 s8.length c78]) :: (row 3 eInt A77 c78 s8) :: (row 43 eSpot A76 c77 s7) :: (row 3 eInt A75 c76 s6) :: t124_) w') ?_ ?_
         ·
          refine T.held (i117_ :: i118_ :: i119_ :: i120_ :: i97_ :: i98_ :: i99_ :: (row 43 eSpot A48 c49 z22) :: i100_ :: i39_ :: i40_ :: i37_ :: (row 28 eElem A3 c3 n1.elems) :: (row 3 eInt A4 c4 n1.kids) :: (row 43 eSpot A5 c5 n1.seps) :: i38_ :: t35_) (by kernel_rfl) ?_
          have w352_ := vt (vt (vt (vt hV1 hV3) hV5) hV6) hV7
          refine TA.keep (Hp.old vr w352_ (kp18 (dr1 kp0)) (oB5 (oR4 (oB3 (oR4 (oB1 (oR1 ol0))))))) fun o381_ => ?_
          refine TA.tp 0 (pB b30 2) rfl (fun _ => by kernel_rfl) (fun _ _ _ h => h) o381_ ?_
          refine TA.tk 1 (.slice A47 ((n7.kids ++ n8.kids).length) c48) rfl (by kernel_rfl) (fun _ _ _ h => h) o381_ (ld1 3 rfl rfl (fun _ => by kernel_rfl) (by rfl) rfl) ?_
          refine TA.tk 2 (.slice (cutA A47 c48 (4 : Int).toNat 1) s6.length (c48 - (4 : Int).toNat)) rfl (by kernel_rfl) (fun _ _ _ h => h) o381_ (fun w' hh => exec_slice_list (e := 3) (s := 1) (lx := (some _)) (hx := none) (k := .i64) (k' := .i64) rfl rfl (by kernel_rfl) (by kernel_rfl) ((hh.row_slOk (i := 6) (by rfl))).1 rfl rfl hb48) ?_
          refine TA.tp 4 (pB b30 3) rfl (fun _ => by kernel_rfl) (fun _ _ _ h => h) o381_ ?_
          refine TA.tk 5 (.slice A48 z22.length c49) rfl (by kernel_rfl) (fun _ _ _ h => h) o381_ (ld1 3 rfl rfl (fun _ => by kernel_rfl) (by rfl) rfl) ?_
          refine TA.tk 6 (.slice (cutA A48 c49 (4 : Int).toNat 4) s7.length (c49 - (4 : Int).toNat)) rfl (by kernel_rfl) (fun _ _ _ h => h) o381_ (fun w' hh => exec_slice_list (e := 43) (s := 4) (lx := (some _)) (hx := none) (k := .i64) (k' := .i64) rfl rfl (by kernel_rfl) (by kernel_rfl) ((hh.row_slOk (i := 7) (by rfl))).1 rfl rfl hb49) ?_
          refine TA.tp 8 (pB b30 4) rfl (fun _ => by kernel_rfl) (fun _ _ _ h => h) o381_ ?_
          refine TA.tk 9 (.slice A49 ((n7.tids ++ n8.tids).length) c50) rfl (by kernel_rfl) (fun _ _ _ h => h) o381_ (ld1 3 rfl rfl (fun _ => by kernel_rfl) (by rfl) rfl) ?_
          refine TA.tk 10 (.slice (cutA A49 c50 (4 : Int).toNat 1) s8.length (c50 - (4 : Int).toNat)) rfl (by kernel_rfl) (fun _ _ _ h => h) o381_ (fun w' hh => exec_slice_list (e := 3) (s := 1) (lx := (some _)) (hx := none) (k := .i64) (k' := .i64) rfl rfl (by kernel_rfl) (by kernel_rfl) ((hh.row_slOk (i := 8) (by rfl))).1 rfl rfl hb50) ?_
          refine TA.all [3, 13] (by kernel_rfl) rfl ⟨?_, ?_, trivial⟩
          ·
           obtain ⟨hb51_r, hb51_m, _⟩ := grow_some hb51
           refine TA.br rfl (W1.cln 110 [.slice (cutA A47 c48 (4 : Int).toNat 1) s6.length (c48 - (4 : Int).toNat)] (fun _ => by kernel_rfl) (fun w' hh => own_clone_int w V7 t124_ w' _ _ _ (fun w' hh => (SlOk.cut (hh.row_slOk (i := 6) (by rfl)) hb48)) (by simpa +zetaDelta using hb51_r) (by simpa +zetaDelta using hb51_m) hh) (fun A72 c73 => ?_))
           refine TA.on (Hp.old vr w352_ (dr1 (kp18 (dr1 kp0))) (oB5 (oR4 (oB3 (oR4 (oB1 (oR1 ol0))))))) ?_
           refine TA.all [7, 13] (by kernel_rfl) rfl ⟨?_, ?_, trivial⟩
           ·
            obtain ⟨hb52_r, hb52_m, _⟩ := grow_some hb52
            let t125_ : List HObj := (row 3 eInt A72 c73 s6) :: t124_
            refine TA.br rfl (W1.cln 111 [.slice (cutA A48 c49 (4 : Int).toNat 4) s7.length (c49 - (4 : Int).toNat)] (fun _ => by kernel_rfl) (fun w' hh => own_clone_Spot w V7 t125_ w' _ _ _ (fun w' hh => (SlOk.cut (hh.row_slOk (i := 8) (by rfl)) hb49)) (by simpa +zetaDelta using hb52_r) (by simpa +zetaDelta using hb52_m) hh) (fun A73 c74 => ?_))
            refine TA.on (Hp.old vr w352_ (dr2 (kp18 (dr1 kp0))) (oB5 (oR4 (oB3 (oR4 (oB1 (oR1 ol0))))))) ?_
            refine TA.all [11, 13] (by kernel_rfl) rfl ⟨?_, ?_, trivial⟩
            ·
             obtain ⟨hb53_r, hb53_m, _⟩ := grow_some hb53
             refine TA.br rfl (W1.cln 110 [.slice (cutA A49 c50 (4 : Int).toNat 1) s8.length (c50 - (4 : Int).toNat)] (fun _ => by kernel_rfl) (fun w' hh => own_clone_int w V7 ((row 43 eSpot A73 c74 s7) :: t125_) w' _ _ _ (fun w' hh => (SlOk.cut (hh.row_slOk (i := 10) (by rfl)) hb50)) (by simpa +zetaDelta using hb53_r) (by simpa +zetaDelta using hb53_m) hh) (fun A74 c75 => ?_))
             refine TA.onk (Hp.old vr w352_ (dr3 (kp18 (dr1 kp0))) (oB5 (oR4 (oB3 (oR4 (oB1 (oR1 ol0))))))) fun o382_ => ?_
             refine TA.tp 12 (.agg #[vi 2, sN, .slice A72 s6.length c73, .slice A73 s7.length c74, .slice A74 s8.length c75]) rfl (fun _ => by kernel_rfl) (fun _ _ _ h => h) o382_ ?_
             refine TA.all [13] (by kernel_rfl) rfl ⟨?_, trivial⟩
             refine TA.br rfl (W1.np 97 v239_ (fun _ => by kernel_rfl) (fun b35 => ?_))
             refine TA.on (Hp.old vr w352_ (dr4 (kp18 (dr1 kp0))) (oB5 (oR4 (oB3 (oR4 (oB1 (oR1 ol0))))))) ?_
             refine TA.all [14] (by kernel_rfl) rfl ⟨?_, trivial⟩
             let v280_ : List Value := [vi 2, sN, .slice A72 s6.length c73, .slice A73 s7.length c74, .slice A74 s8.length c75]
             refine TA.br rfl (W1.st 0 v280_ ((box b35 97 v280_) :: (row 3 eInt A74 c75 s8) :: (row 43 eSpot A73 c74 s7) :: t125_) v280_ (by rfl) rfl rfl rfl rfl rfl rfl (fun _ => by kernel_rfl) ?_)
             refine TA.on (Hp.old vr w352_ (dr4 (kp18 (dr1 kp0))) (oB5 (oR4 (oB3 (oR4 (oB1 (oR1 ol0))))))) ?_
             refine TA.done (by kernel_rfl) ?_
             exact fun a w' hf hh => ⟨b35, A72, c73, A73, c74, A74, c75, (Fr.sel hf rfl), (hh.sub (kp20 (kp2 (kp1 kpr))))⟩
            refine TA.br rfl (W1.np 97 v239_ (fun _ => by kernel_rfl) (fun b35 => ?_))
            refine TA.on (Hp.old vr w352_ (dr3 (kp18 (dr1 kp0))) (oB5 (oR4 (oB3 (oR4 (oB1 (oR1 ol0))))))) ?_
            refine TA.all [11] (by kernel_rfl) rfl ⟨?_, trivial⟩
            obtain ⟨hb53_r, hb53_m, _⟩ := grow_some hb53
            refine TA.br rfl (W1.cln 110 [.slice (cutA A49 c50 (4 : Int).toNat 1) s8.length (c50 - (4 : Int).toNat)] (fun _ => by kernel_rfl) (fun w' hh => own_clone_int w V7 ((box b35 97 v239_) :: (row 43 eSpot A73 c74 s7) :: t125_) w' _ _ _ (fun w' hh => (SlOk.cut (hh.row_slOk (i := 11) (by rfl)) hb50)) (by simpa +zetaDelta using hb53_r) (by simpa +zetaDelta using hb53_m) hh) (fun A74 c75 => ?_))
            refine TA.onk (Hp.old vr w352_ (dr4 (kp18 (dr1 kp0))) (oB5 (oR4 (oB3 (oR4 (oB1 (oR1 ol0))))))) fun o383_ => ?_
            refine TA.tp 12 (.agg #[vi 2, sN, .slice A72 s6.length c73, .slice A73 s7.length c74, .slice A74 s8.length c75]) rfl (fun _ => by kernel_rfl) (fun _ _ _ h => h) o383_ ?_
            refine TA.all [14] (by kernel_rfl) rfl ⟨?_, trivial⟩
            let v281_ : List Value := [vi 2, sN, .slice A72 s6.length c73, .slice A73 s7.length c74, .slice A74 s8.length c75]
            refine TA.br rfl (W1.st 1 v281_ ((row 3 eInt A74 c75 s8) :: (box b35 97 v281_) :: (row 43 eSpot A73 c74 s7) :: t125_) v281_ (by rfl) rfl rfl rfl rfl rfl rfl (fun _ => by kernel_rfl) ?_)
            refine TA.on (Hp.old vr w352_ (dr4 (kp18 (dr1 kp0))) (oB5 (oR4 (oB3 (oR4 (oB1 (oR1 ol0))))))) ?_
            refine TA.done (by kernel_rfl) ?_
            exact fun a w' hf hh => ⟨b35, A72, c73, A73, c74, A74, c75, (Fr.sel hf rfl), ((hh.sub (kp20 (kp2 (kp1 kpr)))).perm (pt sw0 pz))⟩
           refine TA.br rfl (W1.np 97 v239_ (fun _ => by kernel_rfl) (fun b35 => ?_))
           refine TA.on (Hp.old vr w352_ (dr2 (kp18 (dr1 kp0))) (oB5 (oR4 (oB3 (oR4 (oB1 (oR1 ol0))))))) ?_
           refine TA.all [7] (by kernel_rfl) rfl ⟨?_, trivial⟩
           obtain ⟨hb52_r, hb52_m, _⟩ := grow_some hb52
           let i126_ : HObj := box b35 97 v239_
           let t127_ : List HObj := (row 3 eInt A72 c73 s6) :: t124_
           refine TA.br rfl (W1.cln 111 [.slice (cutA A48 c49 (4 : Int).toNat 4) s7.length (c49 - (4 : Int).toNat)] (fun _ => by kernel_rfl) (fun w' hh => own_clone_Spot w V7 (i126_ :: t127_) w' _ _ _ (fun w' hh => (SlOk.cut (hh.row_slOk (i := 9) (by rfl)) hb49)) (by simpa +zetaDelta using hb52_r) (by simpa +zetaDelta using hb52_m) hh) (fun A73 c74 => ?_))
           refine TA.on (Hp.old vr w352_ (dr3 (kp18 (dr1 kp0))) (oB5 (oR4 (oB3 (oR4 (oB1 (oR1 ol0))))))) ?_
           refine TA.all [11] (by kernel_rfl) rfl ⟨?_, trivial⟩
           obtain ⟨hb53_r, hb53_m, _⟩ := grow_some hb53
           refine TA.br rfl (W1.cln 110 [.slice (cutA A49 c50 (4 : Int).toNat 1) s8.length (c50 - (4 : Int).toNat)] (fun _ => by kernel_rfl) (fun w' hh => own_clone_int w V7 ((row 43 eSpot A73 c74 s7) :: i126_ :: t127_) w' _ _ _ (fun w' hh => (SlOk.cut (hh.row_slOk (i := 11) (by rfl)) hb50)) (by simpa +zetaDelta using hb53_r) (by simpa +zetaDelta using hb53_m) hh) (fun A74 c75 => ?_))
           refine TA.onk (Hp.old vr w352_ (dr4 (kp18 (dr1 kp0))) (oB5 (oR4 (oB3 (oR4 (oB1 (oR1 ol0))))))) fun o384_ => ?_
           refine TA.tp 12 (.agg #[vi 2, sN, .slice A72 s6.length c73, .slice A73 s7.length c74, .slice A74 s8.length c75]) rfl (fun _ => by kernel_rfl) (fun _ _ _ h => h) o384_ ?_
           refine TA.all [14] (by kernel_rfl) rfl ⟨?_, trivial⟩
           let v282_ : List Value := [vi 2, sN, .slice A72 s6.length c73, .slice A73 s7.length c74, .slice A74 s8.length c75]
           refine TA.br rfl (W1.st 2 v282_ ((row 3 eInt A74 c75 s8) :: (row 43 eSpot A73 c74 s7) :: (box b35 97 v282_) :: t127_) v282_ (by rfl) rfl rfl rfl rfl rfl rfl (fun _ => by kernel_rfl) ?_)
           refine TA.on (Hp.old vr w352_ (dr4 (kp18 (dr1 kp0))) (oB5 (oR4 (oB3 (oR4 (oB1 (oR1 ol0))))))) ?_
           refine TA.done (by kernel_rfl) ?_
           exact fun a w' hf hh => ⟨b35, A72, c73, A73, c74, A74, c75, (Fr.sel hf rfl), ((hh.sub (kp20 (kp2 (kp1 kpr)))).perm (pt sw1 (pt sw0 pz)))⟩
          refine TA.br rfl (W1.np 97 v239_ (fun _ => by kernel_rfl) (fun b35 => ?_))
          refine TA.on (Hp.old vr w352_ (dr1 (kp18 (dr1 kp0))) (oB5 (oR4 (oB3 (oR4 (oB1 (oR1 ol0))))))) ?_
          refine TA.all [3] (by kernel_rfl) rfl ⟨?_, trivial⟩
          obtain ⟨hb51_r, hb51_m, _⟩ := grow_some hb51
          let i128_ : HObj := box b35 97 v239_
          let t129_ : List HObj := i128_ :: t124_
          refine TA.br rfl (W1.cln 110 [.slice (cutA A47 c48 (4 : Int).toNat 1) s6.length (c48 - (4 : Int).toNat)] (fun _ => by kernel_rfl) (fun w' hh => own_clone_int w V7 t129_ w' _ _ _ (fun w' hh => (SlOk.cut (hh.row_slOk (i := 7) (by rfl)) hb48)) (by simpa +zetaDelta using hb51_r) (by simpa +zetaDelta using hb51_m) hh) (fun A72 c73 => ?_))
          refine TA.on (Hp.old vr w352_ (dr2 (kp18 (dr1 kp0))) (oB5 (oR4 (oB3 (oR4 (oB1 (oR1 ol0))))))) ?_
          refine TA.all [7] (by kernel_rfl) rfl ⟨?_, trivial⟩
          obtain ⟨hb52_r, hb52_m, _⟩ := grow_some hb52
          refine TA.br rfl (W1.cln 111 [.slice (cutA A48 c49 (4 : Int).toNat 4) s7.length (c49 - (4 : Int).toNat)] (fun _ => by kernel_rfl) (fun w' hh => own_clone_Spot w V7 ((row 3 eInt A72 c73 s6) :: t129_) w' _ _ _ (fun w' hh => (SlOk.cut (hh.row_slOk (i := 9) (by rfl)) hb49)) (by simpa +zetaDelta using hb52_r) (by simpa +zetaDelta using hb52_m) hh) (fun A73 c74 => ?_))
          refine TA.on (Hp.old vr w352_ (dr3 (kp18 (dr1 kp0))) (oB5 (oR4 (oB3 (oR4 (oB1 (oR1 ol0))))))) ?_
          refine TA.all [11] (by kernel_rfl) rfl ⟨?_, trivial⟩
          obtain ⟨hb53_r, hb53_m, _⟩ := grow_some hb53
          refine TA.br rfl (W1.cln 110 [.slice (cutA A49 c50 (4 : Int).toNat 1) s8.length (c50 - (4 : Int).toNat)] (fun _ => by kernel_rfl) (fun w' hh => own_clone_int w V7 ((row 43 eSpot A73 c74 s7) :: (row 3 eInt A72 c73 s6) :: t129_) w' _ _ _ (fun w' hh => (SlOk.cut (hh.row_slOk (i := 11) (by rfl)) hb50)) (by simpa +zetaDelta using hb53_r) (by simpa +zetaDelta using hb53_m) hh) (fun A74 c75 => ?_))
          refine TA.onk (Hp.old vr w352_ (dr4 (kp18 (dr1 kp0))) (oB5 (oR4 (oB3 (oR4 (oB1 (oR1 ol0))))))) fun o385_ => ?_
          refine TA.tp 12 (.agg #[vi 2, sN, .slice A72 s6.length c73, .slice A73 s7.length c74, .slice A74 s8.length c75]) rfl (fun _ => by kernel_rfl) (fun _ _ _ h => h) o385_ ?_
          refine TA.all [14] (by kernel_rfl) rfl ⟨?_, trivial⟩
          let v283_ : List Value := [vi 2, sN, .slice A72 s6.length c73, .slice A73 s7.length c74, .slice A74 s8.length c75]
          refine TA.br rfl (W1.st 3 v283_ ((row 3 eInt A74 c75 s8) :: (row 43 eSpot A73 c74 s7) :: (row 3 eInt A72 c73 s6) :: (box b35 97 v283_) :: t124_) v283_ (by rfl) rfl rfl rfl rfl rfl rfl (fun _ => by kernel_rfl) ?_)
          refine TA.on (Hp.old vr w352_ (dr4 (kp18 (dr1 kp0))) (oB5 (oR4 (oB3 (oR4 (oB1 (oR1 ol0))))))) ?_
          refine TA.done (by kernel_rfl) ?_
          exact fun a w' hf hh => ⟨b35, A72, c73, A73, c74, A74, c75, (Fr.sel hf rfl), ((hh.sub (kp20 (kp2 (kp1 kpr)))).perm (pt sw2 (pt sw1 (pt sw0 pz))))⟩
         rintro a w' ⟨b35, A75, c76, A76, c77, A77, c78, hf, hh⟩
         let v284_ : List Value := [vi 2, sN, .slice A75 s6.length c76, .slice A76 s7.length c77, .slice A77 s8.length c78]
         let i130_ : HObj := box b35 97 v284_
         refine (?_ : T 59 w V7 (i130_ :: (row 3 eInt A77 c78 s8) :: (row 43 eSpot A76 c77 s7) :: (row 3 eInt A75 c76 s6) :: t124_) [(1, pB b30 0), (2, pB b31 0), (3, pB b32 0), (4, pB b33 0), (6, pB b35 0)] _) a w' hf hh
         clear hf hh
         refine T.seq (T.region (T.pk (pB b30 3) (fun _ => by kernel_rfl) (T.look (.slice A48 z22.length c49) (by kernel_rfl) (ld1 7 rfl rfl (fun _ => by kernel_rfl) (by rfl) rfl) ?_)))
         obtain ⟨e12, hb54, hX13⟩ := ob hX13
         obtain ⟨hi41, hi42, hi43⟩ := idx_some hb54
         refine T.look (.pointer (some ((sadr A48).add (((3 : Int).toNat) * 4)))) (by kernel_rfl) (ixR 11 (e := 43) (s := 4) rfl rfl rfl (fun _ => by kernel_rfl) hi41 hi42 (by rfl) hi43 (by decide)) ?_
         let v285_ : List Value := [vi e12.key.pfs, vi e12.key.obj, vi e12.key.off, vi e12.made]
         let a331_ : Value := .agg #[vi e12.key.pfs, vi e12.key.obj, vi e12.key.off, vi e12.made]
         refine T.look a331_ (by kernel_rfl) (fun w' hh => exec_loadN (cs := v285_) rfl rfl (by kernel_rfl) (by kernel_rfl) (fun j u hj => (SlOk.wcellF (E := eSpot) (hh.row_slOk (i := 11) (by rfl)) hi43 j (fun _ _ _ h => h) hj))) ?_
         refine T.step (W1.np 43 v276_ (fun _ => by kernel_rfl) (fun b36 => ?_))
         let i131_ : HObj := box b36 43 v285_
         refine T.step (W1.st 0 v285_ (i131_ :: i130_ :: (row 3 eInt A77 c78 s8) :: (row 43 eSpot A76 c77 s7) :: (row 3 eInt A75 c76 s6) :: t124_) v285_ (by rfl) rfl rfl rfl rfl rfl rfl (fun _ => by kernel_rfl) ?_)
         refine T.nil (T.seq ?_)
         obtain ⟨s9, hb55, hX13⟩ := ob hX13
         obtain ⟨s10, hb56, hX13⟩ := ob hX13
         obtain ⟨s11, hb57, hX13⟩ := ob hX13
         let v286_ : List Value := [vi n7.kind, .slice A46 ((n7.elems ++ n8.elems).length) c47, .slice A47 s9.length c48, .slice A48 s10.length c49, .slice A49 s11.length c50]
         let i132_ : HObj := box b30 97 v286_
         let t133_ : List HObj := i132_ :: t105_
         let t134_ : List HObj := i119_ :: t133_
         let t135_ : List HObj := i118_ :: t134_
         let t136_ : List HObj := i117_ :: t135_
         let t137_ : List HObj := (row 3 eInt A75 c76 s6) :: t136_
         let t138_ : List HObj := (row 43 eSpot A76 c77 s7) :: t137_
         let t139_ : List HObj := (row 3 eInt A77 c78 s8) :: t138_
         let t140_ : List HObj := i130_ :: t139_
         let t141_ : List HObj := i131_ :: t140_
         refine T.mid (fun a w' => Fr 59 [(1, pB b30 0), (2, pB b31 0), (3, pB b32 0), (4, pB b33 0), (6, pB b35 0), (7, pB b36 0)] a ∧ Hp w V7 t141_ w') ?_ ?_
         ·
          refine T.held (i131_ :: i130_ :: (row 3 eInt A77 c78 s8) :: (row 43 eSpot A76 c77 s7) :: (row 3 eInt A75 c76 s6) :: i117_ :: i118_ :: i119_ :: i97_ :: i98_ :: i99_ :: (row 43 eSpot A48 c49 z22) :: i100_ :: i39_ :: i40_ :: i37_ :: (row 28 eElem A3 c3 n1.elems) :: (row 3 eInt A4 c4 n1.kids) :: (row 43 eSpot A5 c5 n1.seps) :: i38_ :: t35_) (by kernel_rfl) ?_
          have w353_ := vt (vt (vt (vt hV1 hV3) hV5) hV6) hV7
          refine TA.keep (Hp.old vr w353_ (kp8 (dr1 (kp14 (dr1 kp0)))) (oB2 (oR3 (oB4 (oR4 (oB3 (oR4 (oB1 (oR1 ol0))))))))) fun o386_ => ?_
          refine TA.tp 0 (pB b30 2) rfl (fun _ => by kernel_rfl) (fun _ _ _ h => h) o386_ ?_
          refine TA.tp 3 (pB b30 3) rfl (fun _ => by kernel_rfl) (fun _ _ _ h => h) o386_ ?_
          refine TA.tp 6 (pB b30 4) rfl (fun _ => by kernel_rfl) (fun _ _ _ h => h) o386_ ?_
          refine TA.all [1, 4, 7] (by kernel_rfl) rfl ⟨?_, ?_, ?_, trivial⟩
          ·
           refine TA.br rfl (W1.look (.slice A47 ((n7.kids ++ n8.kids).length) c48) (by kernel_rfl) (ld1 8 rfl rfl (fun _ => by kernel_rfl) (by rfl) rfl) ?_)
           refine TA.onk (Hp.old vr w353_ (kp8 (dr1 (kp14 (dr1 kp0)))) (oB2 (oR3 (oB4 (oR4 (oB3 (oR4 (oB1 (oR1 ol0))))))))) fun o387_ => ?_
           refine TA.tk 2 (.slice A47 s9.length c48) rfl (by kernel_rfl) (fun _ _ _ h => h) o387_ (sl0 10 (e := 3) (s := 1) rfl rfl (fun _ => by kernel_rfl) (by rfl) rfl hb55) ?_
           refine TA.all [4, 7] (by kernel_rfl) rfl ⟨?_, ?_, trivial⟩
           ·
            refine TA.br rfl (W1.look (.slice A48 z22.length c49) (by kernel_rfl) (ld1 8 rfl rfl (fun _ => by kernel_rfl) (by rfl) rfl) ?_)
            refine TA.onk (Hp.old vr w353_ (kp8 (dr1 (kp14 (dr1 kp0)))) (oB2 (oR3 (oB4 (oR4 (oB3 (oR4 (oB1 (oR1 ol0))))))))) fun o388_ => ?_
            refine TA.tk 5 (.slice A48 s10.length c49) rfl (by kernel_rfl) (fun _ _ _ h => h) o388_ (sl0 11 (e := 43) (s := 4) rfl rfl (fun _ => by kernel_rfl) (by rfl) rfl hb56) ?_
            refine TA.all [7] (by kernel_rfl) rfl ⟨?_, trivial⟩
            refine TA.br rfl (W1.look (.slice A49 ((n7.tids ++ n8.tids).length) c50) (by kernel_rfl) (ld1 8 rfl rfl (fun _ => by kernel_rfl) (by rfl) rfl) ?_)
            refine TA.onk (Hp.old vr w353_ (kp8 (dr1 (kp14 (dr1 kp0)))) (oB2 (oR3 (oB4 (oR4 (oB3 (oR4 (oB1 (oR1 ol0))))))))) fun o389_ => ?_
            refine TA.tk 8 (.slice A49 s11.length c50) rfl (by kernel_rfl) (fun _ _ _ h => h) o389_ (sl0 12 (e := 3) (s := 1) rfl rfl (fun _ => by kernel_rfl) (by rfl) rfl hb57) ?_
            refine TA.tp 9 (pB b30 2) rfl (fun _ => by kernel_rfl) (fun _ _ _ h => h) o389_ ?_
            refine TA.all [10] (by kernel_rfl) rfl ⟨?_, trivial⟩
            let v287_ : List Value := [vi n7.kind, .slice A46 ((n7.elems ++ n8.elems).length) c47, .slice A47 s9.length c48, .slice A48 z22.length c49, .slice A49 ((n7.tids ++ n8.tids).length) c50]
            refine TA.br rfl (W1.st 8 v287_ (i131_ :: i130_ :: (row 3 eInt A77 c78 s8) :: (row 43 eSpot A76 c77 s7) :: (row 3 eInt A75 c76 s6) :: i117_ :: i118_ :: i119_ :: (box b30 97 v287_) :: t105_) [.slice A47 s9.length c48] (by rfl) rfl rfl rfl rfl rfl rfl (fun _ => by kernel_rfl) ?_)
            refine TA.onk (Hp.old vr w353_ (kp8 (dr1 (kp14 (dr1 kp0)))) (oB2 (oR3 (oB4 (oR4 (oB3 (oR4 (oB1 (oR1 ol0))))))))) fun o390_ => ?_
            refine TA.tp 11 (pB b30 3) rfl (fun _ => by kernel_rfl) (fun _ _ _ h => h) o390_ ?_
            refine TA.all [12] (by kernel_rfl) rfl ⟨?_, trivial⟩
            let v288_ : List Value := [vi n7.kind, .slice A46 ((n7.elems ++ n8.elems).length) c47, .slice A47 s9.length c48, .slice A48 s10.length c49, .slice A49 ((n7.tids ++ n8.tids).length) c50]
            refine TA.br rfl (W1.st 8 v288_ (i131_ :: i130_ :: (row 3 eInt A77 c78 s8) :: (row 43 eSpot A76 c77 s7) :: (row 3 eInt A75 c76 s6) :: i117_ :: i118_ :: i119_ :: (box b30 97 v288_) :: t105_) [.slice A48 s10.length c49] (by rfl) rfl rfl rfl rfl rfl rfl (fun _ => by kernel_rfl) ?_)
            refine TA.onk (Hp.old vr w353_ (kp8 (dr1 (kp14 (dr1 kp0)))) (oB2 (oR3 (oB4 (oR4 (oB3 (oR4 (oB1 (oR1 ol0))))))))) fun o391_ => ?_
            refine TA.tp 13 (pB b30 4) rfl (fun _ => by kernel_rfl) (fun _ _ _ h => h) o391_ ?_
            refine TA.all [14] (by kernel_rfl) rfl ⟨?_, trivial⟩
            refine TA.br rfl (W1.st 8 v286_ t141_ [.slice A49 s11.length c50] (by rfl) rfl rfl rfl rfl rfl rfl (fun _ => by kernel_rfl) ?_)
            refine TA.on (Hp.old vr w353_ (kp8 (dr1 (kp14 (dr1 kp0)))) (oB2 (oR3 (oB4 (oR4 (oB3 (oR4 (oB1 (oR1 ol0))))))))) ?_
            refine TA.done (by kernel_rfl) ?_
            exact fun a w' hf hh => ⟨(Fr.sel hf rfl), (hh.sub (kp20 (kp3 (kp1 kpr))))⟩
           refine TA.br rfl (W1.look (.slice A49 ((n7.tids ++ n8.tids).length) c50) (by kernel_rfl) (ld1 8 rfl rfl (fun _ => by kernel_rfl) (by rfl) rfl) ?_)
           refine TA.onk (Hp.old vr w353_ (kp8 (dr1 (kp14 (dr1 kp0)))) (oB2 (oR3 (oB4 (oR4 (oB3 (oR4 (oB1 (oR1 ol0))))))))) fun o392_ => ?_
           refine TA.tk 8 (.slice A49 s11.length c50) rfl (by kernel_rfl) (fun _ _ _ h => h) o392_ (sl0 12 (e := 3) (s := 1) rfl rfl (fun _ => by kernel_rfl) (by rfl) rfl hb57) ?_
           refine TA.all [4] (by kernel_rfl) rfl ⟨?_, trivial⟩
           refine TA.br rfl (W1.look (.slice A48 z22.length c49) (by kernel_rfl) (ld1 8 rfl rfl (fun _ => by kernel_rfl) (by rfl) rfl) ?_)
           refine TA.onk (Hp.old vr w353_ (kp8 (dr1 (kp14 (dr1 kp0)))) (oB2 (oR3 (oB4 (oR4 (oB3 (oR4 (oB1 (oR1 ol0))))))))) fun o393_ => ?_
           refine TA.tk 5 (.slice A48 s10.length c49) rfl (by kernel_rfl) (fun _ _ _ h => h) o393_ (sl0 11 (e := 43) (s := 4) rfl rfl (fun _ => by kernel_rfl) (by rfl) rfl hb56) ?_
           refine TA.tp 9 (pB b30 2) rfl (fun _ => by kernel_rfl) (fun _ _ _ h => h) o393_ ?_
           refine TA.all [10] (by kernel_rfl) rfl ⟨?_, trivial⟩
           let v289_ : List Value := [vi n7.kind, .slice A46 ((n7.elems ++ n8.elems).length) c47, .slice A47 s9.length c48, .slice A48 z22.length c49, .slice A49 ((n7.tids ++ n8.tids).length) c50]
           refine TA.br rfl (W1.st 8 v289_ (i131_ :: i130_ :: (row 3 eInt A77 c78 s8) :: (row 43 eSpot A76 c77 s7) :: (row 3 eInt A75 c76 s6) :: i117_ :: i118_ :: i119_ :: (box b30 97 v289_) :: t105_) [.slice A47 s9.length c48] (by rfl) rfl rfl rfl rfl rfl rfl (fun _ => by kernel_rfl) ?_)
           refine TA.onk (Hp.old vr w353_ (kp8 (dr1 (kp14 (dr1 kp0)))) (oB2 (oR3 (oB4 (oR4 (oB3 (oR4 (oB1 (oR1 ol0))))))))) fun o394_ => ?_
           refine TA.tp 11 (pB b30 3) rfl (fun _ => by kernel_rfl) (fun _ _ _ h => h) o394_ ?_
           refine TA.all [12] (by kernel_rfl) rfl ⟨?_, trivial⟩
           let v290_ : List Value := [vi n7.kind, .slice A46 ((n7.elems ++ n8.elems).length) c47, .slice A47 s9.length c48, .slice A48 s10.length c49, .slice A49 ((n7.tids ++ n8.tids).length) c50]
           refine TA.br rfl (W1.st 8 v290_ (i131_ :: i130_ :: (row 3 eInt A77 c78 s8) :: (row 43 eSpot A76 c77 s7) :: (row 3 eInt A75 c76 s6) :: i117_ :: i118_ :: i119_ :: (box b30 97 v290_) :: t105_) [.slice A48 s10.length c49] (by rfl) rfl rfl rfl rfl rfl rfl (fun _ => by kernel_rfl) ?_)
           refine TA.onk (Hp.old vr w353_ (kp8 (dr1 (kp14 (dr1 kp0)))) (oB2 (oR3 (oB4 (oR4 (oB3 (oR4 (oB1 (oR1 ol0))))))))) fun o395_ => ?_
           refine TA.tp 13 (pB b30 4) rfl (fun _ => by kernel_rfl) (fun _ _ _ h => h) o395_ ?_
           refine TA.all [14] (by kernel_rfl) rfl ⟨?_, trivial⟩
           refine TA.br rfl (W1.st 8 v286_ t141_ [.slice A49 s11.length c50] (by rfl) rfl rfl rfl rfl rfl rfl (fun _ => by kernel_rfl) ?_)
           refine TA.on (Hp.old vr w353_ (kp8 (dr1 (kp14 (dr1 kp0)))) (oB2 (oR3 (oB4 (oR4 (oB3 (oR4 (oB1 (oR1 ol0))))))))) ?_
           refine TA.done (by kernel_rfl) ?_
           exact fun a w' hf hh => ⟨(Fr.sel hf rfl), (hh.sub (kp20 (kp3 (kp1 kpr))))⟩
          ·
           refine TA.br rfl (W1.look (.slice A48 z22.length c49) (by kernel_rfl) (ld1 8 rfl rfl (fun _ => by kernel_rfl) (by rfl) rfl) ?_)
           refine TA.onk (Hp.old vr w353_ (kp8 (dr1 (kp14 (dr1 kp0)))) (oB2 (oR3 (oB4 (oR4 (oB3 (oR4 (oB1 (oR1 ol0))))))))) fun o396_ => ?_
           refine TA.tk 5 (.slice A48 s10.length c49) rfl (by kernel_rfl) (fun _ _ _ h => h) o396_ (sl0 11 (e := 43) (s := 4) rfl rfl (fun _ => by kernel_rfl) (by rfl) rfl hb56) ?_
           refine TA.all [1, 7] (by kernel_rfl) rfl ⟨?_, ?_, trivial⟩
           ·
            refine TA.br rfl (W1.look (.slice A47 ((n7.kids ++ n8.kids).length) c48) (by kernel_rfl) (ld1 8 rfl rfl (fun _ => by kernel_rfl) (by rfl) rfl) ?_)
            refine TA.onk (Hp.old vr w353_ (kp8 (dr1 (kp14 (dr1 kp0)))) (oB2 (oR3 (oB4 (oR4 (oB3 (oR4 (oB1 (oR1 ol0))))))))) fun o397_ => ?_
            refine TA.tk 2 (.slice A47 s9.length c48) rfl (by kernel_rfl) (fun _ _ _ h => h) o397_ (sl0 10 (e := 3) (s := 1) rfl rfl (fun _ => by kernel_rfl) (by rfl) rfl hb55) ?_
            refine TA.all [7] (by kernel_rfl) rfl ⟨?_, trivial⟩
            refine TA.br rfl (W1.look (.slice A49 ((n7.tids ++ n8.tids).length) c50) (by kernel_rfl) (ld1 8 rfl rfl (fun _ => by kernel_rfl) (by rfl) rfl) ?_)
            refine TA.onk (Hp.old vr w353_ (kp8 (dr1 (kp14 (dr1 kp0)))) (oB2 (oR3 (oB4 (oR4 (oB3 (oR4 (oB1 (oR1 ol0))))))))) fun o398_ => ?_
            refine TA.tk 8 (.slice A49 s11.length c50) rfl (by kernel_rfl) (fun _ _ _ h => h) o398_ (sl0 12 (e := 3) (s := 1) rfl rfl (fun _ => by kernel_rfl) (by rfl) rfl hb57) ?_
            refine TA.tp 9 (pB b30 2) rfl (fun _ => by kernel_rfl) (fun _ _ _ h => h) o398_ ?_
            refine TA.all [10] (by kernel_rfl) rfl ⟨?_, trivial⟩
            let v291_ : List Value := [vi n7.kind, .slice A46 ((n7.elems ++ n8.elems).length) c47, .slice A47 s9.length c48, .slice A48 z22.length c49, .slice A49 ((n7.tids ++ n8.tids).length) c50]
            refine TA.br rfl (W1.st 8 v291_ (i131_ :: i130_ :: (row 3 eInt A77 c78 s8) :: (row 43 eSpot A76 c77 s7) :: (row 3 eInt A75 c76 s6) :: i117_ :: i118_ :: i119_ :: (box b30 97 v291_) :: t105_) [.slice A47 s9.length c48] (by rfl) rfl rfl rfl rfl rfl rfl (fun _ => by kernel_rfl) ?_)
            refine TA.onk (Hp.old vr w353_ (kp8 (dr1 (kp14 (dr1 kp0)))) (oB2 (oR3 (oB4 (oR4 (oB3 (oR4 (oB1 (oR1 ol0))))))))) fun o399_ => ?_
            refine TA.tp 11 (pB b30 3) rfl (fun _ => by kernel_rfl) (fun _ _ _ h => h) o399_ ?_
            refine TA.all [12] (by kernel_rfl) rfl ⟨?_, trivial⟩
            let v292_ : List Value := [vi n7.kind, .slice A46 ((n7.elems ++ n8.elems).length) c47, .slice A47 s9.length c48, .slice A48 s10.length c49, .slice A49 ((n7.tids ++ n8.tids).length) c50]
            refine TA.br rfl (W1.st 8 v292_ (i131_ :: i130_ :: (row 3 eInt A77 c78 s8) :: (row 43 eSpot A76 c77 s7) :: (row 3 eInt A75 c76 s6) :: i117_ :: i118_ :: i119_ :: (box b30 97 v292_) :: t105_) [.slice A48 s10.length c49] (by rfl) rfl rfl rfl rfl rfl rfl (fun _ => by kernel_rfl) ?_)
            refine TA.onk (Hp.old vr w353_ (kp8 (dr1 (kp14 (dr1 kp0)))) (oB2 (oR3 (oB4 (oR4 (oB3 (oR4 (oB1 (oR1 ol0))))))))) fun o400_ => ?_
            refine TA.tp 13 (pB b30 4) rfl (fun _ => by kernel_rfl) (fun _ _ _ h => h) o400_ ?_
            refine TA.all [14] (by kernel_rfl) rfl ⟨?_, trivial⟩
            refine TA.br rfl (W1.st 8 v286_ t141_ [.slice A49 s11.length c50] (by rfl) rfl rfl rfl rfl rfl rfl (fun _ => by kernel_rfl) ?_)
            refine TA.on (Hp.old vr w353_ (kp8 (dr1 (kp14 (dr1 kp0)))) (oB2 (oR3 (oB4 (oR4 (oB3 (oR4 (oB1 (oR1 ol0))))))))) ?_
            refine TA.done (by kernel_rfl) ?_
            exact fun a w' hf hh => ⟨(Fr.sel hf rfl), (hh.sub (kp20 (kp3 (kp1 kpr))))⟩
           refine TA.br rfl (W1.look (.slice A49 ((n7.tids ++ n8.tids).length) c50) (by kernel_rfl) (ld1 8 rfl rfl (fun _ => by kernel_rfl) (by rfl) rfl) ?_)
           refine TA.onk (Hp.old vr w353_ (kp8 (dr1 (kp14 (dr1 kp0)))) (oB2 (oR3 (oB4 (oR4 (oB3 (oR4 (oB1 (oR1 ol0))))))))) fun o401_ => ?_
           refine TA.tk 8 (.slice A49 s11.length c50) rfl (by kernel_rfl) (fun _ _ _ h => h) o401_ (sl0 12 (e := 3) (s := 1) rfl rfl (fun _ => by kernel_rfl) (by rfl) rfl hb57) ?_
           refine TA.all [1] (by kernel_rfl) rfl ⟨?_, trivial⟩
           refine TA.br rfl (W1.look (.slice A47 ((n7.kids ++ n8.kids).length) c48) (by kernel_rfl) (ld1 8 rfl rfl (fun _ => by kernel_rfl) (by rfl) rfl) ?_)
           refine TA.onk (Hp.old vr w353_ (kp8 (dr1 (kp14 (dr1 kp0)))) (oB2 (oR3 (oB4 (oR4 (oB3 (oR4 (oB1 (oR1 ol0))))))))) fun o402_ => ?_
           refine TA.tk 2 (.slice A47 s9.length c48) rfl (by kernel_rfl) (fun _ _ _ h => h) o402_ (sl0 10 (e := 3) (s := 1) rfl rfl (fun _ => by kernel_rfl) (by rfl) rfl hb55) ?_
           refine TA.tp 9 (pB b30 2) rfl (fun _ => by kernel_rfl) (fun _ _ _ h => h) o402_ ?_
           refine TA.all [10] (by kernel_rfl) rfl ⟨?_, trivial⟩
           let v293_ : List Value := [vi n7.kind, .slice A46 ((n7.elems ++ n8.elems).length) c47, .slice A47 s9.length c48, .slice A48 z22.length c49, .slice A49 ((n7.tids ++ n8.tids).length) c50]
           refine TA.br rfl (W1.st 8 v293_ (i131_ :: i130_ :: (row 3 eInt A77 c78 s8) :: (row 43 eSpot A76 c77 s7) :: (row 3 eInt A75 c76 s6) :: i117_ :: i118_ :: i119_ :: (box b30 97 v293_) :: t105_) [.slice A47 s9.length c48] (by rfl) rfl rfl rfl rfl rfl rfl (fun _ => by kernel_rfl) ?_)
           refine TA.onk (Hp.old vr w353_ (kp8 (dr1 (kp14 (dr1 kp0)))) (oB2 (oR3 (oB4 (oR4 (oB3 (oR4 (oB1 (oR1 ol0))))))))) fun o403_ => ?_
           refine TA.tp 11 (pB b30 3) rfl (fun _ => by kernel_rfl) (fun _ _ _ h => h) o403_ ?_
           refine TA.all [12] (by kernel_rfl) rfl ⟨?_, trivial⟩
           let v294_ : List Value := [vi n7.kind, .slice A46 ((n7.elems ++ n8.elems).length) c47, .slice A47 s9.length c48, .slice A48 s10.length c49, .slice A49 ((n7.tids ++ n8.tids).length) c50]
           refine TA.br rfl (W1.st 8 v294_ (i131_ :: i130_ :: (row 3 eInt A77 c78 s8) :: (row 43 eSpot A76 c77 s7) :: (row 3 eInt A75 c76 s6) :: i117_ :: i118_ :: i119_ :: (box b30 97 v294_) :: t105_) [.slice A48 s10.length c49] (by rfl) rfl rfl rfl rfl rfl rfl (fun _ => by kernel_rfl) ?_)
           refine TA.onk (Hp.old vr w353_ (kp8 (dr1 (kp14 (dr1 kp0)))) (oB2 (oR3 (oB4 (oR4 (oB3 (oR4 (oB1 (oR1 ol0))))))))) fun o404_ => ?_
           refine TA.tp 13 (pB b30 4) rfl (fun _ => by kernel_rfl) (fun _ _ _ h => h) o404_ ?_
           refine TA.all [14] (by kernel_rfl) rfl ⟨?_, trivial⟩
           refine TA.br rfl (W1.st 8 v286_ t141_ [.slice A49 s11.length c50] (by rfl) rfl rfl rfl rfl rfl rfl (fun _ => by kernel_rfl) ?_)
           refine TA.on (Hp.old vr w353_ (kp8 (dr1 (kp14 (dr1 kp0)))) (oB2 (oR3 (oB4 (oR4 (oB3 (oR4 (oB1 (oR1 ol0))))))))) ?_
           refine TA.done (by kernel_rfl) ?_
           exact fun a w' hf hh => ⟨(Fr.sel hf rfl), (hh.sub (kp20 (kp3 (kp1 kpr))))⟩
          refine TA.br rfl (W1.look (.slice A49 ((n7.tids ++ n8.tids).length) c50) (by kernel_rfl) (ld1 8 rfl rfl (fun _ => by kernel_rfl) (by rfl) rfl) ?_)
          refine TA.onk (Hp.old vr w353_ (kp8 (dr1 (kp14 (dr1 kp0)))) (oB2 (oR3 (oB4 (oR4 (oB3 (oR4 (oB1 (oR1 ol0))))))))) fun o405_ => ?_
          refine TA.tk 8 (.slice A49 s11.length c50) rfl (by kernel_rfl) (fun _ _ _ h => h) o405_ (sl0 12 (e := 3) (s := 1) rfl rfl (fun _ => by kernel_rfl) (by rfl) rfl hb57) ?_
          refine TA.all [1, 4] (by kernel_rfl) rfl ⟨?_, ?_, trivial⟩
          ·
           refine TA.br rfl (W1.look (.slice A47 ((n7.kids ++ n8.kids).length) c48) (by kernel_rfl) (ld1 8 rfl rfl (fun _ => by kernel_rfl) (by rfl) rfl) ?_)
           refine TA.onk (Hp.old vr w353_ (kp8 (dr1 (kp14 (dr1 kp0)))) (oB2 (oR3 (oB4 (oR4 (oB3 (oR4 (oB1 (oR1 ol0))))))))) fun o406_ => ?_
           refine TA.tk 2 (.slice A47 s9.length c48) rfl (by kernel_rfl) (fun _ _ _ h => h) o406_ (sl0 10 (e := 3) (s := 1) rfl rfl (fun _ => by kernel_rfl) (by rfl) rfl hb55) ?_
           refine TA.all [4] (by kernel_rfl) rfl ⟨?_, trivial⟩
           refine TA.br rfl (W1.look (.slice A48 z22.length c49) (by kernel_rfl) (ld1 8 rfl rfl (fun _ => by kernel_rfl) (by rfl) rfl) ?_)
           refine TA.onk (Hp.old vr w353_ (kp8 (dr1 (kp14 (dr1 kp0)))) (oB2 (oR3 (oB4 (oR4 (oB3 (oR4 (oB1 (oR1 ol0))))))))) fun o407_ => ?_
           refine TA.tk 5 (.slice A48 s10.length c49) rfl (by kernel_rfl) (fun _ _ _ h => h) o407_ (sl0 11 (e := 43) (s := 4) rfl rfl (fun _ => by kernel_rfl) (by rfl) rfl hb56) ?_
           refine TA.tp 9 (pB b30 2) rfl (fun _ => by kernel_rfl) (fun _ _ _ h => h) o407_ ?_
           refine TA.all [10] (by kernel_rfl) rfl ⟨?_, trivial⟩
           let v295_ : List Value := [vi n7.kind, .slice A46 ((n7.elems ++ n8.elems).length) c47, .slice A47 s9.length c48, .slice A48 z22.length c49, .slice A49 ((n7.tids ++ n8.tids).length) c50]
           refine TA.br rfl (W1.st 8 v295_ (i131_ :: i130_ :: (row 3 eInt A77 c78 s8) :: (row 43 eSpot A76 c77 s7) :: (row 3 eInt A75 c76 s6) :: i117_ :: i118_ :: i119_ :: (box b30 97 v295_) :: t105_) [.slice A47 s9.length c48] (by rfl) rfl rfl rfl rfl rfl rfl (fun _ => by kernel_rfl) ?_)
           refine TA.onk (Hp.old vr w353_ (kp8 (dr1 (kp14 (dr1 kp0)))) (oB2 (oR3 (oB4 (oR4 (oB3 (oR4 (oB1 (oR1 ol0))))))))) fun o408_ => ?_
           refine TA.tp 11 (pB b30 3) rfl (fun _ => by kernel_rfl) (fun _ _ _ h => h) o408_ ?_
           refine TA.all [12] (by kernel_rfl) rfl ⟨?_, trivial⟩
           let v296_ : List Value := [vi n7.kind, .slice A46 ((n7.elems ++ n8.elems).length) c47, .slice A47 s9.length c48, .slice A48 s10.length c49, .slice A49 ((n7.tids ++ n8.tids).length) c50]
           refine TA.br rfl (W1.st 8 v296_ (i131_ :: i130_ :: (row 3 eInt A77 c78 s8) :: (row 43 eSpot A76 c77 s7) :: (row 3 eInt A75 c76 s6) :: i117_ :: i118_ :: i119_ :: (box b30 97 v296_) :: t105_) [.slice A48 s10.length c49] (by rfl) rfl rfl rfl rfl rfl rfl (fun _ => by kernel_rfl) ?_)
           refine TA.onk (Hp.old vr w353_ (kp8 (dr1 (kp14 (dr1 kp0)))) (oB2 (oR3 (oB4 (oR4 (oB3 (oR4 (oB1 (oR1 ol0))))))))) fun o409_ => ?_
           refine TA.tp 13 (pB b30 4) rfl (fun _ => by kernel_rfl) (fun _ _ _ h => h) o409_ ?_
           refine TA.all [14] (by kernel_rfl) rfl ⟨?_, trivial⟩
           refine TA.br rfl (W1.st 8 v286_ t141_ [.slice A49 s11.length c50] (by rfl) rfl rfl rfl rfl rfl rfl (fun _ => by kernel_rfl) ?_)
           refine TA.on (Hp.old vr w353_ (kp8 (dr1 (kp14 (dr1 kp0)))) (oB2 (oR3 (oB4 (oR4 (oB3 (oR4 (oB1 (oR1 ol0))))))))) ?_
           refine TA.done (by kernel_rfl) ?_
           exact fun a w' hf hh => ⟨(Fr.sel hf rfl), (hh.sub (kp20 (kp3 (kp1 kpr))))⟩
          refine TA.br rfl (W1.look (.slice A48 z22.length c49) (by kernel_rfl) (ld1 8 rfl rfl (fun _ => by kernel_rfl) (by rfl) rfl) ?_)
          refine TA.onk (Hp.old vr w353_ (kp8 (dr1 (kp14 (dr1 kp0)))) (oB2 (oR3 (oB4 (oR4 (oB3 (oR4 (oB1 (oR1 ol0))))))))) fun o410_ => ?_
          refine TA.tk 5 (.slice A48 s10.length c49) rfl (by kernel_rfl) (fun _ _ _ h => h) o410_ (sl0 11 (e := 43) (s := 4) rfl rfl (fun _ => by kernel_rfl) (by rfl) rfl hb56) ?_
          refine TA.all [1] (by kernel_rfl) rfl ⟨?_, trivial⟩
          refine TA.br rfl (W1.look (.slice A47 ((n7.kids ++ n8.kids).length) c48) (by kernel_rfl) (ld1 8 rfl rfl (fun _ => by kernel_rfl) (by rfl) rfl) ?_)
          refine TA.onk (Hp.old vr w353_ (kp8 (dr1 (kp14 (dr1 kp0)))) (oB2 (oR3 (oB4 (oR4 (oB3 (oR4 (oB1 (oR1 ol0))))))))) fun o411_ => ?_
          refine TA.tk 2 (.slice A47 s9.length c48) rfl (by kernel_rfl) (fun _ _ _ h => h) o411_ (sl0 10 (e := 3) (s := 1) rfl rfl (fun _ => by kernel_rfl) (by rfl) rfl hb55) ?_
          refine TA.tp 9 (pB b30 2) rfl (fun _ => by kernel_rfl) (fun _ _ _ h => h) o411_ ?_
          refine TA.all [10] (by kernel_rfl) rfl ⟨?_, trivial⟩
          let v297_ : List Value := [vi n7.kind, .slice A46 ((n7.elems ++ n8.elems).length) c47, .slice A47 s9.length c48, .slice A48 z22.length c49, .slice A49 ((n7.tids ++ n8.tids).length) c50]
          refine TA.br rfl (W1.st 8 v297_ (i131_ :: i130_ :: (row 3 eInt A77 c78 s8) :: (row 43 eSpot A76 c77 s7) :: (row 3 eInt A75 c76 s6) :: i117_ :: i118_ :: i119_ :: (box b30 97 v297_) :: t105_) [.slice A47 s9.length c48] (by rfl) rfl rfl rfl rfl rfl rfl (fun _ => by kernel_rfl) ?_)
          refine TA.onk (Hp.old vr w353_ (kp8 (dr1 (kp14 (dr1 kp0)))) (oB2 (oR3 (oB4 (oR4 (oB3 (oR4 (oB1 (oR1 ol0))))))))) fun o412_ => ?_
          refine TA.tp 11 (pB b30 3) rfl (fun _ => by kernel_rfl) (fun _ _ _ h => h) o412_ ?_
          refine TA.all [12] (by kernel_rfl) rfl ⟨?_, trivial⟩
          let v298_ : List Value := [vi n7.kind, .slice A46 ((n7.elems ++ n8.elems).length) c47, .slice A47 s9.length c48, .slice A48 s10.length c49, .slice A49 ((n7.tids ++ n8.tids).length) c50]
          refine TA.br rfl (W1.st 8 v298_ (i131_ :: i130_ :: (row 3 eInt A77 c78 s8) :: (row 43 eSpot A76 c77 s7) :: (row 3 eInt A75 c76 s6) :: i117_ :: i118_ :: i119_ :: (box b30 97 v298_) :: t105_) [.slice A48 s10.length c49] (by rfl) rfl rfl rfl rfl rfl rfl (fun _ => by kernel_rfl) ?_)
          refine TA.onk (Hp.old vr w353_ (kp8 (dr1 (kp14 (dr1 kp0)))) (oB2 (oR3 (oB4 (oR4 (oB3 (oR4 (oB1 (oR1 ol0))))))))) fun o413_ => ?_
          refine TA.tp 13 (pB b30 4) rfl (fun _ => by kernel_rfl) (fun _ _ _ h => h) o413_ ?_
          refine TA.all [14] (by kernel_rfl) rfl ⟨?_, trivial⟩
          refine TA.br rfl (W1.st 8 v286_ t141_ [.slice A49 s11.length c50] (by rfl) rfl rfl rfl rfl rfl rfl (fun _ => by kernel_rfl) ?_)
          refine TA.on (Hp.old vr w353_ (kp8 (dr1 (kp14 (dr1 kp0)))) (oB2 (oR3 (oB4 (oR4 (oB3 (oR4 (oB1 (oR1 ol0))))))))) ?_
          refine TA.done (by kernel_rfl) ?_
          exact fun a w' hf hh => ⟨(Fr.sel hf rfl), (hh.sub (kp20 (kp3 (kp1 kpr))))⟩
         rintro a w' ⟨hf, hh⟩
         refine (?_ : T 59 w V7 t141_ [(1, pB b30 0), (2, pB b31 0), (3, pB b32 0), (4, pB b33 0), (6, pB b35 0), (7, pB b36 0)] _) a w' hf hh
         clear hf hh
         refine T.seq ?_
         refine T.held (i131_ :: i130_ :: (row 3 eInt A77 c78 s8) :: (row 43 eSpot A76 c77 s7) :: (row 3 eInt A75 c76 s6) :: i132_ :: i97_ :: i98_ :: i99_ :: (row 43 eSpot A48 c49 z22) :: i100_ :: i39_ :: i40_ :: i37_ :: (row 28 eElem A3 c3 n1.elems) :: (row 3 eInt A4 c4 n1.kids) :: (row 43 eSpot A5 c5 n1.seps) :: i38_ :: t35_) (by kernel_rfl) ?_
         have w354_ := vt (vt (vt (vt hV1 hV3) hV5) hV6) hV7
         refine TA.keep (Hp.old vr w354_ (kp5 (dr3 (kp15 (dr1 kp0)))) (oB2 (oR3 (oB2 (oR4 (oB3 (oR4 (oB1 (oR1 ol0))))))))) fun o414_ => ?_
         refine TA.tk 0 (.agg #[vi n7.kind, .slice A46 ((n7.elems ++ n8.elems).length) c47, .slice A47 s9.length c48, .slice A48 s10.length c49, .slice A49 s11.length c50]) rfl (by kernel_rfl) (fun _ _ _ h => h) o414_ (ldN 5 rfl rfl (fun _ => by kernel_rfl) (by rfl) rfl) ?_
         refine TA.tk 1 a331_ rfl (by kernel_rfl) (fun _ _ _ h => h) o414_ (ldN 0 rfl rfl (fun _ => by kernel_rfl) (by rfl) rfl) ?_
         refine TA.tk 2 (.agg #[vi 2, sN, .slice A75 s6.length c76, .slice A76 s7.length c77, .slice A77 s8.length c78]) rfl (by kernel_rfl) (fun _ _ _ h => h) o414_ (ldN 1 rfl rfl (fun _ => by kernel_rfl) (by rfl) rfl) ?_
         refine TA.all [3] (by kernel_rfl) rfl ⟨?_, trivial⟩
         let i142_ : HObj := box b31 97 v286_
         let t143_ : List HObj := i142_ :: t133_
         refine TA.br rfl (W1.st 7 v286_ (i131_ :: i130_ :: (row 3 eInt A77 c78 s8) :: (row 43 eSpot A76 c77 s7) :: (row 3 eInt A75 c76 s6) :: i117_ :: i118_ :: t143_) v286_ (by rfl) rfl rfl rfl rfl rfl rfl (fun _ => by kernel_rfl) ?_)
         refine TA.on (Hp.old vr w354_ (kp5 (dr3 (kp15 (dr1 kp0)))) (oB2 (oR3 (oB2 (oR4 (oB3 (oR4 (oB1 (oR1 ol0))))))))) ?_
         refine TA.all [4] (by kernel_rfl) rfl ⟨?_, trivial⟩
         let i144_ : HObj := box b32 43 v285_
         refine TA.br rfl (W1.st 6 v285_ (i131_ :: i130_ :: (row 3 eInt A77 c78 s8) :: (row 43 eSpot A76 c77 s7) :: (row 3 eInt A75 c76 s6) :: i117_ :: i144_ :: t143_) v285_ (by rfl) rfl rfl rfl rfl rfl rfl (fun _ => by kernel_rfl) ?_)
         refine TA.on (Hp.old vr w354_ (kp5 (dr3 (kp15 (dr1 kp0)))) (oB2 (oR3 (oB2 (oR4 (oB3 (oR4 (oB1 (oR1 ol0))))))))) ?_
         refine TA.all [5] (by kernel_rfl) rfl ⟨?_, trivial⟩
         refine TA.br rfl (W1.st 5 v284_ (i131_ :: i130_ :: (row 3 eInt A77 c78 s8) :: (row 43 eSpot A76 c77 s7) :: (row 3 eInt A75 c76 s6) :: (box b33 97 v284_) :: i144_ :: t143_) v284_ (by rfl) rfl rfl rfl rfl rfl rfl (fun _ => by kernel_rfl) ?_)
         refine TA.on (Hp.old vr w354_ (kp5 (dr3 (kp15 (dr1 kp0)))) (oB2 (oR3 (oB2 (oR4 (oB3 (oR4 (oB1 (oR1 ol0))))))))) ?_
         refine TA.done (by kernel_rfl) ?_
         refine T.shrink (l := s9) 11 (by rfl) (lslice_prefix hb55) ?_
         refine T.shrink (l := s10) 12 (by rfl) (lslice_prefix hb56) ?_
         refine T.shrink (l := s11) 13 (by rfl) (lslice_prefix hb57) ?_
         refine T.rownil 28 eElem ?_
         cases hX13
         refine T.ret rfl ?_
         repeat first | refine T.unthen ?_ | refine T.unblock ?_
         exact T.ret3 rfl (ResIs.cellN 8 rfl (by rfl) (fun _ => by kernel_rfl) (fun _ => by kernel_rfl)) (ResIs.cellN 7 rfl (by rfl) (fun _ => by kernel_rfl) (fun _ => by kernel_rfl)) (ResIs.cellN 6 rfl (by rfl) (fun _ => by kernel_rfl) (fun _ => by kernel_rfl)) fun w' hh => ⟨_, rfl, ⟨s8, s7, s6, [], (n7.elems ++ n8.elems), s9, s10, s11, e12.key.pfs, e12.key.obj, e12.key.off, e12.made, 2, rfl, A77, c78, A76, c77, A75, c76, none, 0, A46, c47, A47, c48, A48, c49, A49, c50, V7, vr, rfl, ((hh.sub (kp1 (dr2 (kp3 (dr4 (kp14 (kp1 kpr))))))).perm (pt sw0 (pc1 (pt sw0 (pc1 (pt sw0 (pc2 (pt sw0 (pc1 (pt sw0 (pc1 (pt sw0 (pc1 (pt sw0 pz))))))))))))))⟩⟩
        rintro v w' ⟨z28, z29, z30, z31, z32, z33, z34, z35, z36, z37, z38, z39, z40, rfl, A63, c64, A64, c65, A65, c66, A66, c67, A67, c68, A68, c69, A69, c70, A70, c71, V11, hV11, rfl, hh⟩
        try dsimp only at hX12
        let t145_ : List HObj := (row 3 eInt A70 c71 z35) :: t106_
        let t146_ : List HObj := (row 43 eSpot A69 c70 z34) :: t145_
        let t147_ : List HObj := (row 3 eInt A68 c69 z33) :: t146_
        let t148_ : List HObj := (row 28 eElem A67 c68 z32) :: t147_
        let t149_ : List HObj := (row 28 eElem A66 c67 z31) :: t148_
        let t150_ : List HObj := (row 3 eInt A65 c66 z30) :: t149_
        let t151_ : List HObj := (row 43 eSpot A64 c65 z29) :: t150_
        let t152_ : List HObj := (row 3 eInt A63 c64 z28) :: t151_
        refine ⟨V11, t152_, hh, ?_⟩
        clear hh
        refine T.pk (.tuple #[.agg #[vi n7.kind, .slice A67 z32.length c68, .slice A68 z33.length c69, .slice A69 z34.length c70, .slice A70 z35.length c71], .agg #[vi z36, vi z37, vi z38, vi z39], .agg #[vi z40, .slice A66 z31.length c67, .slice A65 z30.length c66, .slice A64 z29.length c65, .slice A63 z28.length c64]]) (fun _ => by kernel_rfl) ?_
        let a332_ : Value := .agg #[vi n7.kind, .slice A67 z32.length c68, .slice A68 z33.length c69, .slice A69 z34.length c70, .slice A70 z35.length c71]
        refine T.p2 a332_ (.agg #[vi z36, vi z37, vi z38, vi z39]) (fun _ => by kernel_rfl) ?_
        let a333_ : Value := .agg #[vi z40, .slice A66 z31.length c67, .slice A65 z30.length c66, .slice A64 z29.length c65, .slice A63 z28.length c64]
        refine T.pk a333_ (fun _ => by kernel_rfl) (T.step (W1.np 97 v239_ (fun _ => by kernel_rfl) (fun b37 => ?_)))
        refine T.step (W1.np 43 [vi 0, vi 0, vi 0, vi 0] (fun _ => by kernel_rfl) (fun b38 => ?_))
        refine T.step (W1.np 97 v239_ (fun _ => by kernel_rfl) (fun b39 => ?_))
        let i153_ : HObj := box b39 97 v239_
        let v299_ : List Value := [vi n7.kind, .slice A67 z32.length c68, .slice A68 z33.length c69, .slice A69 z34.length c70, .slice A70 z35.length c71]
        let i154_ : HObj := box b37 97 v299_
        let t155_ : List HObj := i154_ :: t152_
        refine T.step (W1.st 2 v299_ (i153_ :: (box b38 43 [vi 0, vi 0, vi 0, vi 0]) :: t155_) v299_ (by rfl) rfl rfl rfl rfl rfl rfl (fun _ => by kernel_rfl) ?_)
        let v300_ : List Value := [vi z36, vi z37, vi z38, vi z39]
        let i156_ : HObj := box b38 43 v300_
        refine T.step (W1.st 1 v300_ (i153_ :: i156_ :: t155_) v300_ (by rfl) rfl rfl rfl rfl rfl rfl (fun _ => by kernel_rfl) ?_)
        let v301_ : List Value := [vi z40, .slice A66 z31.length c67, .slice A65 z30.length c66, .slice A64 z29.length c65, .slice A63 z28.length c64]
        let i157_ : HObj := box b39 97 v301_
        refine T.step (W1.st 0 v301_ (i157_ :: i156_ :: t155_) v301_ (by rfl) rfl rfl rfl rfl rfl rfl (fun _ => by kernel_rfl) ?_)
        refine T.nil (T.seq ?_)
        refine T.held (i157_ :: i156_ :: i154_ :: i39_ :: i40_ :: i37_ :: i30_ :: []) (by kernel_rfl) ?_
        have w355_ := vt (vt (vt (vt (vt hV1 hV3) hV5) hV6) hV7) hV11
        refine TA.keep (Hp.old vr w355_ (kp3 (dr9 (kp3 (dr4 (kp1 (dr1 (dr1 kp0))))))) (oB6 (oB1 ol0))) fun o415_ => ?_
        refine TA.tp 0 (pB b8 0) rfl (fun _ => by kernel_rfl) (fun _ _ _ h => h) o415_ ?_
        refine TA.tp 1 (pB b8 0) rfl (fun _ => by kernel_rfl) (fun _ _ _ h => h) o415_ ?_
        refine TA.tp 2 (pB b8 0) rfl (fun _ => by kernel_rfl) (fun _ _ _ h => h) o415_ ?_
        refine TA.tp 3 (pB b8 0) rfl (fun _ => by kernel_rfl) (fun _ _ _ h => h) o415_ ?_
        refine TA.tp 4 (pB b8 1) rfl (fun _ => by kernel_rfl) (fun _ _ _ h => h) o415_ ?_
        refine TA.tk 5 (.slice A2 c9.length c2) rfl (by kernel_rfl) (fun _ _ _ h => h) o415_ (ld1 6 rfl rfl (fun _ => by kernel_rfl) (by rfl) rfl) ?_
        refine TA.tp 6 (vi e8) rfl (fun _ => by kernel_rfl) (fun _ _ _ h => h) o415_ ?_
        refine TA.tp 7 (pB b8 0) rfl (fun _ => by kernel_rfl) (fun _ _ _ h => h) o415_ ?_
        refine TA.tp 8 (pB b8 0) rfl (fun _ => by kernel_rfl) (fun _ _ _ h => h) o415_ ?_
        refine TA.tp 9 (pB b8 0) rfl (fun _ => by kernel_rfl) (fun _ _ _ h => h) o415_ ?_
        refine TA.tp 10 (pB b8 0) rfl (fun _ => by kernel_rfl) (fun _ _ _ h => h) o415_ ?_
        refine TA.tp 11 (pB b8 1) rfl (fun _ => by kernel_rfl) (fun _ _ _ h => h) o415_ ?_
        refine TA.tk 12 (.slice A2 c9.length c2) rfl (by kernel_rfl) (fun _ _ _ h => h) o415_ (ld1 6 rfl rfl (fun _ => by kernel_rfl) (by rfl) rfl) ?_
        refine TA.tp 13 (vi e9) rfl (fun _ => by kernel_rfl) (fun _ _ _ h => h) o415_ ?_
        refine TA.tp 14 (pB b15 3) rfl (fun _ => by kernel_rfl) (fun _ _ _ h => h) o415_ ?_
        refine TA.tk 15 (.slice A5 n1.seps.length c5) rfl (by kernel_rfl) (fun _ _ _ h => h) o415_ (ld1 4 rfl rfl (fun _ => by kernel_rfl) (by rfl) rfl) ?_
        refine TA.tp 16 (vi z21) rfl (fun _ => by kernel_rfl) (fun _ _ _ h => h) o415_ ?_
        refine TA.tk 17 a332_ rfl (by kernel_rfl) (fun _ _ _ h => h) o415_ (ldN 2 rfl rfl (fun _ => by kernel_rfl) (by rfl) rfl) ?_
        refine TA.tk 18 a333_ rfl (by kernel_rfl) (fun _ _ _ h => h) o415_ (ldN 0 rfl rfl (fun _ => by kernel_rfl) (by rfl) rfl) ?_
        refine TA.tk 19 (.agg #[vi z36, vi z37, vi z38, vi z39]) rfl (by kernel_rfl) (fun _ _ _ h => h) o415_ (ldN 1 rfl rfl (fun _ => by kernel_rfl) (by rfl) rfl) ?_
        refine TA.all [20] (by kernel_rfl) rfl ⟨?_, trivial⟩
        obtain ⟨u2, hb58, hX12⟩ := ob hX12
        obtain ⟨hi44, hi45, e13, hx7⟩ := ht7.has hb58
        refine TA.br rfl (W1.look (.pointer (some ((sadr A2).add (e8.toNat * 5)))) (by kernel_rfl) (ixR 20 (e := 97) (s := 5) rfl rfl rfl (fun _ => by kernel_rfl) hi44 hi45 (by rfl) hx7 (by decide)) ?_)
        refine TA.on (Hp.old vr w355_ (kp3 (dr9 (kp3 (dr4 (kp1 (dr1 (dr1 kp0))))))) (oB6 (oB1 ol0))) ?_
        refine TA.all [21] (by kernel_rfl) rfl ⟨?_, trivial⟩
        let d336_ : DHdr := DHdr.mk n7.kind A67 z32.length c68 A68 z33.length c69 A69 z34.length c70 A70 z35.length c71
        refine TA.br rfl (W1.storeRow (E := eHdr) 20 (e8.toNat) 0 e13 d336_ _ (vs := v299_) (by rfl) (by kernel_rfl) rfl rfl (addr_add0 _).symm rfl rfl (fun _ => by kernel_rfl) (one_of rfl) hx7 (Nat.le_of_ble_eq_true (by kernel_rfl)) (fun _ _ h => by cases h; rfl) ?_)
        refine TA.on (Hp.old vr w355_ (kp3 (dr9 (kp3 (dr4 (kp1 (dr1 (dr1 kp0))))))) (oB6 (oB1 ol0))) ?_
        let h344_ : List DHdr := c9.set e8.toNat d336_
        refine T.reslot 75 (.slice A2 (h344_.length) c2) rfl (by simp +zetaDelta only [List.length_set]) ?_
        refine T.reslot 82 (.slice A2 (h344_.length) c2) rfl (by simp +zetaDelta only [List.length_set]) ?_
        let i158_ : HObj := box b8 137 [vi r2.root, .slice A2 (h344_.length) c2]
        let i159_ : HObj := row 97 eHdr A2 c2 h344_
        refine T.reH (H' := (i157_ :: i156_ :: i154_ :: (row 3 eInt A63 c64 z28) :: (row 43 eSpot A64 c65 z29) :: (row 3 eInt A65 c66 z30) :: (row 28 eElem A66 c67 z31) :: (row 28 eElem A67 c68 z32) :: (row 3 eInt A68 c69 z33) :: (row 43 eSpot A69 c70 z34) :: (row 3 eInt A70 c71 z35) :: i97_ :: i39_ :: i40_ :: i37_ :: (row 28 eElem A3 c3 n1.elems) :: (row 3 eInt A4 c4 n1.kids) :: (row 43 eSpot A5 c5 n1.seps) :: i38_ :: i158_ :: i159_ :: i41_ :: G1)) (by first | (simp +zetaDelta only [List.length_set]; done) | (simp +zetaDelta only [List.length_set]; rfl)) ?_
        refine T.putS (ty := (TreeTy.mk 28 3 43)) (i157_ :: i156_ :: i154_ :: (row 3 eInt A63 c64 z28) :: (row 43 eSpot A64 c65 z29) :: (row 3 eInt A65 c66 z30) :: (row 28 eElem A66 c67 z31) :: i97_ :: i39_ :: i40_ :: i37_ :: (row 28 eElem A3 c3 n1.elems) :: (row 3 eInt A4 c4 n1.kids) :: (row 43 eSpot A5 c5 n1.seps) :: i38_ :: i158_ :: i159_ :: G1) d336_ (DNode.mk n7.kind z32 z33 z34 z35) (pt sw6 (pt sw5 (pt sw4 (pt sw3 (pt sw2 (pt sw1 (pt sw0 (pc1 (pt sw6 (pt sw5 (pt sw4 (pt sw3 (pt sw2 (pt sw1 (pt sw0 (pc1 (pt sw6 (pt sw5 (pt sw4 (pt sw3 (pt sw2 (pt sw1 (pt sw0 (pc1 (pt sw6 (pt sw5 (pt sw4 (pt sw3 (pt sw2 (pt sw1 (pt sw0 (pc1 (pt sw16 (pt sw15 (pt sw14 (pt sw13 (pt sw12 (pt sw11 (pt sw10 (pt sw9 (pt sw8 (pt sw7 (pt sw6 (pt sw5 (pt sw4 (pt sw3 (pt sw2 (pt sw1 (pt sw0 pz))))))))))))))))))))))))))))))))))))))))))))))))) ⟨rfl, rfl, rfl, rfl, rfl⟩ hb58 ?_
        have hb59 := nodeAt_put (n := (DNode.mk n7.kind z32 z33 z34 z35)) hb58
        have hx8 := TreeOk.set_at ht7 d336_ hb58
        let i160_ : HObj := treeo (TreeTy.mk 28 3 43) h344_ (putAt (outAt z12 e8) e8 (DNode.mk n7.kind z32 z33 z34 z35))
        refine T.reH (H' := (i160_ :: i157_ :: i156_ :: i154_ :: (row 3 eInt A63 c64 z28) :: (row 43 eSpot A64 c65 z29) :: (row 3 eInt A65 c66 z30) :: (row 28 eElem A66 c67 z31) :: i97_ :: i39_ :: i40_ :: i37_ :: (row 28 eElem A3 c3 n1.elems) :: (row 3 eInt A4 c4 n1.kids) :: (row 43 eSpot A5 c5 n1.seps) :: i38_ :: i158_ :: i159_ :: G1)) (by rfl) ?_
        refine T.tree 0 (by rfl) (fun ht8 => ?_)
        refine TA.all [22] (by kernel_rfl) rfl ⟨?_, trivial⟩
        obtain ⟨u3, hb60, hX12⟩ := ob hX12
        obtain ⟨hi46, hi47, e14, hx9⟩ := ht8.has hb60
        refine TA.br rfl (W1.look (.pointer (some ((sadr A2).add (e9.toNat * 5)))) (by kernel_rfl) (ixR 17 (e := 97) (s := 5) rfl rfl rfl (fun _ => by kernel_rfl) hi46 hi47 (by rfl) hx9 (by decide)) ?_)
        refine TA.on (fun w_ hh_ => Hp.old vr w355_ (dr1 (kp3 (dr5 (kp3 (dr4 (kp1 (dr1 kp0))))))) (oB6 (oB1 ol0)) w_ (show Hp w V11 (i160_ :: i157_ :: i156_ :: i154_ :: (row 3 eInt A63 c64 z28) :: (row 43 eSpot A64 c65 z29) :: (row 3 eInt A65 c66 z30) :: (row 28 eElem A66 c67 z31) :: i97_ :: i39_ :: i40_ :: i37_ :: (row 28 eElem A3 c3 n1.elems) :: (row 3 eInt A4 c4 n1.kids) :: (row 43 eSpot A5 c5 n1.seps) :: i38_ :: i30_ :: i159_ :: G1) w_ from by simp +zetaDelta only [List.length_set] at hh_ ⊢; exact hh_)) ?_
        refine TA.all [23] (by kernel_rfl) rfl ⟨?_, trivial⟩
        let d337_ : DHdr := DHdr.mk z40 A66 z31.length c67 A65 z30.length c66 A64 z29.length c65 A63 z28.length c64
        refine TA.br rfl (W1.storeRow (E := eHdr) 17 (e9.toNat) 0 e14 d337_ _ (vs := v301_) (by rfl) (by kernel_rfl) rfl rfl (addr_add0 _).symm rfl rfl (fun _ => by kernel_rfl) (one_of rfl) hx9 (Nat.le_of_ble_eq_true (by kernel_rfl)) (fun _ _ h => by cases h; rfl) ?_)
        let i161_ : HObj := row 97 eHdr A2 c2 (h344_.set e9.toNat d337_)
        let t162_ : List HObj := i30_ :: i161_ :: G1
        let t163_ : List HObj := i38_ :: t162_
        refine TA.on (fun w_ hh_ => Hp.old vr w355_ (dr1 (kp3 (dr5 (kp3 (dr4 (kp1 (dr1 kp0))))))) (oB6 (oB1 ol0)) w_ (show Hp w V11 (i160_ :: i157_ :: i156_ :: i154_ :: (row 3 eInt A63 c64 z28) :: (row 43 eSpot A64 c65 z29) :: (row 3 eInt A65 c66 z30) :: (row 28 eElem A66 c67 z31) :: i97_ :: i39_ :: i40_ :: i37_ :: (row 28 eElem A3 c3 n1.elems) :: (row 3 eInt A4 c4 n1.kids) :: (row 43 eSpot A5 c5 n1.seps) :: t163_) w_ from by simp +zetaDelta only [List.length_set] at hh_ ⊢; exact hh_)) ?_
        refine T.reslot 75 (.slice A2 ((h344_.set e9.toNat d337_).length) c2) rfl (by simp +zetaDelta only [List.length_set]) ?_
        refine T.reslot 82 (.slice A2 ((h344_.set e9.toNat d337_).length) c2) rfl (by simp +zetaDelta only [List.length_set]) ?_
        let i164_ : HObj := box b8 137 [vi r2.root, .slice A2 ((h344_.set e9.toNat d337_).length) c2]
        let t165_ : List HObj := i164_ :: i161_ :: G1
        let t166_ : List HObj := i38_ :: t165_
        let t167_ : List HObj := (row 43 eSpot A5 c5 n1.seps) :: t166_
        let t168_ : List HObj := (row 3 eInt A4 c4 n1.kids) :: t167_
        let t169_ : List HObj := (row 28 eElem A3 c3 n1.elems) :: t168_
        let t170_ : List HObj := i37_ :: t169_
        let t171_ : List HObj := i40_ :: t170_
        let t172_ : List HObj := i39_ :: t171_
        let t173_ : List HObj := i97_ :: t172_
        refine T.reH (H' := (i160_ :: i157_ :: i156_ :: i154_ :: (row 3 eInt A63 c64 z28) :: (row 43 eSpot A64 c65 z29) :: (row 3 eInt A65 c66 z30) :: (row 28 eElem A66 c67 z31) :: t173_)) (by first | (simp +zetaDelta only [List.length_set]; done) | (simp +zetaDelta only [List.length_set]; rfl)) ?_
        refine T.putS (ty := (TreeTy.mk 28 3 43)) (i157_ :: i156_ :: i154_ :: t173_) d337_ (DNode.mk z40 z31 z30 z29 z28) (pt sw6 (pt sw5 (pt sw4 (pt sw3 (pt sw2 (pt sw1 (pt sw0 (pc1 (pt sw5 (pt sw4 (pt sw3 (pt sw2 (pt sw1 (pt sw0 (pc1 (pt sw4 (pt sw3 (pt sw2 (pt sw1 (pt sw0 (pc1 (pt sw3 (pt sw2 (pt sw1 (pt sw0 pz))))))))))))))))))))))))) ⟨rfl, rfl, rfl, rfl, rfl⟩ hb60 ?_
        have hb61 := nodeAt_put (n := (DNode.mk z40 z31 z30 z29 z28)) hb60
        have hx10 := TreeOk.set_at ht8 d337_ hb60
        let i174_ : HObj := treeo (TreeTy.mk 28 3 43) (h344_.set e9.toNat d337_) (putAt (putAt (outAt z12 e8) e8 (DNode.mk n7.kind z32 z33 z34 z35)) e9 (DNode.mk z40 z31 z30 z29 z28))
        refine T.reH (H' := (i174_ :: i157_ :: i156_ :: i154_ :: t173_)) (by rfl) ?_
        refine T.tree 0 (by rfl) (fun ht9 => ?_)
        refine TA.all [24] (by kernel_rfl) rfl ⟨?_, trivial⟩
        obtain ⟨e15, hb62, hX12⟩ := ob hX12
        obtain ⟨hi48, hi49, hi50⟩ := idx_some hb62
        refine TA.br rfl (W1.look (.pointer (some ((sadr A5).add (z21.toNat * 4)))) (by kernel_rfl) (ixR 10 (e := 43) (s := 4) rfl rfl rfl (fun _ => by kernel_rfl) hi48 hi49 (by rfl) hi50 (by decide)) ?_)
        refine TA.on (fun w_ hh_ => Hp.old vr w355_ (dr1 (kp3 (dr1 (kp3 (dr4 (kp1 (dr1 kp0))))))) (oB6 (oB1 ol0)) w_ (show Hp w V11 (i174_ :: i157_ :: i156_ :: i154_ :: i97_ :: i39_ :: i40_ :: i37_ :: (row 28 eElem A3 c3 n1.elems) :: (row 3 eInt A4 c4 n1.kids) :: (row 43 eSpot A5 c5 n1.seps) :: t163_) w_ from by simp +zetaDelta only [List.length_set] at hh_ ⊢; exact hh_)) ?_
        refine TA.all [25] (by kernel_rfl) rfl ⟨?_, trivial⟩
        refine TA.br rfl (W1.storeRow (E := eSpot) 10 (z21.toNat) 0 e15 (DSpot.mk (DKey.mk z36 z37 z38) z39) _ (vs := v300_) (by rfl) (by kernel_rfl) rfl rfl (addr_add0 _).symm rfl rfl (fun _ => by kernel_rfl) (one_of rfl) hi50 (Nat.le_of_ble_eq_true (by kernel_rfl)) (fun _ _ h => by cases h; rfl) ?_)
        let i175_ : HObj := row 43 eSpot A5 c5 (n1.seps.set z21.toNat (DSpot.mk (DKey.mk z36 z37 z38) z39))
        refine TA.on (fun w_ hh_ => Hp.old vr w355_ (dr1 (kp3 (dr1 (kp3 (dr4 (kp1 (dr1 kp0))))))) (oB6 (oB1 ol0)) w_ (show Hp w V11 (i174_ :: i157_ :: i156_ :: i154_ :: i97_ :: i39_ :: i40_ :: i37_ :: (row 28 eElem A3 c3 n1.elems) :: (row 3 eInt A4 c4 n1.kids) :: i175_ :: t163_) w_ from by simp +zetaDelta only [List.length_set] at hh_ ⊢; exact hh_)) ?_
        refine T.reslot 85 (.slice A5 ((n1.seps.set z21.toNat (DSpot.mk (DKey.mk z36 z37 z38) z39)).length) c5) rfl (by simp +zetaDelta only [List.length_set]) ?_
        let v302_ : List Value := [vi n1.kind, .slice A3 n1.elems.length c3, .slice A4 n1.kids.length c4, .slice A5 ((n1.seps.set z21.toNat (DSpot.mk (DKey.mk z36 z37 z38) z39)).length) c5, .slice A6 ((n1.tids.set r10.toNat r11).length) c6]
        let i176_ : HObj := box b15 97 v302_
        let i177_ : HObj := box b10 97 v302_
        refine T.reH (H' := (i174_ :: i157_ :: i156_ :: i154_ :: i97_ :: i39_ :: i176_ :: i177_ :: (row 28 eElem A3 c3 n1.elems) :: (row 3 eInt A4 c4 n1.kids) :: i175_ :: t166_)) (by first | (simp +zetaDelta only [List.length_set]; done) | (simp +zetaDelta only [List.length_set]; rfl)) ?_
        refine TA.done (by kernel_rfl) ?_
        refine T.heldL 7 (i157_ :: i39_ :: i176_ :: i177_ :: (row 28 eElem A3 c3 n1.elems) :: (row 3 eInt A4 c4 n1.kids) :: i175_ :: i38_ :: i164_ :: i161_ :: []) (by kernel_rfl) ?_
        refine TL.keep (Hp.old vr w355_ (dr1 (kp1 (dr3 (kp8 (kp1 kp0))))) (oB4 (oR4 (oB1 (oR1 ol0))))) fun o416_ => ?_
        refine TL.tv 0 (pB b15 4) rfl (fun _ => by kernel_rfl) (fun _ _ _ h => h) o416_ ?_
        refine TL.tk 1 (.slice A6 ((n1.tids.set r10.toNat r11).length) c6) [] rfl (by kernel_rfl) (fun _ _ _ h => h) o416_ (ld1 2 rfl rfl (fun _ => by kernel_rfl) (by rfl) rfl) ?_
        refine TL.tv 2 (vi z21) rfl (fun _ => by kernel_rfl) (fun _ _ _ h => h) o416_ ?_
        refine TL.tv 3 (vi (IntKind.i64.wrap (z21 + 1))) rfl (fun _ => by kernel_rfl) (fun _ _ _ h => h) o416_ ?_
        refine TL.tk 4 a333_ [] rfl (by kernel_rfl) (fun _ _ _ h => h) o416_ (ldN 0 rfl rfl (fun _ => by kernel_rfl) (by rfl) rfl) ?_
        refine TL.all [5] (by kernel_rfl) rfl ⟨?_, trivial⟩
        obtain ⟨r25, hb63, hX12⟩ := ob hX12
        refine TL.br rfl (W1.call (vSc eInt) r25 60 #[a333_] (by kernel_rfl) (fun _ => by kernel_rfl) (fun w' hh => node_Greatest_l F (DNode.mk z40 z31 z30 z29 z28) r25 hb63 w' A66 c67 (hh.lent (i := 0) (by rfl) hb61 hx10).1 A65 c66 (hh.lent (i := 0) (by rfl) hb61 hx10).2.1 A64 c65 (hh.lent (i := 0) (by rfl) hb61 hx10).2.2.1 A63 c64 (hh.lent (i := 0) (by rfl) hb61 hx10).2.2.2) ?_)
        intro u V13 hV13 hu
        obtain rfl := sureInt _ _ _ hu
        refine TL.onk (Hp.old hV13 w355_ (dr1 (kp1 (dr3 (kp8 (kp1 kp0))))) (oB4 (oR4 (oB1 (oR1 ol0))))) fun o417_ => ?_
        obtain ⟨e16, hb64, hX12⟩ := ob hX12
        obtain ⟨hi51, hi52, hi53⟩ := idx_some hb64
        refine TL.tk 6 (.pointer (some ((sadr A6).add (((IntKind.i64.wrap (z21 + 1)).toNat) * 1)))) [] rfl (by kernel_rfl) (fun _ _ _ h => h) o417_ (ixR 7 (e := 3) (s := 1) rfl rfl rfl (fun _ => by kernel_rfl) hi51 hi52 (by rfl) hi53 (by decide)) ?_
        refine TL.all [7] (by kernel_rfl) rfl ⟨?_, trivial⟩
        refine TL.br rfl (W1.storeRow (E := eInt) 11 ((IntKind.i64.wrap (z21 + 1)).toNat) 0 e16 r25 _ (vs := [vi r25]) (by rfl) (by kernel_rfl) rfl rfl (addr_add0 _).symm rfl rfl (fun _ => by kernel_rfl) (one_of rfl) hi53 (Nat.le_of_ble_eq_true (by kernel_rfl)) (fun _ _ h => by cases h; rfl) ?_)
        refine TL.onW (by kernel_rfl) ?_
        refine T.reslot 94 (.slice A6 (((n1.tids.set r10.toNat r11).set ((IntKind.i64.wrap (z21 + 1)).toNat) r25).length) c6) rfl (by simp +zetaDelta only [List.length_set]) ?_
        let v303_ : List Value := [vi n1.kind, .slice A3 n1.elems.length c3, .slice A4 n1.kids.length c4, .slice A5 ((n1.seps.set z21.toNat (DSpot.mk (DKey.mk z36 z37 z38) z39)).length) c5, .slice A6 (((n1.tids.set r10.toNat r11).set ((IntKind.i64.wrap (z21 + 1)).toNat) r25).length) c6]
        refine T.reH (H' := (i174_ :: i157_ :: i156_ :: i154_ :: i97_ :: i39_ :: (box b15 97 v303_) :: (box b10 97 v303_) :: (row 28 eElem A3 c3 n1.elems) :: (row 3 eInt A4 c4 n1.kids) :: i175_ :: (row 3 eInt A6 c6 ((n1.tids.set r10.toNat r11).set ((IntKind.i64.wrap (z21 + 1)).toNat) r25)) :: t165_)) (by first | (simp +zetaDelta only [List.length_set]; done) | (simp +zetaDelta only [List.length_set]; rfl)) ?_
        refine TL.done (by kernel_rfl) ?_
        cases hX12
        exact fun a w' hf hh => ⟨n1.kids, (n1.seps.set z21.toNat (DSpot.mk (DKey.mk z36 z37 z38) z39)), ((n1.tids.set r10.toNat r11).set ((IntKind.i64.wrap (z21 + 1)).toNat) r25), (putAt (putAt (outAt z12 e8) e8 (DNode.mk n7.kind z32 z33 z34 z35)) e9 (DNode.mk z40 z31 z30 z29 z28)), rfl, A4, c4, A5, c5, A6, c6, A5, ((n1.seps.set z21.toNat (DSpot.mk (DKey.mk z36 z37 z38) z39)).length), c5, A6, (((n1.tids.set r10.toNat r11).set ((IntKind.i64.wrap (z21 + 1)).toNat) r25).length), c6, (h344_.set e9.toNat d337_), V13, (vt hV11 hV13), (Fr.sel hf rfl), ((hh.sub (kp1 (dr4 (kp8 (kp1 kpr))))).perm (pt sw0 (pc1 (pt sw0 (pc1 (pt sw0 (pc1 (pt sw0 (pc1 (pt sw0 (pc1 (pt sw0 (pc1 (pt sw0 (pc1 (pt sw0 (pc1 (pt sw0 pz))))))))))))))))))⟩
       rw [hc11, cond_false] at hX12
       refine T.seq ?_
       refine T.heldL 17 (i97_ :: i98_ :: i99_ :: (row 43 eSpot A48 c49 z22) :: i100_ :: i39_ :: i40_ :: i37_ :: (row 28 eElem A3 c3 n1.elems) :: (row 3 eInt A4 c4 n1.kids) :: (row 43 eSpot A5 c5 n1.seps) :: i38_ :: t35_) (by kernel_rfl) ?_
       have w356_ := vt (vt (vt (vt hV1 hV3) hV5) hV6) hV7
       refine TL.keep (Hp.old vr w356_ (kp14 (dr1 kp0)) (oB1 (oR4 (oB3 (oR4 (oB1 (oR1 ol0))))))) fun o418_ => ?_
       refine TL.tv 0 (pB b8 0) rfl (fun _ => by kernel_rfl) (fun _ _ _ h => h) o418_ ?_
       refine TL.tv 1 (pB b8 0) rfl (fun _ => by kernel_rfl) (fun _ _ _ h => h) o418_ ?_
       refine TL.tv 2 (pB b8 0) rfl (fun _ => by kernel_rfl) (fun _ _ _ h => h) o418_ ?_
       refine TL.tv 3 (pB b8 0) rfl (fun _ => by kernel_rfl) (fun _ _ _ h => h) o418_ ?_
       refine TL.tv 4 (pB b8 1) rfl (fun _ => by kernel_rfl) (fun _ _ _ h => h) o418_ ?_
       refine TL.tk 5 (.slice A2 c9.length c2) [] rfl (by kernel_rfl) (fun _ _ _ h => h) o418_ (ld1 12 rfl rfl (fun _ => by kernel_rfl) (by rfl) rfl) ?_
       refine TL.tv 6 (vi e8) rfl (fun _ => by kernel_rfl) (fun _ _ _ h => h) o418_ ?_
       refine TL.tv 7 (pB b8 0) rfl (fun _ => by kernel_rfl) (fun _ _ _ h => h) o418_ ?_
       refine TL.tv 8 (pB b8 0) rfl (fun _ => by kernel_rfl) (fun _ _ _ h => h) o418_ ?_
       refine TL.tv 9 (pB b8 0) rfl (fun _ => by kernel_rfl) (fun _ _ _ h => h) o418_ ?_
       refine TL.tv 10 (pB b8 0) rfl (fun _ => by kernel_rfl) (fun _ _ _ h => h) o418_ ?_
       refine TL.tv 11 (pB b8 1) rfl (fun _ => by kernel_rfl) (fun _ _ _ h => h) o418_ ?_
       refine TL.tk 12 (.slice A2 c9.length c2) [] rfl (by kernel_rfl) (fun _ _ _ h => h) o418_ (ld1 12 rfl rfl (fun _ => by kernel_rfl) (by rfl) rfl) ?_
       refine TL.tv 13 (vi e9) rfl (fun _ => by kernel_rfl) (fun _ _ _ h => h) o418_ ?_
       refine TL.tk 14 (.agg #[vi n7.kind, .slice A46 ((n7.elems ++ n8.elems).length) c47, .slice A47 ((n7.kids ++ n8.kids).length) c48, .slice A48 z22.length c49, .slice A49 ((n7.tids ++ n8.tids).length) c50]) [] rfl (by kernel_rfl) (fun _ _ _ h => h) o418_ (ldN 0 rfl rfl (fun _ => by kernel_rfl) (by rfl) rfl) ?_
       refine TL.tv 15 (.agg #[vi 0, sN, sN, sN, sN]) rfl (fun _ => by kernel_rfl) (fun _ _ _ h => h) o418_ ?_
       obtain ⟨u4, hb65, hX12⟩ := ob hX12
       obtain ⟨hi54, hi55, e17, hx11⟩ := ht7.has hb65
       refine TL.tk 16 (.pointer (some ((sadr A2).add (e8.toNat * 5)))) [] rfl (by kernel_rfl) (fun _ _ _ h => h) o418_ (ixR 13 (e := 97) (s := 5) rfl rfl rfl (fun _ => by kernel_rfl) hi54 hi55 (by rfl) hx11 (by decide)) ?_
       refine TL.all [17] (by kernel_rfl) rfl ⟨?_, trivial⟩
       let d338_ : DHdr := DHdr.mk n7.kind A46 ((n7.elems ++ n8.elems).length) c47 A47 ((n7.kids ++ n8.kids).length) c48 A48 z22.length c49 A49 ((n7.tids ++ n8.tids).length) c50
       refine TL.br rfl (W1.storeRow (E := eHdr) 13 (e8.toNat) 0 e17 d338_ _ (vs := v275_) (by rfl) (by kernel_rfl) rfl rfl (addr_add0 _).symm rfl rfl (fun _ => by kernel_rfl) (one_of rfl) hx11 (Nat.le_of_ble_eq_true (by kernel_rfl)) (fun _ _ h => by cases h; rfl) ?_)
       refine TL.onW (by kernel_rfl) ?_
       let h345_ : List DHdr := c9.set e8.toNat d338_
       refine T.reslot 105 (.slice A2 (h345_.length) c2) rfl (by simp +zetaDelta only [List.length_set]) ?_
       refine T.reslot 112 (.slice A2 (h345_.length) c2) rfl (by simp +zetaDelta only [List.length_set]) ?_
       let i178_ : HObj := box b8 137 [vi r2.root, .slice A2 (h345_.length) c2]
       let i179_ : HObj := row 97 eHdr A2 c2 h345_
       refine T.reH (H' := (i97_ :: i98_ :: i99_ :: (row 43 eSpot A48 c49 z22) :: i100_ :: i39_ :: i40_ :: i37_ :: (row 28 eElem A3 c3 n1.elems) :: (row 3 eInt A4 c4 n1.kids) :: (row 43 eSpot A5 c5 n1.seps) :: i38_ :: i178_ :: i179_ :: i41_ :: G1)) (by first | (simp +zetaDelta only [List.length_set]; done) | (simp +zetaDelta only [List.length_set]; rfl)) ?_
       refine T.putS (ty := (TreeTy.mk 28 3 43)) (i97_ :: i39_ :: i40_ :: i37_ :: (row 28 eElem A3 c3 n1.elems) :: (row 3 eInt A4 c4 n1.kids) :: (row 43 eSpot A5 c5 n1.seps) :: i38_ :: i178_ :: i179_ :: G1) d338_ (DNode.mk n7.kind (n7.elems ++ n8.elems) (n7.kids ++ n8.kids) z22 (n7.tids ++ n8.tids)) (pt sw0 (pc1 (pt sw0 (pc1 (pt sw0 (pc1 (pt sw0 (pc1 (pt sw9 (pt sw8 (pt sw7 (pt sw6 (pt sw5 (pt sw4 (pt sw3 (pt sw2 (pt sw1 (pt sw0 pz)))))))))))))))))) ⟨rfl, rfl, rfl, rfl, rfl⟩ hb65 ?_
       have hb66 := nodeAt_put (n := (DNode.mk n7.kind (n7.elems ++ n8.elems) (n7.kids ++ n8.kids) z22 (n7.tids ++ n8.tids))) hb65
       have hx12 := TreeOk.set_at ht7 d338_ hb65
       let i180_ : HObj := treeo (TreeTy.mk 28 3 43) h345_ (putAt (outAt z12 e8) e8 (DNode.mk n7.kind (n7.elems ++ n8.elems) (n7.kids ++ n8.kids) z22 (n7.tids ++ n8.tids)))
       refine T.reH (H' := (i180_ :: i97_ :: i39_ :: i40_ :: i37_ :: (row 28 eElem A3 c3 n1.elems) :: (row 3 eInt A4 c4 n1.kids) :: (row 43 eSpot A5 c5 n1.seps) :: i38_ :: i178_ :: i179_ :: G1)) (by rfl) ?_
       refine T.tree 0 (by rfl) (fun ht10 => ?_)
       refine TL.all [18] (by kernel_rfl) rfl ⟨?_, trivial⟩
       obtain ⟨u5, hb67, hX12⟩ := ob hX12
       obtain ⟨hi56, hi57, e18, hx13⟩ := ht10.has hb67
       refine TL.br rfl (W1.look (.pointer (some ((sadr A2).add (e9.toNat * 5)))) (by kernel_rfl) (ixR 10 (e := 97) (s := 5) rfl rfl rfl (fun _ => by kernel_rfl) hi56 hi57 (by rfl) hx13 (by decide)) ?_)
       refine TL.onW (by kernel_rfl) ?_
       refine TL.all [19] (by kernel_rfl) rfl ⟨?_, trivial⟩
       let d339_ : DHdr := DHdr.mk 0 none 0 0 none 0 0 none 0 0 none 0 0
       refine TL.br rfl (W1.storeRow (E := eHdr) 10 (e9.toNat) 0 e18 d339_ _ (vs := v239_) (by rfl) (by kernel_rfl) rfl rfl (addr_add0 _).symm rfl rfl (fun _ => by kernel_rfl) (one_of rfl) hx13 (Nat.le_of_ble_eq_true (by kernel_rfl)) (fun _ _ h => by cases h; rfl) ?_)
       refine TL.onW (by kernel_rfl) ?_
       refine T.reslot 105 (.slice A2 ((h345_.set e9.toNat d339_).length) c2) rfl (by simp +zetaDelta only [List.length_set]) ?_
       refine T.reslot 112 (.slice A2 ((h345_.set e9.toNat d339_).length) c2) rfl (by simp +zetaDelta only [List.length_set]) ?_
       let i181_ : HObj := box b8 137 [vi r2.root, .slice A2 ((h345_.set e9.toNat d339_).length) c2]
       let i182_ : HObj := row 97 eHdr A2 c2 (h345_.set e9.toNat d339_)
       let t183_ : List HObj := i181_ :: i182_ :: G1
       let t184_ : List HObj := i38_ :: t183_
       let t185_ : List HObj := (row 43 eSpot A5 c5 n1.seps) :: t184_
       let t186_ : List HObj := (row 3 eInt A4 c4 n1.kids) :: t185_
       let t187_ : List HObj := (row 28 eElem A3 c3 n1.elems) :: t186_
       let t188_ : List HObj := i37_ :: t187_
       let t189_ : List HObj := i40_ :: t188_
       let t190_ : List HObj := i39_ :: t189_
       let t191_ : List HObj := i97_ :: t190_
       refine T.reH (H' := (i180_ :: t191_)) (by first | (simp +zetaDelta only [List.length_set]; done) | (simp +zetaDelta only [List.length_set]; rfl)) ?_
       refine T.rownil 28 eElem ?_
       refine T.rownil 3 eInt ?_
       refine T.rownil 43 eSpot ?_
       refine T.rownil 3 eInt ?_
       refine T.putS (ty := (TreeTy.mk 28 3 43)) t191_ d339_ (DNode.mk 0 [] [] [] []) (pt sw2 (pt sw1 (pt sw0 (pc1 (pt sw1 (pt sw0 (pc1 (pt sw0 pz)))))))) ⟨rfl, rfl, rfl, rfl, rfl⟩ hb67 ?_
       have hb68 := nodeAt_put (n := (DNode.mk 0 [] [] [] [])) hb67
       have hx14 := TreeOk.set_at ht10 d339_ hb67
       let i192_ : HObj := treeo (TreeTy.mk 28 3 43) (h345_.set e9.toNat d339_) (putAt (putAt (outAt z12 e8) e8 (DNode.mk n7.kind (n7.elems ++ n8.elems) (n7.kids ++ n8.kids) z22 (n7.tids ++ n8.tids))) e9 (DNode.mk 0 [] [] [] []))
       refine T.reH (H' := (i192_ :: t191_)) (by rfl) ?_
       refine T.tree 0 (by rfl) (fun ht11 => ?_)
       refine TL.done (by kernel_rfl) ?_
       refine T.seq (T.region (T.pk (pB b15 2) (fun _ => by kernel_rfl) (T.look (.slice A4 n1.kids.length c4) (by kernel_rfl) (ld1 3 rfl rfl (fun _ => by kernel_rfl) (by rfl) rfl) ?_)))
       refine T.p4 (vi z21) (vi (IntKind.i64.wrap (z21 + 1))) (vi z21) (vi (IntKind.i64.wrap (z21 + 2))) (fun _ => by kernel_rfl) ?_
       obtain ⟨y26, hb69, hX12⟩ := ob hX12
       obtain ⟨hy1, hy2, hy3, hy4, rfl⟩ := dels_some hb69
       refine T.step (W1.callI 102 [.slice A4 n1.kids.length c4, vi (IntKind.i64.wrap (z21 + 1)), vi (IntKind.i64.wrap (z21 + 2))] (fun v w' => ∃ (A78 : Option Addr) (c79 : Nat), v = .slice A78 (delAt n1.kids (IntKind.i64.wrap (z21 + 1)).toNat (IntKind.i64.wrap (z21 + 2)).toNat).length c79 ∧ Hp w V7 ((row 3 eInt A78 c79 (delAt n1.kids (IntKind.i64.wrap (z21 + 1)).toNat (IntKind.i64.wrap (z21 + 2)).toNat)) :: i192_ :: i97_ :: i39_ :: i40_ :: i37_ :: (row 28 eElem A3 c3 n1.elems) :: t185_) w') (by kernel_rfl) (fun _ => by kernel_rfl) (fun w' hh => by have hcall := (own_delete_int _ _ (i192_ :: i97_ :: i39_ :: i40_ :: i37_ :: (row 28 eElem A3 c3 n1.elems) :: t185_) w' _ _ _ ((IntKind.i64.wrap (z21 + 1))).toNat ((IntKind.i64.wrap (z21 + 2))).toNat hy3 hy4 (hh.perm (pt sw5 (pt sw4 (pt sw3 (pt sw2 (pt sw1 (pt sw0 pz)))))))); rw [hy1, hy2] at hcall; exact hcall.mono (by rintro e_ w_ ⟨A_, c_, rfl, h_⟩; exact ⟨_, rfl, A_, c_, rfl, h_⟩)) ?_)
       rintro v w' ⟨A78, c79, rfl, hh⟩
       let i193_ : HObj := row 3 eInt A78 c79 (delAt n1.kids (IntKind.i64.wrap (z21 + 1)).toNat (IntKind.i64.wrap (z21 + 2)).toNat)
       refine ⟨V7, (i192_ :: i97_ :: i39_ :: i40_ :: i37_ :: (row 28 eElem A3 c3 n1.elems) :: i193_ :: t185_), hh.perm (pt sw0 (pc1 (pt sw0 (pc1 (pt sw0 (pc1 (pt sw0 (pc1 (pt sw0 (pc1 (pt sw0 pz))))))))))), ?_⟩
       clear hh
       refine T.pk (pB b15 2) (fun _ => by kernel_rfl) ?_
       let v304_ : List Value := [vi n1.kind, .slice A3 n1.elems.length c3, .slice A78 ((delAt n1.kids (IntKind.i64.wrap (z21 + 1)).toNat (IntKind.i64.wrap (z21 + 2)).toNat).length) c79, .slice A5 n1.seps.length c5, .slice A6 ((n1.tids.set r10.toNat r11).length) c6]
       let i194_ : HObj := box b15 97 v304_
       refine T.step (W1.st 3 v304_ (i192_ :: i97_ :: i39_ :: i194_ :: i37_ :: (row 28 eElem A3 c3 n1.elems) :: i193_ :: t185_) [.slice A78 ((delAt n1.kids (IntKind.i64.wrap (z21 + 1)).toNat (IntKind.i64.wrap (z21 + 2)).toNat).length) c79] (by rfl) rfl rfl rfl rfl rfl rfl (fun _ => by kernel_rfl) ?_)
       refine T.nil (T.seq (T.region (T.pk (pB b15 3) (fun _ => by kernel_rfl) (T.look (.slice A5 n1.seps.length c5) (by kernel_rfl) (ld1 3 rfl rfl (fun _ => by kernel_rfl) (by rfl) rfl) ?_))))
       refine T.p3 (vi z21) (vi z21) (vi (IntKind.i64.wrap (z21 + 1))) (fun _ => by kernel_rfl) ?_
       obtain ⟨y27, hb70, hX12⟩ := ob hX12
       obtain ⟨hy5, hy6, hy7, hy8, rfl⟩ := dels_some hb70
       refine T.step (W1.callI 103 [.slice A5 n1.seps.length c5, vi z21, vi (IntKind.i64.wrap (z21 + 1))] (fun v w' => ∃ (A79 : Option Addr) (c80 : Nat), v = .slice A79 (delAt n1.seps z21.toNat (IntKind.i64.wrap (z21 + 1)).toNat).length c80 ∧ Hp w V7 ((row 43 eSpot A79 c80 (delAt n1.seps z21.toNat (IntKind.i64.wrap (z21 + 1)).toNat)) :: i192_ :: i97_ :: i39_ :: i194_ :: i37_ :: (row 28 eElem A3 c3 n1.elems) :: i193_ :: t184_) w') (by kernel_rfl) (fun _ => by kernel_rfl) (fun w' hh => by have hcall := (own_delete_Spot _ _ (i192_ :: i97_ :: i39_ :: i194_ :: i37_ :: (row 28 eElem A3 c3 n1.elems) :: i193_ :: t184_) w' _ _ _ (z21).toNat ((IntKind.i64.wrap (z21 + 1))).toNat hy7 hy8 (hh.perm (pt sw6 (pt sw5 (pt sw4 (pt sw3 (pt sw2 (pt sw1 (pt sw0 pz))))))))); rw [hy5, hy6] at hcall; exact hcall.mono (by rintro e_ w_ ⟨A_, c_, rfl, h_⟩; exact ⟨_, rfl, A_, c_, rfl, h_⟩)) ?_)
       rintro v w' ⟨A79, c80, rfl, hh⟩
       let i195_ : HObj := row 43 eSpot A79 c80 (delAt n1.seps z21.toNat (IntKind.i64.wrap (z21 + 1)).toNat)
       refine ⟨V7, (i192_ :: i97_ :: i39_ :: i194_ :: i37_ :: (row 28 eElem A3 c3 n1.elems) :: i193_ :: i195_ :: t184_), hh.perm (pt sw0 (pc1 (pt sw0 (pc1 (pt sw0 (pc1 (pt sw0 (pc1 (pt sw0 (pc1 (pt sw0 (pc1 (pt sw0 pz))))))))))))), ?_⟩
       clear hh
       refine T.pk (pB b15 3) (fun _ => by kernel_rfl) ?_
       let v305_ : List Value := [vi n1.kind, .slice A3 n1.elems.length c3, .slice A78 ((delAt n1.kids (IntKind.i64.wrap (z21 + 1)).toNat (IntKind.i64.wrap (z21 + 2)).toNat).length) c79, .slice A79 ((delAt n1.seps z21.toNat (IntKind.i64.wrap (z21 + 1)).toNat).length) c80, .slice A6 ((n1.tids.set r10.toNat r11).length) c6]
       let i196_ : HObj := box b15 97 v305_
       refine T.step (W1.st 3 v305_ (i192_ :: i97_ :: i39_ :: i196_ :: i37_ :: (row 28 eElem A3 c3 n1.elems) :: i193_ :: i195_ :: t184_) [.slice A79 ((delAt n1.seps z21.toNat (IntKind.i64.wrap (z21 + 1)).toNat).length) c80] (by rfl) rfl rfl rfl rfl rfl rfl (fun _ => by kernel_rfl) ?_)
       refine T.nil (T.region (T.pk (pB b15 4) (fun _ => by kernel_rfl) (T.look (.slice A6 ((n1.tids.set r10.toNat r11).length) c6) (by kernel_rfl) (ld1 3 rfl rfl (fun _ => by kernel_rfl) (by rfl) rfl) ?_)))
       refine T.p4 (vi z21) (vi (IntKind.i64.wrap (z21 + 1))) (vi z21) (vi (IntKind.i64.wrap (z21 + 2))) (fun _ => by kernel_rfl) ?_
       obtain ⟨y28, hb71, hX12⟩ := ob hX12
       obtain ⟨hy9, hy10, hy11, hy12, rfl⟩ := dels_some hb71
       refine T.step (W1.callI 102 [.slice A6 ((n1.tids.set r10.toNat r11).length) c6, vi (IntKind.i64.wrap (z21 + 1)), vi (IntKind.i64.wrap (z21 + 2))] (fun v w' => ∃ (A80 : Option Addr) (c81 : Nat), v = .slice A80 (delAt (n1.tids.set r10.toNat r11) (IntKind.i64.wrap (z21 + 1)).toNat (IntKind.i64.wrap (z21 + 2)).toNat).length c81 ∧ Hp w V7 ((row 3 eInt A80 c81 (delAt (n1.tids.set r10.toNat r11) (IntKind.i64.wrap (z21 + 1)).toNat (IntKind.i64.wrap (z21 + 2)).toNat)) :: i192_ :: i97_ :: i39_ :: i196_ :: i37_ :: (row 28 eElem A3 c3 n1.elems) :: i193_ :: i195_ :: t183_) w') (by kernel_rfl) (fun _ => by kernel_rfl) (fun w' hh => by have hcall := (own_delete_int _ _ (i192_ :: i97_ :: i39_ :: i196_ :: i37_ :: (row 28 eElem A3 c3 n1.elems) :: i193_ :: i195_ :: t183_) w' _ _ _ ((IntKind.i64.wrap (z21 + 1))).toNat ((IntKind.i64.wrap (z21 + 2))).toNat hy11 hy12 (hh.perm (pt sw7 (pt sw6 (pt sw5 (pt sw4 (pt sw3 (pt sw2 (pt sw1 (pt sw0 pz)))))))))); rw [hy9, hy10] at hcall; exact hcall.mono (by rintro e_ w_ ⟨A_, c_, rfl, h_⟩; exact ⟨_, rfl, A_, c_, rfl, h_⟩)) ?_)
       rintro v w' ⟨A80, c81, rfl, hh⟩
       let i197_ : HObj := row 3 eInt A80 c81 (delAt (n1.tids.set r10.toNat r11) (IntKind.i64.wrap (z21 + 1)).toNat (IntKind.i64.wrap (z21 + 2)).toNat)
       refine ⟨V7, (i192_ :: i97_ :: i39_ :: i196_ :: i37_ :: (row 28 eElem A3 c3 n1.elems) :: i193_ :: i195_ :: i197_ :: t183_), hh.perm (pt sw0 (pc1 (pt sw0 (pc1 (pt sw0 (pc1 (pt sw0 (pc1 (pt sw0 (pc1 (pt sw0 (pc1 (pt sw0 (pc1 (pt sw0 pz))))))))))))))), ?_⟩
       clear hh
       refine T.pk (pB b15 4) (fun _ => by kernel_rfl) ?_
       let v306_ : List Value := [vi n1.kind, .slice A3 n1.elems.length c3, .slice A78 ((delAt n1.kids (IntKind.i64.wrap (z21 + 1)).toNat (IntKind.i64.wrap (z21 + 2)).toNat).length) c79, .slice A79 ((delAt n1.seps z21.toNat (IntKind.i64.wrap (z21 + 1)).toNat).length) c80, .slice A80 ((delAt (n1.tids.set r10.toNat r11) (IntKind.i64.wrap (z21 + 1)).toNat (IntKind.i64.wrap (z21 + 2)).toNat).length) c81]
       refine T.step (W1.st 3 v306_ (i192_ :: i97_ :: i39_ :: (box b15 97 v306_) :: i37_ :: (row 28 eElem A3 c3 n1.elems) :: i193_ :: i195_ :: i197_ :: t183_) [.slice A80 ((delAt (n1.tids.set r10.toNat r11) (IntKind.i64.wrap (z21 + 1)).toNat (IntKind.i64.wrap (z21 + 2)).toNat).length) c81] (by rfl) rfl rfl rfl rfl rfl rfl (fun _ => by kernel_rfl) ?_)
       refine T.nil ?_
       cases hX12
       exact fun a w' hf hh => ⟨(delAt n1.kids (IntKind.i64.wrap (z21 + 1)).toNat (IntKind.i64.wrap (z21 + 2)).toNat), (delAt n1.seps z21.toNat (IntKind.i64.wrap (z21 + 1)).toNat), (delAt (n1.tids.set r10.toNat r11) (IntKind.i64.wrap (z21 + 1)).toNat (IntKind.i64.wrap (z21 + 2)).toNat), (putAt (putAt (outAt z12 e8) e8 (DNode.mk n7.kind (n7.elems ++ n8.elems) (n7.kids ++ n8.kids) z22 (n7.tids ++ n8.tids))) e9 (DNode.mk 0 [] [] [] [])), rfl, A78, c79, A79, c80, A80, c81, A5, n1.seps.length, c5, A6, ((n1.tids.set r10.toNat r11).length), c6, (h345_.set e9.toNat d339_), V7, vr, (Fr.sel hf rfl), ((hh.sub (kp1 (dr1 (kp8 (kp1 kpr))))).perm (pt sw0 (pc1 (pt sw0 (pc1 (pt sw0 (pc1 (pt sw0 (pc1 (pt sw0 (pc1 (pt sw0 (pc1 (pt sw0 (pc1 (pt sw0 (pc1 (pt sw0 pz))))))))))))))))))⟩
      rintro a w' ⟨z24, z25, z26, z27, rfl, A58, c59, A59, c60, A60, c61, A61, n9, c62, A62, n10, c63, hs7, V10, hV10, hf, hh⟩
      try dsimp only at hX8
      let i198_ : HObj := box b15 97 [vi n1.kind, .slice A3 n1.elems.length c3, .slice A58 z24.length c59, .slice A59 z25.length c60, .slice A60 z26.length c61]
      let i199_ : HObj := box b10 97 [vi n1.kind, .slice A3 n1.elems.length c3, .slice A4 n1.kids.length c4, .slice A61 n9 c62, .slice A62 n10 c63]
      let i200_ : HObj := box b8 137 [vi r2.root, .slice A2 hs7.length c2]
      let i201_ : HObj := treeo (TreeTy.mk 28 3 43) hs7 z27
      let t202_ : List HObj := (row 97 eHdr A2 c2 hs7) :: i201_ :: G1
      let t203_ : List HObj := i200_ :: t202_
      refine (?_ : T 156 w V10 (i39_ :: i198_ :: i199_ :: (row 28 eElem A3 c3 n1.elems) :: (row 3 eInt A58 c59 z24) :: (row 43 eSpot A59 c60 z25) :: (row 3 eInt A60 c61 z26) :: t203_) [(0, pB b8 0), (2, vi z21), (4, pB b15 0), (6, pB b16 0), (7, vi e8)] _) a w' hf hh
      clear hf hh
      refine T.seq ?_
      refine T.tree 9 (by rfl) (fun ht12 => ?_)
      refine T.heldL 14 (i39_ :: i198_ :: i199_ :: (row 28 eElem A3 c3 n1.elems) :: (row 3 eInt A58 c59 z24) :: (row 43 eSpot A59 c60 z25) :: (row 3 eInt A60 c61 z26) :: i200_ :: (row 97 eHdr A2 c2 hs7) :: []) (by kernel_rfl) ?_
      have w357_ := vt (vt (vt (vt (vt hV1 hV3) hV5) hV6) hV7) hV10
      refine TL.keep (Hp.old vr w357_ (kp9 (dr1 kp0)) (oB3 (oR4 (oB1 (oR1 ol0))))) fun o419_ => ?_
      refine TL.tv 0 (pB b15 4) rfl (fun _ => by kernel_rfl) (fun _ _ _ h => h) o419_ ?_
      refine TL.tk 1 (.slice A60 z26.length c61) [] rfl (by kernel_rfl) (fun _ _ _ h => h) o419_ (ld1 1 rfl rfl (fun _ => by kernel_rfl) (by rfl) rfl) ?_
      refine TL.tv 2 (vi z21) rfl (fun _ => by kernel_rfl) (fun _ _ _ h => h) o419_ ?_
      refine TL.tv 3 (pB b8 0) rfl (fun _ => by kernel_rfl) (fun _ _ _ h => h) o419_ ?_
      refine TL.tv 4 (pB b8 0) rfl (fun _ => by kernel_rfl) (fun _ _ _ h => h) o419_ ?_
      refine TL.tv 5 (pB b8 0) rfl (fun _ => by kernel_rfl) (fun _ _ _ h => h) o419_ ?_
      refine TL.tv 6 (pB b8 0) rfl (fun _ => by kernel_rfl) (fun _ _ _ h => h) o419_ ?_
      refine TL.tv 7 (pB b8 1) rfl (fun _ => by kernel_rfl) (fun _ _ _ h => h) o419_ ?_
      refine TL.tk 8 (.slice A2 hs7.length c2) [] rfl (by kernel_rfl) (fun _ _ _ h => h) o419_ (ld1 7 rfl rfl (fun _ => by kernel_rfl) (by rfl) rfl) ?_
      refine TL.tv 9 (vi e8) rfl (fun _ => by kernel_rfl) (fun _ _ _ h => h) o419_ ?_
      obtain ⟨n15, hb72, hX8⟩ := ob hX8
      obtain ⟨A81, c82, A82, c83, A83, c84, A84, c85, hi58, hi59, hx15⟩ := ht12.at_ hb72
      refine TL.tk 10 (.pointer (some ((sadr A2).add (e8.toNat * 5)))) [] rfl (by kernel_rfl) (fun _ _ _ h => h) o419_ (ixR 8 (e := 97) (s := 5) rfl rfl rfl (fun _ => by kernel_rfl) hi58 hi59 (by rfl) hx15 (by decide)) ?_
      let a334_ : Value := .agg #[vi n15.kind, .slice A81 n15.elems.length c82, .slice A82 n15.kids.length c83, .slice A83 n15.seps.length c84, .slice A84 n15.tids.length c85]
      refine TL.tk 11 a334_ [] rfl (by kernel_rfl) (fun _ _ _ h => h) o419_ (fun w' hh => exec_loadN (cs := [vi n15.kind, .slice A81 n15.elems.length c82, .slice A82 n15.kids.length c83, .slice A83 n15.seps.length c84, .slice A84 n15.tids.length c85]) rfl rfl (by kernel_rfl) (by kernel_rfl) (fun j u hj => (SlOk.wcellF (E := eHdr) (hh.row_slOk (i := 8) (by rfl)) hx15 j (fun _ _ _ h => h) hj))) ?_
      refine TL.all [12] (by kernel_rfl) rfl ⟨?_, trivial⟩
      obtain ⟨r30, hb73, hX8⟩ := ob hX8
      refine TL.br rfl (W1.call (vSc eInt) r30 60 #[a334_] (by kernel_rfl) (fun _ => by kernel_rfl) (fun w' hh => node_Greatest_l F n15 r30 hb73 w' A81 c82 (hh.lent (i := 9) (by rfl) hb72 hx15).1 A82 c83 (hh.lent (i := 9) (by rfl) hb72 hx15).2.1 A83 c84 (hh.lent (i := 9) (by rfl) hb72 hx15).2.2.1 A84 c85 (hh.lent (i := 9) (by rfl) hb72 hx15).2.2.2) ?_)
      intro u V14 hV14 hu
      obtain rfl := sureInt _ _ _ hu
      refine TL.onk (Hp.old hV14 w357_ (kp9 (dr1 kp0)) (oB3 (oR4 (oB1 (oR1 ol0))))) fun o420_ => ?_
      obtain ⟨e19, hb74, hX8⟩ := ob hX8
      obtain ⟨hi60, hi61, hi62⟩ := idx_some hb74
      refine TL.tk 13 (.pointer (some ((sadr A60).add (z21.toNat * 1)))) [] rfl (by kernel_rfl) (fun _ _ _ h => h) o420_ (ixR 6 (e := 3) (s := 1) rfl rfl rfl (fun _ => by kernel_rfl) hi60 hi61 (by rfl) hi62 (by decide)) ?_
      refine TL.all [14] (by kernel_rfl) rfl ⟨?_, trivial⟩
      refine TL.br rfl (W1.storeRow (E := eInt) 6 (z21.toNat) 0 e19 r30 _ (vs := [vi r30]) (by rfl) (by kernel_rfl) rfl rfl (addr_add0 _).symm rfl rfl (fun _ => by kernel_rfl) (one_of rfl) hi62 (Nat.le_of_ble_eq_true (by kernel_rfl)) (fun _ _ h => by cases h; rfl) ?_)
      refine TL.onW (by kernel_rfl) ?_
      refine T.reslot 142 (.slice A60 ((z26.set z21.toNat r30).length) c61) rfl (by simp +zetaDelta only [List.length_set]) ?_
      let v307_ : List Value := [vi n1.kind, .slice A3 n1.elems.length c3, .slice A58 z24.length c59, .slice A59 z25.length c60, .slice A60 ((z26.set z21.toNat r30).length) c61]
      let i204_ : HObj := box b15 97 v307_
      let i205_ : HObj := row 3 eInt A60 c61 (z26.set z21.toNat r30)
      refine T.reH (H' := (i39_ :: i204_ :: i199_ :: (row 28 eElem A3 c3 n1.elems) :: (row 3 eInt A58 c59 z24) :: (row 43 eSpot A59 c60 z25) :: i205_ :: t203_)) (by first | (simp +zetaDelta only [List.length_set]; done) | (simp +zetaDelta only [List.length_set]; rfl)) ?_
      refine TL.done (by kernel_rfl) ?_
      refine T.seq (T.region (T.look (.agg #[vi n1.kind, .slice A3 n1.elems.length c3, .slice A58 z24.length c59, .slice A59 z25.length c60, .slice A60 ((z26.set z21.toNat r30).length) c61]) (by kernel_rfl) (ldN 1 rfl rfl (fun _ => by kernel_rfl) (by rfl) rfl) ?_))
      refine T.step (W1.st 0 v307_ ((box b16 97 v307_) :: i204_ :: i199_ :: (row 28 eElem A3 c3 n1.elems) :: (row 3 eInt A58 c59 z24) :: (row 43 eSpot A59 c60 z25) :: i205_ :: t203_) v307_ (by rfl) rfl rfl rfl rfl rfl rfl (fun _ => by kernel_rfl) ?_)
      refine T.nil ?_
      cases hX8
      refine T.ret rfl ?_
      exact T.ret1 rfl (ResIs.cellN 0 rfl (by rfl) (fun _ => by kernel_rfl) (fun _ => by kernel_rfl)) fun w' hh => ⟨_, rfl, ⟨z24, z25, (z26.set z21.toNat r30), z27, rfl, A61, n9, c62, A62, n10, c63, A58, c59, A59, c60, A60, c61, hs7, V14, (vt hV10 hV14), rfl, (hh.sub (dr2 (kp7 (kp1 kpr))))⟩⟩
     rintro v w' ⟨z17, z18, z19, z20, rfl, A16, n5, c17, A17, n6, c18, A18, c19, A19, c20, A20, c21, hs6, V9, hV9, rfl, hh⟩
     try dsimp only at hX7
     let i206_ : HObj := box b8 137 [vi r2.root, .slice A2 hs6.length c2]
     let i207_ : HObj := treeo (TreeTy.mk 28 3 43) hs6 z20
     refine ⟨V9, ((box b10 97 [vi n1.kind, .slice A3 n1.elems.length c3, .slice A4 n1.kids.length c4, .slice A16 n5 c17, .slice A17 n6 c18]) :: (row 28 eElem A3 c3 n1.elems) :: (row 3 eInt A18 c19 z17) :: (row 43 eSpot A19 c20 z18) :: (row 3 eInt A20 c21 z19) :: i206_ :: (row 97 eHdr A2 c2 hs6) :: i207_ :: G1), hh, ?_⟩
     clear hh
     let v308_ : List Value := [vi n1.kind, .slice A3 n1.elems.length c3, .slice A18 z17.length c19, .slice A19 z18.length c20, .slice A20 z19.length c21]
     refine T.step (W1.st 0 v308_ ((box b10 97 v308_) :: (row 28 eElem A3 c3 n1.elems) :: (row 3 eInt A18 c19 z17) :: (row 43 eSpot A19 c20 z18) :: (row 3 eInt A20 c21 z19) :: i206_ :: (row 97 eHdr A2 c2 hs6) :: i207_ :: G1) v308_ (by rfl) rfl rfl rfl rfl rfl rfl (fun _ => by kernel_rfl) ?_)
     refine T.nil ?_
     cases hX7
     exact fun a w' hf hh => ⟨z17, z18, z19, z20, rfl, A18, c19, A19, c20, A20, c21, hs6, V9, hV9, (Fr.sel hf rfl), (hh.sub (kp7 (kp1 kpr)))⟩
    rw [hc8, cond_false] at hX7
    refine T.skip_code ?_
    cases hX7
    exact fun a w' hf hh => ⟨n1.kids, n1.seps, (n1.tids.set r10.toNat r11), z12, rfl, A4, c4, A5, c5, A6, c6, c9, V7, vr, (Fr.sel hf rfl), (hh.sub (dr1 (kp5 (dr1 (kp2 (kp1 kpr))))))⟩
   rintro a w' ⟨z13, z14, z15, z16, rfl, A13, c14, A14, c15, A15, c16, hs5, V8, hV8, hf, hh⟩
   try dsimp only at hS1
   let v309_ : List Value := [vi n1.kind, .slice A3 n1.elems.length c3, .slice A13 z13.length c14, .slice A14 z14.length c15, .slice A15 z15.length c16]
   let i208_ : HObj := box b10 97 v309_
   let i209_ : HObj := box b8 137 [vi r2.root, .slice A2 hs5.length c2]
   let i210_ : HObj := treeo (TreeTy.mk 28 3 43) hs5 z16
   refine (?_ : T 86 w V8 (i208_ :: (row 28 eElem A3 c3 n1.elems) :: (row 3 eInt A13 c14 z13) :: (row 43 eSpot A14 c15 z14) :: (row 3 eInt A15 c16 z15) :: i209_ :: (row 97 eHdr A2 c2 hs5) :: i210_ :: G1) [(0, pB b8 0), (1, vi x2), (6, pB b10 0)] _) a w' hf hh
   clear hf hh
   refine T.tree 7 (by rfl) (fun ht13 => ?_)
   refine T.heldL 9 (i208_ :: (row 28 eElem A3 c3 n1.elems) :: (row 3 eInt A13 c14 z13) :: (row 43 eSpot A14 c15 z14) :: (row 3 eInt A15 c16 z15) :: i209_ :: (row 97 eHdr A2 c2 hs5) :: []) (by kernel_rfl) ?_
   have w358_ := vt (vt (vt (vt (vt hV1 hV3) hV5) hV6) hV7) hV8
   refine TL.keep (Hp.old vr w358_ (kp7 (dr1 kp0)) (oB1 (oR4 (oB1 (oR1 ol0))))) fun o421_ => ?_
   refine TL.tv 0 (pB b8 0) rfl (fun _ => by kernel_rfl) (fun _ _ _ h => h) o421_ ?_
   refine TL.tv 1 (pB b8 0) rfl (fun _ => by kernel_rfl) (fun _ _ _ h => h) o421_ ?_
   refine TL.tv 2 (pB b8 0) rfl (fun _ => by kernel_rfl) (fun _ _ _ h => h) o421_ ?_
   refine TL.tv 3 (pB b8 0) rfl (fun _ => by kernel_rfl) (fun _ _ _ h => h) o421_ ?_
   refine TL.tv 4 (pB b8 1) rfl (fun _ => by kernel_rfl) (fun _ _ _ h => h) o421_ ?_
   refine TL.tk 5 (.slice A2 hs5.length c2) [] rfl (by kernel_rfl) (fun _ _ _ h => h) o421_ (ld1 5 rfl rfl (fun _ => by kernel_rfl) (by rfl) rfl) ?_
   refine TL.tv 6 (vi x2) rfl (fun _ => by kernel_rfl) (fun _ _ _ h => h) o421_ ?_
   refine TL.tk 7 (.agg #[vi n1.kind, .slice A3 n1.elems.length c3, .slice A13 z13.length c14, .slice A14 z14.length c15, .slice A15 z15.length c16]) [] rfl (by kernel_rfl) (fun _ _ _ h => h) o421_ (ldN 0 rfl rfl (fun _ => by kernel_rfl) (by rfl) rfl) ?_
   obtain ⟨u6, hb75, hS1⟩ := ob hS1
   obtain ⟨hi63, hi64, e20, hx16⟩ := ht13.has hb75
   refine TL.tk 8 (.pointer (some ((sadr A2).add (x2.toNat * 5)))) [] rfl (by kernel_rfl) (fun _ _ _ h => h) o421_ (ixR 6 (e := 97) (s := 5) rfl rfl rfl (fun _ => by kernel_rfl) hi63 hi64 (by rfl) hx16 (by decide)) ?_
   refine TL.all [9] (by kernel_rfl) rfl ⟨?_, trivial⟩
   let d340_ : DHdr := DHdr.mk n1.kind A3 n1.elems.length c3 A13 z13.length c14 A14 z14.length c15 A15 z15.length c16
   refine TL.br rfl (W1.storeRow (E := eHdr) 6 (x2.toNat) 0 e20 d340_ _ (vs := v309_) (by rfl) (by kernel_rfl) rfl rfl (addr_add0 _).symm rfl rfl (fun _ => by kernel_rfl) (one_of rfl) hx16 (Nat.le_of_ble_eq_true (by kernel_rfl)) (fun _ _ h => by cases h; rfl) ?_)
   refine TL.onW (by kernel_rfl) ?_
   let h346_ : List DHdr := hs5.set x2.toNat d340_
   refine T.reslot 82 (.slice A2 (h346_.length) c2) rfl (by simp +zetaDelta only [List.length_set]) ?_
   let i211_ : HObj := box b8 137 [vi r2.root, .slice A2 (h346_.length) c2]
   let i212_ : HObj := row 97 eHdr A2 c2 h346_
   refine T.reH (H' := (i208_ :: (row 28 eElem A3 c3 n1.elems) :: (row 3 eInt A13 c14 z13) :: (row 43 eSpot A14 c15 z14) :: (row 3 eInt A15 c16 z15) :: i211_ :: i212_ :: i210_ :: G1)) (by first | (simp +zetaDelta only [List.length_set]; done) | (simp +zetaDelta only [List.length_set]; rfl)) ?_
   refine T.putS (ty := (TreeTy.mk 28 3 43)) (i208_ :: i211_ :: i212_ :: G1) d340_ (DNode.mk n1.kind n1.elems z13 z14 z15) (pt sw0 (pc1 (pt sw0 (pc1 (pt sw0 (pc1 (pt sw0 (pc1 (pt sw2 (pt sw1 (pt sw0 pz))))))))))) ⟨rfl, rfl, rfl, rfl, rfl⟩ hb75 ?_
   have hb76 := nodeAt_put (n := (DNode.mk n1.kind n1.elems z13 z14 z15)) hb75
   have hx17 := TreeOk.set_at ht13 d340_ hb75
   refine T.reH (H' := ((treeo (TreeTy.mk 28 3 43) h346_ (putAt z16 x2 (DNode.mk n1.kind n1.elems z13 z14 z15))) :: i208_ :: i211_ :: i212_ :: G1)) (by rfl) ?_
   refine T.tree 0 (by rfl) (fun ht14 => ?_)
   refine TL.done (by kernel_rfl) ?_
   have hres := Option.some.inj hS1
   subst hres
   exact T.end0 rfl  fun w' hh => ⟨_, rfl, ⟨(putAt z16 x2 (DNode.mk n1.kind n1.elems z13 z14 z15)), rfl, h346_, V8, (vt (vt (vt hV5 hV6) hV7) hV8), rfl, ((hh.sub (kp1 (dr1 (kp1 (kp1 kpr))))).perm (pt sw0 (pc1 (pt sw0 pz))))⟩⟩
  let i213_ : HObj := box b5 24 v237_
  refine TL.br rfl (W1.callI 78 [pB b8 0, vi r2.root, a316_] (fun v w' => ∃ (q2x : List (Int ⊕ DNode)), q2 = q2x ∧ ∃ (c86 : List DHdr) (V15 : View), View.le V1 V15 ∧ v = .tuple #[] ∧ Hp w V15 ((box b8 137 [vi r2.root, .slice A2 c86.length c2]) :: (row 97 eHdr A2 c2 c86) :: (treeo (TreeTy.mk 28 3 43) c86 q2x) :: i9_ :: i10_ :: i213_ :: t7_) w') (by kernel_rfl) (fun _ => by kernel_rfl) (fun w' hh => hq1 (r2.nodes.map Sum.inr) r2.root rfl V1 (i9_ :: i10_ :: i213_ :: t7_) w' vr ((hh.sub (kp9 (kp1 kp0))).perm (pc1 (pt sw2 (pt sw1 (pt sw0 (pc1 (pt sw2 (pt sw1 (pt sw0 pz)))))))))) ?_)
  rintro v w' ⟨q2x, rfl, c86, V15, hV15, rfl, hh⟩
  try dsimp only at hX1
  let i214_ : HObj := box b8 137 [vi r2.root, .slice A2 c86.length c2]
  refine ⟨V15, (i214_ :: i9_ :: i10_ :: i213_ :: (row 97 eHdr A2 c2 c86) :: (treeo (TreeTy.mk 28 3 43) c86 q2) :: t7_), (hh.sub (kp9 (kp1 kp0))).perm (pc1 (pt sw1 (pt sw0 (pc1 (pt sw1 (pt sw0 (pc1 (pt sw1 (pt sw0 pz))))))))), ?_⟩
  clear hh
  refine TL.onW (by kernel_rfl) ?_
  refine TL.done (by kernel_rfl) ?_
  obtain ⟨q10, hX14, hX1⟩ := ob hX1
  refine T.cut (fun a w' => ∃ (z41 : Int) (z42 : List (Int ⊕ DNode)), q10 = (z41, z42) ∧ ∃ (hs8 : List DHdr), Fr 66 [(4, pB b7 0), (5, pB b8 0)] a ∧ Hp w V15 ((box b8 137 [vi z41, .slice A2 hs8.length c2]) :: i9_ :: (row 97 eHdr A2 c2 hs8) :: (treeo (TreeTy.mk 28 3 43) hs8 z42) :: t6_) w') ?_ ?_
  ·
   refine T.seq ?_
   refine T.tree 5 (by rfl) (fun ht15 => ?_)
   refine T.held (i214_ :: i9_ :: (row 97 eHdr A2 c2 c86) :: t6_) (by kernel_rfl) ?_
   refine TA.keep (Hp.old vr (vt hV1 hV15) (kp2 (dr2 (kp1 (dr2 (kp2 (kp1 kp0)))))) (oB2 (oR1 (oB2 (oB1 ol0))))) fun o422_ => ?_
   refine TA.tp 0 (pB b8 0) rfl (fun _ => by kernel_rfl) (fun _ _ _ h => h) o422_ ?_
   refine TA.tp 1 (pB b8 0) rfl (fun _ => by kernel_rfl) (fun _ _ _ h => h) o422_ ?_
   refine TA.tp 2 (pB b8 0) rfl (fun _ => by kernel_rfl) (fun _ _ _ h => h) o422_ ?_
   refine TA.tp 3 (pB b8 0) rfl (fun _ => by kernel_rfl) (fun _ _ _ h => h) o422_ ?_
   refine TA.tp 4 (pB b8 1) rfl (fun _ => by kernel_rfl) (fun _ _ _ h => h) o422_ ?_
   refine TA.tk 5 (.slice A2 c86.length c2) rfl (by kernel_rfl) (fun _ _ _ h => h) o422_ (ld1 0 rfl rfl (fun _ => by kernel_rfl) (by rfl) rfl) ?_
   refine TA.tp 6 (pB b8 0) rfl (fun _ => by kernel_rfl) (fun _ _ _ h => h) o422_ ?_
   refine TA.tp 7 (pB b8 0) rfl (fun _ => by kernel_rfl) (fun _ _ _ h => h) o422_ ?_
   refine TA.tp 8 (pB b8 0) rfl (fun _ => by kernel_rfl) (fun _ _ _ h => h) o422_ ?_
   refine TA.tp 9 (pB b8 0) rfl (fun _ => by kernel_rfl) (fun _ _ _ h => h) o422_ ?_
   refine TA.tp 10 (pB b8 0) rfl (fun _ => by kernel_rfl) (fun _ _ _ h => h) o422_ ?_
   refine TA.tk 11 (vi r2.root) rfl (by kernel_rfl) (fun _ _ _ h => h) o422_ (ld1 0 rfl rfl (fun _ => by kernel_rfl) (by rfl) rfl) ?_
   obtain ⟨n17, hb77, hX14⟩ := ob hX14
   obtain ⟨A85, c87, A86, c88, A87, c89, A88, c90, hi65, hi66, hx18⟩ := ht15.at_ hb77
   refine TA.tk 12 (.pointer (some ((sadr A2).add (r2.root.toNat * 5)))) rfl (by kernel_rfl) (fun _ _ _ h => h) o422_ (ixR 2 (e := 97) (s := 5) rfl rfl rfl (fun _ => by kernel_rfl) hi65 hi66 (by rfl) hx18 (by decide)) ?_
   let v310_ : List Value := [vi n17.kind, .slice A85 n17.elems.length c87, .slice A86 n17.kids.length c88, .slice A87 n17.seps.length c89, .slice A88 n17.tids.length c90]
   refine TA.tk 13 (.agg #[vi n17.kind, .slice A85 n17.elems.length c87, .slice A86 n17.kids.length c88, .slice A87 n17.seps.length c89, .slice A88 n17.tids.length c90]) rfl (by kernel_rfl) (fun _ _ _ h => h) o422_ (fun w' hh => exec_loadN (cs := v310_) rfl rfl (by kernel_rfl) (by kernel_rfl) (fun j u hj => (SlOk.wcellF (E := eHdr) (hh.row_slOk (i := 2) (by rfl)) hx18 j (fun _ _ _ h => h) hj))) ?_
   let d341_ : DHdr := DHdr.mk n17.kind A85 n17.elems.length c87 A86 n17.kids.length c88 A87 n17.seps.length c89 A88 n17.tids.length c90
   refine T.takeN (ty := (TreeTy.mk 28 3 43)) (h := d341_) 5 (by rfl) hb77 hx18 rfl ?_
   let i215_ : HObj := row 28 eElem A85 c87 n17.elems
   let i216_ : HObj := row 43 eSpot A87 c89 n17.seps
   let i217_ : HObj := treeo (TreeTy.mk 28 3 43) c86 (outAt q2 r2.root)
   let t218_ : List HObj := i217_ :: t7_
   refine T.reH (H' := (i215_ :: (row 3 eInt A86 c88 n17.kids) :: i216_ :: (row 3 eInt A88 c90 n17.tids) :: i214_ :: i9_ :: i10_ :: i213_ :: (row 97 eHdr A2 c2 c86) :: t218_)) (by rfl) ?_
   refine T.tree 9 (by rfl) (fun ht16 => ?_)
   refine TA.all [14] (by kernel_rfl) rfl ⟨?_, trivial⟩
   let v311_ : List Value := [vi 0, sN, sN, sN, sN]
   refine TA.br rfl (W1.np 97 v311_ (fun _ => by kernel_rfl) (fun b40 => ?_))
   refine TA.on (Hp.old vr (vt hV1 hV15) (dr5 (kp2 (dr2 (kp1 (dr2 (kp2 (kp1 kp0))))))) (oB2 (oR1 (oB2 (oB1 ol0))))) ?_
   refine TA.all [15] (by kernel_rfl) rfl ⟨?_, trivial⟩
   let i219_ : HObj := box b40 97 v310_
   refine TA.br rfl (W1.st 0 v310_ (i219_ :: i215_ :: (row 3 eInt A86 c88 n17.kids) :: i216_ :: (row 3 eInt A88 c90 n17.tids) :: i214_ :: i9_ :: i10_ :: i213_ :: (row 97 eHdr A2 c2 c86) :: t218_) v310_ (by rfl) rfl rfl rfl rfl rfl rfl (fun _ => by kernel_rfl) ?_)
   refine TA.on (Hp.old vr (vt hV1 hV15) (dr5 (kp2 (dr2 (kp1 (dr2 (kp2 (kp1 kp0))))))) (oB2 (oR1 (oB2 (oB1 ol0))))) ?_
   refine TA.done (by kernel_rfl) ?_
   refine T.seq (T.region (T.pk (pB b40 2) (fun _ => by kernel_rfl) (T.look (.slice A86 n17.kids.length c88) (by kernel_rfl) (ld1 0 rfl rfl (fun _ => by kernel_rfl) (by rfl) rfl) ?_)))
   refine T.p2 (vi (n17.kids.length : Int)) (.bool ((n17.kids.length : Int) == 1)) (fun _ => by kernel_rfl) (T.nil ?_)
   refine T.cond ((n17.kids.length : Int) == 1) (by kernel_rfl) (by kernel_rfl) (fun hc13 => ?_) (fun hc13 => ?_)
   ·
    rw [hc13, cond_true] at hX14
    refine T.seq ?_
    refine T.heldL 14 (i219_ :: i215_ :: (row 3 eInt A86 c88 n17.kids) :: i216_ :: (row 3 eInt A88 c90 n17.tids) :: i214_ :: i9_ :: (row 97 eHdr A2 c2 c86) :: t6_) (by kernel_rfl) ?_
    refine TL.keep (Hp.old vr (vt hV1 hV15) (kp7 (dr2 (kp1 (dr2 (kp2 (kp1 kp0)))))) (oB1 (oR4 (oB2 (oR1 (oB2 (oB1 ol0))))))) fun o423_ => ?_
    refine TL.tv 0 (pB b8 0) rfl (fun _ => by kernel_rfl) (fun _ _ _ h => h) o423_ ?_
    refine TL.tv 1 (pB b8 0) rfl (fun _ => by kernel_rfl) (fun _ _ _ h => h) o423_ ?_
    refine TL.tv 2 (pB b8 0) rfl (fun _ => by kernel_rfl) (fun _ _ _ h => h) o423_ ?_
    refine TL.tv 3 (pB b8 0) rfl (fun _ => by kernel_rfl) (fun _ _ _ h => h) o423_ ?_
    refine TL.tv 4 (pB b8 1) rfl (fun _ => by kernel_rfl) (fun _ _ _ h => h) o423_ ?_
    refine TL.tk 5 (.slice A2 c86.length c2) [] rfl (by kernel_rfl) (fun _ _ _ h => h) o423_ (ld1 5 rfl rfl (fun _ => by kernel_rfl) (by rfl) rfl) ?_
    refine TL.tv 6 (pB b8 0) rfl (fun _ => by kernel_rfl) (fun _ _ _ h => h) o423_ ?_
    refine TL.tv 7 (pB b8 0) rfl (fun _ => by kernel_rfl) (fun _ _ _ h => h) o423_ ?_
    refine TL.tv 8 (pB b8 0) rfl (fun _ => by kernel_rfl) (fun _ _ _ h => h) o423_ ?_
    refine TL.tv 9 (pB b8 0) rfl (fun _ => by kernel_rfl) (fun _ _ _ h => h) o423_ ?_
    refine TL.tv 10 (pB b8 0) rfl (fun _ => by kernel_rfl) (fun _ _ _ h => h) o423_ ?_
    refine TL.tk 11 (vi r2.root) [] rfl (by kernel_rfl) (fun _ _ _ h => h) o423_ (ld1 5 rfl rfl (fun _ => by kernel_rfl) (by rfl) rfl) ?_
    refine TL.tv 12 (.agg #[vi 0, sN, sN, sN, sN]) rfl (fun _ => by kernel_rfl) (fun _ _ _ h => h) o423_ ?_
    obtain ⟨u7, hb78, hX14⟩ := ob hX14
    obtain ⟨hi67, hi68, e21, hx19⟩ := ht16.has hb78
    refine TL.tk 13 (.pointer (some ((sadr A2).add (r2.root.toNat * 5)))) [] rfl (by kernel_rfl) (fun _ _ _ h => h) o423_ (ixR 7 (e := 97) (s := 5) rfl rfl rfl (fun _ => by kernel_rfl) hi67 hi68 (by rfl) hx19 (by decide)) ?_
    refine TL.all [14] (by kernel_rfl) rfl ⟨?_, trivial⟩
    let d342_ : DHdr := DHdr.mk 0 none 0 0 none 0 0 none 0 0 none 0 0
    refine TL.br rfl (W1.storeRow (E := eHdr) 9 (r2.root.toNat) 0 e21 d342_ _ (vs := v311_) (by rfl) (by kernel_rfl) rfl rfl (addr_add0 _).symm rfl rfl (fun _ => by kernel_rfl) (one_of rfl) hx19 (Nat.le_of_ble_eq_true (by kernel_rfl)) (fun _ _ h => by cases h; rfl) ?_)
    refine TL.onW (by kernel_rfl) ?_
    let h347_ : List DHdr := c86.set r2.root.toNat d342_
    refine T.reslot 25 (.slice A2 (h347_.length) c2) rfl (by simp +zetaDelta only [List.length_set]) ?_
    refine T.reslot 43 (.slice A2 (h347_.length) c2) rfl (by simp +zetaDelta only [List.length_set]) ?_
    let i220_ : HObj := box b8 137 [vi r2.root, .slice A2 (h347_.length) c2]
    let i221_ : HObj := row 97 eHdr A2 c2 h347_
    refine T.reH (H' := (i219_ :: i215_ :: (row 3 eInt A86 c88 n17.kids) :: i216_ :: (row 3 eInt A88 c90 n17.tids) :: i220_ :: i9_ :: i10_ :: i213_ :: i221_ :: t218_)) (by first | (simp +zetaDelta only [List.length_set]; done) | (simp +zetaDelta only [List.length_set]; rfl)) ?_
    refine T.rownil 28 eElem ?_
    refine T.rownil 3 eInt ?_
    refine T.rownil 43 eSpot ?_
    refine T.rownil 3 eInt ?_
    let t222_ : List HObj := i221_ :: t7_
    let t223_ : List HObj := i213_ :: t222_
    let t224_ : List HObj := i10_ :: t223_
    let t225_ : List HObj := i9_ :: t224_
    refine T.putS (ty := (TreeTy.mk 28 3 43)) (i219_ :: i215_ :: (row 3 eInt A86 c88 n17.kids) :: i216_ :: (row 3 eInt A88 c90 n17.tids) :: i220_ :: t225_) d342_ (DNode.mk 0 [] [] [] []) (pt sw2 (pt sw1 (pt sw0 (pc1 (pt sw1 (pt sw0 (pc1 (pt sw0 (pc2 (pt sw9 (pt sw8 (pt sw7 (pt sw6 (pt sw5 (pt sw4 (pt sw3 (pt sw2 (pt sw1 (pt sw0 pz))))))))))))))))))) ⟨rfl, rfl, rfl, rfl, rfl⟩ hb78 ?_
    have hb79 := nodeAt_put (n := (DNode.mk 0 [] [] [] [])) hb78
    have hx20 := TreeOk.set_at ht16 d342_ hb78
    let i226_ : HObj := treeo (TreeTy.mk 28 3 43) h347_ (putAt (outAt q2 r2.root) r2.root (DNode.mk 0 [] [] [] []))
    refine T.reH (H' := (i226_ :: i219_ :: i215_ :: (row 3 eInt A86 c88 n17.kids) :: i216_ :: (row 3 eInt A88 c90 n17.tids) :: i220_ :: t225_)) (by rfl) ?_
    refine T.tree 0 (by rfl) (fun ht17 => ?_)
    refine TL.done (by kernel_rfl) ?_
    refine T.region (T.p2 (pB b8 0) (pB b40 2) (fun _ => by kernel_rfl) (T.look (.slice A86 n17.kids.length c88) (by kernel_rfl) (ld1 1 rfl rfl (fun _ => by kernel_rfl) (by rfl) rfl) ?_))
    obtain ⟨e22, hb80, hX14⟩ := ob hX14
    obtain ⟨hi69, hi70, hi71⟩ := idx_some hb80
    refine T.look (.pointer (some ((sadr A86).add (((0 : Int).toNat) * 1)))) (by kernel_rfl) (ixR 3 (e := 3) (s := 1) rfl rfl rfl (fun _ => by kernel_rfl) hi69 hi70 (by rfl) hi71 (by decide)) ?_
    refine T.look (vi e22) (by kernel_rfl) (fun w' hh => exec_load1 rfl rfl (by kernel_rfl) (SlOk.wcellF0 (E := eInt) (hh.row_slOk (i := 3) (by rfl)) hi71 (fun _ _ _ h => h) rfl)) ?_
    refine T.p4 (pB b8 0) (pB b8 0) (pB b8 0) (pB b8 0) (fun _ => by kernel_rfl) ?_
    let v312_ : List Value := [vi e22, .slice A2 (h347_.length) c2]
    refine T.step (W1.st 6 v312_ (i226_ :: i219_ :: i215_ :: (row 3 eInt A86 c88 n17.kids) :: i216_ :: (row 3 eInt A88 c90 n17.tids) :: (box b8 137 v312_) :: t225_) [vi e22] (by rfl) rfl rfl rfl rfl rfl rfl (fun _ => by kernel_rfl) ?_)
    refine T.nil ?_
    cases hX14
    exact fun a w' hf hh => ⟨e22, (putAt (outAt q2 r2.root) r2.root (DNode.mk 0 [] [] [] [])), rfl, h347_, (Fr.sel hf rfl), ((hh.sub (kp1 (dr5 (kp2 (dr2 (kp1 (dr1 (kp2 (kp1 kp0))))))))).perm (pt sw0 (pc1 (pt sw0 (pc1 (pt sw0 pz))))))⟩
   rw [hc13, cond_false] at hX14
   refine T.skip_code ?_
   refine T.putG (ty := (TreeTy.mk 28 3 43)) (i219_ :: i214_ :: i9_ :: i10_ :: i213_ :: (row 97 eHdr A2 c2 c86) :: t7_) d341_ n17 (pt sw0 (pc1 (pt sw0 (pc1 (pt sw0 (pc1 (pt sw0 (pc1 (pt sw5 (pt sw4 (pt sw3 (pt sw2 (pt sw1 (pt sw0 pz)))))))))))))) ⟨rfl, rfl, rfl, rfl, rfl⟩ ht16 hi65 hx18 ?_
   cases hX14
   exact fun a w' hf hh => ⟨r2.root, (putAt (outAt q2 r2.root) r2.root n17), rfl, c86, (Fr.sel hf rfl), ((hh.sub (kp1 (dr1 (kp2 (dr2 (kp1 (dr1 (kp2 (kp1 kp0))))))))).perm (pt sw0 (pc1 (pt sw0 (pc1 (pt sw0 pz))))))⟩
  rintro a w' ⟨z41, z42, rfl, hs8, hf, hh⟩
  try dsimp only at hX1
  let v313_ : List Value := [vi z41, .slice A2 hs8.length c2]
  let i227_ : HObj := box b8 137 v313_
  let i228_ : HObj := treeo (TreeTy.mk 28 3 43) hs8 z42
  refine (?_ : T 66 w V15 (i227_ :: i9_ :: (row 97 eHdr A2 c2 hs8) :: i228_ :: t6_) [(4, pB b7 0), (5, pB b8 0)] _) a w' hf hh
  clear hf hh
  refine T.seq (T.region (T.p4 (pB b8 0) (pB b8 0) (pB b8 0) (pB b8 0) (fun _ => by kernel_rfl) (T.look (.agg #[vi z41, .slice A2 hs8.length c2]) (by kernel_rfl) (ldN 0 rfl rfl (fun _ => by kernel_rfl) (by rfl) rfl) ?_)))
  refine T.step (W1.st 1 v313_ (i227_ :: (box b7 24 v313_) :: (row 97 eHdr A2 c2 hs8) :: i228_ :: t6_) v313_ (by rfl) rfl rfl rfl rfl rfl rfl (fun _ => by kernel_rfl) ?_)
  refine T.nil ?_
  cases hX1
  refine T.ret rfl ?_
  exact T.ret1 rfl (ResIs.cellN 1 rfl (by rfl) (fun _ => by kernel_rfl) (fun _ => by kernel_rfl)) fun w' hh => ⟨_, rfl, ⟨z42, z41, rfl, hs8, V15, hV15, rfl, (hh.sub (dr2 (kp4 (kp1 kp0))))⟩⟩
 rintro v w' ⟨z1, z2, rfl, hs3, V2, hV2, rfl, hh⟩
 try dsimp only at hF
 let i229_ : HObj := treeo (TreeTy.mk 28 3 43) hs3 z1
 refine ⟨V2, ((row 97 eHdr A2 c2 hs3) :: i229_ :: t6_), hh, ?_⟩
 clear hh
 refine TA.on (Hp.old hV2 hV1 (dr3 (kp1 (kp1 kp0))) (oB1 (oB1 ol0))) ?_
 refine TA.all [4] (by kernel_rfl) rfl ⟨?_, trivial⟩
 let v314_ : List Value := [vi z2, .slice A2 hs3.length c2]
 let i230_ : HObj := box b3 24 v314_
 let t231_ : List HObj := i230_ :: t5_
 refine TA.br rfl (W1.st 2 v314_ ((row 97 eHdr A2 c2 hs3) :: i229_ :: t231_) v314_ (by rfl) rfl rfl rfl rfl rfl rfl (fun _ => by kernel_rfl) ?_)
 refine TA.onk (Hp.old hV2 hV1 (dr3 (kp1 (kp1 kp0))) (oB1 (oB1 ol0))) fun o424_ => ?_
 refine TA.tp 5 (vi 0) rfl (fun _ => by kernel_rfl) (fun _ _ _ h => h) o424_ ?_
 refine TA.done (by kernel_rfl) ?_
 obtain ⟨l1, hb81, hF⟩ := ob hF
 refine T.reH (H' := ((row 97 eHdr A2 c2 hs3) :: (treeo (TreeTy.mk 28 3 43) hs3 (l1.map Sum.inr)) :: t231_)) (by simp +zetaDelta only [allN_some hb81]) ?_
 refine T.freezeTree (ty := (TreeTy.mk 28 3 43)) (tn := 97) (l := l1) (H' := t231_) pz (fun V16 hV16 hs9 hl3 => ?_)
 refine T.reslot 21 (.agg #[vi z2, .slice A2 l1.length c2]) rfl (by first | rfl | rw [hl3]) ?_
 refine T.reH (H' := ((box b3 24 [vi z2, .slice A2 l1.length c2]) :: t5_)) (by first | rfl | simp +zetaDelta only [hl3]) ?_
 cases hF
 refine T.ret rfl ?_
 exact T.ret2 rfl (ResIs.cellN 0 rfl (by rfl) (fun _ => by kernel_rfl) (fun _ => by kernel_rfl)) (ResIs.tmp rfl) fun w' hh => ⟨_, rfl, hh.below, (vT2.mk (vAg.mk ⟨_, _, rfl, (SlOk.mono hs9 (vt (made_mono vr) (made_fresh hh)))⟩) (show _ from rfl))⟩
end Go.Proofs.Ytcmkdoahkncakaa
