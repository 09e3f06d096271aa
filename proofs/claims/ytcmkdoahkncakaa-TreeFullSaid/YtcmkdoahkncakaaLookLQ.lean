/- The Go functions of group Look compute the pure functions of that group: written by walkgen.py. Condition of each: the pure function yields a result. -/
import Derived.Test.YtcmkdoahkncakaaSh2Q
import Derived.Test.YtcmkdoahkncakaaTreeLQ
import Derived.Test.YtcmkdoahkncakaaRangeQ
import Derived.Test.YtcmkdoahkncakaaClearQ
import Derived.Test.YtcmkdoahkncakaaLookFQ
import Derived.Test.YtcmkdoahkncakaaEqLQ
namespace Go.Proofs.Ytcmkdoahkncakaa
set_option linter.unusedVariables false
set_option maxRecDepth 100000 in
set_option maxHeartbeats 4000000 in
theorem grow_look_l (F : Nat) (p0 : DTree) (p1 : DElem) (r : Int × Bool × Int) (hF : grow_look F p0 p1 = some r) (w : World) (A1 : Option Addr) (c1 : Nat) (hs1 : SlOk (vw w) eNode A1 c1 p0.nodes) :
 Calls Try.prog 43 #[.agg #[.int .i64 p0.root, .slice A1 p0.nodes.length c1], .agg #[.int .i64 p1.key.pfs, .int .i64 p1.key.obj, .int .i64 p1.key.off, .int .i64 p1.made, .int .i64 p1.gone, .string p1.val]] w (Post (vT3 (vSc eInt) (vSc eBool) (vSc eInt)) r w) := by
 unfold grow_look at hF
 let a26_ : Value := .agg #[vi p0.root, .slice A1 p0.nodes.length c1]
 let a27_ : Value := .agg #[vi p1.key.pfs, vi p1.key.obj, vi p1.key.off, vi p1.made, vi p1.gone, .string p1.val]
 refine T.startM (l := [a26_, a27_]) Try.func43 rfl rfl rfl ?_
 refine T.seq (T.region ?_)
 let v20_ : List Value := [vi p0.root, .slice A1 p0.nodes.length c1]
 refine T.step (W1.np 24 v20_ (fun _ => by kernel_rfl) (fun b1 => ?_))
 let v21_ : List Value := [vi p1.key.pfs, vi p1.key.obj, vi p1.key.off, vi p1.made, vi p1.gone, .string p1.val]
 refine T.step (W1.np 28 v21_ (fun _ => by kernel_rfl) (fun b2 => ?_))
 refine T.p3 (vi 0) (.bool false) (vi 0) (fun _ => by kernel_rfl) (T.nil (T.seq (T.seq (T.region (T.look a26_ (by kernel_rfl) (ldN 1 rfl rfl (fun _ => by kernel_rfl) (by rfl) rfl) ?_)))))
 obtain ⟨r1, hb1, hF⟩ := ob hF
 refine T.step (W1.call (vSc eInt) r1 47 #[a26_] (by kernel_rfl) (fun _ => by kernel_rfl) (fun w' hh => tree_Check_l F p0 r1 hb1 w' A1 c1 (SlOk.mono hs1 hh.view)) ?_)
 intro u V1 hV1 hu
 obtain rfl := sureInt _ _ _ hu
 refine T.pk (vi r1) (fun _ => by kernel_rfl) (T.nil (T.seq (T.region (T.p2 (vi r1) (.bool (r1 != 0)) (fun _ => by kernel_rfl) (T.nil ?_)))))
 refine T.cond (r1 != 0) (by kernel_rfl) (by kernel_rfl) (fun hc1 => ?_) (fun hc1 => ?_)
 ·
  rw [hc1, cond_true] at hF
  refine T.seq (T.region (T.p4 (vi r1) (vi 0) (.bool false) (vi r1) (fun _ => by kernel_rfl) (T.nil ?_)))
  cases hF
  refine T.ret rfl ?_
  refine T.leaveM ((box b2 28 v21_) :: (box b1 24 v20_) :: []) [] (fun w' hh => hh.sub (kp1 (kp1 kp0))) ?_
  exact T.ret3 rfl (ResIs.tmp rfl) (ResIs.tmp rfl) (ResIs.tmp rfl) fun w' hh => ⟨_, rfl, hh.below, (vT3.mk (show _ from rfl) (show _ from rfl) (show _ from rfl))⟩
 rw [hc1, cond_false] at hF
 refine T.skip_code ?_
 refine T.seq (T.seq (T.region (T.look a27_ (by kernel_rfl) (ldN 0 rfl rfl (fun _ => by kernel_rfl) (by rfl) rfl) ?_)))
 obtain ⟨r2, hb2, hF⟩ := ob hF
 refine T.step (W1.call (vSc eInt) r2 20 #[a27_] (by kernel_rfl) (fun _ => by kernel_rfl) (fun w' hh => elem_Check_l p1 r2 hb2 w' ) ?_)
 intro u V2 hV2 hu
 obtain rfl := sureInt _ _ _ hu
 refine T.pk (vi r2) (fun _ => by kernel_rfl) (T.nil (T.seq (T.region (T.p2 (vi r2) (.bool (r2 != 0)) (fun _ => by kernel_rfl) (T.nil ?_)))))
 refine T.cond (r2 != 0) (by kernel_rfl) (by kernel_rfl) (fun hc2 => ?_) (fun hc2 => ?_)
 ·
  rw [hc2, cond_true] at hF
  refine T.seq (T.region (T.p4 (vi r2) (vi 0) (.bool false) (vi r2) (fun _ => by kernel_rfl) (T.nil ?_)))
  cases hF
  refine T.ret rfl ?_
  refine T.leaveM ((box b2 28 v21_) :: (box b1 24 v20_) :: []) [] (fun w' hh => hh.sub (kp1 (kp1 kp0))) ?_
  exact T.ret3 rfl (ResIs.tmp rfl) (ResIs.tmp rfl) (ResIs.tmp rfl) fun w' hh => ⟨_, rfl, hh.below, (vT3.mk (show _ from rfl) (show _ from rfl) (show _ from rfl))⟩
 rw [hc2, cond_false] at hF
 refine T.skip_code ?_
 refine T.seq (T.region (T.step (W1.np 3 [vi 0] (fun _ => by kernel_rfl) (fun b3 => ?_))))
 refine T.step (W1.np 4 [.bool false] (fun _ => by kernel_rfl) (fun b4 => ?_))
 let i1_ : HObj := box b2 28 v21_
 let i2_ : HObj := box b1 24 v20_
 let t3_ : List HObj := i1_ :: i2_ :: []
 let t4_ : List HObj := (box b3 3 [vi 0]) :: t3_
 let t5_ : List HObj := (box b4 4 [.bool false]) :: t4_
 refine T.step (W1.st 1 [vi 0] t5_ [vi 0] (by rfl) rfl rfl rfl rfl rfl rfl (fun _ => by kernel_rfl) ?_)
 refine T.step (W1.st 0 [.bool false] t5_ [.bool false] (by rfl) rfl rfl rfl rfl rfl rfl (fun _ => by kernel_rfl) ?_)
 refine T.nil (T.seq (T.seq (T.region (T.look a26_ (by kernel_rfl) (ldN 3 rfl rfl (fun _ => by kernel_rfl) (by rfl) rfl) ?_))))
 refine T.step (W1.within 48 [a26_] (fun v w' => ∃ (b6 : Nat) (b5 : Nat), v = .func (.func 77) #[] #[pB b6 0, pB b5 0] ∧ Hp w V2 ((box b6 133 [.func (.func 76) #[] #[pB b5 0, pB b6 0]]) :: (box b5 24 v20_) :: t5_) w') Try.func48 rfl rfl (by kernel_rfl) (fun _ => by kernel_rfl) rfl ?_ ?_)
 ·
  refine T.seq (T.region (T.step (W1.np 24 v20_ (fun _ => by kernel_rfl) (fun b5 => ?_))))
  refine T.pk (.nilFunc) (fun _ => by kernel_rfl) (T.nil (T.seq (T.region (T.step (W1.np 133 [.nilFunc] (fun _ => by kernel_rfl) (fun b6 => ?_))))))
  refine T.nil (T.seq (T.region (T.pk (.func (.func 76) #[] #[pB b5 0, pB b6 0]) (fun _ => by kernel_rfl) (T.step (W1.st 0 [.func (.func 76) #[] #[pB b5 0, pB b6 0]] ((box b6 133 [.func (.func 76) #[] #[pB b5 0, pB b6 0]]) :: (box b5 24 v20_) :: t5_) [.func (.func 76) #[] #[pB b5 0, pB b6 0]] (by rfl) rfl rfl rfl rfl rfl rfl (fun _ => by kernel_rfl) ?_)))))
  refine T.nil (T.seq (T.region (T.p2 (.func (.func 77) #[] #[pB b6 0, pB b5 0]) (.func (.func 77) #[] #[pB b6 0, pB b5 0]) (fun _ => by kernel_rfl) (T.nil ?_))))
  refine T.ret rfl ?_
  exact T.ret1 rfl (ResIs.tmp rfl) fun w' hh => ⟨_, rfl, ⟨b6, b5, rfl, (hh.sub (kp5 (kp1 kp0)))⟩⟩
 rintro v w' ⟨b6, b5, rfl, hh⟩
 let i6_ : HObj := box b6 133 [.func (.func 76) #[] #[pB b5 0, pB b6 0]]
 let i7_ : HObj := box b5 24 v20_
 refine ⟨V2, (i6_ :: i7_ :: t5_), hh, ?_⟩
 clear hh
 refine T.nil (T.block ?_)
 obtain ⟨q1, hX1, hF⟩ := ob hF
 refine T.range (gf := 77) (lb := [pB b6 0, pB b5 0]) .skip [] (fun l1 d1 lr1 w' => ∃ (z1 : Bool) (z2 : Int), q1 = (z1, z2) ∧ ∃ (V3 : View), View.le V2 V3 ∧ Hp w V3 [loopo l1 lr1 .skip [] 0, marko d1, box b4 4 [.bool z1], box b3 3 [vi z2]] w') (by kernel_rfl) (by kernel_rfl) (fun _ _ => by kernel_rfl) ?_ ?_
 ·
  intro l1 d1 lr1 hl1 hl2 hl3 hl4 w1 hh
  refine T.startI (l := [.func (.yield l1) #[] #[], pB b6 0, pB b5 0]) Try.func77 rfl rfl rfl ?_ hh
  clear hh
  refine T.region (T.look (.func (.func 76) #[] #[pB b5 0, pB b6 0]) (by kernel_rfl) (ld1 2 rfl rfl (fun _ => by kernel_rfl) (by rfl) rfl) ?_)
  refine T.pk (pB b5 0) (fun _ => by kernel_rfl) (T.look (vi p0.root) (by kernel_rfl) (ld1 3 rfl rfl (fun _ => by kernel_rfl) (by rfl) rfl) ?_)
  refine T.pk (.func (.yield l1) #[] #[]) (fun _ => by kernel_rfl) ?_
  obtain ⟨q2, hz1, hX1⟩ := ob hX1
  refine (have hq1 := fix_rec (fun (s_ : Bool × Int × Int) (r_ : Bool × Int) => ∀ (x1 : Bool) (x2 : Int) (x3 : Int), s_ = (x1, x2, x3) → ∀ (V4 : View) (G1 : List HObj) (w1 : World), View.le V2 V4 → Hp w V4 ((loopo l1 lr1 .skip [] 0) :: (marko d1) :: i6_ :: i7_ :: (box b4 4 [.bool x1]) :: (box b3 3 [vi x2]) :: i1_ :: G1) w1 → Calls Try.prog 76 #[vi x3, .func (.yield l1) #[] #[], pB b5 0, pB b6 0] w1 (fun e w2 => ∃ v, e = .returned v ∧ ∃ (z3 : Bool) (z4 : Int), r_ = (z3, z4) ∧ ∃ (V5 : View), View.le V4 V5 ∧ v = .bool true ∧ Hp w V5 ((loopo l1 lr1 .skip [] 0) :: (marko d1) :: i6_ :: i7_ :: (box b4 4 [.bool z3]) :: (box b3 3 [vi z4]) :: i1_ :: G1) w2)) hz1 ?_; ?_)
  ·
   rintro rf1 ih1 s_ r_ hS1 x1 x2 x3 rfl V4 G1 w1 hV4 hh
   try dsimp only at hS1
   refine T.startI (l := [vi x3, .func (.yield l1) #[] #[], pB b5 0, pB b6 0]) Try.func76 rfl rfl rfl ?_ hh
   clear hh
   refine T.seq (T.region (T.pk (.bool false) (fun _ => by kernel_rfl) (T.nil (T.seq (T.region (T.pk (pB b5 1) (fun _ => by kernel_rfl) (T.look (.slice A1 p0.nodes.length c1) (by kernel_rfl) (ld1 3 rfl rfl (fun _ => by kernel_rfl) (by rfl) rfl) ?_)))))))
   refine T.pk (vi x3) (fun _ => by kernel_rfl) ?_
   obtain ⟨e1, hb3, hS1⟩ := ob hS1
   obtain ⟨hi1, hi2, hi3⟩ := idx_some hb3
   obtain ⟨cs1, hr1, hc3⟩ := SlOk.elem (SlOk.mono hs1 (vt (vt hV1 hV2) hV4)) hi3
   obtain ⟨A2, c2, A3, c3, A4, c4, A5, c5, rfl, hs2, hs3, hs4, hs5⟩ := hr1
   refine T.look (.pointer (some ((sadr A1).add (x3.toNat * 5)))) (by kernel_rfl) (fun w' hh => exec_indexAddr (e := 97) (s := 5) rfl rfl rfl (by kernel_rfl) (by kernel_rfl) hi1 hi2 ((SlOk.mono hs1 (vt (vt hV1 hV2) hV4)).some_ hi3 (by decide))) ?_
   let v22_ : List Value := [vi e1.kind, .slice A2 e1.elems.length c2, .slice A3 e1.kids.length c3, .slice A4 e1.seps.length c4, .slice A5 e1.tids.length c5]
   refine T.look (.agg #[vi e1.kind, .slice A2 e1.elems.length c2, .slice A3 e1.kids.length c3, .slice A4 e1.seps.length c4, .slice A5 e1.tids.length c5]) (by kernel_rfl) (fun w' hh => exec_loadN (cs := v22_) rfl rfl (by kernel_rfl) (by kernel_rfl) (fun j u hj => hh.cell_view (View.cell_mono vr (hc3 j u hj).2))) ?_
   refine T.step (W1.np 97 [vi 0, sN, sN, sN, sN] (fun _ => by kernel_rfl) (fun b7 => ?_))
   let i8_ : HObj := box b7 97 v22_
   refine T.step (W1.st 0 v22_ (i8_ :: (loopo l1 lr1 .skip [] 0) :: (marko d1) :: i6_ :: i7_ :: (box b4 4 [.bool x1]) :: (box b3 3 [vi x2]) :: i1_ :: G1) v22_ (by rfl) rfl rfl rfl rfl rfl rfl (fun _ => by kernel_rfl) ?_)
   refine T.nil (T.seq (T.seq (T.region (T.pk (pB b7 1) (fun _ => by kernel_rfl) (T.look (.slice A2 e1.elems.length c2) (by kernel_rfl) (ld1 0 rfl rfl (fun _ => by kernel_rfl) (by rfl) rfl) ?_)))))
   refine T.p2 (vi (e1.elems.length : Int)) (vi 0) (fun _ => by kernel_rfl) (T.nil ?_)
   obtain ⟨q3, hz2, hS1⟩ := ob hS1
   refine T.mid (fun a w' => ∃ (z5 : Bool) (z6 : Int), q3 = (z5, z6) ∧ ∃ (V7 : View), View.le V4 V7 ∧ Fr 42 [(1, .func (.yield l1) #[] #[]), (3, pB b6 0), (7, pB b7 0)] a ∧ Hp w V7 (i8_ :: (loopo l1 lr1 .skip [] 0) :: (marko d1) :: i6_ :: i7_ :: (box b4 4 [.bool z5]) :: (box b3 3 [vi z6]) :: i1_ :: G1) w') ?_ ?_
   ·
    refine T.block ?_
    refine T.iter (fun s1 a w' => ∃ (x4 : Bool) (x5 : Int) (x6 : Int), s1 = (x4, x5, x6) ∧ ∃ (V6 : View), View.le V4 V6 ∧ Fr 42 [(1, .func (.yield l1) #[] #[]), (3, pB b6 0), (7, pB b7 0), (18, .slice A2 e1.elems.length c2), (19, vi (e1.elems.length : Int)), (20, vi x6)] a ∧ Hp w V6 (i8_ :: (loopo l1 lr1 .skip [] 0) :: (marko d1) :: i6_ :: i7_ :: (box b4 4 [.bool x4]) :: (box b3 3 [vi x5]) :: i1_ :: G1) w') hz2 ?_ ?_
    ·
     exact fun a w' hf hh => ⟨x1, x2, 0, rfl, V4, vr, (Fr.sel hf rfl), (hh.sub (kp7 (kp1 kpr)))⟩
    rintro s1 y1 hY1 hr2 a w' ⟨x4, x5, x6, rfl, V6, hV6, hf, hh⟩
    let t9_ : List HObj := (box b3 3 [vi x5]) :: i1_ :: G1
    let t10_ : List HObj := (box b4 4 [.bool x4]) :: t9_
    let t11_ : List HObj := i7_ :: t10_
    let t12_ : List HObj := i6_ :: t11_
    let t13_ : List HObj := (marko d1) :: t12_
    let t14_ : List HObj := (loopo l1 lr1 .skip [] 0) :: t13_
    let t15_ : List HObj := i8_ :: t14_
    refine (?_ : T 42 w V6 t15_ [(1, .func (.yield l1) #[] #[]), (3, pB b6 0), (7, pB b7 0), (18, .slice A2 e1.elems.length c2), (19, vi (e1.elems.length : Int)), (20, vi x6)] _) a w' hf hh
    clear hf hh
    try dsimp only at hY1
    refine T.seq (T.region (T.pk (.bool (decide (x6 < (e1.elems.length : Int)))) (fun _ => by kernel_rfl) (T.nil (T.seq ?_))))
    refine T.cond (decide (x6 < (e1.elems.length : Int))) (by kernel_rfl) (by kernel_rfl) (fun hc4 => ?_) (fun hc4 => ?_)
    ·
     rw [hc4, cond_true] at hY1
     refine T.skip_code ?_
     refine T.seq (T.block (T.seq (T.region ?_)))
     obtain ⟨e2, hb4, hY1⟩ := ob hY1
     obtain ⟨hi4, hi5, hi6⟩ := idx_some hb4
     refine T.look (.pointer (some ((sadr A2).add (x6.toNat * 6)))) (by kernel_rfl) (fun w' hh => exec_indexAddr (e := 28) (s := 6) rfl rfl rfl (by kernel_rfl) (by kernel_rfl) hi4 hi5 ((SlOk.mono hs2 hV6).some_ hi6 (by decide))) ?_
     let v23_ : List Value := [vi e2.key.pfs, vi e2.key.obj, vi e2.key.off, vi e2.made, vi e2.gone, .string e2.val]
     let a28_ : Value := .agg #[vi e2.key.pfs, vi e2.key.obj, vi e2.key.off, vi e2.made, vi e2.gone, .string e2.val]
     refine T.look a28_ (by kernel_rfl) (fun w' hh => exec_loadN (cs := v23_) rfl rfl (by kernel_rfl) (by kernel_rfl) (fun j u hj => (hh.cell_view (SlOk.cellF (E := eElem) (SlOk.mono hs2 hV6) hi6 j (fun _ _ _ h => h) hj)))) ?_
     let v24_ : List Value := [vi 0, vi 0, vi 0, vi 0, vi 0, .string (ByteArray.mk #[])]
     refine T.step (W1.np 28 v24_ (fun _ => by kernel_rfl) (fun b8 => ?_))
     let i16_ : HObj := box b8 28 v23_
     refine T.step (W1.st 0 v23_ (i16_ :: t15_) v23_ (by rfl) rfl rfl rfl rfl rfl rfl (fun _ => by kernel_rfl) ?_)
     refine T.nil (T.seq (T.region (T.pk (.func (.yield l1) #[] #[]) (fun _ => by kernel_rfl) (T.look a28_ (by kernel_rfl) (ldN 0 rfl rfl (fun _ => by kernel_rfl) (by rfl) rfl) ?_))))
     obtain ⟨z7, hX2, hY1⟩ := ob hY1
     let v25_ : List Value := [vi (IntKind.i64.wrap (x5 + 1))]
     let i17_ : HObj := box b3 3 v25_
     let t18_ : List HObj := i17_ :: i1_ :: G1
     refine T.stepR (W1R.yield 2 l1 (fun v w' => ∃ (V8 : View), View.le V6 V8 ∧ v = .bool true ∧ Hp w V8 (i16_ :: i8_ :: (loopo l1 lr1 .skip [] 0) :: (marko d1) :: i6_ :: i7_ :: (box b4 4 [.bool z7]) :: t18_) w') (by rfl) hl1 hl2 hl3 hl4 (by rfl) (by kernel_rfl) rfl (by kernel_rfl) rfl ?_ ?_)
     ·
      refine T.region (T.step (W1.np 28 v24_ (fun _ => by kernel_rfl) (fun b9 => ?_)))
      let i19_ : HObj := box b9 28 v23_
      refine T.step (W1.st 0 v23_ (i19_ :: i16_ :: t15_) v23_ (by rfl) rfl rfl rfl rfl rfl rfl (fun _ => by kernel_rfl) ?_)
      refine T.nil ?_
      refine T.unthenN ?_
      refine T.begin 3 (i19_ :: i16_ :: i8_ :: (busyo l1 lr1) :: t13_) (by rfl) rfl ?_
      refine T.block (T.seq (T.region (T.look (vi x5) (by kernel_rfl) (ld1 8 rfl rfl (fun _ => by kernel_rfl) (by rfl) rfl) ?_)))
      refine T.pk (vi (IntKind.i64.wrap (x5 + 1))) (fun _ => by kernel_rfl) (T.step (W1.st 8 v25_ (i19_ :: i16_ :: i8_ :: (busyo l1 lr1) :: (marko d1) :: i6_ :: i7_ :: (box b4 4 [.bool x4]) :: t18_) v25_ (by rfl) rfl rfl rfl rfl rfl rfl (fun _ => by kernel_rfl) ?_))
      refine T.nil ?_
      refine T.anyI (by kernel_rfl) ?_
      refine TI.all [0] (by kernel_rfl) rfl ⟨?_, trivial⟩
      refine TI.br rfl (W1.toR (W1.look (.bool x4) (by kernel_rfl) (ld1 7 rfl rfl (fun _ => by kernel_rfl) (by rfl) rfl) ?_))
      refine TI.all [1] (by kernel_rfl) rfl ⟨?_, trivial⟩
      refine TI.br rfl (W1.toR (W1.look (.bool x4) (by kernel_rfl) (fun _ _ => by kernel_rfl) ?_))
      cases hg1 : x4
      ·
       rw [hg1, cond_false] at hX2
       refine TI.all [2, 4] (by kernel_rfl) rfl ⟨?_, ?_, trivial⟩
       ·
        refine TI.br rfl (W1.toR (W1.look a28_ (by kernel_rfl) (ldN 0 rfl rfl (fun _ => by kernel_rfl) (by rfl) rfl) ?_))
        refine TI.all [3, 4] (by kernel_rfl) rfl ⟨?_, ?_, trivial⟩
        ·
         obtain ⟨r3, hb5, hX2⟩ := ob hX2
         refine TI.br rfl <| W1.toR (W1.call (vAg eSpot) r3 22 #[a28_] (by kernel_rfl) (fun _ => by kernel_rfl) (fun w' hh => elem_Spot_l e2 r3 hb5 w' ) ?_)
         intro u V9 hV9 hu
         obtain rfl := sureSpot _ _ _ hu
         refine TI.all [4] (by kernel_rfl) rfl ⟨?_, trivial⟩
         refine TI.br rfl (W1.toR (W1.look a27_ (by kernel_rfl) (ldN 9 rfl rfl (fun _ => by kernel_rfl) (by rfl) rfl) ?_))
         refine TI.all [5] (by kernel_rfl) rfl ⟨?_, trivial⟩
         obtain ⟨r4, hb6, hX2⟩ := ob hX2
         refine TI.br rfl <| W1.toR (W1.call (vAg eSpot) r4 22 #[a27_] (by kernel_rfl) (fun _ => by kernel_rfl) (fun w' hh => elem_Spot_l p1 r4 hb6 w' ) ?_)
         intro u V10 hV10 hu
         obtain rfl := sureSpot _ _ _ hu
         refine TI.all [6] (by kernel_rfl) rfl ⟨?_, trivial⟩
         refine TI.br rfl (W1.toR (W1.look (.bool (r3 == r4)) (by kernel_rfl) (fun w' hh => exec_eql_DSpot r3 r4 w' rfl rfl rfl) ?_))
         refine TI.all [7] (by kernel_rfl) rfl ⟨?_, trivial⟩
         refine TI.br rfl (W1.toR (W1.look (.bool (r3 == r4)) (by kernel_rfl) (fun _ _ => by kernel_rfl) ?_))
         refine TI.all [8] (by kernel_rfl) rfl ⟨?_, trivial⟩
         refine TI.br rfl <| W1.toR (W1.st 7 [.bool (r3 == r4)] (i19_ :: i16_ :: i8_ :: (busyo l1 lr1) :: (marko d1) :: i6_ :: i7_ :: (box b4 4 [.bool (r3 == r4)]) :: t18_) [.bool (r3 == r4)] (by rfl) rfl rfl rfl rfl rfl rfl (fun _ => by kernel_rfl) ?_)
         refine TI.done (by kernel_rfl) ?_
         cases hX2
         repeat first | refine T.unthenN ?_ | refine T.unblockN ?_
         exact T.roundEnd .skip [] 3 (i19_ :: i16_ :: i8_ :: (loopo l1 lr1 .skip [] 0) :: (marko d1) :: i6_ :: i7_ :: (box b4 4 [.bool (r3 == r4)]) :: t18_) (by rfl) rfl (fun w' hh => ⟨_, rfl, ⟨V10, (vt hV9 hV10), rfl, (hh.sub (dr1 (kp8 (kp1 kpr))))⟩⟩)
        refine TI.br rfl (W1.toR (W1.look a27_ (by kernel_rfl) (ldN 9 rfl rfl (fun _ => by kernel_rfl) (by rfl) rfl) ?_))
        refine TI.all [3] (by kernel_rfl) rfl ⟨?_, trivial⟩
        obtain ⟨r3, hb5, hX2⟩ := ob hX2
        refine TI.br rfl <| W1.toR (W1.call (vAg eSpot) r3 22 #[a28_] (by kernel_rfl) (fun _ => by kernel_rfl) (fun w' hh => elem_Spot_l e2 r3 hb5 w' ) ?_)
        intro u V9 hV9 hu
        obtain rfl := sureSpot _ _ _ hu
        refine TI.all [5] (by kernel_rfl) rfl ⟨?_, trivial⟩
        obtain ⟨r4, hb6, hX2⟩ := ob hX2
        refine TI.br rfl <| W1.toR (W1.call (vAg eSpot) r4 22 #[a27_] (by kernel_rfl) (fun _ => by kernel_rfl) (fun w' hh => elem_Spot_l p1 r4 hb6 w' ) ?_)
        intro u V10 hV10 hu
        obtain rfl := sureSpot _ _ _ hu
        refine TI.all [6] (by kernel_rfl) rfl ⟨?_, trivial⟩
        refine TI.br rfl (W1.toR (W1.look (.bool (r3 == r4)) (by kernel_rfl) (fun w' hh => exec_eql_DSpot r3 r4 w' rfl rfl rfl) ?_))
        refine TI.all [7] (by kernel_rfl) rfl ⟨?_, trivial⟩
        refine TI.br rfl (W1.toR (W1.look (.bool (r3 == r4)) (by kernel_rfl) (fun _ _ => by kernel_rfl) ?_))
        refine TI.all [8] (by kernel_rfl) rfl ⟨?_, trivial⟩
        refine TI.br rfl <| W1.toR (W1.st 7 [.bool (r3 == r4)] (i19_ :: i16_ :: i8_ :: (busyo l1 lr1) :: (marko d1) :: i6_ :: i7_ :: (box b4 4 [.bool (r3 == r4)]) :: t18_) [.bool (r3 == r4)] (by rfl) rfl rfl rfl rfl rfl rfl (fun _ => by kernel_rfl) ?_)
        refine TI.done (by kernel_rfl) ?_
        cases hX2
        repeat first | refine T.unthenN ?_ | refine T.unblockN ?_
        exact T.roundEnd .skip [] 3 (i19_ :: i16_ :: i8_ :: (loopo l1 lr1 .skip [] 0) :: (marko d1) :: i6_ :: i7_ :: (box b4 4 [.bool (r3 == r4)]) :: t18_) (by rfl) rfl (fun w' hh => ⟨_, rfl, ⟨V10, (vt hV9 hV10), rfl, (hh.sub (dr1 (kp8 (kp1 kpr))))⟩⟩)
       refine TI.br rfl (W1.toR (W1.look a27_ (by kernel_rfl) (ldN 9 rfl rfl (fun _ => by kernel_rfl) (by rfl) rfl) ?_))
       refine TI.all [2] (by kernel_rfl) rfl ⟨?_, trivial⟩
       refine TI.br rfl (W1.toR (W1.look a28_ (by kernel_rfl) (ldN 0 rfl rfl (fun _ => by kernel_rfl) (by rfl) rfl) ?_))
       refine TI.all [3] (by kernel_rfl) rfl ⟨?_, trivial⟩
       obtain ⟨r3, hb5, hX2⟩ := ob hX2
       refine TI.br rfl <| W1.toR (W1.call (vAg eSpot) r3 22 #[a28_] (by kernel_rfl) (fun _ => by kernel_rfl) (fun w' hh => elem_Spot_l e2 r3 hb5 w' ) ?_)
       intro u V9 hV9 hu
       obtain rfl := sureSpot _ _ _ hu
       refine TI.all [5] (by kernel_rfl) rfl ⟨?_, trivial⟩
       obtain ⟨r4, hb6, hX2⟩ := ob hX2
       refine TI.br rfl <| W1.toR (W1.call (vAg eSpot) r4 22 #[a27_] (by kernel_rfl) (fun _ => by kernel_rfl) (fun w' hh => elem_Spot_l p1 r4 hb6 w' ) ?_)
       intro u V10 hV10 hu
       obtain rfl := sureSpot _ _ _ hu
       refine TI.all [6] (by kernel_rfl) rfl ⟨?_, trivial⟩
       refine TI.br rfl (W1.toR (W1.look (.bool (r3 == r4)) (by kernel_rfl) (fun w' hh => exec_eql_DSpot r3 r4 w' rfl rfl rfl) ?_))
       refine TI.all [7] (by kernel_rfl) rfl ⟨?_, trivial⟩
       refine TI.br rfl (W1.toR (W1.look (.bool (r3 == r4)) (by kernel_rfl) (fun _ _ => by kernel_rfl) ?_))
       refine TI.all [8] (by kernel_rfl) rfl ⟨?_, trivial⟩
       refine TI.br rfl <| W1.toR (W1.st 7 [.bool (r3 == r4)] (i19_ :: i16_ :: i8_ :: (busyo l1 lr1) :: (marko d1) :: i6_ :: i7_ :: (box b4 4 [.bool (r3 == r4)]) :: t18_) [.bool (r3 == r4)] (by rfl) rfl rfl rfl rfl rfl rfl (fun _ => by kernel_rfl) ?_)
       refine TI.done (by kernel_rfl) ?_
       cases hX2
       repeat first | refine T.unthenN ?_ | refine T.unblockN ?_
       exact T.roundEnd .skip [] 3 (i19_ :: i16_ :: i8_ :: (loopo l1 lr1 .skip [] 0) :: (marko d1) :: i6_ :: i7_ :: (box b4 4 [.bool (r3 == r4)]) :: t18_) (by rfl) rfl (fun w' hh => ⟨_, rfl, ⟨V10, (vt hV9 hV10), rfl, (hh.sub (dr1 (kp8 (kp1 kpr))))⟩⟩)
      rw [hg1, cond_true] at hX2
      refine TI.all [2, 4] (by kernel_rfl) rfl ⟨?_, ?_, trivial⟩
      ·
       refine TI.no rfl (by kernel_rfl) (by kernel_rfl) ?_
       refine TI.all [3, 4] (by kernel_rfl) rfl ⟨?_, ?_, trivial⟩
       ·
        refine TI.no rfl (by kernel_rfl) (by kernel_rfl) ?_
        refine TI.all [4] (by kernel_rfl) rfl ⟨?_, trivial⟩
        refine TI.no rfl (by kernel_rfl) (by kernel_rfl) ?_
        refine TI.all [5] (by kernel_rfl) rfl ⟨?_, trivial⟩
        refine TI.no rfl (by kernel_rfl) (by kernel_rfl) ?_
        refine TI.all [6] (by kernel_rfl) rfl ⟨?_, trivial⟩
        refine TI.no rfl (by kernel_rfl) (by kernel_rfl) ?_
        refine TI.all [7] (by kernel_rfl) rfl ⟨?_, trivial⟩
        refine TI.br rfl (W1.toR (W1.look (.bool true) (by kernel_rfl) (fun _ _ => by kernel_rfl) ?_))
        refine TI.all [8] (by kernel_rfl) rfl ⟨?_, trivial⟩
        refine TI.br rfl <| W1.toR (W1.st 7 [.bool true] (i19_ :: i16_ :: i8_ :: (busyo l1 lr1) :: (marko d1) :: i6_ :: i7_ :: (box b4 4 [.bool true]) :: t18_) [.bool true] (by rfl) rfl rfl rfl rfl rfl rfl (fun _ => by kernel_rfl) ?_)
        refine TI.done (by kernel_rfl) ?_
        cases hX2
        repeat first | refine T.unthenN ?_ | refine T.unblockN ?_
        exact T.roundEnd .skip [] 3 (i19_ :: i16_ :: i8_ :: (loopo l1 lr1 .skip [] 0) :: (marko d1) :: i6_ :: i7_ :: (box b4 4 [.bool true]) :: t18_) (by rfl) rfl (fun w' hh => ⟨_, rfl, ⟨V6, vr, rfl, (hh.sub (dr1 (kp8 (kp1 kpr))))⟩⟩)
       refine TI.no rfl (by kernel_rfl) (by kernel_rfl) ?_
       refine TI.all [3] (by kernel_rfl) rfl ⟨?_, trivial⟩
       refine TI.no rfl (by kernel_rfl) (by kernel_rfl) ?_
       refine TI.all [5] (by kernel_rfl) rfl ⟨?_, trivial⟩
       refine TI.no rfl (by kernel_rfl) (by kernel_rfl) ?_
       refine TI.all [6] (by kernel_rfl) rfl ⟨?_, trivial⟩
       refine TI.no rfl (by kernel_rfl) (by kernel_rfl) ?_
       refine TI.all [7] (by kernel_rfl) rfl ⟨?_, trivial⟩
       refine TI.br rfl (W1.toR (W1.look (.bool true) (by kernel_rfl) (fun _ _ => by kernel_rfl) ?_))
       refine TI.all [8] (by kernel_rfl) rfl ⟨?_, trivial⟩
       refine TI.br rfl <| W1.toR (W1.st 7 [.bool true] (i19_ :: i16_ :: i8_ :: (busyo l1 lr1) :: (marko d1) :: i6_ :: i7_ :: (box b4 4 [.bool true]) :: t18_) [.bool true] (by rfl) rfl rfl rfl rfl rfl rfl (fun _ => by kernel_rfl) ?_)
       refine TI.done (by kernel_rfl) ?_
       cases hX2
       repeat first | refine T.unthenN ?_ | refine T.unblockN ?_
       exact T.roundEnd .skip [] 3 (i19_ :: i16_ :: i8_ :: (loopo l1 lr1 .skip [] 0) :: (marko d1) :: i6_ :: i7_ :: (box b4 4 [.bool true]) :: t18_) (by rfl) rfl (fun w' hh => ⟨_, rfl, ⟨V6, vr, rfl, (hh.sub (dr1 (kp8 (kp1 kpr))))⟩⟩)
      refine TI.no rfl (by kernel_rfl) (by kernel_rfl) ?_
      refine TI.all [2] (by kernel_rfl) rfl ⟨?_, trivial⟩
      refine TI.no rfl (by kernel_rfl) (by kernel_rfl) ?_
      refine TI.all [3] (by kernel_rfl) rfl ⟨?_, trivial⟩
      refine TI.no rfl (by kernel_rfl) (by kernel_rfl) ?_
      refine TI.all [5] (by kernel_rfl) rfl ⟨?_, trivial⟩
      refine TI.no rfl (by kernel_rfl) (by kernel_rfl) ?_
      refine TI.all [6] (by kernel_rfl) rfl ⟨?_, trivial⟩
      refine TI.no rfl (by kernel_rfl) (by kernel_rfl) ?_
      refine TI.all [7] (by kernel_rfl) rfl ⟨?_, trivial⟩
      refine TI.br rfl (W1.toR (W1.look (.bool true) (by kernel_rfl) (fun _ _ => by kernel_rfl) ?_))
      refine TI.all [8] (by kernel_rfl) rfl ⟨?_, trivial⟩
      refine TI.br rfl <| W1.toR (W1.st 7 [.bool true] (i19_ :: i16_ :: i8_ :: (busyo l1 lr1) :: (marko d1) :: i6_ :: i7_ :: (box b4 4 [.bool true]) :: t18_) [.bool true] (by rfl) rfl rfl rfl rfl rfl rfl (fun _ => by kernel_rfl) ?_)
      refine TI.done (by kernel_rfl) ?_
      cases hX2
      repeat first | refine T.unthenN ?_ | refine T.unblockN ?_
      exact T.roundEnd .skip [] 3 (i19_ :: i16_ :: i8_ :: (loopo l1 lr1 .skip [] 0) :: (marko d1) :: i6_ :: i7_ :: (box b4 4 [.bool true]) :: t18_) (by rfl) rfl (fun w' hh => ⟨_, rfl, ⟨V6, vr, rfl, (hh.sub (dr1 (kp8 (kp1 kpr))))⟩⟩)
     rintro v w' ⟨V8, hV8, rfl, hh⟩
     refine ⟨V8, (i16_ :: i8_ :: (loopo l1 lr1 .skip [] 0) :: (marko d1) :: i6_ :: i7_ :: (box b4 4 [.bool z7]) :: t18_), hh, ?_⟩
     clear hh
     refine T.pk (.bool false) (fun _ => by kernel_rfl) (T.nil ?_)
     refine T.cond false (by kernel_rfl) (by kernel_rfl) (fun h => Bool.noConfusion h) (fun _ => ?_)
     refine T.skip_code ?_
     refine T.region (T.p2 (vi (IntKind.i64.wrap (x6 + 1))) (vi (IntKind.i64.wrap (x6 + 1))) (fun _ => by kernel_rfl) (T.nil ?_))
     cases hY1
     exact fun a w' hf hh => ⟨(z7, IntKind.i64.wrap (x5 + 1), IntKind.i64.wrap (x6 + 1)), rfl, z7, (IntKind.i64.wrap (x5 + 1)), (IntKind.i64.wrap (x6 + 1)), rfl, V8, (vt hV6 hV8), (Fr.sel hf rfl), (hh.sub (dr1 (kp7 (kp1 kpr))))⟩
    rw [hc4, cond_false] at hY1
    refine T.exit ?_
    cases hY1
    cases (hr2 _ rfl)
    exact fun a w' hf hh => ⟨x4, x5, rfl, V6, hV6, (Fr.sel hf rfl), (hh.sub (kp7 (kp1 kpr)))⟩
   rintro a w' ⟨z5, z6, rfl, V7, hV7, hf, hh⟩
   try dsimp only at hS1
   refine (?_ : T 42 w V7 (i8_ :: (loopo l1 lr1 .skip [] 0) :: (marko d1) :: i6_ :: i7_ :: (box b4 4 [.bool z5]) :: (box b3 3 [vi z6]) :: i1_ :: G1) [(1, .func (.yield l1) #[] #[]), (3, pB b6 0), (7, pB b7 0)] _) a w' hf hh
   clear hf hh
   refine T.seq (T.seq (T.region (T.pk (pB b7 2) (fun _ => by kernel_rfl) (T.look (.slice A3 e1.kids.length c3) (by kernel_rfl) (ld1 0 rfl rfl (fun _ => by kernel_rfl) (by rfl) rfl) ?_))))
   refine T.p2 (vi (e1.kids.length : Int)) (vi 0) (fun _ => by kernel_rfl) (T.nil ?_)
   obtain ⟨q4, hz3, hS1⟩ := ob hS1
   refine T.mid (fun a w' => ∃ (z8 : Bool) (z9 : Int), q4 = (z8, z9) ∧ ∃ (V12 : View), View.le V7 V12 ∧ Fr 42 [] a ∧ Hp w V12 ((loopo l1 lr1 .skip [] 0) :: (marko d1) :: i6_ :: i7_ :: (box b4 4 [.bool z8]) :: (box b3 3 [vi z9]) :: i1_ :: G1) w') ?_ ?_
   ·
    refine T.block ?_
    refine T.iter (fun s2 a w' => ∃ (x7 : Bool) (x8 : Int) (x9 : Int), s2 = (x7, x8, x9) ∧ ∃ (V11 : View), View.le V7 V11 ∧ Fr 42 [(1, .func (.yield l1) #[] #[]), (3, pB b6 0), (30, .slice A3 e1.kids.length c3), (31, vi (e1.kids.length : Int)), (32, vi x9)] a ∧ Hp w V11 ((loopo l1 lr1 .skip [] 0) :: (marko d1) :: i6_ :: i7_ :: (box b4 4 [.bool x7]) :: (box b3 3 [vi x8]) :: i1_ :: G1) w') hz3 ?_ ?_
    ·
     exact fun a w' hf hh => ⟨z5, z6, 0, rfl, V7, vr, (Fr.sel hf rfl), (hh.sub (dr1 (kp6 (kp1 kpr))))⟩
    rintro s2 y2 hY2 hr3 a w' ⟨x7, x8, x9, rfl, V11, hV11, hf, hh⟩
    refine (?_ : T 42 w V11 ((loopo l1 lr1 .skip [] 0) :: (marko d1) :: i6_ :: i7_ :: (box b4 4 [.bool x7]) :: (box b3 3 [vi x8]) :: i1_ :: G1) [(1, .func (.yield l1) #[] #[]), (3, pB b6 0), (30, .slice A3 e1.kids.length c3), (31, vi (e1.kids.length : Int)), (32, vi x9)] _) a w' hf hh
    clear hf hh
    try dsimp only at hY2
    refine T.seq (T.region (T.pk (.bool (decide (x9 < (e1.kids.length : Int)))) (fun _ => by kernel_rfl) (T.nil (T.seq ?_))))
    refine T.cond (decide (x9 < (e1.kids.length : Int))) (by kernel_rfl) (by kernel_rfl) (fun hc5 => ?_) (fun hc5 => ?_)
    ·
     rw [hc5, cond_true] at hY2
     refine T.skip_code ?_
     refine T.seq (T.block (T.seq (T.region ?_)))
     obtain ⟨e3, hb7, hY2⟩ := ob hY2
     obtain ⟨hi7, hi8, hi9⟩ := idx_some hb7
     refine T.look (.pointer (some ((sadr A3).add (x9.toNat * 1)))) (by kernel_rfl) (fun w' hh => exec_indexAddr (e := 3) (s := 1) rfl rfl rfl (by kernel_rfl) (by kernel_rfl) hi7 hi8 ((SlOk.mono hs3 (vt hV7 hV11)).some_ hi9 (by decide))) ?_
     refine T.look (vi e3) (by kernel_rfl) (fun w' hh => exec_load1 rfl rfl (by kernel_rfl) (hh.cell_view (SlOk.cellF0 (E := eInt) (SlOk.mono hs3 (vt hV7 hV11)) hi9 (fun _ _ _ h => h) rfl))) ?_
     refine T.pk (vi e3) (fun _ => by kernel_rfl) (T.nil (T.seq (T.region (T.look (.func (.func 76) #[] #[pB b5 0, pB b6 0]) (by kernel_rfl) (ld1 2 rfl rfl (fun _ => by kernel_rfl) (by rfl) rfl) ?_))))
     refine T.p2 (vi e3) (.func (.yield l1) #[] #[]) (fun _ => by kernel_rfl) ?_
     obtain ⟨q5, hz4, hY2⟩ := ob hY2
     refine T.step (W1.callI 76 [vi e3, .func (.yield l1) #[] #[], pB b5 0, pB b6 0] (fun v w' => ∃ (z10 : Bool) (z11 : Int), q5 = (z10, z11) ∧ ∃ (V13 : View), View.le V11 V13 ∧ v = .bool true ∧ Hp w V13 ((loopo l1 lr1 .skip [] 0) :: (marko d1) :: i6_ :: i7_ :: (box b4 4 [.bool z10]) :: (box b3 3 [vi z11]) :: i1_ :: G1) w') (by kernel_rfl) (fun _ => by kernel_rfl) (fun w' hh => ih1 _ _ hz4 x7 x8 e3 rfl V11 G1 w' (vt (vt hV4 hV7) hV11) (hh.sub (kp6 (kp1 kpr)))) ?_)
     rintro v w' ⟨z10, z11, rfl, V13, hV13, rfl, hh⟩
     try dsimp only at hY2
     refine ⟨_, _, hh, ?_⟩
     clear hh
     refine T.pk (.bool false) (fun _ => by kernel_rfl) (T.nil ?_)
     refine T.cond false (by kernel_rfl) (by kernel_rfl) (fun h => Bool.noConfusion h) (fun _ => ?_)
     refine T.skip_code ?_
     refine T.region (T.p2 (vi (IntKind.i64.wrap (x9 + 1))) (vi (IntKind.i64.wrap (x9 + 1))) (fun _ => by kernel_rfl) (T.nil ?_))
     cases hY2
     exact fun a w' hf hh => ⟨(z10, z11, IntKind.i64.wrap (x9 + 1)), rfl, z10, z11, (IntKind.i64.wrap (x9 + 1)), rfl, V13, (vt hV11 hV13), (Fr.sel hf rfl), (hh.sub (kp6 (kp1 kpr)))⟩
    rw [hc5, cond_false] at hY2
    refine T.exit ?_
    cases hY2
    cases (hr3 _ rfl)
    exact fun a w' hf hh => ⟨x7, x8, rfl, V11, hV11, (Fr.nil hf), (hh.sub (kp6 (kp1 kpr)))⟩
   rintro a w' ⟨z8, z9, rfl, V12, hV12, hf, hh⟩
   try dsimp only at hS1
   refine (?_ : T 42 w V12 ((loopo l1 lr1 .skip [] 0) :: (marko d1) :: i6_ :: i7_ :: (box b4 4 [.bool z8]) :: (box b3 3 [vi z9]) :: i1_ :: G1) [] _) a w' hf hh
   clear hf hh
   refine T.seq (T.region (T.pk (.bool true) (fun _ => by kernel_rfl) (T.nil ?_)))
   have hres := Option.some.inj hS1
   subst hres
   refine T.ret rfl ?_
   repeat first | refine T.unthen ?_ | refine T.unblock ?_
   exact T.ret1 rfl (ResIs.tmp rfl) fun w' hh => ⟨_, rfl, ⟨z8, z9, rfl, V12, (vt hV7 hV12), rfl, (hh.sub (kp6 (kp1 kpr)))⟩⟩
  refine T.step (W1.callI 76 [vi p0.root, .func (.yield l1) #[] #[], pB b5 0, pB b6 0] (fun v w' => ∃ (z12 : Bool) (z13 : Int), q2 = (z12, z13) ∧ ∃ (V14 : View), View.le V2 V14 ∧ v = .bool true ∧ Hp w V14 [loopo l1 lr1 .skip [] 0, marko d1, box b6 133 [.func (.func 76) #[] #[pB b5 0, pB b6 0]], box b5 24 v20_, box b4 4 [.bool z12], box b3 3 [vi z13], box b2 28 v21_, box b1 24 v20_] w') (by kernel_rfl) (fun _ => by kernel_rfl) (fun w' hh => hq1 false 0 p0.root rfl V2 (i2_ :: []) w' vr (hh.sub (kp7 (kp1 kp0)))) ?_)
  rintro v w' ⟨z12, z13, rfl, V14, hV14, rfl, hh⟩
  try dsimp only at hX1
  refine ⟨_, _, hh, ?_⟩
  clear hh
  refine T.nil ?_
  cases hX1
  repeat first | refine T.unthenN ?_ | refine T.unblockN ?_
  exact T.end0 rfl (fun w' hh => ⟨_, rfl, ⟨z12, z13, rfl, V14, hV14, (hh.sub (kp2 (dr2 (kp2 (dr1 (dr1 kp0))))))⟩⟩)
 rintro l1 d1 lr1 w' ⟨z1, z2, rfl, V3, hV3, hh⟩
 try dsimp only at hF
 refine ⟨V3, [marko d1, box b4 4 [.bool z1], box b3 3 [vi z2]], 0, hh, ?_⟩
 clear hh
 rw [natCase_zero]
 refine T.seq ?_
 refine T.quiet (by kernel_rfl) (by kernel_rfl) ?_
 refine TQ.look (vi z2) (by kernel_rfl) (ld1 2 rfl rfl (fun _ => by kernel_rfl) (by rfl) rfl) ?_
 refine TQ.look (.bool z1) (by kernel_rfl) (ld1 1 rfl rfl (fun _ => by kernel_rfl) (by rfl) rfl) ?_
 refine TQ.pure (vi z2) (by kernel_rfl) (fun _ => by kernel_rfl) ?_
 refine TQ.pure (.bool z1) (by kernel_rfl) (fun _ => by kernel_rfl) ?_
 refine TQ.pure (vi 0) (by kernel_rfl) (fun _ => by kernel_rfl) ?_
 refine TQ.nil ?_
 cases hF
 refine T.ret rfl ?_
 refine T.leaveM ((box b4 4 [.bool z1]) :: (box b3 3 [vi z2]) :: []) [d1] (fun w' hh => hh.sub (kp2 (kp1 kp0))) ?_
 exact T.ret3 rfl (ResIs.tmp rfl) (ResIs.tmp rfl) (ResIs.tmp rfl) fun w' hh => ⟨_, rfl, hh.below, (vT3.mk (show _ from rfl) (show _ from rfl) (show _ from rfl))⟩
end Go.Proofs.Ytcmkdoahkncakaa
