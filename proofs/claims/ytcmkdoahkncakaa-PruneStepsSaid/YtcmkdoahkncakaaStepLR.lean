/- The Go functions of group Step compute the pure functions of that group: written by walkgen.py. Condition of each: the pure function yields a result. -/
import Derived.Test.YtcmkdoahkncakaaSh2R
import Derived.Test.YtcmkdoahkncakaaPastCLR
import Derived.Test.YtcmkdoahkncakaaPruneLR
import Derived.Test.YtcmkdoahkncakaaCpLR
import Derived.Test.YtcmkdoahkncakaaRangeR
import Derived.Test.YtcmkdoahkncakaaAnyLR
import Derived.Test.YtcmkdoahkncakaaTreeOR
import Derived.Test.YtcmkdoahkncakaaOwnLR
import Derived.Test.YtcmkdoahkncakaaClearR
import Derived.Test.YtcmkdoahkncakaaStepFR
import Derived.Test.YtcmkdoahkncakaaEqLR
namespace Go.Proofs.Ytcmkdoahkncakaa
set_option linter.unusedVariables false
set_option linter.defProp false
def ipStepL_1 := info_parts (P := Try.prog) (e := 43) (z := .agg #[.int .i64 0, .int .i64 0, .int .i64 0, .int .i64 0]) (size := 4) (bytes := 32) (by kernel_rfl)
def ipStepL_2 := info_parts (P := Try.prog) (e := 28) (z := .agg #[.int .i64 0, .int .i64 0, .int .i64 0, .int .i64 0, .int .i64 0, .string (ByteArray.mk #[])]) (size := 6) (bytes := 56) (by kernel_rfl)
def ipStepL_3 := info_parts (P := Try.prog) (e := 3) (z := .int .i64 0) (size := 1) (bytes := 8) (by kernel_rfl)
set_option maxRecDepth 100000 in
set_option maxHeartbeats 4000000 in
theorem prune_Step_l (F : Nat) (p0 : DTree) (p1 : (List Int)) (p2 : Int) (r : DTree × Int × Int) (hF : prune_Step F p0 p1 p2 = some r) (w : World) (A1 : Option Addr) (c1 : Nat) (hs1 : SlOk (vw w) eNode A1 c1 p0.nodes) (A2 : Option Addr) (c2 : Nat) (hs2 : SlOk (vw w) eInt A2 c2 p1) :
 Calls Try.prog 27 #[.agg #[.int .i64 p0.root, .slice A1 p0.nodes.length c1], .slice A2 p1.length c2, .int .i64 p2] w (Post (vT3 (vAg eTree) (vSc eInt) (vSc eInt)) r w) := by
 unfold prune_Step at hF
 let a393_ : Value := .agg #[vi p0.root, .slice A1 p0.nodes.length c1]
 refine T.startM (l := [a393_, .slice A2 p1.length c2, vi p2]) Try.func27 rfl rfl rfl ?_
 refine T.seq (T.region ?_)
 let v299_ : List Value := [vi p0.root, .slice A1 p0.nodes.length c1]
 refine T.step (W1.np 24 v299_ (fun _ => by kernel_rfl) (fun b1 => ?_))
 refine T.step (W1.np 47 [.slice A2 p1.length c2] (fun _ => by kernel_rfl) (fun b2 => ?_))
 refine T.step (W1.np 3 [vi p2] (fun _ => by kernel_rfl) (fun b3 => ?_))
 let v300_ : List Value := [vi 0, sN]
 refine T.step (W1.np 24 v300_ (fun _ => by kernel_rfl) (fun b4 => ?_))
 refine T.p2 (vi 0) (vi 0) (fun _ => by kernel_rfl) (T.nil (T.seq (T.seq (T.region (T.look a393_ (by kernel_rfl) (ldN 3 rfl rfl (fun _ => by kernel_rfl) (by rfl) rfl) ?_)))))
 obtain ⟨r1, hb1, hF⟩ := ob hF
 refine T.step (W1.call (vSc eInt) r1 53 #[a393_] (by kernel_rfl) (fun _ => by kernel_rfl) (fun w' hh => past_Check_l F p0 r1 hb1 w' A1 c1 (SlOk.mono hs1 hh.view)) ?_)
 intro u V1 hV1 hu
 obtain rfl := sureInt _ _ _ hu
 refine T.pk (vi r1) (fun _ => by kernel_rfl) (T.nil (T.seq (T.region (T.p2 (vi r1) (.bool (r1 != 0)) (fun _ => by kernel_rfl) (T.nil ?_)))))
 refine T.cond (r1 != 0) (by kernel_rfl) (by kernel_rfl) (fun hc1 => ?_) (fun hc1 => ?_)
 ·
  rw [hc1, cond_true] at hF
  refine T.seq (T.region (T.p2 (.agg #[vi 0, sN]) (vi r1) (fun _ => by kernel_rfl) ?_))
  let i1_ : HObj := box b4 24 v300_
  let i2_ : HObj := box b2 47 [.slice A2 p1.length c2]
  let i3_ : HObj := box b1 24 v299_
  refine T.step (W1.st 0 v300_ (i1_ :: (box b3 3 [vi p2]) :: i2_ :: i3_ :: []) v300_ (by rfl) rfl rfl rfl rfl rfl rfl (fun _ => by kernel_rfl) ?_)
  refine T.p2 (vi 0) (vi r1) (fun _ => by kernel_rfl) (T.nil ?_)
  cases hF
  refine T.ret rfl ?_
  refine T.leaveM (i1_ :: (box b3 3 [vi p2]) :: i2_ :: i3_ :: []) [] (fun w' hh => hh.sub (kp3 (kp1 kp0))) ?_
  exact T.ret3 rfl (ResIs.cellN 0 rfl (by rfl) (fun _ => by kernel_rfl) (fun _ => by kernel_rfl)) (ResIs.tmp rfl) (ResIs.tmp rfl) fun w' hh => ⟨_, rfl, hh.below, (vT3.mk (vAg.mk ⟨_, _, rfl, (SlOk.nil _ _)⟩) (show _ from rfl) (show _ from rfl))⟩
 rw [hc1, cond_false] at hF
 refine T.skip_code ?_
 refine T.seq (T.seq (T.region (T.look (.slice A2 p1.length c2) (by kernel_rfl) (ld1 2 rfl rfl (fun _ => by kernel_rfl) (by rfl) rfl) ?_)))
 obtain ⟨r2, hb2, hF⟩ := ob hF
 refine T.step (W1.call (vSc eInt) r2 54 #[.slice A2 p1.length c2] (by kernel_rfl) (fun _ => by kernel_rfl) (fun w' hh => prune_times_l F p1 r2 hb2 w' A2 c2 (SlOk.mono (SlOk.mono hs2 hV1) hh.view)) ?_)
 intro u V2 hV2 hu
 obtain rfl := sureInt _ _ _ hu
 refine T.pk (vi r2) (fun _ => by kernel_rfl) (T.nil (T.seq (T.region (T.p2 (vi r2) (.bool (r2 != 0)) (fun _ => by kernel_rfl) (T.nil ?_)))))
 refine T.cond (r2 != 0) (by kernel_rfl) (by kernel_rfl) (fun hc2 => ?_) (fun hc2 => ?_)
 ·
  rw [hc2, cond_true] at hF
  refine T.seq (T.region (T.p2 (.agg #[vi 0, sN]) (vi r2) (fun _ => by kernel_rfl) ?_))
  let i4_ : HObj := box b4 24 v300_
  let i5_ : HObj := box b2 47 [.slice A2 p1.length c2]
  let i6_ : HObj := box b1 24 v299_
  refine T.step (W1.st 0 v300_ (i4_ :: (box b3 3 [vi p2]) :: i5_ :: i6_ :: []) v300_ (by rfl) rfl rfl rfl rfl rfl rfl (fun _ => by kernel_rfl) ?_)
  refine T.p2 (vi 0) (vi r2) (fun _ => by kernel_rfl) (T.nil ?_)
  cases hF
  refine T.ret rfl ?_
  refine T.leaveM (i4_ :: (box b3 3 [vi p2]) :: i5_ :: i6_ :: []) [] (fun w' hh => hh.sub (kp3 (kp1 kp0))) ?_
  exact T.ret3 rfl (ResIs.cellN 0 rfl (by rfl) (fun _ => by kernel_rfl) (fun _ => by kernel_rfl)) (ResIs.tmp rfl) (ResIs.tmp rfl) fun w' hh => ⟨_, rfl, hh.below, (vT3.mk (vAg.mk ⟨_, _, rfl, (SlOk.nil _ _)⟩) (show _ from rfl) (show _ from rfl))⟩
 rw [hc2, cond_false] at hF
 refine T.skip_code ?_
 refine T.seq (T.seq (T.region (T.look (vi p2) (by kernel_rfl) (ld1 1 rfl rfl (fun _ => by kernel_rfl) (by rfl) rfl) ?_)))
 refine T.pk (.bool (decide (p2 < 0))) (fun _ => by kernel_rfl) (T.nil ?_)
 refine T.cond (decide (p2 < 0)) (by kernel_rfl) (by kernel_rfl) (fun hc3 => ?_) (fun hc3 => ?_)
 ·
  rw [hc3, cond_true] at hF
  refine T.seq (T.region (T.pk (.agg #[vi 0, sN]) (fun _ => by kernel_rfl) ?_))
  let i7_ : HObj := box b4 24 v300_
  let i8_ : HObj := box b2 47 [.slice A2 p1.length c2]
  let i9_ : HObj := box b1 24 v299_
  refine T.step (W1.st 0 v300_ (i7_ :: (box b3 3 [vi p2]) :: i8_ :: i9_ :: []) v300_ (by rfl) rfl rfl rfl rfl rfl rfl (fun _ => by kernel_rfl) ?_)
  refine T.p2 (vi 0) (vi 1) (fun _ => by kernel_rfl) (T.nil ?_)
  cases hF
  refine T.ret rfl ?_
  refine T.leaveM (i7_ :: (box b3 3 [vi p2]) :: i8_ :: i9_ :: []) [] (fun w' hh => hh.sub (kp3 (kp1 kp0))) ?_
  exact T.ret3 rfl (ResIs.cellN 0 rfl (by rfl) (fun _ => by kernel_rfl) (fun _ => by kernel_rfl)) (ResIs.tmp rfl) (ResIs.tmp rfl) fun w' hh => ⟨_, rfl, hh.below, (vT3.mk (vAg.mk ⟨_, _, rfl, (SlOk.nil _ _)⟩) (show _ from rfl) (show _ from rfl))⟩
 rw [hc3, cond_false] at hF
 refine T.skip_code ?_
 refine T.seq (T.region (T.step (W1.np 95 [sN] (fun _ => by kernel_rfl) (fun b5 => ?_))))
 refine T.nil ?_
 obtain ⟨z1, hX1, hF⟩ := ob hF
 let i10_ : HObj := box b4 24 v300_
 let i11_ : HObj := box b1 24 v299_
 let t12_ : List HObj := i10_ :: i11_ :: []
 refine T.cut (fun a w' => ∃ (A3 : Option Addr) (c3 : Nat) (d1 : Nat) (V3 : View), View.le V2 V3 ∧ Fr ⟨62, [d1]⟩ [(3, pB b1 0), (6, pB b4 0), (11, pB b5 0)] a ∧ Hp w V3 ((row 43 eSpot A3 c3 z1) :: (marko d1) :: (box b5 95 [.slice A3 z1.length c3]) :: t12_) w') ?_ ?_
 ·
  refine T.seq (T.region (T.look a393_ (by kernel_rfl) (ldN 4 rfl rfl (fun _ => by kernel_rfl) (by rfl) rfl) ?_))
  let i13_ : HObj := box b2 47 [.slice A2 p1.length c2]
  let t14_ : List HObj := i13_ :: i11_ :: []
  let t15_ : List HObj := (box b3 3 [vi p2]) :: t14_
  let t16_ : List HObj := i10_ :: t15_
  let t17_ : List HObj := (box b5 95 [sN]) :: t16_
  refine T.step (W1.within 48 [a393_] (fun v w' => ∃ (b7 : Nat) (b6 : Nat), v = .func (.func 77) #[] #[pB b7 0, pB b6 0] ∧ Hp w V2 ((box b7 133 [.func (.func 76) #[] #[pB b6 0, pB b7 0]]) :: (box b6 24 v299_) :: t17_) w') Try.func48 rfl rfl (by kernel_rfl) (fun _ => by kernel_rfl) rfl ?_ ?_)
  ·
   refine T.seq (T.region (T.step (W1.np 24 v299_ (fun _ => by kernel_rfl) (fun b6 => ?_))))
   refine T.pk (.nilFunc) (fun _ => by kernel_rfl) (T.nil (T.seq (T.region (T.step (W1.np 133 [.nilFunc] (fun _ => by kernel_rfl) (fun b7 => ?_))))))
   refine T.nil (T.seq (T.region (T.pk (.func (.func 76) #[] #[pB b6 0, pB b7 0]) (fun _ => by kernel_rfl) (T.step (W1.st 0 [.func (.func 76) #[] #[pB b6 0, pB b7 0]] ((box b7 133 [.func (.func 76) #[] #[pB b6 0, pB b7 0]]) :: (box b6 24 v299_) :: t17_) [.func (.func 76) #[] #[pB b6 0, pB b7 0]] (by rfl) rfl rfl rfl rfl rfl rfl (fun _ => by kernel_rfl) ?_)))))
   refine T.nil (T.seq (T.region (T.p2 (.func (.func 77) #[] #[pB b7 0, pB b6 0]) (.func (.func 77) #[] #[pB b7 0, pB b6 0]) (fun _ => by kernel_rfl) (T.nil ?_))))
   refine T.ret rfl ?_
   exact T.ret1 rfl (ResIs.tmp rfl) fun w' hh => ⟨_, rfl, ⟨b7, b6, rfl, (hh.sub (kp6 (kp1 kp0)))⟩⟩
  rintro v w' ⟨b7, b6, rfl, hh⟩
  let i18_ : HObj := box b7 133 [.func (.func 76) #[] #[pB b6 0, pB b7 0]]
  let i19_ : HObj := box b6 24 v299_
  refine ⟨V2, (i18_ :: i19_ :: t17_), hh, ?_⟩
  clear hh
  refine T.nil (T.block ?_)
  obtain ⟨q1, hX2, hX1⟩ := ob hX1
  refine T.range (gf := 77) (lb := [pB b7 0, pB b6 0]) (.exit 0) [] (fun l1 d1 lr1 w' => ∃ (z2 : List DSpot) (k1 : Nat), q1 = (z2, k1) ∧ ∃ (A4 : Option Addr) (c4 : Nat) (V4 : View), View.le V2 V4 ∧ Hp w V4 [loopo l1 lr1 (.exit 0) [] k1, row 43 eSpot A4 c4 z2, marko d1, box b5 95 [.slice A4 z2.length c4], box b4 24 v300_, box b1 24 v299_] w') (by kernel_rfl) (by kernel_rfl) (fun _ _ => by kernel_rfl) ?_ ?_
  ·
   intro l1 d1 lr1 hl1 hl2 hl3 hl4 w1 hh
   refine T.startI (l := [.func (.yield l1) #[] #[], pB b7 0, pB b6 0]) Try.func77 rfl rfl rfl ?_ hh
   clear hh
   refine T.region (T.look (.func (.func 76) #[] #[pB b6 0, pB b7 0]) (by kernel_rfl) (ld1 2 rfl rfl (fun _ => by kernel_rfl) (by rfl) rfl) ?_)
   refine T.pk (pB b6 0) (fun _ => by kernel_rfl) (T.look (vi p0.root) (by kernel_rfl) (ld1 3 rfl rfl (fun _ => by kernel_rfl) (by rfl) rfl) ?_)
   refine T.pk (.func (.yield l1) #[] #[]) (fun _ => by kernel_rfl) ?_
   refine T.rownil 43 eSpot ?_
   obtain ⟨q2, hz1, hX2⟩ := ob hX2
   refine (have hq1 := fix_rec (fun (s_ : (List DSpot) × Int) (r_ : (List DSpot) × Nat) => ∀ (x1 : List DSpot) (x2 : Int), s_ = (x1, x2) → ∀ (A5 : Option Addr) (c5 : Nat) (V5 : View) (G2 : List HObj) (w1 : World), View.le V2 V5 → Hp w V5 ((row 43 eSpot A5 c5 x1) :: (loopo l1 lr1 (.exit 0) [] 0) :: (marko d1) :: i18_ :: i19_ :: (box b5 95 [.slice A5 x1.length c5]) :: (box b3 3 [vi p2]) :: i13_ :: G2) w1 → Calls Try.prog 76 #[vi x2, .func (.yield l1) #[] #[], pB b6 0, pB b7 0] w1 (fun e w2 => ∃ v, e = .returned v ∧ ∃ (z3 : List DSpot) (k2 : Nat), r_ = (z3, k2) ∧ ∃ (A6 : Option Addr) (c6 : Nat) (V6 : View), View.le V5 V6 ∧ v = .bool (isz k2) ∧ Hp w V6 ((row 43 eSpot A6 c6 z3) :: (loopo l1 lr1 (.exit 0) [] k2) :: (marko d1) :: i18_ :: i19_ :: (box b5 95 [.slice A6 z3.length c6]) :: (box b3 3 [vi p2]) :: i13_ :: G2) w2)) hz1 ?_; ?_)
   ·
    rintro rf2 ih1 s_ r_ hS1 x1 x2 rfl A5 c5 V5 G2 w1 hV5 hh
    try dsimp only at hS1
    refine T.startI (l := [vi x2, .func (.yield l1) #[] #[], pB b6 0, pB b7 0]) Try.func76 rfl rfl rfl ?_ hh
    clear hh
    refine T.seq (T.region (T.pk (.bool false) (fun _ => by kernel_rfl) (T.nil (T.seq (T.region (T.pk (pB b6 1) (fun _ => by kernel_rfl) (T.look (.slice A1 p0.nodes.length c1) (by kernel_rfl) (ld1 4 rfl rfl (fun _ => by kernel_rfl) (by rfl) rfl) ?_)))))))
    refine T.pk (vi x2) (fun _ => by kernel_rfl) ?_
    obtain ⟨e1, hb3, hS1⟩ := ob hS1
    obtain ⟨hi1, hi2, hi3⟩ := idx_some hb3
    obtain ⟨cs1, hr1, hc4⟩ := SlOk.elem (SlOk.mono hs1 (vt (vt hV1 hV2) hV5)) hi3
    obtain ⟨A7, c7, A8, c8, A9, c9, A10, c10, rfl, hs3, hs4, hs5, hs6⟩ := hr1
    refine T.look (.pointer (some ((sadr A1).add (x2.toNat * 5)))) (by kernel_rfl) (fun w' hh => exec_indexAddr (e := 97) (s := 5) rfl rfl rfl (by kernel_rfl) (by kernel_rfl) hi1 hi2 ((SlOk.mono hs1 (vt (vt hV1 hV2) hV5)).some_ hi3 (by decide))) ?_
    let v301_ : List Value := [vi e1.kind, .slice A7 e1.elems.length c7, .slice A8 e1.kids.length c8, .slice A9 e1.seps.length c9, .slice A10 e1.tids.length c10]
    refine T.look (.agg #[vi e1.kind, .slice A7 e1.elems.length c7, .slice A8 e1.kids.length c8, .slice A9 e1.seps.length c9, .slice A10 e1.tids.length c10]) (by kernel_rfl) (fun w' hh => exec_loadN (cs := v301_) rfl rfl (by kernel_rfl) (by kernel_rfl) (fun j u hj => hh.cell_view (View.cell_mono vr (hc4 j u hj).2))) ?_
    refine T.step (W1.np 97 [vi 0, sN, sN, sN, sN] (fun _ => by kernel_rfl) (fun b8 => ?_))
    let i20_ : HObj := box b8 97 v301_
    let t21_ : List HObj := (box b3 3 [vi p2]) :: i13_ :: G2
    refine T.step (W1.st 0 v301_ (i20_ :: (row 43 eSpot A5 c5 x1) :: (loopo l1 lr1 (.exit 0) [] 0) :: (marko d1) :: i18_ :: i19_ :: (box b5 95 [.slice A5 x1.length c5]) :: t21_) v301_ (by rfl) rfl rfl rfl rfl rfl rfl (fun _ => by kernel_rfl) ?_)
    refine T.nil (T.seq (T.seq (T.region (T.pk (pB b8 1) (fun _ => by kernel_rfl) (T.look (.slice A7 e1.elems.length c7) (by kernel_rfl) (ld1 0 rfl rfl (fun _ => by kernel_rfl) (by rfl) rfl) ?_)))))
    refine T.p2 (vi (e1.elems.length : Int)) (vi 0) (fun _ => by kernel_rfl) (T.nil ?_)
    obtain ⟨q3, hz2, hS1⟩ := ob hS1
    refine T.mid (fun a w' => ∃ (z4 : List DSpot), q3 = Sum.inl z4 ∧ ∃ (A12 : Option Addr) (c12 : Nat) (V8 : View), View.le V5 V8 ∧ Fr 42 [(1, .func (.yield l1) #[] #[]), (3, pB b7 0), (7, pB b8 0)] a ∧ Hp w V8 (i20_ :: (row 43 eSpot A12 c12 z4) :: (loopo l1 lr1 (.exit 0) [] 0) :: (marko d1) :: i18_ :: i19_ :: (box b5 95 [.slice A12 z4.length c12]) :: t21_) w') ?_ ?_
    ·
     refine T.block ?_
     refine T.iter (fun s1 a w' => ∃ (x3 : List DSpot) (x4 : Int), s1 = (x3, x4) ∧ ∃ (A11 : Option Addr) (c11 : Nat) (V7 : View), View.le V5 V7 ∧ Fr 42 [(1, .func (.yield l1) #[] #[]), (3, pB b7 0), (7, pB b8 0), (18, .slice A7 e1.elems.length c7), (19, vi (e1.elems.length : Int)), (20, vi x4)] a ∧ Hp w V7 (i20_ :: (row 43 eSpot A11 c11 x3) :: (loopo l1 lr1 (.exit 0) [] 0) :: (marko d1) :: i18_ :: i19_ :: (box b5 95 [.slice A11 x3.length c11]) :: t21_) w') hz2 ?_ ?_
     ·
      exact fun a w' hf hh => ⟨x1, 0, rfl, A5, c5, V5, vr, (Fr.sel hf rfl), (hh.sub (kp8 (kp1 kpr)))⟩
     rintro s1 y1 hY1 hr2 a w' ⟨x3, x4, rfl, A11, c11, V7, hV7, hf, hh⟩
     let i22_ : HObj := box b5 95 [.slice A11 x3.length c11]
     let t23_ : List HObj := i22_ :: t21_
     let t24_ : List HObj := i19_ :: t23_
     let t25_ : List HObj := i18_ :: t24_
     let t26_ : List HObj := (marko d1) :: t25_
     let t27_ : List HObj := (loopo l1 lr1 (.exit 0) [] 0) :: t26_
     let t28_ : List HObj := (row 43 eSpot A11 c11 x3) :: t27_
     let t29_ : List HObj := i20_ :: t28_
     refine (?_ : T 42 w V7 t29_ [(1, .func (.yield l1) #[] #[]), (3, pB b7 0), (7, pB b8 0), (18, .slice A7 e1.elems.length c7), (19, vi (e1.elems.length : Int)), (20, vi x4)] _) a w' hf hh
     clear hf hh
     try dsimp only at hY1
     refine T.seq (T.region (T.pk (.bool (decide (x4 < (e1.elems.length : Int)))) (fun _ => by kernel_rfl) (T.nil (T.seq ?_))))
     refine T.cond (decide (x4 < (e1.elems.length : Int))) (by kernel_rfl) (by kernel_rfl) (fun hc5 => ?_) (fun hc5 => ?_)
     ·
      rw [hc5, cond_true] at hY1
      refine T.skip_code ?_
      refine T.seq (T.block (T.seq (T.region ?_)))
      obtain ⟨e2, hb4, hY1⟩ := ob hY1
      obtain ⟨hi4, hi5, hi6⟩ := idx_some hb4
      refine T.look (.pointer (some ((sadr A7).add (x4.toNat * 6)))) (by kernel_rfl) (fun w' hh => exec_indexAddr (e := 28) (s := 6) rfl rfl rfl (by kernel_rfl) (by kernel_rfl) hi4 hi5 ((SlOk.mono hs3 hV7).some_ hi6 (by decide))) ?_
      let v302_ : List Value := [vi e2.key.pfs, vi e2.key.obj, vi e2.key.off, vi e2.made, vi e2.gone, .string e2.val]
      let a394_ : Value := .agg #[vi e2.key.pfs, vi e2.key.obj, vi e2.key.off, vi e2.made, vi e2.gone, .string e2.val]
      refine T.look a394_ (by kernel_rfl) (fun w' hh => exec_loadN (cs := v302_) rfl rfl (by kernel_rfl) (by kernel_rfl) (fun j u hj => (hh.cell_view (SlOk.cellF (E := eElem) (SlOk.mono hs3 hV7) hi6 j (fun _ _ _ h => h) hj)))) ?_
      let v303_ : List Value := [vi 0, vi 0, vi 0, vi 0, vi 0, .string (ByteArray.mk #[])]
      refine T.step (W1.np 28 v303_ (fun _ => by kernel_rfl) (fun b9 => ?_))
      let i30_ : HObj := box b9 28 v302_
      let t31_ : List HObj := i30_ :: t29_
      refine T.step (W1.st 0 v302_ t31_ v302_ (by rfl) rfl rfl rfl rfl rfl rfl (fun _ => by kernel_rfl) ?_)
      refine T.nil ?_
      obtain ⟨q4, hX3, hY1⟩ := ob hY1
      refine T.cut (fun a w' => ∃ (z5 : List DSpot) (k3 : Nat), q4 = (z5, k3) ∧ ∃ (A13 : Option Addr) (c13 : Nat) (V9 : View), View.le V7 V9 ∧ Fr 42 [(1, .func (.yield l1) #[] #[]), (3, pB b7 0), (7, pB b8 0), (18, .slice A7 e1.elems.length c7), (19, vi (e1.elems.length : Int)), (20, vi x4), (27, .bool (!(isz k3)))] a ∧ Hp w V9 (i20_ :: (row 43 eSpot A13 c13 z5) :: (loopo l1 lr1 (.exit 0) [] k3) :: (marko d1) :: i18_ :: i19_ :: (box b5 95 [.slice A13 z5.length c13]) :: t21_) w') ?_ ?_
      ·
       refine T.region (T.pk (.func (.yield l1) #[] #[]) (fun _ => by kernel_rfl) (T.look a394_ (by kernel_rfl) (ldN 0 rfl rfl (fun _ => by kernel_rfl) (by rfl) rfl) ?_))
       obtain ⟨q5, hX4, hX3⟩ := ob hX3
       refine T.stepR (W1R.yield 3 l1 (fun v w' => ∃ (z6 : List DSpot) (k4 : Nat), q5 = (z6, k4) ∧ ∃ (A14 : Option Addr) (c14 : Nat) (V10 : View), View.le V7 V10 ∧ v = .bool (isz k4) ∧ Hp w V10 (i30_ :: i20_ :: (row 43 eSpot A14 c14 z6) :: (loopo l1 lr1 (.exit 0) [] k4) :: (marko d1) :: i18_ :: i19_ :: (box b5 95 [.slice A14 z6.length c14]) :: t21_) w') (by rfl) hl1 hl2 hl3 hl4 (by rfl) (by kernel_rfl) rfl (by kernel_rfl) rfl ?_ ?_)
       ·
        refine T.region (T.step (W1.np 28 v303_ (fun _ => by kernel_rfl) (fun b10 => ?_)))
        let i32_ : HObj := box b10 28 v302_
        refine T.step (W1.st 0 v302_ (i32_ :: t31_) v302_ (by rfl) rfl rfl rfl rfl rfl rfl (fun _ => by kernel_rfl) ?_)
        refine T.nil ?_
        refine T.unthenN ?_
        refine T.begin 4 (i32_ :: i30_ :: i20_ :: (row 43 eSpot A11 c11 x3) :: (busyo l1 lr1) :: t26_) (by rfl) rfl ?_
        refine T.block (T.seq (T.seq (T.region (T.look (.slice A11 x3.length c11) (by kernel_rfl) (ld1 8 rfl rfl (fun _ => by kernel_rfl) (by rfl) rfl) ?_))))
        refine T.pk (vi (x3.length : Int)) (fun _ => by kernel_rfl) (T.look (vi p2) (by kernel_rfl) (ld1 9 rfl rfl (fun _ => by kernel_rfl) (by rfl) rfl) ?_)
        refine T.pk (.bool ((x3.length : Int) == p2)) (fun _ => by kernel_rfl) (T.nil ?_)
        refine T.cond ((x3.length : Int) == p2) (by kernel_rfl) (by kernel_rfl) (fun hc6 => ?_) (fun hc6 => ?_)
        ·
         rw [hc6, cond_true] at hX4
         refine T.exit ?_
         cases hX4
         repeat first | refine T.unthenX ?_ | refine T.unblockX rfl ?_
         exact T.roundExit (.exit 0) [] 0 4 (i32_ :: i30_ :: i20_ :: (row 43 eSpot A11 c11 x3) :: (loopo l1 lr1 (.exit 0) [] (0 + 1)) :: t26_) (by rfl) rfl rfl (fun w' hh => ⟨_, rfl, ⟨x3, (0 + 1), rfl, A11, c11, V7, vr, rfl, (hh.sub (dr1 (kp9 (kp1 kpr))))⟩⟩)
        rw [hc6, cond_false] at hX4
        refine T.skip_code ?_
        refine T.seq (T.region (T.look a394_ (by kernel_rfl) (ldN 0 rfl rfl (fun _ => by kernel_rfl) (by rfl) rfl) ?_))
        refine T.look (.slice A2 p1.length c2) (by kernel_rfl) (ld1 10 rfl rfl (fun _ => by kernel_rfl) (by rfl) rfl) ?_
        obtain ⟨r4, hb5, hX4⟩ := ob hX4
        refine T.step (W1.call (vSc eBool) r4 55 #[a394_, .slice A2 p1.length c2] (by kernel_rfl) (fun _ => by kernel_rfl) (fun w' hh => prune_stays_l F e2 p1 r4 hb5 w' A2 c2 (SlOk.mono (SlOk.mono hs2 (vt (vt (vt hV1 hV2) hV5) hV7)) hh.view)) ?_)
        intro u V11 hV11 hu
        obtain rfl := sureBool _ _ _ hu
        refine T.pk (.bool (!r4)) (fun _ => by kernel_rfl) (T.nil ?_)
        refine T.cond (!r4) (by kernel_rfl) (by kernel_rfl) (fun hc7 => ?_) (fun hc7 => ?_)
        ·
         rw [hc7, cond_true] at hX4
         refine T.anyI (by kernel_rfl) ?_
         refine TI.all [0, 1] (by kernel_rfl) rfl ⟨?_, ?_, trivial⟩
         ·
          refine TI.br rfl (W1.toR (W1.look (.slice A11 x3.length c11) (by kernel_rfl) (ld1 8 rfl rfl (fun _ => by kernel_rfl) (by rfl) rfl) ?_))
          refine TI.all [1] (by kernel_rfl) rfl ⟨?_, trivial⟩
          refine TI.br rfl (W1.toR (W1.look a394_ (by kernel_rfl) (ldN 0 rfl rfl (fun _ => by kernel_rfl) (by rfl) rfl) ?_))
          refine TI.all [2] (by kernel_rfl) rfl ⟨?_, trivial⟩
          obtain ⟨r5, hb6, hX4⟩ := ob hX4
          refine TI.br rfl <| W1.toR (W1.call (vAg eSpot) r5 22 #[a394_] (by kernel_rfl) (fun _ => by kernel_rfl) (fun w' hh => elem_Spot_l e2 r5 hb6 w' ) ?_)
          intro u V12 hV12 hu
          obtain rfl := sureSpot _ _ _ hu
          refine TI.all [3] (by kernel_rfl) rfl ⟨?_, trivial⟩
          let v304_ : List Value := [vi r5.key.pfs, vi r5.key.obj, vi r5.key.off, vi r5.made]
          refine TI.br rfl <| W1.toR (W1.ns 43 v304_ (fun _ => by kernel_rfl) (fun b11 => ?_))
          refine TI.all [4] (by kernel_rfl) rfl ⟨?_, trivial⟩
          obtain ⟨y2, hb7, hX4⟩ := ob hX4
          obtain ⟨hb7_r, hb7_m, rfl⟩ := grow_some hb7
          obtain ⟨ti, hti, hz1, hz2, hz3⟩ := ipStepL_1
          refine TI.br rfl <| W1.toR (W1.append (E := eSpot) (l := x3) (m := [r5]) 4 _ _ 32 ti _ (by rfl) (by kernel_rfl) rfl (by kernel_rfl) hti hz1 hz2 hz3 rfl (by decide) rfl rfl (fun w' hh => (SlOk.srcF (slok_lit (E := eSpot) (f := DSpot.cells) [r5] (fun _ _ => rfl) (Nat.le_of_ble_eq_true (by rfl)) (fun j => hh.cellBox (i := 0) (by rfl) j)) (fun _ _ _ _ h => h))) hb7_r hb7_m (fun A15 c15 => ?_))
          refine TI.all [5] (by kernel_rfl) rfl ⟨?_, trivial⟩
          let i33_ : HObj := box b11 43 v304_
          let i34_ : HObj := row 43 eSpot A15 c15 (x3 ++ [r5])
          let v305_ : List Value := [.slice A15 ((x3 ++ [r5]).length) c15]
          let i35_ : HObj := box b5 95 v305_
          refine TI.br rfl <| W1.toR (W1.st 9 v305_ (i33_ :: i32_ :: i30_ :: i20_ :: i34_ :: (busyo l1 lr1) :: (marko d1) :: i18_ :: i19_ :: i35_ :: t21_) v305_ (by rfl) rfl rfl rfl rfl rfl rfl (fun _ => by kernel_rfl) ?_)
          refine TI.done (by kernel_rfl) ?_
          cases hX4
          repeat first | refine T.unthenN ?_ | refine T.unblockN ?_
          exact T.roundEnd (.exit 0) [] 5 (i33_ :: i32_ :: i30_ :: i20_ :: i34_ :: (loopo l1 lr1 (.exit 0) [] 0) :: (marko d1) :: i18_ :: i19_ :: i35_ :: t21_) (by rfl) rfl (fun w' hh => ⟨_, rfl, ⟨(x3 ++ [r5]), 0, rfl, A15, c15, V12, (vt hV11 hV12), rfl, (hh.sub (dr2 (kp9 (kp1 kpr))))⟩⟩)
         refine TI.br rfl (W1.toR (W1.look a394_ (by kernel_rfl) (ldN 0 rfl rfl (fun _ => by kernel_rfl) (by rfl) rfl) ?_))
         refine TI.all [0, 2] (by kernel_rfl) rfl ⟨?_, ?_, trivial⟩
         ·
          refine TI.br rfl (W1.toR (W1.look (.slice A11 x3.length c11) (by kernel_rfl) (ld1 8 rfl rfl (fun _ => by kernel_rfl) (by rfl) rfl) ?_))
          refine TI.all [2] (by kernel_rfl) rfl ⟨?_, trivial⟩
          obtain ⟨r5, hb6, hX4⟩ := ob hX4
          refine TI.br rfl <| W1.toR (W1.call (vAg eSpot) r5 22 #[a394_] (by kernel_rfl) (fun _ => by kernel_rfl) (fun w' hh => elem_Spot_l e2 r5 hb6 w' ) ?_)
          intro u V12 hV12 hu
          obtain rfl := sureSpot _ _ _ hu
          refine TI.all [3] (by kernel_rfl) rfl ⟨?_, trivial⟩
          let v306_ : List Value := [vi r5.key.pfs, vi r5.key.obj, vi r5.key.off, vi r5.made]
          refine TI.br rfl <| W1.toR (W1.ns 43 v306_ (fun _ => by kernel_rfl) (fun b11 => ?_))
          refine TI.all [4] (by kernel_rfl) rfl ⟨?_, trivial⟩
          obtain ⟨y2, hb7, hX4⟩ := ob hX4
          obtain ⟨hb7_r, hb7_m, rfl⟩ := grow_some hb7
          obtain ⟨ti, hti, hz1, hz2, hz3⟩ := ipStepL_1
          refine TI.br rfl <| W1.toR (W1.append (E := eSpot) (l := x3) (m := [r5]) 4 _ _ 32 ti _ (by rfl) (by kernel_rfl) rfl (by kernel_rfl) hti hz1 hz2 hz3 rfl (by decide) rfl rfl (fun w' hh => (SlOk.srcF (slok_lit (E := eSpot) (f := DSpot.cells) [r5] (fun _ _ => rfl) (Nat.le_of_ble_eq_true (by rfl)) (fun j => hh.cellBox (i := 0) (by rfl) j)) (fun _ _ _ _ h => h))) hb7_r hb7_m (fun A15 c15 => ?_))
          refine TI.all [5] (by kernel_rfl) rfl ⟨?_, trivial⟩
          let i36_ : HObj := box b11 43 v306_
          let i37_ : HObj := row 43 eSpot A15 c15 (x3 ++ [r5])
          let v307_ : List Value := [.slice A15 ((x3 ++ [r5]).length) c15]
          let i38_ : HObj := box b5 95 v307_
          refine TI.br rfl <| W1.toR (W1.st 9 v307_ (i36_ :: i32_ :: i30_ :: i20_ :: i37_ :: (busyo l1 lr1) :: (marko d1) :: i18_ :: i19_ :: i38_ :: t21_) v307_ (by rfl) rfl rfl rfl rfl rfl rfl (fun _ => by kernel_rfl) ?_)
          refine TI.done (by kernel_rfl) ?_
          cases hX4
          repeat first | refine T.unthenN ?_ | refine T.unblockN ?_
          exact T.roundEnd (.exit 0) [] 5 (i36_ :: i32_ :: i30_ :: i20_ :: i37_ :: (loopo l1 lr1 (.exit 0) [] 0) :: (marko d1) :: i18_ :: i19_ :: i38_ :: t21_) (by rfl) rfl (fun w' hh => ⟨_, rfl, ⟨(x3 ++ [r5]), 0, rfl, A15, c15, V12, (vt hV11 hV12), rfl, (hh.sub (dr2 (kp9 (kp1 kpr))))⟩⟩)
         obtain ⟨r5, hb6, hX4⟩ := ob hX4
         refine TI.br rfl <| W1.toR (W1.call (vAg eSpot) r5 22 #[a394_] (by kernel_rfl) (fun _ => by kernel_rfl) (fun w' hh => elem_Spot_l e2 r5 hb6 w' ) ?_)
         intro u V12 hV12 hu
         obtain rfl := sureSpot _ _ _ hu
         refine TI.all [0, 3] (by kernel_rfl) rfl ⟨?_, ?_, trivial⟩
         ·
          refine TI.br rfl (W1.toR (W1.look (.slice A11 x3.length c11) (by kernel_rfl) (ld1 8 rfl rfl (fun _ => by kernel_rfl) (by rfl) rfl) ?_))
          refine TI.all [3] (by kernel_rfl) rfl ⟨?_, trivial⟩
          let v308_ : List Value := [vi r5.key.pfs, vi r5.key.obj, vi r5.key.off, vi r5.made]
          refine TI.br rfl <| W1.toR (W1.ns 43 v308_ (fun _ => by kernel_rfl) (fun b11 => ?_))
          refine TI.all [4] (by kernel_rfl) rfl ⟨?_, trivial⟩
          obtain ⟨y2, hb7, hX4⟩ := ob hX4
          obtain ⟨hb7_r, hb7_m, rfl⟩ := grow_some hb7
          obtain ⟨ti, hti, hz1, hz2, hz3⟩ := ipStepL_1
          refine TI.br rfl <| W1.toR (W1.append (E := eSpot) (l := x3) (m := [r5]) 4 _ _ 32 ti _ (by rfl) (by kernel_rfl) rfl (by kernel_rfl) hti hz1 hz2 hz3 rfl (by decide) rfl rfl (fun w' hh => (SlOk.srcF (slok_lit (E := eSpot) (f := DSpot.cells) [r5] (fun _ _ => rfl) (Nat.le_of_ble_eq_true (by rfl)) (fun j => hh.cellBox (i := 0) (by rfl) j)) (fun _ _ _ _ h => h))) hb7_r hb7_m (fun A15 c15 => ?_))
          refine TI.all [5] (by kernel_rfl) rfl ⟨?_, trivial⟩
          let i39_ : HObj := box b11 43 v308_
          let i40_ : HObj := row 43 eSpot A15 c15 (x3 ++ [r5])
          let v309_ : List Value := [.slice A15 ((x3 ++ [r5]).length) c15]
          let i41_ : HObj := box b5 95 v309_
          refine TI.br rfl <| W1.toR (W1.st 9 v309_ (i39_ :: i32_ :: i30_ :: i20_ :: i40_ :: (busyo l1 lr1) :: (marko d1) :: i18_ :: i19_ :: i41_ :: t21_) v309_ (by rfl) rfl rfl rfl rfl rfl rfl (fun _ => by kernel_rfl) ?_)
          refine TI.done (by kernel_rfl) ?_
          cases hX4
          repeat first | refine T.unthenN ?_ | refine T.unblockN ?_
          exact T.roundEnd (.exit 0) [] 5 (i39_ :: i32_ :: i30_ :: i20_ :: i40_ :: (loopo l1 lr1 (.exit 0) [] 0) :: (marko d1) :: i18_ :: i19_ :: i41_ :: t21_) (by rfl) rfl (fun w' hh => ⟨_, rfl, ⟨(x3 ++ [r5]), 0, rfl, A15, c15, V12, (vt hV11 hV12), rfl, (hh.sub (dr2 (kp9 (kp1 kpr))))⟩⟩)
         let v310_ : List Value := [vi r5.key.pfs, vi r5.key.obj, vi r5.key.off, vi r5.made]
         refine TI.br rfl <| W1.toR (W1.ns 43 v310_ (fun _ => by kernel_rfl) (fun b11 => ?_))
         refine TI.all [0] (by kernel_rfl) rfl ⟨?_, trivial⟩
         refine TI.br rfl (W1.toR (W1.look (.slice A11 x3.length c11) (by kernel_rfl) (ld1 9 rfl rfl (fun _ => by kernel_rfl) (by rfl) rfl) ?_))
         refine TI.all [4] (by kernel_rfl) rfl ⟨?_, trivial⟩
         obtain ⟨y2, hb7, hX4⟩ := ob hX4
         obtain ⟨hb7_r, hb7_m, rfl⟩ := grow_some hb7
         obtain ⟨ti, hti, hz1, hz2, hz3⟩ := ipStepL_1
         refine TI.br rfl <| W1.toR (W1.append (E := eSpot) (l := x3) (m := [r5]) 4 _ _ 32 ti _ (by rfl) (by kernel_rfl) rfl (by kernel_rfl) hti hz1 hz2 hz3 rfl (by decide) rfl rfl (fun w' hh => (SlOk.srcF (slok_lit (E := eSpot) (f := DSpot.cells) [r5] (fun _ _ => rfl) (Nat.le_of_ble_eq_true (by rfl)) (fun j => hh.cellBox (i := 0) (by rfl) j)) (fun _ _ _ _ h => h))) hb7_r hb7_m (fun A15 c15 => ?_))
         refine TI.all [5] (by kernel_rfl) rfl ⟨?_, trivial⟩
         let i42_ : HObj := box b11 43 v310_
         let i43_ : HObj := row 43 eSpot A15 c15 (x3 ++ [r5])
         let v311_ : List Value := [.slice A15 ((x3 ++ [r5]).length) c15]
         let i44_ : HObj := box b5 95 v311_
         refine TI.br rfl <| W1.toR (W1.st 9 v311_ (i42_ :: i32_ :: i30_ :: i20_ :: i43_ :: (busyo l1 lr1) :: (marko d1) :: i18_ :: i19_ :: i44_ :: t21_) v311_ (by rfl) rfl rfl rfl rfl rfl rfl (fun _ => by kernel_rfl) ?_)
         refine TI.done (by kernel_rfl) ?_
         cases hX4
         repeat first | refine T.unthenN ?_ | refine T.unblockN ?_
         exact T.roundEnd (.exit 0) [] 5 (i42_ :: i32_ :: i30_ :: i20_ :: i43_ :: (loopo l1 lr1 (.exit 0) [] 0) :: (marko d1) :: i18_ :: i19_ :: i44_ :: t21_) (by rfl) rfl (fun w' hh => ⟨_, rfl, ⟨(x3 ++ [r5]), 0, rfl, A15, c15, V12, (vt hV11 hV12), rfl, (hh.sub (dr2 (kp9 (kp1 kpr))))⟩⟩)
        rw [hc7, cond_false] at hX4
        refine T.skip_code ?_
        cases hX4
        repeat first | refine T.unthenN ?_ | refine T.unblockN ?_
        exact T.roundEnd (.exit 0) [] 4 (i32_ :: t31_) (by rfl) rfl (fun w' hh => ⟨_, rfl, ⟨x3, 0, rfl, A11, c11, V11, hV11, rfl, (hh.sub (dr1 (kp9 (kp1 kpr))))⟩⟩)
       rintro v w' ⟨z6, k4, rfl, A14, c14, V10, hV10, rfl, hh⟩
       try dsimp only at hX3
       refine ⟨V10, (i30_ :: i20_ :: (row 43 eSpot A14 c14 z6) :: (loopo l1 lr1 (.exit 0) [] k4) :: (marko d1) :: i18_ :: i19_ :: (box b5 95 [.slice A14 z6.length c14]) :: t21_), hh, ?_⟩
       clear hh
       cases k4 with
       | zero =>
        rw [natCase_zero] at hX3
        refine T.pk (.bool false) (fun _ => by kernel_rfl) (T.nil ?_)
        cases hX3
        exact fun a w' hf hh => ⟨z6, 0, rfl, A14, c14, V10, hV10, (Fr.sel hf rfl), (hh.sub (dr1 (kp8 (kp1 kpr))))⟩
       | succ k5 =>
        rw [natCase_succ] at hX3
        refine T.pk (.bool true) (fun _ => by kernel_rfl) (T.nil ?_)
        cases hX3
        exact fun a w' hf hh => ⟨z6, (k5 + 1), rfl, A14, c14, V10, hV10, (Fr.sel hf rfl), (hh.sub (dr1 (kp8 (kp1 kpr))))⟩
      rintro a w' ⟨z5, k3, rfl, A13, c13, V9, hV9, hf, hh⟩
      try dsimp only at hY1
      refine (?_ : T 42 w V9 (i20_ :: (row 43 eSpot A13 c13 z5) :: (loopo l1 lr1 (.exit 0) [] k3) :: (marko d1) :: i18_ :: i19_ :: (box b5 95 [.slice A13 z5.length c13]) :: t21_) [(1, .func (.yield l1) #[] #[]), (3, pB b7 0), (7, pB b8 0), (18, .slice A7 e1.elems.length c7), (19, vi (e1.elems.length : Int)), (20, vi x4), (27, .bool (!(isz k3)))] _) a w' hf hh
      clear hf hh
      cases k3 with
      | zero =>
       rw [natCase_zero] at hY1
       refine T.cond false (by kernel_rfl) (by kernel_rfl) (fun h => Bool.noConfusion h) (fun _ => ?_)
       refine T.skip_code ?_
       refine T.region (T.p2 (vi (IntKind.i64.wrap (x4 + 1))) (vi (IntKind.i64.wrap (x4 + 1))) (fun _ => by kernel_rfl) (T.nil ?_))
       cases hY1
       exact fun a w' hf hh => ⟨(z5, IntKind.i64.wrap (x4 + 1)), rfl, z5, (IntKind.i64.wrap (x4 + 1)), rfl, A13, c13, V9, (vt hV7 hV9), (Fr.sel hf rfl), (hh.sub (kp8 (kp1 kpr)))⟩
      | succ k6 =>
       rw [natCase_succ] at hY1
       refine T.cond true (by kernel_rfl) (by kernel_rfl) (fun _ => ?_) (fun h => Bool.noConfusion h)
       refine T.seq (T.region (T.pk (.bool false) (fun _ => by kernel_rfl) (T.nil ?_)))
       cases hY1
       cases (hr2 _ rfl)
       try dsimp only at hS1
       have hres := Option.some.inj hS1
       subst hres
       refine T.ret rfl ?_
       repeat first | refine T.unthen ?_ | refine T.unblock ?_
       exact T.ret1 rfl (ResIs.tmp rfl) fun w' hh => ⟨_, rfl, ⟨z5, (k6 + 1), rfl, A13, c13, V9, (vt hV7 hV9), rfl, (hh.sub (dr1 (kp7 (kp1 kpr))))⟩⟩
     rw [hc5, cond_false] at hY1
     refine T.exit ?_
     cases hY1
     cases (hr2 _ rfl)
     exact fun a w' hf hh => ⟨x3, rfl, A11, c11, V7, hV7, (Fr.sel hf rfl), (hh.sub (kp8 (kp1 kpr)))⟩
    rintro a w' ⟨z4, rfl, A12, c12, V8, hV8, hf, hh⟩
    try dsimp only at hS1
    refine (?_ : T 42 w V8 (i20_ :: (row 43 eSpot A12 c12 z4) :: (loopo l1 lr1 (.exit 0) [] 0) :: (marko d1) :: i18_ :: i19_ :: (box b5 95 [.slice A12 z4.length c12]) :: t21_) [(1, .func (.yield l1) #[] #[]), (3, pB b7 0), (7, pB b8 0)] _) a w' hf hh
    clear hf hh
    refine T.seq (T.seq (T.region (T.pk (pB b8 2) (fun _ => by kernel_rfl) (T.look (.slice A8 e1.kids.length c8) (by kernel_rfl) (ld1 0 rfl rfl (fun _ => by kernel_rfl) (by rfl) rfl) ?_))))
    refine T.p2 (vi (e1.kids.length : Int)) (vi 0) (fun _ => by kernel_rfl) (T.nil ?_)
    obtain ⟨q6, hz3, hS1⟩ := ob hS1
    refine T.mid (fun a w' => ∃ (z7 : List DSpot), q6 = Sum.inl z7 ∧ ∃ (A17 : Option Addr) (c17 : Nat) (V14 : View), View.le V8 V14 ∧ Fr 42 [] a ∧ Hp w V14 ((row 43 eSpot A17 c17 z7) :: (loopo l1 lr1 (.exit 0) [] 0) :: (marko d1) :: i18_ :: i19_ :: (box b5 95 [.slice A17 z7.length c17]) :: t21_) w') ?_ ?_
    ·
     refine T.block ?_
     refine T.iter (fun s2 a w' => ∃ (x5 : List DSpot) (x6 : Int), s2 = (x5, x6) ∧ ∃ (A16 : Option Addr) (c16 : Nat) (V13 : View), View.le V8 V13 ∧ Fr 42 [(1, .func (.yield l1) #[] #[]), (3, pB b7 0), (30, .slice A8 e1.kids.length c8), (31, vi (e1.kids.length : Int)), (32, vi x6)] a ∧ Hp w V13 ((row 43 eSpot A16 c16 x5) :: (loopo l1 lr1 (.exit 0) [] 0) :: (marko d1) :: i18_ :: i19_ :: (box b5 95 [.slice A16 x5.length c16]) :: t21_) w') hz3 ?_ ?_
     ·
      exact fun a w' hf hh => ⟨z4, 0, rfl, A12, c12, V8, vr, (Fr.sel hf rfl), (hh.sub (dr1 (kp7 (kp1 kpr))))⟩
     rintro s2 y3 hY2 hr3 a w' ⟨x5, x6, rfl, A16, c16, V13, hV13, hf, hh⟩
     refine (?_ : T 42 w V13 ((row 43 eSpot A16 c16 x5) :: (loopo l1 lr1 (.exit 0) [] 0) :: (marko d1) :: i18_ :: i19_ :: (box b5 95 [.slice A16 x5.length c16]) :: t21_) [(1, .func (.yield l1) #[] #[]), (3, pB b7 0), (30, .slice A8 e1.kids.length c8), (31, vi (e1.kids.length : Int)), (32, vi x6)] _) a w' hf hh
     clear hf hh
     try dsimp only at hY2
     refine T.seq (T.region (T.pk (.bool (decide (x6 < (e1.kids.length : Int)))) (fun _ => by kernel_rfl) (T.nil (T.seq ?_))))
     refine T.cond (decide (x6 < (e1.kids.length : Int))) (by kernel_rfl) (by kernel_rfl) (fun hc8 => ?_) (fun hc8 => ?_)
     ·
      rw [hc8, cond_true] at hY2
      refine T.skip_code ?_
      refine T.seq (T.block (T.seq (T.region ?_)))
      obtain ⟨e3, hb8, hY2⟩ := ob hY2
      obtain ⟨hi7, hi8, hi9⟩ := idx_some hb8
      refine T.look (.pointer (some ((sadr A8).add (x6.toNat * 1)))) (by kernel_rfl) (fun w' hh => exec_indexAddr (e := 3) (s := 1) rfl rfl rfl (by kernel_rfl) (by kernel_rfl) hi7 hi8 ((SlOk.mono hs4 (vt hV8 hV13)).some_ hi9 (by decide))) ?_
      refine T.look (vi e3) (by kernel_rfl) (fun w' hh => exec_load1 rfl rfl (by kernel_rfl) (hh.cell_view (SlOk.cellF0 (E := eInt) (SlOk.mono hs4 (vt hV8 hV13)) hi9 (fun _ _ _ h => h) rfl))) ?_
      refine T.pk (vi e3) (fun _ => by kernel_rfl) (T.nil ?_)
      obtain ⟨q7, hX5, hY2⟩ := ob hY2
      refine T.cut (fun a w' => ∃ (z8 : List DSpot) (k7 : Nat), q7 = (z8, k7) ∧ ∃ (A18 : Option Addr) (c18 : Nat) (V15 : View), View.le V13 V15 ∧ Fr 42 [(1, .func (.yield l1) #[] #[]), (3, pB b7 0), (30, .slice A8 e1.kids.length c8), (31, vi (e1.kids.length : Int)), (32, vi x6), (40, .bool (!(isz k7)))] a ∧ Hp w V15 ((row 43 eSpot A18 c18 z8) :: (loopo l1 lr1 (.exit 0) [] k7) :: (marko d1) :: i18_ :: i19_ :: (box b5 95 [.slice A18 z8.length c18]) :: t21_) w') ?_ ?_
      ·
       refine T.region (T.look (.func (.func 76) #[] #[pB b6 0, pB b7 0]) (by kernel_rfl) (ld1 3 rfl rfl (fun _ => by kernel_rfl) (by rfl) rfl) ?_)
       refine T.p2 (vi e3) (.func (.yield l1) #[] #[]) (fun _ => by kernel_rfl) ?_
       obtain ⟨q8, hz4, hX5⟩ := ob hX5
       refine T.step (W1.callI 76 [vi e3, .func (.yield l1) #[] #[], pB b6 0, pB b7 0] (fun v w' => ∃ (z9 : List DSpot) (z10 : Nat), q8 = (z9, z10) ∧ ∃ (A19 : Option Addr) (c19 : Nat) (V16 : View), View.le V13 V16 ∧ v = .bool (isz z10) ∧ Hp w V16 ((row 43 eSpot A19 c19 z9) :: (loopo l1 lr1 (.exit 0) [] z10) :: (marko d1) :: i18_ :: i19_ :: (box b5 95 [.slice A19 z9.length c19]) :: t21_) w') (by kernel_rfl) (fun _ => by kernel_rfl) (fun w' hh => ih1 _ _ hz4 x5 e3 rfl A16 c16 V13 G2 w' (vt (vt hV5 hV8) hV13) (hh.sub (kp7 (kp1 kpr)))) ?_)
       rintro v w' ⟨z9, z10, rfl, A19, c19, V16, hV16, rfl, hh⟩
       try dsimp only at hX5
       refine ⟨_, _, hh, ?_⟩
       clear hh
       cases z10 with
       | zero =>
        rw [natCase_zero] at hX5
        refine T.pk (.bool false) (fun _ => by kernel_rfl) (T.nil ?_)
        cases hX5
        exact fun a w' hf hh => ⟨z9, 0, rfl, A19, c19, V16, hV16, (Fr.sel hf rfl), (hh.sub (kp7 (kp1 kpr)))⟩
       | succ k8 =>
        rw [natCase_succ] at hX5
        refine T.pk (.bool true) (fun _ => by kernel_rfl) (T.nil ?_)
        cases hX5
        exact fun a w' hf hh => ⟨z9, (k8 + 1), rfl, A19, c19, V16, hV16, (Fr.sel hf rfl), (hh.sub (kp7 (kp1 kpr)))⟩
      rintro a w' ⟨z8, k7, rfl, A18, c18, V15, hV15, hf, hh⟩
      try dsimp only at hY2
      refine (?_ : T 42 w V15 ((row 43 eSpot A18 c18 z8) :: (loopo l1 lr1 (.exit 0) [] k7) :: (marko d1) :: i18_ :: i19_ :: (box b5 95 [.slice A18 z8.length c18]) :: t21_) [(1, .func (.yield l1) #[] #[]), (3, pB b7 0), (30, .slice A8 e1.kids.length c8), (31, vi (e1.kids.length : Int)), (32, vi x6), (40, .bool (!(isz k7)))] _) a w' hf hh
      clear hf hh
      cases k7 with
      | zero =>
       rw [natCase_zero] at hY2
       refine T.cond false (by kernel_rfl) (by kernel_rfl) (fun h => Bool.noConfusion h) (fun _ => ?_)
       refine T.skip_code ?_
       refine T.region (T.p2 (vi (IntKind.i64.wrap (x6 + 1))) (vi (IntKind.i64.wrap (x6 + 1))) (fun _ => by kernel_rfl) (T.nil ?_))
       cases hY2
       exact fun a w' hf hh => ⟨(z8, IntKind.i64.wrap (x6 + 1)), rfl, z8, (IntKind.i64.wrap (x6 + 1)), rfl, A18, c18, V15, (vt hV13 hV15), (Fr.sel hf rfl), (hh.sub (kp7 (kp1 kpr)))⟩
      | succ k9 =>
       rw [natCase_succ] at hY2
       refine T.cond true (by kernel_rfl) (by kernel_rfl) (fun _ => ?_) (fun h => Bool.noConfusion h)
       refine T.seq (T.region (T.pk (.bool false) (fun _ => by kernel_rfl) (T.nil ?_)))
       cases hY2
       cases (hr3 _ rfl)
       try dsimp only at hS1
       have hres := Option.some.inj hS1
       subst hres
       refine T.ret rfl ?_
       repeat first | refine T.unthen ?_ | refine T.unblock ?_
       exact T.ret1 rfl (ResIs.tmp rfl) fun w' hh => ⟨_, rfl, ⟨z8, (k9 + 1), rfl, A18, c18, V15, (vt (vt hV8 hV13) hV15), rfl, (hh.sub (kp7 (kp1 kpr)))⟩⟩
     rw [hc8, cond_false] at hY2
     refine T.exit ?_
     cases hY2
     cases (hr3 _ rfl)
     exact fun a w' hf hh => ⟨x5, rfl, A16, c16, V13, hV13, (Fr.nil hf), (hh.sub (kp7 (kp1 kpr)))⟩
    rintro a w' ⟨z7, rfl, A17, c17, V14, hV14, hf, hh⟩
    try dsimp only at hS1
    refine (?_ : T 42 w V14 ((row 43 eSpot A17 c17 z7) :: (loopo l1 lr1 (.exit 0) [] 0) :: (marko d1) :: i18_ :: i19_ :: (box b5 95 [.slice A17 z7.length c17]) :: t21_) [] _) a w' hf hh
    clear hf hh
    refine T.seq (T.region (T.pk (.bool true) (fun _ => by kernel_rfl) (T.nil ?_)))
    have hres := Option.some.inj hS1
    subst hres
    refine T.ret rfl ?_
    repeat first | refine T.unthen ?_ | refine T.unblock ?_
    exact T.ret1 rfl (ResIs.tmp rfl) fun w' hh => ⟨_, rfl, ⟨z7, 0, rfl, A17, c17, V14, (vt hV8 hV14), rfl, (hh.sub (kp7 (kp1 kpr)))⟩⟩
   refine T.step (W1.callI 76 [vi p0.root, .func (.yield l1) #[] #[], pB b6 0, pB b7 0] (fun v w' => ∃ (z11 : List DSpot) (z12 : Nat), q2 = (z11, z12) ∧ ∃ (A20 : Option Addr) (c20 : Nat) (V17 : View), View.le V2 V17 ∧ v = .bool (isz z12) ∧ Hp w V17 ((row 43 eSpot A20 c20 z11) :: (loopo l1 lr1 (.exit 0) [] z12) :: (marko d1) :: i18_ :: i19_ :: (box b5 95 [.slice A20 z11.length c20]) :: (box b3 3 [vi p2]) :: i13_ :: t12_) w') (by kernel_rfl) (fun _ => by kernel_rfl) (fun w' hh => hq1 [] p0.root rfl none 0 V2 t12_ w' vr ((hh.sub (kp9 (kp1 kp0))).perm (pc6 (pt sw0 (pc1 (pt sw0 pz)))))) ?_)
   rintro v w' ⟨z11, z12, rfl, A20, c20, V17, hV17, rfl, hh⟩
   try dsimp only at hX2
   refine ⟨V17, ((row 43 eSpot A20 c20 z11) :: (loopo l1 lr1 (.exit 0) [] z12) :: (marko d1) :: i18_ :: i19_ :: (box b5 95 [.slice A20 z11.length c20]) :: t16_), (hh.sub (kp9 (kp1 kp0))).perm (pc6 (pt sw1 (pt sw0 pz))), ?_⟩
   clear hh
   cases z12 with
   | zero =>
    rw [natCase_zero] at hX2
    refine T.nil ?_
    cases hX2
    repeat first | refine T.unthenN ?_ | refine T.unblockN ?_
    exact T.end0 rfl (fun w' hh => ⟨_, rfl, ⟨z11, 0, rfl, A20, c20, V17, hV17, ((hh.sub (kp3 (dr2 (kp2 (dr2 (kp1 kp0)))))).perm (pt sw0 pz))⟩⟩)
   | succ k10 =>
    rw [natCase_succ] at hX2
    refine T.nil ?_
    cases hX2
    repeat first | refine T.unthenN ?_ | refine T.unblockN ?_
    exact T.end0 rfl (fun w' hh => ⟨_, rfl, ⟨z11, (k10 + 1), rfl, A20, c20, V17, hV17, ((hh.sub (kp3 (dr2 (kp2 (dr2 (kp1 kp0)))))).perm (pt sw0 pz))⟩⟩)
  rintro l1 d1 lr1 w' ⟨z2, k1, rfl, A4, c4, V4, hV4, hh⟩
  try dsimp only at hX1
  refine ⟨V4, ((row 43 eSpot A4 c4 z2) :: (marko d1) :: (box b5 95 [.slice A4 z2.length c4]) :: t12_), k1, hh, ?_⟩
  clear hh
  cases k1 with
  | zero =>
   rw [natCase_zero] at hX1
   rw [natCase_zero]
   cases hX1
   exact fun a w' hf hh => ⟨A4, c4, d1, V4, hV4, (Fr.sel hf rfl), (hh.sub (kp4 (kp1 kp0)))⟩
  | succ k11 =>
   rw [natCase_succ] at hX1
   rw [natCase_succ]
   rw [pick_nil]
   refine T.exit ?_
   cases hX1
   exact fun a w' hf hh => ⟨A4, c4, d1, V4, hV4, (Fr.sel hf rfl), (hh.sub (kp4 (kp1 kp0)))⟩
 rintro a w' ⟨A3, c3, d1, V3, hV3, hf, hh⟩
 let i45_ : HObj := box b5 95 [.slice A3 z1.length c3]
 let t46_ : List HObj := i45_ :: t12_
 let t47_ : List HObj := (marko d1) :: t46_
 let t48_ : List HObj := (row 43 eSpot A3 c3 z1) :: t47_
 refine (?_ : T ⟨62, [d1]⟩ w V3 t48_ [(3, pB b1 0), (6, pB b4 0), (11, pB b5 0)] _) a w' hf hh
 clear hf hh
 refine T.seq (T.region (T.look a393_ (by kernel_rfl) (ldN 4 rfl rfl (fun _ => by kernel_rfl) (by rfl) rfl) ?_))
 obtain ⟨r6, hb9, hF⟩ := ob hF
 refine T.step (W1.callG 44 #[a393_] (fun p : Option Addr × Nat × List DHdr => .agg #[vi r6.root, .slice p.1 p.2.2.length p.2.1]) (fun p => ((row 97 eHdr p.1 p.2.1 p.2.2) :: (treeo (TreeTy.mk 28 3 43) p.2.2 (r6.nodes.map Sum.inr)) :: [])) (fun p => p.2.2.length = r6.nodes.length) (by kernel_rfl) (fun _ => by kernel_rfl) (fun w' hh => tree_Copy_l F p0 r6 hb9 w' A1 c1 (SlOk.mono (SlOk.mono hs1 (vt (vt hV1 hV2) hV3)) hh.view)) ?_)
 rintro ⟨A21, c21, hs7⟩ hl5
 let i49_ : HObj := treeo (TreeTy.mk 28 3 43) hs7 (r6.nodes.map Sum.inr)
 refine T.reH (H' := ((row 97 eHdr A21 c21 hs7) :: i49_ :: t48_)) (by rfl) ?_
 refine T.step (W1.np 24 v300_ (fun _ => by kernel_rfl) (fun b12 => ?_))
 let v312_ : List Value := [vi r6.root, .slice A21 hs7.length c21]
 refine T.step (W1.st 0 v312_ ((box b12 24 v312_) :: (row 97 eHdr A21 c21 hs7) :: i49_ :: t48_) v312_ (by rfl) rfl rfl rfl rfl rfl rfl (fun _ => by kernel_rfl) ?_)
 refine T.nil (T.seq (T.seq ?_))
 refine T.tree 2 (by rfl) (fun ht1 => ?_)
 refine T.region (T.look (.slice A3 z1.length c3) (by kernel_rfl) (ld1 5 rfl rfl (fun _ => by kernel_rfl) (by rfl) rfl) ?_)
 refine T.p2 (vi (z1.length : Int)) (vi 0) (fun _ => by kernel_rfl) (T.nil ?_)
 obtain ⟨q9, hz5, hF⟩ := ob hF
 let t50_ : List HObj := i45_ :: i10_ :: []
 let t51_ : List HObj := (marko d1) :: t50_
 let t52_ : List HObj := (row 43 eSpot A3 c3 z1) :: t51_
 refine T.mid (fun a w' => ∃ (z13 : Int) (z14 : List (Int ⊕ DNode)), q9 = (z13, z14) ∧ ∃ (hs9 : List DHdr) (V19 : View), View.le V3 V19 ∧ Fr ⟨62, [d1]⟩ [(6, pB b4 0), (11, pB b5 0), (13, pB b12 0)] a ∧ Hp w V19 ((box b12 24 [vi z13, .slice A21 hs9.length c21]) :: (row 97 eHdr A21 c21 hs9) :: (treeo (TreeTy.mk 28 3 43) hs9 z14) :: t52_) w') ?_ ?_
 ·
  refine T.block ?_
  refine T.iter (fun s3 a w' => ∃ (x7 : Int) (x8 : List (Int ⊕ DNode)) (x9 : Int), s3 = (x7, x8, x9) ∧ ∃ (hs8 : List DHdr) (V18 : View), View.le V3 V18 ∧ Fr ⟨62, [d1]⟩ [(6, pB b4 0), (11, pB b5 0), (13, pB b12 0), (49, .slice A3 z1.length c3), (50, vi (z1.length : Int)), (51, vi x9)] a ∧ Hp w V18 ((box b12 24 [vi x7, .slice A21 hs8.length c21]) :: (row 97 eHdr A21 c21 hs8) :: (treeo (TreeTy.mk 28 3 43) hs8 x8) :: t52_) w') hz5 ?_ ?_
  ·
   exact fun a w' hf hh => ⟨r6.root, (r6.nodes.map Sum.inr), 0, rfl, hs7, V3, vr, (Fr.sel hf rfl), (hh.sub (kp7 (dr1 kp0)))⟩
  rintro s3 y4 hY3 hr4 a w' ⟨x7, x8, x9, rfl, hs8, V18, hV18, hf, hh⟩
  let v313_ : List Value := [vi x7, .slice A21 hs8.length c21]
  let i53_ : HObj := box b12 24 v313_
  let i54_ : HObj := treeo (TreeTy.mk 28 3 43) hs8 x8
  refine (?_ : T ⟨62, [d1]⟩ w V18 (i53_ :: (row 97 eHdr A21 c21 hs8) :: i54_ :: t52_) [(6, pB b4 0), (11, pB b5 0), (13, pB b12 0), (49, .slice A3 z1.length c3), (50, vi (z1.length : Int)), (51, vi x9)] _) a w' hf hh
  clear hf hh
  try dsimp only at hY3
  refine T.seq (T.region (T.pk (.bool (decide (x9 < (z1.length : Int)))) (fun _ => by kernel_rfl) (T.nil (T.seq ?_))))
  refine T.cond (decide (x9 < (z1.length : Int))) (by kernel_rfl) (by kernel_rfl) (fun hc9 => ?_) (fun hc9 => ?_)
  ·
   rw [hc9, cond_true] at hY3
   refine T.skip_code ?_
   refine T.seq (T.block (T.seq ?_))
   refine T.tree 2 (by rfl) (fun ht2 => ?_)
   refine T.region ?_
   obtain ⟨e4, hb10, hY3⟩ := ob hY3
   obtain ⟨hi10, hi11, hi12⟩ := idx_some hb10
   refine T.look (.pointer (some ((sadr A3).add (x9.toNat * 4)))) (by kernel_rfl) (ixR 3 (e := 43) (s := 4) rfl rfl rfl (fun _ => by kernel_rfl) hi10 hi11 (by rfl) hi12 (by decide)) ?_
   let v314_ : List Value := [vi e4.key.pfs, vi e4.key.obj, vi e4.key.off, vi e4.made]
   let a395_ : Value := .agg #[vi e4.key.pfs, vi e4.key.obj, vi e4.key.off, vi e4.made]
   refine T.look a395_ (by kernel_rfl) (fun w' hh => exec_loadN (cs := v314_) rfl rfl (by kernel_rfl) (by kernel_rfl) (fun j u hj => (SlOk.wcellF (E := eSpot) (hh.row_slOk (i := 3) (by rfl)) hi12 j (fun _ _ _ h => h) hj))) ?_
   let v315_ : List Value := [vi 0, vi 0, vi 0, vi 0]
   refine T.step (W1.np 43 v315_ (fun _ => by kernel_rfl) (fun b13 => ?_))
   let i55_ : HObj := box b13 43 v314_
   refine T.step (W1.st 0 v314_ (i55_ :: i53_ :: (row 97 eHdr A21 c21 hs8) :: i54_ :: t52_) v314_ (by rfl) rfl rfl rfl rfl rfl rfl (fun _ => by kernel_rfl) ?_)
   refine T.nil (T.region ?_)
   let a396_ : Value := .agg #[vi x7, .slice A21 hs8.length c21]
   refine T.look a396_ (by kernel_rfl) (ldN 1 rfl rfl (fun _ => by kernel_rfl) (by rfl) rfl) ?_
   refine T.look a395_ (by kernel_rfl) (ldN 0 rfl rfl (fun _ => by kernel_rfl) (by rfl) rfl) ?_
   obtain ⟨q10, hX6, hY3⟩ := ob hY3
   refine T.step (W1.within 50 [a396_, a395_] (fun v w' => ∃ (z15 : List (Int ⊕ DNode)) (z16 : Int), q10 = (z15, z16) ∧ ∃ (hs10 : List DHdr) (V20 : View), View.le V18 V20 ∧ v = .agg #[vi z16, .slice A21 hs10.length c21] ∧ Hp w V20 (i55_ :: i53_ :: (row 97 eHdr A21 c21 hs10) :: (treeo (TreeTy.mk 28 3 43) hs10 z15) :: t52_) w') Try.func50 rfl rfl (by kernel_rfl) (fun _ => by kernel_rfl) rfl ?_ ?_)
   ·
    refine T.seq (T.region (T.step (W1.np 24 v313_ (fun _ => by kernel_rfl) (fun b14 => ?_))))
    refine T.step (W1.np 43 v314_ (fun _ => by kernel_rfl) (fun b15 => ?_))
    refine T.step (W1.np 24 v300_ (fun _ => by kernel_rfl) (fun b16 => ?_))
    refine T.nil (T.seq (T.region (T.look a396_ (by kernel_rfl) (ldN 2 rfl rfl (fun _ => by kernel_rfl) (by rfl) rfl) ?_)))
    refine T.p2 a396_ a396_ (fun _ => by kernel_rfl) (T.step (W1.np 137 v313_ (fun _ => by kernel_rfl) (fun b17 => ?_)))
    refine T.pk (pB b17 0) (fun _ => by kernel_rfl) (T.nil (T.seq ?_))
    let i56_ : HObj := box b17 137 v313_
    let i57_ : HObj := box b16 24 v300_
    let i58_ : HObj := box b15 43 v314_
    let t59_ : List HObj := (row 43 eSpot A3 c3 z1) :: t50_
    refine T.heldL 8 (i56_ :: i57_ :: i58_ :: i55_ :: i53_ :: (row 97 eHdr A21 c21 hs8) :: t59_) (by kernel_rfl) ?_
    have w427_ := vt (vt (vt hV1 hV2) hV3) hV18
    refine TL.keep (Hp.old vr w427_ (kp3 (dr1 (kp3 (dr1 (kp1 (dr1 (kp1 (kp1 kp0)))))))) (oB5 (oR2 (oB1 (oB1 ol0))))) fun o442_ => ?_
    refine TL.tv 0 (pB b17 0) rfl (fun _ => by kernel_rfl) (fun _ _ _ h => h) o442_ ?_
    refine TL.tv 1 (pB b17 0) rfl (fun _ => by kernel_rfl) (fun _ _ _ h => h) o442_ ?_
    refine TL.tv 2 (pB b17 0) rfl (fun _ => by kernel_rfl) (fun _ _ _ h => h) o442_ ?_
    refine TL.tv 3 (pB b17 0) rfl (fun _ => by kernel_rfl) (fun _ _ _ h => h) o442_ ?_
    refine TL.tv 4 (pB b17 0) rfl (fun _ => by kernel_rfl) (fun _ _ _ h => h) o442_ ?_
    refine TL.tv 5 (pB b17 0) rfl (fun _ => by kernel_rfl) (fun _ _ _ h => h) o442_ ?_
    refine TL.tk 6 (vi x7) [] rfl (by kernel_rfl) (fun _ _ _ h => h) o442_ (ld1 0 rfl rfl (fun _ => by kernel_rfl) (by rfl) rfl) ?_
    refine TL.tk 7 a395_ [] rfl (by kernel_rfl) (fun _ _ _ h => h) o442_ (ldN 2 rfl rfl (fun _ => by kernel_rfl) (by rfl) rfl) ?_
    refine TL.all [8] (by kernel_rfl) rfl ⟨?_, trivial⟩
    obtain ⟨q11, hz6, hX6⟩ := ob hX6
    refine (have hq2 := fix_rec (fun (s_ : (List (Int ⊕ DNode)) × Int) (r_ : (List (Int ⊕ DNode))) => ∀ (x10 : List (Int ⊕ DNode)) (x11 : Int), s_ = (x10, x11) → ∀ (V21 : View) (G3 : List HObj) (w1 : World), View.le V18 V21 → Hp w V21 (i56_ :: (row 97 eHdr A21 c21 hs8) :: (treeo (TreeTy.mk 28 3 43) hs8 x10) :: (marko d1) :: G3) w1 → Calls Try.prog 78 #[pB b17 0, vi x11, a395_] w1 (fun e w2 => ∃ v, e = .returned v ∧ ∃ (z17 : List (Int ⊕ DNode)), r_ = z17 ∧ ∃ (hs11 : List DHdr) (V22 : View), View.le V21 V22 ∧ v = .tuple #[] ∧ Hp w V22 ((box b17 137 [vi x7, .slice A21 hs11.length c21]) :: (row 97 eHdr A21 c21 hs11) :: (treeo (TreeTy.mk 28 3 43) hs11 z17) :: (marko d1) :: G3) w2)) hz6 ?_; ?_)
    ·
     rintro rf3 ih2 s_ r_ hS2 x10 x11 rfl V21 G3 w1 hV21 hh
     try dsimp only at hS2
     refine T.startI (l := [pB b17 0, vi x11, a395_]) Try.func78 rfl rfl rfl ?_ hh
     clear hh
     refine T.seq (T.region (T.step (W1.np 43 v314_ (fun _ => by kernel_rfl) (fun b18 => ?_))))
     refine T.nil (T.seq ?_)
     refine T.tree 3 (by rfl) (fun ht3 => ?_)
     refine T.region (T.p5 (pB b17 0) (pB b17 0) (pB b17 0) (pB b17 0) (pB b17 1) (fun _ => by kernel_rfl) (T.look (.slice A21 hs8.length c21) (by kernel_rfl) (ld1 1 rfl rfl (fun _ => by kernel_rfl) (by rfl) rfl) ?_))
     refine T.pk (vi x11) (fun _ => by kernel_rfl) ?_
     obtain ⟨n1, hb11, hS2⟩ := ob hS2
     obtain ⟨A22, c22, A23, c23, A24, c24, A25, c25, hi13, hi14, hx1⟩ := ht3.at_ hb11
     refine T.look (.pointer (some ((sadr A21).add (x11.toNat * 5)))) (by kernel_rfl) (ixR 2 (e := 97) (s := 5) rfl rfl rfl (fun _ => by kernel_rfl) hi13 hi14 (by rfl) hx1 (by decide)) ?_
     let v316_ : List Value := [vi n1.kind, .slice A22 n1.elems.length c22, .slice A23 n1.kids.length c23, .slice A24 n1.seps.length c24, .slice A25 n1.tids.length c25]
     let a397_ : Value := .agg #[vi n1.kind, .slice A22 n1.elems.length c22, .slice A23 n1.kids.length c23, .slice A24 n1.seps.length c24, .slice A25 n1.tids.length c25]
     refine T.look a397_ (by kernel_rfl) (fun w' hh => exec_loadN (cs := v316_) rfl rfl (by kernel_rfl) (by kernel_rfl) (fun j u hj => (SlOk.wcellF (E := eHdr) (hh.row_slOk (i := 2) (by rfl)) hx1 j (fun _ _ _ h => h) hj))) ?_
     refine T.takeN (ty := (TreeTy.mk 28 3 43)) (h := (DHdr.mk n1.kind A22 n1.elems.length c22 A23 n1.kids.length c23 A24 n1.seps.length c24 A25 n1.tids.length c25)) 3 (by rfl) hb11 hx1 rfl ?_
     let i60_ : HObj := row 28 eElem A22 c22 n1.elems
     let i61_ : HObj := box b18 43 v314_
     let i62_ : HObj := treeo (TreeTy.mk 28 3 43) hs8 (outAt x10 x11)
     let t63_ : List HObj := i62_ :: (marko d1) :: G3
     let t64_ : List HObj := (row 97 eHdr A21 c21 hs8) :: t63_
     let t65_ : List HObj := i56_ :: t64_
     let t66_ : List HObj := i61_ :: t65_
     let t67_ : List HObj := (row 3 eInt A25 c25 n1.tids) :: t66_
     let t68_ : List HObj := (row 43 eSpot A24 c24 n1.seps) :: t67_
     let t69_ : List HObj := (row 3 eInt A23 c23 n1.kids) :: t68_
     let t70_ : List HObj := i60_ :: t69_
     refine T.reH (H' := t70_) (by rfl) ?_
     refine T.tree 7 (by rfl) (fun ht4 => ?_)
     let v317_ : List Value := [vi 0, sN, sN, sN, sN]
     refine T.step (W1.np 97 v317_ (fun _ => by kernel_rfl) (fun b19 => ?_))
     let i71_ : HObj := box b19 97 v316_
     let t72_ : List HObj := i71_ :: t70_
     refine T.step (W1.st 0 v316_ t72_ v316_ (by rfl) rfl rfl rfl rfl rfl rfl (fun _ => by kernel_rfl) ?_)
     refine T.nil (T.seq (T.seq (T.region (T.pk (pB b19 0) (fun _ => by kernel_rfl) (T.look (vi n1.kind) (by kernel_rfl) (ld1 0 rfl rfl (fun _ => by kernel_rfl) (by rfl) rfl) ?_)))))
     refine T.pk (.bool (n1.kind == 1)) (fun _ => by kernel_rfl) (T.nil ?_)
     refine T.cond (n1.kind == 1) (by kernel_rfl) (by kernel_rfl) (fun hc10 => ?_) (fun hc10 => ?_)
     ·
      rw [hc10, cond_true] at hS2
      refine T.seq (T.region (T.pk (pB b19 1) (fun _ => by kernel_rfl) (T.look (.slice A22 n1.elems.length c22) (by kernel_rfl) (ld1 0 rfl rfl (fun _ => by kernel_rfl) (by rfl) rfl) ?_)))
      refine T.pk (.func (.func 94) #[] #[pB b18 0]) (fun _ => by kernel_rfl) ?_
      obtain ⟨z18, hX7, hS2⟩ := ob hS2
      let v318_ : List Value := [.slice A22 n1.elems.length c22, .func (.func 94) #[] #[pB b18 0]]
      refine T.step (W1.within 93 v318_ (fun v w' => ∃ (A26 : Option Addr) (c26 : Nat) (A27 : Option Addr) (n2 : Nat) (c27 : Nat), v = .slice A26 z18.length c26 ∧ Hp w V21 ((row 28 eElem A26 c26 z18) :: (box b19 97 [vi n1.kind, .slice A27 n2 c27, .slice A23 n1.kids.length c23, .slice A24 n1.seps.length c24, .slice A25 n1.tids.length c25]) :: t69_) w') Try.func93 rfl rfl (by kernel_rfl) (fun _ => by kernel_rfl) rfl ?_ ?_)
      ·
       refine T.seq (T.region (T.pk sN (fun _ => by kernel_rfl) (T.nil (T.seq (T.region (T.p2 (.slice A22 n1.elems.length c22) (.func (.func 94) #[] #[pB b18 0]) (fun _ => by kernel_rfl) ?_))))))
       obtain ⟨z19, hX8, hX7⟩ := ob hX7
       refine T.step (W1.within 100 v318_ (fun v w' => v = vi z19 ∧ Hp w V21 t72_ w') Try.func100 rfl rfl (by kernel_rfl) (fun _ => by kernel_rfl) rfl ?_ ?_)
       ·
        refine T.seq (T.region (T.pk (vi 0) (fun _ => by kernel_rfl) (T.nil (T.seq (T.seq (T.region (T.p3 (.slice A22 n1.elems.length c22) (vi (n1.elems.length : Int)) (vi 0) (fun _ => by kernel_rfl) (T.nil ?_))))))))
        obtain ⟨q12, hz7, hX8⟩ := ob hX8
        refine T.mid (fun a w' => q12 = Sum.inl () ∧ Fr 19 [] a ∧ Hp w V21 t72_ w') ?_ ?_
        ·
         refine T.block ?_
         refine T.iter (fun x12 a w' => Fr 19 [(0, .slice A22 n1.elems.length c22), (1, .func (.func 94) #[] #[pB b18 0]), (7, vi (n1.elems.length : Int)), (8, vi x12)] a ∧ Hp w V21 t72_ w') hz7 ?_ ?_
         ·
          exact fun a w' hf hh => ⟨(Fr.sel hf rfl), (hh.sub (kp9 (kp1 kpr)))⟩
         rintro x12 y5 hY4 hr5 a w' ⟨hf, hh⟩
         refine (?_ : T 19 w V21 t72_ [(0, .slice A22 n1.elems.length c22), (1, .func (.func 94) #[] #[pB b18 0]), (7, vi (n1.elems.length : Int)), (8, vi x12)] _) a w' hf hh
         clear hf hh
         try dsimp only at hY4
         refine T.seq (T.region (T.pk (.bool (decide (x12 < (n1.elems.length : Int)))) (fun _ => by kernel_rfl) (T.nil (T.seq ?_))))
         refine T.cond (decide (x12 < (n1.elems.length : Int))) (by kernel_rfl) (by kernel_rfl) (fun hc11 => ?_) (fun hc11 => ?_)
         ·
          rw [hc11, cond_true] at hY4
          refine T.skip_code ?_
          refine T.seq (T.block (T.seq (T.region (T.p2 (vi x12) (vi x12) (fun _ => by kernel_rfl) (T.nil (T.seq (T.region (T.p3 (.func (.func 94) #[] #[pB b18 0]) (.slice A22 n1.elems.length c22) (vi x12) (fun _ => by kernel_rfl) ?_))))))))
          obtain ⟨e5, hb12, hY4⟩ := ob hY4
          obtain ⟨hi15, hi16, hi17⟩ := idx_some hb12
          refine T.look (.pointer (some ((sadr A22).add (x12.toNat * 6)))) (by kernel_rfl) (ixR 1 (e := 28) (s := 6) rfl rfl rfl (fun _ => by kernel_rfl) hi15 hi16 (by rfl) hi17 (by decide)) ?_
          let v319_ : List Value := [vi e5.key.pfs, vi e5.key.obj, vi e5.key.off, vi e5.made, vi e5.gone, .string e5.val]
          let a398_ : Value := .agg #[vi e5.key.pfs, vi e5.key.obj, vi e5.key.off, vi e5.made, vi e5.gone, .string e5.val]
          refine T.look a398_ (by kernel_rfl) (fun w' hh => exec_loadN (cs := v319_) rfl rfl (by kernel_rfl) (by kernel_rfl) (fun j u hj => (SlOk.wcellF (E := eElem) (hh.row_slOk (i := 1) (by rfl)) hi17 j (fun _ _ _ h => h) hj))) ?_
          obtain ⟨z20, hX9, hY4⟩ := ob hY4
          refine T.step (W1.within 94 [a398_, pB b18 0] (fun v w' => v = .bool z20 ∧ Hp w V21 t72_ w') Try.func94 rfl rfl (by kernel_rfl) (fun _ => by kernel_rfl) rfl ?_ ?_)
          ·
           refine T.seq (T.region (T.step (W1.np 28 v319_ (fun _ => by kernel_rfl) (fun b20 => ?_))))
           refine T.pk (.bool false) (fun _ => by kernel_rfl) (T.nil (T.seq ?_))
           refine T.quiet (by kernel_rfl) (by kernel_rfl) ?_
           refine TQ.look a398_ (by kernel_rfl) (ldN 0 rfl rfl (fun _ => by kernel_rfl) (by rfl) rfl) ?_
           obtain ⟨r12, hb13, hX9⟩ := ob hX9
           refine TQ.call (vAg eSpot) r12 22 #[a398_] (.agg #[vi r12.key.pfs, vi r12.key.obj, vi r12.key.off, vi r12.made]) (fun V u hu => sureSpot V u _ hu) (by kernel_rfl) (fun _ => by kernel_rfl) (fun w' hh => elem_Spot_l e5 r12 hb13 w' ) ?_
           refine TQ.look a395_ (by kernel_rfl) (ldN 6 rfl rfl (fun _ => by kernel_rfl) (by rfl) rfl) ?_
           refine TQ.look (.bool (r12 == e4)) (by kernel_rfl) (fun w' hh => exec_eql_DSpot r12 e4 w' rfl rfl rfl) ?_
           refine TQ.pure (.bool (r12 == e4)) (by kernel_rfl) (fun _ => by kernel_rfl) ?_
           refine TQ.nil ?_
           cases hX9
           refine T.ret rfl ?_
           exact T.ret1 rfl (ResIs.tmp rfl) fun w' hh => ⟨_, rfl, ⟨rfl, (hh.sub (dr1 (kp9 (kp1 kpr))))⟩⟩
          rintro v w' ⟨rfl, hh⟩
          refine ⟨V21, t72_, hh, ?_⟩
          clear hh
          refine T.nil ?_
          refine T.cond z20 (by kernel_rfl) (by kernel_rfl) (fun hc12 => ?_) (fun hc12 => ?_)
          ·
           rw [hc12, cond_true] at hY4
           refine T.seq (T.region (T.p2 (vi x12) (vi x12) (fun _ => by kernel_rfl) (T.nil ?_)))
           cases hY4
           cases (hr5 _ rfl)
           try dsimp only at hX8
           cases hX8
           refine T.ret rfl ?_
           repeat first | refine T.unthen ?_ | refine T.unblock ?_
           exact T.ret1 rfl (ResIs.tmp rfl) fun w' hh => ⟨_, rfl, ⟨rfl, (hh.sub (kp9 (kp1 kpr)))⟩⟩
          rw [hc12, cond_false] at hY4
          refine T.skip_code ?_
          refine T.region (T.p2 (vi (IntKind.i64.wrap (x12 + 1))) (vi (IntKind.i64.wrap (x12 + 1))) (fun _ => by kernel_rfl) (T.nil ?_))
          cases hY4
          exact fun a w' hf hh => ⟨(IntKind.i64.wrap (x12 + 1)), rfl, (Fr.sel hf rfl), (hh.sub (kp9 (kp1 kpr)))⟩
         rw [hc11, cond_false] at hY4
         refine T.exit ?_
         cases hY4
         cases (hr5 _ rfl)
         exact fun a w' hf hh => ⟨rfl, (Fr.nil hf), (hh.sub (kp9 (kp1 kpr)))⟩
        rintro a w' ⟨rfl, hf, hh⟩
        try dsimp only at hX8
        refine (?_ : T 19 w V21 t72_ [] _) a w' hf hh
        clear hf hh
        refine T.seq (T.region (T.pk (vi (-1)) (fun _ => by kernel_rfl) (T.nil ?_)))
        cases hX8
        refine T.ret rfl ?_
        repeat first | refine T.unthen ?_ | refine T.unblock ?_
        exact T.ret1 rfl (ResIs.tmp rfl) fun w' hh => ⟨_, rfl, ⟨rfl, (hh.sub (kp9 (kp1 kpr)))⟩⟩
       rintro v w' ⟨rfl, hh⟩
       refine ⟨V21, t72_, hh, ?_⟩
       clear hh
       refine T.pk (vi z19) (fun _ => by kernel_rfl) (T.nil (T.seq (T.seq (T.region (T.p2 (vi z19) (.bool (z19 == (-1))) (fun _ => by kernel_rfl) (T.nil ?_))))))
       refine T.cond (z19 == (-1)) (by kernel_rfl) (by kernel_rfl) (fun hc13 => ?_) (fun hc13 => ?_)
       ·
        rw [hc13, cond_true] at hX7
        refine T.seq (T.region (T.p2 (.slice A22 n1.elems.length c22) (.slice A22 n1.elems.length c22) (fun _ => by kernel_rfl) (T.nil ?_)))
        cases hX7
        refine T.ret rfl ?_
        repeat first | refine T.unthen ?_ | refine T.unblock ?_
        exact T.ret1 rfl (ResIs.tmp rfl) fun w' hh => ⟨_, rfl, ⟨A22, c22, A22, n1.elems.length, c22, rfl, ((hh.sub (kp9 (kp1 kpr))).perm (pt sw0 pz))⟩⟩
       rw [hc13, cond_false] at hX7
       refine T.skip_code ?_
       refine T.seq (T.seq (T.region (T.p3 (vi z19) (vi (IntKind.i64.wrap (z19 + 1))) (vi (IntKind.i64.wrap (z19 + 1))) (fun _ => by kernel_rfl) (T.nil ?_))))
       obtain ⟨q13, hz8, hX7⟩ := ob hX7
       refine T.mid (fun a w' => ∃ (z21 : List DElem) (z22 : Int), q13 = (z21, z22) ∧ Fr 42 [(0, .slice A22 z21.length c22), (5, vi z22)] a ∧ Hp w V21 ((box b19 97 [vi n1.kind, .slice A22 z21.length c22, .slice A23 n1.kids.length c23, .slice A24 n1.seps.length c24, .slice A25 n1.tids.length c25]) :: (row 28 eElem A22 c22 z21) :: t69_) w') ?_ ?_
       ·
        refine T.block ?_
        refine T.iter (fun s4 a w' => ∃ (x13 : List DElem) (x14 : Int) (x15 : Int), s4 = (x13, x14, x15) ∧ Fr 42 [(0, .slice A22 x13.length c22), (1, .func (.func 94) #[] #[pB b18 0]), (5, vi x14), (6, vi x15)] a ∧ Hp w V21 ((box b19 97 [vi n1.kind, .slice A22 x13.length c22, .slice A23 n1.kids.length c23, .slice A24 n1.seps.length c24, .slice A25 n1.tids.length c25]) :: (row 28 eElem A22 c22 x13) :: t69_) w') hz8 ?_ ?_
        ·
         exact fun a w' hf hh => ⟨n1.elems, z19, (IntKind.i64.wrap (z19 + 1)), rfl, (Fr.sel hf rfl), (hh.sub (kp9 (kp1 kpr)))⟩
        rintro s4 y6 hY5 hr6 a w' ⟨x13, x14, x15, rfl, hf, hh⟩
        let i73_ : HObj := box b19 97 [vi n1.kind, .slice A22 x13.length c22, .slice A23 n1.kids.length c23, .slice A24 n1.seps.length c24, .slice A25 n1.tids.length c25]
        let t74_ : List HObj := (row 28 eElem A22 c22 x13) :: t69_
        let t75_ : List HObj := i73_ :: t74_
        refine (?_ : T 42 w V21 t75_ [(0, .slice A22 x13.length c22), (1, .func (.func 94) #[] #[pB b18 0]), (5, vi x14), (6, vi x15)] _) a w' hf hh
        clear hf hh
        try dsimp only at hY5
        refine T.seq (T.seq (T.region (T.p4 (vi x15) (.slice A22 x13.length c22) (vi (x13.length : Int)) (.bool (decide (x15 < (x13.length : Int)))) (fun _ => by kernel_rfl) (T.nil ?_))))
        refine T.cond (decide (x15 < (x13.length : Int))) (by kernel_rfl) (by kernel_rfl) (fun hc14 => ?_) (fun hc14 => ?_)
        ·
         rw [hc14, cond_true] at hY5
         refine T.skip_code ?_
         obtain ⟨q14, hX10, hY5⟩ := ob hY5
         refine T.cut (fun a w' => ∃ (z23 : List DElem) (z24 : Int), q14 = (z23, z24) ∧ Fr 42 [(0, .slice A22 z23.length c22), (1, .func (.func 94) #[] #[pB b18 0]), (5, vi z24), (6, vi x15)] a ∧ Hp w V21 ((box b19 97 [vi n1.kind, .slice A22 z23.length c22, .slice A23 n1.kids.length c23, .slice A24 n1.seps.length c24, .slice A25 n1.tids.length c25]) :: (row 28 eElem A22 c22 z23) :: t69_) w') ?_ ?_
         ·
          refine T.block (T.seq (T.region (T.p2 (.slice A22 x13.length c22) (vi x15) (fun _ => by kernel_rfl) ?_)))
          obtain ⟨e6, hb14, hX10⟩ := ob hX10
          obtain ⟨hi18, hi19, hi20⟩ := idx_some hb14
          refine T.look (.pointer (some ((sadr A22).add (x15.toNat * 6)))) (by kernel_rfl) (ixR 1 (e := 28) (s := 6) rfl rfl rfl (fun _ => by kernel_rfl) hi18 hi19 (by rfl) hi20 (by decide)) ?_
          let v320_ : List Value := [vi e6.key.pfs, vi e6.key.obj, vi e6.key.off, vi e6.made, vi e6.gone, .string e6.val]
          let a399_ : Value := .agg #[vi e6.key.pfs, vi e6.key.obj, vi e6.key.off, vi e6.made, vi e6.gone, .string e6.val]
          refine T.look a399_ (by kernel_rfl) (fun w' hh => exec_loadN (cs := v320_) rfl rfl (by kernel_rfl) (by kernel_rfl) (fun j u hj => (SlOk.wcellF (E := eElem) (hh.row_slOk (i := 1) (by rfl)) hi20 j (fun _ _ _ h => h) hj))) ?_
          refine T.step (W1.np 28 [vi 0, vi 0, vi 0, vi 0, vi 0, .string (ByteArray.mk #[])] (fun _ => by kernel_rfl) (fun b21 => ?_))
          let i76_ : HObj := box b21 28 v320_
          let t77_ : List HObj := i76_ :: t75_
          refine T.step (W1.st 0 v320_ t77_ v320_ (by rfl) rfl rfl rfl rfl rfl rfl (fun _ => by kernel_rfl) ?_)
          refine T.nil (T.seq (T.region (T.pk (.func (.func 94) #[] #[pB b18 0]) (fun _ => by kernel_rfl) (T.look a399_ (by kernel_rfl) (ldN 0 rfl rfl (fun _ => by kernel_rfl) (by rfl) rfl) ?_))))
          obtain ⟨z25, hX11, hX10⟩ := ob hX10
          refine T.step (W1.within 94 [a399_, pB b18 0] (fun v w' => v = .bool z25 ∧ Hp w V21 t77_ w') Try.func94 rfl rfl (by kernel_rfl) (fun _ => by kernel_rfl) rfl ?_ ?_)
          ·
           refine T.seq (T.region (T.step (W1.np 28 v320_ (fun _ => by kernel_rfl) (fun b22 => ?_))))
           refine T.pk (.bool false) (fun _ => by kernel_rfl) (T.nil (T.seq ?_))
           refine T.quiet (by kernel_rfl) (by kernel_rfl) ?_
           refine TQ.look a399_ (by kernel_rfl) (ldN 0 rfl rfl (fun _ => by kernel_rfl) (by rfl) rfl) ?_
           obtain ⟨r13, hb15, hX11⟩ := ob hX11
           refine TQ.call (vAg eSpot) r13 22 #[a399_] (.agg #[vi r13.key.pfs, vi r13.key.obj, vi r13.key.off, vi r13.made]) (fun V u hu => sureSpot V u _ hu) (by kernel_rfl) (fun _ => by kernel_rfl) (fun w' hh => elem_Spot_l e6 r13 hb15 w' ) ?_
           refine TQ.look a395_ (by kernel_rfl) (ldN 7 rfl rfl (fun _ => by kernel_rfl) (by rfl) rfl) ?_
           refine TQ.look (.bool (r13 == e4)) (by kernel_rfl) (fun w' hh => exec_eql_DSpot r13 e4 w' rfl rfl rfl) ?_
           refine TQ.pure (.bool (r13 == e4)) (by kernel_rfl) (fun _ => by kernel_rfl) ?_
           refine TQ.nil ?_
           cases hX11
           refine T.ret rfl ?_
           exact T.ret1 rfl (ResIs.tmp rfl) fun w' hh => ⟨_, rfl, ⟨rfl, (hh.sub (dr1 (kp10 (kp1 kpr))))⟩⟩
          rintro v w' ⟨rfl, hh⟩
          refine ⟨V21, t77_, hh, ?_⟩
          clear hh
          refine T.pk (.bool (!z25)) (fun _ => by kernel_rfl) (T.nil ?_)
          refine T.cond (!z25) (by kernel_rfl) (by kernel_rfl) (fun hc15 => ?_) (fun hc15 => ?_)
          ·
           rw [hc15, cond_true] at hX10
           refine T.seq (T.region (T.p2 (.slice A22 x13.length c22) (vi x14) (fun _ => by kernel_rfl) (T.look a399_ (by kernel_rfl) (ldN 0 rfl rfl (fun _ => by kernel_rfl) (by rfl) rfl) ?_)))
           obtain ⟨e7, hb16, hX10⟩ := ob hX10
           obtain ⟨hi21, hi22, hi23⟩ := idx_some hb16
           refine T.look (.pointer (some ((sadr A22).add (x14.toNat * 6)))) (by kernel_rfl) (ixR 2 (e := 28) (s := 6) rfl rfl rfl (fun _ => by kernel_rfl) hi21 hi22 (by rfl) hi23 (by decide)) ?_
           refine T.step (W1.storeRow (E := eElem) 2 (x14.toNat) 0 e7 e6 _ (vs := v320_) (by rfl) (by kernel_rfl) rfl rfl (addr_add0 _).symm rfl rfl (fun _ => by kernel_rfl) (one_of rfl) hi23 (Nat.le_of_ble_eq_true (by kernel_rfl)) (fun _ _ h => by cases h; rfl) ?_)
           refine T.reslot 0 (.slice A22 ((x13.set x14.toNat e6).length) c22) rfl (by simp +zetaDelta only [List.length_set]) ?_
           refine T.reslot 17 (.slice A22 ((x13.set x14.toNat e6).length) c22) rfl (by simp +zetaDelta only [List.length_set]) ?_
           refine T.reslot 22 (.slice A22 ((x13.set x14.toNat e6).length) c22) rfl (by simp +zetaDelta only [List.length_set]) ?_
           refine T.reslot 30 (.slice A22 ((x13.set x14.toNat e6).length) c22) rfl (by simp +zetaDelta only [List.length_set]) ?_
           refine T.reH (H' := (i76_ :: (box b19 97 [vi n1.kind, .slice A22 ((x13.set x14.toNat e6).length) c22, .slice A23 n1.kids.length c23, .slice A24 n1.seps.length c24, .slice A25 n1.tids.length c25]) :: (row 28 eElem A22 c22 (x13.set x14.toNat e6)) :: t69_)) (by first | (simp +zetaDelta only [List.length_set]; done) | (simp +zetaDelta only [List.length_set]; rfl)) ?_
           refine T.nil (T.region (T.p3 (vi x14) (vi (IntKind.i64.wrap (x14 + 1))) (vi (IntKind.i64.wrap (x14 + 1))) (fun _ => by kernel_rfl) (T.nil ?_)))
           cases hX10
           exact fun a w' hf hh => ⟨(x13.set x14.toNat e6), (IntKind.i64.wrap (x14 + 1)), rfl, (Fr.sel hf rfl), (hh.sub (dr1 (kp9 (kp1 kpr))))⟩
          rw [hc15, cond_false] at hX10
          refine T.skip_code ?_
          cases hX10
          exact fun a w' hf hh => ⟨x13, x14, rfl, (Fr.sel hf rfl), (hh.sub (dr1 (kp9 (kp1 kpr))))⟩
         rintro a w' ⟨z23, z24, rfl, hf, hh⟩
         try dsimp only at hY5
         refine (?_ : T 42 w V21 ((box b19 97 [vi n1.kind, .slice A22 z23.length c22, .slice A23 n1.kids.length c23, .slice A24 n1.seps.length c24, .slice A25 n1.tids.length c25]) :: (row 28 eElem A22 c22 z23) :: t69_) [(0, .slice A22 z23.length c22), (1, .func (.func 94) #[] #[pB b18 0]), (5, vi z24), (6, vi x15)] _) a w' hf hh
         clear hf hh
         refine T.region (T.p3 (vi x15) (vi (IntKind.i64.wrap (x15 + 1))) (vi (IntKind.i64.wrap (x15 + 1))) (fun _ => by kernel_rfl) (T.nil ?_))
         cases hY5
         exact fun a w' hf hh => ⟨(z23, z24, IntKind.i64.wrap (x15 + 1)), rfl, z23, z24, (IntKind.i64.wrap (x15 + 1)), rfl, (Fr.sel hf rfl), (hh.sub (kp9 (kp1 kpr)))⟩
        rw [hc14, cond_false] at hY5
        refine T.exit ?_
        cases hY5
        cases (hr6 _ rfl)
        exact fun a w' hf hh => ⟨x13, x14, rfl, (Fr.sel hf rfl), (hh.sub (kp9 (kp1 kpr)))⟩
       rintro a w' ⟨z21, z22, rfl, hf, hh⟩
       try dsimp only at hX7
       refine (?_ : T 42 w V21 ((box b19 97 [vi n1.kind, .slice A22 z21.length c22, .slice A23 n1.kids.length c23, .slice A24 n1.seps.length c24, .slice A25 n1.tids.length c25]) :: (row 28 eElem A22 c22 z21) :: t69_) [(0, .slice A22 z21.length c22), (5, vi z22)] _) a w' hf hh
       clear hf hh
       refine T.seq (T.region (T.p2 (.slice A22 z21.length c22) (vi z22) (fun _ => by kernel_rfl) ?_))
       obtain ⟨s5, hb17, hX7⟩ := ob hX7
       refine T.look (.slice (cutA A22 c22 z22.toNat 6) s5.length (c22 - z22.toNat)) (by kernel_rfl) (fun w' hh => exec_slice_list (e := 28) (s := 6) (lx := (some _)) (hx := none) (k := .i64) (k' := .i64) rfl rfl (by kernel_rfl) (by kernel_rfl) ((hh.row_slOk (i := 1) (by rfl))).1 rfl rfl hb17) ?_
       refine T.step (W1.clear (E := eElem) (l := z21) (x := ((DElem.mk (DKey.mk 0 0 0) 0 0 (ByteArray.mk #[])) : DElem)) (z := .agg #[vi 0, vi 0, vi 0, vi 0, vi 0, .string (ByteArray.mk #[])]) 1 z22.toNat s5.length _ (by rfl) (by kernel_rfl) rfl (by kernel_rfl) (fun _ => by kernel_rfl) (fun _ => rfl) rfl (by decide) rfl (lslice_fit hb17) ?_)
       have hl6 : (over z21 z22.toNat (List.replicate s5.length ((DElem.mk (DKey.mk 0 0 0) 0 0 (ByteArray.mk #[])) : DElem))).length = z21.length := (by exact over_length _ _ _ (by rw [List.length_replicate]; have := (lslice_fit hb17); omega))
       refine T.reslot 0 (.slice A22 ((over z21 z22.toNat (List.replicate s5.length ((DElem.mk (DKey.mk 0 0 0) 0 0 (ByteArray.mk #[])) : DElem))).length) c22) rfl (by simp +zetaDelta only [hl6]) ?_
       refine T.reslot 36 (.slice A22 ((over z21 z22.toNat (List.replicate s5.length ((DElem.mk (DKey.mk 0 0 0) 0 0 (ByteArray.mk #[])) : DElem))).length) c22) rfl (by simp +zetaDelta only [hl6]) ?_
       refine T.reH (H' := ((box b19 97 [vi n1.kind, .slice A22 ((over z21 z22.toNat (List.replicate s5.length ((DElem.mk (DKey.mk 0 0 0) 0 0 (ByteArray.mk #[])) : DElem))).length) c22, .slice A23 n1.kids.length c23, .slice A24 n1.seps.length c24, .slice A25 n1.tids.length c25]) :: (row 28 eElem A22 c22 (over z21 z22.toNat (List.replicate s5.length ((DElem.mk (DKey.mk 0 0 0) 0 0 (ByteArray.mk #[])) : DElem)))) :: t69_)) (by first | (simp +zetaDelta only [hl6]; done) | (simp +zetaDelta only [hl6]; rfl)) ?_
       refine T.nil (T.seq (T.region (T.p2 (.slice A22 ((over z21 z22.toNat (List.replicate s5.length ((DElem.mk (DKey.mk 0 0 0) 0 0 (ByteArray.mk #[])) : DElem))).length) c22) (vi z22) (fun _ => by kernel_rfl) ?_)))
       obtain ⟨s6, hb18, hX7⟩ := ob hX7
       refine T.look (.slice A22 s6.length c22) (by kernel_rfl) (sl0 1 (e := 28) (s := 6) rfl rfl (fun _ => by kernel_rfl) (by rfl) rfl hb18) ?_
       refine T.pk (.slice A22 s6.length c22) (fun _ => by kernel_rfl) (T.nil ?_)
       refine T.shrink (l := s6) 1 (by rfl) (lslice_prefix hb18) ?_
       cases hX7
       refine T.ret rfl ?_
       repeat first | refine T.unthen ?_ | refine T.unblock ?_
       exact T.ret1 rfl (ResIs.tmp rfl) fun w' hh => ⟨_, rfl, ⟨A22, c22, A22, ((over z21 z22.toNat (List.replicate s5.length ((DElem.mk (DKey.mk 0 0 0) 0 0 (ByteArray.mk #[])) : DElem))).length), c22, rfl, ((hh.sub (kp9 (kp1 kpr))).perm (pt sw0 pz))⟩⟩
      rintro v w' ⟨A26, c26, A27, n2, c27, rfl, hh⟩
      refine ⟨V21, ((row 28 eElem A26 c26 z18) :: (box b19 97 [vi n1.kind, .slice A27 n2 c27, .slice A23 n1.kids.length c23, .slice A24 n1.seps.length c24, .slice A25 n1.tids.length c25]) :: t69_), hh, ?_⟩
      clear hh
      refine T.pk (pB b19 1) (fun _ => by kernel_rfl) ?_
      let v321_ : List Value := [vi n1.kind, .slice A26 z18.length c26, .slice A23 n1.kids.length c23, .slice A24 n1.seps.length c24, .slice A25 n1.tids.length c25]
      let i78_ : HObj := box b19 97 v321_
      refine T.step (W1.st 1 v321_ ((row 28 eElem A26 c26 z18) :: i78_ :: t69_) [.slice A26 z18.length c26] (by rfl) rfl rfl rfl rfl rfl rfl (fun _ => by kernel_rfl) ?_)
      refine T.nil (T.seq ?_)
      refine T.heldL 9 ((row 28 eElem A26 c26 z18) :: i78_ :: (row 3 eInt A23 c23 n1.kids) :: (row 43 eSpot A24 c24 n1.seps) :: (row 3 eInt A25 c25 n1.tids) :: i56_ :: (row 97 eHdr A21 c21 hs8) :: []) (by kernel_rfl) ?_
      have w428_ := vt (vt (vt (vt hV1 hV2) hV3) hV18) hV21
      refine TL.keep (Hp.old vr w428_ (kp5 (dr1 (kp2 (dr1 (dr1 kp0))))) (oR1 (oB1 (oR3 (oB1 (oR1 ol0)))))) fun o443_ => ?_
      refine TL.tv 0 (pB b17 0) rfl (fun _ => by kernel_rfl) (fun _ _ _ h => h) o443_ ?_
      refine TL.tv 1 (pB b17 0) rfl (fun _ => by kernel_rfl) (fun _ _ _ h => h) o443_ ?_
      refine TL.tv 2 (pB b17 0) rfl (fun _ => by kernel_rfl) (fun _ _ _ h => h) o443_ ?_
      refine TL.tv 3 (pB b17 0) rfl (fun _ => by kernel_rfl) (fun _ _ _ h => h) o443_ ?_
      refine TL.tv 4 (pB b17 1) rfl (fun _ => by kernel_rfl) (fun _ _ _ h => h) o443_ ?_
      refine TL.tk 5 (.slice A21 hs8.length c21) [] rfl (by kernel_rfl) (fun _ _ _ h => h) o443_ (ld1 5 rfl rfl (fun _ => by kernel_rfl) (by rfl) rfl) ?_
      refine TL.tv 6 (vi x11) rfl (fun _ => by kernel_rfl) (fun _ _ _ h => h) o443_ ?_
      refine TL.tk 7 (.agg #[vi n1.kind, .slice A26 z18.length c26, .slice A23 n1.kids.length c23, .slice A24 n1.seps.length c24, .slice A25 n1.tids.length c25]) [] rfl (by kernel_rfl) (fun _ _ _ h => h) o443_ (ldN 1 rfl rfl (fun _ => by kernel_rfl) (by rfl) rfl) ?_
      obtain ⟨u1, hb19, hS2⟩ := ob hS2
      obtain ⟨hi24, hi25, e8, hx2⟩ := ht4.has hb19
      refine TL.tk 8 (.pointer (some ((sadr A21).add (x11.toNat * 5)))) [] rfl (by kernel_rfl) (fun _ _ _ h => h) o443_ (ixR 6 (e := 97) (s := 5) rfl rfl rfl (fun _ => by kernel_rfl) hi24 hi25 (by rfl) hx2 (by decide)) ?_
      refine TL.all [9] (by kernel_rfl) rfl ⟨?_, trivial⟩
      let d414_ : DHdr := DHdr.mk n1.kind A26 z18.length c26 A23 n1.kids.length c23 A24 n1.seps.length c24 A25 n1.tids.length c25
      refine TL.br rfl (W1.storeRow (E := eHdr) 7 (x11.toNat) 0 e8 d414_ _ (vs := v321_) (by rfl) (by kernel_rfl) rfl rfl (addr_add0 _).symm rfl rfl (fun _ => by kernel_rfl) (one_of rfl) hx2 (Nat.le_of_ble_eq_true (by kernel_rfl)) (fun _ _ h => by cases h; rfl) ?_)
      refine TL.onW (by kernel_rfl) ?_
      let h422_ : List DHdr := hs8.set x11.toNat d414_
      refine T.reslot 14 (.slice A21 (h422_.length) c21) rfl (by simp +zetaDelta only [List.length_set]) ?_
      refine T.reslot 31 (.slice A21 (h422_.length) c21) rfl (by simp +zetaDelta only [List.length_set]) ?_
      let i79_ : HObj := box b17 137 [vi x7, .slice A21 (h422_.length) c21]
      let i80_ : HObj := row 97 eHdr A21 c21 h422_
      refine T.reH (H' := ((row 28 eElem A26 c26 z18) :: i78_ :: (row 3 eInt A23 c23 n1.kids) :: (row 43 eSpot A24 c24 n1.seps) :: (row 3 eInt A25 c25 n1.tids) :: i61_ :: i79_ :: i80_ :: t63_)) (by first | (simp +zetaDelta only [List.length_set]; done) | (simp +zetaDelta only [List.length_set]; rfl)) ?_
      refine T.putS (ty := (TreeTy.mk 28 3 43)) (i78_ :: i61_ :: i79_ :: i80_ :: (marko d1) :: G3) d414_ (DNode.mk n1.kind z18 n1.kids n1.seps n1.tids) (pc1 (pt sw0 (pc1 (pt sw0 (pc1 (pt sw0 (pc1 (pt sw3 (pt sw2 (pt sw1 (pt sw0 pz))))))))))) ⟨rfl, rfl, rfl, rfl, rfl⟩ hb19 ?_
      have hb20 := nodeAt_put (n := (DNode.mk n1.kind z18 n1.kids n1.seps n1.tids)) hb19
      have hx3 := TreeOk.set_at ht4 d414_ hb19
      refine T.reH (H' := ((treeo (TreeTy.mk 28 3 43) h422_ (putAt (outAt x10 x11) x11 (DNode.mk n1.kind z18 n1.kids n1.seps n1.tids))) :: i78_ :: i61_ :: i79_ :: i80_ :: (marko d1) :: G3)) (by rfl) ?_
      refine T.tree 0 (by rfl) (fun ht5 => ?_)
      refine TL.done (by kernel_rfl) ?_
      have hres := Option.some.inj hS2
      subst hres
      refine T.ret rfl ?_
      repeat first | refine T.unthen ?_ | refine T.unblock ?_
      exact T.ret0 rfl  fun w' hh => ⟨_, rfl, ⟨(putAt (outAt x10 x11) x11 (DNode.mk n1.kind z18 n1.kids n1.seps n1.tids)), rfl, h422_, V21, vr, rfl, ((hh.sub (kp1 (dr2 (kp2 (kp1 kpr))))).perm (pt sw0 (pc1 (pt sw0 pz))))⟩⟩
     rw [hc10, cond_false] at hS2
     refine T.skip_code ?_
     refine T.seq (T.region (T.look a397_ (by kernel_rfl) (ldN 0 rfl rfl (fun _ => by kernel_rfl) (by rfl) rfl) ?_))
     refine T.look a395_ (by kernel_rfl) (ldN 5 rfl rfl (fun _ => by kernel_rfl) (by rfl) rfl) ?_
     obtain ⟨r14, hb21, hS2⟩ := ob hS2
     refine T.step (W1.call (vSc eInt) r14 71 #[a397_, a395_] (by kernel_rfl) (fun _ => by kernel_rfl) (fun w' hh => node_Way_l F n1 e4 r14 hb21 w' A22 c22 (hh.row_slOk (i := 1) (by rfl)) A23 c23 (hh.row_slOk (i := 2) (by rfl)) A24 c24 (hh.row_slOk (i := 3) (by rfl)) A25 c25 (hh.row_slOk (i := 4) (by rfl))) ?_)
     intro u V23 hV23 hu
     obtain rfl := sureInt _ _ _ hu
     refine T.pk (vi r14) (fun _ => by kernel_rfl) (T.nil (T.seq ?_))
     refine T.heldL 7 (i71_ :: i60_ :: (row 3 eInt A23 c23 n1.kids) :: (row 43 eSpot A24 c24 n1.seps) :: (row 3 eInt A25 c25 n1.tids) :: i61_ :: i56_ :: (row 97 eHdr A21 c21 hs8) :: []) (by kernel_rfl) ?_
     have w429_ := vt (vt (vt (vt (vt hV1 hV2) hV3) hV18) hV21) hV23
     refine TL.keep (Hp.old vr w429_ (kp8 (dr1 (dr1 kp0))) (oB1 (oR4 (oB2 (oR1 ol0))))) fun o444_ => ?_
     refine TL.tv 0 (pB b17 0) rfl (fun _ => by kernel_rfl) (fun _ _ _ h => h) o444_ ?_
     refine TL.tv 1 (pB b19 2) rfl (fun _ => by kernel_rfl) (fun _ _ _ h => h) o444_ ?_
     refine TL.tk 2 (.slice A23 n1.kids.length c23) [5, 4] rfl (by kernel_rfl) (fun _ _ _ h => h) o444_ (ld1 0 rfl rfl (fun _ => by kernel_rfl) (by rfl) rfl) ?_
     refine TL.tv 3 (vi r14) rfl (fun _ => by kernel_rfl) (fun _ _ _ h => h) o444_ ?_
     obtain ⟨e9, hb22, hS2⟩ := ob hS2
     obtain ⟨hi26, hi27, hi28⟩ := idx_some hb22
     refine TL.tk 4 (.pointer (some ((sadr A23).add (r14.toNat * 1)))) [5] rfl (by kernel_rfl) (fun _ _ _ h => h) o444_ (ixR 2 (e := 3) (s := 1) rfl rfl rfl (fun _ => by kernel_rfl) hi26 hi27 (by rfl) hi28 (by decide)) ?_
     refine TL.tk 5 (vi e9) [] rfl (by kernel_rfl) (fun _ _ _ h => h) o444_ (fun w' hh => exec_load1 rfl rfl (by kernel_rfl) (SlOk.wcellF0 (E := eInt) (hh.row_slOk (i := 2) (by rfl)) hi28 (fun _ _ _ h => h) rfl)) ?_
     refine TL.tk 6 a395_ [] rfl (by kernel_rfl) (fun _ _ _ h => h) o444_ (ldN 5 rfl rfl (fun _ => by kernel_rfl) (by rfl) rfl) ?_
     refine TL.all [7] (by kernel_rfl) rfl ⟨?_, trivial⟩
     obtain ⟨z26, hz9, hS2⟩ := ob hS2
     refine TL.br rfl (W1.callI 78 [pB b17 0, vi e9, a395_] (fun v w' => ∃ (z26x : List (Int ⊕ DNode)), z26 = z26x ∧ ∃ (c28 : List DHdr) (V24 : View), View.le V23 V24 ∧ v = .tuple #[] ∧ Hp w V24 ((box b17 137 [vi x7, .slice A21 c28.length c21]) :: (row 97 eHdr A21 c21 c28) :: (treeo (TreeTy.mk 28 3 43) c28 z26x) :: (marko d1) :: i71_ :: i60_ :: (row 3 eInt A23 c23 n1.kids) :: (row 43 eSpot A24 c24 n1.seps) :: (row 3 eInt A25 c25 n1.tids) :: i61_ :: G3) w') (by kernel_rfl) (fun _ => by kernel_rfl) (fun w' hh => ih2 _ _ hz9 (outAt x10 x11) e9 rfl V23 (i71_ :: i60_ :: (row 3 eInt A23 c23 n1.kids) :: (row 43 eSpot A24 c24 n1.seps) :: (row 3 eInt A25 c25 n1.tids) :: i61_ :: G3) w' (vt hV21 hV23) ((hh.sub (kp9 (kp1 kpr))).perm (pt sw5 (pt sw4 (pt sw3 (pt sw2 (pt sw1 (pt sw0 (pc1 (pt sw5 (pt sw4 (pt sw3 (pt sw2 (pt sw1 (pt sw0 (pc1 (pt sw5 (pt sw4 (pt sw3 (pt sw2 (pt sw1 (pt sw0 (pc1 (pt sw5 (pt sw4 (pt sw3 (pt sw2 (pt sw1 (pt sw0 pz))))))))))))))))))))))))))))) ?_)
     rintro v w' ⟨z26x, rfl, c28, V24, hV24, rfl, hh⟩
     try dsimp only at hS2
     let i81_ : HObj := box b17 137 [vi x7, .slice A21 c28.length c21]
     let i82_ : HObj := treeo (TreeTy.mk 28 3 43) c28 z26
     let t83_ : List HObj := i82_ :: (marko d1) :: G3
     let t84_ : List HObj := (row 97 eHdr A21 c21 c28) :: t83_
     let t85_ : List HObj := i81_ :: t84_
     let t86_ : List HObj := i61_ :: t85_
     refine ⟨V24, (i71_ :: i60_ :: (row 3 eInt A23 c23 n1.kids) :: (row 43 eSpot A24 c24 n1.seps) :: (row 3 eInt A25 c25 n1.tids) :: t86_), (hh.sub (kp9 (kp1 kpr))).perm (pt sw3 (pt sw2 (pt sw1 (pt sw0 (pc1 (pt sw3 (pt sw2 (pt sw1 (pt sw0 (pc1 (pt sw3 (pt sw2 (pt sw1 (pt sw0 (pc1 (pt sw3 (pt sw2 (pt sw1 (pt sw0 (pc1 (pt sw3 (pt sw2 (pt sw1 (pt sw0 (pc1 (pt sw3 (pt sw2 (pt sw1 (pt sw0 pz))))))))))))))))))))))))))))), ?_⟩
     clear hh
     refine TL.onW (by kernel_rfl) ?_
     refine TL.done (by kernel_rfl) ?_
     refine T.seq ?_
     refine T.tree 8 (by rfl) (fun ht6 => ?_)
     let t87_ : List HObj := i81_ :: (row 97 eHdr A21 c21 c28) :: []
     refine T.held (i71_ :: i60_ :: (row 3 eInt A23 c23 n1.kids) :: (row 43 eSpot A24 c24 n1.seps) :: (row 3 eInt A25 c25 n1.tids) :: t87_) (by kernel_rfl) ?_
     have w430_ := vt (vt (vt (vt (vt (vt hV1 hV2) hV3) hV18) hV21) hV23) hV24
     refine TA.keep (Hp.old vr w430_ (kp5 (dr1 (kp2 (dr1 (dr1 kp0))))) (oB1 (oR4 (oB1 (oR1 ol0))))) fun o445_ => ?_
     refine TA.tp 0 (pB b17 0) rfl (fun _ => by kernel_rfl) (fun _ _ _ h => h) o445_ ?_
     refine TA.tp 1 (pB b17 0) rfl (fun _ => by kernel_rfl) (fun _ _ _ h => h) o445_ ?_
     refine TA.tp 2 (pB b17 0) rfl (fun _ => by kernel_rfl) (fun _ _ _ h => h) o445_ ?_
     refine TA.tp 3 (pB b17 0) rfl (fun _ => by kernel_rfl) (fun _ _ _ h => h) o445_ ?_
     refine TA.tp 4 (pB b17 1) rfl (fun _ => by kernel_rfl) (fun _ _ _ h => h) o445_ ?_
     refine TA.tk 5 (.slice A21 c28.length c21) rfl (by kernel_rfl) (fun _ _ _ h => h) o445_ (ld1 5 rfl rfl (fun _ => by kernel_rfl) (by rfl) rfl) ?_
     refine TA.tp 6 (pB b19 2) rfl (fun _ => by kernel_rfl) (fun _ _ _ h => h) o445_ ?_
     refine TA.tk 7 (.slice A23 n1.kids.length c23) rfl (by kernel_rfl) (fun _ _ _ h => h) o445_ (ld1 0 rfl rfl (fun _ => by kernel_rfl) (by rfl) rfl) ?_
     refine TA.tp 8 (vi r14) rfl (fun _ => by kernel_rfl) (fun _ _ _ h => h) o445_ ?_
     obtain ⟨e10, hb23, hS2⟩ := ob hS2
     obtain ⟨hi29, hi30, hi31⟩ := idx_some hb23
     refine TA.tk 9 (.pointer (some ((sadr A23).add (r14.toNat * 1)))) rfl (by kernel_rfl) (fun _ _ _ h => h) o445_ (ixR 2 (e := 3) (s := 1) rfl rfl rfl (fun _ => by kernel_rfl) hi29 hi30 (by rfl) hi31 (by decide)) ?_
     refine TA.tk 10 (vi e10) rfl (by kernel_rfl) (fun _ _ _ h => h) o445_ (fun w' hh => exec_load1 rfl rfl (by kernel_rfl) (SlOk.wcellF0 (E := eInt) (hh.row_slOk (i := 2) (by rfl)) hi31 (fun _ _ _ h => h) rfl)) ?_
     obtain ⟨n4, hb24, hS2⟩ := ob hS2
     obtain ⟨A28, c29, A29, c30, A30, c31, A31, c32, hi32, hi33, hx4⟩ := ht6.at_ hb24
     refine TA.tk 11 (.pointer (some ((sadr A21).add (e10.toNat * 5)))) rfl (by kernel_rfl) (fun _ _ _ h => h) o445_ (ixR 6 (e := 97) (s := 5) rfl rfl rfl (fun _ => by kernel_rfl) hi32 hi33 (by rfl) hx4 (by decide)) ?_
     let v322_ : List Value := [vi n4.kind, .slice A28 n4.elems.length c29, .slice A29 n4.kids.length c30, .slice A30 n4.seps.length c31, .slice A31 n4.tids.length c32]
     let a400_ : Value := .agg #[vi n4.kind, .slice A28 n4.elems.length c29, .slice A29 n4.kids.length c30, .slice A30 n4.seps.length c31, .slice A31 n4.tids.length c32]
     refine TA.tk 12 a400_ rfl (by kernel_rfl) (fun _ _ _ h => h) o445_ (fun w' hh => exec_loadN (cs := v322_) rfl rfl (by kernel_rfl) (by kernel_rfl) (fun j u hj => (SlOk.wcellF (E := eHdr) (hh.row_slOk (i := 6) (by rfl)) hx4 j (fun _ _ _ h => h) hj))) ?_
     refine TA.all [13] (by kernel_rfl) rfl ⟨?_, trivial⟩
     refine TA.br rfl (W1.np 97 v317_ (fun _ => by kernel_rfl) (fun b23 => ?_))
     refine TA.on (Hp.old vr w430_ (dr1 (kp5 (dr1 (kp2 (dr1 (dr1 kp0)))))) (oB1 (oR4 (oB1 (oR1 ol0))))) ?_
     refine TA.all [14] (by kernel_rfl) rfl ⟨?_, trivial⟩
     let i88_ : HObj := box b23 97 v322_
     refine TA.br rfl (W1.st 0 v322_ (i88_ :: i71_ :: i60_ :: (row 3 eInt A23 c23 n1.kids) :: (row 43 eSpot A24 c24 n1.seps) :: (row 3 eInt A25 c25 n1.tids) :: t86_) v322_ (by rfl) rfl rfl rfl rfl rfl rfl (fun _ => by kernel_rfl) ?_)
     refine TA.on (Hp.old vr w430_ (dr1 (kp5 (dr1 (kp2 (dr1 (dr1 kp0)))))) (oB1 (oR4 (oB1 (oR1 ol0))))) ?_
     refine TA.done (by kernel_rfl) ?_
     refine T.seq ?_
     refine T.heldL 6 (i88_ :: i71_ :: i60_ :: (row 3 eInt A23 c23 n1.kids) :: (row 43 eSpot A24 c24 n1.seps) :: (row 3 eInt A25 c25 n1.tids) :: t87_) (by kernel_rfl) ?_
     refine TL.keep (Hp.old vr w430_ (kp6 (dr1 (kp2 (dr1 (dr1 kp0))))) (oB2 (oR4 (oB1 (oR1 ol0))))) fun o446_ => ?_
     refine TL.tv 0 (pB b19 4) rfl (fun _ => by kernel_rfl) (fun _ _ _ h => h) o446_ ?_
     refine TL.tk 1 (.slice A25 n1.tids.length c25) [] rfl (by kernel_rfl) (fun _ _ _ h => h) o446_ (ld1 1 rfl rfl (fun _ => by kernel_rfl) (by rfl) rfl) ?_
     refine TL.tv 2 (vi r14) rfl (fun _ => by kernel_rfl) (fun _ _ _ h => h) o446_ ?_
     refine TL.tk 3 a400_ [] rfl (by kernel_rfl) (fun _ _ _ h => h) o446_ (ldN 0 rfl rfl (fun _ => by kernel_rfl) (by rfl) rfl) ?_
     refine TL.all [4] (by kernel_rfl) rfl ⟨?_, trivial⟩
     obtain ⟨r15, hb25, hS2⟩ := ob hS2
     refine TL.br rfl (W1.call (vSc eInt) r15 60 #[a400_] (by kernel_rfl) (fun _ => by kernel_rfl) (fun w' hh => node_Greatest_l F n4 r15 hb25 w' A28 c29 (hh.lent (i := 9) (by rfl) hb24 hx4).1 A29 c30 (hh.lent (i := 9) (by rfl) hb24 hx4).2.1 A30 c31 (hh.lent (i := 9) (by rfl) hb24 hx4).2.2.1 A31 c32 (hh.lent (i := 9) (by rfl) hb24 hx4).2.2.2) ?_)
     intro u V25 hV25 hu
     obtain rfl := sureInt _ _ _ hu
     refine TL.onk (Hp.old hV25 w430_ (kp6 (dr1 (kp2 (dr1 (dr1 kp0))))) (oB2 (oR4 (oB1 (oR1 ol0))))) fun o447_ => ?_
     obtain ⟨e11, hb26, hS2⟩ := ob hS2
     obtain ⟨hi34, hi35, hi36⟩ := idx_some hb26
     refine TL.tk 5 (.pointer (some ((sadr A25).add (r14.toNat * 1)))) [] rfl (by kernel_rfl) (fun _ _ _ h => h) o447_ (ixR 5 (e := 3) (s := 1) rfl rfl rfl (fun _ => by kernel_rfl) hi34 hi35 (by rfl) hi36 (by decide)) ?_
     refine TL.all [6] (by kernel_rfl) rfl ⟨?_, trivial⟩
     refine TL.br rfl (W1.storeRow (E := eInt) 5 (r14.toNat) 0 e11 r15 _ (vs := [vi r15]) (by rfl) (by kernel_rfl) rfl rfl (addr_add0 _).symm rfl rfl (fun _ => by kernel_rfl) (one_of rfl) hi36 (Nat.le_of_ble_eq_true (by kernel_rfl)) (fun _ _ h => by cases h; rfl) ?_)
     refine TL.onW (by kernel_rfl) ?_
     let a401_ : Value := .agg #[vi n1.kind, .slice A22 n1.elems.length c22, .slice A23 n1.kids.length c23, .slice A24 n1.seps.length c24, .slice A25 ((n1.tids.set r14.toNat r15).length) c25]
     refine T.reslot 17 a401_ rfl (by simp +zetaDelta only [List.length_set]) ?_
     refine T.reslot 35 a401_ rfl (by simp +zetaDelta only [List.length_set]) ?_
     refine T.reslot 60 (.slice A25 ((n1.tids.set r14.toNat r15).length) c25) rfl (by simp +zetaDelta only [List.length_set]) ?_
     let v323_ : List Value := [vi n1.kind, .slice A22 n1.elems.length c22, .slice A23 n1.kids.length c23, .slice A24 n1.seps.length c24, .slice A25 ((n1.tids.set r14.toNat r15).length) c25]
     let i89_ : HObj := box b19 97 v323_
     let i90_ : HObj := row 3 eInt A25 c25 (n1.tids.set r14.toNat r15)
     refine T.reH (H' := (i88_ :: i89_ :: i60_ :: (row 3 eInt A23 c23 n1.kids) :: (row 43 eSpot A24 c24 n1.seps) :: i90_ :: t86_)) (by first | (simp +zetaDelta only [List.length_set]; done) | (simp +zetaDelta only [List.length_set]; rfl)) ?_
     refine TL.done (by kernel_rfl) ?_
     obtain ⟨q15, hX12, hS2⟩ := ob hS2
     refine T.cut (fun a w' => ∃ (z27 : List Int) (z28 : List DSpot) (z29 : List Int) (z30 : List (Int ⊕ DNode)), q15 = (z27, z28, z29, z30) ∧ ∃ (A32 : Option Addr) (c33 : Nat) (A33 : Option Addr) (c34 : Nat) (A34 : Option Addr) (c35 : Nat) (hs12 : List DHdr) (V26 : View), View.le V25 V26 ∧ Fr 86 [(0, pB b17 0), (1, vi x11), (6, pB b19 0)] a ∧ Hp w V26 ((box b19 97 [vi n1.kind, .slice A22 n1.elems.length c22, .slice A32 z27.length c33, .slice A33 z28.length c34, .slice A34 z29.length c35]) :: i60_ :: (row 3 eInt A32 c33 z27) :: (row 43 eSpot A33 c34 z28) :: (row 3 eInt A34 c35 z29) :: (box b17 137 [vi x7, .slice A21 hs12.length c21]) :: (row 97 eHdr A21 c21 hs12) :: (treeo (TreeTy.mk 28 3 43) hs12 z30) :: (marko d1) :: G3) w') ?_ ?_
     ·
      refine T.seq (T.region (T.pk (pB b23 1) (fun _ => by kernel_rfl) (T.look (.slice A28 n4.elems.length c29) (by kernel_rfl) (ld1 0 rfl rfl (fun _ => by kernel_rfl) (by rfl) rfl) ?_)))
      refine T.p2 (vi (n4.elems.length : Int)) (pB b23 2) (fun _ => by kernel_rfl) (T.look (.slice A29 n4.kids.length c30) (by kernel_rfl) (ld1 0 rfl rfl (fun _ => by kernel_rfl) (by rfl) rfl) ?_)
      refine T.p3 (vi (n4.kids.length : Int)) (vi (IntKind.i64.wrap ((n4.elems.length : Int) + (n4.kids.length : Int)))) (.bool (decide ((IntKind.i64.wrap ((n4.elems.length : Int) + (n4.kids.length : Int))) < 4))) (fun _ => by kernel_rfl) (T.nil ?_)
      refine T.cond (decide ((IntKind.i64.wrap ((n4.elems.length : Int) + (n4.kids.length : Int))) < 4)) (by kernel_rfl) (by kernel_rfl) (fun hc16 => ?_) (fun hc16 => ?_)
      ·
       rw [hc16, cond_true] at hX12
       refine T.region (T.pk (pB b17 0) (fun _ => by kernel_rfl) (T.look a401_ (by kernel_rfl) (ldN 1 rfl rfl (fun _ => by kernel_rfl) (by rfl) rfl) ?_))
       refine T.pk (vi r14) (fun _ => by kernel_rfl) ?_
       obtain ⟨q16, hX13, hX12⟩ := ob hX12
       refine T.step (W1.within 95 [pB b17 0, a401_, vi r14] (fun v w' => ∃ (z31 : List Int) (z32 : List DSpot) (z33 : List Int) (z34 : List (Int ⊕ DNode)), q16 = (z31, z32, z33, z34) ∧ ∃ (A35 : Option Addr) (n5 : Nat) (c36 : Nat) (A36 : Option Addr) (n6 : Nat) (c37 : Nat) (A37 : Option Addr) (c38 : Nat) (A38 : Option Addr) (c39 : Nat) (A39 : Option Addr) (c40 : Nat) (hs13 : List DHdr) (V27 : View), View.le V25 V27 ∧ v = .agg #[vi n1.kind, .slice A22 n1.elems.length c22, .slice A37 z31.length c38, .slice A38 z32.length c39, .slice A39 z33.length c40] ∧ Hp w V27 ((box b19 97 [vi n1.kind, .slice A22 n1.elems.length c22, .slice A23 n1.kids.length c23, .slice A35 n5 c36, .slice A36 n6 c37]) :: i60_ :: (row 3 eInt A37 c38 z31) :: (row 43 eSpot A38 c39 z32) :: (row 3 eInt A39 c40 z33) :: (box b17 137 [vi x7, .slice A21 hs13.length c21]) :: (row 97 eHdr A21 c21 hs13) :: (treeo (TreeTy.mk 28 3 43) hs13 z34) :: (marko d1) :: G3) w') Try.func95 rfl rfl (by kernel_rfl) (fun _ => by kernel_rfl) rfl ?_ ?_)
       ·
        refine T.seq (T.region (T.step (W1.np 97 v323_ (fun _ => by kernel_rfl) (fun b24 => ?_))))
        refine T.step (W1.np 97 v317_ (fun _ => by kernel_rfl) (fun b25 => ?_))
        refine T.nil ?_
        obtain ⟨z35, hX14, hX13⟩ := ob hX13
        let i91_ : HObj := box b25 97 v317_
        let i92_ : HObj := box b24 97 v323_
        refine T.cut (fun a w' => Fr 156 [(0, pB b17 0), (2, vi z35), (4, pB b24 0), (6, pB b25 0)] a ∧ Hp w V25 (i91_ :: i92_ :: i89_ :: i60_ :: (row 3 eInt A23 c23 n1.kids) :: (row 43 eSpot A24 c24 n1.seps) :: i90_ :: t85_) w') ?_ ?_
        ·
         refine T.seq (T.region (T.p2 (vi r14) (pB b24 2) (fun _ => by kernel_rfl) (T.look (.slice A23 n1.kids.length c23) (by kernel_rfl) (ld1 1 rfl rfl (fun _ => by kernel_rfl) (by rfl) rfl) ?_)))
         refine T.p3 (vi (n1.kids.length : Int)) (vi (IntKind.i64.wrap ((n1.kids.length : Int) - 1))) (.bool (r14 == (IntKind.i64.wrap ((n1.kids.length : Int) - 1)))) (fun _ => by kernel_rfl) (T.nil ?_)
         refine T.cond (r14 == (IntKind.i64.wrap ((n1.kids.length : Int) - 1))) (by kernel_rfl) (by kernel_rfl) (fun hc17 => ?_) (fun hc17 => ?_)
         ·
          rw [hc17, cond_true] at hX14
          refine T.region (T.p3 (vi r14) (vi (IntKind.i64.wrap (r14 - 1))) (vi (IntKind.i64.wrap (r14 - 1))) (fun _ => by kernel_rfl) (T.nil ?_))
          cases hX14
          exact fun a w' hf hh => ⟨(Fr.sel hf rfl), (hh.sub (kp2 (dr1 (kp5 (dr1 (kp3 (kp1 kpr)))))))⟩
         rw [hc17, cond_false] at hX14
         refine T.skip_code ?_
         cases hX14
         exact fun a w' hf hh => ⟨(Fr.sel hf rfl), (hh.sub (kp2 (dr1 (kp5 (dr1 (kp3 (kp1 kpr)))))))⟩
        rintro a w' ⟨hf, hh⟩
        refine (?_ : T 156 w V25 (i91_ :: i92_ :: i89_ :: i60_ :: (row 3 eInt A23 c23 n1.kids) :: (row 43 eSpot A24 c24 n1.seps) :: i90_ :: t85_) [(0, pB b17 0), (2, vi z35), (4, pB b24 0), (6, pB b25 0)] _) a w' hf hh
        clear hf hh
        refine T.seq ?_
        refine T.quiet (by kernel_rfl) (by kernel_rfl) ?_
        refine TQ.pure (pB b24 2) (by kernel_rfl) (fun _ => by kernel_rfl) ?_
        refine TQ.look (.slice A23 n1.kids.length c23) (by kernel_rfl) (ld1 1 rfl rfl (fun _ => by kernel_rfl) (by rfl) rfl) ?_
        refine TQ.pure (vi z35) (by kernel_rfl) (fun _ => by kernel_rfl) ?_
        obtain ⟨e12, hb27, hX13⟩ := ob hX13
        obtain ⟨hi37, hi38, hi39⟩ := idx_some hb27
        refine TQ.look (.pointer (some ((sadr A23).add (z35.toNat * 1)))) (by kernel_rfl) (ixR 4 (e := 3) (s := 1) rfl rfl rfl (fun _ => by kernel_rfl) hi37 hi38 (by rfl) hi39 (by decide)) ?_
        refine TQ.look (vi e12) (by kernel_rfl) (fun w' hh => exec_load1 rfl rfl (by kernel_rfl) (SlOk.wcellF0 (E := eInt) (hh.row_slOk (i := 4) (by rfl)) hi39 (fun _ _ _ h => h) rfl)) ?_
        refine TQ.pure (pB b24 2) (by kernel_rfl) (fun _ => by kernel_rfl) ?_
        refine TQ.look (.slice A23 n1.kids.length c23) (by kernel_rfl) (ld1 1 rfl rfl (fun _ => by kernel_rfl) (by rfl) rfl) ?_
        refine TQ.pure (vi z35) (by kernel_rfl) (fun _ => by kernel_rfl) ?_
        refine TQ.pure (vi (IntKind.i64.wrap (z35 + 1))) (by kernel_rfl) (fun _ => by kernel_rfl) ?_
        obtain ⟨e13, hb28, hX13⟩ := ob hX13
        obtain ⟨hi40, hi41, hi42⟩ := idx_some hb28
        refine TQ.look (.pointer (some ((sadr A23).add (((IntKind.i64.wrap (z35 + 1)).toNat) * 1)))) (by kernel_rfl) (ixR 4 (e := 3) (s := 1) rfl rfl rfl (fun _ => by kernel_rfl) hi40 hi41 (by rfl) hi42 (by decide)) ?_
        refine TQ.look (vi e13) (by kernel_rfl) (fun w' hh => exec_load1 rfl rfl (by kernel_rfl) (SlOk.wcellF0 (E := eInt) (hh.row_slOk (i := 4) (by rfl)) hi42 (fun _ _ _ h => h) rfl)) ?_
        refine TQ.pure (vi e12) (by kernel_rfl) (fun _ => by kernel_rfl) ?_
        refine TQ.pure (vi e13) (by kernel_rfl) (fun _ => by kernel_rfl) ?_
        refine TQ.nil ?_
        refine T.seq ?_
        obtain ⟨n7, hb29, hX13⟩ := ob hX13
        obtain ⟨n8, hb30, hX13⟩ := ob hX13
        obtain ⟨e14, hb31, hX13⟩ := ob hX13
        obtain ⟨z36, hX15, hX13⟩ := ob hX13
        let i93_ : HObj := treeo (TreeTy.mk 28 3 43) c28 (outAt z26 e12)
        let t94_ : List HObj := i93_ :: (marko d1) :: G3
        let t95_ : List HObj := (row 97 eHdr A21 c21 c28) :: t94_
        let t96_ : List HObj := i81_ :: t95_
        let t97_ : List HObj := i90_ :: t96_
        let t98_ : List HObj := (row 43 eSpot A24 c24 n1.seps) :: t97_
        let t99_ : List HObj := (row 3 eInt A23 c23 n1.kids) :: t98_
        let t100_ : List HObj := i60_ :: t99_
        let t101_ : List HObj := i89_ :: t100_
        let t102_ : List HObj := i92_ :: t101_
        let t103_ : List HObj := i91_ :: t102_
        refine T.mid (fun a w' => ∃ (b31 : Nat) (A65 : Option Addr) (c66 : Nat) (A66 : Option Addr) (c67 : Nat) (A67 : Option Addr) (c68 : Nat) (A68 : Option Addr) (c69 : Nat), Fr 156 [(0, pB b17 0), (2, vi z35), (4, pB b24 0), (6, pB b25 0), (7, vi e12), (8, vi e13), (9, pB b31 0)] a ∧ Hp w V25 ((box b31 97 [vi n7.kind, .slice A65 ((n7.elems ++ n8.elems).length) c66, .slice A66 ((n7.kids ++ n8.kids).length) c67, .slice A67 z36.length c68, .slice A68 ((n7.tids ++ n8.tids).length) c69]) :: (row 28 eElem A65 c66 (n7.elems ++ n8.elems)) :: (row 3 eInt A66 c67 (n7.kids ++ n8.kids)) :: (row 43 eSpot A67 c68 z36) :: (row 3 eInt A68 c69 (n7.tids ++ n8.tids)) :: t103_) w') ?_ ?_
        ·
         refine T.held (i91_ :: i92_ :: i89_ :: i60_ :: (row 3 eInt A23 c23 n1.kids) :: t87_) (by kernel_rfl) ?_
         have w431_ := vt (vt (vt (vt (vt (vt (vt hV1 hV2) hV3) hV18) hV21) hV23) hV24) hV25
         refine TA.keep (Hp.old vr w431_ (kp5 (dr2 (kp2 (dr1 (dr1 kp0))))) (oB3 (oR2 (oB1 (oR1 ol0))))) fun o448_ => ?_
         refine TA.tp 0 (pB b17 0) rfl (fun _ => by kernel_rfl) (fun _ _ _ h => h) o448_ ?_
         refine TA.tp 1 (pB b17 0) rfl (fun _ => by kernel_rfl) (fun _ _ _ h => h) o448_ ?_
         refine TA.tp 2 (pB b17 0) rfl (fun _ => by kernel_rfl) (fun _ _ _ h => h) o448_ ?_
         refine TA.tp 3 (pB b17 0) rfl (fun _ => by kernel_rfl) (fun _ _ _ h => h) o448_ ?_
         refine TA.tp 4 (pB b17 1) rfl (fun _ => by kernel_rfl) (fun _ _ _ h => h) o448_ ?_
         refine TA.tk 5 (.slice A21 c28.length c21) rfl (by kernel_rfl) (fun _ _ _ h => h) o448_ (ld1 5 rfl rfl (fun _ => by kernel_rfl) (by rfl) rfl) ?_
         refine TA.tp 6 (vi e12) rfl (fun _ => by kernel_rfl) (fun _ _ _ h => h) o448_ ?_
         obtain ⟨A40, c41, A41, c42, A42, c43, A43, c44, hi43, hi44, hx5⟩ := ht6.at_ hb29
         refine TA.tk 7 (.pointer (some ((sadr A21).add (e12.toNat * 5)))) rfl (by kernel_rfl) (fun _ _ _ h => h) o448_ (ixR 6 (e := 97) (s := 5) rfl rfl rfl (fun _ => by kernel_rfl) hi43 hi44 (by rfl) hx5 (by decide)) ?_
         let v324_ : List Value := [vi n7.kind, .slice A40 n7.elems.length c41, .slice A41 n7.kids.length c42, .slice A42 n7.seps.length c43, .slice A43 n7.tids.length c44]
         let a402_ : Value := .agg #[vi n7.kind, .slice A40 n7.elems.length c41, .slice A41 n7.kids.length c42, .slice A42 n7.seps.length c43, .slice A43 n7.tids.length c44]
         refine TA.tk 8 a402_ rfl (by kernel_rfl) (fun _ _ _ h => h) o448_ (fun w' hh => exec_loadN (cs := v324_) rfl rfl (by kernel_rfl) (by kernel_rfl) (fun j u hj => (SlOk.wcellF (E := eHdr) (hh.row_slOk (i := 6) (by rfl)) hx5 j (fun _ _ _ h => h) hj))) ?_
         refine T.takeN (ty := (TreeTy.mk 28 3 43)) (h := (DHdr.mk n7.kind A40 n7.elems.length c41 A41 n7.kids.length c42 A42 n7.seps.length c43 A43 n7.tids.length c44)) 9 (by rfl) hb29 hx5 rfl ?_
         let t104_ : List HObj := (row 3 eInt A43 c44 n7.tids) :: t103_
         let t105_ : List HObj := (row 43 eSpot A42 c43 n7.seps) :: t104_
         let t106_ : List HObj := (row 3 eInt A41 c42 n7.kids) :: t105_
         refine T.reH (H' := ((row 28 eElem A40 c41 n7.elems) :: t106_)) (by rfl) ?_
         refine T.tree 13 (by rfl) (fun ht7 => ?_)
         refine TA.keep (Hp.old vr w431_ (dr4 (kp5 (dr2 (kp2 (dr1 (dr1 kp0)))))) (oB3 (oR2 (oB1 (oR1 ol0))))) fun o449_ => ?_
         refine TA.tp 9 (pB b17 0) rfl (fun _ => by kernel_rfl) (fun _ _ _ h => h) o449_ ?_
         refine TA.tp 10 (pB b17 0) rfl (fun _ => by kernel_rfl) (fun _ _ _ h => h) o449_ ?_
         refine TA.tp 11 (pB b17 0) rfl (fun _ => by kernel_rfl) (fun _ _ _ h => h) o449_ ?_
         refine TA.tp 12 (pB b17 0) rfl (fun _ => by kernel_rfl) (fun _ _ _ h => h) o449_ ?_
         refine TA.tp 13 (pB b17 1) rfl (fun _ => by kernel_rfl) (fun _ _ _ h => h) o449_ ?_
         refine TA.tk 14 (.slice A21 c28.length c21) rfl (by kernel_rfl) (fun _ _ _ h => h) o449_ (ld1 5 rfl rfl (fun _ => by kernel_rfl) (by rfl) rfl) ?_
         refine TA.tp 15 (vi e13) rfl (fun _ => by kernel_rfl) (fun _ _ _ h => h) o449_ ?_
         obtain ⟨A44, c45, A45, c46, A46, c47, A47, c48, hi45, hi46, hx6⟩ := ht7.at_ hb30
         refine TA.tk 16 (.pointer (some ((sadr A21).add (e13.toNat * 5)))) rfl (by kernel_rfl) (fun _ _ _ h => h) o449_ (ixR 6 (e := 97) (s := 5) rfl rfl rfl (fun _ => by kernel_rfl) hi45 hi46 (by rfl) hx6 (by decide)) ?_
         let v325_ : List Value := [vi n8.kind, .slice A44 n8.elems.length c45, .slice A45 n8.kids.length c46, .slice A46 n8.seps.length c47, .slice A47 n8.tids.length c48]
         let a403_ : Value := .agg #[vi n8.kind, .slice A44 n8.elems.length c45, .slice A45 n8.kids.length c46, .slice A46 n8.seps.length c47, .slice A47 n8.tids.length c48]
         refine TA.tk 17 a403_ rfl (by kernel_rfl) (fun _ _ _ h => h) o449_ (fun w' hh => exec_loadN (cs := v325_) rfl rfl (by kernel_rfl) (by kernel_rfl) (fun j u hj => (SlOk.wcellF (E := eHdr) (hh.row_slOk (i := 6) (by rfl)) hx6 j (fun _ _ _ h => h) hj))) ?_
         refine TA.tp 18 (pB b24 3) rfl (fun _ => by kernel_rfl) (fun _ _ _ h => h) o449_ ?_
         refine TA.tk 19 (.slice A24 n1.seps.length c24) rfl (by kernel_rfl) (fun _ _ _ h => h) o449_ (ld1 1 rfl rfl (fun _ => by kernel_rfl) (by rfl) rfl) ?_
         refine TA.tp 20 (vi z35) rfl (fun _ => by kernel_rfl) (fun _ _ _ h => h) o449_ ?_
         refine TA.all [21, 24] (by kernel_rfl) rfl ⟨?_, ?_, trivial⟩
         ·
          obtain ⟨hi47, hi48, hi49⟩ := idx_some hb31
          refine TA.br rfl (W1.look (.pointer (some ((sadr A24).add (z35.toNat * 4)))) (by kernel_rfl) (ixR 9 (e := 43) (s := 4) rfl rfl rfl (fun _ => by kernel_rfl) hi47 hi48 (by rfl) hi49 (by decide)) ?_)
          refine TA.on (Hp.old vr w431_ (dr4 (kp5 (dr2 (kp2 (dr1 (dr1 kp0)))))) (oB3 (oR2 (oB1 (oR1 ol0))))) ?_
          refine TA.all [22, 24] (by kernel_rfl) rfl ⟨?_, ?_, trivial⟩
          ·
           let v326_ : List Value := [vi e14.key.pfs, vi e14.key.obj, vi e14.key.off, vi e14.made]
           let a404_ : Value := .agg #[vi e14.key.pfs, vi e14.key.obj, vi e14.key.off, vi e14.made]
           refine TA.br rfl (W1.look a404_ (by kernel_rfl) (fun w' hh => exec_loadN (cs := v326_) rfl rfl (by kernel_rfl) (by kernel_rfl) (fun j u hj => (SlOk.wcellF (E := eSpot) (hh.row_slOk (i := 9) (by rfl)) hi49 j (fun _ _ _ h => h) hj))) ?_)
           refine TA.on (Hp.old vr w431_ (dr4 (kp5 (dr2 (kp2 (dr1 (dr1 kp0)))))) (oB3 (oR2 (oB1 (oR1 ol0))))) ?_
           refine TA.all [23, 24] (by kernel_rfl) rfl ⟨?_, ?_, trivial⟩
           ·
            refine TA.br rfl (W1.within 101 [a402_, a403_, a404_] (fun v w' => ∃ (A48 : Option Addr) (c49 : Nat) (A49 : Option Addr) (c50 : Nat) (A50 : Option Addr) (c51 : Nat) (A51 : Option Addr) (c52 : Nat), v = .agg #[vi n7.kind, .slice A48 ((n7.elems ++ n8.elems).length) c49, .slice A49 ((n7.kids ++ n8.kids).length) c50, .slice A50 z36.length c51, .slice A51 ((n7.tids ++ n8.tids).length) c52] ∧ Hp w V25 ((row 28 eElem A48 c49 (n7.elems ++ n8.elems)) :: (row 3 eInt A49 c50 (n7.kids ++ n8.kids)) :: (row 43 eSpot A50 c51 z36) :: (row 3 eInt A51 c52 (n7.tids ++ n8.tids)) :: t103_) w') Try.func101 rfl rfl (by kernel_rfl) (fun _ => by kernel_rfl) rfl ?_ ?_)
            ·
             refine T.seq (T.region (T.step (W1.np 97 v324_ (fun _ => by kernel_rfl) (fun b26 => ?_))))
             refine T.step (W1.np 97 v325_ (fun _ => by kernel_rfl) (fun b27 => ?_))
             refine T.step (W1.np 43 v326_ (fun _ => by kernel_rfl) (fun b28 => ?_))
             refine T.step (W1.np 97 v317_ (fun _ => by kernel_rfl) (fun b29 => ?_))
             refine T.nil (T.seq (T.region (T.pk (pB b26 1) (fun _ => by kernel_rfl) (T.look (.slice A40 n7.elems.length c41) (by kernel_rfl) (ld1 3 rfl rfl (fun _ => by kernel_rfl) (by rfl) rfl) ?_))))
             refine T.pk (pB b27 1) (fun _ => by kernel_rfl) (T.look (.slice A44 n8.elems.length c45) (by kernel_rfl) (ld1 2 rfl rfl (fun _ => by kernel_rfl) (by rfl) rfl) ?_)
             obtain ⟨y7, hb32, hX15⟩ := ob hX15
             obtain ⟨hb32_r, hb32_m, rfl⟩ := grow_some hb32
             obtain ⟨ti, hti, hz1, hz2, hz3⟩ := ipStepL_2
             refine T.step (W1.append (E := eElem) (l := n7.elems) (m := n8.elems) 4 _ _ 56 ti _ (by rfl) (by kernel_rfl) rfl (by kernel_rfl) hti hz1 hz2 hz3 rfl (by decide) rfl rfl (fun w' hh => (SlOk.srcF (hh.lent (i := 17) (by rfl) hb30 hx6).1 (fun _ _ _ _ h => h))) hb32_r hb32_m (fun A52 c53 => ?_))
             refine T.pk (pB b26 1) (fun _ => by kernel_rfl) ?_
             let i107_ : HObj := box b29 97 v317_
             let i108_ : HObj := box b28 43 v326_
             let i109_ : HObj := box b27 97 v325_
             let i110_ : HObj := row 28 eElem A52 c53 (n7.elems ++ n8.elems)
             let v327_ : List Value := [vi n7.kind, .slice A52 ((n7.elems ++ n8.elems).length) c53, .slice A41 n7.kids.length c42, .slice A42 n7.seps.length c43, .slice A43 n7.tids.length c44]
             refine T.step (W1.st 3 v327_ (i107_ :: i108_ :: i109_ :: (box b26 97 v327_) :: i110_ :: t106_) [.slice A52 ((n7.elems ++ n8.elems).length) c53] (by rfl) rfl rfl rfl rfl rfl rfl (fun _ => by kernel_rfl) ?_)
             refine T.nil ?_
             obtain ⟨z37, hX16, hX15⟩ := ob hX15
             refine T.cut (fun a w' => ∃ (A53 : Option Addr) (c54 : Nat), Fr 38 [(3, pB b26 0), (4, pB b27 0), (6, pB b29 0)] a ∧ Hp w V25 (i107_ :: i109_ :: (box b26 97 [vi n7.kind, .slice A52 ((n7.elems ++ n8.elems).length) c53, .slice A41 n7.kids.length c42, .slice A53 z37.length c54, .slice A43 n7.tids.length c44]) :: i110_ :: (row 3 eInt A41 c42 n7.kids) :: (row 43 eSpot A53 c54 z37) :: t104_) w') ?_ ?_
             ·
              refine T.seq (T.region (T.pk (pB b26 0) (fun _ => by kernel_rfl) (T.look (vi n7.kind) (by kernel_rfl) (ld1 3 rfl rfl (fun _ => by kernel_rfl) (by rfl) rfl) ?_)))
              refine T.pk (.bool (n7.kind == 2)) (fun _ => by kernel_rfl) (T.nil ?_)
              refine T.cond (n7.kind == 2) (by kernel_rfl) (by kernel_rfl) (fun hc18 => ?_) (fun hc18 => ?_)
              ·
               rw [hc18, cond_true] at hX16
               obtain ⟨y18, hb43, hX16⟩ := ob hX16
               obtain ⟨y19, hb44, hX16⟩ := ob hX16
               refine T.mid (fun a w' => ∃ (A56 : Option Addr) (c57 : Nat), Fr 38 [(3, pB b26 0), (4, pB b27 0), (6, pB b29 0)] a ∧ Hp w V25 (i107_ :: i109_ :: (box b26 97 [vi n7.kind, .slice A52 ((n7.elems ++ n8.elems).length) c53, .slice A41 n7.kids.length c42, .slice A56 (((n7.seps ++ [e14]) ++ n8.seps).length) c57, .slice A43 n7.tids.length c44]) :: i110_ :: (row 3 eInt A41 c42 n7.kids) :: (row 43 eSpot A56 c57 ((n7.seps ++ [e14]) ++ n8.seps)) :: t104_) w') ?_ ?_
               ·
                refine T.held (i107_ :: i108_ :: i109_ :: i110_ :: (row 3 eInt A41 c42 n7.kids) :: i91_ :: i92_ :: i89_ :: i60_ :: (row 3 eInt A23 c23 n1.kids) :: (row 43 eSpot A24 c24 n1.seps) :: i90_ :: t87_) (by kernel_rfl) ?_
                refine TA.keep (Hp.old vr w431_ (kp3 (dr1 (kp2 (dr2 (kp9 (dr1 (dr1 kp0))))))) (oB3 (oR2 (oB3 (oR4 (oB1 (oR1 ol0))))))) fun o450_ => ?_
                refine TA.tp 0 (pB b26 3) rfl (fun _ => by kernel_rfl) (fun _ _ _ h => h) o450_ ?_
                refine TA.tk 2 a404_ rfl (by kernel_rfl) (fun _ _ _ h => h) o450_ (ldN 1 rfl rfl (fun _ => by kernel_rfl) (by rfl) rfl) ?_
                refine TA.tp 5 (pB b27 3) rfl (fun _ => by kernel_rfl) (fun _ _ _ h => h) o450_ ?_
                refine TA.tk 6 (.slice A46 n8.seps.length c47) rfl (by kernel_rfl) (fun _ _ _ h => h) o450_ (ld1 2 rfl rfl (fun _ => by kernel_rfl) (by rfl) rfl) ?_
                refine TA.all [1, 3] (by kernel_rfl) rfl ⟨?_, ?_, trivial⟩
                ·
                 refine TA.br rfl (W1.look (.slice A42 n7.seps.length c43) (by kernel_rfl) (ld1 3 rfl rfl (fun _ => by kernel_rfl) (by rfl) rfl) ?_)
                 refine TA.on (Hp.old vr w431_ (kp3 (dr1 (kp2 (dr2 (kp9 (dr1 (dr1 kp0))))))) (oB3 (oR2 (oB3 (oR4 (oB1 (oR1 ol0))))))) ?_
                 refine TA.all [3] (by kernel_rfl) rfl ⟨?_, trivial⟩
                 refine TA.br rfl (W1.ns 43 v326_ (fun _ => by kernel_rfl) (fun b35 => ?_))
                 refine TA.on (Hp.old vr w431_ (dr1 (kp3 (dr1 (kp2 (dr2 (kp9 (dr1 (dr1 kp0)))))))) (oB3 (oR2 (oB3 (oR4 (oB1 (oR1 ol0))))))) ?_
                 refine TA.all [4] (by kernel_rfl) rfl ⟨?_, trivial⟩
                 obtain ⟨hb43_r, hb43_m, rfl⟩ := grow_some hb43
                 obtain ⟨ti, hti, hz1, hz2, hz3⟩ := ipStepL_1
                 refine TA.br rfl (W1.append (E := eSpot) (l := n7.seps) (m := [e14]) 7 _ _ 32 ti _ (by rfl) (by kernel_rfl) rfl (by kernel_rfl) hti hz1 hz2 hz3 rfl (by decide) rfl rfl (fun w' hh => (SlOk.srcF (slok_lit (E := eSpot) (f := DSpot.cells) [e14] (fun _ _ => rfl) (Nat.le_of_ble_eq_true (by rfl)) (fun j => hh.cellBox (i := 0) (by rfl) j)) (fun _ _ _ _ h => h))) hb43_r hb43_m (fun A69 c70 => ?_))
                 refine TA.on (Hp.old vr w431_ (dr1 (kp3 (dr1 (kp2 (dr2 (kp9 (dr1 (dr1 kp0)))))))) (oB3 (oR2 (oB3 (oR4 (oB1 (oR1 ol0))))))) ?_
                 refine TA.all [7] (by kernel_rfl) rfl ⟨?_, trivial⟩
                 obtain ⟨hb44_r, hb44_m, rfl⟩ := grow_some hb44
                 obtain ⟨ti, hti, hz1, hz2, hz3⟩ := ipStepL_1
                 refine TA.br rfl (W1.append (E := eSpot) (l := (n7.seps ++ [e14])) (m := n8.seps) 7 _ _ 32 ti _ (by rfl) (by kernel_rfl) rfl (by kernel_rfl) hti hz1 hz2 hz3 rfl (by decide) rfl rfl (fun w' hh => (SlOk.srcF (hh.lent (i := 18) (by rfl) hb30 hx6).2.2.1 (fun _ _ _ _ h => h))) hb44_r hb44_m (fun A70 c71 => ?_))
                 refine TA.onk (Hp.old vr w431_ (dr1 (kp3 (dr1 (kp2 (dr2 (kp9 (dr1 (dr1 kp0)))))))) (oB3 (oR2 (oB3 (oR4 (oB1 (oR1 ol0))))))) fun o451_ => ?_
                 refine TA.tp 8 (pB b26 3) rfl (fun _ => by kernel_rfl) (fun _ _ _ h => h) o451_ ?_
                 refine TA.all [9] (by kernel_rfl) rfl ⟨?_, trivial⟩
                 let v328_ : List Value := [vi n7.kind, .slice A52 ((n7.elems ++ n8.elems).length) c53, .slice A41 n7.kids.length c42, .slice A70 (((n7.seps ++ [e14]) ++ n8.seps).length) c71, .slice A43 n7.tids.length c44]
                 refine TA.br rfl (W1.st 4 v328_ ((box b35 43 v326_) :: i107_ :: i108_ :: i109_ :: (box b26 97 v328_) :: i110_ :: (row 3 eInt A41 c42 n7.kids) :: (row 43 eSpot A70 c71 ((n7.seps ++ [e14]) ++ n8.seps)) :: t104_) [.slice A70 (((n7.seps ++ [e14]) ++ n8.seps).length) c71] (by rfl) rfl rfl rfl rfl rfl rfl (fun _ => by kernel_rfl) ?_)
                 refine TA.on (Hp.old vr w431_ (dr1 (kp3 (dr1 (kp2 (dr2 (kp9 (dr1 (dr1 kp0)))))))) (oB3 (oR2 (oB3 (oR4 (oB1 (oR1 ol0))))))) ?_
                 refine TA.done (by kernel_rfl) ?_
                 exact fun a w' hf hh => ⟨A70, c71, (Fr.sel hf rfl), (hh.sub (dr1 (kp1 (dr1 (kp16 (kp1 kpr))))))⟩
                refine TA.br rfl (W1.ns 43 v326_ (fun _ => by kernel_rfl) (fun b35 => ?_))
                refine TA.on (Hp.old vr w431_ (dr1 (kp3 (dr1 (kp2 (dr2 (kp9 (dr1 (dr1 kp0)))))))) (oB3 (oR2 (oB3 (oR4 (oB1 (oR1 ol0))))))) ?_
                refine TA.all [1] (by kernel_rfl) rfl ⟨?_, trivial⟩
                refine TA.br rfl (W1.look (.slice A42 n7.seps.length c43) (by kernel_rfl) (ld1 4 rfl rfl (fun _ => by kernel_rfl) (by rfl) rfl) ?_)
                refine TA.on (Hp.old vr w431_ (dr1 (kp3 (dr1 (kp2 (dr2 (kp9 (dr1 (dr1 kp0)))))))) (oB3 (oR2 (oB3 (oR4 (oB1 (oR1 ol0))))))) ?_
                refine TA.all [4] (by kernel_rfl) rfl ⟨?_, trivial⟩
                obtain ⟨hb43_r, hb43_m, rfl⟩ := grow_some hb43
                obtain ⟨ti, hti, hz1, hz2, hz3⟩ := ipStepL_1
                refine TA.br rfl (W1.append (E := eSpot) (l := n7.seps) (m := [e14]) 7 _ _ 32 ti _ (by rfl) (by kernel_rfl) rfl (by kernel_rfl) hti hz1 hz2 hz3 rfl (by decide) rfl rfl (fun w' hh => (SlOk.srcF (slok_lit (E := eSpot) (f := DSpot.cells) [e14] (fun _ _ => rfl) (Nat.le_of_ble_eq_true (by rfl)) (fun j => hh.cellBox (i := 0) (by rfl) j)) (fun _ _ _ _ h => h))) hb43_r hb43_m (fun A69 c70 => ?_))
                refine TA.on (Hp.old vr w431_ (dr1 (kp3 (dr1 (kp2 (dr2 (kp9 (dr1 (dr1 kp0)))))))) (oB3 (oR2 (oB3 (oR4 (oB1 (oR1 ol0))))))) ?_
                refine TA.all [7] (by kernel_rfl) rfl ⟨?_, trivial⟩
                obtain ⟨hb44_r, hb44_m, rfl⟩ := grow_some hb44
                obtain ⟨ti, hti, hz1, hz2, hz3⟩ := ipStepL_1
                refine TA.br rfl (W1.append (E := eSpot) (l := (n7.seps ++ [e14])) (m := n8.seps) 7 _ _ 32 ti _ (by rfl) (by kernel_rfl) rfl (by kernel_rfl) hti hz1 hz2 hz3 rfl (by decide) rfl rfl (fun w' hh => (SlOk.srcF (hh.lent (i := 18) (by rfl) hb30 hx6).2.2.1 (fun _ _ _ _ h => h))) hb44_r hb44_m (fun A70 c71 => ?_))
                refine TA.onk (Hp.old vr w431_ (dr1 (kp3 (dr1 (kp2 (dr2 (kp9 (dr1 (dr1 kp0)))))))) (oB3 (oR2 (oB3 (oR4 (oB1 (oR1 ol0))))))) fun o452_ => ?_
                refine TA.tp 8 (pB b26 3) rfl (fun _ => by kernel_rfl) (fun _ _ _ h => h) o452_ ?_
                refine TA.all [9] (by kernel_rfl) rfl ⟨?_, trivial⟩
                let v329_ : List Value := [vi n7.kind, .slice A52 ((n7.elems ++ n8.elems).length) c53, .slice A41 n7.kids.length c42, .slice A70 (((n7.seps ++ [e14]) ++ n8.seps).length) c71, .slice A43 n7.tids.length c44]
                refine TA.br rfl (W1.st 4 v329_ ((box b35 43 v326_) :: i107_ :: i108_ :: i109_ :: (box b26 97 v329_) :: i110_ :: (row 3 eInt A41 c42 n7.kids) :: (row 43 eSpot A70 c71 ((n7.seps ++ [e14]) ++ n8.seps)) :: t104_) [.slice A70 (((n7.seps ++ [e14]) ++ n8.seps).length) c71] (by rfl) rfl rfl rfl rfl rfl rfl (fun _ => by kernel_rfl) ?_)
                refine TA.on (Hp.old vr w431_ (dr1 (kp3 (dr1 (kp2 (dr2 (kp9 (dr1 (dr1 kp0)))))))) (oB3 (oR2 (oB3 (oR4 (oB1 (oR1 ol0))))))) ?_
                refine TA.done (by kernel_rfl) ?_
                exact fun a w' hf hh => ⟨A70, c71, (Fr.sel hf rfl), (hh.sub (dr1 (kp1 (dr1 (kp16 (kp1 kpr))))))⟩
               rintro a w' ⟨A56, c57, hf, hh⟩
               refine (?_ : T 38 w V25 (i107_ :: i109_ :: (box b26 97 [vi n7.kind, .slice A52 ((n7.elems ++ n8.elems).length) c53, .slice A41 n7.kids.length c42, .slice A56 (((n7.seps ++ [e14]) ++ n8.seps).length) c57, .slice A43 n7.tids.length c44]) :: i110_ :: (row 3 eInt A41 c42 n7.kids) :: (row 43 eSpot A56 c57 ((n7.seps ++ [e14]) ++ n8.seps)) :: t104_) [(3, pB b26 0), (4, pB b27 0), (6, pB b29 0)] _) a w' hf hh
               clear hf hh
               cases hX16
               exact fun a w' hf hh => ⟨A56, c57, (Fr.sel hf rfl), (hh.sub (kp17 (kp1 kpr)))⟩
              rw [hc18, cond_false] at hX16
              refine T.skip_code ?_
              cases hX16
              exact fun a w' hf hh => ⟨A42, c43, (Fr.sel hf rfl), (hh.sub (kp1 (dr1 (kp16 (kp1 kpr)))))⟩
             rintro a w' ⟨A53, c54, hf, hh⟩
             refine (?_ : T 38 w V25 (i107_ :: i109_ :: (box b26 97 [vi n7.kind, .slice A52 ((n7.elems ++ n8.elems).length) c53, .slice A41 n7.kids.length c42, .slice A53 z37.length c54, .slice A43 n7.tids.length c44]) :: i110_ :: (row 3 eInt A41 c42 n7.kids) :: (row 43 eSpot A53 c54 z37) :: t104_) [(3, pB b26 0), (4, pB b27 0), (6, pB b29 0)] _) a w' hf hh
             clear hf hh
             refine T.seq (T.region (T.pk (pB b26 2) (fun _ => by kernel_rfl) (T.look (.slice A41 n7.kids.length c42) (by kernel_rfl) (ld1 2 rfl rfl (fun _ => by kernel_rfl) (by rfl) rfl) ?_)))
             refine T.pk (pB b27 2) (fun _ => by kernel_rfl) (T.look (.slice A45 n8.kids.length c46) (by kernel_rfl) (ld1 1 rfl rfl (fun _ => by kernel_rfl) (by rfl) rfl) ?_)
             obtain ⟨y10, hb35, hX15⟩ := ob hX15
             obtain ⟨hb35_r, hb35_m, rfl⟩ := grow_some hb35
             obtain ⟨ti, hti, hz1, hz2, hz3⟩ := ipStepL_3
             refine T.step (W1.append (E := eInt) (l := n7.kids) (m := n8.kids) 4 _ _ 8 ti _ (by rfl) (by kernel_rfl) rfl (by kernel_rfl) hti hz1 hz2 hz3 rfl (by decide) rfl rfl (fun w' hh => (SlOk.srcF (hh.lent (i := 16) (by rfl) hb30 hx6).2.1 (fun _ _ _ _ h => h))) hb35_r hb35_m (fun A57 c58 => ?_))
             refine T.pk (pB b26 2) (fun _ => by kernel_rfl) ?_
             let i111_ : HObj := row 3 eInt A57 c58 (n7.kids ++ n8.kids)
             let v330_ : List Value := [vi n7.kind, .slice A52 ((n7.elems ++ n8.elems).length) c53, .slice A57 ((n7.kids ++ n8.kids).length) c58, .slice A53 z37.length c54, .slice A43 n7.tids.length c44]
             refine T.step (W1.st 2 v330_ (i107_ :: i109_ :: (box b26 97 v330_) :: i110_ :: i111_ :: (row 43 eSpot A53 c54 z37) :: t104_) [.slice A57 ((n7.kids ++ n8.kids).length) c58] (by rfl) rfl rfl rfl rfl rfl rfl (fun _ => by kernel_rfl) ?_)
             refine T.nil (T.seq (T.region (T.pk (pB b26 4) (fun _ => by kernel_rfl) (T.look (.slice A43 n7.tids.length c44) (by kernel_rfl) (ld1 2 rfl rfl (fun _ => by kernel_rfl) (by rfl) rfl) ?_))))
             refine T.pk (pB b27 4) (fun _ => by kernel_rfl) (T.look (.slice A47 n8.tids.length c48) (by kernel_rfl) (ld1 1 rfl rfl (fun _ => by kernel_rfl) (by rfl) rfl) ?_)
             obtain ⟨y11, hb36, hX15⟩ := ob hX15
             obtain ⟨hb36_r, hb36_m, rfl⟩ := grow_some hb36
             obtain ⟨ti, hti, hz1, hz2, hz3⟩ := ipStepL_3
             refine T.step (W1.append (E := eInt) (l := n7.tids) (m := n8.tids) 6 _ _ 8 ti _ (by rfl) (by kernel_rfl) rfl (by kernel_rfl) hti hz1 hz2 hz3 rfl (by decide) rfl rfl (fun w' hh => (SlOk.srcF (hh.lent (i := 16) (by rfl) hb30 hx6).2.2.2 (fun _ _ _ _ h => h))) hb36_r hb36_m (fun A58 c59 => ?_))
             refine T.pk (pB b26 4) (fun _ => by kernel_rfl) ?_
             let v331_ : List Value := [vi n7.kind, .slice A52 ((n7.elems ++ n8.elems).length) c53, .slice A57 ((n7.kids ++ n8.kids).length) c58, .slice A53 z37.length c54, .slice A58 ((n7.tids ++ n8.tids).length) c59]
             let i112_ : HObj := box b26 97 v331_
             let i113_ : HObj := row 3 eInt A58 c59 (n7.tids ++ n8.tids)
             refine T.step (W1.st 2 v331_ (i107_ :: i109_ :: i112_ :: i110_ :: i111_ :: (row 43 eSpot A53 c54 z37) :: i113_ :: t103_) [.slice A58 ((n7.tids ++ n8.tids).length) c59] (by rfl) rfl rfl rfl rfl rfl rfl (fun _ => by kernel_rfl) ?_)
             refine T.nil (T.seq (T.region (T.look (.agg #[vi n7.kind, .slice A52 ((n7.elems ++ n8.elems).length) c53, .slice A57 ((n7.kids ++ n8.kids).length) c58, .slice A53 z37.length c54, .slice A58 ((n7.tids ++ n8.tids).length) c59]) (by kernel_rfl) (ldN 2 rfl rfl (fun _ => by kernel_rfl) (by rfl) rfl) ?_)))
             refine T.step (W1.st 0 v331_ ((box b29 97 v331_) :: i109_ :: i112_ :: i110_ :: i111_ :: (row 43 eSpot A53 c54 z37) :: i113_ :: t103_) v331_ (by rfl) rfl rfl rfl rfl rfl rfl (fun _ => by kernel_rfl) ?_)
             refine T.nil ?_
             cases hX15
             refine T.ret rfl ?_
             exact T.ret1 rfl (ResIs.cellN 0 rfl (by rfl) (fun _ => by kernel_rfl) (fun _ => by kernel_rfl)) fun w' hh => ⟨_, rfl, ⟨A52, c53, A57, c58, A53, c54, A58, c59, rfl, (hh.sub (dr3 (kp14 (kp1 kpr))))⟩⟩
            rintro v w' ⟨A48, c49, A49, c50, A50, c51, A51, c52, rfl, hh⟩
            let i114_ : HObj := row 28 eElem A48 c49 (n7.elems ++ n8.elems)
            let i115_ : HObj := row 3 eInt A49 c50 (n7.kids ++ n8.kids)
            let i116_ : HObj := row 3 eInt A51 c52 (n7.tids ++ n8.tids)
            refine ⟨V25, (i114_ :: i115_ :: (row 43 eSpot A50 c51 z36) :: i116_ :: t103_), hh, ?_⟩
            clear hh
            refine TA.on (Hp.old vr w431_ (dr4 (kp5 (dr2 (kp2 (dr1 (dr1 kp0)))))) (oB3 (oR2 (oB1 (oR1 ol0))))) ?_
            refine TA.all [24] (by kernel_rfl) rfl ⟨?_, trivial⟩
            refine TA.br rfl (W1.np 97 v317_ (fun _ => by kernel_rfl) (fun b31 => ?_))
            refine TA.on (Hp.old vr w431_ (dr5 (kp5 (dr2 (kp2 (dr1 (dr1 kp0)))))) (oB3 (oR2 (oB1 (oR1 ol0))))) ?_
            refine TA.all [25] (by kernel_rfl) rfl ⟨?_, trivial⟩
            let v332_ : List Value := [vi n7.kind, .slice A48 ((n7.elems ++ n8.elems).length) c49, .slice A49 ((n7.kids ++ n8.kids).length) c50, .slice A50 z36.length c51, .slice A51 ((n7.tids ++ n8.tids).length) c52]
            refine TA.br rfl (W1.st 0 v332_ ((box b31 97 v332_) :: i114_ :: i115_ :: (row 43 eSpot A50 c51 z36) :: i116_ :: t103_) v332_ (by rfl) rfl rfl rfl rfl rfl rfl (fun _ => by kernel_rfl) ?_)
            refine TA.on (Hp.old vr w431_ (dr5 (kp5 (dr2 (kp2 (dr1 (dr1 kp0)))))) (oB3 (oR2 (oB1 (oR1 ol0))))) ?_
            refine TA.done (by kernel_rfl) ?_
            exact fun a w' hf hh => ⟨b31, A48, c49, A49, c50, A50, c51, A51, c52, (Fr.sel hf rfl), (hh.sub (kp15 (kp1 kpr)))⟩
           refine TA.br rfl (W1.np 97 v317_ (fun _ => by kernel_rfl) (fun b31 => ?_))
           refine TA.on (Hp.old vr w431_ (dr5 (kp5 (dr2 (kp2 (dr1 (dr1 kp0)))))) (oB3 (oR2 (oB1 (oR1 ol0))))) ?_
           refine TA.all [23] (by kernel_rfl) rfl ⟨?_, trivial⟩
           let i117_ : HObj := box b31 97 v317_
           refine TA.br rfl (W1.within 101 [a402_, a403_, a404_] (fun v w' => ∃ (A48 : Option Addr) (c49 : Nat) (A49 : Option Addr) (c50 : Nat) (A50 : Option Addr) (c51 : Nat) (A51 : Option Addr) (c52 : Nat), v = .agg #[vi n7.kind, .slice A48 ((n7.elems ++ n8.elems).length) c49, .slice A49 ((n7.kids ++ n8.kids).length) c50, .slice A50 z36.length c51, .slice A51 ((n7.tids ++ n8.tids).length) c52] ∧ Hp w V25 (i117_ :: (row 28 eElem A48 c49 (n7.elems ++ n8.elems)) :: (row 3 eInt A49 c50 (n7.kids ++ n8.kids)) :: (row 43 eSpot A50 c51 z36) :: (row 3 eInt A51 c52 (n7.tids ++ n8.tids)) :: t103_) w') Try.func101 rfl rfl (by kernel_rfl) (fun _ => by kernel_rfl) rfl ?_ ?_)
           ·
            refine T.seq (T.region (T.step (W1.np 97 v324_ (fun _ => by kernel_rfl) (fun b26 => ?_))))
            refine T.step (W1.np 97 v325_ (fun _ => by kernel_rfl) (fun b27 => ?_))
            refine T.step (W1.np 43 v326_ (fun _ => by kernel_rfl) (fun b28 => ?_))
            refine T.step (W1.np 97 v317_ (fun _ => by kernel_rfl) (fun b29 => ?_))
            refine T.nil (T.seq (T.region (T.pk (pB b26 1) (fun _ => by kernel_rfl) (T.look (.slice A40 n7.elems.length c41) (by kernel_rfl) (ld1 3 rfl rfl (fun _ => by kernel_rfl) (by rfl) rfl) ?_))))
            refine T.pk (pB b27 1) (fun _ => by kernel_rfl) (T.look (.slice A44 n8.elems.length c45) (by kernel_rfl) (ld1 2 rfl rfl (fun _ => by kernel_rfl) (by rfl) rfl) ?_)
            obtain ⟨y7, hb32, hX15⟩ := ob hX15
            obtain ⟨hb32_r, hb32_m, rfl⟩ := grow_some hb32
            obtain ⟨ti, hti, hz1, hz2, hz3⟩ := ipStepL_2
            refine T.step (W1.append (E := eElem) (l := n7.elems) (m := n8.elems) 5 _ _ 56 ti _ (by rfl) (by kernel_rfl) rfl (by kernel_rfl) hti hz1 hz2 hz3 rfl (by decide) rfl rfl (fun w' hh => (SlOk.srcF (hh.lent (i := 18) (by rfl) hb30 hx6).1 (fun _ _ _ _ h => h))) hb32_r hb32_m (fun A52 c53 => ?_))
            refine T.pk (pB b26 1) (fun _ => by kernel_rfl) ?_
            let i118_ : HObj := box b29 97 v317_
            let i119_ : HObj := box b28 43 v326_
            let i120_ : HObj := box b27 97 v325_
            let i121_ : HObj := row 28 eElem A52 c53 (n7.elems ++ n8.elems)
            let v333_ : List Value := [vi n7.kind, .slice A52 ((n7.elems ++ n8.elems).length) c53, .slice A41 n7.kids.length c42, .slice A42 n7.seps.length c43, .slice A43 n7.tids.length c44]
            refine T.step (W1.st 3 v333_ (i118_ :: i119_ :: i120_ :: (box b26 97 v333_) :: i117_ :: i121_ :: t106_) [.slice A52 ((n7.elems ++ n8.elems).length) c53] (by rfl) rfl rfl rfl rfl rfl rfl (fun _ => by kernel_rfl) ?_)
            refine T.nil ?_
            obtain ⟨z37, hX16, hX15⟩ := ob hX15
            refine T.cut (fun a w' => ∃ (A53 : Option Addr) (c54 : Nat), Fr 38 [(3, pB b26 0), (4, pB b27 0), (6, pB b29 0)] a ∧ Hp w V25 (i118_ :: i120_ :: (box b26 97 [vi n7.kind, .slice A52 ((n7.elems ++ n8.elems).length) c53, .slice A41 n7.kids.length c42, .slice A53 z37.length c54, .slice A43 n7.tids.length c44]) :: i117_ :: i121_ :: (row 3 eInt A41 c42 n7.kids) :: (row 43 eSpot A53 c54 z37) :: t104_) w') ?_ ?_
            ·
             refine T.seq (T.region (T.pk (pB b26 0) (fun _ => by kernel_rfl) (T.look (vi n7.kind) (by kernel_rfl) (ld1 3 rfl rfl (fun _ => by kernel_rfl) (by rfl) rfl) ?_)))
             refine T.pk (.bool (n7.kind == 2)) (fun _ => by kernel_rfl) (T.nil ?_)
             refine T.cond (n7.kind == 2) (by kernel_rfl) (by kernel_rfl) (fun hc18 => ?_) (fun hc18 => ?_)
             ·
              rw [hc18, cond_true] at hX16
              obtain ⟨y20, hb45, hX16⟩ := ob hX16
              obtain ⟨y21, hb46, hX16⟩ := ob hX16
              refine T.mid (fun a w' => ∃ (A56 : Option Addr) (c57 : Nat), Fr 38 [(3, pB b26 0), (4, pB b27 0), (6, pB b29 0)] a ∧ Hp w V25 (i118_ :: i120_ :: (box b26 97 [vi n7.kind, .slice A52 ((n7.elems ++ n8.elems).length) c53, .slice A41 n7.kids.length c42, .slice A56 (((n7.seps ++ [e14]) ++ n8.seps).length) c57, .slice A43 n7.tids.length c44]) :: i117_ :: i121_ :: (row 3 eInt A41 c42 n7.kids) :: (row 43 eSpot A56 c57 ((n7.seps ++ [e14]) ++ n8.seps)) :: t104_) w') ?_ ?_
              ·
               refine T.held (i118_ :: i119_ :: i120_ :: i117_ :: i121_ :: (row 3 eInt A41 c42 n7.kids) :: i91_ :: i92_ :: i89_ :: i60_ :: (row 3 eInt A23 c23 n1.kids) :: (row 43 eSpot A24 c24 n1.seps) :: i90_ :: t87_) (by kernel_rfl) ?_
               refine TA.keep (Hp.old vr w431_ (kp3 (dr1 (kp3 (dr2 (kp9 (dr1 (dr1 kp0))))))) (oB4 (oR2 (oB3 (oR4 (oB1 (oR1 ol0))))))) fun o453_ => ?_
               refine TA.tp 0 (pB b26 3) rfl (fun _ => by kernel_rfl) (fun _ _ _ h => h) o453_ ?_
               refine TA.tk 2 a404_ rfl (by kernel_rfl) (fun _ _ _ h => h) o453_ (ldN 1 rfl rfl (fun _ => by kernel_rfl) (by rfl) rfl) ?_
               refine TA.tp 5 (pB b27 3) rfl (fun _ => by kernel_rfl) (fun _ _ _ h => h) o453_ ?_
               refine TA.tk 6 (.slice A46 n8.seps.length c47) rfl (by kernel_rfl) (fun _ _ _ h => h) o453_ (ld1 2 rfl rfl (fun _ => by kernel_rfl) (by rfl) rfl) ?_
               refine TA.all [1, 3] (by kernel_rfl) rfl ⟨?_, ?_, trivial⟩
               ·
                refine TA.br rfl (W1.look (.slice A42 n7.seps.length c43) (by kernel_rfl) (ld1 3 rfl rfl (fun _ => by kernel_rfl) (by rfl) rfl) ?_)
                refine TA.on (Hp.old vr w431_ (kp3 (dr1 (kp3 (dr2 (kp9 (dr1 (dr1 kp0))))))) (oB4 (oR2 (oB3 (oR4 (oB1 (oR1 ol0))))))) ?_
                refine TA.all [3] (by kernel_rfl) rfl ⟨?_, trivial⟩
                refine TA.br rfl (W1.ns 43 v326_ (fun _ => by kernel_rfl) (fun b36 => ?_))
                refine TA.on (Hp.old vr w431_ (dr1 (kp3 (dr1 (kp3 (dr2 (kp9 (dr1 (dr1 kp0)))))))) (oB4 (oR2 (oB3 (oR4 (oB1 (oR1 ol0))))))) ?_
                refine TA.all [4] (by kernel_rfl) rfl ⟨?_, trivial⟩
                obtain ⟨hb45_r, hb45_m, rfl⟩ := grow_some hb45
                obtain ⟨ti, hti, hz1, hz2, hz3⟩ := ipStepL_1
                refine TA.br rfl (W1.append (E := eSpot) (l := n7.seps) (m := [e14]) 8 _ _ 32 ti _ (by rfl) (by kernel_rfl) rfl (by kernel_rfl) hti hz1 hz2 hz3 rfl (by decide) rfl rfl (fun w' hh => (SlOk.srcF (slok_lit (E := eSpot) (f := DSpot.cells) [e14] (fun _ _ => rfl) (Nat.le_of_ble_eq_true (by rfl)) (fun j => hh.cellBox (i := 0) (by rfl) j)) (fun _ _ _ _ h => h))) hb45_r hb45_m (fun A71 c72 => ?_))
                refine TA.on (Hp.old vr w431_ (dr1 (kp3 (dr1 (kp3 (dr2 (kp9 (dr1 (dr1 kp0)))))))) (oB4 (oR2 (oB3 (oR4 (oB1 (oR1 ol0))))))) ?_
                refine TA.all [7] (by kernel_rfl) rfl ⟨?_, trivial⟩
                obtain ⟨hb46_r, hb46_m, rfl⟩ := grow_some hb46
                obtain ⟨ti, hti, hz1, hz2, hz3⟩ := ipStepL_1
                refine TA.br rfl (W1.append (E := eSpot) (l := (n7.seps ++ [e14])) (m := n8.seps) 8 _ _ 32 ti _ (by rfl) (by kernel_rfl) rfl (by kernel_rfl) hti hz1 hz2 hz3 rfl (by decide) rfl rfl (fun w' hh => (SlOk.srcF (hh.lent (i := 19) (by rfl) hb30 hx6).2.2.1 (fun _ _ _ _ h => h))) hb46_r hb46_m (fun A72 c73 => ?_))
                refine TA.onk (Hp.old vr w431_ (dr1 (kp3 (dr1 (kp3 (dr2 (kp9 (dr1 (dr1 kp0)))))))) (oB4 (oR2 (oB3 (oR4 (oB1 (oR1 ol0))))))) fun o454_ => ?_
                refine TA.tp 8 (pB b26 3) rfl (fun _ => by kernel_rfl) (fun _ _ _ h => h) o454_ ?_
                refine TA.all [9] (by kernel_rfl) rfl ⟨?_, trivial⟩
                let v334_ : List Value := [vi n7.kind, .slice A52 ((n7.elems ++ n8.elems).length) c53, .slice A41 n7.kids.length c42, .slice A72 (((n7.seps ++ [e14]) ++ n8.seps).length) c73, .slice A43 n7.tids.length c44]
                refine TA.br rfl (W1.st 4 v334_ ((box b36 43 v326_) :: i118_ :: i119_ :: i120_ :: (box b26 97 v334_) :: i117_ :: i121_ :: (row 3 eInt A41 c42 n7.kids) :: (row 43 eSpot A72 c73 ((n7.seps ++ [e14]) ++ n8.seps)) :: t104_) [.slice A72 (((n7.seps ++ [e14]) ++ n8.seps).length) c73] (by rfl) rfl rfl rfl rfl rfl rfl (fun _ => by kernel_rfl) ?_)
                refine TA.on (Hp.old vr w431_ (dr1 (kp3 (dr1 (kp3 (dr2 (kp9 (dr1 (dr1 kp0)))))))) (oB4 (oR2 (oB3 (oR4 (oB1 (oR1 ol0))))))) ?_
                refine TA.done (by kernel_rfl) ?_
                exact fun a w' hf hh => ⟨A72, c73, (Fr.sel hf rfl), (hh.sub (dr1 (kp1 (dr1 (kp17 (kp1 kpr))))))⟩
               refine TA.br rfl (W1.ns 43 v326_ (fun _ => by kernel_rfl) (fun b36 => ?_))
               refine TA.on (Hp.old vr w431_ (dr1 (kp3 (dr1 (kp3 (dr2 (kp9 (dr1 (dr1 kp0)))))))) (oB4 (oR2 (oB3 (oR4 (oB1 (oR1 ol0))))))) ?_
               refine TA.all [1] (by kernel_rfl) rfl ⟨?_, trivial⟩
               refine TA.br rfl (W1.look (.slice A42 n7.seps.length c43) (by kernel_rfl) (ld1 4 rfl rfl (fun _ => by kernel_rfl) (by rfl) rfl) ?_)
               refine TA.on (Hp.old vr w431_ (dr1 (kp3 (dr1 (kp3 (dr2 (kp9 (dr1 (dr1 kp0)))))))) (oB4 (oR2 (oB3 (oR4 (oB1 (oR1 ol0))))))) ?_
               refine TA.all [4] (by kernel_rfl) rfl ⟨?_, trivial⟩
               obtain ⟨hb45_r, hb45_m, rfl⟩ := grow_some hb45
               obtain ⟨ti, hti, hz1, hz2, hz3⟩ := ipStepL_1
               refine TA.br rfl (W1.append (E := eSpot) (l := n7.seps) (m := [e14]) 8 _ _ 32 ti _ (by rfl) (by kernel_rfl) rfl (by kernel_rfl) hti hz1 hz2 hz3 rfl (by decide) rfl rfl (fun w' hh => (SlOk.srcF (slok_lit (E := eSpot) (f := DSpot.cells) [e14] (fun _ _ => rfl) (Nat.le_of_ble_eq_true (by rfl)) (fun j => hh.cellBox (i := 0) (by rfl) j)) (fun _ _ _ _ h => h))) hb45_r hb45_m (fun A71 c72 => ?_))
               refine TA.on (Hp.old vr w431_ (dr1 (kp3 (dr1 (kp3 (dr2 (kp9 (dr1 (dr1 kp0)))))))) (oB4 (oR2 (oB3 (oR4 (oB1 (oR1 ol0))))))) ?_
               refine TA.all [7] (by kernel_rfl) rfl ⟨?_, trivial⟩
               obtain ⟨hb46_r, hb46_m, rfl⟩ := grow_some hb46
               obtain ⟨ti, hti, hz1, hz2, hz3⟩ := ipStepL_1
               refine TA.br rfl (W1.append (E := eSpot) (l := (n7.seps ++ [e14])) (m := n8.seps) 8 _ _ 32 ti _ (by rfl) (by kernel_rfl) rfl (by kernel_rfl) hti hz1 hz2 hz3 rfl (by decide) rfl rfl (fun w' hh => (SlOk.srcF (hh.lent (i := 19) (by rfl) hb30 hx6).2.2.1 (fun _ _ _ _ h => h))) hb46_r hb46_m (fun A72 c73 => ?_))
               refine TA.onk (Hp.old vr w431_ (dr1 (kp3 (dr1 (kp3 (dr2 (kp9 (dr1 (dr1 kp0)))))))) (oB4 (oR2 (oB3 (oR4 (oB1 (oR1 ol0))))))) fun o455_ => ?_
               refine TA.tp 8 (pB b26 3) rfl (fun _ => by kernel_rfl) (fun _ _ _ h => h) o455_ ?_
               refine TA.all [9] (by kernel_rfl) rfl ⟨?_, trivial⟩
               let v335_ : List Value := [vi n7.kind, .slice A52 ((n7.elems ++ n8.elems).length) c53, .slice A41 n7.kids.length c42, .slice A72 (((n7.seps ++ [e14]) ++ n8.seps).length) c73, .slice A43 n7.tids.length c44]
               refine TA.br rfl (W1.st 4 v335_ ((box b36 43 v326_) :: i118_ :: i119_ :: i120_ :: (box b26 97 v335_) :: i117_ :: i121_ :: (row 3 eInt A41 c42 n7.kids) :: (row 43 eSpot A72 c73 ((n7.seps ++ [e14]) ++ n8.seps)) :: t104_) [.slice A72 (((n7.seps ++ [e14]) ++ n8.seps).length) c73] (by rfl) rfl rfl rfl rfl rfl rfl (fun _ => by kernel_rfl) ?_)
               refine TA.on (Hp.old vr w431_ (dr1 (kp3 (dr1 (kp3 (dr2 (kp9 (dr1 (dr1 kp0)))))))) (oB4 (oR2 (oB3 (oR4 (oB1 (oR1 ol0))))))) ?_
               refine TA.done (by kernel_rfl) ?_
               exact fun a w' hf hh => ⟨A72, c73, (Fr.sel hf rfl), (hh.sub (dr1 (kp1 (dr1 (kp17 (kp1 kpr))))))⟩
              rintro a w' ⟨A56, c57, hf, hh⟩
              refine (?_ : T 38 w V25 (i118_ :: i120_ :: (box b26 97 [vi n7.kind, .slice A52 ((n7.elems ++ n8.elems).length) c53, .slice A41 n7.kids.length c42, .slice A56 (((n7.seps ++ [e14]) ++ n8.seps).length) c57, .slice A43 n7.tids.length c44]) :: i117_ :: i121_ :: (row 3 eInt A41 c42 n7.kids) :: (row 43 eSpot A56 c57 ((n7.seps ++ [e14]) ++ n8.seps)) :: t104_) [(3, pB b26 0), (4, pB b27 0), (6, pB b29 0)] _) a w' hf hh
              clear hf hh
              cases hX16
              exact fun a w' hf hh => ⟨A56, c57, (Fr.sel hf rfl), (hh.sub (kp18 (kp1 kpr)))⟩
             rw [hc18, cond_false] at hX16
             refine T.skip_code ?_
             cases hX16
             exact fun a w' hf hh => ⟨A42, c43, (Fr.sel hf rfl), (hh.sub (kp1 (dr1 (kp17 (kp1 kpr)))))⟩
            rintro a w' ⟨A53, c54, hf, hh⟩
            refine (?_ : T 38 w V25 (i118_ :: i120_ :: (box b26 97 [vi n7.kind, .slice A52 ((n7.elems ++ n8.elems).length) c53, .slice A41 n7.kids.length c42, .slice A53 z37.length c54, .slice A43 n7.tids.length c44]) :: i117_ :: i121_ :: (row 3 eInt A41 c42 n7.kids) :: (row 43 eSpot A53 c54 z37) :: t104_) [(3, pB b26 0), (4, pB b27 0), (6, pB b29 0)] _) a w' hf hh
            clear hf hh
            refine T.seq (T.region (T.pk (pB b26 2) (fun _ => by kernel_rfl) (T.look (.slice A41 n7.kids.length c42) (by kernel_rfl) (ld1 2 rfl rfl (fun _ => by kernel_rfl) (by rfl) rfl) ?_)))
            refine T.pk (pB b27 2) (fun _ => by kernel_rfl) (T.look (.slice A45 n8.kids.length c46) (by kernel_rfl) (ld1 1 rfl rfl (fun _ => by kernel_rfl) (by rfl) rfl) ?_)
            obtain ⟨y10, hb35, hX15⟩ := ob hX15
            obtain ⟨hb35_r, hb35_m, rfl⟩ := grow_some hb35
            obtain ⟨ti, hti, hz1, hz2, hz3⟩ := ipStepL_3
            refine T.step (W1.append (E := eInt) (l := n7.kids) (m := n8.kids) 5 _ _ 8 ti _ (by rfl) (by kernel_rfl) rfl (by kernel_rfl) hti hz1 hz2 hz3 rfl (by decide) rfl rfl (fun w' hh => (SlOk.srcF (hh.lent (i := 17) (by rfl) hb30 hx6).2.1 (fun _ _ _ _ h => h))) hb35_r hb35_m (fun A57 c58 => ?_))
            refine T.pk (pB b26 2) (fun _ => by kernel_rfl) ?_
            let i122_ : HObj := row 3 eInt A57 c58 (n7.kids ++ n8.kids)
            let v336_ : List Value := [vi n7.kind, .slice A52 ((n7.elems ++ n8.elems).length) c53, .slice A57 ((n7.kids ++ n8.kids).length) c58, .slice A53 z37.length c54, .slice A43 n7.tids.length c44]
            refine T.step (W1.st 2 v336_ (i118_ :: i120_ :: (box b26 97 v336_) :: i117_ :: i121_ :: i122_ :: (row 43 eSpot A53 c54 z37) :: t104_) [.slice A57 ((n7.kids ++ n8.kids).length) c58] (by rfl) rfl rfl rfl rfl rfl rfl (fun _ => by kernel_rfl) ?_)
            refine T.nil (T.seq (T.region (T.pk (pB b26 4) (fun _ => by kernel_rfl) (T.look (.slice A43 n7.tids.length c44) (by kernel_rfl) (ld1 2 rfl rfl (fun _ => by kernel_rfl) (by rfl) rfl) ?_))))
            refine T.pk (pB b27 4) (fun _ => by kernel_rfl) (T.look (.slice A47 n8.tids.length c48) (by kernel_rfl) (ld1 1 rfl rfl (fun _ => by kernel_rfl) (by rfl) rfl) ?_)
            obtain ⟨y11, hb36, hX15⟩ := ob hX15
            obtain ⟨hb36_r, hb36_m, rfl⟩ := grow_some hb36
            obtain ⟨ti, hti, hz1, hz2, hz3⟩ := ipStepL_3
            refine T.step (W1.append (E := eInt) (l := n7.tids) (m := n8.tids) 7 _ _ 8 ti _ (by rfl) (by kernel_rfl) rfl (by kernel_rfl) hti hz1 hz2 hz3 rfl (by decide) rfl rfl (fun w' hh => (SlOk.srcF (hh.lent (i := 17) (by rfl) hb30 hx6).2.2.2 (fun _ _ _ _ h => h))) hb36_r hb36_m (fun A58 c59 => ?_))
            refine T.pk (pB b26 4) (fun _ => by kernel_rfl) ?_
            let v337_ : List Value := [vi n7.kind, .slice A52 ((n7.elems ++ n8.elems).length) c53, .slice A57 ((n7.kids ++ n8.kids).length) c58, .slice A53 z37.length c54, .slice A58 ((n7.tids ++ n8.tids).length) c59]
            let i123_ : HObj := box b26 97 v337_
            let i124_ : HObj := row 3 eInt A58 c59 (n7.tids ++ n8.tids)
            refine T.step (W1.st 2 v337_ (i118_ :: i120_ :: i123_ :: i117_ :: i121_ :: i122_ :: (row 43 eSpot A53 c54 z37) :: i124_ :: t103_) [.slice A58 ((n7.tids ++ n8.tids).length) c59] (by rfl) rfl rfl rfl rfl rfl rfl (fun _ => by kernel_rfl) ?_)
            refine T.nil (T.seq (T.region (T.look (.agg #[vi n7.kind, .slice A52 ((n7.elems ++ n8.elems).length) c53, .slice A57 ((n7.kids ++ n8.kids).length) c58, .slice A53 z37.length c54, .slice A58 ((n7.tids ++ n8.tids).length) c59]) (by kernel_rfl) (ldN 2 rfl rfl (fun _ => by kernel_rfl) (by rfl) rfl) ?_)))
            refine T.step (W1.st 0 v337_ ((box b29 97 v337_) :: i120_ :: i123_ :: i117_ :: i121_ :: i122_ :: (row 43 eSpot A53 c54 z37) :: i124_ :: t103_) v337_ (by rfl) rfl rfl rfl rfl rfl rfl (fun _ => by kernel_rfl) ?_)
            refine T.nil ?_
            cases hX15
            refine T.ret rfl ?_
            exact T.ret1 rfl (ResIs.cellN 0 rfl (by rfl) (fun _ => by kernel_rfl) (fun _ => by kernel_rfl)) fun w' hh => ⟨_, rfl, ⟨A52, c53, A57, c58, A53, c54, A58, c59, rfl, (hh.sub (dr3 (kp15 (kp1 kpr))))⟩⟩
           rintro v w' ⟨A48, c49, A49, c50, A50, c51, A51, c52, rfl, hh⟩
           let i125_ : HObj := row 28 eElem A48 c49 (n7.elems ++ n8.elems)
           let i126_ : HObj := row 3 eInt A49 c50 (n7.kids ++ n8.kids)
           let i127_ : HObj := row 3 eInt A51 c52 (n7.tids ++ n8.tids)
           refine ⟨V25, (i117_ :: i125_ :: i126_ :: (row 43 eSpot A50 c51 z36) :: i127_ :: t103_), hh, ?_⟩
           clear hh
           refine TA.on (Hp.old vr w431_ (dr5 (kp5 (dr2 (kp2 (dr1 (dr1 kp0)))))) (oB3 (oR2 (oB1 (oR1 ol0))))) ?_
           refine TA.all [25] (by kernel_rfl) rfl ⟨?_, trivial⟩
           let v338_ : List Value := [vi n7.kind, .slice A48 ((n7.elems ++ n8.elems).length) c49, .slice A49 ((n7.kids ++ n8.kids).length) c50, .slice A50 z36.length c51, .slice A51 ((n7.tids ++ n8.tids).length) c52]
           refine TA.br rfl (W1.st 0 v338_ ((box b31 97 v338_) :: i125_ :: i126_ :: (row 43 eSpot A50 c51 z36) :: i127_ :: t103_) v338_ (by rfl) rfl rfl rfl rfl rfl rfl (fun _ => by kernel_rfl) ?_)
           refine TA.on (Hp.old vr w431_ (dr5 (kp5 (dr2 (kp2 (dr1 (dr1 kp0)))))) (oB3 (oR2 (oB1 (oR1 ol0))))) ?_
           refine TA.done (by kernel_rfl) ?_
           exact fun a w' hf hh => ⟨b31, A48, c49, A49, c50, A50, c51, A51, c52, (Fr.sel hf rfl), (hh.sub (kp15 (kp1 kpr)))⟩
          refine TA.br rfl (W1.np 97 v317_ (fun _ => by kernel_rfl) (fun b31 => ?_))
          refine TA.on (Hp.old vr w431_ (dr5 (kp5 (dr2 (kp2 (dr1 (dr1 kp0)))))) (oB3 (oR2 (oB1 (oR1 ol0))))) ?_
          refine TA.all [22] (by kernel_rfl) rfl ⟨?_, trivial⟩
          let v339_ : List Value := [vi e14.key.pfs, vi e14.key.obj, vi e14.key.off, vi e14.made]
          let a405_ : Value := .agg #[vi e14.key.pfs, vi e14.key.obj, vi e14.key.off, vi e14.made]
          refine TA.br rfl (W1.look a405_ (by kernel_rfl) (fun w' hh => exec_loadN (cs := v339_) rfl rfl (by kernel_rfl) (by kernel_rfl) (fun j u hj => (SlOk.wcellF (E := eSpot) (hh.row_slOk (i := 10) (by rfl)) hi49 j (fun _ _ _ h => h) hj))) ?_)
          refine TA.on (Hp.old vr w431_ (dr5 (kp5 (dr2 (kp2 (dr1 (dr1 kp0)))))) (oB3 (oR2 (oB1 (oR1 ol0))))) ?_
          refine TA.all [23] (by kernel_rfl) rfl ⟨?_, trivial⟩
          let i128_ : HObj := box b31 97 v317_
          refine TA.br rfl (W1.within 101 [a402_, a403_, a405_] (fun v w' => ∃ (A48 : Option Addr) (c49 : Nat) (A49 : Option Addr) (c50 : Nat) (A50 : Option Addr) (c51 : Nat) (A51 : Option Addr) (c52 : Nat), v = .agg #[vi n7.kind, .slice A48 ((n7.elems ++ n8.elems).length) c49, .slice A49 ((n7.kids ++ n8.kids).length) c50, .slice A50 z36.length c51, .slice A51 ((n7.tids ++ n8.tids).length) c52] ∧ Hp w V25 (i128_ :: (row 28 eElem A48 c49 (n7.elems ++ n8.elems)) :: (row 3 eInt A49 c50 (n7.kids ++ n8.kids)) :: (row 43 eSpot A50 c51 z36) :: (row 3 eInt A51 c52 (n7.tids ++ n8.tids)) :: t103_) w') Try.func101 rfl rfl (by kernel_rfl) (fun _ => by kernel_rfl) rfl ?_ ?_)
          ·
           refine T.seq (T.region (T.step (W1.np 97 v324_ (fun _ => by kernel_rfl) (fun b26 => ?_))))
           refine T.step (W1.np 97 v325_ (fun _ => by kernel_rfl) (fun b27 => ?_))
           refine T.step (W1.np 43 v339_ (fun _ => by kernel_rfl) (fun b28 => ?_))
           refine T.step (W1.np 97 v317_ (fun _ => by kernel_rfl) (fun b29 => ?_))
           refine T.nil (T.seq (T.region (T.pk (pB b26 1) (fun _ => by kernel_rfl) (T.look (.slice A40 n7.elems.length c41) (by kernel_rfl) (ld1 3 rfl rfl (fun _ => by kernel_rfl) (by rfl) rfl) ?_))))
           refine T.pk (pB b27 1) (fun _ => by kernel_rfl) (T.look (.slice A44 n8.elems.length c45) (by kernel_rfl) (ld1 2 rfl rfl (fun _ => by kernel_rfl) (by rfl) rfl) ?_)
           obtain ⟨y7, hb32, hX15⟩ := ob hX15
           obtain ⟨hb32_r, hb32_m, rfl⟩ := grow_some hb32
           obtain ⟨ti, hti, hz1, hz2, hz3⟩ := ipStepL_2
           refine T.step (W1.append (E := eElem) (l := n7.elems) (m := n8.elems) 5 _ _ 56 ti _ (by rfl) (by kernel_rfl) rfl (by kernel_rfl) hti hz1 hz2 hz3 rfl (by decide) rfl rfl (fun w' hh => (SlOk.srcF (hh.lent (i := 18) (by rfl) hb30 hx6).1 (fun _ _ _ _ h => h))) hb32_r hb32_m (fun A52 c53 => ?_))
           refine T.pk (pB b26 1) (fun _ => by kernel_rfl) ?_
           let i129_ : HObj := box b29 97 v317_
           let i130_ : HObj := box b28 43 v339_
           let i131_ : HObj := box b27 97 v325_
           let i132_ : HObj := row 28 eElem A52 c53 (n7.elems ++ n8.elems)
           let v340_ : List Value := [vi n7.kind, .slice A52 ((n7.elems ++ n8.elems).length) c53, .slice A41 n7.kids.length c42, .slice A42 n7.seps.length c43, .slice A43 n7.tids.length c44]
           refine T.step (W1.st 3 v340_ (i129_ :: i130_ :: i131_ :: (box b26 97 v340_) :: i128_ :: i132_ :: t106_) [.slice A52 ((n7.elems ++ n8.elems).length) c53] (by rfl) rfl rfl rfl rfl rfl rfl (fun _ => by kernel_rfl) ?_)
           refine T.nil ?_
           obtain ⟨z37, hX16, hX15⟩ := ob hX15
           refine T.cut (fun a w' => ∃ (A53 : Option Addr) (c54 : Nat), Fr 38 [(3, pB b26 0), (4, pB b27 0), (6, pB b29 0)] a ∧ Hp w V25 (i129_ :: i131_ :: (box b26 97 [vi n7.kind, .slice A52 ((n7.elems ++ n8.elems).length) c53, .slice A41 n7.kids.length c42, .slice A53 z37.length c54, .slice A43 n7.tids.length c44]) :: i128_ :: i132_ :: (row 3 eInt A41 c42 n7.kids) :: (row 43 eSpot A53 c54 z37) :: t104_) w') ?_ ?_
           ·
            refine T.seq (T.region (T.pk (pB b26 0) (fun _ => by kernel_rfl) (T.look (vi n7.kind) (by kernel_rfl) (ld1 3 rfl rfl (fun _ => by kernel_rfl) (by rfl) rfl) ?_)))
            refine T.pk (.bool (n7.kind == 2)) (fun _ => by kernel_rfl) (T.nil ?_)
            refine T.cond (n7.kind == 2) (by kernel_rfl) (by kernel_rfl) (fun hc18 => ?_) (fun hc18 => ?_)
            ·
             rw [hc18, cond_true] at hX16
             obtain ⟨y22, hb47, hX16⟩ := ob hX16
             obtain ⟨y23, hb48, hX16⟩ := ob hX16
             refine T.mid (fun a w' => ∃ (A56 : Option Addr) (c57 : Nat), Fr 38 [(3, pB b26 0), (4, pB b27 0), (6, pB b29 0)] a ∧ Hp w V25 (i129_ :: i131_ :: (box b26 97 [vi n7.kind, .slice A52 ((n7.elems ++ n8.elems).length) c53, .slice A41 n7.kids.length c42, .slice A56 (((n7.seps ++ [e14]) ++ n8.seps).length) c57, .slice A43 n7.tids.length c44]) :: i128_ :: i132_ :: (row 3 eInt A41 c42 n7.kids) :: (row 43 eSpot A56 c57 ((n7.seps ++ [e14]) ++ n8.seps)) :: t104_) w') ?_ ?_
             ·
              refine T.held (i129_ :: i130_ :: i131_ :: i128_ :: i132_ :: (row 3 eInt A41 c42 n7.kids) :: i91_ :: i92_ :: i89_ :: i60_ :: (row 3 eInt A23 c23 n1.kids) :: (row 43 eSpot A24 c24 n1.seps) :: i90_ :: t87_) (by kernel_rfl) ?_
              refine TA.keep (Hp.old vr w431_ (kp3 (dr1 (kp3 (dr2 (kp9 (dr1 (dr1 kp0))))))) (oB4 (oR2 (oB3 (oR4 (oB1 (oR1 ol0))))))) fun o456_ => ?_
              refine TA.tp 0 (pB b26 3) rfl (fun _ => by kernel_rfl) (fun _ _ _ h => h) o456_ ?_
              refine TA.tk 2 a405_ rfl (by kernel_rfl) (fun _ _ _ h => h) o456_ (ldN 1 rfl rfl (fun _ => by kernel_rfl) (by rfl) rfl) ?_
              refine TA.tp 5 (pB b27 3) rfl (fun _ => by kernel_rfl) (fun _ _ _ h => h) o456_ ?_
              refine TA.tk 6 (.slice A46 n8.seps.length c47) rfl (by kernel_rfl) (fun _ _ _ h => h) o456_ (ld1 2 rfl rfl (fun _ => by kernel_rfl) (by rfl) rfl) ?_
              refine TA.all [1, 3] (by kernel_rfl) rfl ⟨?_, ?_, trivial⟩
              ·
               refine TA.br rfl (W1.look (.slice A42 n7.seps.length c43) (by kernel_rfl) (ld1 3 rfl rfl (fun _ => by kernel_rfl) (by rfl) rfl) ?_)
               refine TA.on (Hp.old vr w431_ (kp3 (dr1 (kp3 (dr2 (kp9 (dr1 (dr1 kp0))))))) (oB4 (oR2 (oB3 (oR4 (oB1 (oR1 ol0))))))) ?_
               refine TA.all [3] (by kernel_rfl) rfl ⟨?_, trivial⟩
               refine TA.br rfl (W1.ns 43 v339_ (fun _ => by kernel_rfl) (fun b37 => ?_))
               refine TA.on (Hp.old vr w431_ (dr1 (kp3 (dr1 (kp3 (dr2 (kp9 (dr1 (dr1 kp0)))))))) (oB4 (oR2 (oB3 (oR4 (oB1 (oR1 ol0))))))) ?_
               refine TA.all [4] (by kernel_rfl) rfl ⟨?_, trivial⟩
               obtain ⟨hb47_r, hb47_m, rfl⟩ := grow_some hb47
               obtain ⟨ti, hti, hz1, hz2, hz3⟩ := ipStepL_1
               refine TA.br rfl (W1.append (E := eSpot) (l := n7.seps) (m := [e14]) 8 _ _ 32 ti _ (by rfl) (by kernel_rfl) rfl (by kernel_rfl) hti hz1 hz2 hz3 rfl (by decide) rfl rfl (fun w' hh => (SlOk.srcF (slok_lit (E := eSpot) (f := DSpot.cells) [e14] (fun _ _ => rfl) (Nat.le_of_ble_eq_true (by rfl)) (fun j => hh.cellBox (i := 0) (by rfl) j)) (fun _ _ _ _ h => h))) hb47_r hb47_m (fun A73 c74 => ?_))
               refine TA.on (Hp.old vr w431_ (dr1 (kp3 (dr1 (kp3 (dr2 (kp9 (dr1 (dr1 kp0)))))))) (oB4 (oR2 (oB3 (oR4 (oB1 (oR1 ol0))))))) ?_
               refine TA.all [7] (by kernel_rfl) rfl ⟨?_, trivial⟩
               obtain ⟨hb48_r, hb48_m, rfl⟩ := grow_some hb48
               obtain ⟨ti, hti, hz1, hz2, hz3⟩ := ipStepL_1
               refine TA.br rfl (W1.append (E := eSpot) (l := (n7.seps ++ [e14])) (m := n8.seps) 8 _ _ 32 ti _ (by rfl) (by kernel_rfl) rfl (by kernel_rfl) hti hz1 hz2 hz3 rfl (by decide) rfl rfl (fun w' hh => (SlOk.srcF (hh.lent (i := 19) (by rfl) hb30 hx6).2.2.1 (fun _ _ _ _ h => h))) hb48_r hb48_m (fun A74 c75 => ?_))
               refine TA.onk (Hp.old vr w431_ (dr1 (kp3 (dr1 (kp3 (dr2 (kp9 (dr1 (dr1 kp0)))))))) (oB4 (oR2 (oB3 (oR4 (oB1 (oR1 ol0))))))) fun o457_ => ?_
               refine TA.tp 8 (pB b26 3) rfl (fun _ => by kernel_rfl) (fun _ _ _ h => h) o457_ ?_
               refine TA.all [9] (by kernel_rfl) rfl ⟨?_, trivial⟩
               let v341_ : List Value := [vi n7.kind, .slice A52 ((n7.elems ++ n8.elems).length) c53, .slice A41 n7.kids.length c42, .slice A74 (((n7.seps ++ [e14]) ++ n8.seps).length) c75, .slice A43 n7.tids.length c44]
               refine TA.br rfl (W1.st 4 v341_ ((box b37 43 v339_) :: i129_ :: i130_ :: i131_ :: (box b26 97 v341_) :: i128_ :: i132_ :: (row 3 eInt A41 c42 n7.kids) :: (row 43 eSpot A74 c75 ((n7.seps ++ [e14]) ++ n8.seps)) :: t104_) [.slice A74 (((n7.seps ++ [e14]) ++ n8.seps).length) c75] (by rfl) rfl rfl rfl rfl rfl rfl (fun _ => by kernel_rfl) ?_)
               refine TA.on (Hp.old vr w431_ (dr1 (kp3 (dr1 (kp3 (dr2 (kp9 (dr1 (dr1 kp0)))))))) (oB4 (oR2 (oB3 (oR4 (oB1 (oR1 ol0))))))) ?_
               refine TA.done (by kernel_rfl) ?_
               exact fun a w' hf hh => ⟨A74, c75, (Fr.sel hf rfl), (hh.sub (dr1 (kp1 (dr1 (kp17 (kp1 kpr))))))⟩
              refine TA.br rfl (W1.ns 43 v339_ (fun _ => by kernel_rfl) (fun b37 => ?_))
              refine TA.on (Hp.old vr w431_ (dr1 (kp3 (dr1 (kp3 (dr2 (kp9 (dr1 (dr1 kp0)))))))) (oB4 (oR2 (oB3 (oR4 (oB1 (oR1 ol0))))))) ?_
              refine TA.all [1] (by kernel_rfl) rfl ⟨?_, trivial⟩
              refine TA.br rfl (W1.look (.slice A42 n7.seps.length c43) (by kernel_rfl) (ld1 4 rfl rfl (fun _ => by kernel_rfl) (by rfl) rfl) ?_)
              refine TA.on (Hp.old vr w431_ (dr1 (kp3 (dr1 (kp3 (dr2 (kp9 (dr1 (dr1 kp0)))))))) (oB4 (oR2 (oB3 (oR4 (oB1 (oR1 ol0))))))) ?_
              refine TA.all [4] (by kernel_rfl) rfl ⟨?_, trivial⟩
              obtain ⟨hb47_r, hb47_m, rfl⟩ := grow_some hb47
              obtain ⟨ti, hti, hz1, hz2, hz3⟩ := ipStepL_1
              refine TA.br rfl (W1.append (E := eSpot) (l := n7.seps) (m := [e14]) 8 _ _ 32 ti _ (by rfl) (by kernel_rfl) rfl (by kernel_rfl) hti hz1 hz2 hz3 rfl (by decide) rfl rfl (fun w' hh => (SlOk.srcF (slok_lit (E := eSpot) (f := DSpot.cells) [e14] (fun _ _ => rfl) (Nat.le_of_ble_eq_true (by rfl)) (fun j => hh.cellBox (i := 0) (by rfl) j)) (fun _ _ _ _ h => h))) hb47_r hb47_m (fun A73 c74 => ?_))
              refine TA.on (Hp.old vr w431_ (dr1 (kp3 (dr1 (kp3 (dr2 (kp9 (dr1 (dr1 kp0)))))))) (oB4 (oR2 (oB3 (oR4 (oB1 (oR1 ol0))))))) ?_
              refine TA.all [7] (by kernel_rfl) rfl ⟨?_, trivial⟩
              obtain ⟨hb48_r, hb48_m, rfl⟩ := grow_some hb48
              obtain ⟨ti, hti, hz1, hz2, hz3⟩ := ipStepL_1
              refine TA.br rfl (W1.append (E := eSpot) (l := (n7.seps ++ [e14])) (m := n8.seps) 8 _ _ 32 ti _ (by rfl) (by kernel_rfl) rfl (by kernel_rfl) hti hz1 hz2 hz3 rfl (by decide) rfl rfl (fun w' hh => (SlOk.srcF (hh.lent (i := 19) (by rfl) hb30 hx6).2.2.1 (fun _ _ _ _ h => h))) hb48_r hb48_m (fun A74 c75 => ?_))
              refine TA.onk (Hp.old vr w431_ (dr1 (kp3 (dr1 (kp3 (dr2 (kp9 (dr1 (dr1 kp0)))))))) (oB4 (oR2 (oB3 (oR4 (oB1 (oR1 ol0))))))) fun o458_ => ?_
              refine TA.tp 8 (pB b26 3) rfl (fun _ => by kernel_rfl) (fun _ _ _ h => h) o458_ ?_
              refine TA.all [9] (by kernel_rfl) rfl ⟨?_, trivial⟩
              let v342_ : List Value := [vi n7.kind, .slice A52 ((n7.elems ++ n8.elems).length) c53, .slice A41 n7.kids.length c42, .slice A74 (((n7.seps ++ [e14]) ++ n8.seps).length) c75, .slice A43 n7.tids.length c44]
              refine TA.br rfl (W1.st 4 v342_ ((box b37 43 v339_) :: i129_ :: i130_ :: i131_ :: (box b26 97 v342_) :: i128_ :: i132_ :: (row 3 eInt A41 c42 n7.kids) :: (row 43 eSpot A74 c75 ((n7.seps ++ [e14]) ++ n8.seps)) :: t104_) [.slice A74 (((n7.seps ++ [e14]) ++ n8.seps).length) c75] (by rfl) rfl rfl rfl rfl rfl rfl (fun _ => by kernel_rfl) ?_)
              refine TA.on (Hp.old vr w431_ (dr1 (kp3 (dr1 (kp3 (dr2 (kp9 (dr1 (dr1 kp0)))))))) (oB4 (oR2 (oB3 (oR4 (oB1 (oR1 ol0))))))) ?_
              refine TA.done (by kernel_rfl) ?_
              exact fun a w' hf hh => ⟨A74, c75, (Fr.sel hf rfl), (hh.sub (dr1 (kp1 (dr1 (kp17 (kp1 kpr))))))⟩
             rintro a w' ⟨A56, c57, hf, hh⟩
             refine (?_ : T 38 w V25 (i129_ :: i131_ :: (box b26 97 [vi n7.kind, .slice A52 ((n7.elems ++ n8.elems).length) c53, .slice A41 n7.kids.length c42, .slice A56 (((n7.seps ++ [e14]) ++ n8.seps).length) c57, .slice A43 n7.tids.length c44]) :: i128_ :: i132_ :: (row 3 eInt A41 c42 n7.kids) :: (row 43 eSpot A56 c57 ((n7.seps ++ [e14]) ++ n8.seps)) :: t104_) [(3, pB b26 0), (4, pB b27 0), (6, pB b29 0)] _) a w' hf hh
             clear hf hh
             cases hX16
             exact fun a w' hf hh => ⟨A56, c57, (Fr.sel hf rfl), (hh.sub (kp18 (kp1 kpr)))⟩
            rw [hc18, cond_false] at hX16
            refine T.skip_code ?_
            cases hX16
            exact fun a w' hf hh => ⟨A42, c43, (Fr.sel hf rfl), (hh.sub (kp1 (dr1 (kp17 (kp1 kpr)))))⟩
           rintro a w' ⟨A53, c54, hf, hh⟩
           refine (?_ : T 38 w V25 (i129_ :: i131_ :: (box b26 97 [vi n7.kind, .slice A52 ((n7.elems ++ n8.elems).length) c53, .slice A41 n7.kids.length c42, .slice A53 z37.length c54, .slice A43 n7.tids.length c44]) :: i128_ :: i132_ :: (row 3 eInt A41 c42 n7.kids) :: (row 43 eSpot A53 c54 z37) :: t104_) [(3, pB b26 0), (4, pB b27 0), (6, pB b29 0)] _) a w' hf hh
           clear hf hh
           refine T.seq (T.region (T.pk (pB b26 2) (fun _ => by kernel_rfl) (T.look (.slice A41 n7.kids.length c42) (by kernel_rfl) (ld1 2 rfl rfl (fun _ => by kernel_rfl) (by rfl) rfl) ?_)))
           refine T.pk (pB b27 2) (fun _ => by kernel_rfl) (T.look (.slice A45 n8.kids.length c46) (by kernel_rfl) (ld1 1 rfl rfl (fun _ => by kernel_rfl) (by rfl) rfl) ?_)
           obtain ⟨y10, hb35, hX15⟩ := ob hX15
           obtain ⟨hb35_r, hb35_m, rfl⟩ := grow_some hb35
           obtain ⟨ti, hti, hz1, hz2, hz3⟩ := ipStepL_3
           refine T.step (W1.append (E := eInt) (l := n7.kids) (m := n8.kids) 5 _ _ 8 ti _ (by rfl) (by kernel_rfl) rfl (by kernel_rfl) hti hz1 hz2 hz3 rfl (by decide) rfl rfl (fun w' hh => (SlOk.srcF (hh.lent (i := 17) (by rfl) hb30 hx6).2.1 (fun _ _ _ _ h => h))) hb35_r hb35_m (fun A57 c58 => ?_))
           refine T.pk (pB b26 2) (fun _ => by kernel_rfl) ?_
           let i133_ : HObj := row 3 eInt A57 c58 (n7.kids ++ n8.kids)
           let v343_ : List Value := [vi n7.kind, .slice A52 ((n7.elems ++ n8.elems).length) c53, .slice A57 ((n7.kids ++ n8.kids).length) c58, .slice A53 z37.length c54, .slice A43 n7.tids.length c44]
           refine T.step (W1.st 2 v343_ (i129_ :: i131_ :: (box b26 97 v343_) :: i128_ :: i132_ :: i133_ :: (row 43 eSpot A53 c54 z37) :: t104_) [.slice A57 ((n7.kids ++ n8.kids).length) c58] (by rfl) rfl rfl rfl rfl rfl rfl (fun _ => by kernel_rfl) ?_)
           refine T.nil (T.seq (T.region (T.pk (pB b26 4) (fun _ => by kernel_rfl) (T.look (.slice A43 n7.tids.length c44) (by kernel_rfl) (ld1 2 rfl rfl (fun _ => by kernel_rfl) (by rfl) rfl) ?_))))
           refine T.pk (pB b27 4) (fun _ => by kernel_rfl) (T.look (.slice A47 n8.tids.length c48) (by kernel_rfl) (ld1 1 rfl rfl (fun _ => by kernel_rfl) (by rfl) rfl) ?_)
           obtain ⟨y11, hb36, hX15⟩ := ob hX15
           obtain ⟨hb36_r, hb36_m, rfl⟩ := grow_some hb36
           obtain ⟨ti, hti, hz1, hz2, hz3⟩ := ipStepL_3
           refine T.step (W1.append (E := eInt) (l := n7.tids) (m := n8.tids) 7 _ _ 8 ti _ (by rfl) (by kernel_rfl) rfl (by kernel_rfl) hti hz1 hz2 hz3 rfl (by decide) rfl rfl (fun w' hh => (SlOk.srcF (hh.lent (i := 17) (by rfl) hb30 hx6).2.2.2 (fun _ _ _ _ h => h))) hb36_r hb36_m (fun A58 c59 => ?_))
           refine T.pk (pB b26 4) (fun _ => by kernel_rfl) ?_
           let v344_ : List Value := [vi n7.kind, .slice A52 ((n7.elems ++ n8.elems).length) c53, .slice A57 ((n7.kids ++ n8.kids).length) c58, .slice A53 z37.length c54, .slice A58 ((n7.tids ++ n8.tids).length) c59]
           let i134_ : HObj := box b26 97 v344_
           let i135_ : HObj := row 3 eInt A58 c59 (n7.tids ++ n8.tids)
           refine T.step (W1.st 2 v344_ (i129_ :: i131_ :: i134_ :: i128_ :: i132_ :: i133_ :: (row 43 eSpot A53 c54 z37) :: i135_ :: t103_) [.slice A58 ((n7.tids ++ n8.tids).length) c59] (by rfl) rfl rfl rfl rfl rfl rfl (fun _ => by kernel_rfl) ?_)
           refine T.nil (T.seq (T.region (T.look (.agg #[vi n7.kind, .slice A52 ((n7.elems ++ n8.elems).length) c53, .slice A57 ((n7.kids ++ n8.kids).length) c58, .slice A53 z37.length c54, .slice A58 ((n7.tids ++ n8.tids).length) c59]) (by kernel_rfl) (ldN 2 rfl rfl (fun _ => by kernel_rfl) (by rfl) rfl) ?_)))
           refine T.step (W1.st 0 v344_ ((box b29 97 v344_) :: i131_ :: i134_ :: i128_ :: i132_ :: i133_ :: (row 43 eSpot A53 c54 z37) :: i135_ :: t103_) v344_ (by rfl) rfl rfl rfl rfl rfl rfl (fun _ => by kernel_rfl) ?_)
           refine T.nil ?_
           cases hX15
           refine T.ret rfl ?_
           exact T.ret1 rfl (ResIs.cellN 0 rfl (by rfl) (fun _ => by kernel_rfl) (fun _ => by kernel_rfl)) fun w' hh => ⟨_, rfl, ⟨A52, c53, A57, c58, A53, c54, A58, c59, rfl, (hh.sub (dr3 (kp15 (kp1 kpr))))⟩⟩
          rintro v w' ⟨A48, c49, A49, c50, A50, c51, A51, c52, rfl, hh⟩
          let i136_ : HObj := row 28 eElem A48 c49 (n7.elems ++ n8.elems)
          let i137_ : HObj := row 3 eInt A49 c50 (n7.kids ++ n8.kids)
          let i138_ : HObj := row 3 eInt A51 c52 (n7.tids ++ n8.tids)
          refine ⟨V25, (i128_ :: i136_ :: i137_ :: (row 43 eSpot A50 c51 z36) :: i138_ :: t103_), hh, ?_⟩
          clear hh
          refine TA.on (Hp.old vr w431_ (dr5 (kp5 (dr2 (kp2 (dr1 (dr1 kp0)))))) (oB3 (oR2 (oB1 (oR1 ol0))))) ?_
          refine TA.all [25] (by kernel_rfl) rfl ⟨?_, trivial⟩
          let v345_ : List Value := [vi n7.kind, .slice A48 ((n7.elems ++ n8.elems).length) c49, .slice A49 ((n7.kids ++ n8.kids).length) c50, .slice A50 z36.length c51, .slice A51 ((n7.tids ++ n8.tids).length) c52]
          refine TA.br rfl (W1.st 0 v345_ ((box b31 97 v345_) :: i136_ :: i137_ :: (row 43 eSpot A50 c51 z36) :: i138_ :: t103_) v345_ (by rfl) rfl rfl rfl rfl rfl rfl (fun _ => by kernel_rfl) ?_)
          refine TA.on (Hp.old vr w431_ (dr5 (kp5 (dr2 (kp2 (dr1 (dr1 kp0)))))) (oB3 (oR2 (oB1 (oR1 ol0))))) ?_
          refine TA.done (by kernel_rfl) ?_
          exact fun a w' hf hh => ⟨b31, A48, c49, A49, c50, A50, c51, A51, c52, (Fr.sel hf rfl), (hh.sub (kp15 (kp1 kpr)))⟩
         refine TA.br rfl (W1.np 97 v317_ (fun _ => by kernel_rfl) (fun b31 => ?_))
         refine TA.on (Hp.old vr w431_ (dr5 (kp5 (dr2 (kp2 (dr1 (dr1 kp0)))))) (oB3 (oR2 (oB1 (oR1 ol0))))) ?_
         refine TA.all [21] (by kernel_rfl) rfl ⟨?_, trivial⟩
         obtain ⟨hi47, hi48, hi49⟩ := idx_some hb31
         refine TA.br rfl (W1.look (.pointer (some ((sadr A24).add (z35.toNat * 4)))) (by kernel_rfl) (ixR 10 (e := 43) (s := 4) rfl rfl rfl (fun _ => by kernel_rfl) hi47 hi48 (by rfl) hi49 (by decide)) ?_)
         refine TA.on (Hp.old vr w431_ (dr5 (kp5 (dr2 (kp2 (dr1 (dr1 kp0)))))) (oB3 (oR2 (oB1 (oR1 ol0))))) ?_
         refine TA.all [22] (by kernel_rfl) rfl ⟨?_, trivial⟩
         let v346_ : List Value := [vi e14.key.pfs, vi e14.key.obj, vi e14.key.off, vi e14.made]
         let a406_ : Value := .agg #[vi e14.key.pfs, vi e14.key.obj, vi e14.key.off, vi e14.made]
         refine TA.br rfl (W1.look a406_ (by kernel_rfl) (fun w' hh => exec_loadN (cs := v346_) rfl rfl (by kernel_rfl) (by kernel_rfl) (fun j u hj => (SlOk.wcellF (E := eSpot) (hh.row_slOk (i := 10) (by rfl)) hi49 j (fun _ _ _ h => h) hj))) ?_)
         refine TA.on (Hp.old vr w431_ (dr5 (kp5 (dr2 (kp2 (dr1 (dr1 kp0)))))) (oB3 (oR2 (oB1 (oR1 ol0))))) ?_
         refine TA.all [23] (by kernel_rfl) rfl ⟨?_, trivial⟩
         let i139_ : HObj := box b31 97 v317_
         refine TA.br rfl (W1.within 101 [a402_, a403_, a406_] (fun v w' => ∃ (A48 : Option Addr) (c49 : Nat) (A49 : Option Addr) (c50 : Nat) (A50 : Option Addr) (c51 : Nat) (A51 : Option Addr) (c52 : Nat), v = .agg #[vi n7.kind, .slice A48 ((n7.elems ++ n8.elems).length) c49, .slice A49 ((n7.kids ++ n8.kids).length) c50, .slice A50 z36.length c51, .slice A51 ((n7.tids ++ n8.tids).length) c52] ∧ Hp w V25 (i139_ :: (row 28 eElem A48 c49 (n7.elems ++ n8.elems)) :: (row 3 eInt A49 c50 (n7.kids ++ n8.kids)) :: (row 43 eSpot A50 c51 z36) :: (row 3 eInt A51 c52 (n7.tids ++ n8.tids)) :: t103_) w') Try.func101 rfl rfl (by kernel_rfl) (fun _ => by kernel_rfl) rfl ?_ ?_)
         ·
          refine T.seq (T.region (T.step (W1.np 97 v324_ (fun _ => by kernel_rfl) (fun b26 => ?_))))
          refine T.step (W1.np 97 v325_ (fun _ => by kernel_rfl) (fun b27 => ?_))
          refine T.step (W1.np 43 v346_ (fun _ => by kernel_rfl) (fun b28 => ?_))
          refine T.step (W1.np 97 v317_ (fun _ => by kernel_rfl) (fun b29 => ?_))
          refine T.nil (T.seq (T.region (T.pk (pB b26 1) (fun _ => by kernel_rfl) (T.look (.slice A40 n7.elems.length c41) (by kernel_rfl) (ld1 3 rfl rfl (fun _ => by kernel_rfl) (by rfl) rfl) ?_))))
          refine T.pk (pB b27 1) (fun _ => by kernel_rfl) (T.look (.slice A44 n8.elems.length c45) (by kernel_rfl) (ld1 2 rfl rfl (fun _ => by kernel_rfl) (by rfl) rfl) ?_)
          obtain ⟨y7, hb32, hX15⟩ := ob hX15
          obtain ⟨hb32_r, hb32_m, rfl⟩ := grow_some hb32
          obtain ⟨ti, hti, hz1, hz2, hz3⟩ := ipStepL_2
          refine T.step (W1.append (E := eElem) (l := n7.elems) (m := n8.elems) 5 _ _ 56 ti _ (by rfl) (by kernel_rfl) rfl (by kernel_rfl) hti hz1 hz2 hz3 rfl (by decide) rfl rfl (fun w' hh => (SlOk.srcF (hh.lent (i := 18) (by rfl) hb30 hx6).1 (fun _ _ _ _ h => h))) hb32_r hb32_m (fun A52 c53 => ?_))
          refine T.pk (pB b26 1) (fun _ => by kernel_rfl) ?_
          let i140_ : HObj := box b29 97 v317_
          let i141_ : HObj := box b28 43 v346_
          let i142_ : HObj := box b27 97 v325_
          let i143_ : HObj := row 28 eElem A52 c53 (n7.elems ++ n8.elems)
          let v347_ : List Value := [vi n7.kind, .slice A52 ((n7.elems ++ n8.elems).length) c53, .slice A41 n7.kids.length c42, .slice A42 n7.seps.length c43, .slice A43 n7.tids.length c44]
          refine T.step (W1.st 3 v347_ (i140_ :: i141_ :: i142_ :: (box b26 97 v347_) :: i139_ :: i143_ :: t106_) [.slice A52 ((n7.elems ++ n8.elems).length) c53] (by rfl) rfl rfl rfl rfl rfl rfl (fun _ => by kernel_rfl) ?_)
          refine T.nil ?_
          obtain ⟨z37, hX16, hX15⟩ := ob hX15
          refine T.cut (fun a w' => ∃ (A53 : Option Addr) (c54 : Nat), Fr 38 [(3, pB b26 0), (4, pB b27 0), (6, pB b29 0)] a ∧ Hp w V25 (i140_ :: i142_ :: (box b26 97 [vi n7.kind, .slice A52 ((n7.elems ++ n8.elems).length) c53, .slice A41 n7.kids.length c42, .slice A53 z37.length c54, .slice A43 n7.tids.length c44]) :: i139_ :: i143_ :: (row 3 eInt A41 c42 n7.kids) :: (row 43 eSpot A53 c54 z37) :: t104_) w') ?_ ?_
          ·
           refine T.seq (T.region (T.pk (pB b26 0) (fun _ => by kernel_rfl) (T.look (vi n7.kind) (by kernel_rfl) (ld1 3 rfl rfl (fun _ => by kernel_rfl) (by rfl) rfl) ?_)))
           refine T.pk (.bool (n7.kind == 2)) (fun _ => by kernel_rfl) (T.nil ?_)
           refine T.cond (n7.kind == 2) (by kernel_rfl) (by kernel_rfl) (fun hc18 => ?_) (fun hc18 => ?_)
           ·
            rw [hc18, cond_true] at hX16
            obtain ⟨y24, hb49, hX16⟩ := ob hX16
            obtain ⟨y25, hb50, hX16⟩ := ob hX16
            refine T.mid (fun a w' => ∃ (A56 : Option Addr) (c57 : Nat), Fr 38 [(3, pB b26 0), (4, pB b27 0), (6, pB b29 0)] a ∧ Hp w V25 (i140_ :: i142_ :: (box b26 97 [vi n7.kind, .slice A52 ((n7.elems ++ n8.elems).length) c53, .slice A41 n7.kids.length c42, .slice A56 (((n7.seps ++ [e14]) ++ n8.seps).length) c57, .slice A43 n7.tids.length c44]) :: i139_ :: i143_ :: (row 3 eInt A41 c42 n7.kids) :: (row 43 eSpot A56 c57 ((n7.seps ++ [e14]) ++ n8.seps)) :: t104_) w') ?_ ?_
            ·
             refine T.held (i140_ :: i141_ :: i142_ :: i139_ :: i143_ :: (row 3 eInt A41 c42 n7.kids) :: i91_ :: i92_ :: i89_ :: i60_ :: (row 3 eInt A23 c23 n1.kids) :: (row 43 eSpot A24 c24 n1.seps) :: i90_ :: t87_) (by kernel_rfl) ?_
             refine TA.keep (Hp.old vr w431_ (kp3 (dr1 (kp3 (dr2 (kp9 (dr1 (dr1 kp0))))))) (oB4 (oR2 (oB3 (oR4 (oB1 (oR1 ol0))))))) fun o459_ => ?_
             refine TA.tp 0 (pB b26 3) rfl (fun _ => by kernel_rfl) (fun _ _ _ h => h) o459_ ?_
             refine TA.tk 2 a406_ rfl (by kernel_rfl) (fun _ _ _ h => h) o459_ (ldN 1 rfl rfl (fun _ => by kernel_rfl) (by rfl) rfl) ?_
             refine TA.tp 5 (pB b27 3) rfl (fun _ => by kernel_rfl) (fun _ _ _ h => h) o459_ ?_
             refine TA.tk 6 (.slice A46 n8.seps.length c47) rfl (by kernel_rfl) (fun _ _ _ h => h) o459_ (ld1 2 rfl rfl (fun _ => by kernel_rfl) (by rfl) rfl) ?_
             refine TA.all [1, 3] (by kernel_rfl) rfl ⟨?_, ?_, trivial⟩
             ·
              refine TA.br rfl (W1.look (.slice A42 n7.seps.length c43) (by kernel_rfl) (ld1 3 rfl rfl (fun _ => by kernel_rfl) (by rfl) rfl) ?_)
              refine TA.on (Hp.old vr w431_ (kp3 (dr1 (kp3 (dr2 (kp9 (dr1 (dr1 kp0))))))) (oB4 (oR2 (oB3 (oR4 (oB1 (oR1 ol0))))))) ?_
              refine TA.all [3] (by kernel_rfl) rfl ⟨?_, trivial⟩
              refine TA.br rfl (W1.ns 43 v346_ (fun _ => by kernel_rfl) (fun b38 => ?_))
              refine TA.on (Hp.old vr w431_ (dr1 (kp3 (dr1 (kp3 (dr2 (kp9 (dr1 (dr1 kp0)))))))) (oB4 (oR2 (oB3 (oR4 (oB1 (oR1 ol0))))))) ?_
              refine TA.all [4] (by kernel_rfl) rfl ⟨?_, trivial⟩
              obtain ⟨hb49_r, hb49_m, rfl⟩ := grow_some hb49
              obtain ⟨ti, hti, hz1, hz2, hz3⟩ := ipStepL_1
              refine TA.br rfl (W1.append (E := eSpot) (l := n7.seps) (m := [e14]) 8 _ _ 32 ti _ (by rfl) (by kernel_rfl) rfl (by kernel_rfl) hti hz1 hz2 hz3 rfl (by decide) rfl rfl (fun w' hh => (SlOk.srcF (slok_lit (E := eSpot) (f := DSpot.cells) [e14] (fun _ _ => rfl) (Nat.le_of_ble_eq_true (by rfl)) (fun j => hh.cellBox (i := 0) (by rfl) j)) (fun _ _ _ _ h => h))) hb49_r hb49_m (fun A75 c76 => ?_))
              refine TA.on (Hp.old vr w431_ (dr1 (kp3 (dr1 (kp3 (dr2 (kp9 (dr1 (dr1 kp0)))))))) (oB4 (oR2 (oB3 (oR4 (oB1 (oR1 ol0))))))) ?_
              refine TA.all [7] (by kernel_rfl) rfl ⟨?_, trivial⟩
              obtain ⟨hb50_r, hb50_m, rfl⟩ := grow_some hb50
              obtain ⟨ti, hti, hz1, hz2, hz3⟩ := ipStepL_1
              refine TA.br rfl (W1.append (E := eSpot) (l := (n7.seps ++ [e14])) (m := n8.seps) 8 _ _ 32 ti _ (by rfl) (by kernel_rfl) rfl (by kernel_rfl) hti hz1 hz2 hz3 rfl (by decide) rfl rfl (fun w' hh => (SlOk.srcF (hh.lent (i := 19) (by rfl) hb30 hx6).2.2.1 (fun _ _ _ _ h => h))) hb50_r hb50_m (fun A76 c77 => ?_))
              refine TA.onk (Hp.old vr w431_ (dr1 (kp3 (dr1 (kp3 (dr2 (kp9 (dr1 (dr1 kp0)))))))) (oB4 (oR2 (oB3 (oR4 (oB1 (oR1 ol0))))))) fun o460_ => ?_
              refine TA.tp 8 (pB b26 3) rfl (fun _ => by kernel_rfl) (fun _ _ _ h => h) o460_ ?_
              refine TA.all [9] (by kernel_rfl) rfl ⟨?_, trivial⟩
              let v348_ : List Value := [vi n7.kind, .slice A52 ((n7.elems ++ n8.elems).length) c53, .slice A41 n7.kids.length c42, .slice A76 (((n7.seps ++ [e14]) ++ n8.seps).length) c77, .slice A43 n7.tids.length c44]
              refine TA.br rfl (W1.st 4 v348_ ((box b38 43 v346_) :: i140_ :: i141_ :: i142_ :: (box b26 97 v348_) :: i139_ :: i143_ :: (row 3 eInt A41 c42 n7.kids) :: (row 43 eSpot A76 c77 ((n7.seps ++ [e14]) ++ n8.seps)) :: t104_) [.slice A76 (((n7.seps ++ [e14]) ++ n8.seps).length) c77] (by rfl) rfl rfl rfl rfl rfl rfl (fun _ => by kernel_rfl) ?_)
              refine TA.on (Hp.old vr w431_ (dr1 (kp3 (dr1 (kp3 (dr2 (kp9 (dr1 (dr1 kp0)))))))) (oB4 (oR2 (oB3 (oR4 (oB1 (oR1 ol0))))))) ?_
              refine TA.done (by kernel_rfl) ?_
              exact fun a w' hf hh => ⟨A76, c77, (Fr.sel hf rfl), (hh.sub (dr1 (kp1 (dr1 (kp17 (kp1 kpr))))))⟩
             refine TA.br rfl (W1.ns 43 v346_ (fun _ => by kernel_rfl) (fun b38 => ?_))
             refine TA.on (Hp.old vr w431_ (dr1 (kp3 (dr1 (kp3 (dr2 (kp9 (dr1 (dr1 kp0)))))))) (oB4 (oR2 (oB3 (oR4 (oB1 (oR1 ol0))))))) ?_
             refine TA.all [1] (by kernel_rfl) rfl ⟨?_, trivial⟩
             refine TA.br rfl (W1.look (.slice A42 n7.seps.length c43) (by kernel_rfl) (ld1 4 rfl rfl (fun _ => by kernel_rfl) (by rfl) rfl) ?_)
             refine TA.on (Hp.old vr w431_ (dr1 (kp3 (dr1 (kp3 (dr2 (kp9 (dr1 (dr1 kp0)))))))) (oB4 (oR2 (oB3 (oR4 (oB1 (oR1 ol0))))))) ?_
             refine TA.all [4] (by kernel_rfl) rfl ⟨?_, trivial⟩
             obtain ⟨hb49_r, hb49_m, rfl⟩ := grow_some hb49
             obtain ⟨ti, hti, hz1, hz2, hz3⟩ := ipStepL_1
             refine TA.br rfl (W1.append (E := eSpot) (l := n7.seps) (m := [e14]) 8 _ _ 32 ti _ (by rfl) (by kernel_rfl) rfl (by kernel_rfl) hti hz1 hz2 hz3 rfl (by decide) rfl rfl (fun w' hh => (SlOk.srcF (slok_lit (E := eSpot) (f := DSpot.cells) [e14] (fun _ _ => rfl) (Nat.le_of_ble_eq_true (by rfl)) (fun j => hh.cellBox (i := 0) (by rfl) j)) (fun _ _ _ _ h => h))) hb49_r hb49_m (fun A75 c76 => ?_))
             refine TA.on (Hp.old vr w431_ (dr1 (kp3 (dr1 (kp3 (dr2 (kp9 (dr1 (dr1 kp0)))))))) (oB4 (oR2 (oB3 (oR4 (oB1 (oR1 ol0))))))) ?_
             refine TA.all [7] (by kernel_rfl) rfl ⟨?_, trivial⟩
             obtain ⟨hb50_r, hb50_m, rfl⟩ := grow_some hb50
             obtain ⟨ti, hti, hz1, hz2, hz3⟩ := ipStepL_1
             refine TA.br rfl (W1.append (E := eSpot) (l := (n7.seps ++ [e14])) (m := n8.seps) 8 _ _ 32 ti _ (by rfl) (by kernel_rfl) rfl (by kernel_rfl) hti hz1 hz2 hz3 rfl (by decide) rfl rfl (fun w' hh => (SlOk.srcF (hh.lent (i := 19) (by rfl) hb30 hx6).2.2.1 (fun _ _ _ _ h => h))) hb50_r hb50_m (fun A76 c77 => ?_))
             refine TA.onk (Hp.old vr w431_ (dr1 (kp3 (dr1 (kp3 (dr2 (kp9 (dr1 (dr1 kp0)))))))) (oB4 (oR2 (oB3 (oR4 (oB1 (oR1 ol0))))))) fun o461_ => ?_
             refine TA.tp 8 (pB b26 3) rfl (fun _ => by kernel_rfl) (fun _ _ _ h => h) o461_ ?_
             refine TA.all [9] (by kernel_rfl) rfl ⟨?_, trivial⟩
             let v349_ : List Value := [vi n7.kind, .slice A52 ((n7.elems ++ n8.elems).length) c53, .slice A41 n7.kids.length c42, .slice A76 (((n7.seps ++ [e14]) ++ n8.seps).length) c77, .slice A43 n7.tids.length c44]
             refine TA.br rfl (W1.st 4 v349_ ((box b38 43 v346_) :: i140_ :: i141_ :: i142_ :: (box b26 97 v349_) :: i139_ :: i143_ :: (row 3 eInt A41 c42 n7.kids) :: (row 43 eSpot A76 c77 ((n7.seps ++ [e14]) ++ n8.seps)) :: t104_) [.slice A76 (((n7.seps ++ [e14]) ++ n8.seps).length) c77] (by rfl) rfl rfl rfl rfl rfl rfl (fun _ => by kernel_rfl) ?_)
             refine TA.on (Hp.old vr w431_ (dr1 (kp3 (dr1 (kp3 (dr2 (kp9 (dr1 (dr1 kp0)))))))) (oB4 (oR2 (oB3 (oR4 (oB1 (oR1 ol0))))))) ?_
             refine TA.done (by kernel_rfl) ?_
             exact fun a w' hf hh => ⟨A76, c77, (Fr.sel hf rfl), (hh.sub (dr1 (kp1 (dr1 (kp17 (kp1 kpr))))))⟩
            rintro a w' ⟨A56, c57, hf, hh⟩
            refine (?_ : T 38 w V25 (i140_ :: i142_ :: (box b26 97 [vi n7.kind, .slice A52 ((n7.elems ++ n8.elems).length) c53, .slice A41 n7.kids.length c42, .slice A56 (((n7.seps ++ [e14]) ++ n8.seps).length) c57, .slice A43 n7.tids.length c44]) :: i139_ :: i143_ :: (row 3 eInt A41 c42 n7.kids) :: (row 43 eSpot A56 c57 ((n7.seps ++ [e14]) ++ n8.seps)) :: t104_) [(3, pB b26 0), (4, pB b27 0), (6, pB b29 0)] _) a w' hf hh
            clear hf hh
            cases hX16
            exact fun a w' hf hh => ⟨A56, c57, (Fr.sel hf rfl), (hh.sub (kp18 (kp1 kpr)))⟩
           rw [hc18, cond_false] at hX16
           refine T.skip_code ?_
           cases hX16
           exact fun a w' hf hh => ⟨A42, c43, (Fr.sel hf rfl), (hh.sub (kp1 (dr1 (kp17 (kp1 kpr)))))⟩
          rintro a w' ⟨A53, c54, hf, hh⟩
          refine (?_ : T 38 w V25 (i140_ :: i142_ :: (box b26 97 [vi n7.kind, .slice A52 ((n7.elems ++ n8.elems).length) c53, .slice A41 n7.kids.length c42, .slice A53 z37.length c54, .slice A43 n7.tids.length c44]) :: i139_ :: i143_ :: (row 3 eInt A41 c42 n7.kids) :: (row 43 eSpot A53 c54 z37) :: t104_) [(3, pB b26 0), (4, pB b27 0), (6, pB b29 0)] _) a w' hf hh
          clear hf hh
          refine T.seq (T.region (T.pk (pB b26 2) (fun _ => by kernel_rfl) (T.look (.slice A41 n7.kids.length c42) (by kernel_rfl) (ld1 2 rfl rfl (fun _ => by kernel_rfl) (by rfl) rfl) ?_)))
          refine T.pk (pB b27 2) (fun _ => by kernel_rfl) (T.look (.slice A45 n8.kids.length c46) (by kernel_rfl) (ld1 1 rfl rfl (fun _ => by kernel_rfl) (by rfl) rfl) ?_)
          obtain ⟨y10, hb35, hX15⟩ := ob hX15
          obtain ⟨hb35_r, hb35_m, rfl⟩ := grow_some hb35
          obtain ⟨ti, hti, hz1, hz2, hz3⟩ := ipStepL_3
          refine T.step (W1.append (E := eInt) (l := n7.kids) (m := n8.kids) 5 _ _ 8 ti _ (by rfl) (by kernel_rfl) rfl (by kernel_rfl) hti hz1 hz2 hz3 rfl (by decide) rfl rfl (fun w' hh => (SlOk.srcF (hh.lent (i := 17) (by rfl) hb30 hx6).2.1 (fun _ _ _ _ h => h))) hb35_r hb35_m (fun A57 c58 => ?_))
          refine T.pk (pB b26 2) (fun _ => by kernel_rfl) ?_
          let i144_ : HObj := row 3 eInt A57 c58 (n7.kids ++ n8.kids)
          let v350_ : List Value := [vi n7.kind, .slice A52 ((n7.elems ++ n8.elems).length) c53, .slice A57 ((n7.kids ++ n8.kids).length) c58, .slice A53 z37.length c54, .slice A43 n7.tids.length c44]
          refine T.step (W1.st 2 v350_ (i140_ :: i142_ :: (box b26 97 v350_) :: i139_ :: i143_ :: i144_ :: (row 43 eSpot A53 c54 z37) :: t104_) [.slice A57 ((n7.kids ++ n8.kids).length) c58] (by rfl) rfl rfl rfl rfl rfl rfl (fun _ => by kernel_rfl) ?_)
          refine T.nil (T.seq (T.region (T.pk (pB b26 4) (fun _ => by kernel_rfl) (T.look (.slice A43 n7.tids.length c44) (by kernel_rfl) (ld1 2 rfl rfl (fun _ => by kernel_rfl) (by rfl) rfl) ?_))))
          refine T.pk (pB b27 4) (fun _ => by kernel_rfl) (T.look (.slice A47 n8.tids.length c48) (by kernel_rfl) (ld1 1 rfl rfl (fun _ => by kernel_rfl) (by rfl) rfl) ?_)
          obtain ⟨y11, hb36, hX15⟩ := ob hX15
          obtain ⟨hb36_r, hb36_m, rfl⟩ := grow_some hb36
          obtain ⟨ti, hti, hz1, hz2, hz3⟩ := ipStepL_3
          refine T.step (W1.append (E := eInt) (l := n7.tids) (m := n8.tids) 7 _ _ 8 ti _ (by rfl) (by kernel_rfl) rfl (by kernel_rfl) hti hz1 hz2 hz3 rfl (by decide) rfl rfl (fun w' hh => (SlOk.srcF (hh.lent (i := 17) (by rfl) hb30 hx6).2.2.2 (fun _ _ _ _ h => h))) hb36_r hb36_m (fun A58 c59 => ?_))
          refine T.pk (pB b26 4) (fun _ => by kernel_rfl) ?_
          let v351_ : List Value := [vi n7.kind, .slice A52 ((n7.elems ++ n8.elems).length) c53, .slice A57 ((n7.kids ++ n8.kids).length) c58, .slice A53 z37.length c54, .slice A58 ((n7.tids ++ n8.tids).length) c59]
          let i145_ : HObj := box b26 97 v351_
          let i146_ : HObj := row 3 eInt A58 c59 (n7.tids ++ n8.tids)
          refine T.step (W1.st 2 v351_ (i140_ :: i142_ :: i145_ :: i139_ :: i143_ :: i144_ :: (row 43 eSpot A53 c54 z37) :: i146_ :: t103_) [.slice A58 ((n7.tids ++ n8.tids).length) c59] (by rfl) rfl rfl rfl rfl rfl rfl (fun _ => by kernel_rfl) ?_)
          refine T.nil (T.seq (T.region (T.look (.agg #[vi n7.kind, .slice A52 ((n7.elems ++ n8.elems).length) c53, .slice A57 ((n7.kids ++ n8.kids).length) c58, .slice A53 z37.length c54, .slice A58 ((n7.tids ++ n8.tids).length) c59]) (by kernel_rfl) (ldN 2 rfl rfl (fun _ => by kernel_rfl) (by rfl) rfl) ?_)))
          refine T.step (W1.st 0 v351_ ((box b29 97 v351_) :: i142_ :: i145_ :: i139_ :: i143_ :: i144_ :: (row 43 eSpot A53 c54 z37) :: i146_ :: t103_) v351_ (by rfl) rfl rfl rfl rfl rfl rfl (fun _ => by kernel_rfl) ?_)
          refine T.nil ?_
          cases hX15
          refine T.ret rfl ?_
          exact T.ret1 rfl (ResIs.cellN 0 rfl (by rfl) (fun _ => by kernel_rfl) (fun _ => by kernel_rfl)) fun w' hh => ⟨_, rfl, ⟨A52, c53, A57, c58, A53, c54, A58, c59, rfl, (hh.sub (dr3 (kp15 (kp1 kpr))))⟩⟩
         rintro v w' ⟨A48, c49, A49, c50, A50, c51, A51, c52, rfl, hh⟩
         let i147_ : HObj := row 28 eElem A48 c49 (n7.elems ++ n8.elems)
         let i148_ : HObj := row 3 eInt A49 c50 (n7.kids ++ n8.kids)
         let i149_ : HObj := row 3 eInt A51 c52 (n7.tids ++ n8.tids)
         refine ⟨V25, (i139_ :: i147_ :: i148_ :: (row 43 eSpot A50 c51 z36) :: i149_ :: t103_), hh, ?_⟩
         clear hh
         refine TA.on (Hp.old vr w431_ (dr5 (kp5 (dr2 (kp2 (dr1 (dr1 kp0)))))) (oB3 (oR2 (oB1 (oR1 ol0))))) ?_
         refine TA.all [25] (by kernel_rfl) rfl ⟨?_, trivial⟩
         let v352_ : List Value := [vi n7.kind, .slice A48 ((n7.elems ++ n8.elems).length) c49, .slice A49 ((n7.kids ++ n8.kids).length) c50, .slice A50 z36.length c51, .slice A51 ((n7.tids ++ n8.tids).length) c52]
         refine TA.br rfl (W1.st 0 v352_ ((box b31 97 v352_) :: i147_ :: i148_ :: (row 43 eSpot A50 c51 z36) :: i149_ :: t103_) v352_ (by rfl) rfl rfl rfl rfl rfl rfl (fun _ => by kernel_rfl) ?_)
         refine TA.on (Hp.old vr w431_ (dr5 (kp5 (dr2 (kp2 (dr1 (dr1 kp0)))))) (oB3 (oR2 (oB1 (oR1 ol0))))) ?_
         refine TA.done (by kernel_rfl) ?_
         exact fun a w' hf hh => ⟨b31, A48, c49, A49, c50, A50, c51, A51, c52, (Fr.sel hf rfl), (hh.sub (kp15 (kp1 kpr)))⟩
        rintro a w' ⟨b31, A65, c66, A66, c67, A67, c68, A68, c69, hf, hh⟩
        let v353_ : List Value := [vi n7.kind, .slice A65 ((n7.elems ++ n8.elems).length) c66, .slice A66 ((n7.kids ++ n8.kids).length) c67, .slice A67 z36.length c68, .slice A68 ((n7.tids ++ n8.tids).length) c69]
        let i150_ : HObj := box b31 97 v353_
        let i151_ : HObj := row 28 eElem A65 c66 (n7.elems ++ n8.elems)
        let i152_ : HObj := row 3 eInt A66 c67 (n7.kids ++ n8.kids)
        let i153_ : HObj := row 3 eInt A68 c69 (n7.tids ++ n8.tids)
        let t154_ : List HObj := i153_ :: t103_
        let t155_ : List HObj := (row 43 eSpot A67 c68 z36) :: t154_
        let t156_ : List HObj := i152_ :: t155_
        let t157_ : List HObj := i151_ :: t156_
        let t158_ : List HObj := i150_ :: t157_
        refine (?_ : T 156 w V25 t158_ [(0, pB b17 0), (2, vi z35), (4, pB b24 0), (6, pB b25 0), (7, vi e12), (8, vi e13), (9, pB b31 0)] _) a w' hf hh
        clear hf hh
        obtain ⟨q17, hX17, hX13⟩ := ob hX13
        refine T.cut (fun a w' => ∃ (z38 : List Int) (z39 : List DSpot) (z40 : List Int) (z41 : List (Int ⊕ DNode)), q17 = (z38, z39, z40, z41) ∧ ∃ (A77 : Option Addr) (c78 : Nat) (A78 : Option Addr) (c79 : Nat) (A79 : Option Addr) (c80 : Nat) (A80 : Option Addr) (n9 : Nat) (c81 : Nat) (A81 : Option Addr) (n10 : Nat) (c82 : Nat) (hs14 : List DHdr) (V28 : View), View.le V25 V28 ∧ Fr 156 [(0, pB b17 0), (2, vi z35), (4, pB b24 0), (6, pB b25 0), (7, vi e12)] a ∧ Hp w V28 (i91_ :: (box b24 97 [vi n1.kind, .slice A22 n1.elems.length c22, .slice A77 z38.length c78, .slice A78 z39.length c79, .slice A79 z40.length c80]) :: (box b19 97 [vi n1.kind, .slice A22 n1.elems.length c22, .slice A23 n1.kids.length c23, .slice A80 n9 c81, .slice A81 n10 c82]) :: i60_ :: (row 3 eInt A77 c78 z38) :: (row 43 eSpot A78 c79 z39) :: (row 3 eInt A79 c80 z40) :: (box b17 137 [vi x7, .slice A21 hs14.length c21]) :: (row 97 eHdr A21 c21 hs14) :: (treeo (TreeTy.mk 28 3 43) hs14 z41) :: (marko d1) :: G3) w') ?_ ?_
        ·
         refine T.seq ?_
         refine T.tree 14 (by rfl) (fun ht8 => ?_)
         refine T.region (T.pk (pB b31 1) (fun _ => by kernel_rfl) (T.look (.slice A65 ((n7.elems ++ n8.elems).length) c66) (by kernel_rfl) (ld1 0 rfl rfl (fun _ => by kernel_rfl) (by rfl) rfl) ?_))
         refine T.p2 (vi ((n7.elems ++ n8.elems).length : Int)) (pB b31 2) (fun _ => by kernel_rfl) (T.look (.slice A66 ((n7.kids ++ n8.kids).length) c67) (by kernel_rfl) (ld1 0 rfl rfl (fun _ => by kernel_rfl) (by rfl) rfl) ?_)
         refine T.p3 (vi ((n7.kids ++ n8.kids).length : Int)) (vi (IntKind.i64.wrap (((n7.elems ++ n8.elems).length : Int) + ((n7.kids ++ n8.kids).length : Int)))) (.bool (decide ((8 : Int) < (IntKind.i64.wrap (((n7.elems ++ n8.elems).length : Int) + ((n7.kids ++ n8.kids).length : Int)))))) (fun _ => by kernel_rfl) (T.nil ?_)
         refine T.cond (decide ((8 : Int) < (IntKind.i64.wrap (((n7.elems ++ n8.elems).length : Int) + ((n7.kids ++ n8.kids).length : Int))))) (by kernel_rfl) (by kernel_rfl) (fun hc19 => ?_) (fun hc19 => ?_)
         ·
          rw [hc19, cond_true] at hX17
          refine T.seq (T.region ?_)
          let a407_ : Value := .agg #[vi n7.kind, .slice A65 ((n7.elems ++ n8.elems).length) c66, .slice A66 ((n7.kids ++ n8.kids).length) c67, .slice A67 z36.length c68, .slice A68 ((n7.tids ++ n8.tids).length) c69]
          refine T.look a407_ (by kernel_rfl) (ldN 0 rfl rfl (fun _ => by kernel_rfl) (by rfl) rfl) ?_
          obtain ⟨q18, hX18, hX17⟩ := ob hX17
          let t159_ : List HObj := i150_ :: t103_
          refine T.step (W1.within 99 [a407_] (fun v w' => ∃ (z42 : List Int) (z43 : List DSpot) (z44 : List Int) (z45 : List DElem) (z46 : List DElem) (z47 : List Int) (z48 : List DSpot) (z49 : List Int) (z50 : Int) (z51 : Int) (z52 : Int) (z53 : Int) (z54 : Int), q18 = (z42, z43, z44, z45, z46, z47, z48, z49, z50, z51, z52, z53, z54) ∧ ∃ (A82 : Option Addr) (c83 : Nat) (A83 : Option Addr) (c84 : Nat) (A84 : Option Addr) (c85 : Nat) (A85 : Option Addr) (c86 : Nat) (A86 : Option Addr) (c87 : Nat) (A87 : Option Addr) (c88 : Nat) (A88 : Option Addr) (c89 : Nat) (A89 : Option Addr) (c90 : Nat) (V29 : View), View.le V25 V29 ∧ v = .tuple #[.agg #[vi n7.kind, .slice A86 z46.length c87, .slice A87 z47.length c88, .slice A88 z48.length c89, .slice A89 z49.length c90], .agg #[vi z50, vi z51, vi z52, vi z53], .agg #[vi z54, .slice A85 z45.length c86, .slice A84 z44.length c85, .slice A83 z43.length c84, .slice A82 z42.length c83]] ∧ Hp w V29 ((row 3 eInt A82 c83 z42) :: (row 43 eSpot A83 c84 z43) :: (row 3 eInt A84 c85 z44) :: (row 28 eElem A85 c86 z45) :: (row 28 eElem A86 c87 z46) :: (row 3 eInt A87 c88 z47) :: (row 43 eSpot A88 c89 z48) :: (row 3 eInt A89 c90 z49) :: t159_) w') Try.func99 rfl rfl (by kernel_rfl) (fun _ => by kernel_rfl) rfl ?_ ?_)
          ·
           refine T.seq (T.region (T.step (W1.np 97 v353_ (fun _ => by kernel_rfl) (fun b39 => ?_))))
           refine T.step (W1.np 97 v317_ (fun _ => by kernel_rfl) (fun b40 => ?_))
           refine T.step (W1.np 43 v315_ (fun _ => by kernel_rfl) (fun b41 => ?_))
           refine T.step (W1.np 97 v317_ (fun _ => by kernel_rfl) (fun b42 => ?_))
           refine T.nil (T.seq (T.seq (T.region (T.pk (pB b39 0) (fun _ => by kernel_rfl) (T.look (vi n7.kind) (by kernel_rfl) (ld1 3 rfl rfl (fun _ => by kernel_rfl) (by rfl) rfl) ?_)))))
           refine T.pk (.bool (n7.kind == 1)) (fun _ => by kernel_rfl) (T.nil ?_)
           refine T.cond (n7.kind == 1) (by kernel_rfl) (by kernel_rfl) (fun hc20 => ?_) (fun hc20 => ?_)
           ·
            rw [hc20, cond_true] at hX18
            refine T.seq (T.region (T.pk (pB b39 1) (fun _ => by kernel_rfl) (T.look (.slice A65 ((n7.elems ++ n8.elems).length) c66) (by kernel_rfl) (ld1 3 rfl rfl (fun _ => by kernel_rfl) (by rfl) rfl) ?_)))
            obtain ⟨s7, hb51, hX18⟩ := ob hX18
            refine T.look (.slice (cutA A65 c66 (4 : Int).toNat 6) s7.length (c66 - (4 : Int).toNat)) (by kernel_rfl) (fun w' hh => exec_slice_list (e := 28) (s := 6) (lx := (some _)) (hx := none) (k := .i64) (k' := .i64) rfl rfl (by kernel_rfl) (by kernel_rfl) ((hh.row_slOk (i := 5) (by rfl))).1 rfl rfl hb51) ?_
            obtain ⟨y26, hb52, hX18⟩ := ob hX18
            obtain ⟨hb52_r, hb52_m, _⟩ := grow_some hb52
            let i160_ : HObj := box b42 97 v317_
            let i161_ : HObj := box b41 43 v315_
            let i162_ : HObj := box b40 97 v317_
            let i163_ : HObj := box b39 97 v353_
            refine T.step (W1.cln 36 [.slice (cutA A65 c66 (4 : Int).toNat 6) s7.length (c66 - (4 : Int).toNat)] (fun _ => by kernel_rfl) (fun w' hh => own_clone_Elem w V25 (i160_ :: i161_ :: i162_ :: i163_ :: t158_) w' _ _ _ (fun w' hh => (SlOk.cut (hh.row_slOk (i := 5) (by rfl)) hb51)) (by simpa +zetaDelta using hb52_r) (by simpa +zetaDelta using hb52_m) hh) (fun A90 c91 => ?_))
            let a408_ : Value := .agg #[vi 1, .slice A90 s7.length c91, sN, sN, sN]
            refine T.pk a408_ (fun _ => by kernel_rfl) (T.step (W1.np 97 v317_ (fun _ => by kernel_rfl) (fun b43 => ?_)))
            let v354_ : List Value := [vi 1, .slice A90 s7.length c91, sN, sN, sN]
            let i164_ : HObj := box b43 97 v354_
            refine T.step (W1.st 0 v354_ (i164_ :: (row 28 eElem A90 c91 s7) :: i160_ :: i161_ :: i162_ :: i163_ :: t158_) v354_ (by rfl) rfl rfl rfl rfl rfl rfl (fun _ => by kernel_rfl) ?_)
            refine T.nil (T.seq (T.region (T.pk (pB b39 1) (fun _ => by kernel_rfl) (T.look (.slice A65 ((n7.elems ++ n8.elems).length) c66) (by kernel_rfl) (ld1 5 rfl rfl (fun _ => by kernel_rfl) (by rfl) rfl) ?_))))
            obtain ⟨s8, hb53, hX18⟩ := ob hX18
            refine T.look (.slice A65 s8.length c66) (by kernel_rfl) (sl0 7 (e := 28) (s := 6) rfl rfl (fun _ => by kernel_rfl) (by rfl) rfl hb53) ?_
            refine T.pk (pB b39 1) (fun _ => by kernel_rfl) ?_
            let v355_ : List Value := [vi n7.kind, .slice A65 s8.length c66, .slice A66 ((n7.kids ++ n8.kids).length) c67, .slice A67 z36.length c68, .slice A68 ((n7.tids ++ n8.tids).length) c69]
            let i165_ : HObj := box b39 97 v355_
            let t166_ : List HObj := i165_ :: t158_
            refine T.step (W1.st 5 v355_ (i164_ :: (row 28 eElem A90 c91 s7) :: i160_ :: i161_ :: i162_ :: t166_) [.slice A65 s8.length c66] (by rfl) rfl rfl rfl rfl rfl rfl (fun _ => by kernel_rfl) ?_)
            refine T.nil (T.seq ?_)
            refine T.held (i164_ :: (row 28 eElem A90 c91 s7) :: i165_ :: i150_ :: i151_ :: i152_ :: (row 43 eSpot A67 c68 z36) :: i153_ :: i91_ :: i92_ :: i89_ :: i60_ :: (row 3 eInt A23 c23 n1.kids) :: (row 43 eSpot A24 c24 n1.seps) :: i90_ :: t87_) (by kernel_rfl) ?_
            have w432_ := vt (vt (vt (vt (vt (vt (vt hV1 hV2) hV3) hV18) hV21) hV23) hV24) hV25
            refine TA.keep (Hp.old vr w432_ (kp2 (dr3 (kp15 (dr1 (dr1 kp0))))) (oB1 (oR1 (oB2 (oR4 (oB3 (oR4 (oB1 (oR1 ol0))))))))) fun o462_ => ?_
            refine TA.tk 0 (.agg #[vi n7.kind, .slice A65 s8.length c66, .slice A66 ((n7.kids ++ n8.kids).length) c67, .slice A67 z36.length c68, .slice A68 ((n7.tids ++ n8.tids).length) c69]) rfl (by kernel_rfl) (fun _ _ _ h => h) o462_ (ldN 2 rfl rfl (fun _ => by kernel_rfl) (by rfl) rfl) ?_
            refine TA.tp 1 (pB b43 1) rfl (fun _ => by kernel_rfl) (fun _ _ _ h => h) o462_ ?_
            refine TA.tk 2 (.slice A90 s7.length c91) rfl (by kernel_rfl) (fun _ _ _ h => h) o462_ (ld1 0 rfl rfl (fun _ => by kernel_rfl) (by rfl) rfl) ?_
            obtain ⟨e15, hb54, hX18⟩ := ob hX18
            obtain ⟨hi50, hi51, hi52⟩ := idx_some hb54
            refine TA.tk 3 (.pointer (some ((sadr A90).add (((0 : Int).toNat) * 6)))) rfl (by kernel_rfl) (fun _ _ _ h => h) o462_ (ixR 1 (e := 28) (s := 6) rfl rfl rfl (fun _ => by kernel_rfl) hi50 hi51 (by rfl) hi52 (by decide)) ?_
            let a409_ : Value := .agg #[vi e15.key.pfs, vi e15.key.obj, vi e15.key.off, vi e15.made, vi e15.gone, .string e15.val]
            refine TA.tk 4 a409_ rfl (by kernel_rfl) (fun _ _ _ h => h) o462_ (fun w' hh => exec_loadN (cs := [vi e15.key.pfs, vi e15.key.obj, vi e15.key.off, vi e15.made, vi e15.gone, .string e15.val]) rfl rfl (by kernel_rfl) (by kernel_rfl) (fun j u hj => (SlOk.wcellF (E := eElem) (hh.row_slOk (i := 1) (by rfl)) hi52 j (fun _ _ _ h => h) hj))) ?_
            refine TA.tk 6 a408_ rfl (by kernel_rfl) (fun _ _ _ h => h) o462_ (ldN 0 rfl rfl (fun _ => by kernel_rfl) (by rfl) rfl) ?_
            refine TA.all [5] (by kernel_rfl) rfl ⟨?_, trivial⟩
            obtain ⟨r21, hb55, hX18⟩ := ob hX18
            refine TA.br rfl (W1.call (vAg eSpot) r21 22 #[a409_] (by kernel_rfl) (fun _ => by kernel_rfl) (fun w' hh => elem_Spot_l e15 r21 hb55 w' ) ?_)
            intro u V30 hV30 hu
            obtain rfl := sureSpot _ _ _ hu
            refine TA.on (Hp.old hV30 w432_ (kp2 (dr3 (kp15 (dr1 (dr1 kp0))))) (oB1 (oR1 (oB2 (oR4 (oB3 (oR4 (oB1 (oR1 ol0))))))))) ?_
            refine TA.all [7] (by kernel_rfl) rfl ⟨?_, trivial⟩
            let i167_ : HObj := box b40 97 v355_
            let t168_ : List HObj := i167_ :: t166_
            refine TA.br rfl (W1.st 4 v355_ (i164_ :: (row 28 eElem A90 c91 s7) :: i160_ :: i161_ :: t168_) v355_ (by rfl) rfl rfl rfl rfl rfl rfl (fun _ => by kernel_rfl) ?_)
            refine TA.on (Hp.old hV30 w432_ (kp2 (dr3 (kp15 (dr1 (dr1 kp0))))) (oB1 (oR1 (oB2 (oR4 (oB3 (oR4 (oB1 (oR1 ol0))))))))) ?_
            refine TA.all [8] (by kernel_rfl) rfl ⟨?_, trivial⟩
            let v356_ : List Value := [vi r21.key.pfs, vi r21.key.obj, vi r21.key.off, vi r21.made]
            let i169_ : HObj := box b41 43 v356_
            refine TA.br rfl (W1.st 3 v356_ (i164_ :: (row 28 eElem A90 c91 s7) :: i160_ :: i169_ :: t168_) v356_ (by rfl) rfl rfl rfl rfl rfl rfl (fun _ => by kernel_rfl) ?_)
            refine TA.on (Hp.old hV30 w432_ (kp2 (dr3 (kp15 (dr1 (dr1 kp0))))) (oB1 (oR1 (oB2 (oR4 (oB3 (oR4 (oB1 (oR1 ol0))))))))) ?_
            refine TA.all [9] (by kernel_rfl) rfl ⟨?_, trivial⟩
            refine TA.br rfl (W1.st 2 v354_ (i164_ :: (row 28 eElem A90 c91 s7) :: (box b42 97 v354_) :: i169_ :: t168_) v354_ (by rfl) rfl rfl rfl rfl rfl rfl (fun _ => by kernel_rfl) ?_)
            refine TA.on (Hp.old hV30 w432_ (kp2 (dr3 (kp15 (dr1 (dr1 kp0))))) (oB1 (oR1 (oB2 (oR4 (oB3 (oR4 (oB1 (oR1 ol0))))))))) ?_
            refine TA.done (by kernel_rfl) ?_
            refine T.shrink (l := s8) 7 (by rfl) (lslice_prefix hb53) ?_
            refine T.rownil 3 eInt ?_
            refine T.rownil 43 eSpot ?_
            refine T.rownil 3 eInt ?_
            cases hX18
            refine T.ret rfl ?_
            repeat first | refine T.unthen ?_ | refine T.unblock ?_
            exact T.ret3 rfl (ResIs.cellN 7 rfl (by rfl) (fun _ => by kernel_rfl) (fun _ => by kernel_rfl)) (ResIs.cellN 6 rfl (by rfl) (fun _ => by kernel_rfl) (fun _ => by kernel_rfl)) (ResIs.cellN 5 rfl (by rfl) (fun _ => by kernel_rfl) (fun _ => by kernel_rfl)) fun w' hh => ⟨_, rfl, ⟨[], [], [], s7, s8, (n7.kids ++ n8.kids), z36, (n7.tids ++ n8.tids), r21.key.pfs, r21.key.obj, r21.key.off, r21.made, 1, rfl, none, 0, none, 0, none, 0, A90, c91, A65, c66, A66, c67, A67, c68, A68, c69, V30, hV30, rfl, ((hh.sub (kp3 (dr1 (kp1 (dr4 (kp15 (kp1 kpr))))))).perm (pc4 (pt sw0 (pc1 (pt sw0 (pc1 (pt sw0 (pc1 (pt sw0 pz)))))))))⟩⟩
           rw [hc20, cond_false] at hX18
           refine T.skip_code ?_
           refine T.seq ?_
           obtain ⟨s9, hb56, hX18⟩ := ob hX18
           obtain ⟨s10, hb57, hX18⟩ := ob hX18
           obtain ⟨s11, hb58, hX18⟩ := ob hX18
           obtain ⟨y27, hb59, hX18⟩ := ob hX18
           obtain ⟨y28, hb60, hX18⟩ := ob hX18
           obtain ⟨y29, hb61, hX18⟩ := ob hX18
           let i170_ : HObj := box b42 97 v317_
           let i171_ : HObj := box b41 43 v315_
           let i172_ : HObj := box b40 97 v317_
           let i173_ : HObj := box b39 97 v353_
           let t174_ : List HObj := i173_ :: t158_
           let t175_ : List HObj := i172_ :: t174_
           let t176_ : List HObj := i171_ :: t175_
           let t177_ : List HObj := i170_ :: t176_
           refine T.mid (fun a w' => ∃ (b44 : Nat) (A94 : Option Addr) (c95 : Nat) (A95 : Option Addr) (c96 : Nat) (A96 : Option Addr) (c97 : Nat), Fr 59 [(1, pB b39 0), (2, pB b40 0), (3, pB b41 0), (4, pB b42 0), (6, pB b44 0)] a ∧ Hp w V25 ((box b44 97 [vi 2, sN, .slice A94 s9.length c95, .slice A95 s10.length c96, .slice A96 s11.length c97]) :: (row 3 eInt A96 c97 s11) :: (row 43 eSpot A95 c96 s10) :: (row 3 eInt A94 c95 s9) :: t177_) w') ?_ ?_
           ·
            refine T.held (i170_ :: i171_ :: i172_ :: i173_ :: i150_ :: i151_ :: i152_ :: (row 43 eSpot A67 c68 z36) :: i153_ :: i91_ :: i92_ :: i89_ :: i60_ :: (row 3 eInt A23 c23 n1.kids) :: (row 43 eSpot A24 c24 n1.seps) :: i90_ :: t87_) (by kernel_rfl) ?_
            have w433_ := vt (vt (vt (vt (vt (vt (vt hV1 hV2) hV3) hV18) hV21) hV23) hV24) hV25
            refine TA.keep (Hp.old vr w433_ (kp18 (dr1 (dr1 kp0))) (oB5 (oR4 (oB3 (oR4 (oB1 (oR1 ol0))))))) fun o463_ => ?_
            refine TA.tp 0 (pB b39 2) rfl (fun _ => by kernel_rfl) (fun _ _ _ h => h) o463_ ?_
            refine TA.tk 1 (.slice A66 ((n7.kids ++ n8.kids).length) c67) rfl (by kernel_rfl) (fun _ _ _ h => h) o463_ (ld1 3 rfl rfl (fun _ => by kernel_rfl) (by rfl) rfl) ?_
            refine TA.tk 2 (.slice (cutA A66 c67 (4 : Int).toNat 1) s9.length (c67 - (4 : Int).toNat)) rfl (by kernel_rfl) (fun _ _ _ h => h) o463_ (fun w' hh => exec_slice_list (e := 3) (s := 1) (lx := (some _)) (hx := none) (k := .i64) (k' := .i64) rfl rfl (by kernel_rfl) (by kernel_rfl) ((hh.row_slOk (i := 6) (by rfl))).1 rfl rfl hb56) ?_
            refine TA.tp 4 (pB b39 3) rfl (fun _ => by kernel_rfl) (fun _ _ _ h => h) o463_ ?_
            refine TA.tk 5 (.slice A67 z36.length c68) rfl (by kernel_rfl) (fun _ _ _ h => h) o463_ (ld1 3 rfl rfl (fun _ => by kernel_rfl) (by rfl) rfl) ?_
            refine TA.tk 6 (.slice (cutA A67 c68 (4 : Int).toNat 4) s10.length (c68 - (4 : Int).toNat)) rfl (by kernel_rfl) (fun _ _ _ h => h) o463_ (fun w' hh => exec_slice_list (e := 43) (s := 4) (lx := (some _)) (hx := none) (k := .i64) (k' := .i64) rfl rfl (by kernel_rfl) (by kernel_rfl) ((hh.row_slOk (i := 7) (by rfl))).1 rfl rfl hb57) ?_
            refine TA.tp 8 (pB b39 4) rfl (fun _ => by kernel_rfl) (fun _ _ _ h => h) o463_ ?_
            refine TA.tk 9 (.slice A68 ((n7.tids ++ n8.tids).length) c69) rfl (by kernel_rfl) (fun _ _ _ h => h) o463_ (ld1 3 rfl rfl (fun _ => by kernel_rfl) (by rfl) rfl) ?_
            refine TA.tk 10 (.slice (cutA A68 c69 (4 : Int).toNat 1) s11.length (c69 - (4 : Int).toNat)) rfl (by kernel_rfl) (fun _ _ _ h => h) o463_ (fun w' hh => exec_slice_list (e := 3) (s := 1) (lx := (some _)) (hx := none) (k := .i64) (k' := .i64) rfl rfl (by kernel_rfl) (by kernel_rfl) ((hh.row_slOk (i := 8) (by rfl))).1 rfl rfl hb58) ?_
            refine TA.all [3, 13] (by kernel_rfl) rfl ⟨?_, ?_, trivial⟩
            ·
             obtain ⟨hb59_r, hb59_m, _⟩ := grow_some hb59
             refine TA.br rfl (W1.cln 110 [.slice (cutA A66 c67 (4 : Int).toNat 1) s9.length (c67 - (4 : Int).toNat)] (fun _ => by kernel_rfl) (fun w' hh => own_clone_int w V25 t177_ w' _ _ _ (fun w' hh => (SlOk.cut (hh.row_slOk (i := 6) (by rfl)) hb56)) (by simpa +zetaDelta using hb59_r) (by simpa +zetaDelta using hb59_m) hh) (fun A91 c92 => ?_))
             refine TA.on (Hp.old vr w433_ (dr1 (kp18 (dr1 (dr1 kp0)))) (oB5 (oR4 (oB3 (oR4 (oB1 (oR1 ol0))))))) ?_
             refine TA.all [7, 13] (by kernel_rfl) rfl ⟨?_, ?_, trivial⟩
             ·
              obtain ⟨hb60_r, hb60_m, _⟩ := grow_some hb60
              let t178_ : List HObj := (row 3 eInt A91 c92 s9) :: t177_
              refine TA.br rfl (W1.cln 111 [.slice (cutA A67 c68 (4 : Int).toNat 4) s10.length (c68 - (4 : Int).toNat)] (fun _ => by kernel_rfl) (fun w' hh => own_clone_Spot w V25 t178_ w' _ _ _ (fun w' hh => (SlOk.cut (hh.row_slOk (i := 8) (by rfl)) hb57)) (by simpa +zetaDelta using hb60_r) (by simpa +zetaDelta using hb60_m) hh) (fun A92 c93 => ?_))
              refine TA.on (Hp.old vr w433_ (dr2 (kp18 (dr1 (dr1 kp0)))) (oB5 (oR4 (oB3 (oR4 (oB1 (oR1 ol0))))))) ?_
              refine TA.all [11, 13] (by kernel_rfl) rfl ⟨?_, ?_, trivial⟩
              ·
               obtain ⟨hb61_r, hb61_m, _⟩ := grow_some hb61
               refine TA.br rfl (W1.cln 110 [.slice (cutA A68 c69 (4 : Int).toNat 1) s11.length (c69 - (4 : Int).toNat)] (fun _ => by kernel_rfl) (fun w' hh => own_clone_int w V25 ((row 43 eSpot A92 c93 s10) :: t178_) w' _ _ _ (fun w' hh => (SlOk.cut (hh.row_slOk (i := 10) (by rfl)) hb58)) (by simpa +zetaDelta using hb61_r) (by simpa +zetaDelta using hb61_m) hh) (fun A93 c94 => ?_))
               refine TA.onk (Hp.old vr w433_ (dr3 (kp18 (dr1 (dr1 kp0)))) (oB5 (oR4 (oB3 (oR4 (oB1 (oR1 ol0))))))) fun o464_ => ?_
               refine TA.tp 12 (.agg #[vi 2, sN, .slice A91 s9.length c92, .slice A92 s10.length c93, .slice A93 s11.length c94]) rfl (fun _ => by kernel_rfl) (fun _ _ _ h => h) o464_ ?_
               refine TA.all [13] (by kernel_rfl) rfl ⟨?_, trivial⟩
               refine TA.br rfl (W1.np 97 v317_ (fun _ => by kernel_rfl) (fun b44 => ?_))
               refine TA.on (Hp.old vr w433_ (dr4 (kp18 (dr1 (dr1 kp0)))) (oB5 (oR4 (oB3 (oR4 (oB1 (oR1 ol0))))))) ?_
               refine TA.all [14] (by kernel_rfl) rfl ⟨?_, trivial⟩
               let v357_ : List Value := [vi 2, sN, .slice A91 s9.length c92, .slice A92 s10.length c93, .slice A93 s11.length c94]
               refine TA.br rfl (W1.st 0 v357_ ((box b44 97 v357_) :: (row 3 eInt A93 c94 s11) :: (row 43 eSpot A92 c93 s10) :: t178_) v357_ (by rfl) rfl rfl rfl rfl rfl rfl (fun _ => by kernel_rfl) ?_)
               refine TA.on (Hp.old vr w433_ (dr4 (kp18 (dr1 (dr1 kp0)))) (oB5 (oR4 (oB3 (oR4 (oB1 (oR1 ol0))))))) ?_
               refine TA.done (by kernel_rfl) ?_
               exact fun a w' hf hh => ⟨b44, A91, c92, A92, c93, A93, c94, (Fr.sel hf rfl), (hh.sub (kp20 (kp3 (kp1 kpr))))⟩
              refine TA.br rfl (W1.np 97 v317_ (fun _ => by kernel_rfl) (fun b44 => ?_))
              refine TA.on (Hp.old vr w433_ (dr3 (kp18 (dr1 (dr1 kp0)))) (oB5 (oR4 (oB3 (oR4 (oB1 (oR1 ol0))))))) ?_
              refine TA.all [11] (by kernel_rfl) rfl ⟨?_, trivial⟩
              obtain ⟨hb61_r, hb61_m, _⟩ := grow_some hb61
              refine TA.br rfl (W1.cln 110 [.slice (cutA A68 c69 (4 : Int).toNat 1) s11.length (c69 - (4 : Int).toNat)] (fun _ => by kernel_rfl) (fun w' hh => own_clone_int w V25 ((box b44 97 v317_) :: (row 43 eSpot A92 c93 s10) :: t178_) w' _ _ _ (fun w' hh => (SlOk.cut (hh.row_slOk (i := 11) (by rfl)) hb58)) (by simpa +zetaDelta using hb61_r) (by simpa +zetaDelta using hb61_m) hh) (fun A93 c94 => ?_))
              refine TA.onk (Hp.old vr w433_ (dr4 (kp18 (dr1 (dr1 kp0)))) (oB5 (oR4 (oB3 (oR4 (oB1 (oR1 ol0))))))) fun o465_ => ?_
              refine TA.tp 12 (.agg #[vi 2, sN, .slice A91 s9.length c92, .slice A92 s10.length c93, .slice A93 s11.length c94]) rfl (fun _ => by kernel_rfl) (fun _ _ _ h => h) o465_ ?_
              refine TA.all [14] (by kernel_rfl) rfl ⟨?_, trivial⟩
              let v358_ : List Value := [vi 2, sN, .slice A91 s9.length c92, .slice A92 s10.length c93, .slice A93 s11.length c94]
              refine TA.br rfl (W1.st 1 v358_ ((row 3 eInt A93 c94 s11) :: (box b44 97 v358_) :: (row 43 eSpot A92 c93 s10) :: t178_) v358_ (by rfl) rfl rfl rfl rfl rfl rfl (fun _ => by kernel_rfl) ?_)
              refine TA.on (Hp.old vr w433_ (dr4 (kp18 (dr1 (dr1 kp0)))) (oB5 (oR4 (oB3 (oR4 (oB1 (oR1 ol0))))))) ?_
              refine TA.done (by kernel_rfl) ?_
              exact fun a w' hf hh => ⟨b44, A91, c92, A92, c93, A93, c94, (Fr.sel hf rfl), ((hh.sub (kp20 (kp3 (kp1 kpr)))).perm (pt sw0 pz))⟩
             refine TA.br rfl (W1.np 97 v317_ (fun _ => by kernel_rfl) (fun b44 => ?_))
             refine TA.on (Hp.old vr w433_ (dr2 (kp18 (dr1 (dr1 kp0)))) (oB5 (oR4 (oB3 (oR4 (oB1 (oR1 ol0))))))) ?_
             refine TA.all [7] (by kernel_rfl) rfl ⟨?_, trivial⟩
             obtain ⟨hb60_r, hb60_m, _⟩ := grow_some hb60
             let i179_ : HObj := box b44 97 v317_
             let t180_ : List HObj := (row 3 eInt A91 c92 s9) :: t177_
             refine TA.br rfl (W1.cln 111 [.slice (cutA A67 c68 (4 : Int).toNat 4) s10.length (c68 - (4 : Int).toNat)] (fun _ => by kernel_rfl) (fun w' hh => own_clone_Spot w V25 (i179_ :: t180_) w' _ _ _ (fun w' hh => (SlOk.cut (hh.row_slOk (i := 9) (by rfl)) hb57)) (by simpa +zetaDelta using hb60_r) (by simpa +zetaDelta using hb60_m) hh) (fun A92 c93 => ?_))
             refine TA.on (Hp.old vr w433_ (dr3 (kp18 (dr1 (dr1 kp0)))) (oB5 (oR4 (oB3 (oR4 (oB1 (oR1 ol0))))))) ?_
             refine TA.all [11] (by kernel_rfl) rfl ⟨?_, trivial⟩
             obtain ⟨hb61_r, hb61_m, _⟩ := grow_some hb61
             refine TA.br rfl (W1.cln 110 [.slice (cutA A68 c69 (4 : Int).toNat 1) s11.length (c69 - (4 : Int).toNat)] (fun _ => by kernel_rfl) (fun w' hh => own_clone_int w V25 ((row 43 eSpot A92 c93 s10) :: i179_ :: t180_) w' _ _ _ (fun w' hh => (SlOk.cut (hh.row_slOk (i := 11) (by rfl)) hb58)) (by simpa +zetaDelta using hb61_r) (by simpa +zetaDelta using hb61_m) hh) (fun A93 c94 => ?_))
             refine TA.onk (Hp.old vr w433_ (dr4 (kp18 (dr1 (dr1 kp0)))) (oB5 (oR4 (oB3 (oR4 (oB1 (oR1 ol0))))))) fun o466_ => ?_
             refine TA.tp 12 (.agg #[vi 2, sN, .slice A91 s9.length c92, .slice A92 s10.length c93, .slice A93 s11.length c94]) rfl (fun _ => by kernel_rfl) (fun _ _ _ h => h) o466_ ?_
             refine TA.all [14] (by kernel_rfl) rfl ⟨?_, trivial⟩
             let v359_ : List Value := [vi 2, sN, .slice A91 s9.length c92, .slice A92 s10.length c93, .slice A93 s11.length c94]
             refine TA.br rfl (W1.st 2 v359_ ((row 3 eInt A93 c94 s11) :: (row 43 eSpot A92 c93 s10) :: (box b44 97 v359_) :: t180_) v359_ (by rfl) rfl rfl rfl rfl rfl rfl (fun _ => by kernel_rfl) ?_)
             refine TA.on (Hp.old vr w433_ (dr4 (kp18 (dr1 (dr1 kp0)))) (oB5 (oR4 (oB3 (oR4 (oB1 (oR1 ol0))))))) ?_
             refine TA.done (by kernel_rfl) ?_
             exact fun a w' hf hh => ⟨b44, A91, c92, A92, c93, A93, c94, (Fr.sel hf rfl), ((hh.sub (kp20 (kp3 (kp1 kpr)))).perm (pt sw1 (pt sw0 pz)))⟩
            refine TA.br rfl (W1.np 97 v317_ (fun _ => by kernel_rfl) (fun b44 => ?_))
            refine TA.on (Hp.old vr w433_ (dr1 (kp18 (dr1 (dr1 kp0)))) (oB5 (oR4 (oB3 (oR4 (oB1 (oR1 ol0))))))) ?_
            refine TA.all [3] (by kernel_rfl) rfl ⟨?_, trivial⟩
            obtain ⟨hb59_r, hb59_m, _⟩ := grow_some hb59
            let i181_ : HObj := box b44 97 v317_
            let t182_ : List HObj := i181_ :: t177_
            refine TA.br rfl (W1.cln 110 [.slice (cutA A66 c67 (4 : Int).toNat 1) s9.length (c67 - (4 : Int).toNat)] (fun _ => by kernel_rfl) (fun w' hh => own_clone_int w V25 t182_ w' _ _ _ (fun w' hh => (SlOk.cut (hh.row_slOk (i := 7) (by rfl)) hb56)) (by simpa +zetaDelta using hb59_r) (by simpa +zetaDelta using hb59_m) hh) (fun A91 c92 => ?_))
            refine TA.on (Hp.old vr w433_ (dr2 (kp18 (dr1 (dr1 kp0)))) (oB5 (oR4 (oB3 (oR4 (oB1 (oR1 ol0))))))) ?_
            refine TA.all [7] (by kernel_rfl) rfl ⟨?_, trivial⟩
            obtain ⟨hb60_r, hb60_m, _⟩ := grow_some hb60
            refine TA.br rfl (W1.cln 111 [.slice (cutA A67 c68 (4 : Int).toNat 4) s10.length (c68 - (4 : Int).toNat)] (fun _ => by kernel_rfl) (fun w' hh => own_clone_Spot w V25 ((row 3 eInt A91 c92 s9) :: t182_) w' _ _ _ (fun w' hh => (SlOk.cut (hh.row_slOk (i := 9) (by rfl)) hb57)) (by simpa +zetaDelta using hb60_r) (by simpa +zetaDelta using hb60_m) hh) (fun A92 c93 => ?_))
            refine TA.on (Hp.old vr w433_ (dr3 (kp18 (dr1 (dr1 kp0)))) (oB5 (oR4 (oB3 (oR4 (oB1 (oR1 ol0))))))) ?_
            refine TA.all [11] (by kernel_rfl) rfl ⟨?_, trivial⟩
            obtain ⟨hb61_r, hb61_m, _⟩ := grow_some hb61
            refine TA.br rfl (W1.cln 110 [.slice (cutA A68 c69 (4 : Int).toNat 1) s11.length (c69 - (4 : Int).toNat)] (fun _ => by kernel_rfl) (fun w' hh => own_clone_int w V25 ((row 43 eSpot A92 c93 s10) :: (row 3 eInt A91 c92 s9) :: t182_) w' _ _ _ (fun w' hh => (SlOk.cut (hh.row_slOk (i := 11) (by rfl)) hb58)) (by simpa +zetaDelta using hb61_r) (by simpa +zetaDelta using hb61_m) hh) (fun A93 c94 => ?_))
            refine TA.onk (Hp.old vr w433_ (dr4 (kp18 (dr1 (dr1 kp0)))) (oB5 (oR4 (oB3 (oR4 (oB1 (oR1 ol0))))))) fun o467_ => ?_
            refine TA.tp 12 (.agg #[vi 2, sN, .slice A91 s9.length c92, .slice A92 s10.length c93, .slice A93 s11.length c94]) rfl (fun _ => by kernel_rfl) (fun _ _ _ h => h) o467_ ?_
            refine TA.all [14] (by kernel_rfl) rfl ⟨?_, trivial⟩
            let v360_ : List Value := [vi 2, sN, .slice A91 s9.length c92, .slice A92 s10.length c93, .slice A93 s11.length c94]
            refine TA.br rfl (W1.st 3 v360_ ((row 3 eInt A93 c94 s11) :: (row 43 eSpot A92 c93 s10) :: (row 3 eInt A91 c92 s9) :: (box b44 97 v360_) :: t177_) v360_ (by rfl) rfl rfl rfl rfl rfl rfl (fun _ => by kernel_rfl) ?_)
            refine TA.on (Hp.old vr w433_ (dr4 (kp18 (dr1 (dr1 kp0)))) (oB5 (oR4 (oB3 (oR4 (oB1 (oR1 ol0))))))) ?_
            refine TA.done (by kernel_rfl) ?_
            exact fun a w' hf hh => ⟨b44, A91, c92, A92, c93, A93, c94, (Fr.sel hf rfl), ((hh.sub (kp20 (kp3 (kp1 kpr)))).perm (pt sw2 (pt sw1 (pt sw0 pz))))⟩
           rintro a w' ⟨b44, A94, c95, A95, c96, A96, c97, hf, hh⟩
           let v361_ : List Value := [vi 2, sN, .slice A94 s9.length c95, .slice A95 s10.length c96, .slice A96 s11.length c97]
           let i183_ : HObj := box b44 97 v361_
           refine (?_ : T 59 w V25 (i183_ :: (row 3 eInt A96 c97 s11) :: (row 43 eSpot A95 c96 s10) :: (row 3 eInt A94 c95 s9) :: t177_) [(1, pB b39 0), (2, pB b40 0), (3, pB b41 0), (4, pB b42 0), (6, pB b44 0)] _) a w' hf hh
           clear hf hh
           refine T.seq (T.region (T.pk (pB b39 3) (fun _ => by kernel_rfl) (T.look (.slice A67 z36.length c68) (by kernel_rfl) (ld1 7 rfl rfl (fun _ => by kernel_rfl) (by rfl) rfl) ?_)))
           obtain ⟨e16, hb62, hX18⟩ := ob hX18
           obtain ⟨hi53, hi54, hi55⟩ := idx_some hb62
           refine T.look (.pointer (some ((sadr A67).add (((3 : Int).toNat) * 4)))) (by kernel_rfl) (ixR 11 (e := 43) (s := 4) rfl rfl rfl (fun _ => by kernel_rfl) hi53 hi54 (by rfl) hi55 (by decide)) ?_
           let v362_ : List Value := [vi e16.key.pfs, vi e16.key.obj, vi e16.key.off, vi e16.made]
           let a410_ : Value := .agg #[vi e16.key.pfs, vi e16.key.obj, vi e16.key.off, vi e16.made]
           refine T.look a410_ (by kernel_rfl) (fun w' hh => exec_loadN (cs := v362_) rfl rfl (by kernel_rfl) (by kernel_rfl) (fun j u hj => (SlOk.wcellF (E := eSpot) (hh.row_slOk (i := 11) (by rfl)) hi55 j (fun _ _ _ h => h) hj))) ?_
           refine T.step (W1.np 43 v315_ (fun _ => by kernel_rfl) (fun b45 => ?_))
           let i184_ : HObj := box b45 43 v362_
           refine T.step (W1.st 0 v362_ (i184_ :: i183_ :: (row 3 eInt A96 c97 s11) :: (row 43 eSpot A95 c96 s10) :: (row 3 eInt A94 c95 s9) :: t177_) v362_ (by rfl) rfl rfl rfl rfl rfl rfl (fun _ => by kernel_rfl) ?_)
           refine T.nil (T.seq ?_)
           obtain ⟨s12, hb63, hX18⟩ := ob hX18
           obtain ⟨s13, hb64, hX18⟩ := ob hX18
           obtain ⟨s14, hb65, hX18⟩ := ob hX18
           let v363_ : List Value := [vi n7.kind, .slice A65 ((n7.elems ++ n8.elems).length) c66, .slice A66 s12.length c67, .slice A67 s13.length c68, .slice A68 s14.length c69]
           let i185_ : HObj := box b39 97 v363_
           let t186_ : List HObj := i185_ :: t158_
           let t187_ : List HObj := i172_ :: t186_
           let t188_ : List HObj := i171_ :: t187_
           let t189_ : List HObj := i170_ :: t188_
           let t190_ : List HObj := (row 3 eInt A94 c95 s9) :: t189_
           let t191_ : List HObj := (row 43 eSpot A95 c96 s10) :: t190_
           let t192_ : List HObj := (row 3 eInt A96 c97 s11) :: t191_
           let t193_ : List HObj := i183_ :: t192_
           let t194_ : List HObj := i184_ :: t193_
           refine T.mid (fun a w' => Fr 59 [(1, pB b39 0), (2, pB b40 0), (3, pB b41 0), (4, pB b42 0), (6, pB b44 0), (7, pB b45 0)] a ∧ Hp w V25 t194_ w') ?_ ?_
           ·
            refine T.held (i184_ :: i183_ :: (row 3 eInt A96 c97 s11) :: (row 43 eSpot A95 c96 s10) :: (row 3 eInt A94 c95 s9) :: i170_ :: i171_ :: i172_ :: i150_ :: i151_ :: i152_ :: (row 43 eSpot A67 c68 z36) :: i153_ :: i91_ :: i92_ :: i89_ :: i60_ :: (row 3 eInt A23 c23 n1.kids) :: (row 43 eSpot A24 c24 n1.seps) :: i90_ :: t87_) (by kernel_rfl) ?_
            have w434_ := vt (vt (vt (vt (vt (vt (vt hV1 hV2) hV3) hV18) hV21) hV23) hV24) hV25
            refine TA.keep (Hp.old vr w434_ (kp8 (dr1 (kp14 (dr1 (dr1 kp0))))) (oB2 (oR3 (oB4 (oR4 (oB3 (oR4 (oB1 (oR1 ol0))))))))) fun o468_ => ?_
            refine TA.tp 0 (pB b39 2) rfl (fun _ => by kernel_rfl) (fun _ _ _ h => h) o468_ ?_
            refine TA.tp 3 (pB b39 3) rfl (fun _ => by kernel_rfl) (fun _ _ _ h => h) o468_ ?_
            refine TA.tp 6 (pB b39 4) rfl (fun _ => by kernel_rfl) (fun _ _ _ h => h) o468_ ?_
            refine TA.all [1, 4, 7] (by kernel_rfl) rfl ⟨?_, ?_, ?_, trivial⟩
            ·
             refine TA.br rfl (W1.look (.slice A66 ((n7.kids ++ n8.kids).length) c67) (by kernel_rfl) (ld1 8 rfl rfl (fun _ => by kernel_rfl) (by rfl) rfl) ?_)
             refine TA.onk (Hp.old vr w434_ (kp8 (dr1 (kp14 (dr1 (dr1 kp0))))) (oB2 (oR3 (oB4 (oR4 (oB3 (oR4 (oB1 (oR1 ol0))))))))) fun o469_ => ?_
             refine TA.tk 2 (.slice A66 s12.length c67) rfl (by kernel_rfl) (fun _ _ _ h => h) o469_ (sl0 10 (e := 3) (s := 1) rfl rfl (fun _ => by kernel_rfl) (by rfl) rfl hb63) ?_
             refine TA.all [4, 7] (by kernel_rfl) rfl ⟨?_, ?_, trivial⟩
             ·
              refine TA.br rfl (W1.look (.slice A67 z36.length c68) (by kernel_rfl) (ld1 8 rfl rfl (fun _ => by kernel_rfl) (by rfl) rfl) ?_)
              refine TA.onk (Hp.old vr w434_ (kp8 (dr1 (kp14 (dr1 (dr1 kp0))))) (oB2 (oR3 (oB4 (oR4 (oB3 (oR4 (oB1 (oR1 ol0))))))))) fun o470_ => ?_
              refine TA.tk 5 (.slice A67 s13.length c68) rfl (by kernel_rfl) (fun _ _ _ h => h) o470_ (sl0 11 (e := 43) (s := 4) rfl rfl (fun _ => by kernel_rfl) (by rfl) rfl hb64) ?_
              refine TA.all [7] (by kernel_rfl) rfl ⟨?_, trivial⟩
              refine TA.br rfl (W1.look (.slice A68 ((n7.tids ++ n8.tids).length) c69) (by kernel_rfl) (ld1 8 rfl rfl (fun _ => by kernel_rfl) (by rfl) rfl) ?_)
              refine TA.onk (Hp.old vr w434_ (kp8 (dr1 (kp14 (dr1 (dr1 kp0))))) (oB2 (oR3 (oB4 (oR4 (oB3 (oR4 (oB1 (oR1 ol0))))))))) fun o471_ => ?_
              refine TA.tk 8 (.slice A68 s14.length c69) rfl (by kernel_rfl) (fun _ _ _ h => h) o471_ (sl0 12 (e := 3) (s := 1) rfl rfl (fun _ => by kernel_rfl) (by rfl) rfl hb65) ?_
              refine TA.tp 9 (pB b39 2) rfl (fun _ => by kernel_rfl) (fun _ _ _ h => h) o471_ ?_
              refine TA.all [10] (by kernel_rfl) rfl ⟨?_, trivial⟩
              let v364_ : List Value := [vi n7.kind, .slice A65 ((n7.elems ++ n8.elems).length) c66, .slice A66 s12.length c67, .slice A67 z36.length c68, .slice A68 ((n7.tids ++ n8.tids).length) c69]
              refine TA.br rfl (W1.st 8 v364_ (i184_ :: i183_ :: (row 3 eInt A96 c97 s11) :: (row 43 eSpot A95 c96 s10) :: (row 3 eInt A94 c95 s9) :: i170_ :: i171_ :: i172_ :: (box b39 97 v364_) :: t158_) [.slice A66 s12.length c67] (by rfl) rfl rfl rfl rfl rfl rfl (fun _ => by kernel_rfl) ?_)
              refine TA.onk (Hp.old vr w434_ (kp8 (dr1 (kp14 (dr1 (dr1 kp0))))) (oB2 (oR3 (oB4 (oR4 (oB3 (oR4 (oB1 (oR1 ol0))))))))) fun o472_ => ?_
              refine TA.tp 11 (pB b39 3) rfl (fun _ => by kernel_rfl) (fun _ _ _ h => h) o472_ ?_
              refine TA.all [12] (by kernel_rfl) rfl ⟨?_, trivial⟩
              let v365_ : List Value := [vi n7.kind, .slice A65 ((n7.elems ++ n8.elems).length) c66, .slice A66 s12.length c67, .slice A67 s13.length c68, .slice A68 ((n7.tids ++ n8.tids).length) c69]
              refine TA.br rfl (W1.st 8 v365_ (i184_ :: i183_ :: (row 3 eInt A96 c97 s11) :: (row 43 eSpot A95 c96 s10) :: (row 3 eInt A94 c95 s9) :: i170_ :: i171_ :: i172_ :: (box b39 97 v365_) :: t158_) [.slice A67 s13.length c68] (by rfl) rfl rfl rfl rfl rfl rfl (fun _ => by kernel_rfl) ?_)
              refine TA.onk (Hp.old vr w434_ (kp8 (dr1 (kp14 (dr1 (dr1 kp0))))) (oB2 (oR3 (oB4 (oR4 (oB3 (oR4 (oB1 (oR1 ol0))))))))) fun o473_ => ?_
              refine TA.tp 13 (pB b39 4) rfl (fun _ => by kernel_rfl) (fun _ _ _ h => h) o473_ ?_
              refine TA.all [14] (by kernel_rfl) rfl ⟨?_, trivial⟩
              refine TA.br rfl (W1.st 8 v363_ t194_ [.slice A68 s14.length c69] (by rfl) rfl rfl rfl rfl rfl rfl (fun _ => by kernel_rfl) ?_)
              refine TA.on (Hp.old vr w434_ (kp8 (dr1 (kp14 (dr1 (dr1 kp0))))) (oB2 (oR3 (oB4 (oR4 (oB3 (oR4 (oB1 (oR1 ol0))))))))) ?_
              refine TA.done (by kernel_rfl) ?_
              exact fun a w' hf hh => ⟨(Fr.sel hf rfl), (hh.sub (kp20 (kp4 (kp1 kpr))))⟩
             refine TA.br rfl (W1.look (.slice A68 ((n7.tids ++ n8.tids).length) c69) (by kernel_rfl) (ld1 8 rfl rfl (fun _ => by kernel_rfl) (by rfl) rfl) ?_)
             refine TA.onk (Hp.old vr w434_ (kp8 (dr1 (kp14 (dr1 (dr1 kp0))))) (oB2 (oR3 (oB4 (oR4 (oB3 (oR4 (oB1 (oR1 ol0))))))))) fun o474_ => ?_
             refine TA.tk 8 (.slice A68 s14.length c69) rfl (by kernel_rfl) (fun _ _ _ h => h) o474_ (sl0 12 (e := 3) (s := 1) rfl rfl (fun _ => by kernel_rfl) (by rfl) rfl hb65) ?_
             refine TA.all [4] (by kernel_rfl) rfl ⟨?_, trivial⟩
             refine TA.br rfl (W1.look (.slice A67 z36.length c68) (by kernel_rfl) (ld1 8 rfl rfl (fun _ => by kernel_rfl) (by rfl) rfl) ?_)
             refine TA.onk (Hp.old vr w434_ (kp8 (dr1 (kp14 (dr1 (dr1 kp0))))) (oB2 (oR3 (oB4 (oR4 (oB3 (oR4 (oB1 (oR1 ol0))))))))) fun o475_ => ?_
             refine TA.tk 5 (.slice A67 s13.length c68) rfl (by kernel_rfl) (fun _ _ _ h => h) o475_ (sl0 11 (e := 43) (s := 4) rfl rfl (fun _ => by kernel_rfl) (by rfl) rfl hb64) ?_
             refine TA.tp 9 (pB b39 2) rfl (fun _ => by kernel_rfl) (fun _ _ _ h => h) o475_ ?_
             refine TA.all [10] (by kernel_rfl) rfl ⟨?_, trivial⟩
             let v366_ : List Value := [vi n7.kind, .slice A65 ((n7.elems ++ n8.elems).length) c66, .slice A66 s12.length c67, .slice A67 z36.length c68, .slice A68 ((n7.tids ++ n8.tids).length) c69]
             refine TA.br rfl (W1.st 8 v366_ (i184_ :: i183_ :: (row 3 eInt A96 c97 s11) :: (row 43 eSpot A95 c96 s10) :: (row 3 eInt A94 c95 s9) :: i170_ :: i171_ :: i172_ :: (box b39 97 v366_) :: t158_) [.slice A66 s12.length c67] (by rfl) rfl rfl rfl rfl rfl rfl (fun _ => by kernel_rfl) ?_)
             refine TA.onk (Hp.old vr w434_ (kp8 (dr1 (kp14 (dr1 (dr1 kp0))))) (oB2 (oR3 (oB4 (oR4 (oB3 (oR4 (oB1 (oR1 ol0))))))))) fun o476_ => ?_
             refine TA.tp 11 (pB b39 3) rfl (fun _ => by kernel_rfl) (fun _ _ _ h => h) o476_ ?_
             refine TA.all [12] (by kernel_rfl) rfl ⟨?_, trivial⟩
             let v367_ : List Value := [vi n7.kind, .slice A65 ((n7.elems ++ n8.elems).length) c66, .slice A66 s12.length c67, .slice A67 s13.length c68, .slice A68 ((n7.tids ++ n8.tids).length) c69]
             refine TA.br rfl (W1.st 8 v367_ (i184_ :: i183_ :: (row 3 eInt A96 c97 s11) :: (row 43 eSpot A95 c96 s10) :: (row 3 eInt A94 c95 s9) :: i170_ :: i171_ :: i172_ :: (box b39 97 v367_) :: t158_) [.slice A67 s13.length c68] (by rfl) rfl rfl rfl rfl rfl rfl (fun _ => by kernel_rfl) ?_)
             refine TA.onk (Hp.old vr w434_ (kp8 (dr1 (kp14 (dr1 (dr1 kp0))))) (oB2 (oR3 (oB4 (oR4 (oB3 (oR4 (oB1 (oR1 ol0))))))))) fun o477_ => ?_
             refine TA.tp 13 (pB b39 4) rfl (fun _ => by kernel_rfl) (fun _ _ _ h => h) o477_ ?_
             refine TA.all [14] (by kernel_rfl) rfl ⟨?_, trivial⟩
             refine TA.br rfl (W1.st 8 v363_ t194_ [.slice A68 s14.length c69] (by rfl) rfl rfl rfl rfl rfl rfl (fun _ => by kernel_rfl) ?_)
             refine TA.on (Hp.old vr w434_ (kp8 (dr1 (kp14 (dr1 (dr1 kp0))))) (oB2 (oR3 (oB4 (oR4 (oB3 (oR4 (oB1 (oR1 ol0))))))))) ?_
             refine TA.done (by kernel_rfl) ?_
             exact fun a w' hf hh => ⟨(Fr.sel hf rfl), (hh.sub (kp20 (kp4 (kp1 kpr))))⟩
            ·
             refine TA.br rfl (W1.look (.slice A67 z36.length c68) (by kernel_rfl) (ld1 8 rfl rfl (fun _ => by kernel_rfl) (by rfl) rfl) ?_)
             refine TA.onk (Hp.old vr w434_ (kp8 (dr1 (kp14 (dr1 (dr1 kp0))))) (oB2 (oR3 (oB4 (oR4 (oB3 (oR4 (oB1 (oR1 ol0))))))))) fun o478_ => ?_
             refine TA.tk 5 (.slice A67 s13.length c68) rfl (by kernel_rfl) (fun _ _ _ h => h) o478_ (sl0 11 (e := 43) (s := 4) rfl rfl (fun _ => by kernel_rfl) (by rfl) rfl hb64) ?_
             refine TA.all [1, 7] (by kernel_rfl) rfl ⟨?_, ?_, trivial⟩
             ·
              refine TA.br rfl (W1.look (.slice A66 ((n7.kids ++ n8.kids).length) c67) (by kernel_rfl) (ld1 8 rfl rfl (fun _ => by kernel_rfl) (by rfl) rfl) ?_)
              refine TA.onk (Hp.old vr w434_ (kp8 (dr1 (kp14 (dr1 (dr1 kp0))))) (oB2 (oR3 (oB4 (oR4 (oB3 (oR4 (oB1 (oR1 ol0))))))))) fun o479_ => ?_
              refine TA.tk 2 (.slice A66 s12.length c67) rfl (by kernel_rfl) (fun _ _ _ h => h) o479_ (sl0 10 (e := 3) (s := 1) rfl rfl (fun _ => by kernel_rfl) (by rfl) rfl hb63) ?_
              refine TA.all [7] (by kernel_rfl) rfl ⟨?_, trivial⟩
              refine TA.br rfl (W1.look (.slice A68 ((n7.tids ++ n8.tids).length) c69) (by kernel_rfl) (ld1 8 rfl rfl (fun _ => by kernel_rfl) (by rfl) rfl) ?_)
              refine TA.onk (Hp.old vr w434_ (kp8 (dr1 (kp14 (dr1 (dr1 kp0))))) (oB2 (oR3 (oB4 (oR4 (oB3 (oR4 (oB1 (oR1 ol0))))))))) fun o480_ => ?_
              refine TA.tk 8 (.slice A68 s14.length c69) rfl (by kernel_rfl) (fun _ _ _ h => h) o480_ (sl0 12 (e := 3) (s := 1) rfl rfl (fun _ => by kernel_rfl) (by rfl) rfl hb65) ?_
              refine TA.tp 9 (pB b39 2) rfl (fun _ => by kernel_rfl) (fun _ _ _ h => h) o480_ ?_
              refine TA.all [10] (by kernel_rfl) rfl ⟨?_, trivial⟩
              let v368_ : List Value := [vi n7.kind, .slice A65 ((n7.elems ++ n8.elems).length) c66, .slice A66 s12.length c67, .slice A67 z36.length c68, .slice A68 ((n7.tids ++ n8.tids).length) c69]
              refine TA.br rfl (W1.st 8 v368_ (i184_ :: i183_ :: (row 3 eInt A96 c97 s11) :: (row 43 eSpot A95 c96 s10) :: (row 3 eInt A94 c95 s9) :: i170_ :: i171_ :: i172_ :: (box b39 97 v368_) :: t158_) [.slice A66 s12.length c67] (by rfl) rfl rfl rfl rfl rfl rfl (fun _ => by kernel_rfl) ?_)
              refine TA.onk (Hp.old vr w434_ (kp8 (dr1 (kp14 (dr1 (dr1 kp0))))) (oB2 (oR3 (oB4 (oR4 (oB3 (oR4 (oB1 (oR1 ol0))))))))) fun o481_ => ?_
              refine TA.tp 11 (pB b39 3) rfl (fun _ => by kernel_rfl) (fun _ _ _ h => h) o481_ ?_
              refine TA.all [12] (by kernel_rfl) rfl ⟨?_, trivial⟩
              let v369_ : List Value := [vi n7.kind, .slice A65 ((n7.elems ++ n8.elems).length) c66, .slice A66 s12.length c67, .slice A67 s13.length c68, .slice A68 ((n7.tids ++ n8.tids).length) c69]
              refine TA.br rfl (W1.st 8 v369_ (i184_ :: i183_ :: (row 3 eInt A96 c97 s11) :: (row 43 eSpot A95 c96 s10) :: (row 3 eInt A94 c95 s9) :: i170_ :: i171_ :: i172_ :: (box b39 97 v369_) :: t158_) [.slice A67 s13.length c68] (by rfl) rfl rfl rfl rfl rfl rfl (fun _ => by kernel_rfl) ?_)
              refine TA.onk (Hp.old vr w434_ (kp8 (dr1 (kp14 (dr1 (dr1 kp0))))) (oB2 (oR3 (oB4 (oR4 (oB3 (oR4 (oB1 (oR1 ol0))))))))) fun o482_ => ?_
              refine TA.tp 13 (pB b39 4) rfl (fun _ => by kernel_rfl) (fun _ _ _ h => h) o482_ ?_
              refine TA.all [14] (by kernel_rfl) rfl ⟨?_, trivial⟩
              refine TA.br rfl (W1.st 8 v363_ t194_ [.slice A68 s14.length c69] (by rfl) rfl rfl rfl rfl rfl rfl (fun _ => by kernel_rfl) ?_)
              refine TA.on (Hp.old vr w434_ (kp8 (dr1 (kp14 (dr1 (dr1 kp0))))) (oB2 (oR3 (oB4 (oR4 (oB3 (oR4 (oB1 (oR1 ol0))))))))) ?_
              refine TA.done (by kernel_rfl) ?_
              exact fun a w' hf hh => ⟨(Fr.sel hf rfl), (hh.sub (kp20 (kp4 (kp1 kpr))))⟩
             refine TA.br rfl (W1.look (.slice A68 ((n7.tids ++ n8.tids).length) c69) (by kernel_rfl) (ld1 8 rfl rfl (fun _ => by kernel_rfl) (by rfl) rfl) ?_)
             refine TA.onk (Hp.old vr w434_ (kp8 (dr1 (kp14 (dr1 (dr1 kp0))))) (oB2 (oR3 (oB4 (oR4 (oB3 (oR4 (oB1 (oR1 ol0))))))))) fun o483_ => ?_
             refine TA.tk 8 (.slice A68 s14.length c69) rfl (by kernel_rfl) (fun _ _ _ h => h) o483_ (sl0 12 (e := 3) (s := 1) rfl rfl (fun _ => by kernel_rfl) (by rfl) rfl hb65) ?_
             refine TA.all [1] (by kernel_rfl) rfl ⟨?_, trivial⟩
             refine TA.br rfl (W1.look (.slice A66 ((n7.kids ++ n8.kids).length) c67) (by kernel_rfl) (ld1 8 rfl rfl (fun _ => by kernel_rfl) (by rfl) rfl) ?_)
             refine TA.onk (Hp.old vr w434_ (kp8 (dr1 (kp14 (dr1 (dr1 kp0))))) (oB2 (oR3 (oB4 (oR4 (oB3 (oR4 (oB1 (oR1 ol0))))))))) fun o484_ => ?_
             refine TA.tk 2 (.slice A66 s12.length c67) rfl (by kernel_rfl) (fun _ _ _ h => h) o484_ (sl0 10 (e := 3) (s := 1) rfl rfl (fun _ => by kernel_rfl) (by rfl) rfl hb63) ?_
             refine TA.tp 9 (pB b39 2) rfl (fun _ => by kernel_rfl) (fun _ _ _ h => h) o484_ ?_
             refine TA.all [10] (by kernel_rfl) rfl ⟨?_, trivial⟩
             let v370_ : List Value := [vi n7.kind, .slice A65 ((n7.elems ++ n8.elems).length) c66, .slice A66 s12.length c67, .slice A67 z36.length c68, .slice A68 ((n7.tids ++ n8.tids).length) c69]
             refine TA.br rfl (W1.st 8 v370_ (i184_ :: i183_ :: (row 3 eInt A96 c97 s11) :: (row 43 eSpot A95 c96 s10) :: (row 3 eInt A94 c95 s9) :: i170_ :: i171_ :: i172_ :: (box b39 97 v370_) :: t158_) [.slice A66 s12.length c67] (by rfl) rfl rfl rfl rfl rfl rfl (fun _ => by kernel_rfl) ?_)
             refine TA.onk (Hp.old vr w434_ (kp8 (dr1 (kp14 (dr1 (dr1 kp0))))) (oB2 (oR3 (oB4 (oR4 (oB3 (oR4 (oB1 (oR1 ol0))))))))) fun o485_ => ?_
             refine TA.tp 11 (pB b39 3) rfl (fun _ => by kernel_rfl) (fun _ _ _ h => h) o485_ ?_
             refine TA.all [12] (by kernel_rfl) rfl ⟨?_, trivial⟩
             let v371_ : List Value := [vi n7.kind, .slice A65 ((n7.elems ++ n8.elems).length) c66, .slice A66 s12.length c67, .slice A67 s13.length c68, .slice A68 ((n7.tids ++ n8.tids).length) c69]
             refine TA.br rfl (W1.st 8 v371_ (i184_ :: i183_ :: (row 3 eInt A96 c97 s11) :: (row 43 eSpot A95 c96 s10) :: (row 3 eInt A94 c95 s9) :: i170_ :: i171_ :: i172_ :: (box b39 97 v371_) :: t158_) [.slice A67 s13.length c68] (by rfl) rfl rfl rfl rfl rfl rfl (fun _ => by kernel_rfl) ?_)
             refine TA.onk (Hp.old vr w434_ (kp8 (dr1 (kp14 (dr1 (dr1 kp0))))) (oB2 (oR3 (oB4 (oR4 (oB3 (oR4 (oB1 (oR1 ol0))))))))) fun o486_ => ?_
             refine TA.tp 13 (pB b39 4) rfl (fun _ => by kernel_rfl) (fun _ _ _ h => h) o486_ ?_
             refine TA.all [14] (by kernel_rfl) rfl ⟨?_, trivial⟩
             refine TA.br rfl (W1.st 8 v363_ t194_ [.slice A68 s14.length c69] (by rfl) rfl rfl rfl rfl rfl rfl (fun _ => by kernel_rfl) ?_)
             refine TA.on (Hp.old vr w434_ (kp8 (dr1 (kp14 (dr1 (dr1 kp0))))) (oB2 (oR3 (oB4 (oR4 (oB3 (oR4 (oB1 (oR1 ol0))))))))) ?_
             refine TA.done (by kernel_rfl) ?_
             exact fun a w' hf hh => ⟨(Fr.sel hf rfl), (hh.sub (kp20 (kp4 (kp1 kpr))))⟩
            refine TA.br rfl (W1.look (.slice A68 ((n7.tids ++ n8.tids).length) c69) (by kernel_rfl) (ld1 8 rfl rfl (fun _ => by kernel_rfl) (by rfl) rfl) ?_)
            refine TA.onk (Hp.old vr w434_ (kp8 (dr1 (kp14 (dr1 (dr1 kp0))))) (oB2 (oR3 (oB4 (oR4 (oB3 (oR4 (oB1 (oR1 ol0))))))))) fun o487_ => ?_
            refine TA.tk 8 (.slice A68 s14.length c69) rfl (by kernel_rfl) (fun _ _ _ h => h) o487_ (sl0 12 (e := 3) (s := 1) rfl rfl (fun _ => by kernel_rfl) (by rfl) rfl hb65) ?_
            refine TA.all [1, 4] (by kernel_rfl) rfl ⟨?_, ?_, trivial⟩
            ·
             refine TA.br rfl (W1.look (.slice A66 ((n7.kids ++ n8.kids).length) c67) (by kernel_rfl) (ld1 8 rfl rfl (fun _ => by kernel_rfl) (by rfl) rfl) ?_)
             refine TA.onk (Hp.old vr w434_ (kp8 (dr1 (kp14 (dr1 (dr1 kp0))))) (oB2 (oR3 (oB4 (oR4 (oB3 (oR4 (oB1 (oR1 ol0))))))))) fun o488_ => ?_
             refine TA.tk 2 (.slice A66 s12.length c67) rfl (by kernel_rfl) (fun _ _ _ h => h) o488_ (sl0 10 (e := 3) (s := 1) rfl rfl (fun _ => by kernel_rfl) (by rfl) rfl hb63) ?_
             refine TA.all [4] (by kernel_rfl) rfl ⟨?_, trivial⟩
             refine TA.br rfl (W1.look (.slice A67 z36.length c68) (by kernel_rfl) (ld1 8 rfl rfl (fun _ => by kernel_rfl) (by rfl) rfl) ?_)
             refine TA.onk (Hp.old vr w434_ (kp8 (dr1 (kp14 (dr1 (dr1 kp0))))) (oB2 (oR3 (oB4 (oR4 (oB3 (oR4 (oB1 (oR1 ol0))))))))) fun o489_ => ?_
             refine TA.tk 5 (.slice A67 s13.length c68) rfl (by kernel_rfl) (fun _ _ _ h => h) o489_ (sl0 11 (e := 43) (s := 4) rfl rfl (fun _ => by kernel_rfl) (by rfl) rfl hb64) ?_
             refine TA.tp 9 (pB b39 2) rfl (fun _ => by kernel_rfl) (fun _ _ _ h => h) o489_ ?_
             refine TA.all [10] (by kernel_rfl) rfl ⟨?_, trivial⟩
             let v372_ : List Value := [vi n7.kind, .slice A65 ((n7.elems ++ n8.elems).length) c66, .slice A66 s12.length c67, .slice A67 z36.length c68, .slice A68 ((n7.tids ++ n8.tids).length) c69]
             refine TA.br rfl (W1.st 8 v372_ (i184_ :: i183_ :: (row 3 eInt A96 c97 s11) :: (row 43 eSpot A95 c96 s10) :: (row 3 eInt A94 c95 s9) :: i170_ :: i171_ :: i172_ :: (box b39 97 v372_) :: t158_) [.slice A66 s12.length c67] (by rfl) rfl rfl rfl rfl rfl rfl (fun _ => by kernel_rfl) ?_)
             refine TA.onk (Hp.old vr w434_ (kp8 (dr1 (kp14 (dr1 (dr1 kp0))))) (oB2 (oR3 (oB4 (oR4 (oB3 (oR4 (oB1 (oR1 ol0))))))))) fun o490_ => ?_
             refine TA.tp 11 (pB b39 3) rfl (fun _ => by kernel_rfl) (fun _ _ _ h => h) o490_ ?_
             refine TA.all [12] (by kernel_rfl) rfl ⟨?_, trivial⟩
             let v373_ : List Value := [vi n7.kind, .slice A65 ((n7.elems ++ n8.elems).length) c66, .slice A66 s12.length c67, .slice A67 s13.length c68, .slice A68 ((n7.tids ++ n8.tids).length) c69]
             refine TA.br rfl (W1.st 8 v373_ (i184_ :: i183_ :: (row 3 eInt A96 c97 s11) :: (row 43 eSpot A95 c96 s10) :: (row 3 eInt A94 c95 s9) :: i170_ :: i171_ :: i172_ :: (box b39 97 v373_) :: t158_) [.slice A67 s13.length c68] (by rfl) rfl rfl rfl rfl rfl rfl (fun _ => by kernel_rfl) ?_)
             refine TA.onk (Hp.old vr w434_ (kp8 (dr1 (kp14 (dr1 (dr1 kp0))))) (oB2 (oR3 (oB4 (oR4 (oB3 (oR4 (oB1 (oR1 ol0))))))))) fun o491_ => ?_
             refine TA.tp 13 (pB b39 4) rfl (fun _ => by kernel_rfl) (fun _ _ _ h => h) o491_ ?_
             refine TA.all [14] (by kernel_rfl) rfl ⟨?_, trivial⟩
             refine TA.br rfl (W1.st 8 v363_ t194_ [.slice A68 s14.length c69] (by rfl) rfl rfl rfl rfl rfl rfl (fun _ => by kernel_rfl) ?_)
             refine TA.on (Hp.old vr w434_ (kp8 (dr1 (kp14 (dr1 (dr1 kp0))))) (oB2 (oR3 (oB4 (oR4 (oB3 (oR4 (oB1 (oR1 ol0))))))))) ?_
             refine TA.done (by kernel_rfl) ?_
             exact fun a w' hf hh => ⟨(Fr.sel hf rfl), (hh.sub (kp20 (kp4 (kp1 kpr))))⟩
            refine TA.br rfl (W1.look (.slice A67 z36.length c68) (by kernel_rfl) (ld1 8 rfl rfl (fun _ => by kernel_rfl) (by rfl) rfl) ?_)
            refine TA.onk (Hp.old vr w434_ (kp8 (dr1 (kp14 (dr1 (dr1 kp0))))) (oB2 (oR3 (oB4 (oR4 (oB3 (oR4 (oB1 (oR1 ol0))))))))) fun o492_ => ?_
            refine TA.tk 5 (.slice A67 s13.length c68) rfl (by kernel_rfl) (fun _ _ _ h => h) o492_ (sl0 11 (e := 43) (s := 4) rfl rfl (fun _ => by kernel_rfl) (by rfl) rfl hb64) ?_
            refine TA.all [1] (by kernel_rfl) rfl ⟨?_, trivial⟩
            refine TA.br rfl (W1.look (.slice A66 ((n7.kids ++ n8.kids).length) c67) (by kernel_rfl) (ld1 8 rfl rfl (fun _ => by kernel_rfl) (by rfl) rfl) ?_)
            refine TA.onk (Hp.old vr w434_ (kp8 (dr1 (kp14 (dr1 (dr1 kp0))))) (oB2 (oR3 (oB4 (oR4 (oB3 (oR4 (oB1 (oR1 ol0))))))))) fun o493_ => ?_
            refine TA.tk 2 (.slice A66 s12.length c67) rfl (by kernel_rfl) (fun _ _ _ h => h) o493_ (sl0 10 (e := 3) (s := 1) rfl rfl (fun _ => by kernel_rfl) (by rfl) rfl hb63) ?_
            refine TA.tp 9 (pB b39 2) rfl (fun _ => by kernel_rfl) (fun _ _ _ h => h) o493_ ?_
            refine TA.all [10] (by kernel_rfl) rfl ⟨?_, trivial⟩
            let v374_ : List Value := [vi n7.kind, .slice A65 ((n7.elems ++ n8.elems).length) c66, .slice A66 s12.length c67, .slice A67 z36.length c68, .slice A68 ((n7.tids ++ n8.tids).length) c69]
            refine TA.br rfl (W1.st 8 v374_ (i184_ :: i183_ :: (row 3 eInt A96 c97 s11) :: (row 43 eSpot A95 c96 s10) :: (row 3 eInt A94 c95 s9) :: i170_ :: i171_ :: i172_ :: (box b39 97 v374_) :: t158_) [.slice A66 s12.length c67] (by rfl) rfl rfl rfl rfl rfl rfl (fun _ => by kernel_rfl) ?_)
            refine TA.onk (Hp.old vr w434_ (kp8 (dr1 (kp14 (dr1 (dr1 kp0))))) (oB2 (oR3 (oB4 (oR4 (oB3 (oR4 (oB1 (oR1 ol0))))))))) fun o494_ => ?_
            refine TA.tp 11 (pB b39 3) rfl (fun _ => by kernel_rfl) (fun _ _ _ h => h) o494_ ?_
            refine TA.all [12] (by kernel_rfl) rfl ⟨?_, trivial⟩
            let v375_ : List Value := [vi n7.kind, .slice A65 ((n7.elems ++ n8.elems).length) c66, .slice A66 s12.length c67, .slice A67 s13.length c68, .slice A68 ((n7.tids ++ n8.tids).length) c69]
            refine TA.br rfl (W1.st 8 v375_ (i184_ :: i183_ :: (row 3 eInt A96 c97 s11) :: (row 43 eSpot A95 c96 s10) :: (row 3 eInt A94 c95 s9) :: i170_ :: i171_ :: i172_ :: (box b39 97 v375_) :: t158_) [.slice A67 s13.length c68] (by rfl) rfl rfl rfl rfl rfl rfl (fun _ => by kernel_rfl) ?_)
            refine TA.onk (Hp.old vr w434_ (kp8 (dr1 (kp14 (dr1 (dr1 kp0))))) (oB2 (oR3 (oB4 (oR4 (oB3 (oR4 (oB1 (oR1 ol0))))))))) fun o495_ => ?_
            refine TA.tp 13 (pB b39 4) rfl (fun _ => by kernel_rfl) (fun _ _ _ h => h) o495_ ?_
            refine TA.all [14] (by kernel_rfl) rfl ⟨?_, trivial⟩
            refine TA.br rfl (W1.st 8 v363_ t194_ [.slice A68 s14.length c69] (by rfl) rfl rfl rfl rfl rfl rfl (fun _ => by kernel_rfl) ?_)
            refine TA.on (Hp.old vr w434_ (kp8 (dr1 (kp14 (dr1 (dr1 kp0))))) (oB2 (oR3 (oB4 (oR4 (oB3 (oR4 (oB1 (oR1 ol0))))))))) ?_
            refine TA.done (by kernel_rfl) ?_
            exact fun a w' hf hh => ⟨(Fr.sel hf rfl), (hh.sub (kp20 (kp4 (kp1 kpr))))⟩
           rintro a w' ⟨hf, hh⟩
           refine (?_ : T 59 w V25 t194_ [(1, pB b39 0), (2, pB b40 0), (3, pB b41 0), (4, pB b42 0), (6, pB b44 0), (7, pB b45 0)] _) a w' hf hh
           clear hf hh
           refine T.seq ?_
           refine T.held (i184_ :: i183_ :: (row 3 eInt A96 c97 s11) :: (row 43 eSpot A95 c96 s10) :: (row 3 eInt A94 c95 s9) :: i185_ :: i150_ :: i151_ :: i152_ :: (row 43 eSpot A67 c68 z36) :: i153_ :: i91_ :: i92_ :: i89_ :: i60_ :: (row 3 eInt A23 c23 n1.kids) :: (row 43 eSpot A24 c24 n1.seps) :: i90_ :: t87_) (by kernel_rfl) ?_
           have w435_ := vt (vt (vt (vt (vt (vt (vt hV1 hV2) hV3) hV18) hV21) hV23) hV24) hV25
           refine TA.keep (Hp.old vr w435_ (kp5 (dr3 (kp15 (dr1 (dr1 kp0))))) (oB2 (oR3 (oB2 (oR4 (oB3 (oR4 (oB1 (oR1 ol0))))))))) fun o496_ => ?_
           refine TA.tk 0 (.agg #[vi n7.kind, .slice A65 ((n7.elems ++ n8.elems).length) c66, .slice A66 s12.length c67, .slice A67 s13.length c68, .slice A68 s14.length c69]) rfl (by kernel_rfl) (fun _ _ _ h => h) o496_ (ldN 5 rfl rfl (fun _ => by kernel_rfl) (by rfl) rfl) ?_
           refine TA.tk 1 a410_ rfl (by kernel_rfl) (fun _ _ _ h => h) o496_ (ldN 0 rfl rfl (fun _ => by kernel_rfl) (by rfl) rfl) ?_
           refine TA.tk 2 (.agg #[vi 2, sN, .slice A94 s9.length c95, .slice A95 s10.length c96, .slice A96 s11.length c97]) rfl (by kernel_rfl) (fun _ _ _ h => h) o496_ (ldN 1 rfl rfl (fun _ => by kernel_rfl) (by rfl) rfl) ?_
           refine TA.all [3] (by kernel_rfl) rfl ⟨?_, trivial⟩
           let i195_ : HObj := box b40 97 v363_
           let t196_ : List HObj := i195_ :: t186_
           refine TA.br rfl (W1.st 7 v363_ (i184_ :: i183_ :: (row 3 eInt A96 c97 s11) :: (row 43 eSpot A95 c96 s10) :: (row 3 eInt A94 c95 s9) :: i170_ :: i171_ :: t196_) v363_ (by rfl) rfl rfl rfl rfl rfl rfl (fun _ => by kernel_rfl) ?_)
           refine TA.on (Hp.old vr w435_ (kp5 (dr3 (kp15 (dr1 (dr1 kp0))))) (oB2 (oR3 (oB2 (oR4 (oB3 (oR4 (oB1 (oR1 ol0))))))))) ?_
           refine TA.all [4] (by kernel_rfl) rfl ⟨?_, trivial⟩
           let i197_ : HObj := box b41 43 v362_
           refine TA.br rfl (W1.st 6 v362_ (i184_ :: i183_ :: (row 3 eInt A96 c97 s11) :: (row 43 eSpot A95 c96 s10) :: (row 3 eInt A94 c95 s9) :: i170_ :: i197_ :: t196_) v362_ (by rfl) rfl rfl rfl rfl rfl rfl (fun _ => by kernel_rfl) ?_)
           refine TA.on (Hp.old vr w435_ (kp5 (dr3 (kp15 (dr1 (dr1 kp0))))) (oB2 (oR3 (oB2 (oR4 (oB3 (oR4 (oB1 (oR1 ol0))))))))) ?_
           refine TA.all [5] (by kernel_rfl) rfl ⟨?_, trivial⟩
           refine TA.br rfl (W1.st 5 v361_ (i184_ :: i183_ :: (row 3 eInt A96 c97 s11) :: (row 43 eSpot A95 c96 s10) :: (row 3 eInt A94 c95 s9) :: (box b42 97 v361_) :: i197_ :: t196_) v361_ (by rfl) rfl rfl rfl rfl rfl rfl (fun _ => by kernel_rfl) ?_)
           refine TA.on (Hp.old vr w435_ (kp5 (dr3 (kp15 (dr1 (dr1 kp0))))) (oB2 (oR3 (oB2 (oR4 (oB3 (oR4 (oB1 (oR1 ol0))))))))) ?_
           refine TA.done (by kernel_rfl) ?_
           refine T.shrink (l := s12) 11 (by rfl) (lslice_prefix hb63) ?_
           refine T.shrink (l := s13) 12 (by rfl) (lslice_prefix hb64) ?_
           refine T.shrink (l := s14) 13 (by rfl) (lslice_prefix hb65) ?_
           refine T.rownil 28 eElem ?_
           cases hX18
           refine T.ret rfl ?_
           repeat first | refine T.unthen ?_ | refine T.unblock ?_
           exact T.ret3 rfl (ResIs.cellN 8 rfl (by rfl) (fun _ => by kernel_rfl) (fun _ => by kernel_rfl)) (ResIs.cellN 7 rfl (by rfl) (fun _ => by kernel_rfl) (fun _ => by kernel_rfl)) (ResIs.cellN 6 rfl (by rfl) (fun _ => by kernel_rfl) (fun _ => by kernel_rfl)) fun w' hh => ⟨_, rfl, ⟨s11, s10, s9, [], (n7.elems ++ n8.elems), s12, s13, s14, e16.key.pfs, e16.key.obj, e16.key.off, e16.made, 2, rfl, A96, c97, A95, c96, A94, c95, none, 0, A65, c66, A66, c67, A67, c68, A68, c69, V25, vr, rfl, ((hh.sub (kp1 (dr2 (kp3 (dr4 (kp15 (kp1 kpr))))))).perm (pt sw0 (pc1 (pt sw0 (pc1 (pt sw0 (pc2 (pt sw0 (pc1 (pt sw0 (pc1 (pt sw0 (pc1 (pt sw0 pz))))))))))))))⟩⟩
          rintro v w' ⟨z42, z43, z44, z45, z46, z47, z48, z49, z50, z51, z52, z53, z54, rfl, A82, c83, A83, c84, A84, c85, A85, c86, A86, c87, A87, c88, A88, c89, A89, c90, V29, hV29, rfl, hh⟩
          try dsimp only at hX17
          let t198_ : List HObj := (row 3 eInt A89 c90 z49) :: t159_
          let t199_ : List HObj := (row 43 eSpot A88 c89 z48) :: t198_
          let t200_ : List HObj := (row 3 eInt A87 c88 z47) :: t199_
          let t201_ : List HObj := (row 28 eElem A86 c87 z46) :: t200_
          let t202_ : List HObj := (row 28 eElem A85 c86 z45) :: t201_
          let t203_ : List HObj := (row 3 eInt A84 c85 z44) :: t202_
          let t204_ : List HObj := (row 43 eSpot A83 c84 z43) :: t203_
          let t205_ : List HObj := (row 3 eInt A82 c83 z42) :: t204_
          refine ⟨V29, t205_, hh, ?_⟩
          clear hh
          refine T.pk (.tuple #[.agg #[vi n7.kind, .slice A86 z46.length c87, .slice A87 z47.length c88, .slice A88 z48.length c89, .slice A89 z49.length c90], .agg #[vi z50, vi z51, vi z52, vi z53], .agg #[vi z54, .slice A85 z45.length c86, .slice A84 z44.length c85, .slice A83 z43.length c84, .slice A82 z42.length c83]]) (fun _ => by kernel_rfl) ?_
          let a411_ : Value := .agg #[vi n7.kind, .slice A86 z46.length c87, .slice A87 z47.length c88, .slice A88 z48.length c89, .slice A89 z49.length c90]
          refine T.p2 a411_ (.agg #[vi z50, vi z51, vi z52, vi z53]) (fun _ => by kernel_rfl) ?_
          let a412_ : Value := .agg #[vi z54, .slice A85 z45.length c86, .slice A84 z44.length c85, .slice A83 z43.length c84, .slice A82 z42.length c83]
          refine T.pk a412_ (fun _ => by kernel_rfl) (T.step (W1.np 97 v317_ (fun _ => by kernel_rfl) (fun b46 => ?_)))
          refine T.step (W1.np 43 v315_ (fun _ => by kernel_rfl) (fun b47 => ?_))
          refine T.step (W1.np 97 v317_ (fun _ => by kernel_rfl) (fun b48 => ?_))
          let i206_ : HObj := box b48 97 v317_
          let v376_ : List Value := [vi n7.kind, .slice A86 z46.length c87, .slice A87 z47.length c88, .slice A88 z48.length c89, .slice A89 z49.length c90]
          let i207_ : HObj := box b46 97 v376_
          let t208_ : List HObj := i207_ :: t205_
          refine T.step (W1.st 2 v376_ (i206_ :: (box b47 43 v315_) :: t208_) v376_ (by rfl) rfl rfl rfl rfl rfl rfl (fun _ => by kernel_rfl) ?_)
          let v377_ : List Value := [vi z50, vi z51, vi z52, vi z53]
          let i209_ : HObj := box b47 43 v377_
          refine T.step (W1.st 1 v377_ (i206_ :: i209_ :: t208_) v377_ (by rfl) rfl rfl rfl rfl rfl rfl (fun _ => by kernel_rfl) ?_)
          let v378_ : List Value := [vi z54, .slice A85 z45.length c86, .slice A84 z44.length c85, .slice A83 z43.length c84, .slice A82 z42.length c83]
          let i210_ : HObj := box b48 97 v378_
          refine T.step (W1.st 0 v378_ (i210_ :: i209_ :: t208_) v378_ (by rfl) rfl rfl rfl rfl rfl rfl (fun _ => by kernel_rfl) ?_)
          refine T.nil (T.seq ?_)
          refine T.held (i210_ :: i209_ :: i207_ :: i91_ :: i92_ :: i89_ :: i81_ :: []) (by kernel_rfl) ?_
          have w436_ := vt (vt (vt (vt (vt (vt (vt (vt hV1 hV2) hV3) hV18) hV21) hV23) hV24) hV25) hV29
          refine TA.keep (Hp.old vr w436_ (kp3 (dr9 (kp3 (dr4 (kp1 (dr2 (dr1 kp0))))))) (oB6 (oB1 ol0))) fun o497_ => ?_
          refine TA.tp 0 (pB b17 0) rfl (fun _ => by kernel_rfl) (fun _ _ _ h => h) o497_ ?_
          refine TA.tp 1 (pB b17 0) rfl (fun _ => by kernel_rfl) (fun _ _ _ h => h) o497_ ?_
          refine TA.tp 2 (pB b17 0) rfl (fun _ => by kernel_rfl) (fun _ _ _ h => h) o497_ ?_
          refine TA.tp 3 (pB b17 0) rfl (fun _ => by kernel_rfl) (fun _ _ _ h => h) o497_ ?_
          refine TA.tp 4 (pB b17 1) rfl (fun _ => by kernel_rfl) (fun _ _ _ h => h) o497_ ?_
          refine TA.tk 5 (.slice A21 c28.length c21) rfl (by kernel_rfl) (fun _ _ _ h => h) o497_ (ld1 6 rfl rfl (fun _ => by kernel_rfl) (by rfl) rfl) ?_
          refine TA.tp 6 (vi e12) rfl (fun _ => by kernel_rfl) (fun _ _ _ h => h) o497_ ?_
          refine TA.tp 7 (pB b17 0) rfl (fun _ => by kernel_rfl) (fun _ _ _ h => h) o497_ ?_
          refine TA.tp 8 (pB b17 0) rfl (fun _ => by kernel_rfl) (fun _ _ _ h => h) o497_ ?_
          refine TA.tp 9 (pB b17 0) rfl (fun _ => by kernel_rfl) (fun _ _ _ h => h) o497_ ?_
          refine TA.tp 10 (pB b17 0) rfl (fun _ => by kernel_rfl) (fun _ _ _ h => h) o497_ ?_
          refine TA.tp 11 (pB b17 1) rfl (fun _ => by kernel_rfl) (fun _ _ _ h => h) o497_ ?_
          refine TA.tk 12 (.slice A21 c28.length c21) rfl (by kernel_rfl) (fun _ _ _ h => h) o497_ (ld1 6 rfl rfl (fun _ => by kernel_rfl) (by rfl) rfl) ?_
          refine TA.tp 13 (vi e13) rfl (fun _ => by kernel_rfl) (fun _ _ _ h => h) o497_ ?_
          refine TA.tp 14 (pB b24 3) rfl (fun _ => by kernel_rfl) (fun _ _ _ h => h) o497_ ?_
          refine TA.tk 15 (.slice A24 n1.seps.length c24) rfl (by kernel_rfl) (fun _ _ _ h => h) o497_ (ld1 4 rfl rfl (fun _ => by kernel_rfl) (by rfl) rfl) ?_
          refine TA.tp 16 (vi z35) rfl (fun _ => by kernel_rfl) (fun _ _ _ h => h) o497_ ?_
          refine TA.tk 17 a411_ rfl (by kernel_rfl) (fun _ _ _ h => h) o497_ (ldN 2 rfl rfl (fun _ => by kernel_rfl) (by rfl) rfl) ?_
          refine TA.tk 18 a412_ rfl (by kernel_rfl) (fun _ _ _ h => h) o497_ (ldN 0 rfl rfl (fun _ => by kernel_rfl) (by rfl) rfl) ?_
          refine TA.tk 19 (.agg #[vi z50, vi z51, vi z52, vi z53]) rfl (by kernel_rfl) (fun _ _ _ h => h) o497_ (ldN 1 rfl rfl (fun _ => by kernel_rfl) (by rfl) rfl) ?_
          refine TA.all [20] (by kernel_rfl) rfl ⟨?_, trivial⟩
          obtain ⟨u2, hb66, hX17⟩ := ob hX17
          obtain ⟨hi56, hi57, e17, hx7⟩ := ht8.has hb66
          refine TA.br rfl (W1.look (.pointer (some ((sadr A21).add (e12.toNat * 5)))) (by kernel_rfl) (ixR 20 (e := 97) (s := 5) rfl rfl rfl (fun _ => by kernel_rfl) hi56 hi57 (by rfl) hx7 (by decide)) ?_)
          refine TA.on (Hp.old vr w436_ (kp3 (dr9 (kp3 (dr4 (kp1 (dr2 (dr1 kp0))))))) (oB6 (oB1 ol0))) ?_
          refine TA.all [21] (by kernel_rfl) rfl ⟨?_, trivial⟩
          let d415_ : DHdr := DHdr.mk n7.kind A86 z46.length c87 A87 z47.length c88 A88 z48.length c89 A89 z49.length c90
          refine TA.br rfl (W1.storeRow (E := eHdr) 20 (e12.toNat) 0 e17 d415_ _ (vs := v376_) (by rfl) (by kernel_rfl) rfl rfl (addr_add0 _).symm rfl rfl (fun _ => by kernel_rfl) (one_of rfl) hx7 (Nat.le_of_ble_eq_true (by kernel_rfl)) (fun _ _ h => by cases h; rfl) ?_)
          refine TA.on (Hp.old vr w436_ (kp3 (dr9 (kp3 (dr4 (kp1 (dr2 (dr1 kp0))))))) (oB6 (oB1 ol0))) ?_
          let h423_ : List DHdr := c28.set e12.toNat d415_
          refine T.reslot 75 (.slice A21 (h423_.length) c21) rfl (by simp +zetaDelta only [List.length_set]) ?_
          refine T.reslot 82 (.slice A21 (h423_.length) c21) rfl (by simp +zetaDelta only [List.length_set]) ?_
          let i211_ : HObj := box b17 137 [vi x7, .slice A21 (h423_.length) c21]
          let i212_ : HObj := row 97 eHdr A21 c21 h423_
          refine T.reH (H' := (i210_ :: i209_ :: i207_ :: (row 3 eInt A82 c83 z42) :: (row 43 eSpot A83 c84 z43) :: (row 3 eInt A84 c85 z44) :: (row 28 eElem A85 c86 z45) :: (row 28 eElem A86 c87 z46) :: (row 3 eInt A87 c88 z47) :: (row 43 eSpot A88 c89 z48) :: (row 3 eInt A89 c90 z49) :: i150_ :: i91_ :: i92_ :: i89_ :: i60_ :: (row 3 eInt A23 c23 n1.kids) :: (row 43 eSpot A24 c24 n1.seps) :: i90_ :: i211_ :: i212_ :: t94_)) (by first | (simp +zetaDelta only [List.length_set]; done) | (simp +zetaDelta only [List.length_set]; rfl)) ?_
          let t213_ : List HObj := i212_ :: (marko d1) :: G3
          refine T.putS (ty := (TreeTy.mk 28 3 43)) (i210_ :: i209_ :: i207_ :: (row 3 eInt A82 c83 z42) :: (row 43 eSpot A83 c84 z43) :: (row 3 eInt A84 c85 z44) :: (row 28 eElem A85 c86 z45) :: i150_ :: i91_ :: i92_ :: i89_ :: i60_ :: (row 3 eInt A23 c23 n1.kids) :: (row 43 eSpot A24 c24 n1.seps) :: i90_ :: i211_ :: t213_) d415_ (DNode.mk n7.kind z46 z47 z48 z49) (pt sw6 (pt sw5 (pt sw4 (pt sw3 (pt sw2 (pt sw1 (pt sw0 (pc1 (pt sw6 (pt sw5 (pt sw4 (pt sw3 (pt sw2 (pt sw1 (pt sw0 (pc1 (pt sw6 (pt sw5 (pt sw4 (pt sw3 (pt sw2 (pt sw1 (pt sw0 (pc1 (pt sw6 (pt sw5 (pt sw4 (pt sw3 (pt sw2 (pt sw1 (pt sw0 (pc1 (pt sw16 (pt sw15 (pt sw14 (pt sw13 (pt sw12 (pt sw11 (pt sw10 (pt sw9 (pt sw8 (pt sw7 (pt sw6 (pt sw5 (pt sw4 (pt sw3 (pt sw2 (pt sw1 (pt sw0 pz))))))))))))))))))))))))))))))))))))))))))))))))) ⟨rfl, rfl, rfl, rfl, rfl⟩ hb66 ?_
          have hb67 := nodeAt_put (n := (DNode.mk n7.kind z46 z47 z48 z49)) hb66
          have hx8 := TreeOk.set_at ht8 d415_ hb66
          let i214_ : HObj := treeo (TreeTy.mk 28 3 43) h423_ (putAt (outAt z26 e12) e12 (DNode.mk n7.kind z46 z47 z48 z49))
          refine T.reH (H' := (i214_ :: i210_ :: i209_ :: i207_ :: (row 3 eInt A82 c83 z42) :: (row 43 eSpot A83 c84 z43) :: (row 3 eInt A84 c85 z44) :: (row 28 eElem A85 c86 z45) :: i150_ :: i91_ :: i92_ :: i89_ :: i60_ :: (row 3 eInt A23 c23 n1.kids) :: (row 43 eSpot A24 c24 n1.seps) :: i90_ :: i211_ :: t213_)) (by rfl) ?_
          refine T.tree 0 (by rfl) (fun ht9 => ?_)
          refine TA.all [22] (by kernel_rfl) rfl ⟨?_, trivial⟩
          obtain ⟨u3, hb68, hX17⟩ := ob hX17
          obtain ⟨hi58, hi59, e18, hx9⟩ := ht9.has hb68
          refine TA.br rfl (W1.look (.pointer (some ((sadr A21).add (e13.toNat * 5)))) (by kernel_rfl) (ixR 17 (e := 97) (s := 5) rfl rfl rfl (fun _ => by kernel_rfl) hi58 hi59 (by rfl) hx9 (by decide)) ?_)
          refine TA.on (fun w_ hh_ => Hp.old vr w436_ (dr1 (kp3 (dr5 (kp3 (dr4 (kp1 (dr1 (dr1 kp0)))))))) (oB6 (oB1 ol0)) w_ (show Hp w V29 (i214_ :: i210_ :: i209_ :: i207_ :: (row 3 eInt A82 c83 z42) :: (row 43 eSpot A83 c84 z43) :: (row 3 eInt A84 c85 z44) :: (row 28 eElem A85 c86 z45) :: i150_ :: i91_ :: i92_ :: i89_ :: i60_ :: (row 3 eInt A23 c23 n1.kids) :: (row 43 eSpot A24 c24 n1.seps) :: i90_ :: i81_ :: t213_) w_ from by simp +zetaDelta only [List.length_set] at hh_ ⊢; exact hh_)) ?_
          refine TA.all [23] (by kernel_rfl) rfl ⟨?_, trivial⟩
          let d416_ : DHdr := DHdr.mk z54 A85 z45.length c86 A84 z44.length c85 A83 z43.length c84 A82 z42.length c83
          refine TA.br rfl (W1.storeRow (E := eHdr) 17 (e13.toNat) 0 e18 d416_ _ (vs := v378_) (by rfl) (by kernel_rfl) rfl rfl (addr_add0 _).symm rfl rfl (fun _ => by kernel_rfl) (one_of rfl) hx9 (Nat.le_of_ble_eq_true (by kernel_rfl)) (fun _ _ h => by cases h; rfl) ?_)
          let i215_ : HObj := row 97 eHdr A21 c21 (h423_.set e13.toNat d416_)
          let t216_ : List HObj := i215_ :: (marko d1) :: G3
          let t217_ : List HObj := i81_ :: t216_
          let t218_ : List HObj := i90_ :: t217_
          refine TA.on (fun w_ hh_ => Hp.old vr w436_ (dr1 (kp3 (dr5 (kp3 (dr4 (kp1 (dr1 (dr1 kp0)))))))) (oB6 (oB1 ol0)) w_ (show Hp w V29 (i214_ :: i210_ :: i209_ :: i207_ :: (row 3 eInt A82 c83 z42) :: (row 43 eSpot A83 c84 z43) :: (row 3 eInt A84 c85 z44) :: (row 28 eElem A85 c86 z45) :: i150_ :: i91_ :: i92_ :: i89_ :: i60_ :: (row 3 eInt A23 c23 n1.kids) :: (row 43 eSpot A24 c24 n1.seps) :: t218_) w_ from by simp +zetaDelta only [List.length_set] at hh_ ⊢; exact hh_)) ?_
          refine T.reslot 75 (.slice A21 ((h423_.set e13.toNat d416_).length) c21) rfl (by simp +zetaDelta only [List.length_set]) ?_
          refine T.reslot 82 (.slice A21 ((h423_.set e13.toNat d416_).length) c21) rfl (by simp +zetaDelta only [List.length_set]) ?_
          let i219_ : HObj := box b17 137 [vi x7, .slice A21 ((h423_.set e13.toNat d416_).length) c21]
          let t220_ : List HObj := i219_ :: t216_
          let t221_ : List HObj := i90_ :: t220_
          let t222_ : List HObj := (row 43 eSpot A24 c24 n1.seps) :: t221_
          let t223_ : List HObj := (row 3 eInt A23 c23 n1.kids) :: t222_
          let t224_ : List HObj := i60_ :: t223_
          let t225_ : List HObj := i89_ :: t224_
          let t226_ : List HObj := i92_ :: t225_
          let t227_ : List HObj := i91_ :: t226_
          let t228_ : List HObj := i150_ :: t227_
          refine T.reH (H' := (i214_ :: i210_ :: i209_ :: i207_ :: (row 3 eInt A82 c83 z42) :: (row 43 eSpot A83 c84 z43) :: (row 3 eInt A84 c85 z44) :: (row 28 eElem A85 c86 z45) :: t228_)) (by first | (simp +zetaDelta only [List.length_set]; done) | (simp +zetaDelta only [List.length_set]; rfl)) ?_
          refine T.putS (ty := (TreeTy.mk 28 3 43)) (i210_ :: i209_ :: i207_ :: t228_) d416_ (DNode.mk z54 z45 z44 z43 z42) (pt sw6 (pt sw5 (pt sw4 (pt sw3 (pt sw2 (pt sw1 (pt sw0 (pc1 (pt sw5 (pt sw4 (pt sw3 (pt sw2 (pt sw1 (pt sw0 (pc1 (pt sw4 (pt sw3 (pt sw2 (pt sw1 (pt sw0 (pc1 (pt sw3 (pt sw2 (pt sw1 (pt sw0 pz))))))))))))))))))))))))) ⟨rfl, rfl, rfl, rfl, rfl⟩ hb68 ?_
          have hb69 := nodeAt_put (n := (DNode.mk z54 z45 z44 z43 z42)) hb68
          have hx10 := TreeOk.set_at ht9 d416_ hb68
          let i229_ : HObj := treeo (TreeTy.mk 28 3 43) (h423_.set e13.toNat d416_) (putAt (putAt (outAt z26 e12) e12 (DNode.mk n7.kind z46 z47 z48 z49)) e13 (DNode.mk z54 z45 z44 z43 z42))
          refine T.reH (H' := (i229_ :: i210_ :: i209_ :: i207_ :: t228_)) (by rfl) ?_
          refine T.tree 0 (by rfl) (fun ht10 => ?_)
          refine TA.all [24] (by kernel_rfl) rfl ⟨?_, trivial⟩
          obtain ⟨e19, hb70, hX17⟩ := ob hX17
          obtain ⟨hi60, hi61, hi62⟩ := idx_some hb70
          refine TA.br rfl (W1.look (.pointer (some ((sadr A24).add (z35.toNat * 4)))) (by kernel_rfl) (ixR 10 (e := 43) (s := 4) rfl rfl rfl (fun _ => by kernel_rfl) hi60 hi61 (by rfl) hi62 (by decide)) ?_)
          refine TA.on (fun w_ hh_ => Hp.old vr w436_ (dr1 (kp3 (dr1 (kp3 (dr4 (kp1 (dr1 (dr1 kp0)))))))) (oB6 (oB1 ol0)) w_ (show Hp w V29 (i229_ :: i210_ :: i209_ :: i207_ :: i150_ :: i91_ :: i92_ :: i89_ :: i60_ :: (row 3 eInt A23 c23 n1.kids) :: (row 43 eSpot A24 c24 n1.seps) :: t218_) w_ from by simp +zetaDelta only [List.length_set] at hh_ ⊢; exact hh_)) ?_
          refine TA.all [25] (by kernel_rfl) rfl ⟨?_, trivial⟩
          refine TA.br rfl (W1.storeRow (E := eSpot) 10 (z35.toNat) 0 e19 (DSpot.mk (DKey.mk z50 z51 z52) z53) _ (vs := v377_) (by rfl) (by kernel_rfl) rfl rfl (addr_add0 _).symm rfl rfl (fun _ => by kernel_rfl) (one_of rfl) hi62 (Nat.le_of_ble_eq_true (by kernel_rfl)) (fun _ _ h => by cases h; rfl) ?_)
          let i230_ : HObj := row 43 eSpot A24 c24 (n1.seps.set z35.toNat (DSpot.mk (DKey.mk z50 z51 z52) z53))
          refine TA.on (fun w_ hh_ => Hp.old vr w436_ (dr1 (kp3 (dr1 (kp3 (dr4 (kp1 (dr1 (dr1 kp0)))))))) (oB6 (oB1 ol0)) w_ (show Hp w V29 (i229_ :: i210_ :: i209_ :: i207_ :: i150_ :: i91_ :: i92_ :: i89_ :: i60_ :: (row 3 eInt A23 c23 n1.kids) :: i230_ :: t218_) w_ from by simp +zetaDelta only [List.length_set] at hh_ ⊢; exact hh_)) ?_
          refine T.reslot 85 (.slice A24 ((n1.seps.set z35.toNat (DSpot.mk (DKey.mk z50 z51 z52) z53)).length) c24) rfl (by simp +zetaDelta only [List.length_set]) ?_
          let v379_ : List Value := [vi n1.kind, .slice A22 n1.elems.length c22, .slice A23 n1.kids.length c23, .slice A24 ((n1.seps.set z35.toNat (DSpot.mk (DKey.mk z50 z51 z52) z53)).length) c24, .slice A25 ((n1.tids.set r14.toNat r15).length) c25]
          let i231_ : HObj := box b24 97 v379_
          let i232_ : HObj := box b19 97 v379_
          refine T.reH (H' := (i229_ :: i210_ :: i209_ :: i207_ :: i150_ :: i91_ :: i231_ :: i232_ :: i60_ :: (row 3 eInt A23 c23 n1.kids) :: i230_ :: t221_)) (by first | (simp +zetaDelta only [List.length_set]; done) | (simp +zetaDelta only [List.length_set]; rfl)) ?_
          refine TA.done (by kernel_rfl) ?_
          refine T.heldL 7 (i210_ :: i91_ :: i231_ :: i232_ :: i60_ :: (row 3 eInt A23 c23 n1.kids) :: i230_ :: i90_ :: i219_ :: i215_ :: []) (by kernel_rfl) ?_
          refine TL.keep (Hp.old vr w436_ (dr1 (kp1 (dr3 (kp9 (dr1 kp0))))) (oB4 (oR4 (oB1 (oR1 ol0))))) fun o498_ => ?_
          refine TL.tv 0 (pB b24 4) rfl (fun _ => by kernel_rfl) (fun _ _ _ h => h) o498_ ?_
          refine TL.tk 1 (.slice A25 ((n1.tids.set r14.toNat r15).length) c25) [] rfl (by kernel_rfl) (fun _ _ _ h => h) o498_ (ld1 2 rfl rfl (fun _ => by kernel_rfl) (by rfl) rfl) ?_
          refine TL.tv 2 (vi z35) rfl (fun _ => by kernel_rfl) (fun _ _ _ h => h) o498_ ?_
          refine TL.tv 3 (vi (IntKind.i64.wrap (z35 + 1))) rfl (fun _ => by kernel_rfl) (fun _ _ _ h => h) o498_ ?_
          refine TL.tk 4 a412_ [] rfl (by kernel_rfl) (fun _ _ _ h => h) o498_ (ldN 0 rfl rfl (fun _ => by kernel_rfl) (by rfl) rfl) ?_
          refine TL.all [5] (by kernel_rfl) rfl ⟨?_, trivial⟩
          obtain ⟨r29, hb71, hX17⟩ := ob hX17
          refine TL.br rfl (W1.call (vSc eInt) r29 60 #[a412_] (by kernel_rfl) (fun _ => by kernel_rfl) (fun w' hh => node_Greatest_l F (DNode.mk z54 z45 z44 z43 z42) r29 hb71 w' A85 c86 (hh.lent (i := 0) (by rfl) hb69 hx10).1 A84 c85 (hh.lent (i := 0) (by rfl) hb69 hx10).2.1 A83 c84 (hh.lent (i := 0) (by rfl) hb69 hx10).2.2.1 A82 c83 (hh.lent (i := 0) (by rfl) hb69 hx10).2.2.2) ?_)
          intro u V31 hV31 hu
          obtain rfl := sureInt _ _ _ hu
          refine TL.onk (Hp.old hV31 w436_ (dr1 (kp1 (dr3 (kp9 (dr1 kp0))))) (oB4 (oR4 (oB1 (oR1 ol0))))) fun o499_ => ?_
          obtain ⟨e20, hb72, hX17⟩ := ob hX17
          obtain ⟨hi63, hi64, hi65⟩ := idx_some hb72
          refine TL.tk 6 (.pointer (some ((sadr A25).add (((IntKind.i64.wrap (z35 + 1)).toNat) * 1)))) [] rfl (by kernel_rfl) (fun _ _ _ h => h) o499_ (ixR 7 (e := 3) (s := 1) rfl rfl rfl (fun _ => by kernel_rfl) hi63 hi64 (by rfl) hi65 (by decide)) ?_
          refine TL.all [7] (by kernel_rfl) rfl ⟨?_, trivial⟩
          refine TL.br rfl (W1.storeRow (E := eInt) 11 ((IntKind.i64.wrap (z35 + 1)).toNat) 0 e20 r29 _ (vs := [vi r29]) (by rfl) (by kernel_rfl) rfl rfl (addr_add0 _).symm rfl rfl (fun _ => by kernel_rfl) (one_of rfl) hi65 (Nat.le_of_ble_eq_true (by kernel_rfl)) (fun _ _ h => by cases h; rfl) ?_)
          refine TL.onW (by kernel_rfl) ?_
          refine T.reslot 94 (.slice A25 (((n1.tids.set r14.toNat r15).set ((IntKind.i64.wrap (z35 + 1)).toNat) r29).length) c25) rfl (by simp +zetaDelta only [List.length_set]) ?_
          let v380_ : List Value := [vi n1.kind, .slice A22 n1.elems.length c22, .slice A23 n1.kids.length c23, .slice A24 ((n1.seps.set z35.toNat (DSpot.mk (DKey.mk z50 z51 z52) z53)).length) c24, .slice A25 (((n1.tids.set r14.toNat r15).set ((IntKind.i64.wrap (z35 + 1)).toNat) r29).length) c25]
          refine T.reH (H' := (i229_ :: i210_ :: i209_ :: i207_ :: i150_ :: i91_ :: (box b24 97 v380_) :: (box b19 97 v380_) :: i60_ :: (row 3 eInt A23 c23 n1.kids) :: i230_ :: (row 3 eInt A25 c25 ((n1.tids.set r14.toNat r15).set ((IntKind.i64.wrap (z35 + 1)).toNat) r29)) :: t220_)) (by first | (simp +zetaDelta only [List.length_set]; done) | (simp +zetaDelta only [List.length_set]; rfl)) ?_
          refine TL.done (by kernel_rfl) ?_
          cases hX17
          exact fun a w' hf hh => ⟨n1.kids, (n1.seps.set z35.toNat (DSpot.mk (DKey.mk z50 z51 z52) z53)), ((n1.tids.set r14.toNat r15).set ((IntKind.i64.wrap (z35 + 1)).toNat) r29), (putAt (putAt (outAt z26 e12) e12 (DNode.mk n7.kind z46 z47 z48 z49)) e13 (DNode.mk z54 z45 z44 z43 z42)), rfl, A23, c23, A24, c24, A25, c25, A24, ((n1.seps.set z35.toNat (DSpot.mk (DKey.mk z50 z51 z52) z53)).length), c24, A25, (((n1.tids.set r14.toNat r15).set ((IntKind.i64.wrap (z35 + 1)).toNat) r29).length), c25, (h423_.set e13.toNat d416_), V31, (vt hV29 hV31), (Fr.sel hf rfl), ((hh.sub (kp1 (dr4 (kp9 (kp1 kpr))))).perm (pt sw0 (pc1 (pt sw0 (pc1 (pt sw0 (pc1 (pt sw0 (pc1 (pt sw0 (pc1 (pt sw0 (pc1 (pt sw0 (pc1 (pt sw0 (pc1 (pt sw0 pz))))))))))))))))))⟩
         rw [hc19, cond_false] at hX17
         refine T.seq ?_
         refine T.heldL 17 (i150_ :: i151_ :: i152_ :: (row 43 eSpot A67 c68 z36) :: i153_ :: i91_ :: i92_ :: i89_ :: i60_ :: (row 3 eInt A23 c23 n1.kids) :: (row 43 eSpot A24 c24 n1.seps) :: i90_ :: t87_) (by kernel_rfl) ?_
         have w437_ := vt (vt (vt (vt (vt (vt (vt hV1 hV2) hV3) hV18) hV21) hV23) hV24) hV25
         refine TL.keep (Hp.old vr w437_ (kp14 (dr1 (dr1 kp0))) (oB1 (oR4 (oB3 (oR4 (oB1 (oR1 ol0))))))) fun o500_ => ?_
         refine TL.tv 0 (pB b17 0) rfl (fun _ => by kernel_rfl) (fun _ _ _ h => h) o500_ ?_
         refine TL.tv 1 (pB b17 0) rfl (fun _ => by kernel_rfl) (fun _ _ _ h => h) o500_ ?_
         refine TL.tv 2 (pB b17 0) rfl (fun _ => by kernel_rfl) (fun _ _ _ h => h) o500_ ?_
         refine TL.tv 3 (pB b17 0) rfl (fun _ => by kernel_rfl) (fun _ _ _ h => h) o500_ ?_
         refine TL.tv 4 (pB b17 1) rfl (fun _ => by kernel_rfl) (fun _ _ _ h => h) o500_ ?_
         refine TL.tk 5 (.slice A21 c28.length c21) [] rfl (by kernel_rfl) (fun _ _ _ h => h) o500_ (ld1 12 rfl rfl (fun _ => by kernel_rfl) (by rfl) rfl) ?_
         refine TL.tv 6 (vi e12) rfl (fun _ => by kernel_rfl) (fun _ _ _ h => h) o500_ ?_
         refine TL.tv 7 (pB b17 0) rfl (fun _ => by kernel_rfl) (fun _ _ _ h => h) o500_ ?_
         refine TL.tv 8 (pB b17 0) rfl (fun _ => by kernel_rfl) (fun _ _ _ h => h) o500_ ?_
         refine TL.tv 9 (pB b17 0) rfl (fun _ => by kernel_rfl) (fun _ _ _ h => h) o500_ ?_
         refine TL.tv 10 (pB b17 0) rfl (fun _ => by kernel_rfl) (fun _ _ _ h => h) o500_ ?_
         refine TL.tv 11 (pB b17 1) rfl (fun _ => by kernel_rfl) (fun _ _ _ h => h) o500_ ?_
         refine TL.tk 12 (.slice A21 c28.length c21) [] rfl (by kernel_rfl) (fun _ _ _ h => h) o500_ (ld1 12 rfl rfl (fun _ => by kernel_rfl) (by rfl) rfl) ?_
         refine TL.tv 13 (vi e13) rfl (fun _ => by kernel_rfl) (fun _ _ _ h => h) o500_ ?_
         refine TL.tk 14 (.agg #[vi n7.kind, .slice A65 ((n7.elems ++ n8.elems).length) c66, .slice A66 ((n7.kids ++ n8.kids).length) c67, .slice A67 z36.length c68, .slice A68 ((n7.tids ++ n8.tids).length) c69]) [] rfl (by kernel_rfl) (fun _ _ _ h => h) o500_ (ldN 0 rfl rfl (fun _ => by kernel_rfl) (by rfl) rfl) ?_
         refine TL.tv 15 (.agg #[vi 0, sN, sN, sN, sN]) rfl (fun _ => by kernel_rfl) (fun _ _ _ h => h) o500_ ?_
         obtain ⟨u4, hb73, hX17⟩ := ob hX17
         obtain ⟨hi66, hi67, e21, hx11⟩ := ht8.has hb73
         refine TL.tk 16 (.pointer (some ((sadr A21).add (e12.toNat * 5)))) [] rfl (by kernel_rfl) (fun _ _ _ h => h) o500_ (ixR 13 (e := 97) (s := 5) rfl rfl rfl (fun _ => by kernel_rfl) hi66 hi67 (by rfl) hx11 (by decide)) ?_
         refine TL.all [17] (by kernel_rfl) rfl ⟨?_, trivial⟩
         let d417_ : DHdr := DHdr.mk n7.kind A65 ((n7.elems ++ n8.elems).length) c66 A66 ((n7.kids ++ n8.kids).length) c67 A67 z36.length c68 A68 ((n7.tids ++ n8.tids).length) c69
         refine TL.br rfl (W1.storeRow (E := eHdr) 13 (e12.toNat) 0 e21 d417_ _ (vs := v353_) (by rfl) (by kernel_rfl) rfl rfl (addr_add0 _).symm rfl rfl (fun _ => by kernel_rfl) (one_of rfl) hx11 (Nat.le_of_ble_eq_true (by kernel_rfl)) (fun _ _ h => by cases h; rfl) ?_)
         refine TL.onW (by kernel_rfl) ?_
         let h424_ : List DHdr := c28.set e12.toNat d417_
         refine T.reslot 105 (.slice A21 (h424_.length) c21) rfl (by simp +zetaDelta only [List.length_set]) ?_
         refine T.reslot 112 (.slice A21 (h424_.length) c21) rfl (by simp +zetaDelta only [List.length_set]) ?_
         let i233_ : HObj := box b17 137 [vi x7, .slice A21 (h424_.length) c21]
         let i234_ : HObj := row 97 eHdr A21 c21 h424_
         refine T.reH (H' := (i150_ :: i151_ :: i152_ :: (row 43 eSpot A67 c68 z36) :: i153_ :: i91_ :: i92_ :: i89_ :: i60_ :: (row 3 eInt A23 c23 n1.kids) :: (row 43 eSpot A24 c24 n1.seps) :: i90_ :: i233_ :: i234_ :: t94_)) (by first | (simp +zetaDelta only [List.length_set]; done) | (simp +zetaDelta only [List.length_set]; rfl)) ?_
         refine T.putS (ty := (TreeTy.mk 28 3 43)) (i150_ :: i91_ :: i92_ :: i89_ :: i60_ :: (row 3 eInt A23 c23 n1.kids) :: (row 43 eSpot A24 c24 n1.seps) :: i90_ :: i233_ :: i234_ :: (marko d1) :: G3) d417_ (DNode.mk n7.kind (n7.elems ++ n8.elems) (n7.kids ++ n8.kids) z36 (n7.tids ++ n8.tids)) (pt sw0 (pc1 (pt sw0 (pc1 (pt sw0 (pc1 (pt sw0 (pc1 (pt sw9 (pt sw8 (pt sw7 (pt sw6 (pt sw5 (pt sw4 (pt sw3 (pt sw2 (pt sw1 (pt sw0 pz)))))))))))))))))) ⟨rfl, rfl, rfl, rfl, rfl⟩ hb73 ?_
         have hb74 := nodeAt_put (n := (DNode.mk n7.kind (n7.elems ++ n8.elems) (n7.kids ++ n8.kids) z36 (n7.tids ++ n8.tids))) hb73
         have hx12 := TreeOk.set_at ht8 d417_ hb73
         let i235_ : HObj := treeo (TreeTy.mk 28 3 43) h424_ (putAt (outAt z26 e12) e12 (DNode.mk n7.kind (n7.elems ++ n8.elems) (n7.kids ++ n8.kids) z36 (n7.tids ++ n8.tids)))
         refine T.reH (H' := (i235_ :: i150_ :: i91_ :: i92_ :: i89_ :: i60_ :: (row 3 eInt A23 c23 n1.kids) :: (row 43 eSpot A24 c24 n1.seps) :: i90_ :: i233_ :: i234_ :: (marko d1) :: G3)) (by rfl) ?_
         refine T.tree 0 (by rfl) (fun ht11 => ?_)
         refine TL.all [18] (by kernel_rfl) rfl ⟨?_, trivial⟩
         obtain ⟨u5, hb75, hX17⟩ := ob hX17
         obtain ⟨hi68, hi69, e22, hx13⟩ := ht11.has hb75
         refine TL.br rfl (W1.look (.pointer (some ((sadr A21).add (e13.toNat * 5)))) (by kernel_rfl) (ixR 10 (e := 97) (s := 5) rfl rfl rfl (fun _ => by kernel_rfl) hi68 hi69 (by rfl) hx13 (by decide)) ?_)
         refine TL.onW (by kernel_rfl) ?_
         refine TL.all [19] (by kernel_rfl) rfl ⟨?_, trivial⟩
         let d418_ : DHdr := DHdr.mk 0 none 0 0 none 0 0 none 0 0 none 0 0
         refine TL.br rfl (W1.storeRow (E := eHdr) 10 (e13.toNat) 0 e22 d418_ _ (vs := v317_) (by rfl) (by kernel_rfl) rfl rfl (addr_add0 _).symm rfl rfl (fun _ => by kernel_rfl) (one_of rfl) hx13 (Nat.le_of_ble_eq_true (by kernel_rfl)) (fun _ _ h => by cases h; rfl) ?_)
         refine TL.onW (by kernel_rfl) ?_
         refine T.reslot 105 (.slice A21 ((h424_.set e13.toNat d418_).length) c21) rfl (by simp +zetaDelta only [List.length_set]) ?_
         refine T.reslot 112 (.slice A21 ((h424_.set e13.toNat d418_).length) c21) rfl (by simp +zetaDelta only [List.length_set]) ?_
         let i236_ : HObj := box b17 137 [vi x7, .slice A21 ((h424_.set e13.toNat d418_).length) c21]
         let i237_ : HObj := row 97 eHdr A21 c21 (h424_.set e13.toNat d418_)
         let t238_ : List HObj := i237_ :: (marko d1) :: G3
         let t239_ : List HObj := i236_ :: t238_
         let t240_ : List HObj := i90_ :: t239_
         let t241_ : List HObj := (row 43 eSpot A24 c24 n1.seps) :: t240_
         let t242_ : List HObj := (row 3 eInt A23 c23 n1.kids) :: t241_
         let t243_ : List HObj := i60_ :: t242_
         let t244_ : List HObj := i89_ :: t243_
         let t245_ : List HObj := i92_ :: t244_
         let t246_ : List HObj := i91_ :: t245_
         let t247_ : List HObj := i150_ :: t246_
         refine T.reH (H' := (i235_ :: t247_)) (by first | (simp +zetaDelta only [List.length_set]; done) | (simp +zetaDelta only [List.length_set]; rfl)) ?_
         refine T.rownil 28 eElem ?_
         refine T.rownil 3 eInt ?_
         refine T.rownil 43 eSpot ?_
         refine T.rownil 3 eInt ?_
         refine T.putS (ty := (TreeTy.mk 28 3 43)) t247_ d418_ (DNode.mk 0 [] [] [] []) (pt sw2 (pt sw1 (pt sw0 (pc1 (pt sw1 (pt sw0 (pc1 (pt sw0 pz)))))))) ⟨rfl, rfl, rfl, rfl, rfl⟩ hb75 ?_
         have hb76 := nodeAt_put (n := (DNode.mk 0 [] [] [] [])) hb75
         have hx14 := TreeOk.set_at ht11 d418_ hb75
         let i248_ : HObj := treeo (TreeTy.mk 28 3 43) (h424_.set e13.toNat d418_) (putAt (putAt (outAt z26 e12) e12 (DNode.mk n7.kind (n7.elems ++ n8.elems) (n7.kids ++ n8.kids) z36 (n7.tids ++ n8.tids))) e13 (DNode.mk 0 [] [] [] []))
         refine T.reH (H' := (i248_ :: t247_)) (by rfl) ?_
         refine T.tree 0 (by rfl) (fun ht12 => ?_)
         refine TL.done (by kernel_rfl) ?_
         refine T.seq (T.region (T.pk (pB b24 2) (fun _ => by kernel_rfl) (T.look (.slice A23 n1.kids.length c23) (by kernel_rfl) (ld1 3 rfl rfl (fun _ => by kernel_rfl) (by rfl) rfl) ?_)))
         refine T.p4 (vi z35) (vi (IntKind.i64.wrap (z35 + 1))) (vi z35) (vi (IntKind.i64.wrap (z35 + 2))) (fun _ => by kernel_rfl) ?_
         obtain ⟨y30, hb77, hX17⟩ := ob hX17
         obtain ⟨hy1, hy2, hy3, hy4, rfl⟩ := dels_some hb77
         refine T.step (W1.callI 102 [.slice A23 n1.kids.length c23, vi (IntKind.i64.wrap (z35 + 1)), vi (IntKind.i64.wrap (z35 + 2))] (fun v w' => ∃ (A97 : Option Addr) (c98 : Nat), v = .slice A97 (delAt n1.kids (IntKind.i64.wrap (z35 + 1)).toNat (IntKind.i64.wrap (z35 + 2)).toNat).length c98 ∧ Hp w V25 ((row 3 eInt A97 c98 (delAt n1.kids (IntKind.i64.wrap (z35 + 1)).toNat (IntKind.i64.wrap (z35 + 2)).toNat)) :: i248_ :: i150_ :: i91_ :: i92_ :: i89_ :: i60_ :: t241_) w') (by kernel_rfl) (fun _ => by kernel_rfl) (fun w' hh => by have hcall := (own_delete_int _ _ (i248_ :: i150_ :: i91_ :: i92_ :: i89_ :: i60_ :: t241_) w' _ _ _ ((IntKind.i64.wrap (z35 + 1))).toNat ((IntKind.i64.wrap (z35 + 2))).toNat hy3 hy4 (hh.perm (pt sw5 (pt sw4 (pt sw3 (pt sw2 (pt sw1 (pt sw0 pz)))))))); rw [hy1, hy2] at hcall; exact hcall.mono (by rintro e_ w_ ⟨A_, c_, rfl, h_⟩; exact ⟨_, rfl, A_, c_, rfl, h_⟩)) ?_)
         rintro v w' ⟨A97, c98, rfl, hh⟩
         let i249_ : HObj := row 3 eInt A97 c98 (delAt n1.kids (IntKind.i64.wrap (z35 + 1)).toNat (IntKind.i64.wrap (z35 + 2)).toNat)
         refine ⟨V25, (i248_ :: i150_ :: i91_ :: i92_ :: i89_ :: i60_ :: i249_ :: t241_), hh.perm (pt sw0 (pc1 (pt sw0 (pc1 (pt sw0 (pc1 (pt sw0 (pc1 (pt sw0 (pc1 (pt sw0 pz))))))))))), ?_⟩
         clear hh
         refine T.pk (pB b24 2) (fun _ => by kernel_rfl) ?_
         let v381_ : List Value := [vi n1.kind, .slice A22 n1.elems.length c22, .slice A97 ((delAt n1.kids (IntKind.i64.wrap (z35 + 1)).toNat (IntKind.i64.wrap (z35 + 2)).toNat).length) c98, .slice A24 n1.seps.length c24, .slice A25 ((n1.tids.set r14.toNat r15).length) c25]
         let i250_ : HObj := box b24 97 v381_
         refine T.step (W1.st 3 v381_ (i248_ :: i150_ :: i91_ :: i250_ :: i89_ :: i60_ :: i249_ :: t241_) [.slice A97 ((delAt n1.kids (IntKind.i64.wrap (z35 + 1)).toNat (IntKind.i64.wrap (z35 + 2)).toNat).length) c98] (by rfl) rfl rfl rfl rfl rfl rfl (fun _ => by kernel_rfl) ?_)
         refine T.nil (T.seq (T.region (T.pk (pB b24 3) (fun _ => by kernel_rfl) (T.look (.slice A24 n1.seps.length c24) (by kernel_rfl) (ld1 3 rfl rfl (fun _ => by kernel_rfl) (by rfl) rfl) ?_))))
         refine T.p3 (vi z35) (vi z35) (vi (IntKind.i64.wrap (z35 + 1))) (fun _ => by kernel_rfl) ?_
         obtain ⟨y31, hb78, hX17⟩ := ob hX17
         obtain ⟨hy5, hy6, hy7, hy8, rfl⟩ := dels_some hb78
         refine T.step (W1.callI 103 [.slice A24 n1.seps.length c24, vi z35, vi (IntKind.i64.wrap (z35 + 1))] (fun v w' => ∃ (A98 : Option Addr) (c99 : Nat), v = .slice A98 (delAt n1.seps z35.toNat (IntKind.i64.wrap (z35 + 1)).toNat).length c99 ∧ Hp w V25 ((row 43 eSpot A98 c99 (delAt n1.seps z35.toNat (IntKind.i64.wrap (z35 + 1)).toNat)) :: i248_ :: i150_ :: i91_ :: i250_ :: i89_ :: i60_ :: i249_ :: t240_) w') (by kernel_rfl) (fun _ => by kernel_rfl) (fun w' hh => by have hcall := (own_delete_Spot _ _ (i248_ :: i150_ :: i91_ :: i250_ :: i89_ :: i60_ :: i249_ :: t240_) w' _ _ _ (z35).toNat ((IntKind.i64.wrap (z35 + 1))).toNat hy7 hy8 (hh.perm (pt sw6 (pt sw5 (pt sw4 (pt sw3 (pt sw2 (pt sw1 (pt sw0 pz))))))))); rw [hy5, hy6] at hcall; exact hcall.mono (by rintro e_ w_ ⟨A_, c_, rfl, h_⟩; exact ⟨_, rfl, A_, c_, rfl, h_⟩)) ?_)
         rintro v w' ⟨A98, c99, rfl, hh⟩
         let i251_ : HObj := row 43 eSpot A98 c99 (delAt n1.seps z35.toNat (IntKind.i64.wrap (z35 + 1)).toNat)
         refine ⟨V25, (i248_ :: i150_ :: i91_ :: i250_ :: i89_ :: i60_ :: i249_ :: i251_ :: t240_), hh.perm (pt sw0 (pc1 (pt sw0 (pc1 (pt sw0 (pc1 (pt sw0 (pc1 (pt sw0 (pc1 (pt sw0 (pc1 (pt sw0 pz))))))))))))), ?_⟩
         clear hh
         refine T.pk (pB b24 3) (fun _ => by kernel_rfl) ?_
         let v382_ : List Value := [vi n1.kind, .slice A22 n1.elems.length c22, .slice A97 ((delAt n1.kids (IntKind.i64.wrap (z35 + 1)).toNat (IntKind.i64.wrap (z35 + 2)).toNat).length) c98, .slice A98 ((delAt n1.seps z35.toNat (IntKind.i64.wrap (z35 + 1)).toNat).length) c99, .slice A25 ((n1.tids.set r14.toNat r15).length) c25]
         let i252_ : HObj := box b24 97 v382_
         refine T.step (W1.st 3 v382_ (i248_ :: i150_ :: i91_ :: i252_ :: i89_ :: i60_ :: i249_ :: i251_ :: t240_) [.slice A98 ((delAt n1.seps z35.toNat (IntKind.i64.wrap (z35 + 1)).toNat).length) c99] (by rfl) rfl rfl rfl rfl rfl rfl (fun _ => by kernel_rfl) ?_)
         refine T.nil (T.region (T.pk (pB b24 4) (fun _ => by kernel_rfl) (T.look (.slice A25 ((n1.tids.set r14.toNat r15).length) c25) (by kernel_rfl) (ld1 3 rfl rfl (fun _ => by kernel_rfl) (by rfl) rfl) ?_)))
         refine T.p4 (vi z35) (vi (IntKind.i64.wrap (z35 + 1))) (vi z35) (vi (IntKind.i64.wrap (z35 + 2))) (fun _ => by kernel_rfl) ?_
         obtain ⟨y32, hb79, hX17⟩ := ob hX17
         obtain ⟨hy9, hy10, hy11, hy12, rfl⟩ := dels_some hb79
         refine T.step (W1.callI 102 [.slice A25 ((n1.tids.set r14.toNat r15).length) c25, vi (IntKind.i64.wrap (z35 + 1)), vi (IntKind.i64.wrap (z35 + 2))] (fun v w' => ∃ (A99 : Option Addr) (c100 : Nat), v = .slice A99 (delAt (n1.tids.set r14.toNat r15) (IntKind.i64.wrap (z35 + 1)).toNat (IntKind.i64.wrap (z35 + 2)).toNat).length c100 ∧ Hp w V25 ((row 3 eInt A99 c100 (delAt (n1.tids.set r14.toNat r15) (IntKind.i64.wrap (z35 + 1)).toNat (IntKind.i64.wrap (z35 + 2)).toNat)) :: i248_ :: i150_ :: i91_ :: i252_ :: i89_ :: i60_ :: i249_ :: i251_ :: t239_) w') (by kernel_rfl) (fun _ => by kernel_rfl) (fun w' hh => by have hcall := (own_delete_int _ _ (i248_ :: i150_ :: i91_ :: i252_ :: i89_ :: i60_ :: i249_ :: i251_ :: t239_) w' _ _ _ ((IntKind.i64.wrap (z35 + 1))).toNat ((IntKind.i64.wrap (z35 + 2))).toNat hy11 hy12 (hh.perm (pt sw7 (pt sw6 (pt sw5 (pt sw4 (pt sw3 (pt sw2 (pt sw1 (pt sw0 pz)))))))))); rw [hy9, hy10] at hcall; exact hcall.mono (by rintro e_ w_ ⟨A_, c_, rfl, h_⟩; exact ⟨_, rfl, A_, c_, rfl, h_⟩)) ?_)
         rintro v w' ⟨A99, c100, rfl, hh⟩
         let i253_ : HObj := row 3 eInt A99 c100 (delAt (n1.tids.set r14.toNat r15) (IntKind.i64.wrap (z35 + 1)).toNat (IntKind.i64.wrap (z35 + 2)).toNat)
         refine ⟨V25, (i248_ :: i150_ :: i91_ :: i252_ :: i89_ :: i60_ :: i249_ :: i251_ :: i253_ :: t239_), hh.perm (pt sw0 (pc1 (pt sw0 (pc1 (pt sw0 (pc1 (pt sw0 (pc1 (pt sw0 (pc1 (pt sw0 (pc1 (pt sw0 (pc1 (pt sw0 pz))))))))))))))), ?_⟩
         clear hh
         refine T.pk (pB b24 4) (fun _ => by kernel_rfl) ?_
         let v383_ : List Value := [vi n1.kind, .slice A22 n1.elems.length c22, .slice A97 ((delAt n1.kids (IntKind.i64.wrap (z35 + 1)).toNat (IntKind.i64.wrap (z35 + 2)).toNat).length) c98, .slice A98 ((delAt n1.seps z35.toNat (IntKind.i64.wrap (z35 + 1)).toNat).length) c99, .slice A99 ((delAt (n1.tids.set r14.toNat r15) (IntKind.i64.wrap (z35 + 1)).toNat (IntKind.i64.wrap (z35 + 2)).toNat).length) c100]
         refine T.step (W1.st 3 v383_ (i248_ :: i150_ :: i91_ :: (box b24 97 v383_) :: i89_ :: i60_ :: i249_ :: i251_ :: i253_ :: t239_) [.slice A99 ((delAt (n1.tids.set r14.toNat r15) (IntKind.i64.wrap (z35 + 1)).toNat (IntKind.i64.wrap (z35 + 2)).toNat).length) c100] (by rfl) rfl rfl rfl rfl rfl rfl (fun _ => by kernel_rfl) ?_)
         refine T.nil ?_
         cases hX17
         exact fun a w' hf hh => ⟨(delAt n1.kids (IntKind.i64.wrap (z35 + 1)).toNat (IntKind.i64.wrap (z35 + 2)).toNat), (delAt n1.seps z35.toNat (IntKind.i64.wrap (z35 + 1)).toNat), (delAt (n1.tids.set r14.toNat r15) (IntKind.i64.wrap (z35 + 1)).toNat (IntKind.i64.wrap (z35 + 2)).toNat), (putAt (putAt (outAt z26 e12) e12 (DNode.mk n7.kind (n7.elems ++ n8.elems) (n7.kids ++ n8.kids) z36 (n7.tids ++ n8.tids))) e13 (DNode.mk 0 [] [] [] [])), rfl, A97, c98, A98, c99, A99, c100, A24, n1.seps.length, c24, A25, ((n1.tids.set r14.toNat r15).length), c25, (h424_.set e13.toNat d418_), V25, vr, (Fr.sel hf rfl), ((hh.sub (kp1 (dr1 (kp9 (kp1 kpr))))).perm (pt sw0 (pc1 (pt sw0 (pc1 (pt sw0 (pc1 (pt sw0 (pc1 (pt sw0 (pc1 (pt sw0 (pc1 (pt sw0 (pc1 (pt sw0 (pc1 (pt sw0 pz))))))))))))))))))⟩
        rintro a w' ⟨z38, z39, z40, z41, rfl, A77, c78, A78, c79, A79, c80, A80, n9, c81, A81, n10, c82, hs14, V28, hV28, hf, hh⟩
        try dsimp only at hX13
        let i254_ : HObj := box b24 97 [vi n1.kind, .slice A22 n1.elems.length c22, .slice A77 z38.length c78, .slice A78 z39.length c79, .slice A79 z40.length c80]
        let i255_ : HObj := box b19 97 [vi n1.kind, .slice A22 n1.elems.length c22, .slice A23 n1.kids.length c23, .slice A80 n9 c81, .slice A81 n10 c82]
        let i256_ : HObj := box b17 137 [vi x7, .slice A21 hs14.length c21]
        let i257_ : HObj := treeo (TreeTy.mk 28 3 43) hs14 z41
        let t258_ : List HObj := i257_ :: (marko d1) :: G3
        let t259_ : List HObj := (row 97 eHdr A21 c21 hs14) :: t258_
        let t260_ : List HObj := i256_ :: t259_
        refine (?_ : T 156 w V28 (i91_ :: i254_ :: i255_ :: i60_ :: (row 3 eInt A77 c78 z38) :: (row 43 eSpot A78 c79 z39) :: (row 3 eInt A79 c80 z40) :: t260_) [(0, pB b17 0), (2, vi z35), (4, pB b24 0), (6, pB b25 0), (7, vi e12)] _) a w' hf hh
        clear hf hh
        refine T.seq ?_
        refine T.tree 9 (by rfl) (fun ht13 => ?_)
        refine T.heldL 14 (i91_ :: i254_ :: i255_ :: i60_ :: (row 3 eInt A77 c78 z38) :: (row 43 eSpot A78 c79 z39) :: (row 3 eInt A79 c80 z40) :: i256_ :: (row 97 eHdr A21 c21 hs14) :: []) (by kernel_rfl) ?_
        have w438_ := vt (vt (vt (vt (vt (vt (vt (vt hV1 hV2) hV3) hV18) hV21) hV23) hV24) hV25) hV28
        refine TL.keep (Hp.old vr w438_ (kp9 (dr1 (dr1 kp0))) (oB3 (oR4 (oB1 (oR1 ol0))))) fun o501_ => ?_
        refine TL.tv 0 (pB b24 4) rfl (fun _ => by kernel_rfl) (fun _ _ _ h => h) o501_ ?_
        refine TL.tk 1 (.slice A79 z40.length c80) [] rfl (by kernel_rfl) (fun _ _ _ h => h) o501_ (ld1 1 rfl rfl (fun _ => by kernel_rfl) (by rfl) rfl) ?_
        refine TL.tv 2 (vi z35) rfl (fun _ => by kernel_rfl) (fun _ _ _ h => h) o501_ ?_
        refine TL.tv 3 (pB b17 0) rfl (fun _ => by kernel_rfl) (fun _ _ _ h => h) o501_ ?_
        refine TL.tv 4 (pB b17 0) rfl (fun _ => by kernel_rfl) (fun _ _ _ h => h) o501_ ?_
        refine TL.tv 5 (pB b17 0) rfl (fun _ => by kernel_rfl) (fun _ _ _ h => h) o501_ ?_
        refine TL.tv 6 (pB b17 0) rfl (fun _ => by kernel_rfl) (fun _ _ _ h => h) o501_ ?_
        refine TL.tv 7 (pB b17 1) rfl (fun _ => by kernel_rfl) (fun _ _ _ h => h) o501_ ?_
        refine TL.tk 8 (.slice A21 hs14.length c21) [] rfl (by kernel_rfl) (fun _ _ _ h => h) o501_ (ld1 7 rfl rfl (fun _ => by kernel_rfl) (by rfl) rfl) ?_
        refine TL.tv 9 (vi e12) rfl (fun _ => by kernel_rfl) (fun _ _ _ h => h) o501_ ?_
        obtain ⟨n15, hb80, hX13⟩ := ob hX13
        obtain ⟨A100, c101, A101, c102, A102, c103, A103, c104, hi70, hi71, hx15⟩ := ht13.at_ hb80
        refine TL.tk 10 (.pointer (some ((sadr A21).add (e12.toNat * 5)))) [] rfl (by kernel_rfl) (fun _ _ _ h => h) o501_ (ixR 8 (e := 97) (s := 5) rfl rfl rfl (fun _ => by kernel_rfl) hi70 hi71 (by rfl) hx15 (by decide)) ?_
        let a413_ : Value := .agg #[vi n15.kind, .slice A100 n15.elems.length c101, .slice A101 n15.kids.length c102, .slice A102 n15.seps.length c103, .slice A103 n15.tids.length c104]
        refine TL.tk 11 a413_ [] rfl (by kernel_rfl) (fun _ _ _ h => h) o501_ (fun w' hh => exec_loadN (cs := [vi n15.kind, .slice A100 n15.elems.length c101, .slice A101 n15.kids.length c102, .slice A102 n15.seps.length c103, .slice A103 n15.tids.length c104]) rfl rfl (by kernel_rfl) (by kernel_rfl) (fun j u hj => (SlOk.wcellF (E := eHdr) (hh.row_slOk (i := 8) (by rfl)) hx15 j (fun _ _ _ h => h) hj))) ?_
        refine TL.all [12] (by kernel_rfl) rfl ⟨?_, trivial⟩
        obtain ⟨r34, hb81, hX13⟩ := ob hX13
        refine TL.br rfl (W1.call (vSc eInt) r34 60 #[a413_] (by kernel_rfl) (fun _ => by kernel_rfl) (fun w' hh => node_Greatest_l F n15 r34 hb81 w' A100 c101 (hh.lent (i := 9) (by rfl) hb80 hx15).1 A101 c102 (hh.lent (i := 9) (by rfl) hb80 hx15).2.1 A102 c103 (hh.lent (i := 9) (by rfl) hb80 hx15).2.2.1 A103 c104 (hh.lent (i := 9) (by rfl) hb80 hx15).2.2.2) ?_)
        intro u V32 hV32 hu
        obtain rfl := sureInt _ _ _ hu
        refine TL.onk (Hp.old hV32 w438_ (kp9 (dr1 (dr1 kp0))) (oB3 (oR4 (oB1 (oR1 ol0))))) fun o502_ => ?_
        obtain ⟨e23, hb82, hX13⟩ := ob hX13
        obtain ⟨hi72, hi73, hi74⟩ := idx_some hb82
        refine TL.tk 13 (.pointer (some ((sadr A79).add (z35.toNat * 1)))) [] rfl (by kernel_rfl) (fun _ _ _ h => h) o502_ (ixR 6 (e := 3) (s := 1) rfl rfl rfl (fun _ => by kernel_rfl) hi72 hi73 (by rfl) hi74 (by decide)) ?_
        refine TL.all [14] (by kernel_rfl) rfl ⟨?_, trivial⟩
        refine TL.br rfl (W1.storeRow (E := eInt) 6 (z35.toNat) 0 e23 r34 _ (vs := [vi r34]) (by rfl) (by kernel_rfl) rfl rfl (addr_add0 _).symm rfl rfl (fun _ => by kernel_rfl) (one_of rfl) hi74 (Nat.le_of_ble_eq_true (by kernel_rfl)) (fun _ _ h => by cases h; rfl) ?_)
        refine TL.onW (by kernel_rfl) ?_
        refine T.reslot 142 (.slice A79 ((z40.set z35.toNat r34).length) c80) rfl (by simp +zetaDelta only [List.length_set]) ?_
        let v384_ : List Value := [vi n1.kind, .slice A22 n1.elems.length c22, .slice A77 z38.length c78, .slice A78 z39.length c79, .slice A79 ((z40.set z35.toNat r34).length) c80]
        let i261_ : HObj := box b24 97 v384_
        let i262_ : HObj := row 3 eInt A79 c80 (z40.set z35.toNat r34)
        refine T.reH (H' := (i91_ :: i261_ :: i255_ :: i60_ :: (row 3 eInt A77 c78 z38) :: (row 43 eSpot A78 c79 z39) :: i262_ :: t260_)) (by first | (simp +zetaDelta only [List.length_set]; done) | (simp +zetaDelta only [List.length_set]; rfl)) ?_
        refine TL.done (by kernel_rfl) ?_
        refine T.seq (T.region (T.look (.agg #[vi n1.kind, .slice A22 n1.elems.length c22, .slice A77 z38.length c78, .slice A78 z39.length c79, .slice A79 ((z40.set z35.toNat r34).length) c80]) (by kernel_rfl) (ldN 1 rfl rfl (fun _ => by kernel_rfl) (by rfl) rfl) ?_))
        refine T.step (W1.st 0 v384_ ((box b25 97 v384_) :: i261_ :: i255_ :: i60_ :: (row 3 eInt A77 c78 z38) :: (row 43 eSpot A78 c79 z39) :: i262_ :: t260_) v384_ (by rfl) rfl rfl rfl rfl rfl rfl (fun _ => by kernel_rfl) ?_)
        refine T.nil ?_
        cases hX13
        refine T.ret rfl ?_
        exact T.ret1 rfl (ResIs.cellN 0 rfl (by rfl) (fun _ => by kernel_rfl) (fun _ => by kernel_rfl)) fun w' hh => ⟨_, rfl, ⟨z38, z39, (z40.set z35.toNat r34), z41, rfl, A80, n9, c81, A81, n10, c82, A77, c78, A78, c79, A79, c80, hs14, V32, (vt hV28 hV32), rfl, (hh.sub (dr2 (kp8 (kp1 kpr))))⟩⟩
       rintro v w' ⟨z31, z32, z33, z34, rfl, A35, n5, c36, A36, n6, c37, A37, c38, A38, c39, A39, c40, hs13, V27, hV27, rfl, hh⟩
       try dsimp only at hX12
       let i263_ : HObj := box b17 137 [vi x7, .slice A21 hs13.length c21]
       let i264_ : HObj := treeo (TreeTy.mk 28 3 43) hs13 z34
       refine ⟨V27, ((box b19 97 [vi n1.kind, .slice A22 n1.elems.length c22, .slice A23 n1.kids.length c23, .slice A35 n5 c36, .slice A36 n6 c37]) :: i60_ :: (row 3 eInt A37 c38 z31) :: (row 43 eSpot A38 c39 z32) :: (row 3 eInt A39 c40 z33) :: i263_ :: (row 97 eHdr A21 c21 hs13) :: i264_ :: (marko d1) :: G3), hh, ?_⟩
       clear hh
       let v385_ : List Value := [vi n1.kind, .slice A22 n1.elems.length c22, .slice A37 z31.length c38, .slice A38 z32.length c39, .slice A39 z33.length c40]
       refine T.step (W1.st 0 v385_ ((box b19 97 v385_) :: i60_ :: (row 3 eInt A37 c38 z31) :: (row 43 eSpot A38 c39 z32) :: (row 3 eInt A39 c40 z33) :: i263_ :: (row 97 eHdr A21 c21 hs13) :: i264_ :: (marko d1) :: G3) v385_ (by rfl) rfl rfl rfl rfl rfl rfl (fun _ => by kernel_rfl) ?_)
       refine T.nil ?_
       cases hX12
       exact fun a w' hf hh => ⟨z31, z32, z33, z34, rfl, A37, c38, A38, c39, A39, c40, hs13, V27, hV27, (Fr.sel hf rfl), (hh.sub (kp8 (kp1 kpr)))⟩
      rw [hc16, cond_false] at hX12
      refine T.skip_code ?_
      cases hX12
      exact fun a w' hf hh => ⟨n1.kids, n1.seps, (n1.tids.set r14.toNat r15), z26, rfl, A23, c23, A24, c24, A25, c25, c28, V25, vr, (Fr.sel hf rfl), (hh.sub (dr1 (kp5 (dr1 (kp3 (kp1 kpr))))))⟩
     rintro a w' ⟨z27, z28, z29, z30, rfl, A32, c33, A33, c34, A34, c35, hs12, V26, hV26, hf, hh⟩
     try dsimp only at hS2
     let v386_ : List Value := [vi n1.kind, .slice A22 n1.elems.length c22, .slice A32 z27.length c33, .slice A33 z28.length c34, .slice A34 z29.length c35]
     let i265_ : HObj := box b19 97 v386_
     let i266_ : HObj := box b17 137 [vi x7, .slice A21 hs12.length c21]
     let i267_ : HObj := treeo (TreeTy.mk 28 3 43) hs12 z30
     refine (?_ : T 86 w V26 (i265_ :: i60_ :: (row 3 eInt A32 c33 z27) :: (row 43 eSpot A33 c34 z28) :: (row 3 eInt A34 c35 z29) :: i266_ :: (row 97 eHdr A21 c21 hs12) :: i267_ :: (marko d1) :: G3) [(0, pB b17 0), (1, vi x11), (6, pB b19 0)] _) a w' hf hh
     clear hf hh
     refine T.tree 7 (by rfl) (fun ht14 => ?_)
     refine T.heldL 9 (i265_ :: i60_ :: (row 3 eInt A32 c33 z27) :: (row 43 eSpot A33 c34 z28) :: (row 3 eInt A34 c35 z29) :: i266_ :: (row 97 eHdr A21 c21 hs12) :: []) (by kernel_rfl) ?_
     have w439_ := vt (vt (vt (vt (vt (vt (vt (vt hV1 hV2) hV3) hV18) hV21) hV23) hV24) hV25) hV26
     refine TL.keep (Hp.old vr w439_ (kp7 (dr1 (dr1 kp0))) (oB1 (oR4 (oB1 (oR1 ol0))))) fun o503_ => ?_
     refine TL.tv 0 (pB b17 0) rfl (fun _ => by kernel_rfl) (fun _ _ _ h => h) o503_ ?_
     refine TL.tv 1 (pB b17 0) rfl (fun _ => by kernel_rfl) (fun _ _ _ h => h) o503_ ?_
     refine TL.tv 2 (pB b17 0) rfl (fun _ => by kernel_rfl) (fun _ _ _ h => h) o503_ ?_
     refine TL.tv 3 (pB b17 0) rfl (fun _ => by kernel_rfl) (fun _ _ _ h => h) o503_ ?_
     refine TL.tv 4 (pB b17 1) rfl (fun _ => by kernel_rfl) (fun _ _ _ h => h) o503_ ?_
     refine TL.tk 5 (.slice A21 hs12.length c21) [] rfl (by kernel_rfl) (fun _ _ _ h => h) o503_ (ld1 5 rfl rfl (fun _ => by kernel_rfl) (by rfl) rfl) ?_
     refine TL.tv 6 (vi x11) rfl (fun _ => by kernel_rfl) (fun _ _ _ h => h) o503_ ?_
     refine TL.tk 7 (.agg #[vi n1.kind, .slice A22 n1.elems.length c22, .slice A32 z27.length c33, .slice A33 z28.length c34, .slice A34 z29.length c35]) [] rfl (by kernel_rfl) (fun _ _ _ h => h) o503_ (ldN 0 rfl rfl (fun _ => by kernel_rfl) (by rfl) rfl) ?_
     obtain ⟨u6, hb83, hS2⟩ := ob hS2
     obtain ⟨hi75, hi76, e24, hx16⟩ := ht14.has hb83
     refine TL.tk 8 (.pointer (some ((sadr A21).add (x11.toNat * 5)))) [] rfl (by kernel_rfl) (fun _ _ _ h => h) o503_ (ixR 6 (e := 97) (s := 5) rfl rfl rfl (fun _ => by kernel_rfl) hi75 hi76 (by rfl) hx16 (by decide)) ?_
     refine TL.all [9] (by kernel_rfl) rfl ⟨?_, trivial⟩
     let d419_ : DHdr := DHdr.mk n1.kind A22 n1.elems.length c22 A32 z27.length c33 A33 z28.length c34 A34 z29.length c35
     refine TL.br rfl (W1.storeRow (E := eHdr) 6 (x11.toNat) 0 e24 d419_ _ (vs := v386_) (by rfl) (by kernel_rfl) rfl rfl (addr_add0 _).symm rfl rfl (fun _ => by kernel_rfl) (one_of rfl) hx16 (Nat.le_of_ble_eq_true (by kernel_rfl)) (fun _ _ h => by cases h; rfl) ?_)
     refine TL.onW (by kernel_rfl) ?_
     let h425_ : List DHdr := hs12.set x11.toNat d419_
     refine T.reslot 82 (.slice A21 (h425_.length) c21) rfl (by simp +zetaDelta only [List.length_set]) ?_
     let i268_ : HObj := box b17 137 [vi x7, .slice A21 (h425_.length) c21]
     let i269_ : HObj := row 97 eHdr A21 c21 h425_
     refine T.reH (H' := (i265_ :: i60_ :: (row 3 eInt A32 c33 z27) :: (row 43 eSpot A33 c34 z28) :: (row 3 eInt A34 c35 z29) :: i268_ :: i269_ :: i267_ :: (marko d1) :: G3)) (by first | (simp +zetaDelta only [List.length_set]; done) | (simp +zetaDelta only [List.length_set]; rfl)) ?_
     refine T.putS (ty := (TreeTy.mk 28 3 43)) (i265_ :: i268_ :: i269_ :: (marko d1) :: G3) d419_ (DNode.mk n1.kind n1.elems z27 z28 z29) (pt sw0 (pc1 (pt sw0 (pc1 (pt sw0 (pc1 (pt sw0 (pc1 (pt sw2 (pt sw1 (pt sw0 pz))))))))))) ⟨rfl, rfl, rfl, rfl, rfl⟩ hb83 ?_
     have hb84 := nodeAt_put (n := (DNode.mk n1.kind n1.elems z27 z28 z29)) hb83
     have hx17 := TreeOk.set_at ht14 d419_ hb83
     refine T.reH (H' := ((treeo (TreeTy.mk 28 3 43) h425_ (putAt z30 x11 (DNode.mk n1.kind n1.elems z27 z28 z29))) :: i265_ :: i268_ :: i269_ :: (marko d1) :: G3)) (by rfl) ?_
     refine T.tree 0 (by rfl) (fun ht15 => ?_)
     refine TL.done (by kernel_rfl) ?_
     have hres := Option.some.inj hS2
     subst hres
     exact T.end0 rfl  fun w' hh => ⟨_, rfl, ⟨(putAt z30 x11 (DNode.mk n1.kind n1.elems z27 z28 z29)), rfl, h425_, V26, (vt (vt (vt hV23 hV24) hV25) hV26), rfl, ((hh.sub (kp1 (dr1 (kp2 (kp1 kpr))))).perm (pt sw0 (pc1 (pt sw0 pz))))⟩⟩
    let i270_ : HObj := box b14 24 v313_
    refine TL.br rfl (W1.callI 78 [pB b17 0, vi x7, a395_] (fun v w' => ∃ (q11x : List (Int ⊕ DNode)), q11 = q11x ∧ ∃ (c105 : List DHdr) (V33 : View), View.le V18 V33 ∧ v = .tuple #[] ∧ Hp w V33 ((box b17 137 [vi x7, .slice A21 c105.length c21]) :: (row 97 eHdr A21 c21 c105) :: (treeo (TreeTy.mk 28 3 43) c105 q11x) :: (marko d1) :: i57_ :: i58_ :: i270_ :: i55_ :: i53_ :: t59_) w') (by kernel_rfl) (fun _ => by kernel_rfl) (fun w' hh => hq2 x8 x7 rfl V18 (i57_ :: i58_ :: i270_ :: i55_ :: i53_ :: t59_) w' vr ((hh.sub (kp11 (kp1 kp0))).perm (pc1 (pt sw4 (pt sw3 (pt sw2 (pt sw1 (pt sw0 (pc1 (pt sw4 (pt sw3 (pt sw2 (pt sw1 (pt sw0 (pc1 (pt sw5 (pt sw4 (pt sw3 (pt sw2 (pt sw1 (pt sw0 pz))))))))))))))))))))) ?_)
    rintro v w' ⟨q11x, rfl, c105, V33, hV33, rfl, hh⟩
    try dsimp only at hX6
    let i271_ : HObj := box b17 137 [vi x7, .slice A21 c105.length c21]
    refine ⟨V33, (i271_ :: i57_ :: i58_ :: i270_ :: i55_ :: i53_ :: (row 97 eHdr A21 c21 c105) :: (treeo (TreeTy.mk 28 3 43) c105 q11) :: t52_), (hh.sub (kp11 (kp1 kp0))).perm (pc1 (pt sw2 (pt sw1 (pt sw0 (pc1 (pt sw2 (pt sw1 (pt sw0 (pc1 (pt sw2 (pt sw1 (pt sw0 (pc1 (pt sw2 (pt sw1 (pt sw0 (pc1 (pt sw2 (pt sw1 (pt sw0 (pc3 (pt sw0 pz)))))))))))))))))))))), ?_⟩
    clear hh
    refine TL.onW (by kernel_rfl) ?_
    refine TL.done (by kernel_rfl) ?_
    obtain ⟨q19, hX19, hX6⟩ := ob hX6
    refine T.cut (fun a w' => ∃ (z55 : Int) (z56 : List (Int ⊕ DNode)), q19 = (z55, z56) ∧ ∃ (hs15 : List DHdr), Fr 66 [(4, pB b16 0), (5, pB b17 0)] a ∧ Hp w V33 ((box b17 137 [vi z55, .slice A21 hs15.length c21]) :: i57_ :: i55_ :: i53_ :: (row 97 eHdr A21 c21 hs15) :: (treeo (TreeTy.mk 28 3 43) hs15 z56) :: t52_) w') ?_ ?_
    ·
     refine T.seq ?_
     refine T.tree 7 (by rfl) (fun ht16 => ?_)
     refine T.held (i271_ :: i57_ :: i55_ :: i53_ :: (row 97 eHdr A21 c21 c105) :: t59_) (by kernel_rfl) ?_
     have w440_ := vt (vt (vt (vt hV1 hV2) hV3) hV18) hV33
     refine TA.keep (Hp.old vr w440_ (kp2 (dr2 (kp3 (dr1 (kp1 (dr1 (kp1 (kp1 kp0)))))))) (oB4 (oR2 (oB1 (oB1 ol0))))) fun o504_ => ?_
     refine TA.tp 0 (pB b17 0) rfl (fun _ => by kernel_rfl) (fun _ _ _ h => h) o504_ ?_
     refine TA.tp 1 (pB b17 0) rfl (fun _ => by kernel_rfl) (fun _ _ _ h => h) o504_ ?_
     refine TA.tp 2 (pB b17 0) rfl (fun _ => by kernel_rfl) (fun _ _ _ h => h) o504_ ?_
     refine TA.tp 3 (pB b17 0) rfl (fun _ => by kernel_rfl) (fun _ _ _ h => h) o504_ ?_
     refine TA.tp 4 (pB b17 1) rfl (fun _ => by kernel_rfl) (fun _ _ _ h => h) o504_ ?_
     refine TA.tk 5 (.slice A21 c105.length c21) rfl (by kernel_rfl) (fun _ _ _ h => h) o504_ (ld1 0 rfl rfl (fun _ => by kernel_rfl) (by rfl) rfl) ?_
     refine TA.tp 6 (pB b17 0) rfl (fun _ => by kernel_rfl) (fun _ _ _ h => h) o504_ ?_
     refine TA.tp 7 (pB b17 0) rfl (fun _ => by kernel_rfl) (fun _ _ _ h => h) o504_ ?_
     refine TA.tp 8 (pB b17 0) rfl (fun _ => by kernel_rfl) (fun _ _ _ h => h) o504_ ?_
     refine TA.tp 9 (pB b17 0) rfl (fun _ => by kernel_rfl) (fun _ _ _ h => h) o504_ ?_
     refine TA.tp 10 (pB b17 0) rfl (fun _ => by kernel_rfl) (fun _ _ _ h => h) o504_ ?_
     refine TA.tk 11 (vi x7) rfl (by kernel_rfl) (fun _ _ _ h => h) o504_ (ld1 0 rfl rfl (fun _ => by kernel_rfl) (by rfl) rfl) ?_
     obtain ⟨n17, hb85, hX19⟩ := ob hX19
     obtain ⟨A104, c106, A105, c107, A106, c108, A107, c109, hi77, hi78, hx18⟩ := ht16.at_ hb85
     refine TA.tk 12 (.pointer (some ((sadr A21).add (x7.toNat * 5)))) rfl (by kernel_rfl) (fun _ _ _ h => h) o504_ (ixR 4 (e := 97) (s := 5) rfl rfl rfl (fun _ => by kernel_rfl) hi77 hi78 (by rfl) hx18 (by decide)) ?_
     let v387_ : List Value := [vi n17.kind, .slice A104 n17.elems.length c106, .slice A105 n17.kids.length c107, .slice A106 n17.seps.length c108, .slice A107 n17.tids.length c109]
     refine TA.tk 13 (.agg #[vi n17.kind, .slice A104 n17.elems.length c106, .slice A105 n17.kids.length c107, .slice A106 n17.seps.length c108, .slice A107 n17.tids.length c109]) rfl (by kernel_rfl) (fun _ _ _ h => h) o504_ (fun w' hh => exec_loadN (cs := v387_) rfl rfl (by kernel_rfl) (by kernel_rfl) (fun j u hj => (SlOk.wcellF (E := eHdr) (hh.row_slOk (i := 4) (by rfl)) hx18 j (fun _ _ _ h => h) hj))) ?_
     let d420_ : DHdr := DHdr.mk n17.kind A104 n17.elems.length c106 A105 n17.kids.length c107 A106 n17.seps.length c108 A107 n17.tids.length c109
     refine T.takeN (ty := (TreeTy.mk 28 3 43)) (h := d420_) 7 (by rfl) hb85 hx18 rfl ?_
     let i272_ : HObj := row 28 eElem A104 c106 n17.elems
     let i273_ : HObj := row 3 eInt A105 c107 n17.kids
     let i274_ : HObj := row 43 eSpot A106 c108 n17.seps
     let i275_ : HObj := row 3 eInt A107 c109 n17.tids
     let i276_ : HObj := treeo (TreeTy.mk 28 3 43) c105 (outAt q11 x7)
     let t277_ : List HObj := i276_ :: t52_
     refine T.reH (H' := (i272_ :: i273_ :: i274_ :: i275_ :: i271_ :: i57_ :: i58_ :: i270_ :: i55_ :: i53_ :: (row 97 eHdr A21 c21 c105) :: t277_)) (by rfl) ?_
     refine T.tree 11 (by rfl) (fun ht17 => ?_)
     refine TA.all [14] (by kernel_rfl) rfl ⟨?_, trivial⟩
     let v388_ : List Value := [vi 0, sN, sN, sN, sN]
     refine TA.br rfl (W1.np 97 v388_ (fun _ => by kernel_rfl) (fun b49 => ?_))
     refine TA.on (Hp.old vr w440_ (dr5 (kp2 (dr2 (kp3 (dr1 (kp1 (dr1 (kp1 (kp1 kp0))))))))) (oB4 (oR2 (oB1 (oB1 ol0))))) ?_
     refine TA.all [15] (by kernel_rfl) rfl ⟨?_, trivial⟩
     let i278_ : HObj := box b49 97 v387_
     refine TA.br rfl (W1.st 0 v387_ (i278_ :: i272_ :: i273_ :: i274_ :: i275_ :: i271_ :: i57_ :: i58_ :: i270_ :: i55_ :: i53_ :: (row 97 eHdr A21 c21 c105) :: t277_) v387_ (by rfl) rfl rfl rfl rfl rfl rfl (fun _ => by kernel_rfl) ?_)
     refine TA.on (Hp.old vr w440_ (dr5 (kp2 (dr2 (kp3 (dr1 (kp1 (dr1 (kp1 (kp1 kp0))))))))) (oB4 (oR2 (oB1 (oB1 ol0))))) ?_
     refine TA.done (by kernel_rfl) ?_
     refine T.seq (T.region (T.pk (pB b49 2) (fun _ => by kernel_rfl) (T.look (.slice A105 n17.kids.length c107) (by kernel_rfl) (ld1 0 rfl rfl (fun _ => by kernel_rfl) (by rfl) rfl) ?_)))
     refine T.p2 (vi (n17.kids.length : Int)) (.bool ((n17.kids.length : Int) == 1)) (fun _ => by kernel_rfl) (T.nil ?_)
     refine T.cond ((n17.kids.length : Int) == 1) (by kernel_rfl) (by kernel_rfl) (fun hc21 => ?_) (fun hc21 => ?_)
     ·
      rw [hc21, cond_true] at hX19
      refine T.seq ?_
      refine T.heldL 14 (i278_ :: i272_ :: i273_ :: i274_ :: i275_ :: i271_ :: i57_ :: i55_ :: i53_ :: (row 97 eHdr A21 c21 c105) :: t59_) (by kernel_rfl) ?_
      refine TL.keep (Hp.old vr w440_ (kp7 (dr2 (kp3 (dr1 (kp1 (dr1 (kp1 (kp1 kp0)))))))) (oB1 (oR4 (oB4 (oR2 (oB1 (oB1 ol0))))))) fun o505_ => ?_
      refine TL.tv 0 (pB b17 0) rfl (fun _ => by kernel_rfl) (fun _ _ _ h => h) o505_ ?_
      refine TL.tv 1 (pB b17 0) rfl (fun _ => by kernel_rfl) (fun _ _ _ h => h) o505_ ?_
      refine TL.tv 2 (pB b17 0) rfl (fun _ => by kernel_rfl) (fun _ _ _ h => h) o505_ ?_
      refine TL.tv 3 (pB b17 0) rfl (fun _ => by kernel_rfl) (fun _ _ _ h => h) o505_ ?_
      refine TL.tv 4 (pB b17 1) rfl (fun _ => by kernel_rfl) (fun _ _ _ h => h) o505_ ?_
      refine TL.tk 5 (.slice A21 c105.length c21) [] rfl (by kernel_rfl) (fun _ _ _ h => h) o505_ (ld1 5 rfl rfl (fun _ => by kernel_rfl) (by rfl) rfl) ?_
      refine TL.tv 6 (pB b17 0) rfl (fun _ => by kernel_rfl) (fun _ _ _ h => h) o505_ ?_
      refine TL.tv 7 (pB b17 0) rfl (fun _ => by kernel_rfl) (fun _ _ _ h => h) o505_ ?_
      refine TL.tv 8 (pB b17 0) rfl (fun _ => by kernel_rfl) (fun _ _ _ h => h) o505_ ?_
      refine TL.tv 9 (pB b17 0) rfl (fun _ => by kernel_rfl) (fun _ _ _ h => h) o505_ ?_
      refine TL.tv 10 (pB b17 0) rfl (fun _ => by kernel_rfl) (fun _ _ _ h => h) o505_ ?_
      refine TL.tk 11 (vi x7) [] rfl (by kernel_rfl) (fun _ _ _ h => h) o505_ (ld1 5 rfl rfl (fun _ => by kernel_rfl) (by rfl) rfl) ?_
      refine TL.tv 12 (.agg #[vi 0, sN, sN, sN, sN]) rfl (fun _ => by kernel_rfl) (fun _ _ _ h => h) o505_ ?_
      obtain ⟨u7, hb86, hX19⟩ := ob hX19
      obtain ⟨hi79, hi80, e25, hx19⟩ := ht17.has hb86
      refine TL.tk 13 (.pointer (some ((sadr A21).add (x7.toNat * 5)))) [] rfl (by kernel_rfl) (fun _ _ _ h => h) o505_ (ixR 9 (e := 97) (s := 5) rfl rfl rfl (fun _ => by kernel_rfl) hi79 hi80 (by rfl) hx19 (by decide)) ?_
      refine TL.all [14] (by kernel_rfl) rfl ⟨?_, trivial⟩
      let d421_ : DHdr := DHdr.mk 0 none 0 0 none 0 0 none 0 0 none 0 0
      refine TL.br rfl (W1.storeRow (E := eHdr) 11 (x7.toNat) 0 e25 d421_ _ (vs := v388_) (by rfl) (by kernel_rfl) rfl rfl (addr_add0 _).symm rfl rfl (fun _ => by kernel_rfl) (one_of rfl) hx19 (Nat.le_of_ble_eq_true (by kernel_rfl)) (fun _ _ h => by cases h; rfl) ?_)
      refine TL.onW (by kernel_rfl) ?_
      let h426_ : List DHdr := c105.set x7.toNat d421_
      refine T.reslot 25 (.slice A21 (h426_.length) c21) rfl (by simp +zetaDelta only [List.length_set]) ?_
      refine T.reslot 43 (.slice A21 (h426_.length) c21) rfl (by simp +zetaDelta only [List.length_set]) ?_
      let i279_ : HObj := box b17 137 [vi x7, .slice A21 (h426_.length) c21]
      let i280_ : HObj := row 97 eHdr A21 c21 h426_
      refine T.reH (H' := (i278_ :: i272_ :: i273_ :: i274_ :: i275_ :: i279_ :: i57_ :: i58_ :: i270_ :: i55_ :: i53_ :: i280_ :: t277_)) (by first | (simp +zetaDelta only [List.length_set]; done) | (simp +zetaDelta only [List.length_set]; rfl)) ?_
      refine T.rownil 28 eElem ?_
      refine T.rownil 3 eInt ?_
      refine T.rownil 43 eSpot ?_
      refine T.rownil 3 eInt ?_
      let t281_ : List HObj := i280_ :: t52_
      let t282_ : List HObj := i53_ :: t281_
      let t283_ : List HObj := i55_ :: t282_
      let t284_ : List HObj := i270_ :: t283_
      let t285_ : List HObj := i58_ :: t284_
      let t286_ : List HObj := i57_ :: t285_
      refine T.putS (ty := (TreeTy.mk 28 3 43)) (i278_ :: i272_ :: i273_ :: i274_ :: i275_ :: i279_ :: t286_) d421_ (DNode.mk 0 [] [] [] []) (pt sw2 (pt sw1 (pt sw0 (pc1 (pt sw1 (pt sw0 (pc1 (pt sw0 (pc2 (pt sw11 (pt sw10 (pt sw9 (pt sw8 (pt sw7 (pt sw6 (pt sw5 (pt sw4 (pt sw3 (pt sw2 (pt sw1 (pt sw0 pz))))))))))))))))))))) ⟨rfl, rfl, rfl, rfl, rfl⟩ hb86 ?_
      have hb87 := nodeAt_put (n := (DNode.mk 0 [] [] [] [])) hb86
      have hx20 := TreeOk.set_at ht17 d421_ hb86
      let i287_ : HObj := treeo (TreeTy.mk 28 3 43) h426_ (putAt (outAt q11 x7) x7 (DNode.mk 0 [] [] [] []))
      refine T.reH (H' := (i287_ :: i278_ :: i272_ :: i273_ :: i274_ :: i275_ :: i279_ :: t286_)) (by rfl) ?_
      refine T.tree 0 (by rfl) (fun ht18 => ?_)
      refine TL.done (by kernel_rfl) ?_
      refine T.region (T.p2 (pB b17 0) (pB b49 2) (fun _ => by kernel_rfl) (T.look (.slice A105 n17.kids.length c107) (by kernel_rfl) (ld1 1 rfl rfl (fun _ => by kernel_rfl) (by rfl) rfl) ?_))
      obtain ⟨e26, hb88, hX19⟩ := ob hX19
      obtain ⟨hi81, hi82, hi83⟩ := idx_some hb88
      refine T.look (.pointer (some ((sadr A105).add (((0 : Int).toNat) * 1)))) (by kernel_rfl) (ixR 3 (e := 3) (s := 1) rfl rfl rfl (fun _ => by kernel_rfl) hi81 hi82 (by rfl) hi83 (by decide)) ?_
      refine T.look (vi e26) (by kernel_rfl) (fun w' hh => exec_load1 rfl rfl (by kernel_rfl) (SlOk.wcellF0 (E := eInt) (hh.row_slOk (i := 3) (by rfl)) hi83 (fun _ _ _ h => h) rfl)) ?_
      refine T.p4 (pB b17 0) (pB b17 0) (pB b17 0) (pB b17 0) (fun _ => by kernel_rfl) ?_
      let v389_ : List Value := [vi e26, .slice A21 (h426_.length) c21]
      refine T.step (W1.st 6 v389_ (i287_ :: i278_ :: i272_ :: i273_ :: i274_ :: i275_ :: (box b17 137 v389_) :: t286_) [vi e26] (by rfl) rfl rfl rfl rfl rfl rfl (fun _ => by kernel_rfl) ?_)
      refine T.nil ?_
      cases hX19
      exact fun a w' hf hh => ⟨e26, (putAt (outAt q11 x7) x7 (DNode.mk 0 [] [] [] [])), rfl, h426_, (Fr.sel hf rfl), ((hh.sub (kp1 (dr5 (kp2 (dr2 (kp6 (kp1 kp0))))))).perm (pt sw0 (pc1 (pt sw0 (pc1 (pt sw0 (pc1 (pt sw0 (pc1 (pt sw0 pz))))))))))⟩
     rw [hc21, cond_false] at hX19
     refine T.skip_code ?_
     refine T.putG (ty := (TreeTy.mk 28 3 43)) (i278_ :: i271_ :: i57_ :: i58_ :: i270_ :: i55_ :: i53_ :: (row 97 eHdr A21 c21 c105) :: t52_) d420_ n17 (pt sw0 (pc1 (pt sw0 (pc1 (pt sw0 (pc1 (pt sw0 (pc1 (pt sw7 (pt sw6 (pt sw5 (pt sw4 (pt sw3 (pt sw2 (pt sw1 (pt sw0 pz)))))))))))))))) ⟨rfl, rfl, rfl, rfl, rfl⟩ ht17 hi77 hx18 ?_
     cases hX19
     exact fun a w' hf hh => ⟨x7, (putAt (outAt q11 x7) x7 n17), rfl, c105, (Fr.sel hf rfl), ((hh.sub (kp1 (dr1 (kp2 (dr2 (kp6 (kp1 kp0))))))).perm (pt sw0 (pc1 (pt sw0 (pc1 (pt sw0 (pc1 (pt sw0 (pc1 (pt sw0 pz))))))))))⟩
    rintro a w' ⟨z55, z56, rfl, hs15, hf, hh⟩
    try dsimp only at hX6
    let v390_ : List Value := [vi z55, .slice A21 hs15.length c21]
    let i288_ : HObj := box b17 137 v390_
    let i289_ : HObj := treeo (TreeTy.mk 28 3 43) hs15 z56
    refine (?_ : T 66 w V33 (i288_ :: i57_ :: i55_ :: i53_ :: (row 97 eHdr A21 c21 hs15) :: i289_ :: t52_) [(4, pB b16 0), (5, pB b17 0)] _) a w' hf hh
    clear hf hh
    refine T.seq (T.region (T.p4 (pB b17 0) (pB b17 0) (pB b17 0) (pB b17 0) (fun _ => by kernel_rfl) (T.look (.agg #[vi z55, .slice A21 hs15.length c21]) (by kernel_rfl) (ldN 0 rfl rfl (fun _ => by kernel_rfl) (by rfl) rfl) ?_)))
    refine T.step (W1.st 1 v390_ (i288_ :: (box b16 24 v390_) :: i55_ :: i53_ :: (row 97 eHdr A21 c21 hs15) :: i289_ :: t52_) v390_ (by rfl) rfl rfl rfl rfl rfl rfl (fun _ => by kernel_rfl) ?_)
    refine T.nil ?_
    cases hX6
    refine T.ret rfl ?_
    exact T.ret1 rfl (ResIs.cellN 1 rfl (by rfl) (fun _ => by kernel_rfl) (fun _ => by kernel_rfl)) fun w' hh => ⟨_, rfl, ⟨z56, z55, rfl, hs15, V33, hV33, rfl, (hh.sub (dr2 (kp7 (kp1 kp0))))⟩⟩
   rintro v w' ⟨z15, z16, rfl, hs10, V20, hV20, rfl, hh⟩
   try dsimp only at hY3
   let i290_ : HObj := treeo (TreeTy.mk 28 3 43) hs10 z15
   refine ⟨V20, (i55_ :: i53_ :: (row 97 eHdr A21 c21 hs10) :: i290_ :: t52_), hh, ?_⟩
   clear hh
   let v391_ : List Value := [vi z16, .slice A21 hs10.length c21]
   refine T.step (W1.st 1 v391_ (i55_ :: (box b12 24 v391_) :: (row 97 eHdr A21 c21 hs10) :: i290_ :: t52_) v391_ (by rfl) rfl rfl rfl rfl rfl rfl (fun _ => by kernel_rfl) ?_)
   refine T.nil (T.region (T.p2 (vi (IntKind.i64.wrap (x9 + 1))) (vi (IntKind.i64.wrap (x9 + 1))) (fun _ => by kernel_rfl) (T.nil ?_)))
   cases hY3
   exact fun a w' hf hh => ⟨(z16, z15, IntKind.i64.wrap (x9 + 1)), rfl, z16, z15, (IntKind.i64.wrap (x9 + 1)), rfl, hs10, V20, (vt hV18 hV20), (Fr.sel hf rfl), (hh.sub (dr1 (kp6 (kp1 kp0))))⟩
  rw [hc9, cond_false] at hY3
  refine T.exit ?_
  cases hY3
  cases (hr4 _ rfl)
  exact fun a w' hf hh => ⟨x7, x8, rfl, hs8, V18, hV18, (Fr.sel hf rfl), (hh.sub (kp6 (kp1 kp0)))⟩
 rintro a w' ⟨z13, z14, rfl, hs9, V19, hV19, hf, hh⟩
 try dsimp only at hF
 let v392_ : List Value := [vi z13, .slice A21 hs9.length c21]
 let i291_ : HObj := box b12 24 v392_
 let i292_ : HObj := treeo (TreeTy.mk 28 3 43) hs9 z14
 refine (?_ : T ⟨62, [d1]⟩ w V19 (i291_ :: (row 97 eHdr A21 c21 hs9) :: i292_ :: t52_) [(6, pB b4 0), (11, pB b5 0), (13, pB b12 0)] _) a w' hf hh
 clear hf hh
 refine T.seq ?_
 refine T.tree 2 (by rfl) (fun ht19 => ?_)
 refine T.heldN (i291_ :: (row 97 eHdr A21 c21 hs9) :: (row 43 eSpot A3 c3 z1) :: i45_ :: []) (by kernel_rfl) ?_
 have w441_ := vt (vt (vt hV1 hV2) hV3) hV19
 refine TA.keep (Hp.old vr w441_ (kp2 (dr1 (kp1 (dr1 (kp1 (dr1 kp0)))))) (oB1 (oR2 (oB1 ol0)))) fun o506_ => ?_
 refine TA.tk 0 (.agg #[vi z13, .slice A21 hs9.length c21]) rfl (by kernel_rfl) (fun _ _ _ h => h) o506_ (ldN 0 rfl rfl (fun _ => by kernel_rfl) (by rfl) rfl) ?_
 refine TA.tk 1 (.slice A3 z1.length c3) rfl (by kernel_rfl) (fun _ _ _ h => h) o506_ (ld1 3 rfl rfl (fun _ => by kernel_rfl) (by rfl) rfl) ?_
 refine TA.tp 2 (vi (z1.length : Int)) rfl (fun _ => by kernel_rfl) (fun _ _ _ h => h) o506_ ?_
 refine TA.all [3] (by kernel_rfl) rfl ⟨?_, trivial⟩
 let i293_ : HObj := box b4 24 v392_
 let t294_ : List HObj := i45_ :: i293_ :: []
 let t295_ : List HObj := (marko d1) :: t294_
 let t296_ : List HObj := (row 43 eSpot A3 c3 z1) :: t295_
 refine TA.br rfl (W1.st 6 v392_ (i291_ :: (row 97 eHdr A21 c21 hs9) :: i292_ :: t296_) v392_ (by rfl) rfl rfl rfl rfl rfl rfl (fun _ => by kernel_rfl) ?_)
 refine TA.onk (Hp.old vr w441_ (kp2 (dr1 (kp1 (dr1 (kp1 (dr1 kp0)))))) (oB1 (oR2 (oB1 ol0)))) fun o507_ => ?_
 refine TA.tp 4 (vi (z1.length : Int)) rfl (fun _ => by kernel_rfl) (fun _ _ _ h => h) o507_ ?_
 refine TA.tp 5 (vi 0) rfl (fun _ => by kernel_rfl) (fun _ _ _ h => h) o507_ ?_
 refine TA.done (by kernel_rfl) ?_
 obtain ⟨l2, hb89, hF⟩ := ob hF
 refine T.reH (H' := (i291_ :: (row 97 eHdr A21 c21 hs9) :: (treeo (TreeTy.mk 28 3 43) hs9 (l2.map Sum.inr)) :: t296_)) (by simp +zetaDelta only [allN_some hb89]) ?_
 refine T.freezeTree (ty := (TreeTy.mk 28 3 43)) (tn := 97) (l := l2) (H' := (i291_ :: t296_)) (pt sw0 (pc1 (pt sw0 pz))) (fun V34 hV34 hs16 hl7 => ?_)
 refine T.reslot 59 (.agg #[vi z13, .slice A21 l2.length c21]) rfl (by first | rfl | rw [hl7]) ?_
 let i297_ : HObj := box b12 24 [vi z13, .slice A21 l2.length c21]
 let i298_ : HObj := box b4 24 [vi z13, .slice A21 l2.length c21]
 refine T.reH (H' := (i297_ :: (row 43 eSpot A3 c3 z1) :: (marko d1) :: i45_ :: i298_ :: [])) (by first | rfl | simp +zetaDelta only [hl7]) ?_
 cases hF
 refine T.ret rfl ?_
 refine T.leaveM (i297_ :: (row 43 eSpot A3 c3 z1) :: i45_ :: i298_ :: []) [d1] (fun w' hh => (hh.sub (kp4 (kp1 kp0))).perm (pt sw1 (pt sw0 pz))) ?_
 exact T.ret3 rfl (ResIs.cellN 3 rfl (by rfl) (fun _ => by kernel_rfl) (fun _ => by kernel_rfl)) (ResIs.tmp rfl) (ResIs.tmp rfl) fun w' hh => ⟨_, rfl, hh.below, (vT3.mk (vAg.mk ⟨_, _, rfl, (SlOk.mono hs16 (vt (made_mono vr) (made_fresh hh)))⟩) (show _ from rfl) (show _ from rfl))⟩
end Go.Proofs.Ytcmkdoahkncakaa
