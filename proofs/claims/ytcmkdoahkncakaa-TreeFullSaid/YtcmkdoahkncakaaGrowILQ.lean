/- The Go functions of group GrowI compute the pure functions of that group: written by walkgen.py. Condition of each: the pure function yields a result. -/
import Derived.Test.YtcmkdoahkncakaaSh2Q
import Derived.Test.YtcmkdoahkncakaaLookLQ
import Derived.Test.YtcmkdoahkncakaaCpLQ
import Derived.Test.YtcmkdoahkncakaaAnyLQ
import Derived.Test.YtcmkdoahkncakaaTreeOQ
import Derived.Test.YtcmkdoahkncakaaOwnLQ
import Derived.Test.YtcmkdoahkncakaaClearQ
import Derived.Test.YtcmkdoahkncakaaGrowIFQ
import Derived.Test.YtcmkdoahkncakaaEqLQ
namespace Go.Proofs.Ytcmkdoahkncakaa
set_option linter.unusedVariables false
set_option linter.defProp false
def ipGrowIL_1 := info_parts (P := Try.prog) (e := 97) (z := .agg #[.int .i64 0, .slice none 0 0, .slice none 0 0, .slice none 0 0, .slice none 0 0]) (size := 5) (bytes := 104) (by kernel_rfl)
set_option maxRecDepth 100000 in
set_option maxHeartbeats 4000000 in
theorem grow_Insert_l (F : Nat) (p0 : DTree) (p1 : DElem) (r : DTree × Int) (hF : grow_Insert F p0 p1 = some r) (w : World) (A1 : Option Addr) (c1 : Nat) (hs1 : SlOk (vw w) eNode A1 c1 p0.nodes) :
 Calls Try.prog 29 #[.agg #[.int .i64 p0.root, .slice A1 p0.nodes.length c1], .agg #[.int .i64 p1.key.pfs, .int .i64 p1.key.obj, .int .i64 p1.key.off, .int .i64 p1.made, .int .i64 p1.gone, .string p1.val]] w (Post (vT2 (vAg eTree) (vSc eInt)) r w) := by
 unfold grow_Insert at hF
 let a245_ : Value := .agg #[vi p0.root, .slice A1 p0.nodes.length c1]
 let a246_ : Value := .agg #[vi p1.key.pfs, vi p1.key.obj, vi p1.key.off, vi p1.made, vi p1.gone, .string p1.val]
 refine T.start (l := [a245_, a246_]) Try.func29 rfl rfl rfl ?_
 refine T.seq (T.region ?_)
 let v199_ : List Value := [vi p0.root, .slice A1 p0.nodes.length c1]
 refine T.step (W1.np 24 v199_ (fun _ => by kernel_rfl) (fun b1 => ?_))
 let v200_ : List Value := [vi p1.key.pfs, vi p1.key.obj, vi p1.key.off, vi p1.made, vi p1.gone, .string p1.val]
 refine T.step (W1.np 28 v200_ (fun _ => by kernel_rfl) (fun b2 => ?_))
 let v201_ : List Value := [vi 0, sN]
 refine T.step (W1.np 24 v201_ (fun _ => by kernel_rfl) (fun b3 => ?_))
 refine T.pk (vi 0) (fun _ => by kernel_rfl) (T.nil (T.seq (T.region (T.look a245_ (by kernel_rfl) (ldN 2 rfl rfl (fun _ => by kernel_rfl) (by rfl) rfl) ?_))))
 refine T.look a246_ (by kernel_rfl) (ldN 1 rfl rfl (fun _ => by kernel_rfl) (by rfl) rfl) ?_
 obtain ⟨r1, hb1, hF⟩ := ob hF
 refine T.step (W1.call (vT3 (vSc eInt) (vSc eBool) (vSc eInt)) r1 43 #[a245_, a246_] (by kernel_rfl) (fun _ => by kernel_rfl) (fun w' hh => grow_look_l F p0 p1 r1 hb1 w' A1 c1 (SlOk.mono hs1 hh.view)) ?_)
 intro u V1 hV1 hu
 obtain rfl := (Sure.t3 sureInt sureBool sureInt) _ _ _ hu
 refine T.p7 (.tuple #[vi r1.1, .bool r1.2.1, vi r1.2.2]) (vi r1.1) (.bool r1.2.1) (vi r1.2.2) (vi r1.1) (.bool r1.2.1) (vi r1.2.2) (fun _ => by kernel_rfl) (T.nil (T.seq (T.block (T.seq (T.region (T.p3 (vi r1.2.2) (.bool (r1.2.2 != 0)) (.bool (r1.2.2 != 0)) (fun _ => by kernel_rfl) (T.nil ?_)))))))
 refine T.cond (r1.2.2 != 0) (by kernel_rfl) (by kernel_rfl) (fun hc1 => ?_) (fun hc1 => ?_)
 ·
  rw [hc1, cond_true] at hF
  refine T.seq (T.region (T.p2 (.agg #[vi 0, sN]) (vi r1.2.2) (fun _ => by kernel_rfl) (T.step (W1.st 0 v201_ ((box b3 24 v201_) :: (box b2 28 v200_) :: (box b1 24 v199_) :: []) v201_ (by rfl) rfl rfl rfl rfl rfl rfl (fun _ => by kernel_rfl) ?_))))
  refine T.pk (vi r1.2.2) (fun _ => by kernel_rfl) (T.nil ?_)
  cases hF
  refine T.ret rfl ?_
  exact T.ret2 rfl (ResIs.cellN 0 rfl (by rfl) (fun _ => by kernel_rfl) (fun _ => by kernel_rfl)) (ResIs.tmp rfl) fun w' hh => ⟨_, rfl, hh.below, (vT2.mk (vAg.mk ⟨_, _, rfl, (SlOk.nil _ _)⟩) (show _ from rfl))⟩
 rw [hc1, cond_false] at hF
 refine T.seq (T.region (T.p2 (.bool r1.2.1) (.bool r1.2.1) (fun _ => by kernel_rfl) (T.nil ?_)))
 refine T.cond r1.2.1 (by kernel_rfl) (by kernel_rfl) (fun hc2 => ?_) (fun hc2 => ?_)
 ·
  rw [hc2, cond_true] at hF
  refine T.seq (T.region (T.pk (.agg #[vi 0, sN]) (fun _ => by kernel_rfl) (T.step (W1.st 0 v201_ ((box b3 24 v201_) :: (box b2 28 v200_) :: (box b1 24 v199_) :: []) v201_ (by rfl) rfl rfl rfl rfl rfl rfl (fun _ => by kernel_rfl) ?_))))
  refine T.pk (vi 5) (fun _ => by kernel_rfl) (T.nil ?_)
  cases hF
  refine T.ret rfl ?_
  exact T.ret2 rfl (ResIs.cellN 0 rfl (by rfl) (fun _ => by kernel_rfl) (fun _ => by kernel_rfl)) (ResIs.tmp rfl) fun w' hh => ⟨_, rfl, hh.below, (vT2.mk (vAg.mk ⟨_, _, rfl, (SlOk.nil _ _)⟩) (show _ from rfl))⟩
 rw [hc2, cond_false] at hF
 refine T.seq (T.region (T.p3 (vi r1.1) (.bool (decide ((400 : Int) ≤ r1.1))) (.bool (decide ((400 : Int) ≤ r1.1))) (fun _ => by kernel_rfl) (T.nil ?_)))
 refine T.cond (decide ((400 : Int) ≤ r1.1)) (by kernel_rfl) (by kernel_rfl) (fun hc3 => ?_) (fun hc3 => ?_)
 ·
  rw [hc3, cond_true] at hF
  refine T.seq (T.region (T.pk (.agg #[vi 0, sN]) (fun _ => by kernel_rfl) (T.step (W1.st 0 v201_ ((box b3 24 v201_) :: (box b2 28 v200_) :: (box b1 24 v199_) :: []) v201_ (by rfl) rfl rfl rfl rfl rfl rfl (fun _ => by kernel_rfl) ?_))))
  refine T.pk (vi 8) (fun _ => by kernel_rfl) (T.nil ?_)
  cases hF
  refine T.ret rfl ?_
  exact T.ret2 rfl (ResIs.cellN 0 rfl (by rfl) (fun _ => by kernel_rfl) (fun _ => by kernel_rfl)) (ResIs.tmp rfl) fun w' hh => ⟨_, rfl, hh.below, (vT2.mk (vAg.mk ⟨_, _, rfl, (SlOk.nil _ _)⟩) (show _ from rfl))⟩
 rw [hc3, cond_false] at hF
 refine T.skip_code ?_
 refine T.seq (T.region (T.look a245_ (by kernel_rfl) (ldN 2 rfl rfl (fun _ => by kernel_rfl) (by rfl) rfl) ?_))
 obtain ⟨r2, hb2, hF⟩ := ob hF
 refine T.step (W1.callG 44 #[a245_] (fun p : Option Addr × Nat × List DHdr => .agg #[vi r2.root, .slice p.1 p.2.2.length p.2.1]) (fun p => ((row 97 eHdr p.1 p.2.1 p.2.2) :: (treeo (TreeTy.mk 28 3 43) p.2.2 (r2.nodes.map Sum.inr)) :: [])) (fun p => p.2.2.length = r2.nodes.length) (by kernel_rfl) (fun _ => by kernel_rfl) (fun w' hh => tree_Copy_l F p0 r2 hb2 w' A1 c1 (SlOk.mono (SlOk.mono hs1 hV1) hh.view)) ?_)
 rintro ⟨A2, c2, hs2⟩ hl1
 let i1_ : HObj := box b3 24 v201_
 let i2_ : HObj := box b2 28 v200_
 let i3_ : HObj := box b1 24 v199_
 let t4_ : List HObj := i2_ :: i3_ :: []
 let t5_ : List HObj := i1_ :: t4_
 refine T.reH (H' := ((row 97 eHdr A2 c2 hs2) :: (treeo (TreeTy.mk 28 3 43) hs2 (r2.nodes.map Sum.inr)) :: t5_)) (by rfl) ?_
 let a247_ : Value := .agg #[vi r2.root, .slice A2 hs2.length c2]
 refine T.pk a247_ (fun _ => by kernel_rfl) (T.step (W1.np 83 [vi r2.root, .slice A2 hs2.length c2] (fun _ => by kernel_rfl) (fun b4 => ?_)))
 refine T.pk (pB b4 0) (fun _ => by kernel_rfl) (T.nil (T.seq ?_))
 refine T.tree 2 (by rfl) (fun ht1 => ?_)
 refine T.region (T.pk (pB b4 0) (fun _ => by kernel_rfl) (T.look a246_ (by kernel_rfl) (ldN 4 rfl rfl (fun _ => by kernel_rfl) (by rfl) rfl) ?_))
 obtain ⟨q1, hX1, hF⟩ := ob hF
 let t6_ : List HObj := i1_ :: i2_ :: []
 refine T.step (W1.within 56 [pB b4 0, a246_] (fun v w' => ∃ (z1 : Int) (z2 : List (Int ⊕ DNode)), q1 = (z1, z2) ∧ ∃ (hs3 : List DHdr) (A3 : Option Addr) (c3 : Nat) (V2 : View), View.le V1 V2 ∧ v = .tuple #[] ∧ Hp w V2 ((box b4 83 [vi z1, .slice A3 hs3.length c3]) :: (row 97 eHdr A3 c3 hs3) :: (treeo (TreeTy.mk 28 3 43) hs3 z2) :: t6_) w') Try.func56 rfl rfl (by kernel_rfl) (fun _ => by kernel_rfl) rfl ?_ ?_)
 ·
  refine T.seq (T.region (T.step (W1.np 28 v200_ (fun _ => by kernel_rfl) (fun b5 => ?_))))
  refine T.nil (T.seq ?_)
  obtain ⟨⟨z39, z40, z41, z42, z43, z44, z45⟩, hz13, hX1⟩ := ob hX1
  try dsimp only at hX1
  let i7_ : HObj := box b4 83 [vi r2.root, .slice A2 hs2.length c2]
  refine (have hq4 := fix_rec (fun (s_ : (List (Int ⊕ DNode)) × Int) (r_ : (List (Int ⊕ DNode)) × Int × Int × Int × Int × Int × Bool) => ∀ (x13 : List (Int ⊕ DNode)) (x14 : Int), s_ = (x13, x14) → ∀ (V32 : View) (G4 : List HObj) (w1 : World), View.le V1 V32 → Hp w V32 (i7_ :: (row 97 eHdr A2 c2 hs2) :: (treeo (TreeTy.mk 28 3 43) hs2 x13) :: G4) w1 → Calls Try.prog 79 #[pB b4 0, vi x14, a246_] w1 (fun e w2 => ∃ v, e = .returned v ∧ ∃ (z118 : List (Int ⊕ DNode)) (z119 : Int) (z120 : Int) (z121 : Int) (z122 : Int) (z123 : Int) (z124 : Bool), r_ = (z118, z119, z120, z121, z122, z123, z124) ∧ ∃ (hs17 : List DHdr) (A141 : Option Addr) (c145 : Nat) (V33 : View), View.le V32 V33 ∧ v = .tuple #[.agg #[vi z119, vi z120, vi z121, vi z122], vi z123, .bool z124] ∧ Hp w V33 ((box b4 83 [vi r2.root, .slice A141 hs17.length c145]) :: (row 97 eHdr A141 c145 hs17) :: (treeo (TreeTy.mk 28 3 43) hs17 z118) :: G4) w2)) hz13 ?_; ?_)
  ·
   rintro rf4 ih4 s_ r_ hS4 x13 x14 rfl V32 G4 w1 hV32 hh
   try dsimp only at hS4
   refine T.startI (l := [pB b4 0, vi x14, a246_]) Try.func79 rfl rfl rfl ?_ hh
   clear hh
   refine T.seq (T.region (T.step (W1.np 28 v200_ (fun _ => by kernel_rfl) (fun b70 => ?_))))
   let v202_ : List Value := [vi 0, vi 0, vi 0, vi 0]
   refine T.step (W1.np 43 v202_ (fun _ => by kernel_rfl) (fun b71 => ?_))
   refine T.p2 (vi 0) (.bool false) (fun _ => by kernel_rfl) (T.nil (T.seq ?_))
   refine T.tree 4 (by rfl) (fun ht26 => ?_)
   refine T.region (T.p4 (pB b4 0) (pB b4 0) (pB b4 0) (pB b4 1) (fun _ => by kernel_rfl) (T.look (.slice A2 hs2.length c2) (by kernel_rfl) (ld1 2 rfl rfl (fun _ => by kernel_rfl) (by rfl) rfl) ?_))
   refine T.pk (vi x14) (fun _ => by kernel_rfl) ?_
   obtain ⟨n31, hb126, hS4⟩ := ob hS4
   obtain ⟨A142, c146, A143, c147, A144, c148, A145, c149, hi97, hi98, hx31⟩ := ht26.at_ hb126
   refine T.look (.pointer (some ((sadr A2).add (x14.toNat * 5)))) (by kernel_rfl) (ixR 3 (e := 97) (s := 5) rfl rfl rfl (fun _ => by kernel_rfl) hi97 hi98 (by rfl) hx31 (by decide)) ?_
   let v203_ : List Value := [vi n31.kind, .slice A142 n31.elems.length c146, .slice A143 n31.kids.length c147, .slice A144 n31.seps.length c148, .slice A145 n31.tids.length c149]
   let a248_ : Value := .agg #[vi n31.kind, .slice A142 n31.elems.length c146, .slice A143 n31.kids.length c147, .slice A144 n31.seps.length c148, .slice A145 n31.tids.length c149]
   refine T.look a248_ (by kernel_rfl) (fun w' hh => exec_loadN (cs := v203_) rfl rfl (by kernel_rfl) (by kernel_rfl) (fun j u hj => (SlOk.wcellF (E := eHdr) (hh.row_slOk (i := 3) (by rfl)) hx31 j (fun _ _ _ h => h) hj))) ?_
   let v204_ : List Value := [vi 0, sN, sN, sN, sN]
   refine T.step (W1.np 97 v204_ (fun _ => by kernel_rfl) (fun b72 => ?_))
   let i8_ : HObj := box b72 97 v203_
   let i9_ : HObj := box b71 43 v202_
   let i10_ : HObj := box b70 28 v200_
   refine T.step (W1.st 0 v203_ (i8_ :: i9_ :: i10_ :: i7_ :: (row 97 eHdr A2 c2 hs2) :: (treeo (TreeTy.mk 28 3 43) hs2 x13) :: G4) v203_ (by rfl) rfl rfl rfl rfl rfl rfl (fun _ => by kernel_rfl) ?_)
   refine T.nil ?_
   refine T.takeN (ty := (TreeTy.mk 28 3 43)) (h := (DHdr.mk n31.kind A142 n31.elems.length c146 A143 n31.kids.length c147 A144 n31.seps.length c148 A145 n31.tids.length c149)) 5 (by rfl) hb126 hx31 rfl ?_
   let i11_ : HObj := row 28 eElem A142 c146 n31.elems
   let i12_ : HObj := row 3 eInt A143 c147 n31.kids
   let i13_ : HObj := row 43 eSpot A144 c148 n31.seps
   let i14_ : HObj := row 3 eInt A145 c149 n31.tids
   let i15_ : HObj := treeo (TreeTy.mk 28 3 43) hs2 (outAt x13 x14)
   let t16_ : List HObj := (row 97 eHdr A2 c2 hs2) :: i15_ :: G4
   let t17_ : List HObj := i7_ :: t16_
   let t18_ : List HObj := i10_ :: t17_
   let t19_ : List HObj := i9_ :: t18_
   let t20_ : List HObj := i8_ :: t19_
   let t21_ : List HObj := i14_ :: t20_
   let t22_ : List HObj := i13_ :: t21_
   let t23_ : List HObj := i12_ :: t22_
   let t24_ : List HObj := i11_ :: t23_
   refine T.reH (H' := t24_) (by rfl) ?_
   obtain ⟨q21, hX14, hS4⟩ := ob hS4
   refine T.cut (fun a w' => ∃ (z125 : List DElem) (z126 : List Int) (z127 : List DSpot) (z128 : List Int) (z129 : List (Int ⊕ DNode)), q21 = (z125, z126, z127, z128, z129) ∧ ∃ (A146 : Option Addr) (c150 : Nat) (A147 : Option Addr) (c151 : Nat) (A148 : Option Addr) (c152 : Nat) (A149 : Option Addr) (c153 : Nat) (hs18 : List DHdr) (A150 : Option Addr) (c154 : Nat) (V34 : View), View.le V32 V34 ∧ Fr 155 [(0, pB b4 0), (1, vi x14), (6, pB b71 0), (9, pB b72 0)] a ∧ Hp w V34 ((row 28 eElem A146 c150 z125) :: (row 3 eInt A147 c151 z126) :: (row 43 eSpot A148 c152 z127) :: (row 3 eInt A149 c153 z128) :: (box b72 97 [vi n31.kind, .slice A146 z125.length c150, .slice A147 z126.length c151, .slice A148 z127.length c152, .slice A149 z128.length c153]) :: i9_ :: (box b4 83 [vi r2.root, .slice A150 hs18.length c154]) :: (row 97 eHdr A150 c154 hs18) :: (treeo (TreeTy.mk 28 3 43) hs18 z129) :: G4) w') ?_ ?_
   ·
    refine T.seq (T.region (T.pk (pB b72 0) (fun _ => by kernel_rfl) (T.look (vi n31.kind) (by kernel_rfl) (ld1 4 rfl rfl (fun _ => by kernel_rfl) (by rfl) rfl) ?_)))
    refine T.pk (.bool (n31.kind == 1)) (fun _ => by kernel_rfl) (T.nil ?_)
    refine T.cond (n31.kind == 1) (by kernel_rfl) (by kernel_rfl) (fun hc25 => ?_) (fun hc25 => ?_)
    ·
     rw [hc25, cond_true] at hX14
     refine T.seq (T.region (T.pk (vi 0) (fun _ => by kernel_rfl) (T.nil ?_)))
     obtain ⟨z130, hz14, hX14⟩ := ob hX14
     refine T.cut (fun a w' => Fr 155 [(0, pB b4 0), (1, vi x14), (5, pB b70 0), (6, pB b71 0), (9, pB b72 0), (10, vi z130)] a ∧ Hp w V32 t24_ w') ?_ ?_
     ·
      refine T.block ?_
      refine T.iter (fun x15 a w' => Fr 155 [(0, pB b4 0), (1, vi x14), (5, pB b70 0), (6, pB b71 0), (9, pB b72 0), (10, vi x15)] a ∧ Hp w V32 t24_ w') hz14 ?_ ?_
      ·
       exact fun a w' hf hh => ⟨(Fr.sel hf rfl), (hh.sub (kp9 (kp1 kpr)))⟩
      rintro x15 y31 hY7 hr7 a w' ⟨hf, hh⟩
      refine (?_ : T 155 w V32 t24_ [(0, pB b4 0), (1, vi x14), (5, pB b70 0), (6, pB b71 0), (9, pB b72 0), (10, vi x15)] _) a w' hf hh
      clear hf hh
      try dsimp only at hY7
      refine T.seq ?_
      obtain ⟨z131, hX15, hY7⟩ := ob hY7
      refine T.cut (fun a w' => Fr 155 [(0, pB b4 0), (1, vi x14), (5, pB b70 0), (6, pB b71 0), (9, pB b72 0), (10, vi x15), (45, .bool z131)] a ∧ Hp w V32 t24_ w') ?_ ?_
      ·
       refine T.tree 9 (by rfl) (fun ht27 => ?_)
       refine T.quiet (by kernel_rfl) (by kernel_rfl) ?_
       refine TQ.pure (vi x15) (by kernel_rfl) (fun _ => by kernel_rfl) ?_
       refine TQ.pure (pB b72 1) (by kernel_rfl) (fun _ => by kernel_rfl) ?_
       refine TQ.look (.slice A142 n31.elems.length c146) (by kernel_rfl) (ld1 4 rfl rfl (fun _ => by kernel_rfl) (by rfl) rfl) ?_
       refine TQ.pure (vi (n31.elems.length : Int)) (by kernel_rfl) (fun _ => by kernel_rfl) ?_
       refine TQ.pure (.bool (decide (x15 < (n31.elems.length : Int)))) (by kernel_rfl) (fun _ => by kernel_rfl) ?_
       refine TQ.pure (.bool (decide (x15 < (n31.elems.length : Int)))) (by kernel_rfl) (fun _ => by kernel_rfl) ?_
       cases hg4 : decide (x15 < (n31.elems.length : Int))
       ·
        skip
        rw [hg4, cond_false] at hX15
        refine TQ.pass (by kernel_rfl) (by kernel_rfl) ?_
        refine TQ.pass (by kernel_rfl) (by kernel_rfl) ?_
        refine TQ.pass (by kernel_rfl) (by kernel_rfl) ?_
        refine TQ.pass (by kernel_rfl) (by kernel_rfl) ?_
        refine TQ.pass (by kernel_rfl) (by kernel_rfl) ?_
        refine TQ.pass (by kernel_rfl) (by kernel_rfl) ?_
        refine TQ.pass (by kernel_rfl) (by kernel_rfl) ?_
        refine TQ.pass (by kernel_rfl) (by kernel_rfl) ?_
        refine TQ.pass (by kernel_rfl) (by kernel_rfl) ?_
        refine TQ.pass (by kernel_rfl) (by kernel_rfl) ?_
        refine TQ.pure (.bool false) (by kernel_rfl) (fun _ => by kernel_rfl) ?_
        refine TQ.nil ?_
        cases hX15
        exact fun a w' hf hh => ⟨(Fr.sel hf rfl), (hh.sub (kp9 (kp1 kpr)))⟩
       skip
       rw [hg4, cond_true] at hX15
       refine TQ.pure (pB b72 1) (by kernel_rfl) (fun _ => by kernel_rfl) ?_
       refine TQ.look (.slice A142 n31.elems.length c146) (by kernel_rfl) (ld1 4 rfl rfl (fun _ => by kernel_rfl) (by rfl) rfl) ?_
       refine TQ.pure (vi x15) (by kernel_rfl) (fun _ => by kernel_rfl) ?_
       obtain ⟨e28, hb127, hX15⟩ := ob hX15
       obtain ⟨hi99, hi100, hi101⟩ := idx_some hb127
       refine TQ.look (.pointer (some ((sadr A142).add (x15.toNat * 6)))) (by kernel_rfl) (ixR 0 (e := 28) (s := 6) rfl rfl rfl (fun _ => by kernel_rfl) hi99 hi100 (by rfl) hi101 (by decide)) ?_
       let a249_ : Value := .agg #[vi e28.key.pfs, vi e28.key.obj, vi e28.key.off, vi e28.made, vi e28.gone, .string e28.val]
       refine TQ.look a249_ (by kernel_rfl) (fun w' hh => exec_loadN (cs := [vi e28.key.pfs, vi e28.key.obj, vi e28.key.off, vi e28.made, vi e28.gone, .string e28.val]) rfl rfl (by kernel_rfl) (by kernel_rfl) (fun j u hj => (SlOk.wcellF (E := eElem) (hh.row_slOk (i := 0) (by rfl)) hi101 j (fun _ _ _ h => h) hj))) ?_
       obtain ⟨r68, hb128, hX15⟩ := ob hX15
       let a250_ : Value := .agg #[vi r68.key.pfs, vi r68.key.obj, vi r68.key.off, vi r68.made]
       refine TQ.call (vAg eSpot) r68 22 #[a249_] a250_ (fun V u hu => sureSpot V u _ hu) (by kernel_rfl) (fun _ => by kernel_rfl) (fun w' hh => elem_Spot_l e28 r68 hb128 w' ) ?_
       refine TQ.look a246_ (by kernel_rfl) (ldN 6 rfl rfl (fun _ => by kernel_rfl) (by rfl) rfl) ?_
       obtain ⟨r69, hb129, hX15⟩ := ob hX15
       let a251_ : Value := .agg #[vi r69.key.pfs, vi r69.key.obj, vi r69.key.off, vi r69.made]
       refine TQ.call (vAg eSpot) r69 22 #[a246_] a251_ (fun V u hu => sureSpot V u _ hu) (by kernel_rfl) (fun _ => by kernel_rfl) (fun w' hh => elem_Spot_l p1 r69 hb129 w' ) ?_
       obtain ⟨r70, hb130, hX15⟩ := ob hX15
       refine TQ.call (vSc eInt) r70 62 #[a250_, a251_] (vi r70) (fun V u hu => sureInt V u _ hu) (by kernel_rfl) (fun _ => by kernel_rfl) (fun w' hh => key_CmpSpot_l r68 r69 r70 hb130 w' ) ?_
       refine TQ.pure (.bool (decide (r70 < 0))) (by kernel_rfl) (fun _ => by kernel_rfl) ?_
       refine TQ.pure (.bool (decide (r70 < 0))) (by kernel_rfl) (fun _ => by kernel_rfl) ?_
       refine TQ.nil ?_
       cases hX15
       exact fun a w' hf hh => ⟨(Fr.sel hf rfl), (hh.sub (kp9 (kp1 kpr)))⟩
      rintro a w' ⟨hf, hh⟩
      refine (?_ : T 155 w V32 t24_ [(0, pB b4 0), (1, vi x14), (5, pB b70 0), (6, pB b71 0), (9, pB b72 0), (10, vi x15), (45, .bool z131)] _) a w' hf hh
      clear hf hh
      refine T.cond z131 (by kernel_rfl) (by kernel_rfl) (fun hc26 => ?_) (fun hc26 => ?_)
      ·
       rw [hc26, cond_true] at hY7
       refine T.skip_code ?_
       refine T.block (T.region (T.p3 (vi x15) (vi (IntKind.i64.wrap (x15 + 1))) (vi (IntKind.i64.wrap (x15 + 1))) (fun _ => by kernel_rfl) (T.nil ?_)))
       cases hY7
       exact fun a w' hf hh => ⟨(IntKind.i64.wrap (x15 + 1)), rfl, (Fr.sel hf rfl), (hh.sub (kp9 (kp1 kpr)))⟩
      rw [hc26, cond_false] at hY7
      refine T.exit ?_
      cases hY7
      cases (hr7 _ rfl)
      exact fun a w' hf hh => ⟨(Fr.sel hf rfl), (hh.sub (kp9 (kp1 kpr)))⟩
     rintro a w' ⟨hf, hh⟩
     refine (?_ : T 155 w V32 t24_ [(0, pB b4 0), (1, vi x14), (5, pB b70 0), (6, pB b71 0), (9, pB b72 0), (10, vi z130)] _) a w' hf hh
     clear hf hh
     refine T.tree 9 (by rfl) (fun ht28 => ?_)
     refine T.region (T.pk (pB b72 1) (fun _ => by kernel_rfl) (T.look (.slice A142 n31.elems.length c146) (by kernel_rfl) (ld1 4 rfl rfl (fun _ => by kernel_rfl) (by rfl) rfl) ?_))
     refine T.pk (vi z130) (fun _ => by kernel_rfl) (T.look a246_ (by kernel_rfl) (ldN 6 rfl rfl (fun _ => by kernel_rfl) (by rfl) rfl) ?_)
     refine T.step (W1.ns 28 v200_ (fun _ => by kernel_rfl) (fun b73 => ?_))
     obtain ⟨y32, hb131, hX14⟩ := ob hX14
     obtain ⟨hy49, hy50, hy51, hy52, rfl⟩ := inss_some hb131
     let i25_ : HObj := box b73 28 v200_
     refine T.step (W1.callI 96 [.slice A142 n31.elems.length c146, vi z130, .slice (some ⟨b73, 0, none⟩) 1 1] (fun v w' => ∃ (A151 : Option Addr) (c155 : Nat), v = .slice A151 (insAt n31.elems z130.toNat p1).length c155 ∧ Hp w V32 ((row 28 eElem A151 c155 (insAt n31.elems z130.toNat p1)) :: i25_ :: t23_) w') (by kernel_rfl) (fun _ => by kernel_rfl) (fun w' hh => by have hcall := (own_insert_Elem _ _ t23_ w' _ _ _ (z130).toNat _ _ (p1) hy50 hy51 hy52 (hh.perm (pt sw0 pz))); rw [hy49] at hcall; exact hcall.mono (by rintro e_ w_ ⟨A_, c_, rfl, h_⟩; exact ⟨_, rfl, A_, c_, rfl, h_⟩)) ?_)
     rintro v w' ⟨A151, c155, rfl, hh⟩
     let i26_ : HObj := row 28 eElem A151 c155 (insAt n31.elems z130.toNat p1)
     refine ⟨V32, (i25_ :: i26_ :: t23_), hh.perm (pt sw0 pz), ?_⟩
     clear hh
     refine T.pk (pB b72 1) (fun _ => by kernel_rfl) ?_
     let v205_ : List Value := [vi n31.kind, .slice A151 ((insAt n31.elems z130.toNat p1).length) c155, .slice A143 n31.kids.length c147, .slice A144 n31.seps.length c148, .slice A145 n31.tids.length c149]
     refine T.step (W1.st 5 v205_ (i25_ :: i26_ :: i12_ :: i13_ :: i14_ :: (box b72 97 v205_) :: t19_) [.slice A151 ((insAt n31.elems z130.toNat p1).length) c155] (by rfl) rfl rfl rfl rfl rfl rfl (fun _ => by kernel_rfl) ?_)
     refine T.nil ?_
     cases hX14
     exact fun a w' hf hh => ⟨(insAt n31.elems z130.toNat p1), n31.kids, n31.seps, n31.tids, (outAt x13 x14), rfl, A151, c155, A143, c147, A144, c148, A145, c149, hs2, A2, c2, V32, vr, (Fr.sel hf rfl), (hh.sub (dr1 (kp6 (dr1 (kp2 (kp1 kpr))))))⟩
    rw [hc25, cond_false] at hX14
    refine T.seq ?_
    refine T.tree 9 (by rfl) (fun ht29 => ?_)
    refine T.quiet (by kernel_rfl) (by kernel_rfl) ?_
    refine TQ.look a248_ (by kernel_rfl) (ldN 4 rfl rfl (fun _ => by kernel_rfl) (by rfl) rfl) ?_
    refine TQ.look a246_ (by kernel_rfl) (ldN 6 rfl rfl (fun _ => by kernel_rfl) (by rfl) rfl) ?_
    obtain ⟨r71, hb132, hX14⟩ := ob hX14
    let a252_ : Value := .agg #[vi r71.key.pfs, vi r71.key.obj, vi r71.key.off, vi r71.made]
    refine TQ.call (vAg eSpot) r71 22 #[a246_] a252_ (fun V u hu => sureSpot V u _ hu) (by kernel_rfl) (fun _ => by kernel_rfl) (fun w' hh => elem_Spot_l p1 r71 hb132 w' ) ?_
    obtain ⟨r72, hb133, hX14⟩ := ob hX14
    refine TQ.call (vSc eInt) r72 71 #[a248_, a252_] (vi r72) (fun V u hu => sureInt V u _ hu) (by kernel_rfl) (fun _ => by kernel_rfl) (fun w' hh => node_Way_l F n31 r71 r72 hb133 w' A142 c146 (hh.row_slOk (i := 0) (by rfl)) A143 c147 (hh.row_slOk (i := 1) (by rfl)) A144 c148 (hh.row_slOk (i := 2) (by rfl)) A145 c149 (hh.row_slOk (i := 3) (by rfl))) ?_
    refine TQ.pure (vi r72) (by kernel_rfl) (fun _ => by kernel_rfl) ?_
    refine TQ.nil ?_
    refine T.seq ?_
    obtain ⟨e29, hb134, hX14⟩ := ob hX14
    obtain ⟨⟨z132, z133, z134, z135, z136, z137, z138⟩, hz15, hX14⟩ := ob hX14
    try dsimp only at hX14
    let v206_ : List Value := [vi z133, vi z134, vi z135, vi z136]
    refine T.mid (fun a w' => ∃ (b74 : Nat) (hs19 : List DHdr) (A153 : Option Addr) (c158 : Nat) (V36 : View), View.le V32 V36 ∧ Fr 155 [(0, pB b4 0), (1, vi x14), (6, pB b71 0), (9, pB b72 0), (11, vi r72), (12, pB b74 0), (13, vi z137), (14, .bool z138)] a ∧ Hp w V36 ((box b74 43 v206_) :: i11_ :: i12_ :: i13_ :: i14_ :: i8_ :: i9_ :: (box b4 83 [vi r2.root, .slice A153 hs19.length c158]) :: (row 97 eHdr A153 c158 hs19) :: (treeo (TreeTy.mk 28 3 43) hs19 z132) :: G4) w') ?_ ?_
    ·
     refine T.held (i11_ :: i8_ :: i9_ :: i10_ :: []) (by kernel_rfl) ?_
     refine TA.keep (Hp.old vr (vt hV1 hV32) (kp1 (dr3 (kp3 (dr2 (dr1 kp0))))) (oR1 (oB2 (oB1 ol0)))) fun o284_ => ?_
     refine TA.tp 0 (pB b4 0) rfl (fun _ => by kernel_rfl) (fun _ _ _ h => h) o284_ ?_
     refine TA.tp 1 (pB b72 2) rfl (fun _ => by kernel_rfl) (fun _ _ _ h => h) o284_ ?_
     refine TA.tk 2 (.slice A143 n31.kids.length c147) rfl (by kernel_rfl) (fun _ _ _ h => h) o284_ (ld1 1 rfl rfl (fun _ => by kernel_rfl) (by rfl) rfl) ?_
     refine TA.tp 3 (vi r72) rfl (fun _ => by kernel_rfl) (fun _ _ _ h => h) o284_ ?_
     refine TA.tk 6 a246_ rfl (by kernel_rfl) (fun _ _ _ h => h) o284_ (ldN 3 rfl rfl (fun _ => by kernel_rfl) (by rfl) rfl) ?_
     refine TA.all [4, 12] (by kernel_rfl) rfl ⟨?_, ?_, trivial⟩
     ·
      obtain ⟨hi102, hi103, hi104⟩ := idx_some hb134
      refine TA.br rfl (W1.look (.pointer (some ((sadr A143).add (r72.toNat * 1)))) (by kernel_rfl) (ixR 1 (e := 3) (s := 1) rfl rfl rfl (fun _ => by kernel_rfl) hi102 hi103 (by rfl) hi104 (by decide)) ?_)
      refine TA.on (Hp.old vr (vt hV1 hV32) (kp1 (dr3 (kp3 (dr2 (dr1 kp0))))) (oR1 (oB2 (oB1 ol0)))) ?_
      refine TA.all [5, 12] (by kernel_rfl) rfl ⟨?_, ?_, trivial⟩
      ·
       refine TA.br rfl (W1.look (vi e29) (by kernel_rfl) (fun w' hh => exec_load1 rfl rfl (by kernel_rfl) (SlOk.wcellF0 (E := eInt) (hh.row_slOk (i := 1) (by rfl)) hi104 (fun _ _ _ h => h) rfl)) ?_)
       refine TA.on (Hp.old vr (vt hV1 hV32) (kp1 (dr3 (kp3 (dr2 (dr1 kp0))))) (oR1 (oB2 (oB1 ol0)))) ?_
       refine TA.all [7, 12] (by kernel_rfl) rfl ⟨?_, ?_, trivial⟩
       ·
        refine TA.br rfl (W1.callI 79 [pB b4 0, vi e29, a246_] (fun v w' => ∃ (z132x : List (Int ⊕ DNode)) (z133x : Int) (z134x : Int) (z135x : Int) (z136x : Int) (z137x : Int) (z138x : Bool), (z132, z133, z134, z135, z136, z137, z138) = (z132x, z133x, z134x, z135x, z136x, z137x, z138x) ∧ ∃ (c156 : List DHdr) (A152 : Option Addr) (c157 : Nat) (V35 : View), View.le V32 V35 ∧ v = .tuple #[.agg #[vi z133x, vi z134x, vi z135x, vi z136x], vi z137x, .bool z138x] ∧ Hp w V35 ((box b4 83 [vi r2.root, .slice A152 c156.length c157]) :: (row 97 eHdr A152 c157 c156) :: (treeo (TreeTy.mk 28 3 43) c156 z132x) :: i11_ :: i12_ :: i13_ :: i14_ :: i8_ :: i9_ :: i10_ :: G4) w') (by kernel_rfl) (fun _ => by kernel_rfl) (fun w' hh => ih4 _ _ hz15 (outAt x13 x14) e29 rfl V32 (i11_ :: i12_ :: i13_ :: i14_ :: i8_ :: i9_ :: i10_ :: G4) w' hV32 ((hh.sub (kp9 (kp1 kpr))).perm (pt sw6 (pt sw5 (pt sw4 (pt sw3 (pt sw2 (pt sw1 (pt sw0 (pc1 (pt sw6 (pt sw5 (pt sw4 (pt sw3 (pt sw2 (pt sw1 (pt sw0 (pc1 (pt sw6 (pt sw5 (pt sw4 (pt sw3 (pt sw2 (pt sw1 (pt sw0 pz))))))))))))))))))))))))) ?_)
        rintro v w' ⟨z132x, z133x, z134x, z135x, z136x, z137x, z138x, hq_, c156, A152, c157, V35, hV35, rfl, hh⟩
        simp only [Prod.mk.injEq] at hq_
        obtain ⟨rfl, rfl, rfl, rfl, rfl, rfl, rfl⟩ := hq_
        try dsimp only at hX14
        let i27_ : HObj := box b4 83 [vi r2.root, .slice A152 c156.length c157]
        let i28_ : HObj := treeo (TreeTy.mk 28 3 43) c156 z132
        refine ⟨V35, (i11_ :: i12_ :: i13_ :: i14_ :: i8_ :: i9_ :: i10_ :: i27_ :: (row 97 eHdr A152 c157 c156) :: i28_ :: G4), (hh.sub (kp9 (kp1 kpr))).perm (pt sw2 (pt sw1 (pt sw0 (pc1 (pt sw2 (pt sw1 (pt sw0 (pc1 (pt sw2 (pt sw1 (pt sw0 (pc1 (pt sw2 (pt sw1 (pt sw0 (pc1 (pt sw2 (pt sw1 (pt sw0 (pc1 (pt sw2 (pt sw1 (pt sw0 (pc1 (pt sw2 (pt sw1 (pt sw0 pz))))))))))))))))))))))))))), ?_⟩
        clear hh
        refine TA.onk (Hp.old hV35 (vt hV1 hV32) (kp1 (dr3 (kp3 (dr2 (dr1 kp0))))) (oR1 (oB2 (oB1 ol0)))) fun o285_ => ?_
        refine TA.tp 8 (.tuple #[.agg #[vi z133, vi z134, vi z135, vi z136], vi z137, .bool z138]) rfl (fun _ => by kernel_rfl) (fun _ _ _ h => h) o285_ ?_
        refine TA.tp 9 (.agg #[vi z133, vi z134, vi z135, vi z136]) rfl (fun _ => by kernel_rfl) (fun _ _ _ h => h) o285_ ?_
        refine TA.tp 10 (vi z137) rfl (fun _ => by kernel_rfl) (fun _ _ _ h => h) o285_ ?_
        refine TA.tp 11 (.bool z138) rfl (fun _ => by kernel_rfl) (fun _ _ _ h => h) o285_ ?_
        refine TA.all [12] (by kernel_rfl) rfl ⟨?_, trivial⟩
        refine TA.br rfl (W1.np 43 v202_ (fun _ => by kernel_rfl) (fun b74 => ?_))
        refine TA.on (Hp.old hV35 (vt hV1 hV32) (dr1 (kp1 (dr3 (kp3 (dr2 (dr1 kp0)))))) (oR1 (oB2 (oB1 ol0)))) ?_
        refine TA.all [13] (by kernel_rfl) rfl ⟨?_, trivial⟩
        refine TA.br rfl (W1.st 0 v206_ ((box b74 43 v206_) :: i11_ :: i12_ :: i13_ :: i14_ :: i8_ :: i9_ :: i10_ :: i27_ :: (row 97 eHdr A152 c157 c156) :: i28_ :: G4) v206_ (by rfl) rfl rfl rfl rfl rfl rfl (fun _ => by kernel_rfl) ?_)
        refine TA.onk (Hp.old hV35 (vt hV1 hV32) (dr1 (kp1 (dr3 (kp3 (dr2 (dr1 kp0)))))) (oR1 (oB2 (oB1 ol0)))) fun o286_ => ?_
        refine TA.tp 14 (vi z137) rfl (fun _ => by kernel_rfl) (fun _ _ _ h => h) o286_ ?_
        refine TA.tp 15 (.bool z138) rfl (fun _ => by kernel_rfl) (fun _ _ _ h => h) o286_ ?_
        refine TA.done (by kernel_rfl) ?_
        exact fun a w' hf hh => ⟨b74, c156, A152, c157, V35, hV35, (Fr.sel hf rfl), (hh.sub (kp7 (dr1 (kp2 (kp1 kpr)))))⟩
       refine TA.br rfl (W1.np 43 v202_ (fun _ => by kernel_rfl) (fun b74 => ?_))
       refine TA.on (Hp.old vr (vt hV1 hV32) (dr1 (kp1 (dr3 (kp3 (dr2 (dr1 kp0)))))) (oR1 (oB2 (oB1 ol0)))) ?_
       refine TA.all [7] (by kernel_rfl) rfl ⟨?_, trivial⟩
       let i29_ : HObj := box b74 43 v202_
       refine TA.br rfl (W1.callI 79 [pB b4 0, vi e29, a246_] (fun v w' => ∃ (z132x : List (Int ⊕ DNode)) (z133x : Int) (z134x : Int) (z135x : Int) (z136x : Int) (z137x : Int) (z138x : Bool), (z132, z133, z134, z135, z136, z137, z138) = (z132x, z133x, z134x, z135x, z136x, z137x, z138x) ∧ ∃ (c156 : List DHdr) (A152 : Option Addr) (c157 : Nat) (V35 : View), View.le V32 V35 ∧ v = .tuple #[.agg #[vi z133x, vi z134x, vi z135x, vi z136x], vi z137x, .bool z138x] ∧ Hp w V35 ((box b4 83 [vi r2.root, .slice A152 c156.length c157]) :: (row 97 eHdr A152 c157 c156) :: (treeo (TreeTy.mk 28 3 43) c156 z132x) :: i29_ :: i11_ :: i12_ :: i13_ :: i14_ :: i8_ :: i9_ :: i10_ :: G4) w') (by kernel_rfl) (fun _ => by kernel_rfl) (fun w' hh => ih4 _ _ hz15 (outAt x13 x14) e29 rfl V32 (i29_ :: i11_ :: i12_ :: i13_ :: i14_ :: i8_ :: i9_ :: i10_ :: G4) w' hV32 ((hh.sub (kp10 (kp1 kpr))).perm (pt sw7 (pt sw6 (pt sw5 (pt sw4 (pt sw3 (pt sw2 (pt sw1 (pt sw0 (pc1 (pt sw7 (pt sw6 (pt sw5 (pt sw4 (pt sw3 (pt sw2 (pt sw1 (pt sw0 (pc1 (pt sw7 (pt sw6 (pt sw5 (pt sw4 (pt sw3 (pt sw2 (pt sw1 (pt sw0 pz)))))))))))))))))))))))))))) ?_)
       rintro v w' ⟨z132x, z133x, z134x, z135x, z136x, z137x, z138x, hq_, c156, A152, c157, V35, hV35, rfl, hh⟩
       simp only [Prod.mk.injEq] at hq_
       obtain ⟨rfl, rfl, rfl, rfl, rfl, rfl, rfl⟩ := hq_
       try dsimp only at hX14
       let i30_ : HObj := box b4 83 [vi r2.root, .slice A152 c156.length c157]
       let i31_ : HObj := treeo (TreeTy.mk 28 3 43) c156 z132
       refine ⟨V35, (i29_ :: i11_ :: i12_ :: i13_ :: i14_ :: i8_ :: i9_ :: i10_ :: i30_ :: (row 97 eHdr A152 c157 c156) :: i31_ :: G4), (hh.sub (kp10 (kp1 kpr))).perm (pt sw2 (pt sw1 (pt sw0 (pc1 (pt sw2 (pt sw1 (pt sw0 (pc1 (pt sw2 (pt sw1 (pt sw0 (pc1 (pt sw2 (pt sw1 (pt sw0 (pc1 (pt sw2 (pt sw1 (pt sw0 (pc1 (pt sw2 (pt sw1 (pt sw0 (pc1 (pt sw2 (pt sw1 (pt sw0 (pc1 (pt sw2 (pt sw1 (pt sw0 pz))))))))))))))))))))))))))))))), ?_⟩
       clear hh
       refine TA.onk (Hp.old hV35 (vt hV1 hV32) (dr1 (kp1 (dr3 (kp3 (dr2 (dr1 kp0)))))) (oR1 (oB2 (oB1 ol0)))) fun o287_ => ?_
       refine TA.tp 8 (.tuple #[.agg #[vi z133, vi z134, vi z135, vi z136], vi z137, .bool z138]) rfl (fun _ => by kernel_rfl) (fun _ _ _ h => h) o287_ ?_
       refine TA.tp 9 (.agg #[vi z133, vi z134, vi z135, vi z136]) rfl (fun _ => by kernel_rfl) (fun _ _ _ h => h) o287_ ?_
       refine TA.tp 10 (vi z137) rfl (fun _ => by kernel_rfl) (fun _ _ _ h => h) o287_ ?_
       refine TA.tp 11 (.bool z138) rfl (fun _ => by kernel_rfl) (fun _ _ _ h => h) o287_ ?_
       refine TA.all [13] (by kernel_rfl) rfl ⟨?_, trivial⟩
       refine TA.br rfl (W1.st 0 v206_ ((box b74 43 v206_) :: i11_ :: i12_ :: i13_ :: i14_ :: i8_ :: i9_ :: i10_ :: i30_ :: (row 97 eHdr A152 c157 c156) :: i31_ :: G4) v206_ (by rfl) rfl rfl rfl rfl rfl rfl (fun _ => by kernel_rfl) ?_)
       refine TA.onk (Hp.old hV35 (vt hV1 hV32) (dr1 (kp1 (dr3 (kp3 (dr2 (dr1 kp0)))))) (oR1 (oB2 (oB1 ol0)))) fun o288_ => ?_
       refine TA.tp 14 (vi z137) rfl (fun _ => by kernel_rfl) (fun _ _ _ h => h) o288_ ?_
       refine TA.tp 15 (.bool z138) rfl (fun _ => by kernel_rfl) (fun _ _ _ h => h) o288_ ?_
       refine TA.done (by kernel_rfl) ?_
       exact fun a w' hf hh => ⟨b74, c156, A152, c157, V35, hV35, (Fr.sel hf rfl), (hh.sub (kp7 (dr1 (kp2 (kp1 kpr)))))⟩
      refine TA.br rfl (W1.np 43 v202_ (fun _ => by kernel_rfl) (fun b74 => ?_))
      refine TA.on (Hp.old vr (vt hV1 hV32) (dr1 (kp1 (dr3 (kp3 (dr2 (dr1 kp0)))))) (oR1 (oB2 (oB1 ol0)))) ?_
      refine TA.all [5] (by kernel_rfl) rfl ⟨?_, trivial⟩
      refine TA.br rfl (W1.look (vi e29) (by kernel_rfl) (fun w' hh => exec_load1 rfl rfl (by kernel_rfl) (SlOk.wcellF0 (E := eInt) (hh.row_slOk (i := 2) (by rfl)) hi104 (fun _ _ _ h => h) rfl)) ?_)
      refine TA.on (Hp.old vr (vt hV1 hV32) (dr1 (kp1 (dr3 (kp3 (dr2 (dr1 kp0)))))) (oR1 (oB2 (oB1 ol0)))) ?_
      refine TA.all [7] (by kernel_rfl) rfl ⟨?_, trivial⟩
      let i32_ : HObj := box b74 43 v202_
      refine TA.br rfl (W1.callI 79 [pB b4 0, vi e29, a246_] (fun v w' => ∃ (z132x : List (Int ⊕ DNode)) (z133x : Int) (z134x : Int) (z135x : Int) (z136x : Int) (z137x : Int) (z138x : Bool), (z132, z133, z134, z135, z136, z137, z138) = (z132x, z133x, z134x, z135x, z136x, z137x, z138x) ∧ ∃ (c156 : List DHdr) (A152 : Option Addr) (c157 : Nat) (V35 : View), View.le V32 V35 ∧ v = .tuple #[.agg #[vi z133x, vi z134x, vi z135x, vi z136x], vi z137x, .bool z138x] ∧ Hp w V35 ((box b4 83 [vi r2.root, .slice A152 c156.length c157]) :: (row 97 eHdr A152 c157 c156) :: (treeo (TreeTy.mk 28 3 43) c156 z132x) :: i32_ :: i11_ :: i12_ :: i13_ :: i14_ :: i8_ :: i9_ :: i10_ :: G4) w') (by kernel_rfl) (fun _ => by kernel_rfl) (fun w' hh => ih4 _ _ hz15 (outAt x13 x14) e29 rfl V32 (i32_ :: i11_ :: i12_ :: i13_ :: i14_ :: i8_ :: i9_ :: i10_ :: G4) w' hV32 ((hh.sub (kp10 (kp1 kpr))).perm (pt sw7 (pt sw6 (pt sw5 (pt sw4 (pt sw3 (pt sw2 (pt sw1 (pt sw0 (pc1 (pt sw7 (pt sw6 (pt sw5 (pt sw4 (pt sw3 (pt sw2 (pt sw1 (pt sw0 (pc1 (pt sw7 (pt sw6 (pt sw5 (pt sw4 (pt sw3 (pt sw2 (pt sw1 (pt sw0 pz)))))))))))))))))))))))))))) ?_)
      rintro v w' ⟨z132x, z133x, z134x, z135x, z136x, z137x, z138x, hq_, c156, A152, c157, V35, hV35, rfl, hh⟩
      simp only [Prod.mk.injEq] at hq_
      obtain ⟨rfl, rfl, rfl, rfl, rfl, rfl, rfl⟩ := hq_
      try dsimp only at hX14
      let i33_ : HObj := box b4 83 [vi r2.root, .slice A152 c156.length c157]
      let i34_ : HObj := treeo (TreeTy.mk 28 3 43) c156 z132
      refine ⟨V35, (i32_ :: i11_ :: i12_ :: i13_ :: i14_ :: i8_ :: i9_ :: i10_ :: i33_ :: (row 97 eHdr A152 c157 c156) :: i34_ :: G4), (hh.sub (kp10 (kp1 kpr))).perm (pt sw2 (pt sw1 (pt sw0 (pc1 (pt sw2 (pt sw1 (pt sw0 (pc1 (pt sw2 (pt sw1 (pt sw0 (pc1 (pt sw2 (pt sw1 (pt sw0 (pc1 (pt sw2 (pt sw1 (pt sw0 (pc1 (pt sw2 (pt sw1 (pt sw0 (pc1 (pt sw2 (pt sw1 (pt sw0 (pc1 (pt sw2 (pt sw1 (pt sw0 pz))))))))))))))))))))))))))))))), ?_⟩
      clear hh
      refine TA.onk (Hp.old hV35 (vt hV1 hV32) (dr1 (kp1 (dr3 (kp3 (dr2 (dr1 kp0)))))) (oR1 (oB2 (oB1 ol0)))) fun o289_ => ?_
      refine TA.tp 8 (.tuple #[.agg #[vi z133, vi z134, vi z135, vi z136], vi z137, .bool z138]) rfl (fun _ => by kernel_rfl) (fun _ _ _ h => h) o289_ ?_
      refine TA.tp 9 (.agg #[vi z133, vi z134, vi z135, vi z136]) rfl (fun _ => by kernel_rfl) (fun _ _ _ h => h) o289_ ?_
      refine TA.tp 10 (vi z137) rfl (fun _ => by kernel_rfl) (fun _ _ _ h => h) o289_ ?_
      refine TA.tp 11 (.bool z138) rfl (fun _ => by kernel_rfl) (fun _ _ _ h => h) o289_ ?_
      refine TA.all [13] (by kernel_rfl) rfl ⟨?_, trivial⟩
      refine TA.br rfl (W1.st 0 v206_ ((box b74 43 v206_) :: i11_ :: i12_ :: i13_ :: i14_ :: i8_ :: i9_ :: i10_ :: i33_ :: (row 97 eHdr A152 c157 c156) :: i34_ :: G4) v206_ (by rfl) rfl rfl rfl rfl rfl rfl (fun _ => by kernel_rfl) ?_)
      refine TA.onk (Hp.old hV35 (vt hV1 hV32) (dr1 (kp1 (dr3 (kp3 (dr2 (dr1 kp0)))))) (oR1 (oB2 (oB1 ol0)))) fun o290_ => ?_
      refine TA.tp 14 (vi z137) rfl (fun _ => by kernel_rfl) (fun _ _ _ h => h) o290_ ?_
      refine TA.tp 15 (.bool z138) rfl (fun _ => by kernel_rfl) (fun _ _ _ h => h) o290_ ?_
      refine TA.done (by kernel_rfl) ?_
      exact fun a w' hf hh => ⟨b74, c156, A152, c157, V35, hV35, (Fr.sel hf rfl), (hh.sub (kp7 (dr1 (kp2 (kp1 kpr)))))⟩
     refine TA.br rfl (W1.np 43 v202_ (fun _ => by kernel_rfl) (fun b74 => ?_))
     refine TA.on (Hp.old vr (vt hV1 hV32) (dr1 (kp1 (dr3 (kp3 (dr2 (dr1 kp0)))))) (oR1 (oB2 (oB1 ol0)))) ?_
     refine TA.all [4] (by kernel_rfl) rfl ⟨?_, trivial⟩
     obtain ⟨hi102, hi103, hi104⟩ := idx_some hb134
     refine TA.br rfl (W1.look (.pointer (some ((sadr A143).add (r72.toNat * 1)))) (by kernel_rfl) (ixR 2 (e := 3) (s := 1) rfl rfl rfl (fun _ => by kernel_rfl) hi102 hi103 (by rfl) hi104 (by decide)) ?_)
     refine TA.on (Hp.old vr (vt hV1 hV32) (dr1 (kp1 (dr3 (kp3 (dr2 (dr1 kp0)))))) (oR1 (oB2 (oB1 ol0)))) ?_
     refine TA.all [5] (by kernel_rfl) rfl ⟨?_, trivial⟩
     refine TA.br rfl (W1.look (vi e29) (by kernel_rfl) (fun w' hh => exec_load1 rfl rfl (by kernel_rfl) (SlOk.wcellF0 (E := eInt) (hh.row_slOk (i := 2) (by rfl)) hi104 (fun _ _ _ h => h) rfl)) ?_)
     refine TA.on (Hp.old vr (vt hV1 hV32) (dr1 (kp1 (dr3 (kp3 (dr2 (dr1 kp0)))))) (oR1 (oB2 (oB1 ol0)))) ?_
     refine TA.all [7] (by kernel_rfl) rfl ⟨?_, trivial⟩
     let i35_ : HObj := box b74 43 v202_
     refine TA.br rfl (W1.callI 79 [pB b4 0, vi e29, a246_] (fun v w' => ∃ (z132x : List (Int ⊕ DNode)) (z133x : Int) (z134x : Int) (z135x : Int) (z136x : Int) (z137x : Int) (z138x : Bool), (z132, z133, z134, z135, z136, z137, z138) = (z132x, z133x, z134x, z135x, z136x, z137x, z138x) ∧ ∃ (c156 : List DHdr) (A152 : Option Addr) (c157 : Nat) (V35 : View), View.le V32 V35 ∧ v = .tuple #[.agg #[vi z133x, vi z134x, vi z135x, vi z136x], vi z137x, .bool z138x] ∧ Hp w V35 ((box b4 83 [vi r2.root, .slice A152 c156.length c157]) :: (row 97 eHdr A152 c157 c156) :: (treeo (TreeTy.mk 28 3 43) c156 z132x) :: i35_ :: i11_ :: i12_ :: i13_ :: i14_ :: i8_ :: i9_ :: i10_ :: G4) w') (by kernel_rfl) (fun _ => by kernel_rfl) (fun w' hh => ih4 _ _ hz15 (outAt x13 x14) e29 rfl V32 (i35_ :: i11_ :: i12_ :: i13_ :: i14_ :: i8_ :: i9_ :: i10_ :: G4) w' hV32 ((hh.sub (kp10 (kp1 kpr))).perm (pt sw7 (pt sw6 (pt sw5 (pt sw4 (pt sw3 (pt sw2 (pt sw1 (pt sw0 (pc1 (pt sw7 (pt sw6 (pt sw5 (pt sw4 (pt sw3 (pt sw2 (pt sw1 (pt sw0 (pc1 (pt sw7 (pt sw6 (pt sw5 (pt sw4 (pt sw3 (pt sw2 (pt sw1 (pt sw0 pz)))))))))))))))))))))))))))) ?_)
     rintro v w' ⟨z132x, z133x, z134x, z135x, z136x, z137x, z138x, hq_, c156, A152, c157, V35, hV35, rfl, hh⟩
     simp only [Prod.mk.injEq] at hq_
     obtain ⟨rfl, rfl, rfl, rfl, rfl, rfl, rfl⟩ := hq_
     try dsimp only at hX14
     let i36_ : HObj := box b4 83 [vi r2.root, .slice A152 c156.length c157]
     let i37_ : HObj := treeo (TreeTy.mk 28 3 43) c156 z132
     refine ⟨V35, (i35_ :: i11_ :: i12_ :: i13_ :: i14_ :: i8_ :: i9_ :: i10_ :: i36_ :: (row 97 eHdr A152 c157 c156) :: i37_ :: G4), (hh.sub (kp10 (kp1 kpr))).perm (pt sw2 (pt sw1 (pt sw0 (pc1 (pt sw2 (pt sw1 (pt sw0 (pc1 (pt sw2 (pt sw1 (pt sw0 (pc1 (pt sw2 (pt sw1 (pt sw0 (pc1 (pt sw2 (pt sw1 (pt sw0 (pc1 (pt sw2 (pt sw1 (pt sw0 (pc1 (pt sw2 (pt sw1 (pt sw0 (pc1 (pt sw2 (pt sw1 (pt sw0 pz))))))))))))))))))))))))))))))), ?_⟩
     clear hh
     refine TA.onk (Hp.old hV35 (vt hV1 hV32) (dr1 (kp1 (dr3 (kp3 (dr2 (dr1 kp0)))))) (oR1 (oB2 (oB1 ol0)))) fun o291_ => ?_
     refine TA.tp 8 (.tuple #[.agg #[vi z133, vi z134, vi z135, vi z136], vi z137, .bool z138]) rfl (fun _ => by kernel_rfl) (fun _ _ _ h => h) o291_ ?_
     refine TA.tp 9 (.agg #[vi z133, vi z134, vi z135, vi z136]) rfl (fun _ => by kernel_rfl) (fun _ _ _ h => h) o291_ ?_
     refine TA.tp 10 (vi z137) rfl (fun _ => by kernel_rfl) (fun _ _ _ h => h) o291_ ?_
     refine TA.tp 11 (.bool z138) rfl (fun _ => by kernel_rfl) (fun _ _ _ h => h) o291_ ?_
     refine TA.all [13] (by kernel_rfl) rfl ⟨?_, trivial⟩
     refine TA.br rfl (W1.st 0 v206_ ((box b74 43 v206_) :: i11_ :: i12_ :: i13_ :: i14_ :: i8_ :: i9_ :: i10_ :: i36_ :: (row 97 eHdr A152 c157 c156) :: i37_ :: G4) v206_ (by rfl) rfl rfl rfl rfl rfl rfl (fun _ => by kernel_rfl) ?_)
     refine TA.onk (Hp.old hV35 (vt hV1 hV32) (dr1 (kp1 (dr3 (kp3 (dr2 (dr1 kp0)))))) (oR1 (oB2 (oB1 ol0)))) fun o292_ => ?_
     refine TA.tp 14 (vi z137) rfl (fun _ => by kernel_rfl) (fun _ _ _ h => h) o292_ ?_
     refine TA.tp 15 (.bool z138) rfl (fun _ => by kernel_rfl) (fun _ _ _ h => h) o292_ ?_
     refine TA.done (by kernel_rfl) ?_
     exact fun a w' hf hh => ⟨b74, c156, A152, c157, V35, hV35, (Fr.sel hf rfl), (hh.sub (kp7 (dr1 (kp2 (kp1 kpr)))))⟩
    rintro a w' ⟨b74, hs19, A153, c158, V36, hV36, hf, hh⟩
    let i38_ : HObj := box b74 43 v206_
    let i39_ : HObj := box b4 83 [vi r2.root, .slice A153 hs19.length c158]
    let i40_ : HObj := treeo (TreeTy.mk 28 3 43) hs19 z132
    let t41_ : List HObj := (row 97 eHdr A153 c158 hs19) :: i40_ :: G4
    let t42_ : List HObj := i39_ :: t41_
    let t43_ : List HObj := i9_ :: t42_
    refine (?_ : T 155 w V36 (i38_ :: i11_ :: i12_ :: i13_ :: i14_ :: i8_ :: t43_) [(0, pB b4 0), (1, vi x14), (6, pB b71 0), (9, pB b72 0), (11, vi r72), (12, pB b74 0), (13, vi z137), (14, .bool z138)] _) a w' hf hh
    clear hf hh
    refine T.seq ?_
    refine T.tree 9 (by rfl) (fun ht30 => ?_)
    refine T.heldL 17 (i38_ :: i11_ :: i12_ :: i13_ :: i14_ :: i8_ :: i9_ :: i39_ :: (row 97 eHdr A153 c158 hs19) :: []) (by kernel_rfl) ?_
    have w274_ := vt (vt hV1 hV32) hV36
    refine TL.keep (Hp.old vr w274_ (kp9 (dr1 kp0)) (oB1 (oR4 (oB3 (oR1 ol0))))) fun o293_ => ?_
    refine TL.tv 0 (pB b72 4) rfl (fun _ => by kernel_rfl) (fun _ _ _ h => h) o293_ ?_
    refine TL.tk 1 (.slice A145 n31.tids.length c149) [] rfl (by kernel_rfl) (fun _ _ _ h => h) o293_ (ld1 5 rfl rfl (fun _ => by kernel_rfl) (by rfl) rfl) ?_
    refine TL.tv 2 (vi r72) rfl (fun _ => by kernel_rfl) (fun _ _ _ h => h) o293_ ?_
    refine TL.tv 3 (pB b4 0) rfl (fun _ => by kernel_rfl) (fun _ _ _ h => h) o293_ ?_
    refine TL.tv 4 (pB b4 0) rfl (fun _ => by kernel_rfl) (fun _ _ _ h => h) o293_ ?_
    refine TL.tv 5 (pB b4 0) rfl (fun _ => by kernel_rfl) (fun _ _ _ h => h) o293_ ?_
    refine TL.tv 6 (pB b4 1) rfl (fun _ => by kernel_rfl) (fun _ _ _ h => h) o293_ ?_
    refine TL.tk 7 (.slice A153 hs19.length c158) [] rfl (by kernel_rfl) (fun _ _ _ h => h) o293_ (ld1 7 rfl rfl (fun _ => by kernel_rfl) (by rfl) rfl) ?_
    refine TL.tv 8 (pB b72 2) rfl (fun _ => by kernel_rfl) (fun _ _ _ h => h) o293_ ?_
    refine TL.tk 9 (.slice A143 n31.kids.length c147) [] rfl (by kernel_rfl) (fun _ _ _ h => h) o293_ (ld1 5 rfl rfl (fun _ => by kernel_rfl) (by rfl) rfl) ?_
    refine TL.tv 10 (vi r72) rfl (fun _ => by kernel_rfl) (fun _ _ _ h => h) o293_ ?_
    obtain ⟨e30, hb135, hX14⟩ := ob hX14
    obtain ⟨hi105, hi106, hi107⟩ := idx_some hb135
    refine TL.tk 11 (.pointer (some ((sadr A143).add (r72.toNat * 1)))) [] rfl (by kernel_rfl) (fun _ _ _ h => h) o293_ (ixR 2 (e := 3) (s := 1) rfl rfl rfl (fun _ => by kernel_rfl) hi105 hi106 (by rfl) hi107 (by decide)) ?_
    refine TL.tk 12 (vi e30) [] rfl (by kernel_rfl) (fun _ _ _ h => h) o293_ (fun w' hh => exec_load1 rfl rfl (by kernel_rfl) (SlOk.wcellF0 (E := eInt) (hh.row_slOk (i := 2) (by rfl)) hi107 (fun _ _ _ h => h) rfl)) ?_
    obtain ⟨n32, hb136, hX14⟩ := ob hX14
    obtain ⟨A154, c159, A155, c160, A156, c161, A157, c162, hi108, hi109, hx32⟩ := ht30.at_ hb136
    refine TL.tk 13 (.pointer (some ((sadr A153).add (e30.toNat * 5)))) [] rfl (by kernel_rfl) (fun _ _ _ h => h) o293_ (ixR 8 (e := 97) (s := 5) rfl rfl rfl (fun _ => by kernel_rfl) hi108 hi109 (by rfl) hx32 (by decide)) ?_
    let a253_ : Value := .agg #[vi n32.kind, .slice A154 n32.elems.length c159, .slice A155 n32.kids.length c160, .slice A156 n32.seps.length c161, .slice A157 n32.tids.length c162]
    refine TL.tk 14 a253_ [] rfl (by kernel_rfl) (fun _ _ _ h => h) o293_ (fun w' hh => exec_loadN (cs := [vi n32.kind, .slice A154 n32.elems.length c159, .slice A155 n32.kids.length c160, .slice A156 n32.seps.length c161, .slice A157 n32.tids.length c162]) rfl rfl (by kernel_rfl) (by kernel_rfl) (fun j u hj => (SlOk.wcellF (E := eHdr) (hh.row_slOk (i := 8) (by rfl)) hx32 j (fun _ _ _ h => h) hj))) ?_
    refine TL.all [15] (by kernel_rfl) rfl ⟨?_, trivial⟩
    obtain ⟨r73, hb137, hX14⟩ := ob hX14
    refine TL.br rfl (W1.call (vSc eInt) r73 60 #[a253_] (by kernel_rfl) (fun _ => by kernel_rfl) (fun w' hh => node_Greatest_l F n32 r73 hb137 w' A154 c159 (hh.lent (i := 9) (by rfl) hb136 hx32).1 A155 c160 (hh.lent (i := 9) (by rfl) hb136 hx32).2.1 A156 c161 (hh.lent (i := 9) (by rfl) hb136 hx32).2.2.1 A157 c162 (hh.lent (i := 9) (by rfl) hb136 hx32).2.2.2) ?_)
    intro u V37 hV37 hu
    obtain rfl := sureInt _ _ _ hu
    refine TL.onk (Hp.old hV37 w274_ (kp9 (dr1 kp0)) (oB1 (oR4 (oB3 (oR1 ol0))))) fun o294_ => ?_
    obtain ⟨e31, hb138, hX14⟩ := ob hX14
    obtain ⟨hi110, hi111, hi112⟩ := idx_some hb138
    refine TL.tk 16 (.pointer (some ((sadr A145).add (r72.toNat * 1)))) [] rfl (by kernel_rfl) (fun _ _ _ h => h) o294_ (ixR 4 (e := 3) (s := 1) rfl rfl rfl (fun _ => by kernel_rfl) hi110 hi111 (by rfl) hi112 (by decide)) ?_
    refine TL.all [17] (by kernel_rfl) rfl ⟨?_, trivial⟩
    refine TL.br rfl (W1.storeRow (E := eInt) 4 (r72.toNat) 0 e31 r73 _ (vs := [vi r73]) (by rfl) (by kernel_rfl) rfl rfl (addr_add0 _).symm rfl rfl (fun _ => by kernel_rfl) (one_of rfl) hi112 (Nat.le_of_ble_eq_true (by kernel_rfl)) (fun _ _ h => by cases h; rfl) ?_)
    refine TL.onW (by kernel_rfl) ?_
    refine T.reslot 72 (.slice A145 ((n31.tids.set r72.toNat r73).length) c149) rfl (by simp +zetaDelta only [List.length_set]) ?_
    let i44_ : HObj := row 3 eInt A145 c149 (n31.tids.set r72.toNat r73)
    let i45_ : HObj := box b72 97 [vi n31.kind, .slice A142 n31.elems.length c146, .slice A143 n31.kids.length c147, .slice A144 n31.seps.length c148, .slice A145 ((n31.tids.set r72.toNat r73).length) c149]
    let t46_ : List HObj := i45_ :: t43_
    let t47_ : List HObj := i44_ :: t46_
    let t48_ : List HObj := i13_ :: t47_
    refine T.reH (H' := (i38_ :: i11_ :: i12_ :: t48_)) (by first | (simp +zetaDelta only [List.length_set]; done) | (simp +zetaDelta only [List.length_set]; rfl)) ?_
    refine TL.done (by kernel_rfl) ?_
    refine T.seq (T.region (T.pk (.bool z138) (fun _ => by kernel_rfl) (T.nil ?_)))
    refine T.cond z138 (by kernel_rfl) (by kernel_rfl) (fun hc27 => ?_) (fun hc27 => ?_)
    ·
     rw [hc27, cond_true] at hX14
     refine T.seq (T.region (T.pk (pB b72 2) (fun _ => by kernel_rfl) (T.look (.slice A143 n31.kids.length c147) (by kernel_rfl) (ld1 5 rfl rfl (fun _ => by kernel_rfl) (by rfl) rfl) ?_)))
     refine T.p3 (vi r72) (vi (IntKind.i64.wrap (r72 + 1))) (vi z137) (fun _ => by kernel_rfl) (T.step (W1.ns 3 [vi z137] (fun _ => by kernel_rfl) (fun b75 => ?_)))
     obtain ⟨y33, hb139, hX14⟩ := ob hX14
     obtain ⟨hy53, hy54, hy55, hy56, rfl⟩ := inss_some hb139
     refine T.step (W1.callI 97 [.slice A143 n31.kids.length c147, vi (IntKind.i64.wrap (r72 + 1)), .slice (some ⟨b75, 0, none⟩) 1 1] (fun v w' => ∃ (A158 : Option Addr) (c163 : Nat), v = .slice A158 (insAt n31.kids (IntKind.i64.wrap (r72 + 1)).toNat z137).length c163 ∧ Hp w V37 ((row 3 eInt A158 c163 (insAt n31.kids (IntKind.i64.wrap (r72 + 1)).toNat z137)) :: (box b75 3 [vi z137]) :: i38_ :: i11_ :: t48_) w') (by kernel_rfl) (fun _ => by kernel_rfl) (fun w' hh => by have hcall := (own_insert_int _ _ (i38_ :: i11_ :: t48_) w' _ _ _ (IntKind.i64.wrap (r72 + 1)).toNat _ _ (z137) hy54 hy55 hy56 (hh.perm (pt sw2 (pt sw1 (pt sw0 pz))))); rw [hy53] at hcall; exact hcall.mono (by rintro e_ w_ ⟨A_, c_, rfl, h_⟩; exact ⟨_, rfl, A_, c_, rfl, h_⟩)) ?_)
     rintro v w' ⟨A158, c163, rfl, hh⟩
     let i49_ : HObj := row 3 eInt A158 c163 (insAt n31.kids (IntKind.i64.wrap (r72 + 1)).toNat z137)
     refine ⟨V37, ((box b75 3 [vi z137]) :: i38_ :: i11_ :: i49_ :: t48_), hh.perm (pt sw0 (pc1 (pt sw0 (pc1 (pt sw0 pz))))), ?_⟩
     clear hh
     refine T.pk (pB b72 2) (fun _ => by kernel_rfl) ?_
     let v207_ : List Value := [vi n31.kind, .slice A142 n31.elems.length c146, .slice A158 ((insAt n31.kids (IntKind.i64.wrap (r72 + 1)).toNat z137).length) c163, .slice A144 n31.seps.length c148, .slice A145 ((n31.tids.set r72.toNat r73).length) c149]
     let i50_ : HObj := box b72 97 v207_
     let t51_ : List HObj := i50_ :: t43_
     let t52_ : List HObj := i44_ :: t51_
     refine T.step (W1.st 6 v207_ ((box b75 3 [vi z137]) :: i38_ :: i11_ :: i49_ :: i13_ :: t52_) [.slice A158 ((insAt n31.kids (IntKind.i64.wrap (r72 + 1)).toNat z137).length) c163] (by rfl) rfl rfl rfl rfl rfl rfl (fun _ => by kernel_rfl) ?_)
     refine T.nil (T.seq (T.region (T.pk (pB b72 3) (fun _ => by kernel_rfl) (T.look (.slice A144 n31.seps.length c148) (by kernel_rfl) (ld1 6 rfl rfl (fun _ => by kernel_rfl) (by rfl) rfl) ?_))))
     refine T.pk (vi r72) (fun _ => by kernel_rfl) (T.look (.agg #[vi z133, vi z134, vi z135, vi z136]) (by kernel_rfl) (ldN 1 rfl rfl (fun _ => by kernel_rfl) (by rfl) rfl) ?_)
     refine T.step (W1.ns 43 v206_ (fun _ => by kernel_rfl) (fun b76 => ?_))
     obtain ⟨y34, hb140, hX14⟩ := ob hX14
     obtain ⟨hy57, hy58, hy59, hy60, rfl⟩ := inss_some hb140
     let i53_ : HObj := box b76 43 v206_
     refine T.step (W1.callI 98 [.slice A144 n31.seps.length c148, vi r72, .slice (some ⟨b76, 0, none⟩) 1 1] (fun v w' => ∃ (A159 : Option Addr) (c164 : Nat), v = .slice A159 (insAt n31.seps r72.toNat (DSpot.mk (DKey.mk z133 z134 z135) z136)).length c164 ∧ Hp w V37 ((row 43 eSpot A159 c164 (insAt n31.seps r72.toNat (DSpot.mk (DKey.mk z133 z134 z135) z136))) :: i53_ :: (box b75 3 [vi z137]) :: i38_ :: i11_ :: i49_ :: t52_) w') (by kernel_rfl) (fun _ => by kernel_rfl) (fun w' hh => by have hcall := (own_insert_Spot _ _ ((box b75 3 [vi z137]) :: i38_ :: i11_ :: i49_ :: t52_) w' _ _ _ (r72).toNat _ _ ((DSpot.mk (DKey.mk z133 z134 z135) z136)) hy58 hy59 hy60 (hh.perm (pt sw4 (pt sw3 (pt sw2 (pt sw1 (pt sw0 pz))))))); rw [hy57] at hcall; exact hcall.mono (by rintro e_ w_ ⟨A_, c_, rfl, h_⟩; exact ⟨_, rfl, A_, c_, rfl, h_⟩)) ?_)
     rintro v w' ⟨A159, c164, rfl, hh⟩
     let i54_ : HObj := row 43 eSpot A159 c164 (insAt n31.seps r72.toNat (DSpot.mk (DKey.mk z133 z134 z135) z136))
     refine ⟨V37, (i53_ :: (box b75 3 [vi z137]) :: i38_ :: i11_ :: i49_ :: i54_ :: t52_), hh.perm (pt sw0 (pc1 (pt sw0 (pc1 (pt sw0 (pc1 (pt sw0 (pc1 (pt sw0 pz))))))))), ?_⟩
     clear hh
     refine T.pk (pB b72 3) (fun _ => by kernel_rfl) ?_
     let v208_ : List Value := [vi n31.kind, .slice A142 n31.elems.length c146, .slice A158 ((insAt n31.kids (IntKind.i64.wrap (r72 + 1)).toNat z137).length) c163, .slice A159 ((insAt n31.seps r72.toNat (DSpot.mk (DKey.mk z133 z134 z135) z136)).length) c164, .slice A145 ((n31.tids.set r72.toNat r73).length) c149]
     let i55_ : HObj := box b72 97 v208_
     let t56_ : List HObj := i55_ :: t43_
     refine T.step (W1.st 7 v208_ (i53_ :: (box b75 3 [vi z137]) :: i38_ :: i11_ :: i49_ :: i54_ :: i44_ :: t56_) [.slice A159 ((insAt n31.seps r72.toNat (DSpot.mk (DKey.mk z133 z134 z135) z136)).length) c164] (by rfl) rfl rfl rfl rfl rfl rfl (fun _ => by kernel_rfl) ?_)
     refine T.nil ?_
     refine T.heldL 14 (i11_ :: i49_ :: i54_ :: i44_ :: i55_ :: i9_ :: i39_ :: (row 97 eHdr A153 c158 hs19) :: []) (by kernel_rfl) ?_
     have w275_ := vt (vt (vt hV1 hV32) hV36) hV37
     refine TL.keep (Hp.old vr w275_ (dr3 (kp8 (dr1 kp0))) (oR4 (oB3 (oR1 ol0)))) fun o295_ => ?_
     refine TL.tv 0 (pB b72 4) rfl (fun _ => by kernel_rfl) (fun _ _ _ h => h) o295_ ?_
     refine TL.tk 1 (.slice A145 ((n31.tids.set r72.toNat r73).length) c149) [] rfl (by kernel_rfl) (fun _ _ _ h => h) o295_ (ld1 4 rfl rfl (fun _ => by kernel_rfl) (by rfl) rfl) ?_
     refine TL.tv 2 (vi r72) rfl (fun _ => by kernel_rfl) (fun _ _ _ h => h) o295_ ?_
     refine TL.tv 3 (vi (IntKind.i64.wrap (r72 + 1))) rfl (fun _ => by kernel_rfl) (fun _ _ _ h => h) o295_ ?_
     refine TL.tv 4 (pB b4 0) rfl (fun _ => by kernel_rfl) (fun _ _ _ h => h) o295_ ?_
     refine TL.tv 5 (pB b4 0) rfl (fun _ => by kernel_rfl) (fun _ _ _ h => h) o295_ ?_
     refine TL.tv 6 (pB b4 0) rfl (fun _ => by kernel_rfl) (fun _ _ _ h => h) o295_ ?_
     refine TL.tv 7 (pB b4 1) rfl (fun _ => by kernel_rfl) (fun _ _ _ h => h) o295_ ?_
     refine TL.tk 8 (.slice A153 hs19.length c158) [12, 11, 10] rfl (by kernel_rfl) (fun _ _ _ h => h) o295_ (ld1 6 rfl rfl (fun _ => by kernel_rfl) (by rfl) rfl) ?_
     refine TL.tv 9 (vi z137) rfl (fun _ => by kernel_rfl) (fun _ _ _ h => h) o295_ ?_
     obtain ⟨n33, hb141, hX14⟩ := ob hX14
     obtain ⟨A160, c165, A161, c166, A162, c167, A163, c168, hi113, hi114, hx33⟩ := ht30.at_ hb141
     refine TL.tk 10 (.pointer (some ((sadr A153).add (z137.toNat * 5)))) [12, 11] rfl (by kernel_rfl) (fun _ _ _ h => h) o295_ (ixR 7 (e := 97) (s := 5) rfl rfl rfl (fun _ => by kernel_rfl) hi113 hi114 (by rfl) hx33 (by decide)) ?_
     let a254_ : Value := .agg #[vi n33.kind, .slice A160 n33.elems.length c165, .slice A161 n33.kids.length c166, .slice A162 n33.seps.length c167, .slice A163 n33.tids.length c168]
     refine TL.tk 11 a254_ [12] rfl (by kernel_rfl) (fun _ _ _ h => h) o295_ (fun w' hh => exec_loadN (cs := [vi n33.kind, .slice A160 n33.elems.length c165, .slice A161 n33.kids.length c166, .slice A162 n33.seps.length c167, .slice A163 n33.tids.length c168]) rfl rfl (by kernel_rfl) (by kernel_rfl) (fun j u hj => (SlOk.wcellF (E := eHdr) (hh.row_slOk (i := 7) (by rfl)) hx33 j (fun _ _ _ h => h) hj))) ?_
     refine TL.all [12] (by kernel_rfl) rfl ⟨?_, trivial⟩
     obtain ⟨r74, hb142, hX14⟩ := ob hX14
     refine TL.br rfl (W1.call (vSc eInt) r74 60 #[a254_] (by kernel_rfl) (fun _ => by kernel_rfl) (fun w' hh => node_Greatest_l F n33 r74 hb142 w' A160 c165 (hh.lent (i := 11) (by rfl) hb141 hx33).1 A161 c166 (hh.lent (i := 11) (by rfl) hb141 hx33).2.1 A162 c167 (hh.lent (i := 11) (by rfl) hb141 hx33).2.2.1 A163 c168 (hh.lent (i := 11) (by rfl) hb141 hx33).2.2.2) ?_)
     intro u V38 hV38 hu
     obtain rfl := sureInt _ _ _ hu
     refine TL.on (Hp.old hV38 w275_ (dr3 (kp8 (dr1 kp0))) (oR4 (oB3 (oR1 ol0)))) ?_
     refine TL.all [13] (by kernel_rfl) rfl ⟨?_, trivial⟩
     refine TL.br rfl (W1.ns 3 [vi r74] (fun _ => by kernel_rfl) (fun b77 => ?_))
     refine TL.on (Hp.old hV38 w275_ (dr4 (kp8 (dr1 kp0))) (oR4 (oB3 (oR1 ol0)))) ?_
     refine TL.all [14] (by kernel_rfl) rfl ⟨?_, trivial⟩
     obtain ⟨y35, hb143, hX14⟩ := ob hX14
     obtain ⟨hy61, hy62, hy63, hy64, rfl⟩ := inss_some hb143
     refine TL.br rfl (W1.callI 97 [.slice A145 ((n31.tids.set r72.toNat r73).length) c149, vi (IntKind.i64.wrap (r72 + 1)), .slice (some ⟨b77, 0, none⟩) 1 1] (fun v w' => ∃ (A164 : Option Addr) (c169 : Nat), v = .slice A164 (insAt (n31.tids.set r72.toNat r73) (IntKind.i64.wrap (r72 + 1)).toNat r74).length c169 ∧ Hp w V38 ((row 3 eInt A164 c169 (insAt (n31.tids.set r72.toNat r73) (IntKind.i64.wrap (r72 + 1)).toNat r74)) :: (box b77 3 [vi r74]) :: i53_ :: (box b75 3 [vi z137]) :: i38_ :: i11_ :: i49_ :: i54_ :: t56_) w') (by kernel_rfl) (fun _ => by kernel_rfl) (fun w' hh => by have hcall := (own_insert_int _ _ (i53_ :: (box b75 3 [vi z137]) :: i38_ :: i11_ :: i49_ :: i54_ :: t56_) w' _ _ _ (IntKind.i64.wrap (r72 + 1)).toNat _ _ (r74) hy62 hy63 hy64 (hh.perm (pt sw6 (pt sw5 (pt sw4 (pt sw3 (pt sw2 (pt sw1 (pt sw0 pz))))))))); rw [hy61] at hcall; exact hcall.mono (by rintro e_ w_ ⟨A_, c_, rfl, h_⟩; exact ⟨_, rfl, A_, c_, rfl, h_⟩)) ?_)
     rintro v w' ⟨A164, c169, rfl, hh⟩
     let i57_ : HObj := row 3 eInt A164 c169 (insAt (n31.tids.set r72.toNat r73) (IntKind.i64.wrap (r72 + 1)).toNat r74)
     refine ⟨V38, ((box b77 3 [vi r74]) :: i53_ :: (box b75 3 [vi z137]) :: i38_ :: i11_ :: i49_ :: i54_ :: i57_ :: t56_), hh.perm (pt sw0 (pc1 (pt sw0 (pc1 (pt sw0 (pc1 (pt sw0 (pc1 (pt sw0 (pc1 (pt sw0 (pc1 (pt sw0 pz))))))))))))), ?_⟩
     clear hh
     refine TL.onW (by kernel_rfl) ?_
     refine TL.takeQ 15 (pB b72 4) rfl (by kernel_rfl) (by kernel_rfl) (by kernel_rfl) (fun _ _ _ h => h) (by kernel_rfl) (by kernel_rfl) (by kernel_rfl) (fun _ => by kernel_rfl) ?_
     refine TL.all [16] (by kernel_rfl) rfl ⟨?_, trivial⟩
     let v209_ : List Value := [vi n31.kind, .slice A142 n31.elems.length c146, .slice A158 ((insAt n31.kids (IntKind.i64.wrap (r72 + 1)).toNat z137).length) c163, .slice A159 ((insAt n31.seps r72.toNat (DSpot.mk (DKey.mk z133 z134 z135) z136)).length) c164, .slice A164 ((insAt (n31.tids.set r72.toNat r73) (IntKind.i64.wrap (r72 + 1)).toNat r74).length) c169]
     refine TL.br rfl (W1.st 8 v209_ ((box b77 3 [vi r74]) :: i53_ :: (box b75 3 [vi z137]) :: i38_ :: i11_ :: i49_ :: i54_ :: i57_ :: (box b72 97 v209_) :: t43_) [.slice A164 ((insAt (n31.tids.set r72.toNat r73) (IntKind.i64.wrap (r72 + 1)).toNat r74).length) c169] (by rfl) rfl rfl rfl rfl rfl rfl (fun _ => by kernel_rfl) ?_)
     refine TL.onW (by kernel_rfl) ?_
     refine TL.done (by kernel_rfl) ?_
     cases hX14
     exact fun a w' hf hh => ⟨n31.elems, (insAt n31.kids (IntKind.i64.wrap (r72 + 1)).toNat z137), (insAt n31.seps r72.toNat (DSpot.mk (DKey.mk z133 z134 z135) z136)), (insAt (n31.tids.set r72.toNat r73) (IntKind.i64.wrap (r72 + 1)).toNat r74), z132, rfl, A142, c146, A158, c163, A159, c164, A164, c169, hs19, A153, c158, V38, (vt (vt hV36 hV37) hV38), (Fr.sel hf rfl), (hh.sub (dr4 (kp8 (kp1 kpr))))⟩
    rw [hc27, cond_false] at hX14
    refine T.skip_code ?_
    cases hX14
    exact fun a w' hf hh => ⟨n31.elems, n31.kids, n31.seps, (n31.tids.set r72.toNat r73), z132, rfl, A142, c146, A143, c147, A144, c148, A145, c149, hs19, A153, c158, V37, (vt hV36 hV37), (Fr.sel hf rfl), (hh.sub (dr1 (kp8 (kp1 kpr))))⟩
   rintro a w' ⟨z125, z126, z127, z128, z129, rfl, A146, c150, A147, c151, A148, c152, A149, c153, hs18, A150, c154, V34, hV34, hf, hh⟩
   try dsimp only at hS4
   let v210_ : List Value := [vi n31.kind, .slice A146 z125.length c150, .slice A147 z126.length c151, .slice A148 z127.length c152, .slice A149 z128.length c153]
   let i58_ : HObj := box b72 97 v210_
   let i59_ : HObj := box b4 83 [vi r2.root, .slice A150 hs18.length c154]
   let i60_ : HObj := treeo (TreeTy.mk 28 3 43) hs18 z129
   let t61_ : List HObj := (row 97 eHdr A150 c154 hs18) :: i60_ :: G4
   let t62_ : List HObj := i59_ :: t61_
   let t63_ : List HObj := i9_ :: t62_
   let t64_ : List HObj := i58_ :: t63_
   let t65_ : List HObj := (row 3 eInt A149 c153 z128) :: t64_
   let t66_ : List HObj := (row 43 eSpot A148 c152 z127) :: t65_
   let t67_ : List HObj := (row 3 eInt A147 c151 z126) :: t66_
   let t68_ : List HObj := (row 28 eElem A146 c150 z125) :: t67_
   refine (?_ : T 155 w V34 t68_ [(0, pB b4 0), (1, vi x14), (6, pB b71 0), (9, pB b72 0)] _) a w' hf hh
   clear hf hh
   refine T.seq (T.seq ?_)
   refine T.tree 8 (by rfl) (fun ht31 => ?_)
   refine T.region (T.pk (pB b72 1) (fun _ => by kernel_rfl) (T.look (.slice A146 z125.length c150) (by kernel_rfl) (ld1 4 rfl rfl (fun _ => by kernel_rfl) (by rfl) rfl) ?_))
   refine T.p2 (vi (z125.length : Int)) (pB b72 2) (fun _ => by kernel_rfl) (T.look (.slice A147 z126.length c151) (by kernel_rfl) (ld1 4 rfl rfl (fun _ => by kernel_rfl) (by rfl) rfl) ?_)
   refine T.p3 (vi (z126.length : Int)) (vi (IntKind.i64.wrap ((z125.length : Int) + (z126.length : Int)))) (.bool (decide ((IntKind.i64.wrap ((z125.length : Int) + (z126.length : Int))) ≤ 8))) (fun _ => by kernel_rfl) (T.nil ?_)
   refine T.cond (decide ((IntKind.i64.wrap ((z125.length : Int) + (z126.length : Int))) ≤ 8)) (by kernel_rfl) (by kernel_rfl) (fun hc28 => ?_) (fun hc28 => ?_)
   ·
    rw [hc28, cond_true] at hS4
    refine T.seq ?_
    refine T.heldL 8 ((row 28 eElem A146 c150 z125) :: (row 3 eInt A147 c151 z126) :: (row 43 eSpot A148 c152 z127) :: (row 3 eInt A149 c153 z128) :: i58_ :: i9_ :: i59_ :: (row 97 eHdr A150 c154 hs18) :: []) (by kernel_rfl) ?_
    have w276_ := vt (vt hV1 hV32) hV34
    refine TL.keep (Hp.old vr w276_ (kp8 (dr1 kp0)) (oR4 (oB3 (oR1 ol0)))) fun o296_ => ?_
    refine TL.tv 0 (pB b4 0) rfl (fun _ => by kernel_rfl) (fun _ _ _ h => h) o296_ ?_
    refine TL.tv 1 (pB b4 0) rfl (fun _ => by kernel_rfl) (fun _ _ _ h => h) o296_ ?_
    refine TL.tv 2 (pB b4 0) rfl (fun _ => by kernel_rfl) (fun _ _ _ h => h) o296_ ?_
    refine TL.tv 3 (pB b4 1) rfl (fun _ => by kernel_rfl) (fun _ _ _ h => h) o296_ ?_
    refine TL.tk 4 (.slice A150 hs18.length c154) [] rfl (by kernel_rfl) (fun _ _ _ h => h) o296_ (ld1 6 rfl rfl (fun _ => by kernel_rfl) (by rfl) rfl) ?_
    refine TL.tv 5 (vi x14) rfl (fun _ => by kernel_rfl) (fun _ _ _ h => h) o296_ ?_
    refine TL.tk 6 (.agg #[vi n31.kind, .slice A146 z125.length c150, .slice A147 z126.length c151, .slice A148 z127.length c152, .slice A149 z128.length c153]) [] rfl (by kernel_rfl) (fun _ _ _ h => h) o296_ (ldN 4 rfl rfl (fun _ => by kernel_rfl) (by rfl) rfl) ?_
    obtain ⟨u13, hb144, hS4⟩ := ob hS4
    obtain ⟨hi115, hi116, e32, hx34⟩ := ht31.has hb144
    refine TL.tk 7 (.pointer (some ((sadr A150).add (x14.toNat * 5)))) [] rfl (by kernel_rfl) (fun _ _ _ h => h) o296_ (ixR 7 (e := 97) (s := 5) rfl rfl rfl (fun _ => by kernel_rfl) hi115 hi116 (by rfl) hx34 (by decide)) ?_
    refine TL.all [8] (by kernel_rfl) rfl ⟨?_, trivial⟩
    let d265_ : DHdr := DHdr.mk n31.kind A146 z125.length c150 A147 z126.length c151 A148 z127.length c152 A149 z128.length c153
    refine TL.br rfl (W1.storeRow (E := eHdr) 7 (x14.toNat) 0 e32 d265_ _ (vs := v210_) (by rfl) (by kernel_rfl) rfl rfl (addr_add0 _).symm rfl rfl (fun _ => by kernel_rfl) (one_of rfl) hx34 (Nat.le_of_ble_eq_true (by kernel_rfl)) (fun _ _ h => by cases h; rfl) ?_)
    refine TL.onW (by kernel_rfl) ?_
    let h271_ : List DHdr := hs18.set x14.toNat d265_
    refine T.reslot 132 (.slice A150 (h271_.length) c154) rfl (by simp +zetaDelta only [List.length_set]) ?_
    let i69_ : HObj := box b4 83 [vi r2.root, .slice A150 (h271_.length) c154]
    let i70_ : HObj := row 97 eHdr A150 c154 h271_
    refine T.reH (H' := ((row 28 eElem A146 c150 z125) :: (row 3 eInt A147 c151 z126) :: (row 43 eSpot A148 c152 z127) :: (row 3 eInt A149 c153 z128) :: i58_ :: i9_ :: i69_ :: i70_ :: i60_ :: G4)) (by first | (simp +zetaDelta only [List.length_set]; done) | (simp +zetaDelta only [List.length_set]; rfl)) ?_
    refine TL.done (by kernel_rfl) ?_
    let t71_ : List HObj := i69_ :: i70_ :: G4
    let t72_ : List HObj := i9_ :: t71_
    let t73_ : List HObj := i58_ :: t72_
    refine T.putS (ty := (TreeTy.mk 28 3 43)) t73_ d265_ (DNode.mk n31.kind z125 z126 z127 z128) (pc4 (pt sw3 (pt sw2 (pt sw1 (pt sw0 pz))))) ⟨rfl, rfl, rfl, rfl, rfl⟩ hb144 ?_
    have hb145 := nodeAt_put (n := (DNode.mk n31.kind z125 z126 z127 z128)) hb144
    have hx35 := TreeOk.set_at ht31 d265_ hb144
    let i74_ : HObj := treeo (TreeTy.mk 28 3 43) h271_ (putAt z129 x14 (DNode.mk n31.kind z125 z126 z127 z128))
    refine T.reH (H' := (i74_ :: t73_)) (by rfl) ?_
    refine T.seq (T.region (T.pk (.agg #[vi 0, vi 0, vi 0, vi 0]) (fun _ => by kernel_rfl) (T.step (W1.st 2 v202_ (i74_ :: t73_) v202_ (by rfl) rfl rfl rfl rfl rfl rfl (fun _ => by kernel_rfl) ?_))))
    refine T.p2 (vi 0) (.bool false) (fun _ => by kernel_rfl) (T.nil ?_)
    have hres := Option.some.inj hS4
    subst hres
    refine T.ret rfl ?_
    repeat first | refine T.unthen ?_ | refine T.unblock ?_
    exact T.ret3 rfl (ResIs.cellN 2 rfl (by rfl) (fun _ => by kernel_rfl) (fun _ => by kernel_rfl)) (ResIs.tmp rfl) (ResIs.tmp rfl) fun w' hh => ⟨_, rfl, ⟨(putAt z129 x14 (DNode.mk n31.kind z125 z126 z127 z128)), 0, 0, 0, 0, 0, false, rfl, h271_, A150, c154, V34, hV34, rfl, ((hh.sub (kp1 (dr2 (kp1 (kp1 kpr))))).perm (pt sw0 (pc1 (pt sw0 pz))))⟩⟩
   rw [hc28, cond_false] at hS4
   refine T.skip_code ?_
   refine T.seq (T.region ?_)
   let a255_ : Value := .agg #[vi n31.kind, .slice A146 z125.length c150, .slice A147 z126.length c151, .slice A148 z127.length c152, .slice A149 z128.length c153]
   refine T.look a255_ (by kernel_rfl) (ldN 4 rfl rfl (fun _ => by kernel_rfl) (by rfl) rfl) ?_
   obtain ⟨q23, hX16, hS4⟩ := ob hS4
   refine T.step (W1.within 99 [a255_] (fun v w' => ∃ (z139 : List Int) (z140 : List DSpot) (z141 : List Int) (z142 : List DElem) (z143 : List DElem) (z144 : List Int) (z145 : List DSpot) (z146 : List Int) (z147 : Int) (z148 : Int) (z149 : Int) (z150 : Int) (z151 : Int), q23 = (z139, z140, z141, z142, z143, z144, z145, z146, z147, z148, z149, z150, z151) ∧ ∃ (A165 : Option Addr) (c170 : Nat) (A166 : Option Addr) (c171 : Nat) (A167 : Option Addr) (c172 : Nat) (A168 : Option Addr) (c173 : Nat) (A169 : Option Addr) (c174 : Nat) (A170 : Option Addr) (c175 : Nat) (A171 : Option Addr) (c176 : Nat) (A172 : Option Addr) (c177 : Nat) (V39 : View), View.le V34 V39 ∧ v = .tuple #[.agg #[vi n31.kind, .slice A169 z143.length c174, .slice A170 z144.length c175, .slice A171 z145.length c176, .slice A172 z146.length c177], .agg #[vi z147, vi z148, vi z149, vi z150], .agg #[vi z151, .slice A168 z142.length c173, .slice A167 z141.length c172, .slice A166 z140.length c171, .slice A165 z139.length c170]] ∧ Hp w V39 ((row 3 eInt A165 c170 z139) :: (row 43 eSpot A166 c171 z140) :: (row 3 eInt A167 c172 z141) :: (row 28 eElem A168 c173 z142) :: (row 28 eElem A169 c174 z143) :: (row 3 eInt A170 c175 z144) :: (row 43 eSpot A171 c176 z145) :: (row 3 eInt A172 c177 z146) :: t64_) w') Try.func99 rfl rfl (by kernel_rfl) (fun _ => by kernel_rfl) rfl ?_ ?_)
   ·
    refine T.seq (T.region (T.step (W1.np 97 v210_ (fun _ => by kernel_rfl) (fun b78 => ?_))))
    refine T.step (W1.np 97 v204_ (fun _ => by kernel_rfl) (fun b79 => ?_))
    refine T.step (W1.np 43 v202_ (fun _ => by kernel_rfl) (fun b80 => ?_))
    refine T.step (W1.np 97 v204_ (fun _ => by kernel_rfl) (fun b81 => ?_))
    refine T.nil (T.seq (T.seq (T.region (T.pk (pB b78 0) (fun _ => by kernel_rfl) (T.look (vi n31.kind) (by kernel_rfl) (ld1 3 rfl rfl (fun _ => by kernel_rfl) (by rfl) rfl) ?_)))))
    refine T.pk (.bool (n31.kind == 1)) (fun _ => by kernel_rfl) (T.nil ?_)
    refine T.cond (n31.kind == 1) (by kernel_rfl) (by kernel_rfl) (fun hc29 => ?_) (fun hc29 => ?_)
    ·
     rw [hc29, cond_true] at hX16
     refine T.seq (T.region (T.pk (pB b78 1) (fun _ => by kernel_rfl) (T.look (.slice A146 z125.length c150) (by kernel_rfl) (ld1 3 rfl rfl (fun _ => by kernel_rfl) (by rfl) rfl) ?_)))
     obtain ⟨s25, hb146, hX16⟩ := ob hX16
     refine T.look (.slice (cutA A146 c150 (4 : Int).toNat 6) s25.length (c150 - (4 : Int).toNat)) (by kernel_rfl) (fun w' hh => exec_slice_list (e := 28) (s := 6) (lx := (some _)) (hx := none) (k := .i64) (k' := .i64) rfl rfl (by kernel_rfl) (by kernel_rfl) ((hh.row_slOk (i := 4) (by rfl))).1 rfl rfl hb146) ?_
     obtain ⟨y36, hb147, hX16⟩ := ob hX16
     obtain ⟨hb147_r, hb147_m, _⟩ := grow_some hb147
     let i75_ : HObj := box b81 97 v204_
     let i76_ : HObj := box b80 43 v202_
     let i77_ : HObj := box b79 97 v204_
     let i78_ : HObj := box b78 97 v210_
     refine T.step (W1.cln 36 [.slice (cutA A146 c150 (4 : Int).toNat 6) s25.length (c150 - (4 : Int).toNat)] (fun _ => by kernel_rfl) (fun w' hh => own_clone_Elem w V34 (i75_ :: i76_ :: i77_ :: i78_ :: t68_) w' _ _ _ (fun w' hh => (SlOk.cut (hh.row_slOk (i := 4) (by rfl)) hb146)) (by simpa +zetaDelta using hb147_r) (by simpa +zetaDelta using hb147_m) hh) (fun A173 c178 => ?_))
     let a256_ : Value := .agg #[vi 1, .slice A173 s25.length c178, sN, sN, sN]
     refine T.pk a256_ (fun _ => by kernel_rfl) (T.step (W1.np 97 v204_ (fun _ => by kernel_rfl) (fun b82 => ?_)))
     let v211_ : List Value := [vi 1, .slice A173 s25.length c178, sN, sN, sN]
     let i79_ : HObj := box b82 97 v211_
     refine T.step (W1.st 0 v211_ (i79_ :: (row 28 eElem A173 c178 s25) :: i75_ :: i76_ :: i77_ :: i78_ :: t68_) v211_ (by rfl) rfl rfl rfl rfl rfl rfl (fun _ => by kernel_rfl) ?_)
     refine T.nil (T.seq (T.region (T.pk (pB b78 1) (fun _ => by kernel_rfl) (T.look (.slice A146 z125.length c150) (by kernel_rfl) (ld1 5 rfl rfl (fun _ => by kernel_rfl) (by rfl) rfl) ?_))))
     obtain ⟨s26, hb148, hX16⟩ := ob hX16
     refine T.look (.slice A146 s26.length c150) (by kernel_rfl) (sl0 6 (e := 28) (s := 6) rfl rfl (fun _ => by kernel_rfl) (by rfl) rfl hb148) ?_
     refine T.pk (pB b78 1) (fun _ => by kernel_rfl) ?_
     let v212_ : List Value := [vi n31.kind, .slice A146 s26.length c150, .slice A147 z126.length c151, .slice A148 z127.length c152, .slice A149 z128.length c153]
     let i80_ : HObj := box b78 97 v212_
     let t81_ : List HObj := i80_ :: t68_
     refine T.step (W1.st 5 v212_ (i79_ :: (row 28 eElem A173 c178 s25) :: i75_ :: i76_ :: i77_ :: t81_) [.slice A146 s26.length c150] (by rfl) rfl rfl rfl rfl rfl rfl (fun _ => by kernel_rfl) ?_)
     refine T.nil (T.seq ?_)
     refine T.held (i79_ :: (row 28 eElem A173 c178 s25) :: i80_ :: (row 28 eElem A146 c150 z125) :: (row 3 eInt A147 c151 z126) :: (row 43 eSpot A148 c152 z127) :: (row 3 eInt A149 c153 z128) :: i58_ :: i9_ :: i59_ :: (row 97 eHdr A150 c154 hs18) :: []) (by kernel_rfl) ?_
     have w277_ := vt (vt hV1 hV32) hV34
     refine TA.keep (Hp.old vr w277_ (kp2 (dr3 (kp9 (dr1 kp0)))) (oB1 (oR1 (oB1 (oR4 (oB3 (oR1 ol0))))))) fun o297_ => ?_
     refine TA.tk 0 (.agg #[vi n31.kind, .slice A146 s26.length c150, .slice A147 z126.length c151, .slice A148 z127.length c152, .slice A149 z128.length c153]) rfl (by kernel_rfl) (fun _ _ _ h => h) o297_ (ldN 2 rfl rfl (fun _ => by kernel_rfl) (by rfl) rfl) ?_
     refine TA.tp 1 (pB b82 1) rfl (fun _ => by kernel_rfl) (fun _ _ _ h => h) o297_ ?_
     refine TA.tk 2 (.slice A173 s25.length c178) rfl (by kernel_rfl) (fun _ _ _ h => h) o297_ (ld1 0 rfl rfl (fun _ => by kernel_rfl) (by rfl) rfl) ?_
     obtain ⟨e33, hb149, hX16⟩ := ob hX16
     obtain ⟨hi117, hi118, hi119⟩ := idx_some hb149
     refine TA.tk 3 (.pointer (some ((sadr A173).add (((0 : Int).toNat) * 6)))) rfl (by kernel_rfl) (fun _ _ _ h => h) o297_ (ixR 1 (e := 28) (s := 6) rfl rfl rfl (fun _ => by kernel_rfl) hi117 hi118 (by rfl) hi119 (by decide)) ?_
     let a257_ : Value := .agg #[vi e33.key.pfs, vi e33.key.obj, vi e33.key.off, vi e33.made, vi e33.gone, .string e33.val]
     refine TA.tk 4 a257_ rfl (by kernel_rfl) (fun _ _ _ h => h) o297_ (fun w' hh => exec_loadN (cs := [vi e33.key.pfs, vi e33.key.obj, vi e33.key.off, vi e33.made, vi e33.gone, .string e33.val]) rfl rfl (by kernel_rfl) (by kernel_rfl) (fun j u hj => (SlOk.wcellF (E := eElem) (hh.row_slOk (i := 1) (by rfl)) hi119 j (fun _ _ _ h => h) hj))) ?_
     refine TA.tk 6 a256_ rfl (by kernel_rfl) (fun _ _ _ h => h) o297_ (ldN 0 rfl rfl (fun _ => by kernel_rfl) (by rfl) rfl) ?_
     refine TA.all [5] (by kernel_rfl) rfl ⟨?_, trivial⟩
     obtain ⟨r76, hb150, hX16⟩ := ob hX16
     refine TA.br rfl (W1.call (vAg eSpot) r76 22 #[a257_] (by kernel_rfl) (fun _ => by kernel_rfl) (fun w' hh => elem_Spot_l e33 r76 hb150 w' ) ?_)
     intro u V40 hV40 hu
     obtain rfl := sureSpot _ _ _ hu
     refine TA.on (Hp.old hV40 w277_ (kp2 (dr3 (kp9 (dr1 kp0)))) (oB1 (oR1 (oB1 (oR4 (oB3 (oR1 ol0))))))) ?_
     refine TA.all [7] (by kernel_rfl) rfl ⟨?_, trivial⟩
     let i82_ : HObj := box b79 97 v212_
     let t83_ : List HObj := i82_ :: t81_
     refine TA.br rfl (W1.st 4 v212_ (i79_ :: (row 28 eElem A173 c178 s25) :: i75_ :: i76_ :: t83_) v212_ (by rfl) rfl rfl rfl rfl rfl rfl (fun _ => by kernel_rfl) ?_)
     refine TA.on (Hp.old hV40 w277_ (kp2 (dr3 (kp9 (dr1 kp0)))) (oB1 (oR1 (oB1 (oR4 (oB3 (oR1 ol0))))))) ?_
     refine TA.all [8] (by kernel_rfl) rfl ⟨?_, trivial⟩
     let v213_ : List Value := [vi r76.key.pfs, vi r76.key.obj, vi r76.key.off, vi r76.made]
     let i84_ : HObj := box b80 43 v213_
     refine TA.br rfl (W1.st 3 v213_ (i79_ :: (row 28 eElem A173 c178 s25) :: i75_ :: i84_ :: t83_) v213_ (by rfl) rfl rfl rfl rfl rfl rfl (fun _ => by kernel_rfl) ?_)
     refine TA.on (Hp.old hV40 w277_ (kp2 (dr3 (kp9 (dr1 kp0)))) (oB1 (oR1 (oB1 (oR4 (oB3 (oR1 ol0))))))) ?_
     refine TA.all [9] (by kernel_rfl) rfl ⟨?_, trivial⟩
     refine TA.br rfl (W1.st 2 v211_ (i79_ :: (row 28 eElem A173 c178 s25) :: (box b81 97 v211_) :: i84_ :: t83_) v211_ (by rfl) rfl rfl rfl rfl rfl rfl (fun _ => by kernel_rfl) ?_)
     refine TA.on (Hp.old hV40 w277_ (kp2 (dr3 (kp9 (dr1 kp0)))) (oB1 (oR1 (oB1 (oR4 (oB3 (oR1 ol0))))))) ?_
     refine TA.done (by kernel_rfl) ?_
     refine T.shrink (l := s26) 6 (by rfl) (lslice_prefix hb148) ?_
     refine T.rownil 3 eInt ?_
     refine T.rownil 43 eSpot ?_
     refine T.rownil 3 eInt ?_
     cases hX16
     refine T.ret rfl ?_
     repeat first | refine T.unthen ?_ | refine T.unblock ?_
     exact T.ret3 rfl (ResIs.cellN 7 rfl (by rfl) (fun _ => by kernel_rfl) (fun _ => by kernel_rfl)) (ResIs.cellN 6 rfl (by rfl) (fun _ => by kernel_rfl) (fun _ => by kernel_rfl)) (ResIs.cellN 5 rfl (by rfl) (fun _ => by kernel_rfl) (fun _ => by kernel_rfl)) fun w' hh => ⟨_, rfl, ⟨[], [], [], s25, s26, z126, z127, z128, r76.key.pfs, r76.key.obj, r76.key.off, r76.made, 1, rfl, none, 0, none, 0, none, 0, A173, c178, A146, c150, A147, c151, A148, c152, A149, c153, V40, hV40, rfl, (hh.sub (kp3 (dr1 (kp1 (dr4 (kp8 (kp1 kpr)))))))⟩⟩
    rw [hc29, cond_false] at hX16
    refine T.skip_code ?_
    refine T.seq ?_
    obtain ⟨s27, hb151, hX16⟩ := ob hX16
    obtain ⟨s28, hb152, hX16⟩ := ob hX16
    obtain ⟨s29, hb153, hX16⟩ := ob hX16
    obtain ⟨y37, hb154, hX16⟩ := ob hX16
    obtain ⟨y38, hb155, hX16⟩ := ob hX16
    obtain ⟨y39, hb156, hX16⟩ := ob hX16
    let i85_ : HObj := box b81 97 v204_
    let i86_ : HObj := box b80 43 v202_
    let i87_ : HObj := box b79 97 v204_
    let i88_ : HObj := box b78 97 v210_
    let t89_ : List HObj := i88_ :: t68_
    let t90_ : List HObj := i87_ :: t89_
    let t91_ : List HObj := i86_ :: t90_
    let t92_ : List HObj := i85_ :: t91_
    refine T.mid (fun a w' => ∃ (b83 : Nat) (A177 : Option Addr) (c182 : Nat) (A178 : Option Addr) (c183 : Nat) (A179 : Option Addr) (c184 : Nat), Fr 59 [(1, pB b78 0), (2, pB b79 0), (3, pB b80 0), (4, pB b81 0), (6, pB b83 0)] a ∧ Hp w V34 ((box b83 97 [vi 2, sN, .slice A177 s27.length c182, .slice A178 s28.length c183, .slice A179 s29.length c184]) :: (row 3 eInt A179 c184 s29) :: (row 43 eSpot A178 c183 s28) :: (row 3 eInt A177 c182 s27) :: t92_) w') ?_ ?_
    ·
     refine T.held (i85_ :: i86_ :: i87_ :: i88_ :: (row 28 eElem A146 c150 z125) :: (row 3 eInt A147 c151 z126) :: (row 43 eSpot A148 c152 z127) :: (row 3 eInt A149 c153 z128) :: i58_ :: i9_ :: i59_ :: (row 97 eHdr A150 c154 hs18) :: []) (by kernel_rfl) ?_
     have w278_ := vt (vt hV1 hV32) hV34
     refine TA.keep (Hp.old vr w278_ (kp12 (dr1 kp0)) (oB4 (oR4 (oB3 (oR1 ol0))))) fun o298_ => ?_
     refine TA.tp 0 (pB b78 2) rfl (fun _ => by kernel_rfl) (fun _ _ _ h => h) o298_ ?_
     refine TA.tk 1 (.slice A147 z126.length c151) rfl (by kernel_rfl) (fun _ _ _ h => h) o298_ (ld1 3 rfl rfl (fun _ => by kernel_rfl) (by rfl) rfl) ?_
     refine TA.tk 2 (.slice (cutA A147 c151 (4 : Int).toNat 1) s27.length (c151 - (4 : Int).toNat)) rfl (by kernel_rfl) (fun _ _ _ h => h) o298_ (fun w' hh => exec_slice_list (e := 3) (s := 1) (lx := (some _)) (hx := none) (k := .i64) (k' := .i64) rfl rfl (by kernel_rfl) (by kernel_rfl) ((hh.row_slOk (i := 5) (by rfl))).1 rfl rfl hb151) ?_
     refine TA.tp 4 (pB b78 3) rfl (fun _ => by kernel_rfl) (fun _ _ _ h => h) o298_ ?_
     refine TA.tk 5 (.slice A148 z127.length c152) rfl (by kernel_rfl) (fun _ _ _ h => h) o298_ (ld1 3 rfl rfl (fun _ => by kernel_rfl) (by rfl) rfl) ?_
     refine TA.tk 6 (.slice (cutA A148 c152 (4 : Int).toNat 4) s28.length (c152 - (4 : Int).toNat)) rfl (by kernel_rfl) (fun _ _ _ h => h) o298_ (fun w' hh => exec_slice_list (e := 43) (s := 4) (lx := (some _)) (hx := none) (k := .i64) (k' := .i64) rfl rfl (by kernel_rfl) (by kernel_rfl) ((hh.row_slOk (i := 6) (by rfl))).1 rfl rfl hb152) ?_
     refine TA.tp 8 (pB b78 4) rfl (fun _ => by kernel_rfl) (fun _ _ _ h => h) o298_ ?_
     refine TA.tk 9 (.slice A149 z128.length c153) rfl (by kernel_rfl) (fun _ _ _ h => h) o298_ (ld1 3 rfl rfl (fun _ => by kernel_rfl) (by rfl) rfl) ?_
     refine TA.tk 10 (.slice (cutA A149 c153 (4 : Int).toNat 1) s29.length (c153 - (4 : Int).toNat)) rfl (by kernel_rfl) (fun _ _ _ h => h) o298_ (fun w' hh => exec_slice_list (e := 3) (s := 1) (lx := (some _)) (hx := none) (k := .i64) (k' := .i64) rfl rfl (by kernel_rfl) (by kernel_rfl) ((hh.row_slOk (i := 7) (by rfl))).1 rfl rfl hb153) ?_
     refine TA.all [3, 13] (by kernel_rfl) rfl ⟨?_, ?_, trivial⟩
     ·
      obtain ⟨hb154_r, hb154_m, _⟩ := grow_some hb154
      refine TA.br rfl (W1.cln 110 [.slice (cutA A147 c151 (4 : Int).toNat 1) s27.length (c151 - (4 : Int).toNat)] (fun _ => by kernel_rfl) (fun w' hh => own_clone_int w V34 t92_ w' _ _ _ (fun w' hh => (SlOk.cut (hh.row_slOk (i := 5) (by rfl)) hb151)) (by simpa +zetaDelta using hb154_r) (by simpa +zetaDelta using hb154_m) hh) (fun A174 c179 => ?_))
      refine TA.on (Hp.old vr w278_ (dr1 (kp12 (dr1 kp0))) (oB4 (oR4 (oB3 (oR1 ol0))))) ?_
      refine TA.all [7, 13] (by kernel_rfl) rfl ⟨?_, ?_, trivial⟩
      ·
       obtain ⟨hb155_r, hb155_m, _⟩ := grow_some hb155
       let t93_ : List HObj := (row 3 eInt A174 c179 s27) :: t92_
       refine TA.br rfl (W1.cln 111 [.slice (cutA A148 c152 (4 : Int).toNat 4) s28.length (c152 - (4 : Int).toNat)] (fun _ => by kernel_rfl) (fun w' hh => own_clone_Spot w V34 t93_ w' _ _ _ (fun w' hh => (SlOk.cut (hh.row_slOk (i := 7) (by rfl)) hb152)) (by simpa +zetaDelta using hb155_r) (by simpa +zetaDelta using hb155_m) hh) (fun A175 c180 => ?_))
       refine TA.on (Hp.old vr w278_ (dr2 (kp12 (dr1 kp0))) (oB4 (oR4 (oB3 (oR1 ol0))))) ?_
       refine TA.all [11, 13] (by kernel_rfl) rfl ⟨?_, ?_, trivial⟩
       ·
        obtain ⟨hb156_r, hb156_m, _⟩ := grow_some hb156
        refine TA.br rfl (W1.cln 110 [.slice (cutA A149 c153 (4 : Int).toNat 1) s29.length (c153 - (4 : Int).toNat)] (fun _ => by kernel_rfl) (fun w' hh => own_clone_int w V34 ((row 43 eSpot A175 c180 s28) :: t93_) w' _ _ _ (fun w' hh => (SlOk.cut (hh.row_slOk (i := 9) (by rfl)) hb153)) (by simpa +zetaDelta using hb156_r) (by simpa +zetaDelta using hb156_m) hh) (fun A176 c181 => ?_))
        refine TA.onk (Hp.old vr w278_ (dr3 (kp12 (dr1 kp0))) (oB4 (oR4 (oB3 (oR1 ol0))))) fun o299_ => ?_
        refine TA.tp 12 (.agg #[vi 2, sN, .slice A174 s27.length c179, .slice A175 s28.length c180, .slice A176 s29.length c181]) rfl (fun _ => by kernel_rfl) (fun _ _ _ h => h) o299_ ?_
        refine TA.all [13] (by kernel_rfl) rfl ⟨?_, trivial⟩
        refine TA.br rfl (W1.np 97 v204_ (fun _ => by kernel_rfl) (fun b83 => ?_))
        refine TA.on (Hp.old vr w278_ (dr4 (kp12 (dr1 kp0))) (oB4 (oR4 (oB3 (oR1 ol0))))) ?_
        refine TA.all [14] (by kernel_rfl) rfl ⟨?_, trivial⟩
        let v214_ : List Value := [vi 2, sN, .slice A174 s27.length c179, .slice A175 s28.length c180, .slice A176 s29.length c181]
        refine TA.br rfl (W1.st 0 v214_ ((box b83 97 v214_) :: (row 3 eInt A176 c181 s29) :: (row 43 eSpot A175 c180 s28) :: t93_) v214_ (by rfl) rfl rfl rfl rfl rfl rfl (fun _ => by kernel_rfl) ?_)
        refine TA.on (Hp.old vr w278_ (dr4 (kp12 (dr1 kp0))) (oB4 (oR4 (oB3 (oR1 ol0))))) ?_
        refine TA.done (by kernel_rfl) ?_
        exact fun a w' hf hh => ⟨b83, A174, c179, A175, c180, A176, c181, (Fr.sel hf rfl), (hh.sub (kp16 (kp1 kpr)))⟩
       refine TA.br rfl (W1.np 97 v204_ (fun _ => by kernel_rfl) (fun b83 => ?_))
       refine TA.on (Hp.old vr w278_ (dr3 (kp12 (dr1 kp0))) (oB4 (oR4 (oB3 (oR1 ol0))))) ?_
       refine TA.all [11] (by kernel_rfl) rfl ⟨?_, trivial⟩
       obtain ⟨hb156_r, hb156_m, _⟩ := grow_some hb156
       refine TA.br rfl (W1.cln 110 [.slice (cutA A149 c153 (4 : Int).toNat 1) s29.length (c153 - (4 : Int).toNat)] (fun _ => by kernel_rfl) (fun w' hh => own_clone_int w V34 ((box b83 97 v204_) :: (row 43 eSpot A175 c180 s28) :: t93_) w' _ _ _ (fun w' hh => (SlOk.cut (hh.row_slOk (i := 10) (by rfl)) hb153)) (by simpa +zetaDelta using hb156_r) (by simpa +zetaDelta using hb156_m) hh) (fun A176 c181 => ?_))
       refine TA.onk (Hp.old vr w278_ (dr4 (kp12 (dr1 kp0))) (oB4 (oR4 (oB3 (oR1 ol0))))) fun o300_ => ?_
       refine TA.tp 12 (.agg #[vi 2, sN, .slice A174 s27.length c179, .slice A175 s28.length c180, .slice A176 s29.length c181]) rfl (fun _ => by kernel_rfl) (fun _ _ _ h => h) o300_ ?_
       refine TA.all [14] (by kernel_rfl) rfl ⟨?_, trivial⟩
       let v215_ : List Value := [vi 2, sN, .slice A174 s27.length c179, .slice A175 s28.length c180, .slice A176 s29.length c181]
       refine TA.br rfl (W1.st 1 v215_ ((row 3 eInt A176 c181 s29) :: (box b83 97 v215_) :: (row 43 eSpot A175 c180 s28) :: t93_) v215_ (by rfl) rfl rfl rfl rfl rfl rfl (fun _ => by kernel_rfl) ?_)
       refine TA.on (Hp.old vr w278_ (dr4 (kp12 (dr1 kp0))) (oB4 (oR4 (oB3 (oR1 ol0))))) ?_
       refine TA.done (by kernel_rfl) ?_
       exact fun a w' hf hh => ⟨b83, A174, c179, A175, c180, A176, c181, (Fr.sel hf rfl), ((hh.sub (kp16 (kp1 kpr))).perm (pt sw0 pz))⟩
      refine TA.br rfl (W1.np 97 v204_ (fun _ => by kernel_rfl) (fun b83 => ?_))
      refine TA.on (Hp.old vr w278_ (dr2 (kp12 (dr1 kp0))) (oB4 (oR4 (oB3 (oR1 ol0))))) ?_
      refine TA.all [7] (by kernel_rfl) rfl ⟨?_, trivial⟩
      obtain ⟨hb155_r, hb155_m, _⟩ := grow_some hb155
      let i94_ : HObj := box b83 97 v204_
      let t95_ : List HObj := (row 3 eInt A174 c179 s27) :: t92_
      refine TA.br rfl (W1.cln 111 [.slice (cutA A148 c152 (4 : Int).toNat 4) s28.length (c152 - (4 : Int).toNat)] (fun _ => by kernel_rfl) (fun w' hh => own_clone_Spot w V34 (i94_ :: t95_) w' _ _ _ (fun w' hh => (SlOk.cut (hh.row_slOk (i := 8) (by rfl)) hb152)) (by simpa +zetaDelta using hb155_r) (by simpa +zetaDelta using hb155_m) hh) (fun A175 c180 => ?_))
      refine TA.on (Hp.old vr w278_ (dr3 (kp12 (dr1 kp0))) (oB4 (oR4 (oB3 (oR1 ol0))))) ?_
      refine TA.all [11] (by kernel_rfl) rfl ⟨?_, trivial⟩
      obtain ⟨hb156_r, hb156_m, _⟩ := grow_some hb156
      refine TA.br rfl (W1.cln 110 [.slice (cutA A149 c153 (4 : Int).toNat 1) s29.length (c153 - (4 : Int).toNat)] (fun _ => by kernel_rfl) (fun w' hh => own_clone_int w V34 ((row 43 eSpot A175 c180 s28) :: i94_ :: t95_) w' _ _ _ (fun w' hh => (SlOk.cut (hh.row_slOk (i := 10) (by rfl)) hb153)) (by simpa +zetaDelta using hb156_r) (by simpa +zetaDelta using hb156_m) hh) (fun A176 c181 => ?_))
      refine TA.onk (Hp.old vr w278_ (dr4 (kp12 (dr1 kp0))) (oB4 (oR4 (oB3 (oR1 ol0))))) fun o301_ => ?_
      refine TA.tp 12 (.agg #[vi 2, sN, .slice A174 s27.length c179, .slice A175 s28.length c180, .slice A176 s29.length c181]) rfl (fun _ => by kernel_rfl) (fun _ _ _ h => h) o301_ ?_
      refine TA.all [14] (by kernel_rfl) rfl ⟨?_, trivial⟩
      let v216_ : List Value := [vi 2, sN, .slice A174 s27.length c179, .slice A175 s28.length c180, .slice A176 s29.length c181]
      refine TA.br rfl (W1.st 2 v216_ ((row 3 eInt A176 c181 s29) :: (row 43 eSpot A175 c180 s28) :: (box b83 97 v216_) :: t95_) v216_ (by rfl) rfl rfl rfl rfl rfl rfl (fun _ => by kernel_rfl) ?_)
      refine TA.on (Hp.old vr w278_ (dr4 (kp12 (dr1 kp0))) (oB4 (oR4 (oB3 (oR1 ol0))))) ?_
      refine TA.done (by kernel_rfl) ?_
      exact fun a w' hf hh => ⟨b83, A174, c179, A175, c180, A176, c181, (Fr.sel hf rfl), ((hh.sub (kp16 (kp1 kpr))).perm (pt sw1 (pt sw0 pz)))⟩
     refine TA.br rfl (W1.np 97 v204_ (fun _ => by kernel_rfl) (fun b83 => ?_))
     refine TA.on (Hp.old vr w278_ (dr1 (kp12 (dr1 kp0))) (oB4 (oR4 (oB3 (oR1 ol0))))) ?_
     refine TA.all [3] (by kernel_rfl) rfl ⟨?_, trivial⟩
     obtain ⟨hb154_r, hb154_m, _⟩ := grow_some hb154
     let i96_ : HObj := box b83 97 v204_
     let t97_ : List HObj := i96_ :: t92_
     refine TA.br rfl (W1.cln 110 [.slice (cutA A147 c151 (4 : Int).toNat 1) s27.length (c151 - (4 : Int).toNat)] (fun _ => by kernel_rfl) (fun w' hh => own_clone_int w V34 t97_ w' _ _ _ (fun w' hh => (SlOk.cut (hh.row_slOk (i := 6) (by rfl)) hb151)) (by simpa +zetaDelta using hb154_r) (by simpa +zetaDelta using hb154_m) hh) (fun A174 c179 => ?_))
     refine TA.on (Hp.old vr w278_ (dr2 (kp12 (dr1 kp0))) (oB4 (oR4 (oB3 (oR1 ol0))))) ?_
     refine TA.all [7] (by kernel_rfl) rfl ⟨?_, trivial⟩
     obtain ⟨hb155_r, hb155_m, _⟩ := grow_some hb155
     refine TA.br rfl (W1.cln 111 [.slice (cutA A148 c152 (4 : Int).toNat 4) s28.length (c152 - (4 : Int).toNat)] (fun _ => by kernel_rfl) (fun w' hh => own_clone_Spot w V34 ((row 3 eInt A174 c179 s27) :: t97_) w' _ _ _ (fun w' hh => (SlOk.cut (hh.row_slOk (i := 8) (by rfl)) hb152)) (by simpa +zetaDelta using hb155_r) (by simpa +zetaDelta using hb155_m) hh) (fun A175 c180 => ?_))
     refine TA.on (Hp.old vr w278_ (dr3 (kp12 (dr1 kp0))) (oB4 (oR4 (oB3 (oR1 ol0))))) ?_
     refine TA.all [11] (by kernel_rfl) rfl ⟨?_, trivial⟩
     obtain ⟨hb156_r, hb156_m, _⟩ := grow_some hb156
     refine TA.br rfl (W1.cln 110 [.slice (cutA A149 c153 (4 : Int).toNat 1) s29.length (c153 - (4 : Int).toNat)] (fun _ => by kernel_rfl) (fun w' hh => own_clone_int w V34 ((row 43 eSpot A175 c180 s28) :: (row 3 eInt A174 c179 s27) :: t97_) w' _ _ _ (fun w' hh => (SlOk.cut (hh.row_slOk (i := 10) (by rfl)) hb153)) (by simpa +zetaDelta using hb156_r) (by simpa +zetaDelta using hb156_m) hh) (fun A176 c181 => ?_))
     refine TA.onk (Hp.old vr w278_ (dr4 (kp12 (dr1 kp0))) (oB4 (oR4 (oB3 (oR1 ol0))))) fun o302_ => ?_
     refine TA.tp 12 (.agg #[vi 2, sN, .slice A174 s27.length c179, .slice A175 s28.length c180, .slice A176 s29.length c181]) rfl (fun _ => by kernel_rfl) (fun _ _ _ h => h) o302_ ?_
     refine TA.all [14] (by kernel_rfl) rfl ⟨?_, trivial⟩
     let v217_ : List Value := [vi 2, sN, .slice A174 s27.length c179, .slice A175 s28.length c180, .slice A176 s29.length c181]
     refine TA.br rfl (W1.st 3 v217_ ((row 3 eInt A176 c181 s29) :: (row 43 eSpot A175 c180 s28) :: (row 3 eInt A174 c179 s27) :: (box b83 97 v217_) :: t92_) v217_ (by rfl) rfl rfl rfl rfl rfl rfl (fun _ => by kernel_rfl) ?_)
     refine TA.on (Hp.old vr w278_ (dr4 (kp12 (dr1 kp0))) (oB4 (oR4 (oB3 (oR1 ol0))))) ?_
     refine TA.done (by kernel_rfl) ?_
     exact fun a w' hf hh => ⟨b83, A174, c179, A175, c180, A176, c181, (Fr.sel hf rfl), ((hh.sub (kp16 (kp1 kpr))).perm (pt sw2 (pt sw1 (pt sw0 pz))))⟩
    rintro a w' ⟨b83, A177, c182, A178, c183, A179, c184, hf, hh⟩
    let v218_ : List Value := [vi 2, sN, .slice A177 s27.length c182, .slice A178 s28.length c183, .slice A179 s29.length c184]
    let i98_ : HObj := box b83 97 v218_
    refine (?_ : T 59 w V34 (i98_ :: (row 3 eInt A179 c184 s29) :: (row 43 eSpot A178 c183 s28) :: (row 3 eInt A177 c182 s27) :: t92_) [(1, pB b78 0), (2, pB b79 0), (3, pB b80 0), (4, pB b81 0), (6, pB b83 0)] _) a w' hf hh
    clear hf hh
    refine T.seq (T.region (T.pk (pB b78 3) (fun _ => by kernel_rfl) (T.look (.slice A148 z127.length c152) (by kernel_rfl) (ld1 7 rfl rfl (fun _ => by kernel_rfl) (by rfl) rfl) ?_)))
    obtain ⟨e34, hb157, hX16⟩ := ob hX16
    obtain ⟨hi120, hi121, hi122⟩ := idx_some hb157
    refine T.look (.pointer (some ((sadr A148).add (((3 : Int).toNat) * 4)))) (by kernel_rfl) (ixR 10 (e := 43) (s := 4) rfl rfl rfl (fun _ => by kernel_rfl) hi120 hi121 (by rfl) hi122 (by decide)) ?_
    let v219_ : List Value := [vi e34.key.pfs, vi e34.key.obj, vi e34.key.off, vi e34.made]
    let a258_ : Value := .agg #[vi e34.key.pfs, vi e34.key.obj, vi e34.key.off, vi e34.made]
    refine T.look a258_ (by kernel_rfl) (fun w' hh => exec_loadN (cs := v219_) rfl rfl (by kernel_rfl) (by kernel_rfl) (fun j u hj => (SlOk.wcellF (E := eSpot) (hh.row_slOk (i := 10) (by rfl)) hi122 j (fun _ _ _ h => h) hj))) ?_
    refine T.step (W1.np 43 v202_ (fun _ => by kernel_rfl) (fun b84 => ?_))
    let i99_ : HObj := box b84 43 v219_
    refine T.step (W1.st 0 v219_ (i99_ :: i98_ :: (row 3 eInt A179 c184 s29) :: (row 43 eSpot A178 c183 s28) :: (row 3 eInt A177 c182 s27) :: t92_) v219_ (by rfl) rfl rfl rfl rfl rfl rfl (fun _ => by kernel_rfl) ?_)
    refine T.nil (T.seq ?_)
    obtain ⟨s30, hb158, hX16⟩ := ob hX16
    obtain ⟨s31, hb159, hX16⟩ := ob hX16
    obtain ⟨s32, hb160, hX16⟩ := ob hX16
    let v220_ : List Value := [vi n31.kind, .slice A146 z125.length c150, .slice A147 s30.length c151, .slice A148 s31.length c152, .slice A149 s32.length c153]
    let i100_ : HObj := box b78 97 v220_
    let t101_ : List HObj := i100_ :: t68_
    let t102_ : List HObj := i87_ :: t101_
    let t103_ : List HObj := i86_ :: t102_
    let t104_ : List HObj := i85_ :: t103_
    let t105_ : List HObj := (row 3 eInt A177 c182 s27) :: t104_
    let t106_ : List HObj := (row 43 eSpot A178 c183 s28) :: t105_
    let t107_ : List HObj := (row 3 eInt A179 c184 s29) :: t106_
    let t108_ : List HObj := i98_ :: t107_
    let t109_ : List HObj := i99_ :: t108_
    refine T.mid (fun a w' => Fr 59 [(1, pB b78 0), (2, pB b79 0), (3, pB b80 0), (4, pB b81 0), (6, pB b83 0), (7, pB b84 0)] a ∧ Hp w V34 t109_ w') ?_ ?_
    ·
     refine T.held (i99_ :: i98_ :: (row 3 eInt A179 c184 s29) :: (row 43 eSpot A178 c183 s28) :: (row 3 eInt A177 c182 s27) :: i85_ :: i86_ :: i87_ :: (row 28 eElem A146 c150 z125) :: (row 3 eInt A147 c151 z126) :: (row 43 eSpot A148 c152 z127) :: (row 3 eInt A149 c153 z128) :: i58_ :: i9_ :: i59_ :: (row 97 eHdr A150 c154 hs18) :: []) (by kernel_rfl) ?_
     have w279_ := vt (vt hV1 hV32) hV34
     refine TA.keep (Hp.old vr w279_ (kp8 (dr1 (kp8 (dr1 kp0)))) (oB2 (oR3 (oB3 (oR4 (oB3 (oR1 ol0))))))) fun o303_ => ?_
     refine TA.tp 0 (pB b78 2) rfl (fun _ => by kernel_rfl) (fun _ _ _ h => h) o303_ ?_
     refine TA.tp 3 (pB b78 3) rfl (fun _ => by kernel_rfl) (fun _ _ _ h => h) o303_ ?_
     refine TA.tp 6 (pB b78 4) rfl (fun _ => by kernel_rfl) (fun _ _ _ h => h) o303_ ?_
     refine TA.all [1, 4, 7] (by kernel_rfl) rfl ⟨?_, ?_, ?_, trivial⟩
     ·
      refine TA.br rfl (W1.look (.slice A147 z126.length c151) (by kernel_rfl) (ld1 8 rfl rfl (fun _ => by kernel_rfl) (by rfl) rfl) ?_)
      refine TA.onk (Hp.old vr w279_ (kp8 (dr1 (kp8 (dr1 kp0)))) (oB2 (oR3 (oB3 (oR4 (oB3 (oR1 ol0))))))) fun o304_ => ?_
      refine TA.tk 2 (.slice A147 s30.length c151) rfl (by kernel_rfl) (fun _ _ _ h => h) o304_ (sl0 9 (e := 3) (s := 1) rfl rfl (fun _ => by kernel_rfl) (by rfl) rfl hb158) ?_
      refine TA.all [4, 7] (by kernel_rfl) rfl ⟨?_, ?_, trivial⟩
      ·
       refine TA.br rfl (W1.look (.slice A148 z127.length c152) (by kernel_rfl) (ld1 8 rfl rfl (fun _ => by kernel_rfl) (by rfl) rfl) ?_)
       refine TA.onk (Hp.old vr w279_ (kp8 (dr1 (kp8 (dr1 kp0)))) (oB2 (oR3 (oB3 (oR4 (oB3 (oR1 ol0))))))) fun o305_ => ?_
       refine TA.tk 5 (.slice A148 s31.length c152) rfl (by kernel_rfl) (fun _ _ _ h => h) o305_ (sl0 10 (e := 43) (s := 4) rfl rfl (fun _ => by kernel_rfl) (by rfl) rfl hb159) ?_
       refine TA.all [7] (by kernel_rfl) rfl ⟨?_, trivial⟩
       refine TA.br rfl (W1.look (.slice A149 z128.length c153) (by kernel_rfl) (ld1 8 rfl rfl (fun _ => by kernel_rfl) (by rfl) rfl) ?_)
       refine TA.onk (Hp.old vr w279_ (kp8 (dr1 (kp8 (dr1 kp0)))) (oB2 (oR3 (oB3 (oR4 (oB3 (oR1 ol0))))))) fun o306_ => ?_
       refine TA.tk 8 (.slice A149 s32.length c153) rfl (by kernel_rfl) (fun _ _ _ h => h) o306_ (sl0 11 (e := 3) (s := 1) rfl rfl (fun _ => by kernel_rfl) (by rfl) rfl hb160) ?_
       refine TA.tp 9 (pB b78 2) rfl (fun _ => by kernel_rfl) (fun _ _ _ h => h) o306_ ?_
       refine TA.all [10] (by kernel_rfl) rfl ⟨?_, trivial⟩
       let v221_ : List Value := [vi n31.kind, .slice A146 z125.length c150, .slice A147 s30.length c151, .slice A148 z127.length c152, .slice A149 z128.length c153]
       refine TA.br rfl (W1.st 8 v221_ (i99_ :: i98_ :: (row 3 eInt A179 c184 s29) :: (row 43 eSpot A178 c183 s28) :: (row 3 eInt A177 c182 s27) :: i85_ :: i86_ :: i87_ :: (box b78 97 v221_) :: t68_) [.slice A147 s30.length c151] (by rfl) rfl rfl rfl rfl rfl rfl (fun _ => by kernel_rfl) ?_)
       refine TA.onk (Hp.old vr w279_ (kp8 (dr1 (kp8 (dr1 kp0)))) (oB2 (oR3 (oB3 (oR4 (oB3 (oR1 ol0))))))) fun o307_ => ?_
       refine TA.tp 11 (pB b78 3) rfl (fun _ => by kernel_rfl) (fun _ _ _ h => h) o307_ ?_
       refine TA.all [12] (by kernel_rfl) rfl ⟨?_, trivial⟩
       let v222_ : List Value := [vi n31.kind, .slice A146 z125.length c150, .slice A147 s30.length c151, .slice A148 s31.length c152, .slice A149 z128.length c153]
       refine TA.br rfl (W1.st 8 v222_ (i99_ :: i98_ :: (row 3 eInt A179 c184 s29) :: (row 43 eSpot A178 c183 s28) :: (row 3 eInt A177 c182 s27) :: i85_ :: i86_ :: i87_ :: (box b78 97 v222_) :: t68_) [.slice A148 s31.length c152] (by rfl) rfl rfl rfl rfl rfl rfl (fun _ => by kernel_rfl) ?_)
       refine TA.onk (Hp.old vr w279_ (kp8 (dr1 (kp8 (dr1 kp0)))) (oB2 (oR3 (oB3 (oR4 (oB3 (oR1 ol0))))))) fun o308_ => ?_
       refine TA.tp 13 (pB b78 4) rfl (fun _ => by kernel_rfl) (fun _ _ _ h => h) o308_ ?_
       refine TA.all [14] (by kernel_rfl) rfl ⟨?_, trivial⟩
       refine TA.br rfl (W1.st 8 v220_ t109_ [.slice A149 s32.length c153] (by rfl) rfl rfl rfl rfl rfl rfl (fun _ => by kernel_rfl) ?_)
       refine TA.on (Hp.old vr w279_ (kp8 (dr1 (kp8 (dr1 kp0)))) (oB2 (oR3 (oB3 (oR4 (oB3 (oR1 ol0))))))) ?_
       refine TA.done (by kernel_rfl) ?_
       exact fun a w' hf hh => ⟨(Fr.sel hf rfl), (hh.sub (kp17 (kp1 kpr)))⟩
      refine TA.br rfl (W1.look (.slice A149 z128.length c153) (by kernel_rfl) (ld1 8 rfl rfl (fun _ => by kernel_rfl) (by rfl) rfl) ?_)
      refine TA.onk (Hp.old vr w279_ (kp8 (dr1 (kp8 (dr1 kp0)))) (oB2 (oR3 (oB3 (oR4 (oB3 (oR1 ol0))))))) fun o309_ => ?_
      refine TA.tk 8 (.slice A149 s32.length c153) rfl (by kernel_rfl) (fun _ _ _ h => h) o309_ (sl0 11 (e := 3) (s := 1) rfl rfl (fun _ => by kernel_rfl) (by rfl) rfl hb160) ?_
      refine TA.all [4] (by kernel_rfl) rfl ⟨?_, trivial⟩
      refine TA.br rfl (W1.look (.slice A148 z127.length c152) (by kernel_rfl) (ld1 8 rfl rfl (fun _ => by kernel_rfl) (by rfl) rfl) ?_)
      refine TA.onk (Hp.old vr w279_ (kp8 (dr1 (kp8 (dr1 kp0)))) (oB2 (oR3 (oB3 (oR4 (oB3 (oR1 ol0))))))) fun o310_ => ?_
      refine TA.tk 5 (.slice A148 s31.length c152) rfl (by kernel_rfl) (fun _ _ _ h => h) o310_ (sl0 10 (e := 43) (s := 4) rfl rfl (fun _ => by kernel_rfl) (by rfl) rfl hb159) ?_
      refine TA.tp 9 (pB b78 2) rfl (fun _ => by kernel_rfl) (fun _ _ _ h => h) o310_ ?_
      refine TA.all [10] (by kernel_rfl) rfl ⟨?_, trivial⟩
      let v223_ : List Value := [vi n31.kind, .slice A146 z125.length c150, .slice A147 s30.length c151, .slice A148 z127.length c152, .slice A149 z128.length c153]
      refine TA.br rfl (W1.st 8 v223_ (i99_ :: i98_ :: (row 3 eInt A179 c184 s29) :: (row 43 eSpot A178 c183 s28) :: (row 3 eInt A177 c182 s27) :: i85_ :: i86_ :: i87_ :: (box b78 97 v223_) :: t68_) [.slice A147 s30.length c151] (by rfl) rfl rfl rfl rfl rfl rfl (fun _ => by kernel_rfl) ?_)
      refine TA.onk (Hp.old vr w279_ (kp8 (dr1 (kp8 (dr1 kp0)))) (oB2 (oR3 (oB3 (oR4 (oB3 (oR1 ol0))))))) fun o311_ => ?_
      refine TA.tp 11 (pB b78 3) rfl (fun _ => by kernel_rfl) (fun _ _ _ h => h) o311_ ?_
      refine TA.all [12] (by kernel_rfl) rfl ⟨?_, trivial⟩
      let v224_ : List Value := [vi n31.kind, .slice A146 z125.length c150, .slice A147 s30.length c151, .slice A148 s31.length c152, .slice A149 z128.length c153]
      refine TA.br rfl (W1.st 8 v224_ (i99_ :: i98_ :: (row 3 eInt A179 c184 s29) :: (row 43 eSpot A178 c183 s28) :: (row 3 eInt A177 c182 s27) :: i85_ :: i86_ :: i87_ :: (box b78 97 v224_) :: t68_) [.slice A148 s31.length c152] (by rfl) rfl rfl rfl rfl rfl rfl (fun _ => by kernel_rfl) ?_)
      refine TA.onk (Hp.old vr w279_ (kp8 (dr1 (kp8 (dr1 kp0)))) (oB2 (oR3 (oB3 (oR4 (oB3 (oR1 ol0))))))) fun o312_ => ?_
      refine TA.tp 13 (pB b78 4) rfl (fun _ => by kernel_rfl) (fun _ _ _ h => h) o312_ ?_
      refine TA.all [14] (by kernel_rfl) rfl ⟨?_, trivial⟩
      refine TA.br rfl (W1.st 8 v220_ t109_ [.slice A149 s32.length c153] (by rfl) rfl rfl rfl rfl rfl rfl (fun _ => by kernel_rfl) ?_)
      refine TA.on (Hp.old vr w279_ (kp8 (dr1 (kp8 (dr1 kp0)))) (oB2 (oR3 (oB3 (oR4 (oB3 (oR1 ol0))))))) ?_
      refine TA.done (by kernel_rfl) ?_
      exact fun a w' hf hh => ⟨(Fr.sel hf rfl), (hh.sub (kp17 (kp1 kpr)))⟩
     ·
      refine TA.br rfl (W1.look (.slice A148 z127.length c152) (by kernel_rfl) (ld1 8 rfl rfl (fun _ => by kernel_rfl) (by rfl) rfl) ?_)
      refine TA.onk (Hp.old vr w279_ (kp8 (dr1 (kp8 (dr1 kp0)))) (oB2 (oR3 (oB3 (oR4 (oB3 (oR1 ol0))))))) fun o313_ => ?_
      refine TA.tk 5 (.slice A148 s31.length c152) rfl (by kernel_rfl) (fun _ _ _ h => h) o313_ (sl0 10 (e := 43) (s := 4) rfl rfl (fun _ => by kernel_rfl) (by rfl) rfl hb159) ?_
      refine TA.all [1, 7] (by kernel_rfl) rfl ⟨?_, ?_, trivial⟩
      ·
       refine TA.br rfl (W1.look (.slice A147 z126.length c151) (by kernel_rfl) (ld1 8 rfl rfl (fun _ => by kernel_rfl) (by rfl) rfl) ?_)
       refine TA.onk (Hp.old vr w279_ (kp8 (dr1 (kp8 (dr1 kp0)))) (oB2 (oR3 (oB3 (oR4 (oB3 (oR1 ol0))))))) fun o314_ => ?_
       refine TA.tk 2 (.slice A147 s30.length c151) rfl (by kernel_rfl) (fun _ _ _ h => h) o314_ (sl0 9 (e := 3) (s := 1) rfl rfl (fun _ => by kernel_rfl) (by rfl) rfl hb158) ?_
       refine TA.all [7] (by kernel_rfl) rfl ⟨?_, trivial⟩
       refine TA.br rfl (W1.look (.slice A149 z128.length c153) (by kernel_rfl) (ld1 8 rfl rfl (fun _ => by kernel_rfl) (by rfl) rfl) ?_)
       refine TA.onk (Hp.old vr w279_ (kp8 (dr1 (kp8 (dr1 kp0)))) (oB2 (oR3 (oB3 (oR4 (oB3 (oR1 ol0))))))) fun o315_ => ?_
       refine TA.tk 8 (.slice A149 s32.length c153) rfl (by kernel_rfl) (fun _ _ _ h => h) o315_ (sl0 11 (e := 3) (s := 1) rfl rfl (fun _ => by kernel_rfl) (by rfl) rfl hb160) ?_
       refine TA.tp 9 (pB b78 2) rfl (fun _ => by kernel_rfl) (fun _ _ _ h => h) o315_ ?_
       refine TA.all [10] (by kernel_rfl) rfl ⟨?_, trivial⟩
       let v225_ : List Value := [vi n31.kind, .slice A146 z125.length c150, .slice A147 s30.length c151, .slice A148 z127.length c152, .slice A149 z128.length c153]
       refine TA.br rfl (W1.st 8 v225_ (i99_ :: i98_ :: (row 3 eInt A179 c184 s29) :: (row 43 eSpot A178 c183 s28) :: (row 3 eInt A177 c182 s27) :: i85_ :: i86_ :: i87_ :: (box b78 97 v225_) :: t68_) [.slice A147 s30.length c151] (by rfl) rfl rfl rfl rfl rfl rfl (fun _ => by kernel_rfl) ?_)
       refine TA.onk (Hp.old vr w279_ (kp8 (dr1 (kp8 (dr1 kp0)))) (oB2 (oR3 (oB3 (oR4 (oB3 (oR1 ol0))))))) fun o316_ => ?_
       refine TA.tp 11 (pB b78 3) rfl (fun _ => by kernel_rfl) (fun _ _ _ h => h) o316_ ?_
       refine TA.all [12] (by kernel_rfl) rfl ⟨?_, trivial⟩
       let v226_ : List Value := [vi n31.kind, .slice A146 z125.length c150, .slice A147 s30.length c151, .slice A148 s31.length c152, .slice A149 z128.length c153]
       refine TA.br rfl (W1.st 8 v226_ (i99_ :: i98_ :: (row 3 eInt A179 c184 s29) :: (row 43 eSpot A178 c183 s28) :: (row 3 eInt A177 c182 s27) :: i85_ :: i86_ :: i87_ :: (box b78 97 v226_) :: t68_) [.slice A148 s31.length c152] (by rfl) rfl rfl rfl rfl rfl rfl (fun _ => by kernel_rfl) ?_)
       refine TA.onk (Hp.old vr w279_ (kp8 (dr1 (kp8 (dr1 kp0)))) (oB2 (oR3 (oB3 (oR4 (oB3 (oR1 ol0))))))) fun o317_ => ?_
       refine TA.tp 13 (pB b78 4) rfl (fun _ => by kernel_rfl) (fun _ _ _ h => h) o317_ ?_
       refine TA.all [14] (by kernel_rfl) rfl ⟨?_, trivial⟩
       refine TA.br rfl (W1.st 8 v220_ t109_ [.slice A149 s32.length c153] (by rfl) rfl rfl rfl rfl rfl rfl (fun _ => by kernel_rfl) ?_)
       refine TA.on (Hp.old vr w279_ (kp8 (dr1 (kp8 (dr1 kp0)))) (oB2 (oR3 (oB3 (oR4 (oB3 (oR1 ol0))))))) ?_
       refine TA.done (by kernel_rfl) ?_
       exact fun a w' hf hh => ⟨(Fr.sel hf rfl), (hh.sub (kp17 (kp1 kpr)))⟩
      refine TA.br rfl (W1.look (.slice A149 z128.length c153) (by kernel_rfl) (ld1 8 rfl rfl (fun _ => by kernel_rfl) (by rfl) rfl) ?_)
      refine TA.onk (Hp.old vr w279_ (kp8 (dr1 (kp8 (dr1 kp0)))) (oB2 (oR3 (oB3 (oR4 (oB3 (oR1 ol0))))))) fun o318_ => ?_
      refine TA.tk 8 (.slice A149 s32.length c153) rfl (by kernel_rfl) (fun _ _ _ h => h) o318_ (sl0 11 (e := 3) (s := 1) rfl rfl (fun _ => by kernel_rfl) (by rfl) rfl hb160) ?_
      refine TA.all [1] (by kernel_rfl) rfl ⟨?_, trivial⟩
      refine TA.br rfl (W1.look (.slice A147 z126.length c151) (by kernel_rfl) (ld1 8 rfl rfl (fun _ => by kernel_rfl) (by rfl) rfl) ?_)
      refine TA.onk (Hp.old vr w279_ (kp8 (dr1 (kp8 (dr1 kp0)))) (oB2 (oR3 (oB3 (oR4 (oB3 (oR1 ol0))))))) fun o319_ => ?_
      refine TA.tk 2 (.slice A147 s30.length c151) rfl (by kernel_rfl) (fun _ _ _ h => h) o319_ (sl0 9 (e := 3) (s := 1) rfl rfl (fun _ => by kernel_rfl) (by rfl) rfl hb158) ?_
      refine TA.tp 9 (pB b78 2) rfl (fun _ => by kernel_rfl) (fun _ _ _ h => h) o319_ ?_
      refine TA.all [10] (by kernel_rfl) rfl ⟨?_, trivial⟩
      let v227_ : List Value := [vi n31.kind, .slice A146 z125.length c150, .slice A147 s30.length c151, .slice A148 z127.length c152, .slice A149 z128.length c153]
      refine TA.br rfl (W1.st 8 v227_ (i99_ :: i98_ :: (row 3 eInt A179 c184 s29) :: (row 43 eSpot A178 c183 s28) :: (row 3 eInt A177 c182 s27) :: i85_ :: i86_ :: i87_ :: (box b78 97 v227_) :: t68_) [.slice A147 s30.length c151] (by rfl) rfl rfl rfl rfl rfl rfl (fun _ => by kernel_rfl) ?_)
      refine TA.onk (Hp.old vr w279_ (kp8 (dr1 (kp8 (dr1 kp0)))) (oB2 (oR3 (oB3 (oR4 (oB3 (oR1 ol0))))))) fun o320_ => ?_
      refine TA.tp 11 (pB b78 3) rfl (fun _ => by kernel_rfl) (fun _ _ _ h => h) o320_ ?_
      refine TA.all [12] (by kernel_rfl) rfl ⟨?_, trivial⟩
      let v228_ : List Value := [vi n31.kind, .slice A146 z125.length c150, .slice A147 s30.length c151, .slice A148 s31.length c152, .slice A149 z128.length c153]
      refine TA.br rfl (W1.st 8 v228_ (i99_ :: i98_ :: (row 3 eInt A179 c184 s29) :: (row 43 eSpot A178 c183 s28) :: (row 3 eInt A177 c182 s27) :: i85_ :: i86_ :: i87_ :: (box b78 97 v228_) :: t68_) [.slice A148 s31.length c152] (by rfl) rfl rfl rfl rfl rfl rfl (fun _ => by kernel_rfl) ?_)
      refine TA.onk (Hp.old vr w279_ (kp8 (dr1 (kp8 (dr1 kp0)))) (oB2 (oR3 (oB3 (oR4 (oB3 (oR1 ol0))))))) fun o321_ => ?_
      refine TA.tp 13 (pB b78 4) rfl (fun _ => by kernel_rfl) (fun _ _ _ h => h) o321_ ?_
      refine TA.all [14] (by kernel_rfl) rfl ⟨?_, trivial⟩
      refine TA.br rfl (W1.st 8 v220_ t109_ [.slice A149 s32.length c153] (by rfl) rfl rfl rfl rfl rfl rfl (fun _ => by kernel_rfl) ?_)
      refine TA.on (Hp.old vr w279_ (kp8 (dr1 (kp8 (dr1 kp0)))) (oB2 (oR3 (oB3 (oR4 (oB3 (oR1 ol0))))))) ?_
      refine TA.done (by kernel_rfl) ?_
      exact fun a w' hf hh => ⟨(Fr.sel hf rfl), (hh.sub (kp17 (kp1 kpr)))⟩
     refine TA.br rfl (W1.look (.slice A149 z128.length c153) (by kernel_rfl) (ld1 8 rfl rfl (fun _ => by kernel_rfl) (by rfl) rfl) ?_)
     refine TA.onk (Hp.old vr w279_ (kp8 (dr1 (kp8 (dr1 kp0)))) (oB2 (oR3 (oB3 (oR4 (oB3 (oR1 ol0))))))) fun o322_ => ?_
     refine TA.tk 8 (.slice A149 s32.length c153) rfl (by kernel_rfl) (fun _ _ _ h => h) o322_ (sl0 11 (e := 3) (s := 1) rfl rfl (fun _ => by kernel_rfl) (by rfl) rfl hb160) ?_
     refine TA.all [1, 4] (by kernel_rfl) rfl ⟨?_, ?_, trivial⟩
     ·
      refine TA.br rfl (W1.look (.slice A147 z126.length c151) (by kernel_rfl) (ld1 8 rfl rfl (fun _ => by kernel_rfl) (by rfl) rfl) ?_)
      refine TA.onk (Hp.old vr w279_ (kp8 (dr1 (kp8 (dr1 kp0)))) (oB2 (oR3 (oB3 (oR4 (oB3 (oR1 ol0))))))) fun o323_ => ?_
      refine TA.tk 2 (.slice A147 s30.length c151) rfl (by kernel_rfl) (fun _ _ _ h => h) o323_ (sl0 9 (e := 3) (s := 1) rfl rfl (fun _ => by kernel_rfl) (by rfl) rfl hb158) ?_
      refine TA.all [4] (by kernel_rfl) rfl ⟨?_, trivial⟩
      refine TA.br rfl (W1.look (.slice A148 z127.length c152) (by kernel_rfl) (ld1 8 rfl rfl (fun _ => by kernel_rfl) (by rfl) rfl) ?_)
      refine TA.onk (Hp.old vr w279_ (kp8 (dr1 (kp8 (dr1 kp0)))) (oB2 (oR3 (oB3 (oR4 (oB3 (oR1 ol0))))))) fun o324_ => ?_
      refine TA.tk 5 (.slice A148 s31.length c152) rfl (by kernel_rfl) (fun _ _ _ h => h) o324_ (sl0 10 (e := 43) (s := 4) rfl rfl (fun _ => by kernel_rfl) (by rfl) rfl hb159) ?_
      refine TA.tp 9 (pB b78 2) rfl (fun _ => by kernel_rfl) (fun _ _ _ h => h) o324_ ?_
      refine TA.all [10] (by kernel_rfl) rfl ⟨?_, trivial⟩
      let v229_ : List Value := [vi n31.kind, .slice A146 z125.length c150, .slice A147 s30.length c151, .slice A148 z127.length c152, .slice A149 z128.length c153]
      refine TA.br rfl (W1.st 8 v229_ (i99_ :: i98_ :: (row 3 eInt A179 c184 s29) :: (row 43 eSpot A178 c183 s28) :: (row 3 eInt A177 c182 s27) :: i85_ :: i86_ :: i87_ :: (box b78 97 v229_) :: t68_) [.slice A147 s30.length c151] (by rfl) rfl rfl rfl rfl rfl rfl (fun _ => by kernel_rfl) ?_)
      refine TA.onk (Hp.old vr w279_ (kp8 (dr1 (kp8 (dr1 kp0)))) (oB2 (oR3 (oB3 (oR4 (oB3 (oR1 ol0))))))) fun o325_ => ?_
      refine TA.tp 11 (pB b78 3) rfl (fun _ => by kernel_rfl) (fun _ _ _ h => h) o325_ ?_
      refine TA.all [12] (by kernel_rfl) rfl ⟨?_, trivial⟩
      let v230_ : List Value := [vi n31.kind, .slice A146 z125.length c150, .slice A147 s30.length c151, .slice A148 s31.length c152, .slice A149 z128.length c153]
      refine TA.br rfl (W1.st 8 v230_ (i99_ :: i98_ :: (row 3 eInt A179 c184 s29) :: (row 43 eSpot A178 c183 s28) :: (row 3 eInt A177 c182 s27) :: i85_ :: i86_ :: i87_ :: (box b78 97 v230_) :: t68_) [.slice A148 s31.length c152] (by rfl) rfl rfl rfl rfl rfl rfl (fun _ => by kernel_rfl) ?_)
      refine TA.onk (Hp.old vr w279_ (kp8 (dr1 (kp8 (dr1 kp0)))) (oB2 (oR3 (oB3 (oR4 (oB3 (oR1 ol0))))))) fun o326_ => ?_
      refine TA.tp 13 (pB b78 4) rfl (fun _ => by kernel_rfl) (fun _ _ _ h => h) o326_ ?_
      refine TA.all [14] (by kernel_rfl) rfl ⟨?_, trivial⟩
      refine TA.br rfl (W1.st 8 v220_ t109_ [.slice A149 s32.length c153] (by rfl) rfl rfl rfl rfl rfl rfl (fun _ => by kernel_rfl) ?_)
      refine TA.on (Hp.old vr w279_ (kp8 (dr1 (kp8 (dr1 kp0)))) (oB2 (oR3 (oB3 (oR4 (oB3 (oR1 ol0))))))) ?_
      refine TA.done (by kernel_rfl) ?_
      exact fun a w' hf hh => ⟨(Fr.sel hf rfl), (hh.sub (kp17 (kp1 kpr)))⟩
     refine TA.br rfl (W1.look (.slice A148 z127.length c152) (by kernel_rfl) (ld1 8 rfl rfl (fun _ => by kernel_rfl) (by rfl) rfl) ?_)
     refine TA.onk (Hp.old vr w279_ (kp8 (dr1 (kp8 (dr1 kp0)))) (oB2 (oR3 (oB3 (oR4 (oB3 (oR1 ol0))))))) fun o327_ => ?_
     refine TA.tk 5 (.slice A148 s31.length c152) rfl (by kernel_rfl) (fun _ _ _ h => h) o327_ (sl0 10 (e := 43) (s := 4) rfl rfl (fun _ => by kernel_rfl) (by rfl) rfl hb159) ?_
     refine TA.all [1] (by kernel_rfl) rfl ⟨?_, trivial⟩
     refine TA.br rfl (W1.look (.slice A147 z126.length c151) (by kernel_rfl) (ld1 8 rfl rfl (fun _ => by kernel_rfl) (by rfl) rfl) ?_)
     refine TA.onk (Hp.old vr w279_ (kp8 (dr1 (kp8 (dr1 kp0)))) (oB2 (oR3 (oB3 (oR4 (oB3 (oR1 ol0))))))) fun o328_ => ?_
     refine TA.tk 2 (.slice A147 s30.length c151) rfl (by kernel_rfl) (fun _ _ _ h => h) o328_ (sl0 9 (e := 3) (s := 1) rfl rfl (fun _ => by kernel_rfl) (by rfl) rfl hb158) ?_
     refine TA.tp 9 (pB b78 2) rfl (fun _ => by kernel_rfl) (fun _ _ _ h => h) o328_ ?_
     refine TA.all [10] (by kernel_rfl) rfl ⟨?_, trivial⟩
     let v231_ : List Value := [vi n31.kind, .slice A146 z125.length c150, .slice A147 s30.length c151, .slice A148 z127.length c152, .slice A149 z128.length c153]
     refine TA.br rfl (W1.st 8 v231_ (i99_ :: i98_ :: (row 3 eInt A179 c184 s29) :: (row 43 eSpot A178 c183 s28) :: (row 3 eInt A177 c182 s27) :: i85_ :: i86_ :: i87_ :: (box b78 97 v231_) :: t68_) [.slice A147 s30.length c151] (by rfl) rfl rfl rfl rfl rfl rfl (fun _ => by kernel_rfl) ?_)
     refine TA.onk (Hp.old vr w279_ (kp8 (dr1 (kp8 (dr1 kp0)))) (oB2 (oR3 (oB3 (oR4 (oB3 (oR1 ol0))))))) fun o329_ => ?_
     refine TA.tp 11 (pB b78 3) rfl (fun _ => by kernel_rfl) (fun _ _ _ h => h) o329_ ?_
     refine TA.all [12] (by kernel_rfl) rfl ⟨?_, trivial⟩
     let v232_ : List Value := [vi n31.kind, .slice A146 z125.length c150, .slice A147 s30.length c151, .slice A148 s31.length c152, .slice A149 z128.length c153]
     refine TA.br rfl (W1.st 8 v232_ (i99_ :: i98_ :: (row 3 eInt A179 c184 s29) :: (row 43 eSpot A178 c183 s28) :: (row 3 eInt A177 c182 s27) :: i85_ :: i86_ :: i87_ :: (box b78 97 v232_) :: t68_) [.slice A148 s31.length c152] (by rfl) rfl rfl rfl rfl rfl rfl (fun _ => by kernel_rfl) ?_)
     refine TA.onk (Hp.old vr w279_ (kp8 (dr1 (kp8 (dr1 kp0)))) (oB2 (oR3 (oB3 (oR4 (oB3 (oR1 ol0))))))) fun o330_ => ?_
     refine TA.tp 13 (pB b78 4) rfl (fun _ => by kernel_rfl) (fun _ _ _ h => h) o330_ ?_
     refine TA.all [14] (by kernel_rfl) rfl ⟨?_, trivial⟩
     refine TA.br rfl (W1.st 8 v220_ t109_ [.slice A149 s32.length c153] (by rfl) rfl rfl rfl rfl rfl rfl (fun _ => by kernel_rfl) ?_)
     refine TA.on (Hp.old vr w279_ (kp8 (dr1 (kp8 (dr1 kp0)))) (oB2 (oR3 (oB3 (oR4 (oB3 (oR1 ol0))))))) ?_
     refine TA.done (by kernel_rfl) ?_
     exact fun a w' hf hh => ⟨(Fr.sel hf rfl), (hh.sub (kp17 (kp1 kpr)))⟩
    rintro a w' ⟨hf, hh⟩
    refine (?_ : T 59 w V34 t109_ [(1, pB b78 0), (2, pB b79 0), (3, pB b80 0), (4, pB b81 0), (6, pB b83 0), (7, pB b84 0)] _) a w' hf hh
    clear hf hh
    refine T.seq ?_
    refine T.held (i99_ :: i98_ :: (row 3 eInt A179 c184 s29) :: (row 43 eSpot A178 c183 s28) :: (row 3 eInt A177 c182 s27) :: i100_ :: (row 28 eElem A146 c150 z125) :: (row 3 eInt A147 c151 z126) :: (row 43 eSpot A148 c152 z127) :: (row 3 eInt A149 c153 z128) :: i58_ :: i9_ :: i59_ :: (row 97 eHdr A150 c154 hs18) :: []) (by kernel_rfl) ?_
    have w280_ := vt (vt hV1 hV32) hV34
    refine TA.keep (Hp.old vr w280_ (kp5 (dr3 (kp9 (dr1 kp0)))) (oB2 (oR3 (oB1 (oR4 (oB3 (oR1 ol0))))))) fun o331_ => ?_
    refine TA.tk 0 (.agg #[vi n31.kind, .slice A146 z125.length c150, .slice A147 s30.length c151, .slice A148 s31.length c152, .slice A149 s32.length c153]) rfl (by kernel_rfl) (fun _ _ _ h => h) o331_ (ldN 5 rfl rfl (fun _ => by kernel_rfl) (by rfl) rfl) ?_
    refine TA.tk 1 a258_ rfl (by kernel_rfl) (fun _ _ _ h => h) o331_ (ldN 0 rfl rfl (fun _ => by kernel_rfl) (by rfl) rfl) ?_
    refine TA.tk 2 (.agg #[vi 2, sN, .slice A177 s27.length c182, .slice A178 s28.length c183, .slice A179 s29.length c184]) rfl (by kernel_rfl) (fun _ _ _ h => h) o331_ (ldN 1 rfl rfl (fun _ => by kernel_rfl) (by rfl) rfl) ?_
    refine TA.all [3] (by kernel_rfl) rfl ⟨?_, trivial⟩
    let i110_ : HObj := box b79 97 v220_
    let t111_ : List HObj := i110_ :: t101_
    refine TA.br rfl (W1.st 7 v220_ (i99_ :: i98_ :: (row 3 eInt A179 c184 s29) :: (row 43 eSpot A178 c183 s28) :: (row 3 eInt A177 c182 s27) :: i85_ :: i86_ :: t111_) v220_ (by rfl) rfl rfl rfl rfl rfl rfl (fun _ => by kernel_rfl) ?_)
    refine TA.on (Hp.old vr w280_ (kp5 (dr3 (kp9 (dr1 kp0)))) (oB2 (oR3 (oB1 (oR4 (oB3 (oR1 ol0))))))) ?_
    refine TA.all [4] (by kernel_rfl) rfl ⟨?_, trivial⟩
    let i112_ : HObj := box b80 43 v219_
    refine TA.br rfl (W1.st 6 v219_ (i99_ :: i98_ :: (row 3 eInt A179 c184 s29) :: (row 43 eSpot A178 c183 s28) :: (row 3 eInt A177 c182 s27) :: i85_ :: i112_ :: t111_) v219_ (by rfl) rfl rfl rfl rfl rfl rfl (fun _ => by kernel_rfl) ?_)
    refine TA.on (Hp.old vr w280_ (kp5 (dr3 (kp9 (dr1 kp0)))) (oB2 (oR3 (oB1 (oR4 (oB3 (oR1 ol0))))))) ?_
    refine TA.all [5] (by kernel_rfl) rfl ⟨?_, trivial⟩
    refine TA.br rfl (W1.st 5 v218_ (i99_ :: i98_ :: (row 3 eInt A179 c184 s29) :: (row 43 eSpot A178 c183 s28) :: (row 3 eInt A177 c182 s27) :: (box b81 97 v218_) :: i112_ :: t111_) v218_ (by rfl) rfl rfl rfl rfl rfl rfl (fun _ => by kernel_rfl) ?_)
    refine TA.on (Hp.old vr w280_ (kp5 (dr3 (kp9 (dr1 kp0)))) (oB2 (oR3 (oB1 (oR4 (oB3 (oR1 ol0))))))) ?_
    refine TA.done (by kernel_rfl) ?_
    refine T.shrink (l := s30) 10 (by rfl) (lslice_prefix hb158) ?_
    refine T.shrink (l := s31) 11 (by rfl) (lslice_prefix hb159) ?_
    refine T.shrink (l := s32) 12 (by rfl) (lslice_prefix hb160) ?_
    refine T.rownil 28 eElem ?_
    cases hX16
    refine T.ret rfl ?_
    repeat first | refine T.unthen ?_ | refine T.unblock ?_
    exact T.ret3 rfl (ResIs.cellN 8 rfl (by rfl) (fun _ => by kernel_rfl) (fun _ => by kernel_rfl)) (ResIs.cellN 7 rfl (by rfl) (fun _ => by kernel_rfl) (fun _ => by kernel_rfl)) (ResIs.cellN 6 rfl (by rfl) (fun _ => by kernel_rfl) (fun _ => by kernel_rfl)) fun w' hh => ⟨_, rfl, ⟨s29, s28, s27, [], z125, s30, s31, s32, e34.key.pfs, e34.key.obj, e34.key.off, e34.made, 2, rfl, A179, c184, A178, c183, A177, c182, none, 0, A146, c150, A147, c151, A148, c152, A149, c153, V34, vr, rfl, ((hh.sub (kp1 (dr2 (kp3 (dr4 (kp8 (kp1 kpr))))))).perm (pt sw0 (pc1 (pt sw0 (pc1 (pt sw0 pz))))))⟩⟩
   rintro v w' ⟨z139, z140, z141, z142, z143, z144, z145, z146, z147, z148, z149, z150, z151, rfl, A165, c170, A166, c171, A167, c172, A168, c173, A169, c174, A170, c175, A171, c176, A172, c177, V39, hV39, rfl, hh⟩
   try dsimp only at hS4
   let t113_ : List HObj := (row 3 eInt A172 c177 z146) :: t64_
   let t114_ : List HObj := (row 43 eSpot A171 c176 z145) :: t113_
   let t115_ : List HObj := (row 3 eInt A170 c175 z144) :: t114_
   let t116_ : List HObj := (row 28 eElem A169 c174 z143) :: t115_
   let t117_ : List HObj := (row 28 eElem A168 c173 z142) :: t116_
   let t118_ : List HObj := (row 3 eInt A167 c172 z141) :: t117_
   let t119_ : List HObj := (row 43 eSpot A166 c171 z140) :: t118_
   let t120_ : List HObj := (row 3 eInt A165 c170 z139) :: t119_
   refine ⟨V39, t120_, hh, ?_⟩
   clear hh
   refine T.pk (.tuple #[.agg #[vi n31.kind, .slice A169 z143.length c174, .slice A170 z144.length c175, .slice A171 z145.length c176, .slice A172 z146.length c177], .agg #[vi z147, vi z148, vi z149, vi z150], .agg #[vi z151, .slice A168 z142.length c173, .slice A167 z141.length c172, .slice A166 z140.length c171, .slice A165 z139.length c170]]) (fun _ => by kernel_rfl) ?_
   let a259_ : Value := .agg #[vi n31.kind, .slice A169 z143.length c174, .slice A170 z144.length c175, .slice A171 z145.length c176, .slice A172 z146.length c177]
   refine T.pk a259_ (fun _ => by kernel_rfl) ?_
   let a260_ : Value := .agg #[vi z147, vi z148, vi z149, vi z150]
   refine T.pk a260_ (fun _ => by kernel_rfl) ?_
   let a261_ : Value := .agg #[vi z151, .slice A168 z142.length c173, .slice A167 z141.length c172, .slice A166 z140.length c171, .slice A165 z139.length c170]
   refine T.pk a261_ (fun _ => by kernel_rfl) (T.step (W1.np 97 v204_ (fun _ => by kernel_rfl) (fun b85 => ?_)))
   refine T.step (W1.np 43 v202_ (fun _ => by kernel_rfl) (fun b86 => ?_))
   refine T.step (W1.np 97 v204_ (fun _ => by kernel_rfl) (fun b87 => ?_))
   let i121_ : HObj := box b87 97 v204_
   let v233_ : List Value := [vi n31.kind, .slice A169 z143.length c174, .slice A170 z144.length c175, .slice A171 z145.length c176, .slice A172 z146.length c177]
   let i122_ : HObj := box b85 97 v233_
   let t123_ : List HObj := i122_ :: t120_
   refine T.step (W1.st 2 v233_ (i121_ :: (box b86 43 v202_) :: t123_) v233_ (by rfl) rfl rfl rfl rfl rfl rfl (fun _ => by kernel_rfl) ?_)
   let v234_ : List Value := [vi z147, vi z148, vi z149, vi z150]
   let i124_ : HObj := box b86 43 v234_
   refine T.step (W1.st 1 v234_ (i121_ :: i124_ :: t123_) v234_ (by rfl) rfl rfl rfl rfl rfl rfl (fun _ => by kernel_rfl) ?_)
   let v235_ : List Value := [vi z151, .slice A168 z142.length c173, .slice A167 z141.length c172, .slice A166 z140.length c171, .slice A165 z139.length c170]
   let i125_ : HObj := box b87 97 v235_
   refine T.step (W1.st 0 v235_ (i125_ :: i124_ :: t123_) v235_ (by rfl) rfl rfl rfl rfl rfl rfl (fun _ => by kernel_rfl) ?_)
   refine T.nil (T.seq ?_)
   refine T.heldL 8 (i125_ :: i124_ :: i122_ :: (row 3 eInt A165 c170 z139) :: (row 43 eSpot A166 c171 z140) :: (row 3 eInt A167 c172 z141) :: (row 28 eElem A168 c173 z142) :: (row 28 eElem A169 c174 z143) :: (row 3 eInt A170 c175 z144) :: (row 43 eSpot A171 c176 z145) :: (row 3 eInt A172 c177 z146) :: i9_ :: i59_ :: (row 97 eHdr A150 c154 hs18) :: []) (by kernel_rfl) ?_
   have w281_ := vt (vt (vt hV1 hV32) hV34) hV39
   refine TL.keep (Hp.old vr w281_ (kp11 (dr1 (kp3 (dr1 kp0)))) (oB3 (oR8 (oB2 (oR1 ol0))))) fun o332_ => ?_
   refine TL.tv 0 (pB b4 0) rfl (fun _ => by kernel_rfl) (fun _ _ _ h => h) o332_ ?_
   refine TL.tv 1 (pB b4 0) rfl (fun _ => by kernel_rfl) (fun _ _ _ h => h) o332_ ?_
   refine TL.tv 2 (pB b4 0) rfl (fun _ => by kernel_rfl) (fun _ _ _ h => h) o332_ ?_
   refine TL.tv 3 (pB b4 1) rfl (fun _ => by kernel_rfl) (fun _ _ _ h => h) o332_ ?_
   refine TL.tk 4 (.slice A150 hs18.length c154) [] rfl (by kernel_rfl) (fun _ _ _ h => h) o332_ (ld1 12 rfl rfl (fun _ => by kernel_rfl) (by rfl) rfl) ?_
   refine TL.tv 5 (vi x14) rfl (fun _ => by kernel_rfl) (fun _ _ _ h => h) o332_ ?_
   refine TL.tk 6 a259_ [] rfl (by kernel_rfl) (fun _ _ _ h => h) o332_ (ldN 2 rfl rfl (fun _ => by kernel_rfl) (by rfl) rfl) ?_
   obtain ⟨u14, hb161, hS4⟩ := ob hS4
   obtain ⟨hi123, hi124, e35, hx36⟩ := ht31.has hb161
   refine TL.tk 7 (.pointer (some ((sadr A150).add (x14.toNat * 5)))) [] rfl (by kernel_rfl) (fun _ _ _ h => h) o332_ (ixR 13 (e := 97) (s := 5) rfl rfl rfl (fun _ => by kernel_rfl) hi123 hi124 (by rfl) hx36 (by decide)) ?_
   refine TL.all [8] (by kernel_rfl) rfl ⟨?_, trivial⟩
   let d266_ : DHdr := DHdr.mk n31.kind A169 z143.length c174 A170 z144.length c175 A171 z145.length c176 A172 z146.length c177
   refine TL.br rfl (W1.storeRow (E := eHdr) 14 (x14.toNat) 0 e35 d266_ _ (vs := v233_) (by rfl) (by kernel_rfl) rfl rfl (addr_add0 _).symm rfl rfl (fun _ => by kernel_rfl) (one_of rfl) hx36 (Nat.le_of_ble_eq_true (by kernel_rfl)) (fun _ _ h => by cases h; rfl) ?_)
   refine TL.onW (by kernel_rfl) ?_
   let h272_ : List DHdr := hs18.set x14.toNat d266_
   refine T.reslot 147 (.slice A150 (h272_.length) c154) rfl (by simp +zetaDelta only [List.length_set]) ?_
   let i126_ : HObj := box b4 83 [vi r2.root, .slice A150 (h272_.length) c154]
   let i127_ : HObj := row 97 eHdr A150 c154 h272_
   refine T.reH (H' := (i125_ :: i124_ :: i122_ :: (row 3 eInt A165 c170 z139) :: (row 43 eSpot A166 c171 z140) :: (row 3 eInt A167 c172 z141) :: (row 28 eElem A168 c173 z142) :: (row 28 eElem A169 c174 z143) :: (row 3 eInt A170 c175 z144) :: (row 43 eSpot A171 c176 z145) :: (row 3 eInt A172 c177 z146) :: i58_ :: i9_ :: i126_ :: i127_ :: i60_ :: G4)) (by first | (simp +zetaDelta only [List.length_set]; done) | (simp +zetaDelta only [List.length_set]; rfl)) ?_
   refine TL.done (by kernel_rfl) ?_
   let t128_ : List HObj := i126_ :: i127_ :: G4
   let t129_ : List HObj := i9_ :: t128_
   refine T.putS (ty := (TreeTy.mk 28 3 43)) (i125_ :: i124_ :: i122_ :: (row 3 eInt A165 c170 z139) :: (row 43 eSpot A166 c171 z140) :: (row 3 eInt A167 c172 z141) :: (row 28 eElem A168 c173 z142) :: i58_ :: t129_) d266_ (DNode.mk n31.kind z143 z144 z145 z146) (pt sw6 (pt sw5 (pt sw4 (pt sw3 (pt sw2 (pt sw1 (pt sw0 (pc1 (pt sw6 (pt sw5 (pt sw4 (pt sw3 (pt sw2 (pt sw1 (pt sw0 (pc1 (pt sw6 (pt sw5 (pt sw4 (pt sw3 (pt sw2 (pt sw1 (pt sw0 (pc1 (pt sw6 (pt sw5 (pt sw4 (pt sw3 (pt sw2 (pt sw1 (pt sw0 (pc1 (pt sw10 (pt sw9 (pt sw8 (pt sw7 (pt sw6 (pt sw5 (pt sw4 (pt sw3 (pt sw2 (pt sw1 (pt sw0 pz))))))))))))))))))))))))))))))))))))))))))) ⟨rfl, rfl, rfl, rfl, rfl⟩ hb161 ?_
   have hb162 := nodeAt_put (n := (DNode.mk n31.kind z143 z144 z145 z146)) hb161
   have hx37 := TreeOk.set_at ht31 d266_ hb161
   let i130_ : HObj := treeo (TreeTy.mk 28 3 43) h272_ (putAt z129 x14 (DNode.mk n31.kind z143 z144 z145 z146))
   refine T.reH (H' := (i130_ :: i125_ :: i124_ :: i122_ :: (row 3 eInt A165 c170 z139) :: (row 43 eSpot A166 c171 z140) :: (row 3 eInt A167 c172 z141) :: (row 28 eElem A168 c173 z142) :: i58_ :: t129_)) (by rfl) ?_
   refine T.seq ?_
   refine T.tree 0 (by rfl) (fun ht32 => ?_)
   refine T.held (i125_ :: i124_ :: []) (by kernel_rfl) ?_
   refine TA.keep (Hp.old vr w281_ (dr1 (kp2 (dr8 (dr1 kp0)))) (oB1 (oB1 ol0))) fun o333_ => ?_
   refine TA.tk 0 a260_ rfl (by kernel_rfl) (fun _ _ _ h => h) o333_ (ldN 1 rfl rfl (fun _ => by kernel_rfl) (by rfl) rfl) ?_
   refine TA.tp 1 (pB b4 0) rfl (fun _ => by kernel_rfl) (fun _ _ _ h => h) o333_ ?_
   refine TA.tk 2 a261_ rfl (by kernel_rfl) (fun _ _ _ h => h) o333_ (ldN 0 rfl rfl (fun _ => by kernel_rfl) (by rfl) rfl) ?_
   refine TA.all [3] (by kernel_rfl) rfl ⟨?_, trivial⟩
   obtain ⟨q24, hX17, hS4⟩ := ob hS4
   refine TA.br rfl (W1.within 80 [pB b4 0, a261_] (fun v w' => ∃ (z152 : List (Int ⊕ DNode)) (z153 : Int), q24 = (z152, z153) ∧ ∃ (hs20 : List DHdr) (A180 : Option Addr) (c185 : Nat), v = vi z153 ∧ Hp w V39 ((treeo (TreeTy.mk 28 3 43) hs20 z152) :: i125_ :: i124_ :: i9_ :: (box b4 83 [vi r2.root, .slice A180 hs20.length c185]) :: (row 97 eHdr A180 c185 hs20) :: G4) w') Try.func80 rfl rfl (by kernel_rfl) (fun _ => by kernel_rfl) rfl ?_ ?_)
   ·
    refine T.seq (T.region (T.step (W1.np 97 v235_ (fun _ => by kernel_rfl) (fun b88 => ?_))))
    refine T.pk (vi 0) (fun _ => by kernel_rfl) (T.nil (T.seq (T.seq (T.region (T.p4 (pB b4 0) (pB b4 0) (pB b4 0) (pB b4 1) (fun _ => by kernel_rfl) (T.look (.slice A150 (h272_.length) c154) (by kernel_rfl) (ld1 11 rfl rfl (fun _ => by kernel_rfl) (by rfl) rfl) ?_))))))
    refine T.look (vi ((putAt z129 x14 (DNode.mk n31.kind z143 z144 z145 z146)).length : Int)) (by kernel_rfl) (fun w' hh => (by rw [← ht32.len]; kernel_rfl)) ?_
    refine T.pk (vi 0) (fun _ => by kernel_rfl) (T.nil ?_)
    obtain ⟨q25, hz16, hX17⟩ := ob hX17
    let i131_ : HObj := box b88 97 v235_
    let t132_ : List HObj := (row 28 eElem A168 c173 z142) :: t129_
    let t133_ : List HObj := (row 3 eInt A167 c172 z141) :: t132_
    let t134_ : List HObj := (row 43 eSpot A166 c171 z140) :: t133_
    let t135_ : List HObj := (row 3 eInt A165 c170 z139) :: t134_
    let t136_ : List HObj := i124_ :: t135_
    let t137_ : List HObj := i125_ :: t136_
    let t138_ : List HObj := i130_ :: t137_
    let t139_ : List HObj := i131_ :: t138_
    refine T.mid (fun a w' => q25 = Sum.inl () ∧ Fr 50 [(0, pB b4 0), (3, pB b88 0)] a ∧ Hp w V39 t139_ w') ?_ ?_
    ·
     refine T.block ?_
     refine T.iter (fun x16 a w' => Fr 50 [(0, pB b4 0), (3, pB b88 0), (11, .slice A150 (h272_.length) c154), (12, vi ((putAt z129 x14 (DNode.mk n31.kind z143 z144 z145 z146)).length : Int)), (13, vi x16)] a ∧ Hp w V39 t139_ w') hz16 ?_ ?_
     ·
      exact fun a w' hf hh => ⟨(Fr.sel hf rfl), (hh.sub (kp4 (dr1 (kp4 (dr1 (kp2 (kp1 kpr)))))))⟩
     rintro x16 y40 hY8 hr8 a w' ⟨hf, hh⟩
     refine (?_ : T 50 w V39 t139_ [(0, pB b4 0), (3, pB b88 0), (11, .slice A150 (h272_.length) c154), (12, vi ((putAt z129 x14 (DNode.mk n31.kind z143 z144 z145 z146)).length : Int)), (13, vi x16)] _) a w' hf hh
     clear hf hh
     try dsimp only at hY8
     refine T.seq (T.region (T.pk (.bool (decide (x16 < ((putAt z129 x14 (DNode.mk n31.kind z143 z144 z145 z146)).length : Int)))) (fun _ => by kernel_rfl) (T.nil (T.seq ?_))))
     refine T.cond (decide (x16 < ((putAt z129 x14 (DNode.mk n31.kind z143 z144 z145 z146)).length : Int))) (by kernel_rfl) (by kernel_rfl) (fun hc30 => ?_) (fun hc30 => ?_)
     ·
      rw [hc30, cond_true] at hY8
      refine T.skip_code ?_
      refine T.seq (T.block (T.seq (T.region (T.pk (vi x16) (fun _ => by kernel_rfl) ?_))))
      obtain ⟨kd4, hb163, hY8⟩ := ob hY8
      obtain ⟨A181, n36, c186, A182, n37, c187, A183, n38, c188, A184, n39, c189, hi125, hi126, hx38⟩ := ht32.kind_ hb163
      refine T.look (.pointer (some ((sadr A150).add (x16.toNat * 5)))) (by kernel_rfl) (ixR 10 (e := 97) (s := 5) rfl rfl rfl (fun _ => by kernel_rfl) hi125 hi126 (by rfl) hx38 (by decide)) ?_
      let v236_ : List Value := [vi kd4, .slice A181 n36 c186, .slice A182 n37 c187, .slice A183 n38 c188, .slice A184 n39 c189]
      refine T.look (.agg #[vi kd4, .slice A181 n36 c186, .slice A182 n37 c187, .slice A183 n38 c188, .slice A184 n39 c189]) (by kernel_rfl) (fun w' hh => exec_loadN (cs := v236_) rfl rfl (by kernel_rfl) (by kernel_rfl) (fun j u hj => (SlOk.wcellF (E := eHdr) (hh.row_slOk (i := 10) (by rfl)) hx38 j (fun _ _ _ h => h) hj))) ?_
      refine T.step (W1.np 97 v204_ (fun _ => by kernel_rfl) (fun b89 => ?_))
      refine T.pk (vi x16) (fun _ => by kernel_rfl) ?_
      let i140_ : HObj := box b89 97 v236_
      refine T.step (W1.st 0 v236_ (i140_ :: t139_) v236_ (by rfl) rfl rfl rfl rfl rfl rfl (fun _ => by kernel_rfl) ?_)
      refine T.nil (T.seq (T.region (T.pk (pB b89 0) (fun _ => by kernel_rfl) (T.look (vi kd4) (by kernel_rfl) (ld1 0 rfl rfl (fun _ => by kernel_rfl) (by rfl) rfl) ?_))))
      refine T.pk (.bool (kd4 == 0)) (fun _ => by kernel_rfl) (T.nil ?_)
      refine T.cond (kd4 == 0) (by kernel_rfl) (by kernel_rfl) (fun hc31 => ?_) (fun hc31 => ?_)
      ·
       rw [hc31, cond_true] at hY8
       refine T.seq ?_
       refine T.heldL 8 (i131_ :: i125_ :: i124_ :: (row 3 eInt A165 c170 z139) :: (row 43 eSpot A166 c171 z140) :: (row 3 eInt A167 c172 z141) :: (row 28 eElem A168 c173 z142) :: i9_ :: i126_ :: i127_ :: []) (by kernel_rfl) ?_
       refine TL.keep (Hp.old vr w281_ (dr1 (kp1 (dr1 (kp8 (kp1 kp0))))) (oB3 (oR4 (oB2 (oR1 ol0))))) fun o334_ => ?_
       refine TL.tv 0 (pB b4 0) rfl (fun _ => by kernel_rfl) (fun _ _ _ h => h) o334_ ?_
       refine TL.tv 1 (pB b4 0) rfl (fun _ => by kernel_rfl) (fun _ _ _ h => h) o334_ ?_
       refine TL.tv 2 (pB b4 0) rfl (fun _ => by kernel_rfl) (fun _ _ _ h => h) o334_ ?_
       refine TL.tv 3 (pB b4 1) rfl (fun _ => by kernel_rfl) (fun _ _ _ h => h) o334_ ?_
       refine TL.tk 4 (.slice A150 (h272_.length) c154) [] rfl (by kernel_rfl) (fun _ _ _ h => h) o334_ (ld1 8 rfl rfl (fun _ => by kernel_rfl) (by rfl) rfl) ?_
       refine TL.tv 5 (vi x16) rfl (fun _ => by kernel_rfl) (fun _ _ _ h => h) o334_ ?_
       refine TL.tk 6 a261_ [] rfl (by kernel_rfl) (fun _ _ _ h => h) o334_ (ldN 0 rfl rfl (fun _ => by kernel_rfl) (by rfl) rfl) ?_
       obtain ⟨u15, hb164, hY8⟩ := ob hY8
       obtain ⟨hi127, hi128, e36, hx39⟩ := ht32.has hb164
       refine TL.tk 7 (.pointer (some ((sadr A150).add (x16.toNat * 5)))) [] rfl (by kernel_rfl) (fun _ _ _ h => h) o334_ (ixR 9 (e := 97) (s := 5) rfl rfl rfl (fun _ => by kernel_rfl) hi127 hi128 (by rfl) hx39 (by decide)) ?_
       refine TL.all [8] (by kernel_rfl) rfl ⟨?_, trivial⟩
       let d267_ : DHdr := DHdr.mk z151 A168 z142.length c173 A167 z141.length c172 A166 z140.length c171 A165 z139.length c170
       refine TL.br rfl (W1.storeRow (E := eHdr) 11 (x16.toNat) 0 e36 d267_ _ (vs := v235_) (by rfl) (by kernel_rfl) rfl rfl (addr_add0 _).symm rfl rfl (fun _ => by kernel_rfl) (one_of rfl) hx39 (Nat.le_of_ble_eq_true (by kernel_rfl)) (fun _ _ h => by cases h; rfl) ?_)
       refine TL.onW (by kernel_rfl) ?_
       refine T.reslot 11 (.slice A150 ((h272_.set x16.toNat d267_).length) c154) rfl (by simp +zetaDelta only [List.length_set]) ?_
       refine T.reslot 25 (.slice A150 ((h272_.set x16.toNat d267_).length) c154) rfl (by simp +zetaDelta only [List.length_set]) ?_
       let i141_ : HObj := box b4 83 [vi r2.root, .slice A150 ((h272_.set x16.toNat d267_).length) c154]
       let i142_ : HObj := row 97 eHdr A150 c154 (h272_.set x16.toNat d267_)
       let t143_ : List HObj := i141_ :: i142_ :: G4
       let t144_ : List HObj := i9_ :: t143_
       refine T.reH (H' := (i140_ :: i131_ :: i130_ :: i125_ :: i124_ :: (row 3 eInt A165 c170 z139) :: (row 43 eSpot A166 c171 z140) :: (row 3 eInt A167 c172 z141) :: (row 28 eElem A168 c173 z142) :: t144_)) (by first | (simp +zetaDelta only [List.length_set]; done) | (simp +zetaDelta only [List.length_set]; rfl)) ?_
       refine TL.done (by kernel_rfl) ?_
       refine T.putS (ty := (TreeTy.mk 28 3 43)) (i140_ :: i131_ :: i125_ :: i124_ :: t144_) d267_ (DNode.mk z151 z142 z141 z140 z139) (pt sw7 (pt sw6 (pt sw5 (pt sw4 (pt sw3 (pt sw2 (pt sw1 (pt sw0 (pc1 (pt sw6 (pt sw5 (pt sw4 (pt sw3 (pt sw2 (pt sw1 (pt sw0 (pc1 (pt sw5 (pt sw4 (pt sw3 (pt sw2 (pt sw1 (pt sw0 (pc1 (pt sw4 (pt sw3 (pt sw2 (pt sw1 (pt sw0 (pc1 (pt sw1 (pt sw0 pz)))))))))))))))))))))))))))))))) ⟨rfl, rfl, rfl, rfl, rfl⟩ hb164 ?_
       have hb165 := nodeAt_put (n := (DNode.mk z151 z142 z141 z140 z139)) hb164
       have hx40 := TreeOk.set_at ht32 d267_ hb164
       refine T.reH (H' := ((treeo (TreeTy.mk 28 3 43) (h272_.set x16.toNat d267_) (putAt (putAt z129 x14 (DNode.mk n31.kind z143 z144 z145 z146)) x16 (DNode.mk z151 z142 z141 z140 z139))) :: i140_ :: i131_ :: i125_ :: i124_ :: t144_)) (by rfl) ?_
       refine T.seq (T.region (T.p2 (vi x16) (vi x16) (fun _ => by kernel_rfl) (T.nil ?_)))
       cases hY8
       cases (hr8 _ rfl)
       try dsimp only at hX17
       cases hX17
       refine T.ret rfl ?_
       repeat first | refine T.unthen ?_ | refine T.unblock ?_
       exact T.ret1 rfl (ResIs.tmp rfl) fun w' hh => ⟨_, rfl, ⟨(putAt (putAt z129 x14 (DNode.mk n31.kind z143 z144 z145 z146)) x16 (DNode.mk z151 z142 z141 z140 z139)), x16, rfl, (h272_.set x16.toNat d267_), A150, c154, rfl, (hh.sub (kp1 (dr2 (kp4 (kp1 kpr)))))⟩⟩
      rw [hc31, cond_false] at hY8
      refine T.skip_code ?_
      refine T.region (T.p2 (vi (IntKind.i64.wrap (x16 + 1))) (vi (IntKind.i64.wrap (x16 + 1))) (fun _ => by kernel_rfl) (T.nil ?_))
      cases hY8
      exact fun a w' hf hh => ⟨(IntKind.i64.wrap (x16 + 1)), rfl, (Fr.sel hf rfl), (hh.sub (dr1 (kp10 (kp1 kpr))))⟩
     rw [hc30, cond_false] at hY8
     refine T.exit ?_
     cases hY8
     cases (hr8 _ rfl)
     exact fun a w' hf hh => ⟨rfl, (Fr.sel hf rfl), (hh.sub (kp10 (kp1 kpr)))⟩
    rintro a w' ⟨rfl, hf, hh⟩
    try dsimp only at hX17
    refine (?_ : T 50 w V39 t139_ [(0, pB b4 0), (3, pB b88 0)] _) a w' hf hh
    clear hf hh
    refine T.seq ?_
    refine T.heldL 8 (i131_ :: i125_ :: i124_ :: (row 3 eInt A165 c170 z139) :: (row 43 eSpot A166 c171 z140) :: (row 3 eInt A167 c172 z141) :: (row 28 eElem A168 c173 z142) :: i9_ :: i126_ :: i127_ :: []) (by kernel_rfl) ?_
    refine TL.keep (Hp.old vr w281_ (kp1 (dr1 (kp8 (kp1 kp0)))) (oB3 (oR4 (oB2 (oR1 ol0))))) fun o335_ => ?_
    refine TL.tv 0 (pB b4 0) rfl (fun _ => by kernel_rfl) (fun _ _ _ h => h) o335_ ?_
    refine TL.tv 1 (pB b4 0) rfl (fun _ => by kernel_rfl) (fun _ _ _ h => h) o335_ ?_
    refine TL.tv 2 (pB b4 0) rfl (fun _ => by kernel_rfl) (fun _ _ _ h => h) o335_ ?_
    refine TL.tv 3 (pB b4 0) rfl (fun _ => by kernel_rfl) (fun _ _ _ h => h) o335_ ?_
    refine TL.tv 4 (pB b4 1) rfl (fun _ => by kernel_rfl) (fun _ _ _ h => h) o335_ ?_
    refine TL.tk 5 (.slice A150 (h272_.length) c154) [] rfl (by kernel_rfl) (fun _ _ _ h => h) o335_ (ld1 8 rfl rfl (fun _ => by kernel_rfl) (by rfl) rfl) ?_
    refine TL.tk 6 a261_ [7] rfl (by kernel_rfl) (fun _ _ _ h => h) o335_ (ldN 0 rfl rfl (fun _ => by kernel_rfl) (by rfl) rfl) ?_
    refine TL.all [7] (by kernel_rfl) rfl ⟨?_, trivial⟩
    refine TL.br rfl (W1.ns 97 v235_ (fun _ => by kernel_rfl) (fun b90 => ?_))
    refine TL.on (Hp.old vr w281_ (dr1 (kp1 (dr1 (kp8 (kp1 kp0))))) (oB3 (oR4 (oB2 (oR1 ol0))))) ?_
    refine TL.all [8] (by kernel_rfl) rfl ⟨?_, trivial⟩
    obtain ⟨u16, hb166, hX17⟩ := ob hX17
    obtain ⟨hb166_r, hb166_m⟩ := roomN_some hb166
    rw [show (putAt z129 x14 (DNode.mk n31.kind z143 z144 z145 z146)).length = h272_.length from ht32.len.symm] at hb166_r hb166_m
    obtain ⟨ti, hti, hz1, hz2, hz3⟩ := ipGrowIL_1
    let d268_ : DHdr := DHdr.mk z151 A168 z142.length c173 A167 z141.length c172 A166 z140.length c171 A165 z139.length c170
    refine TL.br rfl (W1.append (E := eHdr) (l := h272_) (m := [d268_]) 11 _ _ 104 ti _ (by rfl) (by kernel_rfl) rfl (by kernel_rfl) hti hz1 hz2 hz3 rfl (by decide) rfl rfl (fun w' hh => (SlOk.srcF (slok_lit (E := eHdr) (f := DHdr.cells) [d268_] (fun _ _ => rfl) (Nat.le_of_ble_eq_true (by rfl)) (fun j => hh.cellBox (i := 0) (by rfl) j)) (fun _ _ _ _ h => h))) hb166_r hb166_m (fun A185 c190 => ?_))
    refine TL.onW (by kernel_rfl) ?_
    refine TL.takeQ 9 (pB b4 0) rfl (by kernel_rfl) (by kernel_rfl) (by kernel_rfl) (fun _ _ _ h => h) (by kernel_rfl) (by kernel_rfl) (by kernel_rfl) (fun _ => by kernel_rfl) ?_
    refine TL.takeQ 10 (pB b4 0) rfl (by kernel_rfl) (by kernel_rfl) (by kernel_rfl) (fun _ _ _ h => h) (by kernel_rfl) (by kernel_rfl) (by kernel_rfl) (fun _ => by kernel_rfl) ?_
    refine TL.takeQ 11 (pB b4 1) rfl (by kernel_rfl) (by kernel_rfl) (by kernel_rfl) (fun _ _ _ h => h) (by kernel_rfl) (by kernel_rfl) (by kernel_rfl) (fun _ => by kernel_rfl) ?_
    refine TL.all [12] (by kernel_rfl) rfl ⟨?_, trivial⟩
    let i145_ : HObj := box b90 97 v235_
    let v237_ : List Value := [vi r2.root, .slice A185 ((h272_ ++ [d268_]).length) c190]
    let i146_ : HObj := box b4 83 v237_
    let i147_ : HObj := row 97 eHdr A185 c190 (h272_ ++ [d268_])
    let t148_ : List HObj := i146_ :: i147_ :: G4
    let t149_ : List HObj := i9_ :: t148_
    refine TL.br rfl (W1.st 10 v237_ (i145_ :: i131_ :: i130_ :: i125_ :: i124_ :: (row 3 eInt A165 c170 z139) :: (row 43 eSpot A166 c171 z140) :: (row 3 eInt A167 c172 z141) :: (row 28 eElem A168 c173 z142) :: t149_) [.slice A185 ((h272_ ++ [d268_]).length) c190] (by rfl) rfl rfl rfl rfl rfl rfl (fun _ => by kernel_rfl) ?_)
    refine TL.onW (by kernel_rfl) ?_
    refine TL.done (by kernel_rfl) ?_
    refine T.pushN (ty := (TreeTy.mk 28 3 43)) (h := d268_) (n := (DNode.mk z151 z142 z141 z140 z139)) (X := (i145_ :: i131_ :: i125_ :: i124_ :: t149_)) (pt sw7 (pt sw6 (pt sw5 (pt sw4 (pt sw3 (pt sw2 (pt sw1 (pt sw0 (pc1 (pt sw6 (pt sw5 (pt sw4 (pt sw3 (pt sw2 (pt sw1 (pt sw0 (pc1 (pt sw5 (pt sw4 (pt sw3 (pt sw2 (pt sw1 (pt sw0 (pc1 (pt sw4 (pt sw3 (pt sw2 (pt sw1 (pt sw0 (pc1 (pt sw1 (pt sw0 pz)))))))))))))))))))))))))))))))) ⟨rfl, rfl, rfl, rfl, rfl⟩ ?_
    refine T.reH (H' := ((treeo (TreeTy.mk 28 3 43) (h272_ ++ [d268_]) ((putAt z129 x14 (DNode.mk n31.kind z143 z144 z145 z146)) ++ [(Sum.inr (DNode.mk z151 z142 z141 z140 z139) : Int ⊕ DNode)])) :: i145_ :: i131_ :: i125_ :: i124_ :: t149_)) (by rfl) ?_
    refine T.seq ?_
    refine T.tree 0 (by rfl) (fun ht33 => ?_)
    refine T.region (T.p4 (pB b4 0) (pB b4 0) (pB b4 0) (pB b4 1) (fun _ => by kernel_rfl) (T.look (.slice A185 ((h272_ ++ [d268_]).length) c190) (by kernel_rfl) (ld1 6 rfl rfl (fun _ => by kernel_rfl) (by rfl) rfl) ?_))
    refine T.look (vi (((putAt z129 x14 (DNode.mk n31.kind z143 z144 z145 z146)) ++ [(Sum.inr (DNode.mk z151 z142 z141 z140 z139) : Int ⊕ DNode)]).length : Int)) (by kernel_rfl) (fun w' hh => (by rw [← ht33.len]; kernel_rfl)) ?_
    refine T.p2 (vi (IntKind.i64.wrap ((((putAt z129 x14 (DNode.mk n31.kind z143 z144 z145 z146)) ++ [(Sum.inr (DNode.mk z151 z142 z141 z140 z139) : Int ⊕ DNode)]).length : Int) - 1))) (vi (IntKind.i64.wrap ((((putAt z129 x14 (DNode.mk n31.kind z143 z144 z145 z146)) ++ [(Sum.inr (DNode.mk z151 z142 z141 z140 z139) : Int ⊕ DNode)]).length : Int) - 1))) (fun _ => by kernel_rfl) (T.nil ?_)
    cases hX17
    refine T.ret rfl ?_
    repeat first | refine T.unthen ?_ | refine T.unblock ?_
    exact T.ret1 rfl (ResIs.tmp rfl) fun w' hh => ⟨_, rfl, ⟨((putAt z129 x14 (DNode.mk n31.kind z143 z144 z145 z146)) ++ [(Sum.inr (DNode.mk z151 z142 z141 z140 z139) : Int ⊕ DNode)]), (IntKind.i64.wrap ((((putAt z129 x14 (DNode.mk n31.kind z143 z144 z145 z146)) ++ [(Sum.inr (DNode.mk z151 z142 z141 z140 z139) : Int ⊕ DNode)]).length : Int) - 1)), rfl, (h272_ ++ [d268_]), A185, c190, rfl, (hh.sub (kp1 (dr2 (kp4 (kp1 kpr)))))⟩⟩
   rintro v w' ⟨z152, z153, rfl, hs20, A180, c185, rfl, hh⟩
   try dsimp only at hS4
   let i150_ : HObj := treeo (TreeTy.mk 28 3 43) hs20 z152
   let i151_ : HObj := box b4 83 [vi r2.root, .slice A180 hs20.length c185]
   refine ⟨V39, (i150_ :: i125_ :: i124_ :: i9_ :: i151_ :: (row 97 eHdr A180 c185 hs20) :: G4), hh, ?_⟩
   clear hh
   refine TA.on (Hp.old vr w281_ (dr1 (kp2 (dr2 (dr1 kp0)))) (oB1 (oB1 ol0))) ?_
   refine TA.all [4] (by kernel_rfl) rfl ⟨?_, trivial⟩
   refine TA.br rfl (W1.st 3 v234_ (i150_ :: i125_ :: i124_ :: (box b71 43 v234_) :: i151_ :: (row 97 eHdr A180 c185 hs20) :: G4) v234_ (by rfl) rfl rfl rfl rfl rfl rfl (fun _ => by kernel_rfl) ?_)
   refine TA.onk (Hp.old vr w281_ (dr1 (kp2 (dr2 (dr1 kp0)))) (oB1 (oB1 ol0))) fun o336_ => ?_
   refine TA.tp 5 (vi z153) rfl (fun _ => by kernel_rfl) (fun _ _ _ h => h) o336_ ?_
   refine TA.tp 6 (.bool true) rfl (fun _ => by kernel_rfl) (fun _ _ _ h => h) o336_ ?_
   refine TA.done (by kernel_rfl) ?_
   have hres := Option.some.inj hS4
   subst hres
   refine T.ret rfl ?_
   repeat first | refine T.unthen ?_ | refine T.unblock ?_
   exact T.ret3 rfl (ResIs.cellN 3 rfl (by rfl) (fun _ => by kernel_rfl) (fun _ => by kernel_rfl)) (ResIs.tmp rfl) (ResIs.tmp rfl) fun w' hh => ⟨_, rfl, ⟨z152, z147, z148, z149, z150, z153, true, rfl, hs20, A180, c185, V39, (vt hV34 hV39), rfl, ((hh.sub (kp1 (dr3 (kp1 (kp1 kpr))))).perm (pt sw0 (pc1 (pt sw0 pz))))⟩⟩
  let v238_ : List Value := [vi z40, vi z41, vi z42, vi z43]
  refine T.mid (fun a w' => ∃ (b27 : Nat) (hs16 : List DHdr) (A140 : Option Addr) (c144 : Nat) (V31 : View), View.le V1 V31 ∧ Fr 58 [(0, pB b4 0), (4, pB b27 0), (5, vi z44), (6, .bool z45)] a ∧ Hp w V31 ((box b27 43 v238_) :: (box b4 83 [vi r2.root, .slice A140 hs16.length c144]) :: (row 97 eHdr A140 c144 hs16) :: (treeo (TreeTy.mk 28 3 43) hs16 z39) :: t6_) w') ?_ ?_
  ·
   let i152_ : HObj := box b5 28 v200_
   refine T.held (i152_ :: t6_) (by kernel_rfl) ?_
   refine TA.keep (Hp.old vr hV1 (kp1 (dr3 (kp2 (dr1 kp0)))) (oB2 (oB1 ol0))) fun o337_ => ?_
   refine TA.tp 0 (pB b4 0) rfl (fun _ => by kernel_rfl) (fun _ _ _ h => h) o337_ ?_
   refine TA.tp 1 (pB b4 0) rfl (fun _ => by kernel_rfl) (fun _ _ _ h => h) o337_ ?_
   refine TA.tp 2 (pB b4 0) rfl (fun _ => by kernel_rfl) (fun _ _ _ h => h) o337_ ?_
   refine TA.tp 3 (pB b4 0) rfl (fun _ => by kernel_rfl) (fun _ _ _ h => h) o337_ ?_
   refine TA.tp 4 (pB b4 0) rfl (fun _ => by kernel_rfl) (fun _ _ _ h => h) o337_ ?_
   refine TA.tk 6 a246_ rfl (by kernel_rfl) (fun _ _ _ h => h) o337_ (ldN 0 rfl rfl (fun _ => by kernel_rfl) (by rfl) rfl) ?_
   refine TA.all [5, 12] (by kernel_rfl) rfl ⟨?_, ?_, trivial⟩
   ·
    refine TA.br rfl (W1.look (vi r2.root) (by kernel_rfl) (ld1 1 rfl rfl (fun _ => by kernel_rfl) (by rfl) rfl) ?_)
    refine TA.on (Hp.old vr hV1 (kp1 (dr3 (kp2 (dr1 kp0)))) (oB2 (oB1 ol0))) ?_
    refine TA.all [7, 12] (by kernel_rfl) rfl ⟨?_, ?_, trivial⟩
    ·
     refine TA.br rfl (W1.callI 79 [pB b4 0, vi r2.root, a246_] (fun v w' => ∃ (z39x : List (Int ⊕ DNode)) (z40x : Int) (z41x : Int) (z42x : Int) (z43x : Int) (z44x : Int) (z45x : Bool), (z39, z40, z41, z42, z43, z44, z45) = (z39x, z40x, z41x, z42x, z43x, z44x, z45x) ∧ ∃ (c50 : List DHdr) (A49 : Option Addr) (c51 : Nat) (V12 : View), View.le V1 V12 ∧ v = .tuple #[.agg #[vi z40x, vi z41x, vi z42x, vi z43x], vi z44x, .bool z45x] ∧ Hp w V12 ((box b4 83 [vi r2.root, .slice A49 c50.length c51]) :: (row 97 eHdr A49 c51 c50) :: (treeo (TreeTy.mk 28 3 43) c50 z39x) :: i152_ :: t5_) w') (by kernel_rfl) (fun _ => by kernel_rfl) (fun w' hh => hq4 (r2.nodes.map Sum.inr) r2.root rfl V1 (i152_ :: t5_) w' vr ((hh.sub (kp6 (kp1 kp0))).perm (pt sw0 (pc1 (pt sw0 (pc1 (pt sw0 pz))))))) ?_)
     rintro v w' ⟨z39x, z40x, z41x, z42x, z43x, z44x, z45x, hq_, c50, A49, c51, V12, hV12, rfl, hh⟩
     simp only [Prod.mk.injEq] at hq_
     obtain ⟨rfl, rfl, rfl, rfl, rfl, rfl, rfl⟩ := hq_
     try dsimp only at hX1
     let i153_ : HObj := box b4 83 [vi r2.root, .slice A49 c50.length c51]
     let i154_ : HObj := treeo (TreeTy.mk 28 3 43) c50 z39
     refine ⟨V12, (i152_ :: i153_ :: (row 97 eHdr A49 c51 c50) :: i154_ :: t5_), (hh.sub (kp6 (kp1 kp0))).perm (pt sw2 (pt sw1 (pt sw0 pz))), ?_⟩
     clear hh
     refine TA.onk (Hp.old hV12 hV1 (kp1 (dr3 (kp2 (dr1 kp0)))) (oB2 (oB1 ol0))) fun o338_ => ?_
     refine TA.tp 8 (.tuple #[.agg #[vi z40, vi z41, vi z42, vi z43], vi z44, .bool z45]) rfl (fun _ => by kernel_rfl) (fun _ _ _ h => h) o338_ ?_
     refine TA.tp 9 (.agg #[vi z40, vi z41, vi z42, vi z43]) rfl (fun _ => by kernel_rfl) (fun _ _ _ h => h) o338_ ?_
     refine TA.tp 10 (vi z44) rfl (fun _ => by kernel_rfl) (fun _ _ _ h => h) o338_ ?_
     refine TA.tp 11 (.bool z45) rfl (fun _ => by kernel_rfl) (fun _ _ _ h => h) o338_ ?_
     refine TA.all [12] (by kernel_rfl) rfl ⟨?_, trivial⟩
     refine TA.br rfl (W1.np 43 [vi 0, vi 0, vi 0, vi 0] (fun _ => by kernel_rfl) (fun b27 => ?_))
     refine TA.on (Hp.old hV12 hV1 (dr1 (kp1 (dr3 (kp2 (dr1 kp0))))) (oB2 (oB1 ol0))) ?_
     refine TA.all [13] (by kernel_rfl) rfl ⟨?_, trivial⟩
     refine TA.br rfl (W1.st 0 v238_ ((box b27 43 v238_) :: i152_ :: i153_ :: (row 97 eHdr A49 c51 c50) :: i154_ :: t5_) v238_ (by rfl) rfl rfl rfl rfl rfl rfl (fun _ => by kernel_rfl) ?_)
     refine TA.onk (Hp.old hV12 hV1 (dr1 (kp1 (dr3 (kp2 (dr1 kp0))))) (oB2 (oB1 ol0))) fun o339_ => ?_
     refine TA.tp 14 (vi z44) rfl (fun _ => by kernel_rfl) (fun _ _ _ h => h) o339_ ?_
     refine TA.tp 15 (.bool z45) rfl (fun _ => by kernel_rfl) (fun _ _ _ h => h) o339_ ?_
     refine TA.done (by kernel_rfl) ?_
     exact fun a w' hf hh => ⟨b27, c50, A49, c51, V12, hV12, (Fr.sel hf rfl), (hh.sub (kp1 (dr1 (kp5 (dr1 kp0)))))⟩
    refine TA.br rfl (W1.np 43 [vi 0, vi 0, vi 0, vi 0] (fun _ => by kernel_rfl) (fun b27 => ?_))
    refine TA.on (Hp.old vr hV1 (dr1 (kp1 (dr3 (kp2 (dr1 kp0))))) (oB2 (oB1 ol0))) ?_
    refine TA.all [7] (by kernel_rfl) rfl ⟨?_, trivial⟩
    let i155_ : HObj := box b27 43 [vi 0, vi 0, vi 0, vi 0]
    refine TA.br rfl (W1.callI 79 [pB b4 0, vi r2.root, a246_] (fun v w' => ∃ (z39x : List (Int ⊕ DNode)) (z40x : Int) (z41x : Int) (z42x : Int) (z43x : Int) (z44x : Int) (z45x : Bool), (z39, z40, z41, z42, z43, z44, z45) = (z39x, z40x, z41x, z42x, z43x, z44x, z45x) ∧ ∃ (c50 : List DHdr) (A49 : Option Addr) (c51 : Nat) (V12 : View), View.le V1 V12 ∧ v = .tuple #[.agg #[vi z40x, vi z41x, vi z42x, vi z43x], vi z44x, .bool z45x] ∧ Hp w V12 ((box b4 83 [vi r2.root, .slice A49 c50.length c51]) :: (row 97 eHdr A49 c51 c50) :: (treeo (TreeTy.mk 28 3 43) c50 z39x) :: i155_ :: i152_ :: t5_) w') (by kernel_rfl) (fun _ => by kernel_rfl) (fun w' hh => hq4 (r2.nodes.map Sum.inr) r2.root rfl V1 (i155_ :: i152_ :: t5_) w' vr ((hh.sub (kp7 (kp1 kp0))).perm (pt sw1 (pt sw0 (pc1 (pt sw1 (pt sw0 (pc1 (pt sw1 (pt sw0 pz)))))))))) ?_)
    rintro v w' ⟨z39x, z40x, z41x, z42x, z43x, z44x, z45x, hq_, c50, A49, c51, V12, hV12, rfl, hh⟩
    simp only [Prod.mk.injEq] at hq_
    obtain ⟨rfl, rfl, rfl, rfl, rfl, rfl, rfl⟩ := hq_
    try dsimp only at hX1
    let i156_ : HObj := box b4 83 [vi r2.root, .slice A49 c50.length c51]
    let i157_ : HObj := treeo (TreeTy.mk 28 3 43) c50 z39
    refine ⟨V12, (i155_ :: i152_ :: i156_ :: (row 97 eHdr A49 c51 c50) :: i157_ :: t5_), (hh.sub (kp7 (kp1 kp0))).perm (pt sw2 (pt sw1 (pt sw0 (pc1 (pt sw2 (pt sw1 (pt sw0 pz))))))), ?_⟩
    clear hh
    refine TA.onk (Hp.old hV12 hV1 (dr1 (kp1 (dr3 (kp2 (dr1 kp0))))) (oB2 (oB1 ol0))) fun o340_ => ?_
    refine TA.tp 8 (.tuple #[.agg #[vi z40, vi z41, vi z42, vi z43], vi z44, .bool z45]) rfl (fun _ => by kernel_rfl) (fun _ _ _ h => h) o340_ ?_
    refine TA.tp 9 (.agg #[vi z40, vi z41, vi z42, vi z43]) rfl (fun _ => by kernel_rfl) (fun _ _ _ h => h) o340_ ?_
    refine TA.tp 10 (vi z44) rfl (fun _ => by kernel_rfl) (fun _ _ _ h => h) o340_ ?_
    refine TA.tp 11 (.bool z45) rfl (fun _ => by kernel_rfl) (fun _ _ _ h => h) o340_ ?_
    refine TA.all [13] (by kernel_rfl) rfl ⟨?_, trivial⟩
    refine TA.br rfl (W1.st 0 v238_ ((box b27 43 v238_) :: i152_ :: i156_ :: (row 97 eHdr A49 c51 c50) :: i157_ :: t5_) v238_ (by rfl) rfl rfl rfl rfl rfl rfl (fun _ => by kernel_rfl) ?_)
    refine TA.onk (Hp.old hV12 hV1 (dr1 (kp1 (dr3 (kp2 (dr1 kp0))))) (oB2 (oB1 ol0))) fun o341_ => ?_
    refine TA.tp 14 (vi z44) rfl (fun _ => by kernel_rfl) (fun _ _ _ h => h) o341_ ?_
    refine TA.tp 15 (.bool z45) rfl (fun _ => by kernel_rfl) (fun _ _ _ h => h) o341_ ?_
    refine TA.done (by kernel_rfl) ?_
    exact fun a w' hf hh => ⟨b27, c50, A49, c51, V12, hV12, (Fr.sel hf rfl), (hh.sub (kp1 (dr1 (kp5 (dr1 kp0)))))⟩
   refine TA.br rfl (W1.np 43 [vi 0, vi 0, vi 0, vi 0] (fun _ => by kernel_rfl) (fun b27 => ?_))
   refine TA.on (Hp.old vr hV1 (dr1 (kp1 (dr3 (kp2 (dr1 kp0))))) (oB2 (oB1 ol0))) ?_
   refine TA.all [5] (by kernel_rfl) rfl ⟨?_, trivial⟩
   refine TA.br rfl (W1.look (vi r2.root) (by kernel_rfl) (ld1 2 rfl rfl (fun _ => by kernel_rfl) (by rfl) rfl) ?_)
   refine TA.on (Hp.old vr hV1 (dr1 (kp1 (dr3 (kp2 (dr1 kp0))))) (oB2 (oB1 ol0))) ?_
   refine TA.all [7] (by kernel_rfl) rfl ⟨?_, trivial⟩
   let i158_ : HObj := box b27 43 [vi 0, vi 0, vi 0, vi 0]
   refine TA.br rfl (W1.callI 79 [pB b4 0, vi r2.root, a246_] (fun v w' => ∃ (z39x : List (Int ⊕ DNode)) (z40x : Int) (z41x : Int) (z42x : Int) (z43x : Int) (z44x : Int) (z45x : Bool), (z39, z40, z41, z42, z43, z44, z45) = (z39x, z40x, z41x, z42x, z43x, z44x, z45x) ∧ ∃ (c50 : List DHdr) (A49 : Option Addr) (c51 : Nat) (V12 : View), View.le V1 V12 ∧ v = .tuple #[.agg #[vi z40x, vi z41x, vi z42x, vi z43x], vi z44x, .bool z45x] ∧ Hp w V12 ((box b4 83 [vi r2.root, .slice A49 c50.length c51]) :: (row 97 eHdr A49 c51 c50) :: (treeo (TreeTy.mk 28 3 43) c50 z39x) :: i158_ :: i152_ :: t5_) w') (by kernel_rfl) (fun _ => by kernel_rfl) (fun w' hh => hq4 (r2.nodes.map Sum.inr) r2.root rfl V1 (i158_ :: i152_ :: t5_) w' vr ((hh.sub (kp7 (kp1 kp0))).perm (pt sw1 (pt sw0 (pc1 (pt sw1 (pt sw0 (pc1 (pt sw1 (pt sw0 pz)))))))))) ?_)
   rintro v w' ⟨z39x, z40x, z41x, z42x, z43x, z44x, z45x, hq_, c50, A49, c51, V12, hV12, rfl, hh⟩
   simp only [Prod.mk.injEq] at hq_
   obtain ⟨rfl, rfl, rfl, rfl, rfl, rfl, rfl⟩ := hq_
   try dsimp only at hX1
   let i159_ : HObj := box b4 83 [vi r2.root, .slice A49 c50.length c51]
   let i160_ : HObj := treeo (TreeTy.mk 28 3 43) c50 z39
   refine ⟨V12, (i158_ :: i152_ :: i159_ :: (row 97 eHdr A49 c51 c50) :: i160_ :: t5_), (hh.sub (kp7 (kp1 kp0))).perm (pt sw2 (pt sw1 (pt sw0 (pc1 (pt sw2 (pt sw1 (pt sw0 pz))))))), ?_⟩
   clear hh
   refine TA.onk (Hp.old hV12 hV1 (dr1 (kp1 (dr3 (kp2 (dr1 kp0))))) (oB2 (oB1 ol0))) fun o342_ => ?_
   refine TA.tp 8 (.tuple #[.agg #[vi z40, vi z41, vi z42, vi z43], vi z44, .bool z45]) rfl (fun _ => by kernel_rfl) (fun _ _ _ h => h) o342_ ?_
   refine TA.tp 9 (.agg #[vi z40, vi z41, vi z42, vi z43]) rfl (fun _ => by kernel_rfl) (fun _ _ _ h => h) o342_ ?_
   refine TA.tp 10 (vi z44) rfl (fun _ => by kernel_rfl) (fun _ _ _ h => h) o342_ ?_
   refine TA.tp 11 (.bool z45) rfl (fun _ => by kernel_rfl) (fun _ _ _ h => h) o342_ ?_
   refine TA.all [13] (by kernel_rfl) rfl ⟨?_, trivial⟩
   refine TA.br rfl (W1.st 0 v238_ ((box b27 43 v238_) :: i152_ :: i159_ :: (row 97 eHdr A49 c51 c50) :: i160_ :: t5_) v238_ (by rfl) rfl rfl rfl rfl rfl rfl (fun _ => by kernel_rfl) ?_)
   refine TA.onk (Hp.old hV12 hV1 (dr1 (kp1 (dr3 (kp2 (dr1 kp0))))) (oB2 (oB1 ol0))) fun o343_ => ?_
   refine TA.tp 14 (vi z44) rfl (fun _ => by kernel_rfl) (fun _ _ _ h => h) o343_ ?_
   refine TA.tp 15 (.bool z45) rfl (fun _ => by kernel_rfl) (fun _ _ _ h => h) o343_ ?_
   refine TA.done (by kernel_rfl) ?_
   exact fun a w' hf hh => ⟨b27, c50, A49, c51, V12, hV12, (Fr.sel hf rfl), (hh.sub (kp1 (dr1 (kp5 (dr1 kp0)))))⟩
  rintro a w' ⟨b27, hs16, A140, c144, V31, hV31, hf, hh⟩
  let i161_ : HObj := box b27 43 v238_
  let i162_ : HObj := box b4 83 [vi r2.root, .slice A140 hs16.length c144]
  let i163_ : HObj := treeo (TreeTy.mk 28 3 43) hs16 z39
  let t164_ : List HObj := i163_ :: t6_
  let t165_ : List HObj := (row 97 eHdr A140 c144 hs16) :: t164_
  let t166_ : List HObj := i162_ :: t165_
  let t167_ : List HObj := i161_ :: t166_
  refine (?_ : T 58 w V31 t167_ [(0, pB b4 0), (4, pB b27 0), (5, vi z44), (6, .bool z45)] _) a w' hf hh
  clear hf hh
  refine T.seq (T.seq (T.region (T.p2 (.bool z45) (.bool (!z45)) (fun _ => by kernel_rfl) (T.nil ?_))))
  refine T.cond (!z45) (by kernel_rfl) (by kernel_rfl) (fun hc32 => ?_) (fun hc32 => ?_)
  ·
   rw [hc32, cond_true] at hX1
   cases hX1
   refine T.ret rfl ?_
   repeat first | refine T.unthen ?_ | refine T.unblock ?_
   exact T.ret0 rfl  fun w' hh => ⟨_, rfl, ⟨r2.root, z39, rfl, hs16, A140, c144, V31, hV31, rfl, (hh.sub (dr1 (kp4 (kp1 kp0))))⟩⟩
  rw [hc32, cond_false] at hX1
  refine T.skip_code ?_
  refine T.seq (T.region (T.p4 (pB b4 0) (pB b4 0) (pB b4 0) (pB b4 0) (fun _ => by kernel_rfl) (T.look (vi r2.root) (by kernel_rfl) (ld1 1 rfl rfl (fun _ => by kernel_rfl) (by rfl) rfl) ?_)))
  refine T.pk (vi r2.root) (fun _ => by kernel_rfl) (T.nil ?_)
  refine T.tree 3 (by rfl) (fun ht34 => ?_)
  obtain ⟨n41, hb167, hX1⟩ := ob hX1
  obtain ⟨n42, hb168, hX1⟩ := ob hX1
  obtain ⟨r84, hb169, hX1⟩ := ob hX1
  obtain ⟨r85, hb170, hX1⟩ := ob hX1
  let t168_ : List HObj := (row 97 eHdr A140 c144 hs16) :: t6_
  let t169_ : List HObj := i162_ :: t168_
  refine T.heldL 27 (i161_ :: t169_) (by kernel_rfl) ?_
  let v239_ : List Value := [vi r84, vi r85]
  let v240_ : List Value := [vi r2.root, vi z44]
  refine TL.joint 5 (List.toArray (true :: true :: true :: true :: true :: true :: true :: true :: true :: true :: true :: true :: true :: true :: true :: true :: true :: true :: true :: true :: true :: true :: true :: true :: true :: true :: true :: false :: false :: false :: false :: false :: [])) (fun a w' => ∃ (b93 : Nat) (b92 : Nat) (b91 : Nat) (V43 : View), View.le V31 V43 ∧ Fr 58 [(27, pB b4 0), (28, pB b4 0), (53, .agg #[vi 2, sN, .slice (some ⟨b91, 0, none⟩) 2 2, .slice (some ⟨b92, 0, none⟩) 1 1, .slice (some ⟨b93, 0, none⟩) 2 2])] a ∧ Hp w V43 ((box b93 3 v239_) :: (box b92 43 v238_) :: (box b91 3 v240_) :: t167_) w') ?_ (fun hD1 => ?_)
  ·
   rintro a w' ⟨b93, b92, b91, V43, hV43, hf, hh⟩
   let i170_ : HObj := box b93 3 v239_
   let i171_ : HObj := box b92 43 v238_
   let i172_ : HObj := box b91 3 v240_
   let a262_ : Value := .agg #[vi 2, sN, .slice (some ⟨b91, 0, none⟩) 2 2, .slice (some ⟨b92, 0, none⟩) 1 1, .slice (some ⟨b93, 0, none⟩) 2 2]
   refine (?_ : T 58 w V43 (i170_ :: i171_ :: i172_ :: t167_) [(27, pB b4 0), (28, pB b4 0), (53, a262_)] _) a w' hf hh
   clear hf hh
   refine TL.all [27] (by kernel_rfl) rfl ⟨?_, trivial⟩
   obtain ⟨q26, hX18, hX1⟩ := ob hX1
   refine TL.br rfl (W1.within 80 [pB b4 0, a262_] (fun v w' => ∃ (z154 : List (Int ⊕ DNode)) (z155 : Int), q26 = (z154, z155) ∧ ∃ (hs21 : List DHdr) (A194 : Option Addr) (c199 : Nat), v = vi z155 ∧ Hp w V43 ((box b4 83 [vi r2.root, .slice A194 hs21.length c199]) :: (row 97 eHdr A194 c199 hs21) :: (treeo (TreeTy.mk 28 3 43) hs21 z154) :: t6_) w') Try.func80 rfl rfl (by kernel_rfl) (fun _ => by kernel_rfl) rfl ?_ ?_)
   ·
    refine T.seq (T.region ?_)
    let v241_ : List Value := [vi 2, sN, .slice (some ⟨b91, 0, none⟩) 2 2, .slice (some ⟨b92, 0, none⟩) 1 1, .slice (some ⟨b93, 0, none⟩) 2 2]
    refine T.step (W1.np 97 v241_ (fun _ => by kernel_rfl) (fun b94 => ?_))
    refine T.pk (vi 0) (fun _ => by kernel_rfl) (T.nil (T.seq (T.seq (T.region (T.p4 (pB b4 0) (pB b4 0) (pB b4 0) (pB b4 1) (fun _ => by kernel_rfl) (T.look (.slice A140 hs16.length c144) (by kernel_rfl) (ld1 5 rfl rfl (fun _ => by kernel_rfl) (by rfl) rfl) ?_))))))
    refine T.look (vi (z39.length : Int)) (by kernel_rfl) (fun w' hh => (by rw [← ht34.len]; kernel_rfl)) ?_
    refine T.pk (vi 0) (fun _ => by kernel_rfl) (T.nil ?_)
    obtain ⟨q27, hz17, hX18⟩ := ob hX18
    let i173_ : HObj := box b94 97 v241_
    let t174_ : List HObj := i172_ :: t166_
    let t175_ : List HObj := i171_ :: t174_
    let t176_ : List HObj := i170_ :: t175_
    let t177_ : List HObj := i173_ :: t176_
    refine T.mid (fun a w' => q27 = Sum.inl () ∧ Fr 50 [(0, pB b4 0), (3, pB b94 0)] a ∧ Hp w V43 t177_ w') ?_ ?_
    ·
     refine T.block ?_
     refine T.iter (fun x17 a w' => Fr 50 [(0, pB b4 0), (3, pB b94 0), (11, .slice A140 hs16.length c144), (12, vi (z39.length : Int)), (13, vi x17)] a ∧ Hp w V43 t177_ w') hz17 ?_ ?_
     ·
      exact fun a w' hf hh => ⟨(Fr.sel hf rfl), (hh.sub (kp4 (dr1 (kp4 (kp1 kp0)))))⟩
     rintro x17 y41 hY9 hr9 a w' ⟨hf, hh⟩
     refine (?_ : T 50 w V43 t177_ [(0, pB b4 0), (3, pB b94 0), (11, .slice A140 hs16.length c144), (12, vi (z39.length : Int)), (13, vi x17)] _) a w' hf hh
     clear hf hh
     try dsimp only at hY9
     refine T.seq (T.region (T.pk (.bool (decide (x17 < (z39.length : Int)))) (fun _ => by kernel_rfl) (T.nil (T.seq ?_))))
     refine T.cond (decide (x17 < (z39.length : Int))) (by kernel_rfl) (by kernel_rfl) (fun hc33 => ?_) (fun hc33 => ?_)
     ·
      rw [hc33, cond_true] at hY9
      refine T.skip_code ?_
      refine T.seq (T.block (T.seq (T.region (T.pk (vi x17) (fun _ => by kernel_rfl) ?_))))
      obtain ⟨kd5, hb171, hY9⟩ := ob hY9
      obtain ⟨A195, n43, c200, A196, n44, c201, A197, n45, c202, A198, n46, c203, hi133, hi134, hx43⟩ := ht34.kind_ hb171
      refine T.look (.pointer (some ((sadr A140).add (x17.toNat * 5)))) (by kernel_rfl) (ixR 5 (e := 97) (s := 5) rfl rfl rfl (fun _ => by kernel_rfl) hi133 hi134 (by rfl) hx43 (by decide)) ?_
      let v242_ : List Value := [vi kd5, .slice A195 n43 c200, .slice A196 n44 c201, .slice A197 n45 c202, .slice A198 n46 c203]
      refine T.look (.agg #[vi kd5, .slice A195 n43 c200, .slice A196 n44 c201, .slice A197 n45 c202, .slice A198 n46 c203]) (by kernel_rfl) (fun w' hh => exec_loadN (cs := v242_) rfl rfl (by kernel_rfl) (by kernel_rfl) (fun j u hj => (SlOk.wcellF (E := eHdr) (hh.row_slOk (i := 5) (by rfl)) hx43 j (fun _ _ _ h => h) hj))) ?_
      refine T.step (W1.np 97 [vi 0, sN, sN, sN, sN] (fun _ => by kernel_rfl) (fun b95 => ?_))
      refine T.pk (vi x17) (fun _ => by kernel_rfl) ?_
      let i178_ : HObj := box b95 97 v242_
      refine T.step (W1.st 0 v242_ (i178_ :: t177_) v242_ (by rfl) rfl rfl rfl rfl rfl rfl (fun _ => by kernel_rfl) ?_)
      refine T.nil (T.seq (T.region (T.pk (pB b95 0) (fun _ => by kernel_rfl) (T.look (vi kd5) (by kernel_rfl) (ld1 0 rfl rfl (fun _ => by kernel_rfl) (by rfl) rfl) ?_))))
      refine T.pk (.bool (kd5 == 0)) (fun _ => by kernel_rfl) (T.nil ?_)
      refine T.cond (kd5 == 0) (by kernel_rfl) (by kernel_rfl) (fun hc34 => ?_) (fun hc34 => ?_)
      ·
       rw [hc34, cond_true] at hY9
       refine T.seq ?_
       refine T.heldL 8 (i173_ :: i170_ :: i171_ :: i172_ :: t169_) (by kernel_rfl) ?_
       have w282_ := vt (vt hV1 hV31) hV43
       refine TL.keep (Hp.old vr w282_ (dr1 (kp6 (dr1 (kp1 (kp1 kp0))))) (oB5 (oR1 (oB1 (oB1 ol0))))) fun o344_ => ?_
       refine TL.tv 0 (pB b4 0) rfl (fun _ => by kernel_rfl) (fun _ _ _ h => h) o344_ ?_
       refine TL.tv 1 (pB b4 0) rfl (fun _ => by kernel_rfl) (fun _ _ _ h => h) o344_ ?_
       refine TL.tv 2 (pB b4 0) rfl (fun _ => by kernel_rfl) (fun _ _ _ h => h) o344_ ?_
       refine TL.tv 3 (pB b4 1) rfl (fun _ => by kernel_rfl) (fun _ _ _ h => h) o344_ ?_
       refine TL.tk 4 (.slice A140 hs16.length c144) [] rfl (by kernel_rfl) (fun _ _ _ h => h) o344_ (ld1 4 rfl rfl (fun _ => by kernel_rfl) (by rfl) rfl) ?_
       refine TL.tv 5 (vi x17) rfl (fun _ => by kernel_rfl) (fun _ _ _ h => h) o344_ ?_
       refine TL.tk 6 a262_ [] rfl (by kernel_rfl) (fun _ _ _ h => h) o344_ (ldN 0 rfl rfl (fun _ => by kernel_rfl) (by rfl) rfl) ?_
       obtain ⟨u17, hb172, hY9⟩ := ob hY9
       obtain ⟨hi135, hi136, e37, hx44⟩ := ht34.has hb172
       refine TL.tk 7 (.pointer (some ((sadr A140).add (x17.toNat * 5)))) [] rfl (by kernel_rfl) (fun _ _ _ h => h) o344_ (ixR 5 (e := 97) (s := 5) rfl rfl rfl (fun _ => by kernel_rfl) hi135 hi136 (by rfl) hx44 (by decide)) ?_
       refine TL.all [8] (by kernel_rfl) rfl ⟨?_, trivial⟩
       let d269_ : DHdr := DHdr.mk 2 none 0 0 (some ⟨b91, 0, none⟩) 2 2 (some ⟨b92, 0, none⟩) 1 1 (some ⟨b93, 0, none⟩) 2 2
       refine TL.br rfl (W1.storeRow (E := eHdr) 6 (x17.toNat) 0 e37 d269_ _ (vs := v241_) (by rfl) (by kernel_rfl) rfl rfl (addr_add0 _).symm rfl rfl (fun _ => by kernel_rfl) (one_of rfl) hx44 (Nat.le_of_ble_eq_true (by kernel_rfl)) (fun _ _ h => by cases h; rfl) ?_)
       refine TL.onW (by kernel_rfl) ?_
       let h273_ : List DHdr := hs16.set x17.toNat d269_
       refine T.reslot 11 (.slice A140 (h273_.length) c144) rfl (by simp +zetaDelta only [List.length_set]) ?_
       refine T.reslot 25 (.slice A140 (h273_.length) c144) rfl (by simp +zetaDelta only [List.length_set]) ?_
       let i179_ : HObj := box b4 83 [vi r2.root, .slice A140 (h273_.length) c144]
       let i180_ : HObj := row 97 eHdr A140 c144 h273_
       let t181_ : List HObj := i180_ :: t164_
       let t182_ : List HObj := i179_ :: t181_
       refine T.reH (H' := (i178_ :: i173_ :: i170_ :: i171_ :: i172_ :: t182_)) (by first | (simp +zetaDelta only [List.length_set]; done) | (simp +zetaDelta only [List.length_set]; rfl)) ?_
       refine TL.done (by kernel_rfl) ?_
       refine T.rownil 28 eElem ?_
       refine T.litrow (E := eInt) (f := (fun x => [vi x])) (l := [r2.root, z44]) 5 _ (by rfl) (fun _ _ => rfl) (Nat.succ_pos _) (Nat.le_of_ble_eq_true (by rfl)) rfl ?_
       let i183_ : HObj := row 3 eInt (some ⟨b91, 0, none⟩) ([r2.root, z44].length) [r2.root, z44]
       let t184_ : List HObj := i183_ :: t182_
       refine T.reH (H' := ((row 28 eElem none 0 []) :: i178_ :: i173_ :: i170_ :: i171_ :: t184_)) (by rfl) ?_
       refine T.litrow (E := eSpot) (f := DSpot.cells) (l := [(DSpot.mk (DKey.mk z40 z41 z42) z43)]) 4 _ (by rfl) (fun _ _ => rfl) (Nat.succ_pos _) (Nat.le_of_ble_eq_true (by rfl)) rfl ?_
       let i185_ : HObj := row 43 eSpot (some ⟨b92, 0, none⟩) ([(DSpot.mk (DKey.mk z40 z41 z42) z43)].length) [(DSpot.mk (DKey.mk z40 z41 z42) z43)]
       refine T.reH (H' := ((row 28 eElem none 0 []) :: i178_ :: i173_ :: i170_ :: i185_ :: t184_)) (by rfl) ?_
       refine T.litrow (E := eInt) (f := (fun x => [vi x])) (l := [r84, r85]) 3 _ (by rfl) (fun _ _ => rfl) (Nat.succ_pos _) (Nat.le_of_ble_eq_true (by rfl)) rfl ?_
       refine T.reH (H' := ((row 28 eElem none 0 []) :: i178_ :: i173_ :: (row 3 eInt (some ⟨b93, 0, none⟩) ([r84, r85].length) [r84, r85]) :: i185_ :: t184_)) (by rfl) ?_
       refine T.putS (ty := (TreeTy.mk 28 3 43)) (i178_ :: i173_ :: i179_ :: i180_ :: t6_) d269_ (DNode.mk 2 [] [r2.root, z44] [(DSpot.mk (DKey.mk z40 z41 z42) z43)] [r84, r85]) (pc1 (pt sw3 (pt sw2 (pt sw1 (pt sw0 (pc1 (pt sw2 (pt sw1 (pt sw0 (pc1 (pt sw1 (pt sw0 (pc1 (pt sw3 (pt sw2 (pt sw1 (pt sw0 pz))))))))))))))))) ⟨rfl, rfl, rfl, rfl, rfl⟩ hb172 ?_
       have hb173 := nodeAt_put (n := (DNode.mk 2 [] [r2.root, z44] [(DSpot.mk (DKey.mk z40 z41 z42) z43)] [r84, r85])) hb172
       have hx45 := TreeOk.set_at ht34 d269_ hb172
       refine T.reH (H' := ((treeo (TreeTy.mk 28 3 43) h273_ (putAt z39 x17 (DNode.mk 2 [] [r2.root, z44] [(DSpot.mk (DKey.mk z40 z41 z42) z43)] [r84, r85]))) :: i178_ :: i173_ :: i179_ :: i180_ :: t6_)) (by rfl) ?_
       refine T.seq (T.region (T.p2 (vi x17) (vi x17) (fun _ => by kernel_rfl) (T.nil ?_)))
       cases hY9
       cases (hr9 _ rfl)
       try dsimp only at hX18
       cases hX18
       refine T.ret rfl ?_
       repeat first | refine T.unthen ?_ | refine T.unblock ?_
       exact T.ret1 rfl (ResIs.tmp rfl) fun w' hh => ⟨_, rfl, ⟨(putAt z39 x17 (DNode.mk 2 [] [r2.root, z44] [(DSpot.mk (DKey.mk z40 z41 z42) z43)] [r84, r85])), x17, rfl, h273_, A140, c144, rfl, ((hh.sub (kp1 (dr2 (kp3 (kp1 kp0))))).perm (pt sw0 (pc1 (pt sw0 pz))))⟩⟩
      rw [hc34, cond_false] at hY9
      refine T.skip_code ?_
      refine T.region (T.p2 (vi (IntKind.i64.wrap (x17 + 1))) (vi (IntKind.i64.wrap (x17 + 1))) (fun _ => by kernel_rfl) (T.nil ?_))
      cases hY9
      exact fun a w' hf hh => ⟨(IntKind.i64.wrap (x17 + 1)), rfl, (Fr.sel hf rfl), (hh.sub (dr1 (kp8 (kp1 kp0))))⟩
     rw [hc33, cond_false] at hY9
     refine T.exit ?_
     cases hY9
     cases (hr9 _ rfl)
     exact fun a w' hf hh => ⟨rfl, (Fr.sel hf rfl), (hh.sub (kp8 (kp1 kp0)))⟩
    rintro a w' ⟨rfl, hf, hh⟩
    try dsimp only at hX18
    refine (?_ : T 50 w V43 t177_ [(0, pB b4 0), (3, pB b94 0)] _) a w' hf hh
    clear hf hh
    refine T.seq ?_
    refine T.heldL 8 (i173_ :: i170_ :: i171_ :: i172_ :: t169_) (by kernel_rfl) ?_
    have w283_ := vt (vt hV1 hV31) hV43
    refine TL.keep (Hp.old vr w283_ (kp6 (dr1 (kp1 (kp1 kp0)))) (oB5 (oR1 (oB1 (oB1 ol0))))) fun o345_ => ?_
    refine TL.tv 0 (pB b4 0) rfl (fun _ => by kernel_rfl) (fun _ _ _ h => h) o345_ ?_
    refine TL.tv 1 (pB b4 0) rfl (fun _ => by kernel_rfl) (fun _ _ _ h => h) o345_ ?_
    refine TL.tv 2 (pB b4 0) rfl (fun _ => by kernel_rfl) (fun _ _ _ h => h) o345_ ?_
    refine TL.tv 3 (pB b4 0) rfl (fun _ => by kernel_rfl) (fun _ _ _ h => h) o345_ ?_
    refine TL.tv 4 (pB b4 1) rfl (fun _ => by kernel_rfl) (fun _ _ _ h => h) o345_ ?_
    refine TL.tk 5 (.slice A140 hs16.length c144) [] rfl (by kernel_rfl) (fun _ _ _ h => h) o345_ (ld1 4 rfl rfl (fun _ => by kernel_rfl) (by rfl) rfl) ?_
    refine TL.tk 6 a262_ [7] rfl (by kernel_rfl) (fun _ _ _ h => h) o345_ (ldN 0 rfl rfl (fun _ => by kernel_rfl) (by rfl) rfl) ?_
    refine TL.all [7] (by kernel_rfl) rfl ⟨?_, trivial⟩
    refine TL.br rfl (W1.ns 97 v241_ (fun _ => by kernel_rfl) (fun b96 => ?_))
    refine TL.on (Hp.old vr w283_ (dr1 (kp6 (dr1 (kp1 (kp1 kp0))))) (oB5 (oR1 (oB1 (oB1 ol0))))) ?_
    refine TL.all [8] (by kernel_rfl) rfl ⟨?_, trivial⟩
    obtain ⟨u18, hb174, hX18⟩ := ob hX18
    obtain ⟨hb174_r, hb174_m⟩ := roomN_some hb174
    rw [show z39.length = hs16.length from ht34.len.symm] at hb174_r hb174_m
    obtain ⟨ti, hti, hz1, hz2, hz3⟩ := ipGrowIL_1
    let d270_ : DHdr := DHdr.mk 2 none 0 0 (some ⟨b91, 0, none⟩) 2 2 (some ⟨b92, 0, none⟩) 1 1 (some ⟨b93, 0, none⟩) 2 2
    refine TL.br rfl (W1.append (E := eHdr) (l := hs16) (m := [d270_]) 6 _ _ 104 ti _ (by rfl) (by kernel_rfl) rfl (by kernel_rfl) hti hz1 hz2 hz3 rfl (by decide) rfl rfl (fun w' hh => (SlOk.srcF (slok_lit (E := eHdr) (f := DHdr.cells) [d270_] (fun _ _ => rfl) (Nat.le_of_ble_eq_true (by rfl)) (fun j => hh.cellBox (i := 0) (by rfl) j)) (fun _ _ _ _ h => h))) hb174_r hb174_m (fun A199 c204 => ?_))
    refine TL.onW (by kernel_rfl) ?_
    refine TL.takeQ 9 (pB b4 0) rfl (by kernel_rfl) (by kernel_rfl) (by kernel_rfl) (fun _ _ _ h => h) (by kernel_rfl) (by kernel_rfl) (by kernel_rfl) (fun _ => by kernel_rfl) ?_
    refine TL.takeQ 10 (pB b4 0) rfl (by kernel_rfl) (by kernel_rfl) (by kernel_rfl) (fun _ _ _ h => h) (by kernel_rfl) (by kernel_rfl) (by kernel_rfl) (fun _ => by kernel_rfl) ?_
    refine TL.takeQ 11 (pB b4 1) rfl (by kernel_rfl) (by kernel_rfl) (by kernel_rfl) (fun _ _ _ h => h) (by kernel_rfl) (by kernel_rfl) (by kernel_rfl) (fun _ => by kernel_rfl) ?_
    refine TL.all [12] (by kernel_rfl) rfl ⟨?_, trivial⟩
    let i186_ : HObj := box b96 97 v241_
    let v243_ : List Value := [vi r2.root, .slice A199 ((hs16 ++ [d270_]).length) c204]
    let i187_ : HObj := box b4 83 v243_
    let i188_ : HObj := row 97 eHdr A199 c204 (hs16 ++ [d270_])
    let t189_ : List HObj := i188_ :: t164_
    let t190_ : List HObj := i187_ :: t189_
    refine TL.br rfl (W1.st 5 v243_ (i186_ :: i173_ :: i170_ :: i171_ :: i172_ :: t190_) [.slice A199 ((hs16 ++ [d270_]).length) c204] (by rfl) rfl rfl rfl rfl rfl rfl (fun _ => by kernel_rfl) ?_)
    refine TL.onW (by kernel_rfl) ?_
    refine TL.done (by kernel_rfl) ?_
    refine T.rownil 28 eElem ?_
    refine T.litrow (E := eInt) (f := (fun x => [vi x])) (l := [r2.root, z44]) 5 _ (by rfl) (fun _ _ => rfl) (Nat.succ_pos _) (Nat.le_of_ble_eq_true (by rfl)) rfl ?_
    let i191_ : HObj := row 3 eInt (some ⟨b91, 0, none⟩) ([r2.root, z44].length) [r2.root, z44]
    let t192_ : List HObj := i191_ :: t190_
    refine T.reH (H' := ((row 28 eElem none 0 []) :: i186_ :: i173_ :: i170_ :: i171_ :: t192_)) (by rfl) ?_
    refine T.litrow (E := eSpot) (f := DSpot.cells) (l := [(DSpot.mk (DKey.mk z40 z41 z42) z43)]) 4 _ (by rfl) (fun _ _ => rfl) (Nat.succ_pos _) (Nat.le_of_ble_eq_true (by rfl)) rfl ?_
    let i193_ : HObj := row 43 eSpot (some ⟨b92, 0, none⟩) ([(DSpot.mk (DKey.mk z40 z41 z42) z43)].length) [(DSpot.mk (DKey.mk z40 z41 z42) z43)]
    refine T.reH (H' := ((row 28 eElem none 0 []) :: i186_ :: i173_ :: i170_ :: i193_ :: t192_)) (by rfl) ?_
    refine T.litrow (E := eInt) (f := (fun x => [vi x])) (l := [r84, r85]) 3 _ (by rfl) (fun _ _ => rfl) (Nat.succ_pos _) (Nat.le_of_ble_eq_true (by rfl)) rfl ?_
    refine T.reH (H' := ((row 28 eElem none 0 []) :: i186_ :: i173_ :: (row 3 eInt (some ⟨b93, 0, none⟩) ([r84, r85].length) [r84, r85]) :: i193_ :: t192_)) (by rfl) ?_
    refine T.pushN (ty := (TreeTy.mk 28 3 43)) (h := d270_) (n := (DNode.mk 2 [] [r2.root, z44] [(DSpot.mk (DKey.mk z40 z41 z42) z43)] [r84, r85])) (X := (i186_ :: i173_ :: i187_ :: i188_ :: t6_)) (pc1 (pt sw3 (pt sw2 (pt sw1 (pt sw0 (pc1 (pt sw2 (pt sw1 (pt sw0 (pc1 (pt sw1 (pt sw0 (pc1 (pt sw3 (pt sw2 (pt sw1 (pt sw0 pz))))))))))))))))) ⟨rfl, rfl, rfl, rfl, rfl⟩ ?_
    refine T.reH (H' := ((treeo (TreeTy.mk 28 3 43) (hs16 ++ [d270_]) (z39 ++ [(Sum.inr (DNode.mk 2 [] [r2.root, z44] [(DSpot.mk (DKey.mk z40 z41 z42) z43)] [r84, r85]) : Int ⊕ DNode)])) :: i186_ :: i173_ :: i187_ :: i188_ :: t6_)) (by rfl) ?_
    refine T.seq ?_
    refine T.tree 0 (by rfl) (fun ht35 => ?_)
    refine T.region (T.p4 (pB b4 0) (pB b4 0) (pB b4 0) (pB b4 1) (fun _ => by kernel_rfl) (T.look (.slice A199 ((hs16 ++ [d270_]).length) c204) (by kernel_rfl) (ld1 3 rfl rfl (fun _ => by kernel_rfl) (by rfl) rfl) ?_))
    refine T.look (vi ((z39 ++ [(Sum.inr (DNode.mk 2 [] [r2.root, z44] [(DSpot.mk (DKey.mk z40 z41 z42) z43)] [r84, r85]) : Int ⊕ DNode)]).length : Int)) (by kernel_rfl) (fun w' hh => (by rw [← ht35.len]; kernel_rfl)) ?_
    refine T.p2 (vi (IntKind.i64.wrap (((z39 ++ [(Sum.inr (DNode.mk 2 [] [r2.root, z44] [(DSpot.mk (DKey.mk z40 z41 z42) z43)] [r84, r85]) : Int ⊕ DNode)]).length : Int) - 1))) (vi (IntKind.i64.wrap (((z39 ++ [(Sum.inr (DNode.mk 2 [] [r2.root, z44] [(DSpot.mk (DKey.mk z40 z41 z42) z43)] [r84, r85]) : Int ⊕ DNode)]).length : Int) - 1))) (fun _ => by kernel_rfl) (T.nil ?_)
    cases hX18
    refine T.ret rfl ?_
    repeat first | refine T.unthen ?_ | refine T.unblock ?_
    exact T.ret1 rfl (ResIs.tmp rfl) fun w' hh => ⟨_, rfl, ⟨(z39 ++ [(Sum.inr (DNode.mk 2 [] [r2.root, z44] [(DSpot.mk (DKey.mk z40 z41 z42) z43)] [r84, r85]) : Int ⊕ DNode)]), (IntKind.i64.wrap (((z39 ++ [(Sum.inr (DNode.mk 2 [] [r2.root, z44] [(DSpot.mk (DKey.mk z40 z41 z42) z43)] [r84, r85]) : Int ⊕ DNode)]).length : Int) - 1)), rfl, (hs16 ++ [d270_]), A199, c204, rfl, ((hh.sub (kp1 (dr2 (kp3 (kp1 kp0))))).perm (pt sw0 (pc1 (pt sw0 pz))))⟩⟩
   rintro v w' ⟨z154, z155, rfl, hs21, A194, c199, rfl, hh⟩
   try dsimp only at hX1
   let i194_ : HObj := treeo (TreeTy.mk 28 3 43) hs21 z154
   refine ⟨V43, ((box b4 83 [vi r2.root, .slice A194 hs21.length c199]) :: (row 97 eHdr A194 c199 hs21) :: i194_ :: t6_), hh, ?_⟩
   clear hh
   refine TL.onW (by kernel_rfl) ?_
   refine TL.takeQ 28 (pB b4 0) rfl (by kernel_rfl) (by kernel_rfl) (by kernel_rfl) (fun _ _ _ h => h) (by kernel_rfl) (by kernel_rfl) (by kernel_rfl) (fun _ => by kernel_rfl) ?_
   refine TL.takeQ 29 (pB b4 0) rfl (by kernel_rfl) (by kernel_rfl) (by kernel_rfl) (fun _ _ _ h => h) (by kernel_rfl) (by kernel_rfl) (by kernel_rfl) (fun _ => by kernel_rfl) ?_
   refine TL.takeQ 30 (pB b4 0) rfl (by kernel_rfl) (by kernel_rfl) (by kernel_rfl) (fun _ _ _ h => h) (by kernel_rfl) (by kernel_rfl) (by kernel_rfl) (fun _ => by kernel_rfl) ?_
   refine TL.all [31] (by kernel_rfl) rfl ⟨?_, trivial⟩
   refine TL.br rfl (W1.st 0 [vi z155, .slice A194 hs21.length c199] ((box b4 83 [vi z155, .slice A194 hs21.length c199]) :: (row 97 eHdr A194 c199 hs21) :: i194_ :: t6_) [vi z155] (by rfl) rfl rfl rfl rfl rfl rfl (fun _ => by kernel_rfl) ?_)
   refine TL.onW (by kernel_rfl) ?_
   refine TL.done (by kernel_rfl) ?_
   cases hX1
   repeat first | refine T.unthen ?_ | refine T.unblock ?_
   exact T.end0 rfl fun w' hh => ⟨_, rfl, ⟨z155, z154, rfl, hs21, A194, c199, V43, (vt hV31 hV43), rfl, (hh.sub (kp4 (kp1 kp0)))⟩⟩
  refine TL.keep (Hp.old vr (vt hV1 hV31) (kp3 (dr1 (kp1 (kp1 kp0)))) (oB2 (oR1 (oB1 (oB1 ol0))))) fun o346_ => ?_
  refine TL.tv 0 (pB b4 0) rfl (fun _ => by kernel_rfl) (fun _ _ _ h => h) o346_ ?_
  refine TL.tv 1 (pB b4 0) rfl (fun _ => by kernel_rfl) (fun _ _ _ h => h) o346_ ?_
  refine TL.tv 2 (vi r2.root) rfl (fun _ => by kernel_rfl) (fun _ _ _ h => h) o346_ ?_
  refine TL.tv 3 (vi z44) rfl (fun _ => by kernel_rfl) (fun _ _ _ h => h) o346_ ?_
  refine TL.tk 5 (.agg #[vi z40, vi z41, vi z42, vi z43]) [26, 6] rfl (by kernel_rfl) (fun _ _ _ h => h) o346_ (ldN 0 rfl rfl (fun _ => by kernel_rfl) (by rfl) rfl) ?_
  refine TL.tv 7 (pB b4 0) rfl (fun _ => by kernel_rfl) (fun _ _ _ h => h) o346_ ?_
  refine TL.tv 8 (pB b4 0) rfl (fun _ => by kernel_rfl) (fun _ _ _ h => h) o346_ ?_
  refine TL.tv 9 (pB b4 0) rfl (fun _ => by kernel_rfl) (fun _ _ _ h => h) o346_ ?_
  refine TL.tv 10 (pB b4 1) rfl (fun _ => by kernel_rfl) (fun _ _ _ h => h) o346_ ?_
  refine TL.tk 11 (.slice A140 hs16.length c144) [24, 15, 14, 13] rfl (by kernel_rfl) (fun _ _ _ h => h) o346_ (ld1 1 rfl rfl (fun _ => by kernel_rfl) (by rfl) rfl) ?_
  refine TL.tv 12 (vi r2.root) rfl (fun _ => by kernel_rfl) (fun _ _ _ h => h) o346_ ?_
  obtain ⟨A186, c191, A187, c192, A188, c193, A189, c194, hi129, hi130, hx41⟩ := ht34.at_ hb167
  refine TL.tk 13 (.pointer (some ((sadr A140).add (r2.root.toNat * 5)))) [24, 15, 14] rfl (by kernel_rfl) (fun _ _ _ h => h) o346_ (ixR 2 (e := 97) (s := 5) rfl rfl rfl (fun _ => by kernel_rfl) hi129 hi130 (by rfl) hx41 (by decide)) ?_
  let a263_ : Value := .agg #[vi n41.kind, .slice A186 n41.elems.length c191, .slice A187 n41.kids.length c192, .slice A188 n41.seps.length c193, .slice A189 n41.tids.length c194]
  refine TL.tk 14 a263_ [24, 15] rfl (by kernel_rfl) (fun _ _ _ h => h) o346_ (fun w' hh => exec_loadN (cs := [vi n41.kind, .slice A186 n41.elems.length c191, .slice A187 n41.kids.length c192, .slice A188 n41.seps.length c193, .slice A189 n41.tids.length c194]) rfl rfl (by kernel_rfl) (by kernel_rfl) (fun j u hj => (SlOk.wcellF (E := eHdr) (hh.row_slOk (i := 2) (by rfl)) hx41 j (fun _ _ _ h => h) hj))) ?_
  refine TL.tv 16 (pB b4 0) rfl (fun _ => by kernel_rfl) (fun _ _ _ h => h) o346_ ?_
  refine TL.tv 17 (pB b4 0) rfl (fun _ => by kernel_rfl) (fun _ _ _ h => h) o346_ ?_
  refine TL.tv 18 (pB b4 0) rfl (fun _ => by kernel_rfl) (fun _ _ _ h => h) o346_ ?_
  refine TL.tv 19 (pB b4 1) rfl (fun _ => by kernel_rfl) (fun _ _ _ h => h) o346_ ?_
  refine TL.tk 20 (.slice A140 hs16.length c144) [24, 23, 22] rfl (by kernel_rfl) (fun _ _ _ h => h) o346_ (ld1 1 rfl rfl (fun _ => by kernel_rfl) (by rfl) rfl) ?_
  refine TL.tv 21 (vi z44) rfl (fun _ => by kernel_rfl) (fun _ _ _ h => h) o346_ ?_
  obtain ⟨A190, c195, A191, c196, A192, c197, A193, c198, hi131, hi132, hx42⟩ := ht34.at_ hb168
  refine TL.tk 22 (.pointer (some ((sadr A140).add (z44.toNat * 5)))) [24, 23] rfl (by kernel_rfl) (fun _ _ _ h => h) o346_ (ixR 2 (e := 97) (s := 5) rfl rfl rfl (fun _ => by kernel_rfl) hi131 hi132 (by rfl) hx42 (by decide)) ?_
  let a264_ : Value := .agg #[vi n42.kind, .slice A190 n42.elems.length c195, .slice A191 n42.kids.length c196, .slice A192 n42.seps.length c197, .slice A193 n42.tids.length c198]
  refine TL.tk 23 a264_ [24] rfl (by kernel_rfl) (fun _ _ _ h => h) o346_ (fun w' hh => exec_loadN (cs := [vi n42.kind, .slice A190 n42.elems.length c195, .slice A191 n42.kids.length c196, .slice A192 n42.seps.length c197, .slice A193 n42.tids.length c198]) rfl rfl (by kernel_rfl) (by kernel_rfl) (fun j u hj => (SlOk.wcellF (E := eHdr) (hh.row_slOk (i := 2) (by rfl)) hx42 j (fun _ _ _ h => h) hj))) ?_
  refine TL.all [4, 6, 15] (by kernel_rfl) rfl ⟨?_, ?_, ?_, trivial⟩
  ·
   refine TL.br rfl (W1.new 3 v240_ (fun b => .slice (some ⟨b, 0, none⟩) 2 2) (by kernel_rfl) (fun _ => by kernel_rfl) (fun b91 => ?_))
   refine TL.on (Hp.old vr (vt hV1 hV31) (dr1 (kp3 (dr1 (kp1 (kp1 kp0))))) (oB2 (oR1 (oB1 (oB1 ol0))))) ?_
   refine TL.all [6, 15] (by kernel_rfl) rfl ⟨?_, ?_, trivial⟩
   ·
    refine TL.br rfl (W1.ns 43 v238_ (fun _ => by kernel_rfl) (fun b92 => ?_))
    refine TL.on (Hp.old vr (vt hV1 hV31) (dr2 (kp3 (dr1 (kp1 (kp1 kp0))))) (oB2 (oR1 (oB1 (oB1 ol0))))) ?_
    refine TL.all [15] (by kernel_rfl) rfl ⟨?_, trivial⟩
    refine TL.br rfl (W1.call (vSc eInt) r84 60 #[a263_] (by kernel_rfl) (fun _ => by kernel_rfl) (fun w' hh => node_Greatest_l F n41 r84 hb169 w' A186 c191 (hh.lent (i := 5) (by rfl) hb167 hx41).1 A187 c192 (hh.lent (i := 5) (by rfl) hb167 hx41).2.1 A188 c193 (hh.lent (i := 5) (by rfl) hb167 hx41).2.2.1 A189 c194 (hh.lent (i := 5) (by rfl) hb167 hx41).2.2.2) ?_)
    intro u V41 hV41 hu
    obtain rfl := sureInt _ _ _ hu
    refine TL.on (Hp.old hV41 (vt hV1 hV31) (dr2 (kp3 (dr1 (kp1 (kp1 kp0))))) (oB2 (oR1 (oB1 (oB1 ol0))))) ?_
    refine TL.all [24] (by kernel_rfl) rfl ⟨?_, trivial⟩
    refine TL.br rfl (W1.call (vSc eInt) r85 60 #[a264_] (by kernel_rfl) (fun _ => by kernel_rfl) (fun w' hh => node_Greatest_l F n42 r85 hb170 w' A190 c195 (hh.lent (i := 5) (by rfl) hb168 hx42).1 A191 c196 (hh.lent (i := 5) (by rfl) hb168 hx42).2.1 A192 c197 (hh.lent (i := 5) (by rfl) hb168 hx42).2.2.1 A193 c198 (hh.lent (i := 5) (by rfl) hb168 hx42).2.2.2) ?_)
    intro u V42 hV42 hu
    obtain rfl := sureInt _ _ _ hu
    refine TL.on (Hp.old (vt hV41 hV42) (vt hV1 hV31) (dr2 (kp3 (dr1 (kp1 (kp1 kp0))))) (oB2 (oR1 (oB1 (oB1 ol0))))) ?_
    refine TL.all [25] (by kernel_rfl) rfl ⟨?_, trivial⟩
    refine TL.br rfl (W1.new 3 v239_ (fun b => .slice (some ⟨b, 0, none⟩) 2 2) (by kernel_rfl) (fun _ => by kernel_rfl) (fun b93 => ?_))
    refine TL.onk (Hp.old (vt hV41 hV42) (vt hV1 hV31) (dr3 (kp3 (dr1 (kp1 (kp1 kp0))))) (oB2 (oR1 (oB1 (oB1 ol0))))) fun o347_ => ?_
    refine TL.tv 26 (.agg #[vi 2, sN, .slice (some ⟨b91, 0, none⟩) 2 2, .slice (some ⟨b92, 0, none⟩) 1 1, .slice (some ⟨b93, 0, none⟩) 2 2]) rfl (fun _ => by kernel_rfl) (fun _ _ _ h => h) o347_ ?_
    exact TL.goto hD1 (by kernel_rfl) (fun a w' hf hh => ⟨b93, b92, b91, V42, (vt hV41 hV42), ((((Fr.nil hf).pick hf 53 rfl).pick hf 28 rfl).pick hf 27 rfl), (hh.sub (kp8 (kp1 kp0)))⟩)
   refine TL.br rfl (W1.call (vSc eInt) r84 60 #[a263_] (by kernel_rfl) (fun _ => by kernel_rfl) (fun w' hh => node_Greatest_l F n41 r84 hb169 w' A186 c191 (hh.lent (i := 4) (by rfl) hb167 hx41).1 A187 c192 (hh.lent (i := 4) (by rfl) hb167 hx41).2.1 A188 c193 (hh.lent (i := 4) (by rfl) hb167 hx41).2.2.1 A189 c194 (hh.lent (i := 4) (by rfl) hb167 hx41).2.2.2) ?_)
   intro u V41 hV41 hu
   obtain rfl := sureInt _ _ _ hu
   refine TL.on (Hp.old hV41 (vt hV1 hV31) (dr1 (kp3 (dr1 (kp1 (kp1 kp0))))) (oB2 (oR1 (oB1 (oB1 ol0))))) ?_
   refine TL.all [6, 24] (by kernel_rfl) rfl ⟨?_, ?_, trivial⟩
   ·
    refine TL.br rfl (W1.ns 43 v238_ (fun _ => by kernel_rfl) (fun b92 => ?_))
    refine TL.on (Hp.old hV41 (vt hV1 hV31) (dr2 (kp3 (dr1 (kp1 (kp1 kp0))))) (oB2 (oR1 (oB1 (oB1 ol0))))) ?_
    refine TL.all [24] (by kernel_rfl) rfl ⟨?_, trivial⟩
    refine TL.br rfl (W1.call (vSc eInt) r85 60 #[a264_] (by kernel_rfl) (fun _ => by kernel_rfl) (fun w' hh => node_Greatest_l F n42 r85 hb170 w' A190 c195 (hh.lent (i := 5) (by rfl) hb168 hx42).1 A191 c196 (hh.lent (i := 5) (by rfl) hb168 hx42).2.1 A192 c197 (hh.lent (i := 5) (by rfl) hb168 hx42).2.2.1 A193 c198 (hh.lent (i := 5) (by rfl) hb168 hx42).2.2.2) ?_)
    intro u V42 hV42 hu
    obtain rfl := sureInt _ _ _ hu
    refine TL.on (Hp.old (vt hV41 hV42) (vt hV1 hV31) (dr2 (kp3 (dr1 (kp1 (kp1 kp0))))) (oB2 (oR1 (oB1 (oB1 ol0))))) ?_
    refine TL.all [25] (by kernel_rfl) rfl ⟨?_, trivial⟩
    refine TL.br rfl (W1.new 3 v239_ (fun b => .slice (some ⟨b, 0, none⟩) 2 2) (by kernel_rfl) (fun _ => by kernel_rfl) (fun b93 => ?_))
    refine TL.onk (Hp.old (vt hV41 hV42) (vt hV1 hV31) (dr3 (kp3 (dr1 (kp1 (kp1 kp0))))) (oB2 (oR1 (oB1 (oB1 ol0))))) fun o348_ => ?_
    refine TL.tv 26 (.agg #[vi 2, sN, .slice (some ⟨b91, 0, none⟩) 2 2, .slice (some ⟨b92, 0, none⟩) 1 1, .slice (some ⟨b93, 0, none⟩) 2 2]) rfl (fun _ => by kernel_rfl) (fun _ _ _ h => h) o348_ ?_
    exact TL.goto hD1 (by kernel_rfl) (fun a w' hf hh => ⟨b93, b92, b91, V42, (vt hV41 hV42), ((((Fr.nil hf).pick hf 53 rfl).pick hf 28 rfl).pick hf 27 rfl), (hh.sub (kp8 (kp1 kp0)))⟩)
   refine TL.br rfl (W1.call (vSc eInt) r85 60 #[a264_] (by kernel_rfl) (fun _ => by kernel_rfl) (fun w' hh => node_Greatest_l F n42 r85 hb170 w' A190 c195 (hh.lent (i := 4) (by rfl) hb168 hx42).1 A191 c196 (hh.lent (i := 4) (by rfl) hb168 hx42).2.1 A192 c197 (hh.lent (i := 4) (by rfl) hb168 hx42).2.2.1 A193 c198 (hh.lent (i := 4) (by rfl) hb168 hx42).2.2.2) ?_)
   intro u V42 hV42 hu
   obtain rfl := sureInt _ _ _ hu
   refine TL.on (Hp.old (vt hV41 hV42) (vt hV1 hV31) (dr1 (kp3 (dr1 (kp1 (kp1 kp0))))) (oB2 (oR1 (oB1 (oB1 ol0))))) ?_
   refine TL.all [6, 25] (by kernel_rfl) rfl ⟨?_, ?_, trivial⟩
   ·
    refine TL.br rfl (W1.ns 43 v238_ (fun _ => by kernel_rfl) (fun b92 => ?_))
    refine TL.on (Hp.old (vt hV41 hV42) (vt hV1 hV31) (dr2 (kp3 (dr1 (kp1 (kp1 kp0))))) (oB2 (oR1 (oB1 (oB1 ol0))))) ?_
    refine TL.all [25] (by kernel_rfl) rfl ⟨?_, trivial⟩
    refine TL.br rfl (W1.new 3 v239_ (fun b => .slice (some ⟨b, 0, none⟩) 2 2) (by kernel_rfl) (fun _ => by kernel_rfl) (fun b93 => ?_))
    refine TL.onk (Hp.old (vt hV41 hV42) (vt hV1 hV31) (dr3 (kp3 (dr1 (kp1 (kp1 kp0))))) (oB2 (oR1 (oB1 (oB1 ol0))))) fun o349_ => ?_
    refine TL.tv 26 (.agg #[vi 2, sN, .slice (some ⟨b91, 0, none⟩) 2 2, .slice (some ⟨b92, 0, none⟩) 1 1, .slice (some ⟨b93, 0, none⟩) 2 2]) rfl (fun _ => by kernel_rfl) (fun _ _ _ h => h) o349_ ?_
    exact TL.goto hD1 (by kernel_rfl) (fun a w' hf hh => ⟨b93, b92, b91, V42, (vt hV41 hV42), ((((Fr.nil hf).pick hf 53 rfl).pick hf 28 rfl).pick hf 27 rfl), (hh.sub (kp8 (kp1 kp0)))⟩)
   refine TL.br rfl (W1.new 3 v239_ (fun b => .slice (some ⟨b, 0, none⟩) 2 2) (by kernel_rfl) (fun _ => by kernel_rfl) (fun b93 => ?_))
   refine TL.on (Hp.old (vt hV41 hV42) (vt hV1 hV31) (dr2 (kp3 (dr1 (kp1 (kp1 kp0))))) (oB2 (oR1 (oB1 (oB1 ol0))))) ?_
   refine TL.all [6] (by kernel_rfl) rfl ⟨?_, trivial⟩
   refine TL.br rfl (W1.ns 43 v238_ (fun _ => by kernel_rfl) (fun b92 => ?_))
   refine TL.onk (Hp.old (vt hV41 hV42) (vt hV1 hV31) (dr3 (kp3 (dr1 (kp1 (kp1 kp0))))) (oB2 (oR1 (oB1 (oB1 ol0))))) fun o350_ => ?_
   refine TL.tv 26 (.agg #[vi 2, sN, .slice (some ⟨b91, 0, none⟩) 2 2, .slice (some ⟨b92, 0, none⟩) 1 1, .slice (some ⟨b93, 0, none⟩) 2 2]) rfl (fun _ => by kernel_rfl) (fun _ _ _ h => h) o350_ ?_
   exact TL.goto hD1 (by kernel_rfl) (fun a w' hf hh => ⟨b93, b92, b91, V42, (vt hV41 hV42), ((((Fr.nil hf).pick hf 53 rfl).pick hf 28 rfl).pick hf 27 rfl), ((hh.sub (kp8 (kp1 kp0))).perm (pt sw0 pz))⟩)
  ·
   refine TL.br rfl (W1.ns 43 v238_ (fun _ => by kernel_rfl) (fun b92 => ?_))
   refine TL.on (Hp.old vr (vt hV1 hV31) (dr1 (kp3 (dr1 (kp1 (kp1 kp0))))) (oB2 (oR1 (oB1 (oB1 ol0))))) ?_
   refine TL.all [4, 15] (by kernel_rfl) rfl ⟨?_, ?_, trivial⟩
   ·
    refine TL.br rfl (W1.new 3 v240_ (fun b => .slice (some ⟨b, 0, none⟩) 2 2) (by kernel_rfl) (fun _ => by kernel_rfl) (fun b91 => ?_))
    refine TL.on (Hp.old vr (vt hV1 hV31) (dr2 (kp3 (dr1 (kp1 (kp1 kp0))))) (oB2 (oR1 (oB1 (oB1 ol0))))) ?_
    refine TL.all [15] (by kernel_rfl) rfl ⟨?_, trivial⟩
    refine TL.br rfl (W1.call (vSc eInt) r84 60 #[a263_] (by kernel_rfl) (fun _ => by kernel_rfl) (fun w' hh => node_Greatest_l F n41 r84 hb169 w' A186 c191 (hh.lent (i := 5) (by rfl) hb167 hx41).1 A187 c192 (hh.lent (i := 5) (by rfl) hb167 hx41).2.1 A188 c193 (hh.lent (i := 5) (by rfl) hb167 hx41).2.2.1 A189 c194 (hh.lent (i := 5) (by rfl) hb167 hx41).2.2.2) ?_)
    intro u V41 hV41 hu
    obtain rfl := sureInt _ _ _ hu
    refine TL.on (Hp.old hV41 (vt hV1 hV31) (dr2 (kp3 (dr1 (kp1 (kp1 kp0))))) (oB2 (oR1 (oB1 (oB1 ol0))))) ?_
    refine TL.all [24] (by kernel_rfl) rfl ⟨?_, trivial⟩
    refine TL.br rfl (W1.call (vSc eInt) r85 60 #[a264_] (by kernel_rfl) (fun _ => by kernel_rfl) (fun w' hh => node_Greatest_l F n42 r85 hb170 w' A190 c195 (hh.lent (i := 5) (by rfl) hb168 hx42).1 A191 c196 (hh.lent (i := 5) (by rfl) hb168 hx42).2.1 A192 c197 (hh.lent (i := 5) (by rfl) hb168 hx42).2.2.1 A193 c198 (hh.lent (i := 5) (by rfl) hb168 hx42).2.2.2) ?_)
    intro u V42 hV42 hu
    obtain rfl := sureInt _ _ _ hu
    refine TL.on (Hp.old (vt hV41 hV42) (vt hV1 hV31) (dr2 (kp3 (dr1 (kp1 (kp1 kp0))))) (oB2 (oR1 (oB1 (oB1 ol0))))) ?_
    refine TL.all [25] (by kernel_rfl) rfl ⟨?_, trivial⟩
    refine TL.br rfl (W1.new 3 v239_ (fun b => .slice (some ⟨b, 0, none⟩) 2 2) (by kernel_rfl) (fun _ => by kernel_rfl) (fun b93 => ?_))
    refine TL.onk (Hp.old (vt hV41 hV42) (vt hV1 hV31) (dr3 (kp3 (dr1 (kp1 (kp1 kp0))))) (oB2 (oR1 (oB1 (oB1 ol0))))) fun o351_ => ?_
    refine TL.tv 26 (.agg #[vi 2, sN, .slice (some ⟨b91, 0, none⟩) 2 2, .slice (some ⟨b92, 0, none⟩) 1 1, .slice (some ⟨b93, 0, none⟩) 2 2]) rfl (fun _ => by kernel_rfl) (fun _ _ _ h => h) o351_ ?_
    exact TL.goto hD1 (by kernel_rfl) (fun a w' hf hh => ⟨b93, b92, b91, V42, (vt hV41 hV42), ((((Fr.nil hf).pick hf 53 rfl).pick hf 28 rfl).pick hf 27 rfl), ((hh.sub (kp8 (kp1 kp0))).perm (pc1 (pt sw0 pz)))⟩)
   refine TL.br rfl (W1.call (vSc eInt) r84 60 #[a263_] (by kernel_rfl) (fun _ => by kernel_rfl) (fun w' hh => node_Greatest_l F n41 r84 hb169 w' A186 c191 (hh.lent (i := 4) (by rfl) hb167 hx41).1 A187 c192 (hh.lent (i := 4) (by rfl) hb167 hx41).2.1 A188 c193 (hh.lent (i := 4) (by rfl) hb167 hx41).2.2.1 A189 c194 (hh.lent (i := 4) (by rfl) hb167 hx41).2.2.2) ?_)
   intro u V41 hV41 hu
   obtain rfl := sureInt _ _ _ hu
   refine TL.on (Hp.old hV41 (vt hV1 hV31) (dr1 (kp3 (dr1 (kp1 (kp1 kp0))))) (oB2 (oR1 (oB1 (oB1 ol0))))) ?_
   refine TL.all [4, 24] (by kernel_rfl) rfl ⟨?_, ?_, trivial⟩
   ·
    refine TL.br rfl (W1.new 3 v240_ (fun b => .slice (some ⟨b, 0, none⟩) 2 2) (by kernel_rfl) (fun _ => by kernel_rfl) (fun b91 => ?_))
    refine TL.on (Hp.old hV41 (vt hV1 hV31) (dr2 (kp3 (dr1 (kp1 (kp1 kp0))))) (oB2 (oR1 (oB1 (oB1 ol0))))) ?_
    refine TL.all [24] (by kernel_rfl) rfl ⟨?_, trivial⟩
    refine TL.br rfl (W1.call (vSc eInt) r85 60 #[a264_] (by kernel_rfl) (fun _ => by kernel_rfl) (fun w' hh => node_Greatest_l F n42 r85 hb170 w' A190 c195 (hh.lent (i := 5) (by rfl) hb168 hx42).1 A191 c196 (hh.lent (i := 5) (by rfl) hb168 hx42).2.1 A192 c197 (hh.lent (i := 5) (by rfl) hb168 hx42).2.2.1 A193 c198 (hh.lent (i := 5) (by rfl) hb168 hx42).2.2.2) ?_)
    intro u V42 hV42 hu
    obtain rfl := sureInt _ _ _ hu
    refine TL.on (Hp.old (vt hV41 hV42) (vt hV1 hV31) (dr2 (kp3 (dr1 (kp1 (kp1 kp0))))) (oB2 (oR1 (oB1 (oB1 ol0))))) ?_
    refine TL.all [25] (by kernel_rfl) rfl ⟨?_, trivial⟩
    refine TL.br rfl (W1.new 3 v239_ (fun b => .slice (some ⟨b, 0, none⟩) 2 2) (by kernel_rfl) (fun _ => by kernel_rfl) (fun b93 => ?_))
    refine TL.onk (Hp.old (vt hV41 hV42) (vt hV1 hV31) (dr3 (kp3 (dr1 (kp1 (kp1 kp0))))) (oB2 (oR1 (oB1 (oB1 ol0))))) fun o352_ => ?_
    refine TL.tv 26 (.agg #[vi 2, sN, .slice (some ⟨b91, 0, none⟩) 2 2, .slice (some ⟨b92, 0, none⟩) 1 1, .slice (some ⟨b93, 0, none⟩) 2 2]) rfl (fun _ => by kernel_rfl) (fun _ _ _ h => h) o352_ ?_
    exact TL.goto hD1 (by kernel_rfl) (fun a w' hf hh => ⟨b93, b92, b91, V42, (vt hV41 hV42), ((((Fr.nil hf).pick hf 53 rfl).pick hf 28 rfl).pick hf 27 rfl), ((hh.sub (kp8 (kp1 kp0))).perm (pc1 (pt sw0 pz)))⟩)
   refine TL.br rfl (W1.call (vSc eInt) r85 60 #[a264_] (by kernel_rfl) (fun _ => by kernel_rfl) (fun w' hh => node_Greatest_l F n42 r85 hb170 w' A190 c195 (hh.lent (i := 4) (by rfl) hb168 hx42).1 A191 c196 (hh.lent (i := 4) (by rfl) hb168 hx42).2.1 A192 c197 (hh.lent (i := 4) (by rfl) hb168 hx42).2.2.1 A193 c198 (hh.lent (i := 4) (by rfl) hb168 hx42).2.2.2) ?_)
   intro u V42 hV42 hu
   obtain rfl := sureInt _ _ _ hu
   refine TL.on (Hp.old (vt hV41 hV42) (vt hV1 hV31) (dr1 (kp3 (dr1 (kp1 (kp1 kp0))))) (oB2 (oR1 (oB1 (oB1 ol0))))) ?_
   refine TL.all [4, 25] (by kernel_rfl) rfl ⟨?_, ?_, trivial⟩
   ·
    refine TL.br rfl (W1.new 3 v240_ (fun b => .slice (some ⟨b, 0, none⟩) 2 2) (by kernel_rfl) (fun _ => by kernel_rfl) (fun b91 => ?_))
    refine TL.on (Hp.old (vt hV41 hV42) (vt hV1 hV31) (dr2 (kp3 (dr1 (kp1 (kp1 kp0))))) (oB2 (oR1 (oB1 (oB1 ol0))))) ?_
    refine TL.all [25] (by kernel_rfl) rfl ⟨?_, trivial⟩
    refine TL.br rfl (W1.new 3 v239_ (fun b => .slice (some ⟨b, 0, none⟩) 2 2) (by kernel_rfl) (fun _ => by kernel_rfl) (fun b93 => ?_))
    refine TL.onk (Hp.old (vt hV41 hV42) (vt hV1 hV31) (dr3 (kp3 (dr1 (kp1 (kp1 kp0))))) (oB2 (oR1 (oB1 (oB1 ol0))))) fun o353_ => ?_
    refine TL.tv 26 (.agg #[vi 2, sN, .slice (some ⟨b91, 0, none⟩) 2 2, .slice (some ⟨b92, 0, none⟩) 1 1, .slice (some ⟨b93, 0, none⟩) 2 2]) rfl (fun _ => by kernel_rfl) (fun _ _ _ h => h) o353_ ?_
    exact TL.goto hD1 (by kernel_rfl) (fun a w' hf hh => ⟨b93, b92, b91, V42, (vt hV41 hV42), ((((Fr.nil hf).pick hf 53 rfl).pick hf 28 rfl).pick hf 27 rfl), ((hh.sub (kp8 (kp1 kp0))).perm (pc1 (pt sw0 pz)))⟩)
   refine TL.br rfl (W1.new 3 v239_ (fun b => .slice (some ⟨b, 0, none⟩) 2 2) (by kernel_rfl) (fun _ => by kernel_rfl) (fun b93 => ?_))
   refine TL.on (Hp.old (vt hV41 hV42) (vt hV1 hV31) (dr2 (kp3 (dr1 (kp1 (kp1 kp0))))) (oB2 (oR1 (oB1 (oB1 ol0))))) ?_
   refine TL.all [4] (by kernel_rfl) rfl ⟨?_, trivial⟩
   refine TL.br rfl (W1.new 3 v240_ (fun b => .slice (some ⟨b, 0, none⟩) 2 2) (by kernel_rfl) (fun _ => by kernel_rfl) (fun b91 => ?_))
   refine TL.onk (Hp.old (vt hV41 hV42) (vt hV1 hV31) (dr3 (kp3 (dr1 (kp1 (kp1 kp0))))) (oB2 (oR1 (oB1 (oB1 ol0))))) fun o354_ => ?_
   refine TL.tv 26 (.agg #[vi 2, sN, .slice (some ⟨b91, 0, none⟩) 2 2, .slice (some ⟨b92, 0, none⟩) 1 1, .slice (some ⟨b93, 0, none⟩) 2 2]) rfl (fun _ => by kernel_rfl) (fun _ _ _ h => h) o354_ ?_
   exact TL.goto hD1 (by kernel_rfl) (fun a w' hf hh => ⟨b93, b92, b91, V42, (vt hV41 hV42), ((((Fr.nil hf).pick hf 53 rfl).pick hf 28 rfl).pick hf 27 rfl), ((hh.sub (kp8 (kp1 kp0))).perm (pt sw0 (pc1 (pt sw0 pz))))⟩)
  refine TL.br rfl (W1.call (vSc eInt) r84 60 #[a263_] (by kernel_rfl) (fun _ => by kernel_rfl) (fun w' hh => node_Greatest_l F n41 r84 hb169 w' A186 c191 (hh.lent (i := 3) (by rfl) hb167 hx41).1 A187 c192 (hh.lent (i := 3) (by rfl) hb167 hx41).2.1 A188 c193 (hh.lent (i := 3) (by rfl) hb167 hx41).2.2.1 A189 c194 (hh.lent (i := 3) (by rfl) hb167 hx41).2.2.2) ?_)
  intro u V41 hV41 hu
  obtain rfl := sureInt _ _ _ hu
  refine TL.on (Hp.old hV41 (vt hV1 hV31) (kp3 (dr1 (kp1 (kp1 kp0)))) (oB2 (oR1 (oB1 (oB1 ol0))))) ?_
  refine TL.all [4, 6, 24] (by kernel_rfl) rfl ⟨?_, ?_, ?_, trivial⟩
  ·
   refine TL.br rfl (W1.new 3 v240_ (fun b => .slice (some ⟨b, 0, none⟩) 2 2) (by kernel_rfl) (fun _ => by kernel_rfl) (fun b91 => ?_))
   refine TL.on (Hp.old hV41 (vt hV1 hV31) (dr1 (kp3 (dr1 (kp1 (kp1 kp0))))) (oB2 (oR1 (oB1 (oB1 ol0))))) ?_
   refine TL.all [6, 24] (by kernel_rfl) rfl ⟨?_, ?_, trivial⟩
   ·
    refine TL.br rfl (W1.ns 43 v238_ (fun _ => by kernel_rfl) (fun b92 => ?_))
    refine TL.on (Hp.old hV41 (vt hV1 hV31) (dr2 (kp3 (dr1 (kp1 (kp1 kp0))))) (oB2 (oR1 (oB1 (oB1 ol0))))) ?_
    refine TL.all [24] (by kernel_rfl) rfl ⟨?_, trivial⟩
    refine TL.br rfl (W1.call (vSc eInt) r85 60 #[a264_] (by kernel_rfl) (fun _ => by kernel_rfl) (fun w' hh => node_Greatest_l F n42 r85 hb170 w' A190 c195 (hh.lent (i := 5) (by rfl) hb168 hx42).1 A191 c196 (hh.lent (i := 5) (by rfl) hb168 hx42).2.1 A192 c197 (hh.lent (i := 5) (by rfl) hb168 hx42).2.2.1 A193 c198 (hh.lent (i := 5) (by rfl) hb168 hx42).2.2.2) ?_)
    intro u V42 hV42 hu
    obtain rfl := sureInt _ _ _ hu
    refine TL.on (Hp.old (vt hV41 hV42) (vt hV1 hV31) (dr2 (kp3 (dr1 (kp1 (kp1 kp0))))) (oB2 (oR1 (oB1 (oB1 ol0))))) ?_
    refine TL.all [25] (by kernel_rfl) rfl ⟨?_, trivial⟩
    refine TL.br rfl (W1.new 3 v239_ (fun b => .slice (some ⟨b, 0, none⟩) 2 2) (by kernel_rfl) (fun _ => by kernel_rfl) (fun b93 => ?_))
    refine TL.onk (Hp.old (vt hV41 hV42) (vt hV1 hV31) (dr3 (kp3 (dr1 (kp1 (kp1 kp0))))) (oB2 (oR1 (oB1 (oB1 ol0))))) fun o355_ => ?_
    refine TL.tv 26 (.agg #[vi 2, sN, .slice (some ⟨b91, 0, none⟩) 2 2, .slice (some ⟨b92, 0, none⟩) 1 1, .slice (some ⟨b93, 0, none⟩) 2 2]) rfl (fun _ => by kernel_rfl) (fun _ _ _ h => h) o355_ ?_
    exact TL.goto hD1 (by kernel_rfl) (fun a w' hf hh => ⟨b93, b92, b91, V42, (vt hV41 hV42), ((((Fr.nil hf).pick hf 53 rfl).pick hf 28 rfl).pick hf 27 rfl), (hh.sub (kp8 (kp1 kp0)))⟩)
   refine TL.br rfl (W1.call (vSc eInt) r85 60 #[a264_] (by kernel_rfl) (fun _ => by kernel_rfl) (fun w' hh => node_Greatest_l F n42 r85 hb170 w' A190 c195 (hh.lent (i := 4) (by rfl) hb168 hx42).1 A191 c196 (hh.lent (i := 4) (by rfl) hb168 hx42).2.1 A192 c197 (hh.lent (i := 4) (by rfl) hb168 hx42).2.2.1 A193 c198 (hh.lent (i := 4) (by rfl) hb168 hx42).2.2.2) ?_)
   intro u V42 hV42 hu
   obtain rfl := sureInt _ _ _ hu
   refine TL.on (Hp.old (vt hV41 hV42) (vt hV1 hV31) (dr1 (kp3 (dr1 (kp1 (kp1 kp0))))) (oB2 (oR1 (oB1 (oB1 ol0))))) ?_
   refine TL.all [6, 25] (by kernel_rfl) rfl ⟨?_, ?_, trivial⟩
   ·
    refine TL.br rfl (W1.ns 43 v238_ (fun _ => by kernel_rfl) (fun b92 => ?_))
    refine TL.on (Hp.old (vt hV41 hV42) (vt hV1 hV31) (dr2 (kp3 (dr1 (kp1 (kp1 kp0))))) (oB2 (oR1 (oB1 (oB1 ol0))))) ?_
    refine TL.all [25] (by kernel_rfl) rfl ⟨?_, trivial⟩
    refine TL.br rfl (W1.new 3 v239_ (fun b => .slice (some ⟨b, 0, none⟩) 2 2) (by kernel_rfl) (fun _ => by kernel_rfl) (fun b93 => ?_))
    refine TL.onk (Hp.old (vt hV41 hV42) (vt hV1 hV31) (dr3 (kp3 (dr1 (kp1 (kp1 kp0))))) (oB2 (oR1 (oB1 (oB1 ol0))))) fun o356_ => ?_
    refine TL.tv 26 (.agg #[vi 2, sN, .slice (some ⟨b91, 0, none⟩) 2 2, .slice (some ⟨b92, 0, none⟩) 1 1, .slice (some ⟨b93, 0, none⟩) 2 2]) rfl (fun _ => by kernel_rfl) (fun _ _ _ h => h) o356_ ?_
    exact TL.goto hD1 (by kernel_rfl) (fun a w' hf hh => ⟨b93, b92, b91, V42, (vt hV41 hV42), ((((Fr.nil hf).pick hf 53 rfl).pick hf 28 rfl).pick hf 27 rfl), (hh.sub (kp8 (kp1 kp0)))⟩)
   refine TL.br rfl (W1.new 3 v239_ (fun b => .slice (some ⟨b, 0, none⟩) 2 2) (by kernel_rfl) (fun _ => by kernel_rfl) (fun b93 => ?_))
   refine TL.on (Hp.old (vt hV41 hV42) (vt hV1 hV31) (dr2 (kp3 (dr1 (kp1 (kp1 kp0))))) (oB2 (oR1 (oB1 (oB1 ol0))))) ?_
   refine TL.all [6] (by kernel_rfl) rfl ⟨?_, trivial⟩
   refine TL.br rfl (W1.ns 43 v238_ (fun _ => by kernel_rfl) (fun b92 => ?_))
   refine TL.onk (Hp.old (vt hV41 hV42) (vt hV1 hV31) (dr3 (kp3 (dr1 (kp1 (kp1 kp0))))) (oB2 (oR1 (oB1 (oB1 ol0))))) fun o357_ => ?_
   refine TL.tv 26 (.agg #[vi 2, sN, .slice (some ⟨b91, 0, none⟩) 2 2, .slice (some ⟨b92, 0, none⟩) 1 1, .slice (some ⟨b93, 0, none⟩) 2 2]) rfl (fun _ => by kernel_rfl) (fun _ _ _ h => h) o357_ ?_
   exact TL.goto hD1 (by kernel_rfl) (fun a w' hf hh => ⟨b93, b92, b91, V42, (vt hV41 hV42), ((((Fr.nil hf).pick hf 53 rfl).pick hf 28 rfl).pick hf 27 rfl), ((hh.sub (kp8 (kp1 kp0))).perm (pt sw0 pz))⟩)
  ·
   refine TL.br rfl (W1.ns 43 v238_ (fun _ => by kernel_rfl) (fun b92 => ?_))
   refine TL.on (Hp.old hV41 (vt hV1 hV31) (dr1 (kp3 (dr1 (kp1 (kp1 kp0))))) (oB2 (oR1 (oB1 (oB1 ol0))))) ?_
   refine TL.all [4, 24] (by kernel_rfl) rfl ⟨?_, ?_, trivial⟩
   ·
    refine TL.br rfl (W1.new 3 v240_ (fun b => .slice (some ⟨b, 0, none⟩) 2 2) (by kernel_rfl) (fun _ => by kernel_rfl) (fun b91 => ?_))
    refine TL.on (Hp.old hV41 (vt hV1 hV31) (dr2 (kp3 (dr1 (kp1 (kp1 kp0))))) (oB2 (oR1 (oB1 (oB1 ol0))))) ?_
    refine TL.all [24] (by kernel_rfl) rfl ⟨?_, trivial⟩
    refine TL.br rfl (W1.call (vSc eInt) r85 60 #[a264_] (by kernel_rfl) (fun _ => by kernel_rfl) (fun w' hh => node_Greatest_l F n42 r85 hb170 w' A190 c195 (hh.lent (i := 5) (by rfl) hb168 hx42).1 A191 c196 (hh.lent (i := 5) (by rfl) hb168 hx42).2.1 A192 c197 (hh.lent (i := 5) (by rfl) hb168 hx42).2.2.1 A193 c198 (hh.lent (i := 5) (by rfl) hb168 hx42).2.2.2) ?_)
    intro u V42 hV42 hu
    obtain rfl := sureInt _ _ _ hu
    refine TL.on (Hp.old (vt hV41 hV42) (vt hV1 hV31) (dr2 (kp3 (dr1 (kp1 (kp1 kp0))))) (oB2 (oR1 (oB1 (oB1 ol0))))) ?_
    refine TL.all [25] (by kernel_rfl) rfl ⟨?_, trivial⟩
    refine TL.br rfl (W1.new 3 v239_ (fun b => .slice (some ⟨b, 0, none⟩) 2 2) (by kernel_rfl) (fun _ => by kernel_rfl) (fun b93 => ?_))
    refine TL.onk (Hp.old (vt hV41 hV42) (vt hV1 hV31) (dr3 (kp3 (dr1 (kp1 (kp1 kp0))))) (oB2 (oR1 (oB1 (oB1 ol0))))) fun o358_ => ?_
    refine TL.tv 26 (.agg #[vi 2, sN, .slice (some ⟨b91, 0, none⟩) 2 2, .slice (some ⟨b92, 0, none⟩) 1 1, .slice (some ⟨b93, 0, none⟩) 2 2]) rfl (fun _ => by kernel_rfl) (fun _ _ _ h => h) o358_ ?_
    exact TL.goto hD1 (by kernel_rfl) (fun a w' hf hh => ⟨b93, b92, b91, V42, (vt hV41 hV42), ((((Fr.nil hf).pick hf 53 rfl).pick hf 28 rfl).pick hf 27 rfl), ((hh.sub (kp8 (kp1 kp0))).perm (pc1 (pt sw0 pz)))⟩)
   refine TL.br rfl (W1.call (vSc eInt) r85 60 #[a264_] (by kernel_rfl) (fun _ => by kernel_rfl) (fun w' hh => node_Greatest_l F n42 r85 hb170 w' A190 c195 (hh.lent (i := 4) (by rfl) hb168 hx42).1 A191 c196 (hh.lent (i := 4) (by rfl) hb168 hx42).2.1 A192 c197 (hh.lent (i := 4) (by rfl) hb168 hx42).2.2.1 A193 c198 (hh.lent (i := 4) (by rfl) hb168 hx42).2.2.2) ?_)
   intro u V42 hV42 hu
   obtain rfl := sureInt _ _ _ hu
   refine TL.on (Hp.old (vt hV41 hV42) (vt hV1 hV31) (dr1 (kp3 (dr1 (kp1 (kp1 kp0))))) (oB2 (oR1 (oB1 (oB1 ol0))))) ?_
   refine TL.all [4, 25] (by kernel_rfl) rfl ⟨?_, ?_, trivial⟩
   ·
    refine TL.br rfl (W1.new 3 v240_ (fun b => .slice (some ⟨b, 0, none⟩) 2 2) (by kernel_rfl) (fun _ => by kernel_rfl) (fun b91 => ?_))
    refine TL.on (Hp.old (vt hV41 hV42) (vt hV1 hV31) (dr2 (kp3 (dr1 (kp1 (kp1 kp0))))) (oB2 (oR1 (oB1 (oB1 ol0))))) ?_
    refine TL.all [25] (by kernel_rfl) rfl ⟨?_, trivial⟩
    refine TL.br rfl (W1.new 3 v239_ (fun b => .slice (some ⟨b, 0, none⟩) 2 2) (by kernel_rfl) (fun _ => by kernel_rfl) (fun b93 => ?_))
    refine TL.onk (Hp.old (vt hV41 hV42) (vt hV1 hV31) (dr3 (kp3 (dr1 (kp1 (kp1 kp0))))) (oB2 (oR1 (oB1 (oB1 ol0))))) fun o359_ => ?_
    refine TL.tv 26 (.agg #[vi 2, sN, .slice (some ⟨b91, 0, none⟩) 2 2, .slice (some ⟨b92, 0, none⟩) 1 1, .slice (some ⟨b93, 0, none⟩) 2 2]) rfl (fun _ => by kernel_rfl) (fun _ _ _ h => h) o359_ ?_
    exact TL.goto hD1 (by kernel_rfl) (fun a w' hf hh => ⟨b93, b92, b91, V42, (vt hV41 hV42), ((((Fr.nil hf).pick hf 53 rfl).pick hf 28 rfl).pick hf 27 rfl), ((hh.sub (kp8 (kp1 kp0))).perm (pc1 (pt sw0 pz)))⟩)
   refine TL.br rfl (W1.new 3 v239_ (fun b => .slice (some ⟨b, 0, none⟩) 2 2) (by kernel_rfl) (fun _ => by kernel_rfl) (fun b93 => ?_))
   refine TL.on (Hp.old (vt hV41 hV42) (vt hV1 hV31) (dr2 (kp3 (dr1 (kp1 (kp1 kp0))))) (oB2 (oR1 (oB1 (oB1 ol0))))) ?_
   refine TL.all [4] (by kernel_rfl) rfl ⟨?_, trivial⟩
   refine TL.br rfl (W1.new 3 v240_ (fun b => .slice (some ⟨b, 0, none⟩) 2 2) (by kernel_rfl) (fun _ => by kernel_rfl) (fun b91 => ?_))
   refine TL.onk (Hp.old (vt hV41 hV42) (vt hV1 hV31) (dr3 (kp3 (dr1 (kp1 (kp1 kp0))))) (oB2 (oR1 (oB1 (oB1 ol0))))) fun o360_ => ?_
   refine TL.tv 26 (.agg #[vi 2, sN, .slice (some ⟨b91, 0, none⟩) 2 2, .slice (some ⟨b92, 0, none⟩) 1 1, .slice (some ⟨b93, 0, none⟩) 2 2]) rfl (fun _ => by kernel_rfl) (fun _ _ _ h => h) o360_ ?_
   exact TL.goto hD1 (by kernel_rfl) (fun a w' hf hh => ⟨b93, b92, b91, V42, (vt hV41 hV42), ((((Fr.nil hf).pick hf 53 rfl).pick hf 28 rfl).pick hf 27 rfl), ((hh.sub (kp8 (kp1 kp0))).perm (pt sw0 (pc1 (pt sw0 pz))))⟩)
  refine TL.br rfl (W1.call (vSc eInt) r85 60 #[a264_] (by kernel_rfl) (fun _ => by kernel_rfl) (fun w' hh => node_Greatest_l F n42 r85 hb170 w' A190 c195 (hh.lent (i := 3) (by rfl) hb168 hx42).1 A191 c196 (hh.lent (i := 3) (by rfl) hb168 hx42).2.1 A192 c197 (hh.lent (i := 3) (by rfl) hb168 hx42).2.2.1 A193 c198 (hh.lent (i := 3) (by rfl) hb168 hx42).2.2.2) ?_)
  intro u V42 hV42 hu
  obtain rfl := sureInt _ _ _ hu
  refine TL.on (Hp.old (vt hV41 hV42) (vt hV1 hV31) (kp3 (dr1 (kp1 (kp1 kp0)))) (oB2 (oR1 (oB1 (oB1 ol0))))) ?_
  refine TL.all [4, 6, 25] (by kernel_rfl) rfl ⟨?_, ?_, ?_, trivial⟩
  ·
   refine TL.br rfl (W1.new 3 v240_ (fun b => .slice (some ⟨b, 0, none⟩) 2 2) (by kernel_rfl) (fun _ => by kernel_rfl) (fun b91 => ?_))
   refine TL.on (Hp.old (vt hV41 hV42) (vt hV1 hV31) (dr1 (kp3 (dr1 (kp1 (kp1 kp0))))) (oB2 (oR1 (oB1 (oB1 ol0))))) ?_
   refine TL.all [6, 25] (by kernel_rfl) rfl ⟨?_, ?_, trivial⟩
   ·
    refine TL.br rfl (W1.ns 43 v238_ (fun _ => by kernel_rfl) (fun b92 => ?_))
    refine TL.on (Hp.old (vt hV41 hV42) (vt hV1 hV31) (dr2 (kp3 (dr1 (kp1 (kp1 kp0))))) (oB2 (oR1 (oB1 (oB1 ol0))))) ?_
    refine TL.all [25] (by kernel_rfl) rfl ⟨?_, trivial⟩
    refine TL.br rfl (W1.new 3 v239_ (fun b => .slice (some ⟨b, 0, none⟩) 2 2) (by kernel_rfl) (fun _ => by kernel_rfl) (fun b93 => ?_))
    refine TL.onk (Hp.old (vt hV41 hV42) (vt hV1 hV31) (dr3 (kp3 (dr1 (kp1 (kp1 kp0))))) (oB2 (oR1 (oB1 (oB1 ol0))))) fun o361_ => ?_
    refine TL.tv 26 (.agg #[vi 2, sN, .slice (some ⟨b91, 0, none⟩) 2 2, .slice (some ⟨b92, 0, none⟩) 1 1, .slice (some ⟨b93, 0, none⟩) 2 2]) rfl (fun _ => by kernel_rfl) (fun _ _ _ h => h) o361_ ?_
    exact TL.goto hD1 (by kernel_rfl) (fun a w' hf hh => ⟨b93, b92, b91, V42, (vt hV41 hV42), ((((Fr.nil hf).pick hf 53 rfl).pick hf 28 rfl).pick hf 27 rfl), (hh.sub (kp8 (kp1 kp0)))⟩)
   refine TL.br rfl (W1.new 3 v239_ (fun b => .slice (some ⟨b, 0, none⟩) 2 2) (by kernel_rfl) (fun _ => by kernel_rfl) (fun b93 => ?_))
   refine TL.on (Hp.old (vt hV41 hV42) (vt hV1 hV31) (dr2 (kp3 (dr1 (kp1 (kp1 kp0))))) (oB2 (oR1 (oB1 (oB1 ol0))))) ?_
   refine TL.all [6] (by kernel_rfl) rfl ⟨?_, trivial⟩
   refine TL.br rfl (W1.ns 43 v238_ (fun _ => by kernel_rfl) (fun b92 => ?_))
   refine TL.onk (Hp.old (vt hV41 hV42) (vt hV1 hV31) (dr3 (kp3 (dr1 (kp1 (kp1 kp0))))) (oB2 (oR1 (oB1 (oB1 ol0))))) fun o362_ => ?_
   refine TL.tv 26 (.agg #[vi 2, sN, .slice (some ⟨b91, 0, none⟩) 2 2, .slice (some ⟨b92, 0, none⟩) 1 1, .slice (some ⟨b93, 0, none⟩) 2 2]) rfl (fun _ => by kernel_rfl) (fun _ _ _ h => h) o362_ ?_
   exact TL.goto hD1 (by kernel_rfl) (fun a w' hf hh => ⟨b93, b92, b91, V42, (vt hV41 hV42), ((((Fr.nil hf).pick hf 53 rfl).pick hf 28 rfl).pick hf 27 rfl), ((hh.sub (kp8 (kp1 kp0))).perm (pt sw0 pz))⟩)
  ·
   refine TL.br rfl (W1.ns 43 v238_ (fun _ => by kernel_rfl) (fun b92 => ?_))
   refine TL.on (Hp.old (vt hV41 hV42) (vt hV1 hV31) (dr1 (kp3 (dr1 (kp1 (kp1 kp0))))) (oB2 (oR1 (oB1 (oB1 ol0))))) ?_
   refine TL.all [4, 25] (by kernel_rfl) rfl ⟨?_, ?_, trivial⟩
   ·
    refine TL.br rfl (W1.new 3 v240_ (fun b => .slice (some ⟨b, 0, none⟩) 2 2) (by kernel_rfl) (fun _ => by kernel_rfl) (fun b91 => ?_))
    refine TL.on (Hp.old (vt hV41 hV42) (vt hV1 hV31) (dr2 (kp3 (dr1 (kp1 (kp1 kp0))))) (oB2 (oR1 (oB1 (oB1 ol0))))) ?_
    refine TL.all [25] (by kernel_rfl) rfl ⟨?_, trivial⟩
    refine TL.br rfl (W1.new 3 v239_ (fun b => .slice (some ⟨b, 0, none⟩) 2 2) (by kernel_rfl) (fun _ => by kernel_rfl) (fun b93 => ?_))
    refine TL.onk (Hp.old (vt hV41 hV42) (vt hV1 hV31) (dr3 (kp3 (dr1 (kp1 (kp1 kp0))))) (oB2 (oR1 (oB1 (oB1 ol0))))) fun o363_ => ?_
    refine TL.tv 26 (.agg #[vi 2, sN, .slice (some ⟨b91, 0, none⟩) 2 2, .slice (some ⟨b92, 0, none⟩) 1 1, .slice (some ⟨b93, 0, none⟩) 2 2]) rfl (fun _ => by kernel_rfl) (fun _ _ _ h => h) o363_ ?_
    exact TL.goto hD1 (by kernel_rfl) (fun a w' hf hh => ⟨b93, b92, b91, V42, (vt hV41 hV42), ((((Fr.nil hf).pick hf 53 rfl).pick hf 28 rfl).pick hf 27 rfl), ((hh.sub (kp8 (kp1 kp0))).perm (pc1 (pt sw0 pz)))⟩)
   refine TL.br rfl (W1.new 3 v239_ (fun b => .slice (some ⟨b, 0, none⟩) 2 2) (by kernel_rfl) (fun _ => by kernel_rfl) (fun b93 => ?_))
   refine TL.on (Hp.old (vt hV41 hV42) (vt hV1 hV31) (dr2 (kp3 (dr1 (kp1 (kp1 kp0))))) (oB2 (oR1 (oB1 (oB1 ol0))))) ?_
   refine TL.all [4] (by kernel_rfl) rfl ⟨?_, trivial⟩
   refine TL.br rfl (W1.new 3 v240_ (fun b => .slice (some ⟨b, 0, none⟩) 2 2) (by kernel_rfl) (fun _ => by kernel_rfl) (fun b91 => ?_))
   refine TL.onk (Hp.old (vt hV41 hV42) (vt hV1 hV31) (dr3 (kp3 (dr1 (kp1 (kp1 kp0))))) (oB2 (oR1 (oB1 (oB1 ol0))))) fun o364_ => ?_
   refine TL.tv 26 (.agg #[vi 2, sN, .slice (some ⟨b91, 0, none⟩) 2 2, .slice (some ⟨b92, 0, none⟩) 1 1, .slice (some ⟨b93, 0, none⟩) 2 2]) rfl (fun _ => by kernel_rfl) (fun _ _ _ h => h) o364_ ?_
   exact TL.goto hD1 (by kernel_rfl) (fun a w' hf hh => ⟨b93, b92, b91, V42, (vt hV41 hV42), ((((Fr.nil hf).pick hf 53 rfl).pick hf 28 rfl).pick hf 27 rfl), ((hh.sub (kp8 (kp1 kp0))).perm (pt sw0 (pc1 (pt sw0 pz))))⟩)
  refine TL.br rfl (W1.new 3 v239_ (fun b => .slice (some ⟨b, 0, none⟩) 2 2) (by kernel_rfl) (fun _ => by kernel_rfl) (fun b93 => ?_))
  refine TL.on (Hp.old (vt hV41 hV42) (vt hV1 hV31) (dr1 (kp3 (dr1 (kp1 (kp1 kp0))))) (oB2 (oR1 (oB1 (oB1 ol0))))) ?_
  refine TL.all [4, 6] (by kernel_rfl) rfl ⟨?_, ?_, trivial⟩
  ·
   refine TL.br rfl (W1.new 3 v240_ (fun b => .slice (some ⟨b, 0, none⟩) 2 2) (by kernel_rfl) (fun _ => by kernel_rfl) (fun b91 => ?_))
   refine TL.on (Hp.old (vt hV41 hV42) (vt hV1 hV31) (dr2 (kp3 (dr1 (kp1 (kp1 kp0))))) (oB2 (oR1 (oB1 (oB1 ol0))))) ?_
   refine TL.all [6] (by kernel_rfl) rfl ⟨?_, trivial⟩
   refine TL.br rfl (W1.ns 43 v238_ (fun _ => by kernel_rfl) (fun b92 => ?_))
   refine TL.onk (Hp.old (vt hV41 hV42) (vt hV1 hV31) (dr3 (kp3 (dr1 (kp1 (kp1 kp0))))) (oB2 (oR1 (oB1 (oB1 ol0))))) fun o365_ => ?_
   refine TL.tv 26 (.agg #[vi 2, sN, .slice (some ⟨b91, 0, none⟩) 2 2, .slice (some ⟨b92, 0, none⟩) 1 1, .slice (some ⟨b93, 0, none⟩) 2 2]) rfl (fun _ => by kernel_rfl) (fun _ _ _ h => h) o365_ ?_
   exact TL.goto hD1 (by kernel_rfl) (fun a w' hf hh => ⟨b93, b92, b91, V42, (vt hV41 hV42), ((((Fr.nil hf).pick hf 53 rfl).pick hf 28 rfl).pick hf 27 rfl), ((hh.sub (kp8 (kp1 kp0))).perm (pt sw1 (pt sw0 pz)))⟩)
  refine TL.br rfl (W1.ns 43 v238_ (fun _ => by kernel_rfl) (fun b92 => ?_))
  refine TL.on (Hp.old (vt hV41 hV42) (vt hV1 hV31) (dr2 (kp3 (dr1 (kp1 (kp1 kp0))))) (oB2 (oR1 (oB1 (oB1 ol0))))) ?_
  refine TL.all [4] (by kernel_rfl) rfl ⟨?_, trivial⟩
  refine TL.br rfl (W1.new 3 v240_ (fun b => .slice (some ⟨b, 0, none⟩) 2 2) (by kernel_rfl) (fun _ => by kernel_rfl) (fun b91 => ?_))
  refine TL.onk (Hp.old (vt hV41 hV42) (vt hV1 hV31) (dr3 (kp3 (dr1 (kp1 (kp1 kp0))))) (oB2 (oR1 (oB1 (oB1 ol0))))) fun o366_ => ?_
  refine TL.tv 26 (.agg #[vi 2, sN, .slice (some ⟨b91, 0, none⟩) 2 2, .slice (some ⟨b92, 0, none⟩) 1 1, .slice (some ⟨b93, 0, none⟩) 2 2]) rfl (fun _ => by kernel_rfl) (fun _ _ _ h => h) o366_ ?_
  exact TL.goto hD1 (by kernel_rfl) (fun a w' hf hh => ⟨b93, b92, b91, V42, (vt hV41 hV42), ((((Fr.nil hf).pick hf 53 rfl).pick hf 28 rfl).pick hf 27 rfl), ((hh.sub (kp8 (kp1 kp0))).perm (pt sw1 (pt sw0 (pc1 (pt sw0 pz)))))⟩)
 rintro v w' ⟨z1, z2, rfl, hs3, A3, c3, V2, hV2, rfl, hh⟩
 try dsimp only at hF
 let v244_ : List Value := [vi z1, .slice A3 hs3.length c3]
 let i195_ : HObj := box b4 83 v244_
 let i196_ : HObj := treeo (TreeTy.mk 28 3 43) hs3 z2
 refine ⟨V2, (i195_ :: (row 97 eHdr A3 c3 hs3) :: i196_ :: t6_), hh, ?_⟩
 clear hh
 refine T.nil (T.seq (T.region (T.p3 (pB b4 0) (pB b4 0) (pB b4 0) (fun _ => by kernel_rfl) (T.look (.agg #[vi z1, .slice A3 hs3.length c3]) (by kernel_rfl) (ldN 0 rfl rfl (fun _ => by kernel_rfl) (by rfl) rfl) ?_))))
 let i197_ : HObj := box b3 24 v244_
 let t198_ : List HObj := i197_ :: i2_ :: []
 refine T.step (W1.st 3 v244_ (i195_ :: (row 97 eHdr A3 c3 hs3) :: i196_ :: t198_) v244_ (by rfl) rfl rfl rfl rfl rfl rfl (fun _ => by kernel_rfl) ?_)
 refine T.pk (vi 0) (fun _ => by kernel_rfl) (T.nil ?_)
 obtain ⟨l1, hb175, hF⟩ := ob hF
 refine T.reH (H' := (i195_ :: (row 97 eHdr A3 c3 hs3) :: (treeo (TreeTy.mk 28 3 43) hs3 (l1.map Sum.inr)) :: t198_)) (by simp +zetaDelta only [allN_some hb175]) ?_
 refine T.freezeTree (ty := (TreeTy.mk 28 3 43)) (tn := 97) (l := l1) (H' := (i195_ :: t198_)) (pt sw0 (pc1 (pt sw0 pz))) (fun V44 hV44 hs22 hl2 => ?_)
 refine T.reslot 30 a247_ rfl (by first | rfl | rw [hl2]) ?_
 refine T.reslot 31 a247_ rfl (by first | rfl | rw [hl2]) ?_
 refine T.reslot 39 (.agg #[vi z1, .slice A3 l1.length c3]) rfl (by first | rfl | rw [hl2]) ?_
 refine T.reH (H' := ((box b4 83 [vi z1, .slice A3 l1.length c3]) :: (box b3 24 [vi z1, .slice A3 l1.length c3]) :: i2_ :: [])) (by first | rfl | simp +zetaDelta only [hl2]) ?_
 cases hF
 refine T.ret rfl ?_
 exact T.ret2 rfl (ResIs.cellN 1 rfl (by rfl) (fun _ => by kernel_rfl) (fun _ => by kernel_rfl)) (ResIs.tmp rfl) fun w' hh => ⟨_, rfl, hh.below, (vT2.mk (vAg.mk ⟨_, _, rfl, (SlOk.mono hs22 (vt (made_mono vr) (made_fresh hh)))⟩) (show _ from rfl))⟩
end Go.Proofs.Ytcmkdoahkncakaa
