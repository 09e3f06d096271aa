/- Go functions that change what they are handed: each walked once, whatever lies beside. Condition of each: the pure function yields a result. -/
import Derived.Test.YtacjdfhllomccaaGreatDoorSh2J
import Derived.Test.YtacjdfhllomccaaGreatDoorNamesLJ
import Derived.Test.YtacjdfhllomccaaGreatDoorFileLJ
import Derived.Test.YtacjdfhllomccaaGreatDoorLstLJ
import Derived.Test.YtacjdfhllomccaaGreatDoorPickLJ
import Derived.Test.YtacjdfhllomccaaGreatDoorPruneLJ
import Derived.Test.YtacjdfhllomccaaGreatDoorFrFJ
import Derived.Test.YtacjdfhllomccaaGreatDoorEqLJ
import Derived.Test.YtacjdfhllomccaaGreatDoorRangeJ
import Derived.Test.YtacjdfhllomccaaGreatDoorRecJ
import Derived.Test.YtacjdfhllomccaaGreatDoorAnyLJ
namespace Go.Proofs.YtacjdfhllomccaaGreatDoor
set_option linter.unusedVariables false
set_option maxRecDepth 100000 in
set_option maxHeartbeats 4000000 in
theorem fs_FS_kind_fr_l (F : Nat) (p904 : List DElem) (p906 : Int) (p907 : Int) (p908 : Int) (p909 : Int) (r : ByteArray) (hF : fs_FS_kind_fr F p904 p906 p907 p908 p909 = some r) (w : World) (hGl : Glob w) (b901 : Nat) (A902 : Option Addr) (c903 : Nat) (V900 : View) (G900 : List HObj) (w1 : World) (hs905 : SlOk V900 eElem A902 c903 p904) (hh : Hp w V900 ((box b901 78 [.slice A902 p904.length c903, .int .i64 p906, .int .i64 p907]) :: G900) w1) :
 Calls Tryz.prog 59 #[.pointer (some ⟨b901, 0, none⟩), .int .i64 p908, .int .i64 p909] w1 (fun e w2 => ∃ v, e = .returned v ∧ ∃ (V1 : View), View.le V900 V1 ∧ v = .string r ∧ Hp w V1 ((box b901 78 [.slice A902 p904.length c903, .int .i64 p906, .int .i64 p907]) :: G900) w2) := by
 unfold fs_FS_kind_fr at hF
 have hV900 := hh.base
 refine T.startI (l := [pB b901 0, vi p908, vi p909]) Tryz.func59 rfl rfl rfl ?_ hh
 clear hh
 refine T.seq (T.region (T.pk (.string (ByteArray.mk #[])) (fun _ => by kernel_rfl) (T.nil (T.seq ?_))))
 obtain ⟨r1, hb1, hF⟩ := ob hF
 let i1_ : HObj := box b901 78 [.slice A902 p904.length c903, vi p906, vi p907]
 let v4_ : List Value := [vi r1.1.key.pfs, vi r1.1.key.obj, vi r1.1.key.off, vi r1.1.made, vi r1.1.gone, .string r1.1.val]
 refine T.mid (fun a w' => ∃ (b2 : Nat) (V3 : View), View.le V900 V3 ∧ Fr 22 [(7, pB b2 0)] a ∧ Hp w V3 ((box b2 44 v4_) :: i1_ :: G900) w') ?_ ?_
 ·
  refine T.held (i1_ :: []) (by kernel_rfl) ?_
  refine TA.keep (Hp.old vr hV900 (kp1 kp0) (oB1 ol0)) fun o10_ => ?_
  refine TA.tp 0 (pB b901 0) rfl (fun _ => by kernel_rfl) (fun _ _ _ h => h) o10_ ?_
  refine TA.tp 1 (pB b901 0) rfl (fun _ => by kernel_rfl) (fun _ _ _ h => h) o10_ ?_
  refine TA.tp 2 (pB b901 0) rfl (fun _ => by kernel_rfl) (fun _ _ _ h => h) o10_ ?_
  refine TA.tk 3 (.slice A902 p904.length c903) rfl (by kernel_rfl) (fun _ _ _ h => h) o10_ (ld1 0 rfl rfl (fun _ => by kernel_rfl) (by rfl) rfl) ?_
  refine TA.tp 4 (vi p908) rfl (fun _ => by kernel_rfl) (fun _ _ _ h => h) o10_ ?_
  refine TA.tp 6 (vi p909) rfl (fun _ => by kernel_rfl) (fun _ _ _ h => h) o10_ ?_
  refine TA.all [5, 11] (by kernel_rfl) rfl ⟨?_, ?_, trivial⟩
  ·
   let a8_ : Value := .agg #[vi 0, vi p908, vi 0]
   refine TA.br rfl (W1.within 50 [vi p908] (fun v w' => v = a8_ ∧ Hp w V900 (i1_ :: G900) w') Tryz.func50 rfl rfl (by kernel_rfl) (fun _ => by kernel_rfl) rfl ?_ ?_)
   ·
    refine T.seq (T.region (T.step (W1.np 42 [vi 0, vi 0, vi 0] (fun _ => by kernel_rfl) (fun b1 => ?_))))
    refine T.nil (T.seq (T.region (T.p2 (vi p908) a8_ (fun _ => by kernel_rfl) ?_)))
    let v5_ : List Value := [vi 0, vi p908, vi 0]
    refine T.step (W1.st 0 v5_ ((box b1 42 v5_) :: i1_ :: G900) v5_ (by rfl) rfl rfl rfl rfl rfl rfl (fun _ => by kernel_rfl) ?_)
    refine T.nil ?_
    refine T.ret rfl ?_
    exact T.ret1 rfl (ResIs.cellN 0 rfl (by rfl) (fun _ => by kernel_rfl) (fun _ => by kernel_rfl)) fun w' hh => ⟨_, rfl, ⟨rfl, (hh.sub (dr1 (kp1 kpr)))⟩⟩
   rintro v w' ⟨rfl, hh⟩
   refine ⟨V900, (i1_ :: G900), hh, ?_⟩
   clear hh
   refine TA.on (Hp.old vr hV900 (kp1 kp0) (oB1 ol0)) ?_
   refine TA.all [7, 11] (by kernel_rfl) rfl ⟨?_, ?_, trivial⟩
   ·
    refine TA.br rfl (W1.call (vT2 (vAg eElem) (vSc eInt)) r1 94 #[.slice A902 p904.length c903, a8_, vi p909] (by kernel_rfl) (fun _ => by kernel_rfl) (fun w' hh => run_At_l F p904 (DKey.mk 0 p908 0) p909 r1 hb1 w' A902 c903 (SlOk.mono hs905 hh.view)) ?_)
    intro u V2 hV2 hu
    obtain rfl := (Sure.t2 sureElem sureInt) _ _ _ hu
    refine TA.onk (Hp.old hV2 hV900 (kp1 kp0) (oB1 ol0)) fun o11_ => ?_
    refine TA.tp 8 (.tuple #[.agg #[vi r1.1.key.pfs, vi r1.1.key.obj, vi r1.1.key.off, vi r1.1.made, vi r1.1.gone, .string r1.1.val], vi r1.2]) rfl (fun _ => by kernel_rfl) (fun _ _ _ h => h) o11_ ?_
    refine TA.tp 9 (.agg #[vi r1.1.key.pfs, vi r1.1.key.obj, vi r1.1.key.off, vi r1.1.made, vi r1.1.gone, .string r1.1.val]) rfl (fun _ => by kernel_rfl) (fun _ _ _ h => h) o11_ ?_
    refine TA.tp 10 (vi r1.2) rfl (fun _ => by kernel_rfl) (fun _ _ _ h => h) o11_ ?_
    refine TA.all [11] (by kernel_rfl) rfl ⟨?_, trivial⟩
    refine TA.br rfl (W1.np 44 [vi 0, vi 0, vi 0, vi 0, vi 0, .string (ByteArray.mk #[])] (fun _ => by kernel_rfl) (fun b2 => ?_))
    refine TA.on (Hp.old hV2 hV900 (dr1 (kp1 kp0)) (oB1 ol0)) ?_
    refine TA.all [12] (by kernel_rfl) rfl ⟨?_, trivial⟩
    refine TA.br rfl (W1.st 0 v4_ ((box b2 44 v4_) :: i1_ :: G900) v4_ (by rfl) rfl rfl rfl rfl rfl rfl (fun _ => by kernel_rfl) ?_)
    refine TA.onk (Hp.old hV2 hV900 (dr1 (kp1 kp0)) (oB1 ol0)) fun o12_ => ?_
    refine TA.tp 13 (vi r1.2) rfl (fun _ => by kernel_rfl) (fun _ _ _ h => h) o12_ ?_
    refine TA.done (by kernel_rfl) ?_
    exact fun a w' hf hh => ⟨b2, V2, hV2, (Fr.sel hf rfl), (hh.sub (kp1 (kp1 kpr)))⟩
   refine TA.br rfl (W1.np 44 [vi 0, vi 0, vi 0, vi 0, vi 0, .string (ByteArray.mk #[])] (fun _ => by kernel_rfl) (fun b2 => ?_))
   refine TA.on (Hp.old vr hV900 (dr1 (kp1 kp0)) (oB1 ol0)) ?_
   refine TA.all [7] (by kernel_rfl) rfl ⟨?_, trivial⟩
   refine TA.br rfl (W1.call (vT2 (vAg eElem) (vSc eInt)) r1 94 #[.slice A902 p904.length c903, a8_, vi p909] (by kernel_rfl) (fun _ => by kernel_rfl) (fun w' hh => run_At_l F p904 (DKey.mk 0 p908 0) p909 r1 hb1 w' A902 c903 (SlOk.mono hs905 hh.view)) ?_)
   intro u V2 hV2 hu
   obtain rfl := (Sure.t2 sureElem sureInt) _ _ _ hu
   refine TA.onk (Hp.old hV2 hV900 (dr1 (kp1 kp0)) (oB1 ol0)) fun o13_ => ?_
   refine TA.tp 8 (.tuple #[.agg #[vi r1.1.key.pfs, vi r1.1.key.obj, vi r1.1.key.off, vi r1.1.made, vi r1.1.gone, .string r1.1.val], vi r1.2]) rfl (fun _ => by kernel_rfl) (fun _ _ _ h => h) o13_ ?_
   refine TA.tp 9 (.agg #[vi r1.1.key.pfs, vi r1.1.key.obj, vi r1.1.key.off, vi r1.1.made, vi r1.1.gone, .string r1.1.val]) rfl (fun _ => by kernel_rfl) (fun _ _ _ h => h) o13_ ?_
   refine TA.tp 10 (vi r1.2) rfl (fun _ => by kernel_rfl) (fun _ _ _ h => h) o13_ ?_
   refine TA.all [12] (by kernel_rfl) rfl ⟨?_, trivial⟩
   refine TA.br rfl (W1.st 0 v4_ ((box b2 44 v4_) :: i1_ :: G900) v4_ (by rfl) rfl rfl rfl rfl rfl rfl (fun _ => by kernel_rfl) ?_)
   refine TA.onk (Hp.old hV2 hV900 (dr1 (kp1 kp0)) (oB1 ol0)) fun o14_ => ?_
   refine TA.tp 13 (vi r1.2) rfl (fun _ => by kernel_rfl) (fun _ _ _ h => h) o14_ ?_
   refine TA.done (by kernel_rfl) ?_
   exact fun a w' hf hh => ⟨b2, V2, hV2, (Fr.sel hf rfl), (hh.sub (kp1 (kp1 kpr)))⟩
  let v6_ : List Value := [vi 0, vi 0, vi 0, vi 0, vi 0, .string (ByteArray.mk #[])]
  refine TA.br rfl (W1.np 44 v6_ (fun _ => by kernel_rfl) (fun b2 => ?_))
  refine TA.on (Hp.old vr hV900 (dr1 (kp1 kp0)) (oB1 ol0)) ?_
  refine TA.all [5] (by kernel_rfl) rfl ⟨?_, trivial⟩
  let i2_ : HObj := box b2 44 v6_
  let t3_ : List HObj := i2_ :: i1_ :: G900
  let a9_ : Value := .agg #[vi 0, vi p908, vi 0]
  refine TA.br rfl (W1.within 50 [vi p908] (fun v w' => v = a9_ ∧ Hp w V900 t3_ w') Tryz.func50 rfl rfl (by kernel_rfl) (fun _ => by kernel_rfl) rfl ?_ ?_)
  ·
   refine T.seq (T.region (T.step (W1.np 42 [vi 0, vi 0, vi 0] (fun _ => by kernel_rfl) (fun b1 => ?_))))
   refine T.nil (T.seq (T.region (T.p2 (vi p908) a9_ (fun _ => by kernel_rfl) ?_)))
   let v7_ : List Value := [vi 0, vi p908, vi 0]
   refine T.step (W1.st 0 v7_ ((box b1 42 v7_) :: t3_) v7_ (by rfl) rfl rfl rfl rfl rfl rfl (fun _ => by kernel_rfl) ?_)
   refine T.nil ?_
   refine T.ret rfl ?_
   exact T.ret1 rfl (ResIs.cellN 0 rfl (by rfl) (fun _ => by kernel_rfl) (fun _ => by kernel_rfl)) fun w' hh => ⟨_, rfl, ⟨rfl, (hh.sub (dr1 (kp1 (kp1 kpr))))⟩⟩
  rintro v w' ⟨rfl, hh⟩
  refine ⟨V900, t3_, hh, ?_⟩
  clear hh
  refine TA.on (Hp.old vr hV900 (dr1 (kp1 kp0)) (oB1 ol0)) ?_
  refine TA.all [7] (by kernel_rfl) rfl ⟨?_, trivial⟩
  refine TA.br rfl (W1.call (vT2 (vAg eElem) (vSc eInt)) r1 94 #[.slice A902 p904.length c903, a9_, vi p909] (by kernel_rfl) (fun _ => by kernel_rfl) (fun w' hh => run_At_l F p904 (DKey.mk 0 p908 0) p909 r1 hb1 w' A902 c903 (SlOk.mono hs905 hh.view)) ?_)
  intro u V2 hV2 hu
  obtain rfl := (Sure.t2 sureElem sureInt) _ _ _ hu
  refine TA.onk (Hp.old hV2 hV900 (dr1 (kp1 kp0)) (oB1 ol0)) fun o15_ => ?_
  refine TA.tp 8 (.tuple #[.agg #[vi r1.1.key.pfs, vi r1.1.key.obj, vi r1.1.key.off, vi r1.1.made, vi r1.1.gone, .string r1.1.val], vi r1.2]) rfl (fun _ => by kernel_rfl) (fun _ _ _ h => h) o15_ ?_
  refine TA.tp 9 (.agg #[vi r1.1.key.pfs, vi r1.1.key.obj, vi r1.1.key.off, vi r1.1.made, vi r1.1.gone, .string r1.1.val]) rfl (fun _ => by kernel_rfl) (fun _ _ _ h => h) o15_ ?_
  refine TA.tp 10 (vi r1.2) rfl (fun _ => by kernel_rfl) (fun _ _ _ h => h) o15_ ?_
  refine TA.all [12] (by kernel_rfl) rfl ⟨?_, trivial⟩
  refine TA.br rfl (W1.st 0 v4_ ((box b2 44 v4_) :: i1_ :: G900) v4_ (by rfl) rfl rfl rfl rfl rfl rfl (fun _ => by kernel_rfl) ?_)
  refine TA.onk (Hp.old hV2 hV900 (dr1 (kp1 kp0)) (oB1 ol0)) fun o16_ => ?_
  refine TA.tp 13 (vi r1.2) rfl (fun _ => by kernel_rfl) (fun _ _ _ h => h) o16_ ?_
  refine TA.done (by kernel_rfl) ?_
  exact fun a w' hf hh => ⟨b2, V2, hV2, (Fr.sel hf rfl), (hh.sub (kp1 (kp1 kpr)))⟩
 rintro a w' ⟨b2, V3, hV3, hf, hh⟩
 refine (?_ : T 22 w V3 ((box b2 44 v4_) :: i1_ :: G900) [(7, pB b2 0)] _) a w' hf hh
 clear hf hh
 refine T.seq (T.region (T.pk (pB b2 5) (fun _ => by kernel_rfl) (T.look (.string r1.1.val) (by kernel_rfl) (ld1 0 rfl rfl (fun _ => by kernel_rfl) (by rfl) rfl) ?_)))
 refine T.pk (.string r1.1.val) (fun _ => by kernel_rfl) (T.nil ?_)
 have hres := Option.some.inj hF
 subst hres
 refine T.ret rfl ?_
 repeat first | refine T.unthen ?_ | refine T.unblock ?_
 exact T.ret1 rfl (ResIs.tmp rfl) fun w' hh => ⟨_, rfl, ⟨V3, hV3, rfl, (hh.sub (dr1 (kp1 kpr)))⟩⟩
set_option maxRecDepth 100000 in
set_option maxHeartbeats 4000000 in
theorem fs_FS_walk_fr_l (F : Nat) (p904 : List DElem) (p906 : Int) (p907 : Int) (p910 : List ByteArray) (p912 : Int) (r : Int × Int) (hF : fs_FS_walk_fr F p904 p906 p907 p910 p912 = some r) (w : World) (hGl : Glob w) (b901 : Nat) (A902 : Option Addr) (c903 : Nat) (A908 : Option Addr) (c909 : Nat) (V900 : View) (G900 : List HObj) (w1 : World) (hs905 : SlOk V900 eElem A902 c903 p904) (hs911 : SlOk V900 eStr A908 c909 p910) (hh : Hp w V900 ((box b901 78 [.slice A902 p904.length c903, .int .i64 p906, .int .i64 p907]) :: G900) w1) :
 Calls Tryz.prog 87 #[.pointer (some ⟨b901, 0, none⟩), .slice A908 p910.length c909, .int .i64 p912] w1 (fun e w2 => ∃ v, e = .returned v ∧ ∃ (V1 : View), View.le V900 V1 ∧ v = .tuple #[.int .i64 r.1, .int .i64 r.2] ∧ Hp w V1 ((box b901 78 [.slice A902 p904.length c903, .int .i64 p906, .int .i64 p907]) :: G900) w2) := by
 unfold fs_FS_walk_fr at hF
 have hV900 := hh.base
 refine T.startI (l := [pB b901 0, .slice A908 p910.length c909, vi p912]) Tryz.func87 rfl rfl rfl ?_ hh
 clear hh
 refine T.seq (T.region (T.p2 (vi 0) (vi 0) (fun _ => by kernel_rfl) (T.nil (T.seq (T.region (T.pk (vi 1) (fun _ => by kernel_rfl) (T.nil (T.seq (T.seq (T.region (T.p2 (pB b901 0) (vi p912) (fun _ => by kernel_rfl) ?_)))))))))))
 obtain ⟨r1, hb1, hF⟩ := ob hF
 let i17_ : HObj := box b901 78 [.slice A902 p904.length c903, vi p906, vi p907]
 refine T.step (W1.callI 59 [pB b901 0, vi 1, vi p912] (fun v w' => ∃ (V2 : View), View.le V900 V2 ∧ v = .string r1 ∧ Hp w V2 (i17_ :: G900) w') (by kernel_rfl) (fun _ => by kernel_rfl) (fun w' hh => fs_FS_kind_fr_l F p904 p906 p907 1 p912 r1 hb1 w hGl b901 A902 c903 V900 G900 w' hs905 (hh.sub (kp1 kpr))) ?_)
 rintro v w' ⟨V2, hV2, rfl, hh⟩
 refine ⟨_, _, hh, ?_⟩
 clear hh
 refine T.pk (.bool (seq r1 (ByteArray.mk #[]))) (fun _ => by kernel_rfl) (T.nil ?_)
 refine T.cond (seq r1 (ByteArray.mk #[])) (by kernel_rfl) (by kernel_rfl) (fun hc1 => ?_) (fun hc1 => ?_)
 ·
  rw [hc1, cond_true] at hF
  refine T.seq (T.region (T.p2 (vi 0) (vi 4) (fun _ => by kernel_rfl) (T.nil ?_)))
  have hres := Option.some.inj hF
  subst hres
  refine T.ret rfl ?_
  repeat first | refine T.unthen ?_ | refine T.unblock ?_
  exact T.ret2 rfl (ResIs.tmp rfl) (ResIs.tmp rfl) fun w' hh => ⟨_, rfl, ⟨V2, hV2, rfl, (hh.sub (kp1 kpr))⟩⟩
 rw [hc1, cond_false] at hF
 refine T.skip_code ?_
 refine T.seq (T.seq (T.region (T.p3 (.slice A908 p910.length c909) (vi (p910.length : Int)) (vi 0) (fun _ => by kernel_rfl) (T.nil ?_))))
 obtain ⟨q1, hz1, hF⟩ := ob hF
 refine T.mid (fun a w' => ∃ (z3 : Int), q1 = Sum.inl z3 ∧ ∃ (V4 : View), View.le V2 V4 ∧ Fr 45 [(8, vi z3)] a ∧ Hp w V4 (i17_ :: G900) w') ?_ ?_
 ·
  refine T.block ?_
  refine T.iter (fun s1 a w' => ∃ (x1 : Int) (x2 : Int), s1 = (x1, x2) ∧ ∃ (V3 : View), View.le V2 V3 ∧ Fr 45 [(0, pB b901 0), (2, vi p912), (8, vi x1), (17, .slice A908 p910.length c909), (18, vi (p910.length : Int)), (19, vi x2)] a ∧ Hp w V3 (i17_ :: G900) w') hz1 ?_ ?_
  ·
   exact fun a w' hf hh => ⟨1, 0, rfl, V2, vr, (Fr.sel hf rfl), (hh.sub (kp1 kpr))⟩
  rintro s1 y1 hY1 hr1 a w' ⟨x1, x2, rfl, V3, hV3, hf, hh⟩
  refine (?_ : T 45 w V3 (i17_ :: G900) [(0, pB b901 0), (2, vi p912), (8, vi x1), (17, .slice A908 p910.length c909), (18, vi (p910.length : Int)), (19, vi x2)] _) a w' hf hh
  clear hf hh
  try dsimp only at hY1
  refine T.seq (T.region (T.pk (.bool (decide (x2 < (p910.length : Int)))) (fun _ => by kernel_rfl) (T.nil (T.seq ?_))))
  refine T.cond (decide (x2 < (p910.length : Int))) (by kernel_rfl) (by kernel_rfl) (fun hc2 => ?_) (fun hc2 => ?_)
  ·
   rw [hc2, cond_true] at hY1
   refine T.skip_code ?_
   refine T.seq (T.block (T.seq (T.region ?_)))
   obtain ⟨e1, hb2, hY1⟩ := ob hY1
   obtain ⟨hi1, hi2, hi3⟩ := idx_some hb2
   refine T.look (.pointer (some ((sadr A908).add (x2.toNat * 1)))) (by kernel_rfl) (fun w' hh => exec_indexAddr (e := 9) (s := 1) rfl rfl rfl (by kernel_rfl) (by kernel_rfl) hi1 hi2 ((SlOk.mono hs911 (vt hV2 hV3)).some_ hi3 (by decide))) ?_
   refine T.look (.string e1) (by kernel_rfl) (fun w' hh => exec_load1 rfl rfl (by kernel_rfl) (hh.cell_view (SlOk.cellF0 (E := eStr) (SlOk.mono hs911 (vt hV2 hV3)) hi3 (fun _ _ _ h => h) rfl))) ?_
   refine T.pk (.string e1) (fun _ => by kernel_rfl) (T.nil (T.seq (T.seq (T.region (T.p3 (pB b901 0) (vi x1) (vi p912) (fun _ => by kernel_rfl) ?_)))))
   obtain ⟨r2, hb3, hY1⟩ := ob hY1
   refine T.step (W1.callI 59 [pB b901 0, vi x1, vi p912] (fun v w' => ∃ (V5 : View), View.le V3 V5 ∧ v = .string r2 ∧ Hp w V5 (i17_ :: G900) w') (by kernel_rfl) (fun _ => by kernel_rfl) (fun w' hh => fs_FS_kind_fr_l F p904 p906 p907 x1 p912 r2 hb3 w hGl b901 A902 c903 V3 G900 w' (SlOk.mono hs905 (vt hV2 hV3)) (hh.sub (kp1 kpr))) ?_)
   rintro v w' ⟨V5, hV5, rfl, hh⟩
   refine ⟨_, _, hh, ?_⟩
   clear hh
   refine T.pk (.bool (!(seq r2 (ByteArray.mk #[100])))) (fun _ => by kernel_rfl) (T.nil ?_)
   refine T.cond (!(seq r2 (ByteArray.mk #[100]))) (by kernel_rfl) (by kernel_rfl) (fun hc3 => ?_) (fun hc3 => ?_)
   ·
    rw [hc3, cond_true] at hY1
    refine T.seq (T.region (T.p2 (vi 0) (vi 12) (fun _ => by kernel_rfl) (T.nil ?_)))
    cases hY1
    cases (hr1 _ rfl)
    try dsimp only at hF
    have hres := Option.some.inj hF
    subst hres
    refine T.ret rfl ?_
    repeat first | refine T.unthen ?_ | refine T.unblock ?_
    exact T.ret2 rfl (ResIs.tmp rfl) (ResIs.tmp rfl) fun w' hh => ⟨_, rfl, ⟨V5, (vt (vt hV2 hV3) hV5), rfl, (hh.sub (kp1 kpr))⟩⟩
   rw [hc3, cond_false] at hY1
   refine T.skip_code ?_
   refine T.seq (T.region (T.p3 (pB b901 0) (pB b901 0) (pB b901 0) (fun _ => by kernel_rfl) (T.look (.slice A902 p904.length c903) (by kernel_rfl) (ld1 0 rfl rfl (fun _ => by kernel_rfl) (by rfl) rfl) ?_)))
   refine T.p3 (vi x1) (.string e1) (vi p912) (fun _ => by kernel_rfl) ?_
   obtain ⟨r3, hb4, hY1⟩ := ob hY1
   refine T.step (W1.call (vT2 (vSc eInt) (vSc eInt)) r3 88 #[.slice A902 p904.length c903, vi 0, vi x1, .string e1, vi p912] (by kernel_rfl) (fun _ => by kernel_rfl) (fun w' hh => dir_Find_l F p904 0 x1 e1 p912 r3 hb4 w' (Glob.mono hGl (vt hh.base hh.view)) A902 c903 (SlOk.mono (SlOk.mono hs905 (vt (vt hV2 hV3) hV5)) hh.view)) ?_)
   intro u V6 hV6 hu
   obtain rfl := (Sure.t2 sureInt sureInt) _ _ _ hu
   refine T.p5 (.tuple #[vi r3.1, vi r3.2]) (vi r3.1) (vi r3.2) (vi r3.1) (vi r3.2) (fun _ => by kernel_rfl) (T.nil (T.seq (T.seq (T.region (T.p2 (vi r3.2) (.bool (r3.2 != 0)) (fun _ => by kernel_rfl) (T.nil ?_))))))
   refine T.cond (r3.2 != 0) (by kernel_rfl) (by kernel_rfl) (fun hc4 => ?_) (fun hc4 => ?_)
   ·
    rw [hc4, cond_true] at hY1
    refine T.seq (T.region (T.p3 (vi r3.2) (vi 0) (vi r3.2) (fun _ => by kernel_rfl) (T.nil ?_)))
    cases hY1
    cases (hr1 _ rfl)
    try dsimp only at hF
    have hres := Option.some.inj hF
    subst hres
    refine T.ret rfl ?_
    repeat first | refine T.unthen ?_ | refine T.unblock ?_
    exact T.ret2 rfl (ResIs.tmp rfl) (ResIs.tmp rfl) fun w' hh => ⟨_, rfl, ⟨V6, (vt (vt (vt hV2 hV3) hV5) hV6), rfl, (hh.sub (kp1 kpr))⟩⟩
   rw [hc4, cond_false] at hY1
   refine T.skip_code ?_
   refine T.region (T.p2 (vi r3.1) (vi r3.1) (fun _ => by kernel_rfl) (T.nil (T.region (T.p2 (vi (IntKind.i64.wrap (x2 + 1))) (vi (IntKind.i64.wrap (x2 + 1))) (fun _ => by kernel_rfl) (T.nil ?_)))))
   cases hY1
   exact fun a w' hf hh => ⟨(r3.1, IntKind.i64.wrap (x2 + 1)), rfl, r3.1, (IntKind.i64.wrap (x2 + 1)), rfl, V6, (vt (vt hV3 hV5) hV6), (Fr.sel hf rfl), (hh.sub (kp1 kpr))⟩
  rw [hc2, cond_false] at hY1
  refine T.exit ?_
  cases hY1
  cases (hr1 _ rfl)
  exact fun a w' hf hh => ⟨x1, rfl, V3, hV3, (Fr.sel hf rfl), (hh.sub (kp1 kpr))⟩
 rintro a w' ⟨z3, rfl, V4, hV4, hf, hh⟩
 try dsimp only at hF
 refine (?_ : T 45 w V4 (i17_ :: G900) [(8, vi z3)] _) a w' hf hh
 clear hf hh
 refine T.seq (T.region (T.p3 (vi z3) (vi z3) (vi 0) (fun _ => by kernel_rfl) (T.nil ?_)))
 have hres := Option.some.inj hF
 subst hres
 refine T.ret rfl ?_
 repeat first | refine T.unthen ?_ | refine T.unblock ?_
 exact T.ret2 rfl (ResIs.tmp rfl) (ResIs.tmp rfl) fun w' hh => ⟨_, rfl, ⟨V4, (vt hV2 hV4), rfl, (hh.sub (kp1 kpr))⟩⟩
set_option maxRecDepth 100000 in
set_option maxHeartbeats 4000000 in
theorem fs_FS_parent_fr_l (F : Nat) (p904 : List DElem) (p906 : Int) (p907 : Int) (p908 : ByteArray) (r : Int × ByteArray × Int × Int) (hF : fs_FS_parent_fr F p904 p906 p907 p908 = some r) (w : World) (hGl : Glob w) (b901 : Nat) (A902 : Option Addr) (c903 : Nat) (V900 : View) (G900 : List HObj) (w1 : World) (hs905 : SlOk V900 eElem A902 c903 p904) (hh : Hp w V900 ((box b901 78 [.slice A902 p904.length c903, .int .i64 p906, .int .i64 p907]) :: G900) w1) :
 Calls Tryz.prog 51 #[.pointer (some ⟨b901, 0, none⟩), .string p908] w1 (fun e w2 => ∃ v, e = .returned v ∧ ∃ (V1 : View), View.le V900 V1 ∧ v = .tuple #[.int .i64 r.1, .string r.2.1, .int .i64 r.2.2.1, .int .i64 r.2.2.2] ∧ Hp w V1 ((box b901 78 [.slice A902 p904.length c903, .int .i64 p906, .int .i64 p907]) :: G900) w2) := by
 unfold fs_FS_parent_fr at hF
 have hV900 := hh.base
 refine T.startI (l := [pB b901 0, .string p908]) Tryz.func51 rfl rfl rfl ?_ hh
 clear hh
 refine T.seq (T.region (T.p4 (vi 0) (.string (ByteArray.mk #[])) (vi 0) (vi 0) (fun _ => by kernel_rfl) (T.nil (T.seq (T.region (T.pk (.string p908) (fun _ => by kernel_rfl) ?_))))))
 obtain ⟨r1, hb1, hF⟩ := ob hF
 refine T.step (W1.call (vT2 (vSc (eList eStr)) (vSc eInt)) r1 86 #[.string p908] (by kernel_rfl) (fun _ => by kernel_rfl) (fun w' hh => fs_names_l F p908 r1 hb1 w' (Glob.mono hGl (vt hh.base hh.view))) ?_)
 intro u V2 hV2 hu
 obtain ⟨u1, u2, rfl, hu1, hu2⟩ := vT2_elim hu
 obtain ⟨A1, c1, rfl, hs1⟩ := vlist_elim hu1
 obtain rfl := sureInt _ _ _ hu2
 refine T.p5 (.tuple #[.slice A1 r1.1.length c1, vi r1.2]) (.slice A1 r1.1.length c1) (vi r1.2) (.slice A1 r1.1.length c1) (vi r1.2) (fun _ => by kernel_rfl) (T.nil (T.seq (T.seq (T.region (T.p2 (vi r1.2) (.bool (r1.2 != 0)) (fun _ => by kernel_rfl) (T.nil ?_))))))
 refine T.cond (r1.2 != 0) (by kernel_rfl) (by kernel_rfl) (fun hc1 => ?_) (fun hc1 => ?_)
 ·
  rw [hc1, cond_true] at hF
  refine T.seq (T.region (T.p5 (vi r1.2) (vi 0) (.string (ByteArray.mk #[])) (vi 0) (vi r1.2) (fun _ => by kernel_rfl) (T.nil ?_)))
  have hres := Option.some.inj hF
  subst hres
  refine T.ret rfl ?_
  repeat first | refine T.unthen ?_ | refine T.unblock ?_
  exact T.ret4 rfl (ResIs.tmp rfl) (ResIs.tmp rfl) (ResIs.tmp rfl) (ResIs.tmp rfl) fun w' hh => ⟨_, rfl, ⟨V2, hV2, rfl, (hh.sub (kp1 kpr))⟩⟩
 rw [hc1, cond_false] at hF
 refine T.skip_code ?_
 refine T.seq (T.seq (T.region (T.p3 (.slice A1 r1.1.length c1) (vi (r1.1.length : Int)) (.bool ((r1.1.length : Int) == 0)) (fun _ => by kernel_rfl) (T.nil ?_))))
 refine T.cond ((r1.1.length : Int) == 0) (by kernel_rfl) (by kernel_rfl) (fun hc2 => ?_) (fun hc2 => ?_)
 ·
  rw [hc2, cond_true] at hF
  refine T.seq (T.region (T.p4 (vi 0) (.string (ByteArray.mk #[])) (vi 1) (vi 0) (fun _ => by kernel_rfl) (T.nil ?_)))
  have hres := Option.some.inj hF
  subst hres
  refine T.ret rfl ?_
  repeat first | refine T.unthen ?_ | refine T.unblock ?_
  exact T.ret4 rfl (ResIs.tmp rfl) (ResIs.tmp rfl) (ResIs.tmp rfl) (ResIs.tmp rfl) fun w' hh => ⟨_, rfl, ⟨V2, hV2, rfl, (hh.sub (kp1 kpr))⟩⟩
 rw [hc2, cond_false] at hF
 refine T.skip_code ?_
 refine T.seq (T.region (T.p4 (.slice A1 r1.1.length c1) (vi (r1.1.length : Int)) (vi (IntKind.i64.wrap ((r1.1.length : Int) - 1))) (vi (IntKind.i64.wrap ((r1.1.length : Int) - 1))) (fun _ => by kernel_rfl) (T.nil (T.seq ?_))))
 refine T.held [] (by kernel_rfl) ?_
 refine TA.keep (Hp.old vr (vt hV900 hV2) (dr1 kp0) ol0) fun o19_ => ?_
 refine TA.tp 0 (pB b901 0) rfl (fun _ => by kernel_rfl) (fun _ _ _ h => h) o19_ ?_
 refine TA.tp 1 (.slice A1 r1.1.length c1) rfl (fun _ => by kernel_rfl) (fun _ _ _ h => h) o19_ ?_
 refine TA.tp 2 (vi (IntKind.i64.wrap ((r1.1.length : Int) - 1))) rfl (fun _ => by kernel_rfl) (fun _ _ _ h => h) o19_ ?_
 obtain ⟨s1, hb2, hF⟩ := ob hF
 refine TA.tk 3 (.slice A1 s1.length c1) rfl (by kernel_rfl) (fun _ _ _ h => h) o19_ (fun w' hh => exec_slice_list0 (e := 9) (s := 1) (lx := none) (hx := (some _)) (k := .i64) (k' := .i64) rfl rfl (by kernel_rfl) (by kernel_rfl) ((SlOk.mono hs1 (vt (made_le _ _) vr))).1 rfl rfl hb2) ?_
 refine TA.tp 4 (pB b901 0) rfl (fun _ => by kernel_rfl) (fun _ _ _ h => h) o19_ ?_
 refine TA.tp 5 (pB b901 0) rfl (fun _ => by kernel_rfl) (fun _ _ _ h => h) o19_ ?_
 refine TA.tp 6 (pB b901 1) rfl (fun _ => by kernel_rfl) (fun _ _ _ h => h) o19_ ?_
 refine TA.all [7] (by kernel_rfl) rfl ⟨?_, trivial⟩
 refine TA.br rfl (W1.look (vi p906) (by kernel_rfl) (ld1 0 rfl rfl (fun _ => by kernel_rfl) (by rfl) rfl) ?_)
 refine TA.on (Hp.old vr (vt hV900 hV2) (dr1 kp0) ol0) ?_
 refine TA.all [8] (by kernel_rfl) rfl ⟨?_, trivial⟩
 obtain ⟨r2, hb3, hF⟩ := ob hF
 let i18_ : HObj := box b901 78 [.slice A902 p904.length c903, vi p906, vi p907]
 refine TA.br rfl (W1.callI 87 [pB b901 0, .slice A1 s1.length c1, vi p906] (fun v w' => ∃ (V3 : View), View.le V2 V3 ∧ v = .tuple #[vi r2.1, vi r2.2] ∧ Hp w V3 (i18_ :: G900) w') (by kernel_rfl) (fun _ => by kernel_rfl) (fun w' hh => fs_FS_walk_fr_l F p904 p906 p907 s1 p906 r2 hb3 w hGl b901 A902 c903 A1 c1 V2 G900 w' (SlOk.mono hs905 hV2) (SlOk.cut0 (SlOk.mono hs1 (vt (made_le _ _) vr)) hb2) (hh.sub (kp1 kpr))) ?_)
 rintro v w' ⟨V3, hV3, rfl, hh⟩
 refine ⟨_, _, hh, ?_⟩
 clear hh
 refine TA.onk (Hp.old hV3 (vt hV900 hV2) (dr1 kp0) ol0) fun o20_ => ?_
 refine TA.tp 9 (.tuple #[vi r2.1, vi r2.2]) rfl (fun _ => by kernel_rfl) (fun _ _ _ h => h) o20_ ?_
 refine TA.tp 10 (vi r2.1) rfl (fun _ => by kernel_rfl) (fun _ _ _ h => h) o20_ ?_
 refine TA.tp 11 (vi r2.2) rfl (fun _ => by kernel_rfl) (fun _ _ _ h => h) o20_ ?_
 refine TA.tp 12 (vi r2.1) rfl (fun _ => by kernel_rfl) (fun _ _ _ h => h) o20_ ?_
 refine TA.tp 13 (vi r2.2) rfl (fun _ => by kernel_rfl) (fun _ _ _ h => h) o20_ ?_
 refine TA.done (by kernel_rfl) ?_
 refine T.seq (T.seq (T.region (T.p2 (vi r2.2) (.bool (r2.2 != 0)) (fun _ => by kernel_rfl) (T.nil ?_))))
 refine T.cond (r2.2 != 0) (by kernel_rfl) (by kernel_rfl) (fun hc3 => ?_) (fun hc3 => ?_)
 ·
  rw [hc3, cond_true] at hF
  refine T.seq (T.region (T.p5 (vi r2.2) (vi 0) (.string (ByteArray.mk #[])) (vi 0) (vi r2.2) (fun _ => by kernel_rfl) (T.nil ?_)))
  have hres := Option.some.inj hF
  subst hres
  refine T.ret rfl ?_
  repeat first | refine T.unthen ?_ | refine T.unblock ?_
  exact T.ret4 rfl (ResIs.tmp rfl) (ResIs.tmp rfl) (ResIs.tmp rfl) (ResIs.tmp rfl) fun w' hh => ⟨_, rfl, ⟨V3, (vt hV2 hV3), rfl, (hh.sub (kp1 kpr))⟩⟩
 rw [hc3, cond_false] at hF
 refine T.skip_code ?_
 refine T.seq (T.seq (T.region (T.p5 (pB b901 0) (vi r2.1) (pB b901 0) (pB b901 0) (pB b901 1) (fun _ => by kernel_rfl) (T.look (vi p906) (by kernel_rfl) (ld1 0 rfl rfl (fun _ => by kernel_rfl) (by rfl) rfl) ?_))))
 obtain ⟨r3, hb4, hF⟩ := ob hF
 refine T.step (W1.callI 59 [pB b901 0, vi r2.1, vi p906] (fun v w' => ∃ (V4 : View), View.le V3 V4 ∧ v = .string r3 ∧ Hp w V4 (i18_ :: G900) w') (by kernel_rfl) (fun _ => by kernel_rfl) (fun w' hh => fs_FS_kind_fr_l F p904 p906 p907 r2.1 p906 r3 hb4 w hGl b901 A902 c903 V3 G900 w' (SlOk.mono hs905 (vt hV2 hV3)) (hh.sub (kp1 kpr))) ?_)
 rintro v w' ⟨V4, hV4, rfl, hh⟩
 refine ⟨_, _, hh, ?_⟩
 clear hh
 refine T.pk (.bool (!(seq r3 (ByteArray.mk #[100])))) (fun _ => by kernel_rfl) (T.nil ?_)
 refine T.cond (!(seq r3 (ByteArray.mk #[100]))) (by kernel_rfl) (by kernel_rfl) (fun hc4 => ?_) (fun hc4 => ?_)
 ·
  rw [hc4, cond_true] at hF
  refine T.seq (T.region (T.p4 (vi 0) (.string (ByteArray.mk #[])) (vi 0) (vi 12) (fun _ => by kernel_rfl) (T.nil ?_)))
  have hres := Option.some.inj hF
  subst hres
  refine T.ret rfl ?_
  repeat first | refine T.unthen ?_ | refine T.unblock ?_
  exact T.ret4 rfl (ResIs.tmp rfl) (ResIs.tmp rfl) (ResIs.tmp rfl) (ResIs.tmp rfl) fun w' hh => ⟨_, rfl, ⟨V4, (vt (vt hV2 hV3) hV4), rfl, (hh.sub (kp1 kpr))⟩⟩
 rw [hc4, cond_false] at hF
 refine T.skip_code ?_
 refine T.seq ?_
 refine T.quiet (by kernel_rfl) (by kernel_rfl) ?_
 refine TQ.pure (pB b901 0) (by kernel_rfl) (fun _ => by kernel_rfl) ?_
 refine TQ.pure (pB b901 0) (by kernel_rfl) (fun _ => by kernel_rfl) ?_
 refine TQ.pure (pB b901 0) (by kernel_rfl) (fun _ => by kernel_rfl) ?_
 refine TQ.look (.slice A902 p904.length c903) (by kernel_rfl) (ld1 0 rfl rfl (fun _ => by kernel_rfl) (by rfl) rfl) ?_
 refine TQ.pure (vi r2.1) (by kernel_rfl) (fun _ => by kernel_rfl) ?_
 refine TQ.pure (.slice A1 r1.1.length c1) (by kernel_rfl) (fun _ => by kernel_rfl) ?_
 refine TQ.pure (vi (IntKind.i64.wrap ((r1.1.length : Int) - 1))) (by kernel_rfl) (fun _ => by kernel_rfl) ?_
 obtain ⟨e1, hb5, hF⟩ := ob hF
 obtain ⟨hi1, hi2, hi3⟩ := idx_some hb5
 refine TQ.look (.pointer (some ((sadr A1).add (((IntKind.i64.wrap ((r1.1.length : Int) - 1)).toNat) * 1)))) (by kernel_rfl) (fun w' hh => exec_indexAddr (e := 9) (s := 1) rfl rfl rfl (by kernel_rfl) (by kernel_rfl) hi1 hi2 ((SlOk.mono hs1 (vt (made_le _ _) (vt hV3 hV4))).some_ hi3 (by decide))) ?_
 refine TQ.look (.string e1) (by kernel_rfl) (fun w' hh => exec_load1 rfl rfl (by kernel_rfl) (hh.cell_view (SlOk.cellF0 (E := eStr) (SlOk.mono hs1 (vt (made_le _ _) (vt hV3 hV4))) hi3 (fun _ _ _ h => h) rfl))) ?_
 refine TQ.pure (pB b901 0) (by kernel_rfl) (fun _ => by kernel_rfl) ?_
 refine TQ.pure (pB b901 0) (by kernel_rfl) (fun _ => by kernel_rfl) ?_
 refine TQ.pure (pB b901 1) (by kernel_rfl) (fun _ => by kernel_rfl) ?_
 refine TQ.look (vi p906) (by kernel_rfl) (ld1 0 rfl rfl (fun _ => by kernel_rfl) (by rfl) rfl) ?_
 obtain ⟨r4, hb6, hF⟩ := ob hF
 refine TQ.call (vT2 (vSc eInt) (vSc eInt)) r4 88 #[.slice A902 p904.length c903, vi 0, vi r2.1, .string e1, vi p906] (.tuple #[vi r4.1, vi r4.2]) (fun V u hu => (Sure.t2 sureInt sureInt) V u _ hu) (by kernel_rfl) (fun _ => by kernel_rfl) (fun w' hh => dir_Find_l F p904 0 r2.1 e1 p906 r4 hb6 w' (Glob.mono hGl (vt hh.base hh.view)) A902 c903 (SlOk.mono (SlOk.mono hs905 (vt (vt hV2 hV3) hV4)) hh.view)) ?_
 refine TQ.pure (.tuple #[vi r4.1, vi r4.2]) (by kernel_rfl) (fun _ => by kernel_rfl) ?_
 refine TQ.pure (vi r4.1) (by kernel_rfl) (fun _ => by kernel_rfl) ?_
 refine TQ.pure (vi r4.2) (by kernel_rfl) (fun _ => by kernel_rfl) ?_
 refine TQ.pure (vi r4.1) (by kernel_rfl) (fun _ => by kernel_rfl) ?_
 refine TQ.pure (vi r4.2) (by kernel_rfl) (fun _ => by kernel_rfl) ?_
 refine TQ.nil ?_
 obtain ⟨z5, hX1, hF⟩ := ob hF
 refine T.cut (fun a w' => Fr 75 [(8, .slice A1 r1.1.length c1), (10, vi (IntKind.i64.wrap ((r1.1.length : Int) - 1))), (11, vi r2.1), (12, vi z5)] a ∧ Hp w V4 (i18_ :: G900) w') ?_ ?_
 ·
  refine T.seq (T.region (T.p2 (vi r4.2) (.bool (r4.2 != 0)) (fun _ => by kernel_rfl) (T.nil ?_)))
  refine T.cond (r4.2 != 0) (by kernel_rfl) (by kernel_rfl) (fun hc5 => ?_) (fun hc5 => ?_)
  ·
   rw [hc5, cond_true] at hX1
   refine T.region (T.pk (vi 0) (fun _ => by kernel_rfl) (T.nil ?_))
   cases hX1
   exact fun a w' hf hh => ⟨(Fr.sel hf rfl), (hh.sub (kp1 kpr))⟩
  rw [hc5, cond_false] at hX1
  refine T.skip_code ?_
  cases hX1
  exact fun a w' hf hh => ⟨(Fr.sel hf rfl), (hh.sub (kp1 kpr))⟩
 rintro a w' ⟨hf, hh⟩
 refine (?_ : T 75 w V4 (i18_ :: G900) [(8, .slice A1 r1.1.length c1), (10, vi (IntKind.i64.wrap ((r1.1.length : Int) - 1))), (11, vi r2.1), (12, vi z5)] _) a w' hf hh
 clear hf hh
 refine T.seq ?_
 refine T.quiet (by kernel_rfl) (by kernel_rfl) ?_
 refine TQ.pure (vi r2.1) (by kernel_rfl) (fun _ => by kernel_rfl) ?_
 refine TQ.pure (.slice A1 r1.1.length c1) (by kernel_rfl) (fun _ => by kernel_rfl) ?_
 refine TQ.pure (vi (IntKind.i64.wrap ((r1.1.length : Int) - 1))) (by kernel_rfl) (fun _ => by kernel_rfl) ?_
 obtain ⟨e2, hb7, hF⟩ := ob hF
 obtain ⟨hi4, hi5, hi6⟩ := idx_some hb7
 refine TQ.look (.pointer (some ((sadr A1).add (((IntKind.i64.wrap ((r1.1.length : Int) - 1)).toNat) * 1)))) (by kernel_rfl) (fun w' hh => exec_indexAddr (e := 9) (s := 1) rfl rfl rfl (by kernel_rfl) (by kernel_rfl) hi4 hi5 ((SlOk.mono hs1 (vt (made_le _ _) (vt hV3 hV4))).some_ hi6 (by decide))) ?_
 refine TQ.look (.string e2) (by kernel_rfl) (fun w' hh => exec_load1 rfl rfl (by kernel_rfl) (hh.cell_view (SlOk.cellF0 (E := eStr) (SlOk.mono hs1 (vt (made_le _ _) (vt hV3 hV4))) hi6 (fun _ _ _ h => h) rfl))) ?_
 refine TQ.pure (vi z5) (by kernel_rfl) (fun _ => by kernel_rfl) ?_
 refine TQ.pure (vi r2.1) (by kernel_rfl) (fun _ => by kernel_rfl) ?_
 refine TQ.pure (.string e2) (by kernel_rfl) (fun _ => by kernel_rfl) ?_
 refine TQ.pure (vi z5) (by kernel_rfl) (fun _ => by kernel_rfl) ?_
 refine TQ.pure (vi 0) (by kernel_rfl) (fun _ => by kernel_rfl) ?_
 refine TQ.nil ?_
 have hres := Option.some.inj hF
 subst hres
 refine T.ret rfl ?_
 repeat first | refine T.unthen ?_ | refine T.unblock ?_
 exact T.ret4 rfl (ResIs.tmp rfl) (ResIs.tmp rfl) (ResIs.tmp rfl) (ResIs.tmp rfl) fun w' hh => ⟨_, rfl, ⟨V4, (vt (vt hV2 hV3) hV4), rfl, (hh.sub (kp1 kpr))⟩⟩
set_option maxRecDepth 100000 in
set_option maxHeartbeats 4000000 in
theorem fs_FS_create_fr_l (F : Nat) (p904 : List DElem) (p906 : Int) (p907 : Int) (p911 : List DElem) (p913 : Int) (p914 : Int) (p915 : Int) (p916 : ByteArray) (p917 : ByteArray) (r : (List DElem) × Int) (hF : fs_FS_create_fr F p904 p906 p907 p911 p913 p914 p915 p916 p917 = some r) (w : World) (hGl : Glob w) (b901 : Nat) (b908 : Nat) (A902 : Option Addr) (c903 : Nat) (A909 : Option Addr) (c910 : Nat) (V900 : View) (G900 : List HObj) (w1 : World) (hs905 : SlOk V900 eElem A902 c903 p904) (hs912 : SlOk V900 eElem A909 c910 p911) (hh : Hp w V900 ((box b901 78 [.slice A902 p904.length c903, .int .i64 p906, .int .i64 p907]) :: (box b908 86 [.slice A909 p911.length c910, .int .i64 p913, .int .i64 p914]) :: G900) w1) :
 Calls Tryz.prog 53 #[.pointer (some ⟨b901, 0, none⟩), .pointer (some ⟨b908, 0, none⟩), .int .i64 p915, .string p916, .string p917] w1 (fun e w2 => ∃ v, e = .returned v ∧ ∃ (A1 : Option Addr) (c1 : Nat) (V1 : View), View.le V900 V1 ∧ SlOk V1 eElem A1 c1 r.1 ∧ v = .int .i64 p907 ∧ Hp w V1 ((box b901 78 [.slice A902 p904.length c903, .int .i64 p906, .int .i64 p907]) :: (box b908 86 [.slice A1 r.1.length c1, .int .i64 p913, .int .i64 r.2]) :: G900) w2) := by
 unfold fs_FS_create_fr at hF
 have hV900 := hh.base
 refine T.startI (l := [pB b901 0, pB b908 0, vi p915, .string p916, .string p917]) Tryz.func53 rfl rfl rfl ?_ hh
 clear hh
 refine T.seq (T.region (T.pk (vi 0) (fun _ => by kernel_rfl) (T.nil ?_)))
 obtain ⟨z3, hX1, hF⟩ := ob hF
 let i21_ : HObj := box b901 78 [.slice A902 p904.length c903, vi p906, vi p907]
 let i22_ : HObj := box b908 86 [.slice A909 p911.length c910, vi p913, vi z3]
 let t23_ : List HObj := i21_ :: i22_ :: G900
 refine T.cut (fun a w' => Fr 62 [(0, pB b901 0), (1, pB b908 0), (2, vi p915), (3, .string p916), (4, .string p917)] a ∧ Hp w V900 t23_ w') ?_ ?_
 ·
  let i24_ : HObj := box b908 86 [.slice A909 p911.length c910, vi p913, vi p914]
  refine T.cut (fun a w' => Fr 62 [(0, pB b901 0), (1, pB b908 0), (2, vi p915), (3, .string p916), (4, .string p917), (22, .bool ((p914 == 0) && (decide ((1048576 : Int) < p907))))] a ∧ Hp w V900 (i21_ :: i24_ :: G900) w') ?_ ?_
  ·
   refine T.region (T.p3 (pB b908 0) (pB b908 0) (pB b908 2) (fun _ => by kernel_rfl) (T.look (vi p914) (by kernel_rfl) (ld1 1 rfl rfl (fun _ => by kernel_rfl) (by rfl) rfl) ?_))
   refine T.p2 (.bool (p914 == 0)) (.bool (p914 == 0)) (fun _ => by kernel_rfl) ?_
   cases hg1 : (p914 == 0)
   ·
    skip
    refine T.pass (by kernel_rfl) (by kernel_rfl) (T.pass (by kernel_rfl) (by kernel_rfl) (T.pass (by kernel_rfl) (by kernel_rfl) (T.pass (by kernel_rfl) (by kernel_rfl) (T.pass (by kernel_rfl) (by kernel_rfl) (T.pk (.bool false) (fun _ => by kernel_rfl) (T.nil ?_))))))
    exact fun a w' hf hh => ⟨(Fr.sel hf rfl), (hh.sub (kp1 (kp1 kpr)))⟩
   skip
   refine T.p3 (pB b901 0) (pB b901 0) (pB b901 2) (fun _ => by kernel_rfl) (T.look (vi p907) (by kernel_rfl) (ld1 0 rfl rfl (fun _ => by kernel_rfl) (by rfl) rfl) ?_)
   refine T.p2 (.bool (decide ((1048576 : Int) < p907))) (.bool (decide ((1048576 : Int) < p907))) (fun _ => by kernel_rfl) (T.nil ?_)
   exact fun a w' hf hh => ⟨(Fr.sel hf rfl), (hh.sub (kp1 (kp1 kpr)))⟩
  rintro a w' ⟨hf, hh⟩
  refine (?_ : T 62 w V900 (i21_ :: i24_ :: G900) [(0, pB b901 0), (1, pB b908 0), (2, vi p915), (3, .string p916), (4, .string p917), (22, .bool ((p914 == 0) && (decide ((1048576 : Int) < p907))))] _) a w' hf hh
  clear hf hh
  refine T.cond ((p914 == 0) && (decide ((1048576 : Int) < p907))) (by kernel_rfl) (by kernel_rfl) (fun hc1 => ?_) (fun hc1 => ?_)
  ·
   rw [hc1, cond_true] at hX1
   refine T.region (T.p3 (pB b908 0) (pB b908 0) (pB b908 2) (fun _ => by kernel_rfl) (T.step (W1.st 1 [.slice A909 p911.length c910, vi p913, vi 8] (i21_ :: (box b908 86 [.slice A909 p911.length c910, vi p913, vi 8]) :: G900) [vi 8] (by rfl) rfl rfl rfl rfl rfl rfl (fun _ => by kernel_rfl) ?_)))
   refine T.nil ?_
   cases hX1
   exact fun a w' hf hh => ⟨(Fr.sel hf rfl), (hh.sub (kp1 (kp1 kpr)))⟩
  rw [hc1, cond_false] at hX1
  refine T.skip_code ?_
  cases hX1
  exact fun a w' hf hh => ⟨(Fr.sel hf rfl), (hh.sub (kp1 (kp1 kpr)))⟩
 rintro a w' ⟨hf, hh⟩
 refine (?_ : T 62 w V900 t23_ [(0, pB b901 0), (1, pB b908 0), (2, vi p915), (3, .string p916), (4, .string p917)] _) a w' hf hh
 clear hf hh
 refine T.seq (T.region (T.p4 (pB b908 0) (pB b901 0) (pB b901 0) (pB b901 2) (fun _ => by kernel_rfl) (T.look (vi p907) (by kernel_rfl) (ld1 0 rfl rfl (fun _ => by kernel_rfl) (by rfl) rfl) ?_)))
 let a28_ : Value := .agg #[vi 0, vi p907, vi 0]
 refine T.step (W1.within 50 [vi p907] (fun v w' => v = a28_ ∧ Hp w V900 t23_ w') Tryz.func50 rfl rfl (by kernel_rfl) (fun _ => by kernel_rfl) rfl ?_ ?_)
 ·
  refine T.seq (T.region (T.step (W1.np 42 [vi 0, vi 0, vi 0] (fun _ => by kernel_rfl) (fun b1 => ?_))))
  refine T.nil (T.seq (T.region (T.p2 (vi p907) a28_ (fun _ => by kernel_rfl) ?_)))
  let v26_ : List Value := [vi 0, vi p907, vi 0]
  refine T.step (W1.st 0 v26_ ((box b1 42 v26_) :: t23_) v26_ (by rfl) rfl rfl rfl rfl rfl rfl (fun _ => by kernel_rfl) ?_)
  refine T.nil ?_
  refine T.ret rfl ?_
  exact T.ret1 rfl (ResIs.cellN 0 rfl (by rfl) (fun _ => by kernel_rfl) (fun _ => by kernel_rfl)) fun w' hh => ⟨_, rfl, ⟨rfl, (hh.sub (dr1 (kp1 (kp1 kpr))))⟩⟩
 rintro v w' ⟨rfl, hh⟩
 refine ⟨V900, t23_, hh, ?_⟩
 clear hh
 refine T.pk (.string p917) (fun _ => by kernel_rfl) ?_
 obtain ⟨q1, hX2, hF⟩ := ob hF
 refine T.step (W1.within 89 [pB b908 0, a28_, .string p917] (fun v w' => ∃ (z4 : List DElem) (z5 : Int), q1 = (z4, z5) ∧ ∃ (A2 : Option Addr) (c2 : Nat) (V2 : View), View.le V900 V2 ∧ SlOk V2 eElem A2 c2 z4 ∧ v = .tuple #[] ∧ Hp w V2 (i21_ :: (box b908 86 [.slice A2 z4.length c2, vi p913, vi z5]) :: G900) w') Tryz.func89 rfl rfl (by kernel_rfl) (fun _ => by kernel_rfl) rfl ?_ ?_)
 ·
  refine T.seq (T.region ?_)
  let v27_ : List Value := [vi 0, vi p907, vi 0]
  refine T.step (W1.np 42 v27_ (fun _ => by kernel_rfl) (fun b2 => ?_))
  refine T.nil (T.seq (T.region (T.p3 (pB b908 0) (pB b908 0) (pB b908 2) (fun _ => by kernel_rfl) (T.look (vi z3) (by kernel_rfl) (ld1 2 rfl rfl (fun _ => by kernel_rfl) (by rfl) rfl) ?_))))
  refine T.pk (.bool (z3 == 0)) (fun _ => by kernel_rfl) (T.nil ?_)
  refine T.cond (z3 == 0) (by kernel_rfl) (by kernel_rfl) (fun hc2 => ?_) (fun hc2 => ?_)
  ·
   rw [hc2, cond_true] at hX2
   obtain ⟨r1, hb1, hX2⟩ := ob hX2
   obtain ⟨z6, hX3, hX2⟩ := ob hX2
   refine T.mid (fun a w' => ∃ (A5 : Option Addr) (c5 : Nat) (V5 : View), View.le V900 V5 ∧ SlOk V5 eElem A5 c5 z6 ∧ Fr 26 [] a ∧ Hp w V5 (i21_ :: (box b908 86 [.slice A5 z6.length c5, vi p913, vi r1.2]) :: G900) w') ?_ ?_
   ·
    let i25_ : HObj := box b2 42 v27_
    refine T.held (i25_ :: i21_ :: []) (by kernel_rfl) ?_
    refine TA.keep (Hp.old vr hV900 (kp2 (dr1 kp0)) (oB1 (oB1 ol0))) fun o29_ => ?_
    refine TA.tp 0 (pB b908 0) rfl (fun _ => by kernel_rfl) (fun _ _ _ h => h) o29_ ?_
    refine TA.tp 1 (pB b908 0) rfl (fun _ => by kernel_rfl) (fun _ _ _ h => h) o29_ ?_
    refine TA.tp 2 (pB b908 0) rfl (fun _ => by kernel_rfl) (fun _ _ _ h => h) o29_ ?_
    refine TA.tp 3 (pB b908 0) rfl (fun _ => by kernel_rfl) (fun _ _ _ h => h) o29_ ?_
    refine TA.tk 5 a28_ rfl (by kernel_rfl) (fun _ _ _ h => h) o29_ (ldN 0 rfl rfl (fun _ => by kernel_rfl) (by rfl) rfl) ?_
    refine TA.tp 6 (.string p917) rfl (fun _ => by kernel_rfl) (fun _ _ _ h => h) o29_ ?_
    refine TA.tp 7 (pB b908 0) rfl (fun _ => by kernel_rfl) (fun _ _ _ h => h) o29_ ?_
    refine TA.tp 8 (pB b908 0) rfl (fun _ => by kernel_rfl) (fun _ _ _ h => h) o29_ ?_
    refine TA.tp 9 (pB b908 1) rfl (fun _ => by kernel_rfl) (fun _ _ _ h => h) o29_ ?_
    refine TA.all [4, 10] (by kernel_rfl) rfl ⟨?_, ?_, trivial⟩
    ·
     refine TA.br rfl (W1.look (.slice A909 p911.length c910) (by kernel_rfl) (ld1 2 rfl rfl (fun _ => by kernel_rfl) (by rfl) rfl) ?_)
     refine TA.on (Hp.old vr hV900 (kp2 (dr1 kp0)) (oB1 (oB1 ol0))) ?_
     refine TA.all [10] (by kernel_rfl) rfl ⟨?_, trivial⟩
     refine TA.br rfl (W1.look (vi p913) (by kernel_rfl) (ld1 2 rfl rfl (fun _ => by kernel_rfl) (by rfl) rfl) ?_)
     refine TA.on (Hp.old vr hV900 (kp2 (dr1 kp0)) (oB1 (oB1 ol0))) ?_
     refine TA.all [11] (by kernel_rfl) rfl ⟨?_, trivial⟩
     refine TA.br rfl (W1.call (vT2 (vSc (eList eElem)) (vSc eInt)) r1 79 #[.slice A909 p911.length c910, a28_, .string p917, vi p913] (by kernel_rfl) (fun _ => by kernel_rfl) (fun w' hh => run_Put_l F p911 (DKey.mk 0 p907 0) p917 p913 r1 hb1 w' A909 c910 (SlOk.mono hs912 hh.view)) ?_)
     intro u V3 hV3 hu
     obtain ⟨u1, u2, rfl, hu1, hu2⟩ := vT2_elim hu
     obtain ⟨A3, c3, rfl, hs3⟩ := vlist_elim hu1
     obtain rfl := sureInt _ _ _ hu2
     refine TA.onk (Hp.old hV3 hV900 (kp2 (dr1 kp0)) (oB1 (oB1 ol0))) fun o30_ => ?_
     refine TA.tp 12 (.slice A3 r1.1.length c3) rfl (fun _ => by kernel_rfl) (fun _ _ _ h => h) o30_ ?_
     refine TA.tp 13 (vi r1.2) rfl (fun _ => by kernel_rfl) (fun _ _ _ h => h) o30_ ?_
     refine TA.all [14] (by kernel_rfl) rfl ⟨?_, trivial⟩
     refine TA.br rfl (W1.within 55 [pB b908 0, .slice A3 r1.1.length c3, vi r1.2] (fun v w' => ∃ (A4 : Option Addr) (c4 : Nat) (V4 : View), View.le V3 V4 ∧ SlOk V4 eElem A4 c4 z6 ∧ v = .tuple #[] ∧ Hp w V4 (i25_ :: i21_ :: (box b908 86 [.slice A4 z6.length c4, vi p913, vi r1.2]) :: G900) w') Tryz.func55 rfl rfl (by kernel_rfl) (fun _ => by kernel_rfl) rfl ?_ ?_)
     ·
      refine T.seq (T.seq (T.region (T.p3 (pB b908 0) (pB b908 0) (pB b908 2) (fun _ => by kernel_rfl) (T.look (vi z3) (by kernel_rfl) (ld1 2 rfl rfl (fun _ => by kernel_rfl) (by rfl) rfl) ?_))))
      refine T.pk (.bool (z3 == 0)) (fun _ => by kernel_rfl) (T.nil ?_)
      refine T.cond (z3 == 0) (by kernel_rfl) (by kernel_rfl) (fun _ => ?_) (fun h => absurd (hc2.symm.trans h) (by decide))
      refine T.region (T.p4 (pB b908 0) (vi r1.2) (pB b908 0) (pB b908 2) (fun _ => by kernel_rfl) (T.step (W1.st 2 [.slice A909 p911.length c910, vi p913, vi r1.2] (i25_ :: i21_ :: (box b908 86 [.slice A909 p911.length c910, vi p913, vi r1.2]) :: G900) [vi r1.2] (by rfl) rfl rfl rfl rfl rfl rfl (fun _ => by kernel_rfl) ?_)))
      refine T.nil (T.seq (T.region (T.p3 (pB b908 0) (pB b908 0) (pB b908 2) (fun _ => by kernel_rfl) (T.look (vi r1.2) (by kernel_rfl) (ld1 2 rfl rfl (fun _ => by kernel_rfl) (by rfl) rfl) ?_))))
      refine T.pk (.bool (r1.2 == 0)) (fun _ => by kernel_rfl) (T.nil ?_)
      refine T.cond (r1.2 == 0) (by kernel_rfl) (by kernel_rfl) (fun hc3 => ?_) (fun hc3 => ?_)
      ·
       rw [hc3, cond_true] at hX3
       refine T.region (T.p4 (pB b908 0) (.slice A3 r1.1.length c3) (pB b908 0) (pB b908 0) (fun _ => by kernel_rfl) (T.step (W1.st 2 [.slice A3 r1.1.length c3, vi p913, vi r1.2] (i25_ :: i21_ :: (box b908 86 [.slice A3 r1.1.length c3, vi p913, vi r1.2]) :: G900) [.slice A3 r1.1.length c3] (by rfl) rfl rfl rfl rfl rfl rfl (fun _ => by kernel_rfl) ?_)))
       refine T.nil ?_
       cases hX3
       repeat first | refine T.unthen ?_ | refine T.unblock ?_
       exact T.end0 rfl fun w' hh => ⟨_, rfl, ⟨A3, c3, V3, vr, (SlOk.mono hs3 (vt (made_le _ _) vr)), rfl, (hh.sub (kp2 (kp1 kpr)))⟩⟩
      rw [hc3, cond_false] at hX3
      refine T.skip_code ?_
      cases hX3
      repeat first | refine T.unthen ?_ | refine T.unblock ?_
      exact T.end0 rfl fun w' hh => ⟨_, rfl, ⟨A909, c910, V3, vr, (SlOk.mono hs912 hV3), rfl, (hh.sub (kp2 (kp1 kpr)))⟩⟩
     rintro v w' ⟨A4, c4, V4, hV4, hs4, rfl, hh⟩
     refine ⟨V4, (i25_ :: i21_ :: (box b908 86 [.slice A4 z6.length c4, vi p913, vi r1.2]) :: G900), hh, ?_⟩
     clear hh
     refine TA.on (Hp.old (vt hV3 hV4) hV900 (kp2 (dr1 kp0)) (oB1 (oB1 ol0))) ?_
     refine TA.done (by kernel_rfl) ?_
     exact fun a w' hf hh => ⟨A4, c4, V4, (vt hV3 hV4), hs4, (Fr.nil hf), (hh.sub (dr1 (kp1 (kp1 kpr))))⟩
    refine TA.br rfl (W1.look (vi p913) (by kernel_rfl) (ld1 2 rfl rfl (fun _ => by kernel_rfl) (by rfl) rfl) ?_)
    refine TA.on (Hp.old vr hV900 (kp2 (dr1 kp0)) (oB1 (oB1 ol0))) ?_
    refine TA.all [4] (by kernel_rfl) rfl ⟨?_, trivial⟩
    refine TA.br rfl (W1.look (.slice A909 p911.length c910) (by kernel_rfl) (ld1 2 rfl rfl (fun _ => by kernel_rfl) (by rfl) rfl) ?_)
    refine TA.on (Hp.old vr hV900 (kp2 (dr1 kp0)) (oB1 (oB1 ol0))) ?_
    refine TA.all [11] (by kernel_rfl) rfl ⟨?_, trivial⟩
    refine TA.br rfl (W1.call (vT2 (vSc (eList eElem)) (vSc eInt)) r1 79 #[.slice A909 p911.length c910, a28_, .string p917, vi p913] (by kernel_rfl) (fun _ => by kernel_rfl) (fun w' hh => run_Put_l F p911 (DKey.mk 0 p907 0) p917 p913 r1 hb1 w' A909 c910 (SlOk.mono hs912 hh.view)) ?_)
    intro u V3 hV3 hu
    obtain ⟨u1, u2, rfl, hu1, hu2⟩ := vT2_elim hu
    obtain ⟨A3, c3, rfl, hs3⟩ := vlist_elim hu1
    obtain rfl := sureInt _ _ _ hu2
    refine TA.onk (Hp.old hV3 hV900 (kp2 (dr1 kp0)) (oB1 (oB1 ol0))) fun o31_ => ?_
    refine TA.tp 12 (.slice A3 r1.1.length c3) rfl (fun _ => by kernel_rfl) (fun _ _ _ h => h) o31_ ?_
    refine TA.tp 13 (vi r1.2) rfl (fun _ => by kernel_rfl) (fun _ _ _ h => h) o31_ ?_
    refine TA.all [14] (by kernel_rfl) rfl ⟨?_, trivial⟩
    refine TA.br rfl (W1.within 55 [pB b908 0, .slice A3 r1.1.length c3, vi r1.2] (fun v w' => ∃ (A4 : Option Addr) (c4 : Nat) (V4 : View), View.le V3 V4 ∧ SlOk V4 eElem A4 c4 z6 ∧ v = .tuple #[] ∧ Hp w V4 (i25_ :: i21_ :: (box b908 86 [.slice A4 z6.length c4, vi p913, vi r1.2]) :: G900) w') Tryz.func55 rfl rfl (by kernel_rfl) (fun _ => by kernel_rfl) rfl ?_ ?_)
    ·
     refine T.seq (T.seq (T.region (T.p3 (pB b908 0) (pB b908 0) (pB b908 2) (fun _ => by kernel_rfl) (T.look (vi z3) (by kernel_rfl) (ld1 2 rfl rfl (fun _ => by kernel_rfl) (by rfl) rfl) ?_))))
     refine T.pk (.bool (z3 == 0)) (fun _ => by kernel_rfl) (T.nil ?_)
     refine T.cond (z3 == 0) (by kernel_rfl) (by kernel_rfl) (fun _ => ?_) (fun h => absurd (hc2.symm.trans h) (by decide))
     refine T.region (T.p4 (pB b908 0) (vi r1.2) (pB b908 0) (pB b908 2) (fun _ => by kernel_rfl) (T.step (W1.st 2 [.slice A909 p911.length c910, vi p913, vi r1.2] (i25_ :: i21_ :: (box b908 86 [.slice A909 p911.length c910, vi p913, vi r1.2]) :: G900) [vi r1.2] (by rfl) rfl rfl rfl rfl rfl rfl (fun _ => by kernel_rfl) ?_)))
     refine T.nil (T.seq (T.region (T.p3 (pB b908 0) (pB b908 0) (pB b908 2) (fun _ => by kernel_rfl) (T.look (vi r1.2) (by kernel_rfl) (ld1 2 rfl rfl (fun _ => by kernel_rfl) (by rfl) rfl) ?_))))
     refine T.pk (.bool (r1.2 == 0)) (fun _ => by kernel_rfl) (T.nil ?_)
     refine T.cond (r1.2 == 0) (by kernel_rfl) (by kernel_rfl) (fun hc3 => ?_) (fun hc3 => ?_)
     ·
      rw [hc3, cond_true] at hX3
      refine T.region (T.p4 (pB b908 0) (.slice A3 r1.1.length c3) (pB b908 0) (pB b908 0) (fun _ => by kernel_rfl) (T.step (W1.st 2 [.slice A3 r1.1.length c3, vi p913, vi r1.2] (i25_ :: i21_ :: (box b908 86 [.slice A3 r1.1.length c3, vi p913, vi r1.2]) :: G900) [.slice A3 r1.1.length c3] (by rfl) rfl rfl rfl rfl rfl rfl (fun _ => by kernel_rfl) ?_)))
      refine T.nil ?_
      cases hX3
      repeat first | refine T.unthen ?_ | refine T.unblock ?_
      exact T.end0 rfl fun w' hh => ⟨_, rfl, ⟨A3, c3, V3, vr, (SlOk.mono hs3 (vt (made_le _ _) vr)), rfl, (hh.sub (kp2 (kp1 kpr)))⟩⟩
     rw [hc3, cond_false] at hX3
     refine T.skip_code ?_
     cases hX3
     repeat first | refine T.unthen ?_ | refine T.unblock ?_
     exact T.end0 rfl fun w' hh => ⟨_, rfl, ⟨A909, c910, V3, vr, (SlOk.mono hs912 hV3), rfl, (hh.sub (kp2 (kp1 kpr)))⟩⟩
    rintro v w' ⟨A4, c4, V4, hV4, hs4, rfl, hh⟩
    refine ⟨V4, (i25_ :: i21_ :: (box b908 86 [.slice A4 z6.length c4, vi p913, vi r1.2]) :: G900), hh, ?_⟩
    clear hh
    refine TA.on (Hp.old (vt hV3 hV4) hV900 (kp2 (dr1 kp0)) (oB1 (oB1 ol0))) ?_
    refine TA.done (by kernel_rfl) ?_
    exact fun a w' hf hh => ⟨A4, c4, V4, (vt hV3 hV4), hs4, (Fr.nil hf), (hh.sub (dr1 (kp1 (kp1 kpr))))⟩
   rintro a w' ⟨A5, c5, V5, hV5, hs5, hf, hh⟩
   refine (?_ : T 26 w V5 (i21_ :: (box b908 86 [.slice A5 z6.length c5, vi p913, vi r1.2]) :: G900) [] _) a w' hf hh
   clear hf hh
   cases hX2
   repeat first | refine T.unthen ?_ | refine T.unblock ?_
   exact T.end0 rfl fun w' hh => ⟨_, rfl, ⟨z6, r1.2, rfl, A5, c5, V5, hV5, hs5, rfl, (hh.sub (kp1 (kp1 kpr)))⟩⟩
  rw [hc2, cond_false] at hX2
  refine T.skip_code ?_
  cases hX2
  repeat first | refine T.unthen ?_ | refine T.unblock ?_
  exact T.end0 rfl fun w' hh => ⟨_, rfl, ⟨p911, z3, rfl, A909, c910, V900, vr, hs912, rfl, (hh.sub (dr1 (kp1 (kp1 kpr))))⟩⟩
 rintro v w' ⟨z4, z5, rfl, A2, c2, V2, hV2, hs2, rfl, hh⟩
 try dsimp only at hF
 refine ⟨V2, (i21_ :: (box b908 86 [.slice A2 z4.length c2, vi p913, vi z5]) :: G900), hh, ?_⟩
 clear hh
 refine T.nil ?_
 obtain ⟨q2, hX4, hF⟩ := ob hF
 refine T.cut (fun a w' => ∃ (z7 : List DElem) (z8 : Int), q2 = (z7, z8) ∧ ∃ (A6 : Option Addr) (c6 : Nat) (V6 : View), View.le V2 V6 ∧ SlOk V6 eElem A6 c6 z7 ∧ Fr 62 [(0, pB b901 0)] a ∧ Hp w V6 (i21_ :: (box b908 86 [.slice A6 z7.length c6, vi p913, vi z8]) :: G900) w') ?_ ?_
 ·
  refine T.seq (T.region (T.p3 (pB b908 0) (pB b908 0) (pB b908 2) (fun _ => by kernel_rfl) (T.look (vi z5) (by kernel_rfl) (ld1 1 rfl rfl (fun _ => by kernel_rfl) (by rfl) rfl) ?_)))
  refine T.pk (.bool (z5 == 0)) (fun _ => by kernel_rfl) (T.nil ?_)
  refine T.cond (z5 == 0) (by kernel_rfl) (by kernel_rfl) (fun hc4 => ?_) (fun hc4 => ?_)
  ·
   rw [hc4, cond_true] at hX4
   obtain ⟨r2, hb2, hX4⟩ := ob hX4
   obtain ⟨z9, hX5, hX4⟩ := ob hX4
   refine T.mid (fun a w' => ∃ (A9 : Option Addr) (c9 : Nat) (V9 : View), View.le V2 V9 ∧ SlOk V9 eElem A9 c9 z9 ∧ Fr 62 [(0, pB b901 0)] a ∧ Hp w V9 (i21_ :: (box b908 86 [.slice A9 z9.length c9, vi p913, vi r2.2]) :: G900) w') ?_ ?_
   ·
    refine T.held (i21_ :: []) (by kernel_rfl) ?_
    refine TA.keep (Hp.old vr (vt hV900 hV2) (kp1 (dr1 kp0)) (oB1 ol0)) fun o32_ => ?_
    refine TA.tp 0 (pB b908 0) rfl (fun _ => by kernel_rfl) (fun _ _ _ h => h) o32_ ?_
    refine TA.tp 1 (pB b908 0) rfl (fun _ => by kernel_rfl) (fun _ _ _ h => h) o32_ ?_
    refine TA.tp 2 (pB b908 0) rfl (fun _ => by kernel_rfl) (fun _ _ _ h => h) o32_ ?_
    refine TA.tp 3 (pB b908 0) rfl (fun _ => by kernel_rfl) (fun _ _ _ h => h) o32_ ?_
    refine TA.tp 5 (vi p915) rfl (fun _ => by kernel_rfl) (fun _ _ _ h => h) o32_ ?_
    refine TA.tp 6 (.string p916) rfl (fun _ => by kernel_rfl) (fun _ _ _ h => h) o32_ ?_
    refine TA.tp 7 (pB b901 0) rfl (fun _ => by kernel_rfl) (fun _ _ _ h => h) o32_ ?_
    refine TA.tp 8 (pB b901 0) rfl (fun _ => by kernel_rfl) (fun _ _ _ h => h) o32_ ?_
    refine TA.tp 9 (pB b901 2) rfl (fun _ => by kernel_rfl) (fun _ _ _ h => h) o32_ ?_
    refine TA.tk 10 (vi p907) rfl (by kernel_rfl) (fun _ _ _ h => h) o32_ (ld1 0 rfl rfl (fun _ => by kernel_rfl) (by rfl) rfl) ?_
    refine TA.tp 11 (pB b908 0) rfl (fun _ => by kernel_rfl) (fun _ _ _ h => h) o32_ ?_
    refine TA.tp 12 (pB b908 0) rfl (fun _ => by kernel_rfl) (fun _ _ _ h => h) o32_ ?_
    refine TA.tp 13 (pB b908 1) rfl (fun _ => by kernel_rfl) (fun _ _ _ h => h) o32_ ?_
    refine TA.all [4, 14] (by kernel_rfl) rfl ⟨?_, ?_, trivial⟩
    ·
     refine TA.br rfl (W1.look (.slice A2 z4.length c2) (by kernel_rfl) (ld1 1 rfl rfl (fun _ => by kernel_rfl) (by rfl) rfl) ?_)
     refine TA.on (Hp.old vr (vt hV900 hV2) (kp1 (dr1 kp0)) (oB1 ol0)) ?_
     refine TA.all [14] (by kernel_rfl) rfl ⟨?_, trivial⟩
     refine TA.br rfl (W1.look (vi p913) (by kernel_rfl) (ld1 1 rfl rfl (fun _ => by kernel_rfl) (by rfl) rfl) ?_)
     refine TA.on (Hp.old vr (vt hV900 hV2) (kp1 (dr1 kp0)) (oB1 ol0)) ?_
     refine TA.all [15] (by kernel_rfl) rfl ⟨?_, trivial⟩
     refine TA.br rfl (W1.call (vT2 (vSc (eList eElem)) (vSc eInt)) r2 57 #[.slice A2 z4.length c2, vi 0, vi p915, .string p916, vi p907, vi p913] (by kernel_rfl) (fun _ => by kernel_rfl) (fun w' hh => dir_Add_l F z4 0 p915 p916 p907 p913 r2 hb2 w' (Glob.mono hGl (vt hh.base hh.view)) A2 c2 (SlOk.mono hs2 hh.view)) ?_)
     intro u V7 hV7 hu
     obtain ⟨u3, u4, rfl, hu3, hu4⟩ := vT2_elim hu
     obtain ⟨A7, c7, rfl, hs7⟩ := vlist_elim hu3
     obtain rfl := sureInt _ _ _ hu4
     refine TA.onk (Hp.old hV7 (vt hV900 hV2) (kp1 (dr1 kp0)) (oB1 ol0)) fun o33_ => ?_
     refine TA.tp 16 (.slice A7 r2.1.length c7) rfl (fun _ => by kernel_rfl) (fun _ _ _ h => h) o33_ ?_
     refine TA.tp 17 (vi r2.2) rfl (fun _ => by kernel_rfl) (fun _ _ _ h => h) o33_ ?_
     refine TA.all [18] (by kernel_rfl) rfl ⟨?_, trivial⟩
     refine TA.br rfl (W1.within 55 [pB b908 0, .slice A7 r2.1.length c7, vi r2.2] (fun v w' => ∃ (A8 : Option Addr) (c8 : Nat) (V8 : View), View.le V7 V8 ∧ SlOk V8 eElem A8 c8 z9 ∧ v = .tuple #[] ∧ Hp w V8 (i21_ :: (box b908 86 [.slice A8 z9.length c8, vi p913, vi r2.2]) :: G900) w') Tryz.func55 rfl rfl (by kernel_rfl) (fun _ => by kernel_rfl) rfl ?_ ?_)
     ·
      refine T.seq (T.seq (T.region (T.p3 (pB b908 0) (pB b908 0) (pB b908 2) (fun _ => by kernel_rfl) (T.look (vi z5) (by kernel_rfl) (ld1 1 rfl rfl (fun _ => by kernel_rfl) (by rfl) rfl) ?_))))
      refine T.pk (.bool (z5 == 0)) (fun _ => by kernel_rfl) (T.nil ?_)
      refine T.cond (z5 == 0) (by kernel_rfl) (by kernel_rfl) (fun _ => ?_) (fun h => absurd (hc4.symm.trans h) (by decide))
      refine T.region (T.p4 (pB b908 0) (vi r2.2) (pB b908 0) (pB b908 2) (fun _ => by kernel_rfl) (T.step (W1.st 1 [.slice A2 z4.length c2, vi p913, vi r2.2] (i21_ :: (box b908 86 [.slice A2 z4.length c2, vi p913, vi r2.2]) :: G900) [vi r2.2] (by rfl) rfl rfl rfl rfl rfl rfl (fun _ => by kernel_rfl) ?_)))
      refine T.nil (T.seq (T.region (T.p3 (pB b908 0) (pB b908 0) (pB b908 2) (fun _ => by kernel_rfl) (T.look (vi r2.2) (by kernel_rfl) (ld1 1 rfl rfl (fun _ => by kernel_rfl) (by rfl) rfl) ?_))))
      refine T.pk (.bool (r2.2 == 0)) (fun _ => by kernel_rfl) (T.nil ?_)
      refine T.cond (r2.2 == 0) (by kernel_rfl) (by kernel_rfl) (fun hc5 => ?_) (fun hc5 => ?_)
      ·
       rw [hc5, cond_true] at hX5
       refine T.region (T.p4 (pB b908 0) (.slice A7 r2.1.length c7) (pB b908 0) (pB b908 0) (fun _ => by kernel_rfl) (T.step (W1.st 1 [.slice A7 r2.1.length c7, vi p913, vi r2.2] (i21_ :: (box b908 86 [.slice A7 r2.1.length c7, vi p913, vi r2.2]) :: G900) [.slice A7 r2.1.length c7] (by rfl) rfl rfl rfl rfl rfl rfl (fun _ => by kernel_rfl) ?_)))
       refine T.nil ?_
       cases hX5
       repeat first | refine T.unthen ?_ | refine T.unblock ?_
       exact T.end0 rfl fun w' hh => ⟨_, rfl, ⟨A7, c7, V7, vr, (SlOk.mono hs7 (vt (made_le _ _) vr)), rfl, (hh.sub (kp1 (kp1 kpr)))⟩⟩
      rw [hc5, cond_false] at hX5
      refine T.skip_code ?_
      cases hX5
      repeat first | refine T.unthen ?_ | refine T.unblock ?_
      exact T.end0 rfl fun w' hh => ⟨_, rfl, ⟨A2, c2, V7, vr, (SlOk.mono hs2 hV7), rfl, (hh.sub (kp1 (kp1 kpr)))⟩⟩
     rintro v w' ⟨A8, c8, V8, hV8, hs8, rfl, hh⟩
     refine ⟨V8, (i21_ :: (box b908 86 [.slice A8 z9.length c8, vi p913, vi r2.2]) :: G900), hh, ?_⟩
     clear hh
     refine TA.on (Hp.old (vt hV7 hV8) (vt hV900 hV2) (kp1 (dr1 kp0)) (oB1 ol0)) ?_
     refine TA.done (by kernel_rfl) ?_
     exact fun a w' hf hh => ⟨A8, c8, V8, (vt hV7 hV8), hs8, (Fr.sel hf rfl), (hh.sub (kp1 (kp1 kpr)))⟩
    refine TA.br rfl (W1.look (vi p913) (by kernel_rfl) (ld1 1 rfl rfl (fun _ => by kernel_rfl) (by rfl) rfl) ?_)
    refine TA.on (Hp.old vr (vt hV900 hV2) (kp1 (dr1 kp0)) (oB1 ol0)) ?_
    refine TA.all [4] (by kernel_rfl) rfl ⟨?_, trivial⟩
    refine TA.br rfl (W1.look (.slice A2 z4.length c2) (by kernel_rfl) (ld1 1 rfl rfl (fun _ => by kernel_rfl) (by rfl) rfl) ?_)
    refine TA.on (Hp.old vr (vt hV900 hV2) (kp1 (dr1 kp0)) (oB1 ol0)) ?_
    refine TA.all [15] (by kernel_rfl) rfl ⟨?_, trivial⟩
    refine TA.br rfl (W1.call (vT2 (vSc (eList eElem)) (vSc eInt)) r2 57 #[.slice A2 z4.length c2, vi 0, vi p915, .string p916, vi p907, vi p913] (by kernel_rfl) (fun _ => by kernel_rfl) (fun w' hh => dir_Add_l F z4 0 p915 p916 p907 p913 r2 hb2 w' (Glob.mono hGl (vt hh.base hh.view)) A2 c2 (SlOk.mono hs2 hh.view)) ?_)
    intro u V7 hV7 hu
    obtain ⟨u3, u4, rfl, hu3, hu4⟩ := vT2_elim hu
    obtain ⟨A7, c7, rfl, hs7⟩ := vlist_elim hu3
    obtain rfl := sureInt _ _ _ hu4
    refine TA.onk (Hp.old hV7 (vt hV900 hV2) (kp1 (dr1 kp0)) (oB1 ol0)) fun o34_ => ?_
    refine TA.tp 16 (.slice A7 r2.1.length c7) rfl (fun _ => by kernel_rfl) (fun _ _ _ h => h) o34_ ?_
    refine TA.tp 17 (vi r2.2) rfl (fun _ => by kernel_rfl) (fun _ _ _ h => h) o34_ ?_
    refine TA.all [18] (by kernel_rfl) rfl ⟨?_, trivial⟩
    refine TA.br rfl (W1.within 55 [pB b908 0, .slice A7 r2.1.length c7, vi r2.2] (fun v w' => ∃ (A8 : Option Addr) (c8 : Nat) (V8 : View), View.le V7 V8 ∧ SlOk V8 eElem A8 c8 z9 ∧ v = .tuple #[] ∧ Hp w V8 (i21_ :: (box b908 86 [.slice A8 z9.length c8, vi p913, vi r2.2]) :: G900) w') Tryz.func55 rfl rfl (by kernel_rfl) (fun _ => by kernel_rfl) rfl ?_ ?_)
    ·
     refine T.seq (T.seq (T.region (T.p3 (pB b908 0) (pB b908 0) (pB b908 2) (fun _ => by kernel_rfl) (T.look (vi z5) (by kernel_rfl) (ld1 1 rfl rfl (fun _ => by kernel_rfl) (by rfl) rfl) ?_))))
     refine T.pk (.bool (z5 == 0)) (fun _ => by kernel_rfl) (T.nil ?_)
     refine T.cond (z5 == 0) (by kernel_rfl) (by kernel_rfl) (fun _ => ?_) (fun h => absurd (hc4.symm.trans h) (by decide))
     refine T.region (T.p4 (pB b908 0) (vi r2.2) (pB b908 0) (pB b908 2) (fun _ => by kernel_rfl) (T.step (W1.st 1 [.slice A2 z4.length c2, vi p913, vi r2.2] (i21_ :: (box b908 86 [.slice A2 z4.length c2, vi p913, vi r2.2]) :: G900) [vi r2.2] (by rfl) rfl rfl rfl rfl rfl rfl (fun _ => by kernel_rfl) ?_)))
     refine T.nil (T.seq (T.region (T.p3 (pB b908 0) (pB b908 0) (pB b908 2) (fun _ => by kernel_rfl) (T.look (vi r2.2) (by kernel_rfl) (ld1 1 rfl rfl (fun _ => by kernel_rfl) (by rfl) rfl) ?_))))
     refine T.pk (.bool (r2.2 == 0)) (fun _ => by kernel_rfl) (T.nil ?_)
     refine T.cond (r2.2 == 0) (by kernel_rfl) (by kernel_rfl) (fun hc5 => ?_) (fun hc5 => ?_)
     ·
      rw [hc5, cond_true] at hX5
      refine T.region (T.p4 (pB b908 0) (.slice A7 r2.1.length c7) (pB b908 0) (pB b908 0) (fun _ => by kernel_rfl) (T.step (W1.st 1 [.slice A7 r2.1.length c7, vi p913, vi r2.2] (i21_ :: (box b908 86 [.slice A7 r2.1.length c7, vi p913, vi r2.2]) :: G900) [.slice A7 r2.1.length c7] (by rfl) rfl rfl rfl rfl rfl rfl (fun _ => by kernel_rfl) ?_)))
      refine T.nil ?_
      cases hX5
      repeat first | refine T.unthen ?_ | refine T.unblock ?_
      exact T.end0 rfl fun w' hh => ⟨_, rfl, ⟨A7, c7, V7, vr, (SlOk.mono hs7 (vt (made_le _ _) vr)), rfl, (hh.sub (kp1 (kp1 kpr)))⟩⟩
     rw [hc5, cond_false] at hX5
     refine T.skip_code ?_
     cases hX5
     repeat first | refine T.unthen ?_ | refine T.unblock ?_
     exact T.end0 rfl fun w' hh => ⟨_, rfl, ⟨A2, c2, V7, vr, (SlOk.mono hs2 hV7), rfl, (hh.sub (kp1 (kp1 kpr)))⟩⟩
    rintro v w' ⟨A8, c8, V8, hV8, hs8, rfl, hh⟩
    refine ⟨V8, (i21_ :: (box b908 86 [.slice A8 z9.length c8, vi p913, vi r2.2]) :: G900), hh, ?_⟩
    clear hh
    refine TA.on (Hp.old (vt hV7 hV8) (vt hV900 hV2) (kp1 (dr1 kp0)) (oB1 ol0)) ?_
    refine TA.done (by kernel_rfl) ?_
    exact fun a w' hf hh => ⟨A8, c8, V8, (vt hV7 hV8), hs8, (Fr.sel hf rfl), (hh.sub (kp1 (kp1 kpr)))⟩
   rintro a w' ⟨A9, c9, V9, hV9, hs9, hf, hh⟩
   refine (?_ : T 62 w V9 (i21_ :: (box b908 86 [.slice A9 z9.length c9, vi p913, vi r2.2]) :: G900) [(0, pB b901 0)] _) a w' hf hh
   clear hf hh
   cases hX4
   exact fun a w' hf hh => ⟨z9, r2.2, rfl, A9, c9, V9, hV9, hs9, (Fr.sel hf rfl), (hh.sub (kp1 (kp1 kpr)))⟩
  rw [hc4, cond_false] at hX4
  refine T.skip_code ?_
  cases hX4
  exact fun a w' hf hh => ⟨z4, z5, rfl, A2, c2, V2, vr, hs2, (Fr.sel hf rfl), (hh.sub (kp1 (kp1 kpr)))⟩
 rintro a w' ⟨z7, z8, rfl, A6, c6, V6, hV6, hs6, hf, hh⟩
 try dsimp only at hF
 refine (?_ : T 62 w V6 (i21_ :: (box b908 86 [.slice A6 z7.length c6, vi p913, vi z8]) :: G900) [(0, pB b901 0)] _) a w' hf hh
 clear hf hh
 refine T.seq (T.region (T.p3 (pB b901 0) (pB b901 0) (pB b901 2) (fun _ => by kernel_rfl) (T.look (vi p907) (by kernel_rfl) (ld1 0 rfl rfl (fun _ => by kernel_rfl) (by rfl) rfl) ?_)))
 refine T.pk (vi p907) (fun _ => by kernel_rfl) (T.nil ?_)
 have hres := Option.some.inj hF
 subst hres
 refine T.ret rfl ?_
 repeat first | refine T.unthen ?_ | refine T.unblock ?_
 exact T.ret1 rfl (ResIs.tmp rfl) fun w' hh => ⟨_, rfl, ⟨A6, c6, V6, (vt hV2 hV6), hs6, rfl, (hh.sub (kp1 (kp1 kpr)))⟩⟩
set_option maxRecDepth 100000 in
set_option maxHeartbeats 4000000 in
theorem fs_FS_Mkdir_fr_l (F : Nat) (p904 : List DElem) (p906 : Int) (p907 : Int) (p908 : ByteArray) (r : (List DElem) × Int × Int × Int) (hF : fs_FS_Mkdir_fr F p904 p906 p907 p908 = some r) (w : World) (hGl : Glob w) (b901 : Nat) (A902 : Option Addr) (c903 : Nat) (V900 : View) (G900 : List HObj) (w1 : World) (hs905 : SlOk V900 eElem A902 c903 p904) (hh : Hp w V900 ((box b901 78 [.slice A902 p904.length c903, .int .i64 p906, .int .i64 p907]) :: G900) w1) :
 Calls Tryz.prog 16 #[.pointer (some ⟨b901, 0, none⟩), .string p908] w1 (fun e w2 => ∃ v, e = .returned v ∧ ∃ (A1 : Option Addr) (c1 : Nat) (V1 : View), View.le V900 V1 ∧ SlOk V1 eElem A1 c1 r.1 ∧ v = .int .i64 r.2.2.2 ∧ Hp w V1 ((box b901 78 [.slice A1 r.1.length c1, .int .i64 r.2.1, .int .i64 r.2.2.1]) :: G900) w2) := by
 unfold fs_FS_Mkdir_fr at hF
 have hV900 := hh.base
 refine T.startI (l := [pB b901 0, .string p908]) Tryz.func16 rfl rfl rfl ?_ hh
 clear hh
 refine T.seq (T.region (T.pk (vi 0) (fun _ => by kernel_rfl) (T.nil (T.seq (T.region (T.p2 (pB b901 0) (.string p908) (fun _ => by kernel_rfl) ?_))))))
 obtain ⟨r1, hb1, hF⟩ := ob hF
 let i35_ : HObj := box b901 78 [.slice A902 p904.length c903, vi p906, vi p907]
 let a42_ : Value := .tuple #[vi r1.1, .string r1.2.1, vi r1.2.2.1, vi r1.2.2.2]
 refine T.step (W1.callI 51 [pB b901 0, .string p908] (fun v w' => ∃ (V2 : View), View.le V900 V2 ∧ v = a42_ ∧ Hp w V2 (i35_ :: G900) w') (by kernel_rfl) (fun _ => by kernel_rfl) (fun w' hh => fs_FS_parent_fr_l F p904 p906 p907 p908 r1 hb1 w hGl b901 A902 c903 V900 G900 w' hs905 (hh.sub (kp1 kpr))) ?_)
 rintro v w' ⟨V2, hV2, rfl, hh⟩
 refine ⟨_, _, hh, ?_⟩
 clear hh
 refine T.p8 a42_ (vi r1.1) (.string r1.2.1) (vi r1.2.2.1) (vi r1.2.2.2) (vi r1.1) (.string r1.2.1) (vi r1.2.2.1) (fun _ => by kernel_rfl) (T.pk (vi r1.2.2.2) (fun _ => by kernel_rfl) (T.nil (T.seq (T.seq (T.region (T.p2 (vi r1.2.2.2) (.bool (r1.2.2.2 != 0)) (fun _ => by kernel_rfl) (T.nil ?_)))))))
 refine T.cond (r1.2.2.2 != 0) (by kernel_rfl) (by kernel_rfl) (fun hc1 => ?_) (fun hc1 => ?_)
 ·
  rw [hc1, cond_true] at hF
  refine T.seq (T.region (T.p2 (vi r1.2.2.2) (vi r1.2.2.2) (fun _ => by kernel_rfl) (T.nil ?_)))
  have hres := Option.some.inj hF
  subst hres
  refine T.ret rfl ?_
  repeat first | refine T.unthen ?_ | refine T.unblock ?_
  exact T.ret1 rfl (ResIs.tmp rfl) fun w' hh => ⟨_, rfl, ⟨A902, c903, V2, hV2, (SlOk.mono hs905 hV2), rfl, (hh.sub (kp1 kpr))⟩⟩
 rw [hc1, cond_false] at hF
 refine T.skip_code ?_
 refine T.seq (T.seq (T.region (T.p2 (vi r1.2.2.1) (.bool (r1.2.2.1 != 0)) (fun _ => by kernel_rfl) (T.nil ?_))))
 refine T.cond (r1.2.2.1 != 0) (by kernel_rfl) (by kernel_rfl) (fun hc2 => ?_) (fun hc2 => ?_)
 ·
  rw [hc2, cond_true] at hF
  refine T.seq (T.region (T.pk (vi 5) (fun _ => by kernel_rfl) (T.nil ?_)))
  have hres := Option.some.inj hF
  subst hres
  refine T.ret rfl ?_
  repeat first | refine T.unthen ?_ | refine T.unblock ?_
  exact T.ret1 rfl (ResIs.tmp rfl) fun w' hh => ⟨_, rfl, ⟨A902, c903, V2, hV2, (SlOk.mono hs905 hV2), rfl, (hh.sub (kp1 kpr))⟩⟩
 rw [hc2, cond_false] at hF
 refine T.skip_code ?_
 refine T.seq (T.region (T.pk (pB b901 0) (fun _ => by kernel_rfl) ?_))
 obtain ⟨z5, hX1, hF⟩ := ob hF
 let v38_ : List Value := [.slice A902 p904.length c903, vi (IntKind.i64.wrap (p906 + 1)), vi z5]
 refine T.step (W1.within 52 [pB b901 0] (fun v w' => ∃ (b1 : Nat), v = pB b1 0 ∧ Hp w V2 ((box b1 86 v38_) :: i35_ :: G900) w') Tryz.func52 rfl rfl (by kernel_rfl) (fun _ => by kernel_rfl) rfl ?_ ?_)
 ·
  refine T.seq (T.region (T.pk (.pointer none) (fun _ => by kernel_rfl) (T.nil (T.seq ?_))))
  refine T.held (i35_ :: []) (by kernel_rfl) ?_
  refine TA.keep (Hp.old vr (vt hV900 hV2) (kp1 kp0) (oB1 ol0)) fun o44_ => ?_
  refine TA.tp 0 (pB b901 0) rfl (fun _ => by kernel_rfl) (fun _ _ _ h => h) o44_ ?_
  refine TA.tp 1 (pB b901 0) rfl (fun _ => by kernel_rfl) (fun _ _ _ h => h) o44_ ?_
  refine TA.tp 2 (pB b901 0) rfl (fun _ => by kernel_rfl) (fun _ _ _ h => h) o44_ ?_
  refine TA.tk 3 (.slice A902 p904.length c903) rfl (by kernel_rfl) (fun _ _ _ h => h) o44_ (ld1 0 rfl rfl (fun _ => by kernel_rfl) (by rfl) rfl) ?_
  refine TA.tp 4 (pB b901 0) rfl (fun _ => by kernel_rfl) (fun _ _ _ h => h) o44_ ?_
  refine TA.tp 5 (pB b901 0) rfl (fun _ => by kernel_rfl) (fun _ _ _ h => h) o44_ ?_
  refine TA.tp 6 (pB b901 1) rfl (fun _ => by kernel_rfl) (fun _ _ _ h => h) o44_ ?_
  refine TA.tk 7 (vi p906) rfl (by kernel_rfl) (fun _ _ _ h => h) o44_ (ld1 0 rfl rfl (fun _ => by kernel_rfl) (by rfl) rfl) ?_
  refine TA.tp 8 (vi (IntKind.i64.wrap (p906 + 1))) rfl (fun _ => by kernel_rfl) (fun _ _ _ h => h) o44_ ?_
  refine TA.tp 9 (.agg #[.slice A902 p904.length c903, vi (IntKind.i64.wrap (p906 + 1)), vi 0]) rfl (fun _ => by kernel_rfl) (fun _ _ _ h => h) o44_ ?_
  refine TA.all [10] (by kernel_rfl) rfl ⟨?_, trivial⟩
  refine TA.br rfl (W1.np 86 [.slice A902 p904.length c903, vi (IntKind.i64.wrap (p906 + 1)), vi 0] (fun _ => by kernel_rfl) (fun b1 => ?_))
  refine TA.onk (Hp.old vr (vt hV900 hV2) (dr1 (kp1 kp0)) (oB1 ol0)) fun o45_ => ?_
  refine TA.tp 11 (pB b1 0) rfl (fun _ => by kernel_rfl) (fun _ _ _ h => h) o45_ ?_
  refine TA.done (by kernel_rfl) ?_
  obtain ⟨z6, hX2, hX1⟩ := ob hX1
  let i36_ : HObj := box b1 86 [.slice A902 p904.length c903, vi (IntKind.i64.wrap (p906 + 1)), vi z6]
  refine T.cut (fun a w' => Fr 24 [(3, pB b1 0)] a ∧ Hp w V2 (i36_ :: i35_ :: G900) w') ?_ ?_
  ·
   refine T.seq (T.region (T.p3 (pB b901 0) (pB b901 0) (pB b901 1) (fun _ => by kernel_rfl) (T.look (vi p906) (by kernel_rfl) (ld1 1 rfl rfl (fun _ => by kernel_rfl) (by rfl) rfl) ?_)))
   refine T.pk (.bool (p906 == 2147483647)) (fun _ => by kernel_rfl) (T.nil ?_)
   refine T.cond (p906 == 2147483647) (by kernel_rfl) (by kernel_rfl) (fun hc3 => ?_) (fun hc3 => ?_)
   ·
    rw [hc3, cond_true] at hX2
    refine T.region (T.p3 (pB b1 0) (pB b1 0) (pB b1 2) (fun _ => by kernel_rfl) ?_)
    let v39_ : List Value := [.slice A902 p904.length c903, vi (IntKind.i64.wrap (p906 + 1)), vi 8]
    refine T.step (W1.st 0 v39_ ((box b1 86 v39_) :: i35_ :: G900) [vi 8] (by rfl) rfl rfl rfl rfl rfl rfl (fun _ => by kernel_rfl) ?_)
    refine T.nil ?_
    cases hX2
    exact fun a w' hf hh => ⟨(Fr.sel hf rfl), (hh.sub (kp1 (kp1 kpr)))⟩
   rw [hc3, cond_false] at hX2
   refine T.skip_code ?_
   cases hX2
   exact fun a w' hf hh => ⟨(Fr.sel hf rfl), (hh.sub (kp1 (kp1 kpr)))⟩
  rintro a w' ⟨hf, hh⟩
  refine (?_ : T 24 w V2 (i36_ :: i35_ :: G900) [(3, pB b1 0)] _) a w' hf hh
  clear hf hh
  refine T.seq (T.region (T.p2 (pB b1 0) (pB b1 0) (fun _ => by kernel_rfl) (T.nil ?_)))
  cases hX1
  refine T.ret rfl ?_
  exact T.ret1 rfl (ResIs.tmp rfl) fun w' hh => ⟨_, rfl, ⟨b1, rfl, (hh.sub (kp1 (kp1 kpr)))⟩⟩
 rintro v w' ⟨b1, rfl, hh⟩
 refine ⟨V2, ((box b1 86 v38_) :: i35_ :: G900), hh, ?_⟩
 clear hh
 refine T.pk (pB b1 0) (fun _ => by kernel_rfl) (T.nil (T.seq (T.region (T.p4 (pB b901 0) (pB b1 0) (vi r1.1) (.string r1.2.1) (fun _ => by kernel_rfl) ?_))))
 obtain ⟨r2, hb2, hF⟩ := ob hF
 refine T.step (W1.callI 53 [pB b901 0, pB b1 0, vi r1.1, .string r1.2.1, .string (ByteArray.mk #[100])] (fun v w' => ∃ (A2 : Option Addr) (c2 : Nat) (V3 : View), View.le V2 V3 ∧ SlOk V3 eElem A2 c2 r2.1 ∧ v = vi p907 ∧ Hp w V3 (i35_ :: (box b1 86 [.slice A2 r2.1.length c2, vi (IntKind.i64.wrap (p906 + 1)), vi r2.2]) :: G900) w') (by kernel_rfl) (fun _ => by kernel_rfl) (fun w' hh => fs_FS_create_fr_l F p904 p906 p907 p904 (IntKind.i64.wrap (p906 + 1)) z5 r1.1 r1.2.1 (ByteArray.mk #[100]) r2 hb2 w hGl b901 b1 A902 c903 A902 c903 V2 G900 w' (SlOk.mono hs905 hV2) (SlOk.mono hs905 hV2) (hh.ix 2 [1, 0])) ?_)
 rintro v w' ⟨A2, c2, V3, hV3, hs2, rfl, hh⟩
 let i37_ : HObj := box b1 86 [.slice A2 r2.1.length c2, vi (IntKind.i64.wrap (p906 + 1)), vi r2.2]
 refine ⟨V3, (i37_ :: i35_ :: G900), hh.ix 2 [1, 0], ?_⟩
 clear hh
 refine T.nil (T.seq (T.seq (T.region (T.p2 (pB b901 0) (pB b1 0) (fun _ => by kernel_rfl) ?_))))
 obtain ⟨q1, hX3, hF⟩ := ob hF
 refine T.step (W1.within 54 [pB b901 0, pB b1 0] (fun v w' => ∃ (z7 : List DElem) (z8 : Int), q1 = (z7, z8) ∧ ∃ (A3 : Option Addr) (c3 : Nat) (V4 : View), View.le V3 V4 ∧ SlOk V4 eElem A3 c3 z7 ∧ v = vi r2.2 ∧ Hp w V4 (i37_ :: (box b901 78 [.slice A3 z7.length c3, vi z8, vi p907]) :: G900) w') Tryz.func54 rfl rfl (by kernel_rfl) (fun _ => by kernel_rfl) rfl ?_ ?_)
 ·
  refine T.seq (T.region (T.pk (vi 0) (fun _ => by kernel_rfl) (T.nil ?_)))
  obtain ⟨q2, hX4, hX3⟩ := ob hX3
  refine T.cut (fun a w' => ∃ (z9 : List DElem) (z10 : Int), q2 = (z9, z10) ∧ ∃ (A4 : Option Addr) (c4 : Nat) (V5 : View), View.le V3 V5 ∧ SlOk V5 eElem A4 c4 z9 ∧ Fr 28 [(1, pB b1 0)] a ∧ Hp w V5 (i37_ :: (box b901 78 [.slice A4 z9.length c4, vi z10, vi p907]) :: G900) w') ?_ ?_
  ·
   refine T.seq (T.region (T.p3 (pB b1 0) (pB b1 0) (pB b1 2) (fun _ => by kernel_rfl) (T.look (vi r2.2) (by kernel_rfl) (ld1 0 rfl rfl (fun _ => by kernel_rfl) (by rfl) rfl) ?_)))
   refine T.pk (.bool (r2.2 == 0)) (fun _ => by kernel_rfl) (T.nil ?_)
   refine T.cond (r2.2 == 0) (by kernel_rfl) (by kernel_rfl) (fun hc4 => ?_) (fun hc4 => ?_)
   ·
    rw [hc4, cond_true] at hX4
    refine T.held (i37_ :: []) (by kernel_rfl) ?_
    have w43_ := vt (vt hV900 hV2) hV3
    refine TA.keep (Hp.old vr w43_ (kp1 (dr1 kp0)) (oB1 ol0)) fun o46_ => ?_
    refine TA.tp 0 (pB b901 0) rfl (fun _ => by kernel_rfl) (fun _ _ _ h => h) o46_ ?_
    refine TA.tp 1 (pB b901 0) rfl (fun _ => by kernel_rfl) (fun _ _ _ h => h) o46_ ?_
    refine TA.tp 2 (pB b1 0) rfl (fun _ => by kernel_rfl) (fun _ _ _ h => h) o46_ ?_
    refine TA.tp 3 (pB b1 0) rfl (fun _ => by kernel_rfl) (fun _ _ _ h => h) o46_ ?_
    refine TA.tp 4 (pB b1 0) rfl (fun _ => by kernel_rfl) (fun _ _ _ h => h) o46_ ?_
    refine TA.tk 5 (.slice A2 r2.1.length c2) rfl (by kernel_rfl) (fun _ _ _ h => h) o46_ (ld1 0 rfl rfl (fun _ => by kernel_rfl) (by rfl) rfl) ?_
    refine TA.tp 6 (pB b1 0) rfl (fun _ => by kernel_rfl) (fun _ _ _ h => h) o46_ ?_
    refine TA.tp 7 (pB b1 0) rfl (fun _ => by kernel_rfl) (fun _ _ _ h => h) o46_ ?_
    refine TA.tp 8 (pB b1 1) rfl (fun _ => by kernel_rfl) (fun _ _ _ h => h) o46_ ?_
    refine TA.tk 9 (vi (IntKind.i64.wrap (p906 + 1))) rfl (by kernel_rfl) (fun _ _ _ h => h) o46_ (ld1 0 rfl rfl (fun _ => by kernel_rfl) (by rfl) rfl) ?_
    refine TA.tp 10 (pB b901 0) rfl (fun _ => by kernel_rfl) (fun _ _ _ h => h) o46_ ?_
    refine TA.tp 11 (pB b901 0) rfl (fun _ => by kernel_rfl) (fun _ _ _ h => h) o46_ ?_
    refine TA.all [12] (by kernel_rfl) rfl ⟨?_, trivial⟩
    refine TA.br rfl (W1.st 1 [.slice A2 r2.1.length c2, vi p906, vi p907] (i37_ :: (box b901 78 [.slice A2 r2.1.length c2, vi p906, vi p907]) :: G900) [.slice A2 r2.1.length c2] (by rfl) rfl rfl rfl rfl rfl rfl (fun _ => by kernel_rfl) ?_)
    refine TA.onk (Hp.old vr w43_ (kp1 (dr1 kp0)) (oB1 ol0)) fun o47_ => ?_
    refine TA.tp 13 (pB b901 0) rfl (fun _ => by kernel_rfl) (fun _ _ _ h => h) o47_ ?_
    refine TA.tp 14 (pB b901 1) rfl (fun _ => by kernel_rfl) (fun _ _ _ h => h) o47_ ?_
    refine TA.all [15] (by kernel_rfl) rfl ⟨?_, trivial⟩
    let v40_ : List Value := [.slice A2 r2.1.length c2, vi (IntKind.i64.wrap (p906 + 1)), vi p907]
    refine TA.br rfl (W1.st 1 v40_ (i37_ :: (box b901 78 v40_) :: G900) [vi (IntKind.i64.wrap (p906 + 1))] (by rfl) rfl rfl rfl rfl rfl rfl (fun _ => by kernel_rfl) ?_)
    refine TA.on (Hp.old vr w43_ (kp1 (dr1 kp0)) (oB1 ol0)) ?_
    refine TA.done (by kernel_rfl) ?_
    cases hX4
    exact fun a w' hf hh => ⟨r2.1, (IntKind.i64.wrap (p906 + 1)), rfl, A2, c2, V3, vr, hs2, (Fr.sel hf rfl), (hh.sub (kp1 (kp1 kpr)))⟩
   rw [hc4, cond_false] at hX4
   refine T.skip_code ?_
   cases hX4
   exact fun a w' hf hh => ⟨p904, p906, rfl, A902, c903, V3, vr, (SlOk.mono hs905 (vt hV2 hV3)), (Fr.sel hf rfl), (hh.sub (kp1 (kp1 kpr)))⟩
  rintro a w' ⟨z9, z10, rfl, A4, c4, V5, hV5, hs4, hf, hh⟩
  try dsimp only at hX3
  refine (?_ : T 28 w V5 (i37_ :: (box b901 78 [.slice A4 z9.length c4, vi z10, vi p907]) :: G900) [(1, pB b1 0)] _) a w' hf hh
  clear hf hh
  refine T.seq (T.region (T.p3 (pB b1 0) (pB b1 0) (pB b1 2) (fun _ => by kernel_rfl) (T.look (vi r2.2) (by kernel_rfl) (ld1 0 rfl rfl (fun _ => by kernel_rfl) (by rfl) rfl) ?_)))
  refine T.pk (vi r2.2) (fun _ => by kernel_rfl) (T.nil ?_)
  cases hX3
  refine T.ret rfl ?_
  exact T.ret1 rfl (ResIs.tmp rfl) fun w' hh => ⟨_, rfl, ⟨z9, z10, rfl, A4, c4, V5, hV5, hs4, rfl, (hh.sub (kp1 (kp1 kpr)))⟩⟩
 rintro v w' ⟨z7, z8, rfl, A3, c3, V4, hV4, hs3, rfl, hh⟩
 try dsimp only at hF
 refine ⟨V4, (i37_ :: (box b901 78 [.slice A3 z7.length c3, vi z8, vi p907]) :: G900), hh, ?_⟩
 clear hh
 refine T.pk (vi r2.2) (fun _ => by kernel_rfl) (T.nil (T.seq (T.region (T.p2 (vi r2.2) (.bool (r2.2 != 0)) (fun _ => by kernel_rfl) (T.nil ?_)))))
 refine T.cond (r2.2 != 0) (by kernel_rfl) (by kernel_rfl) (fun hc5 => ?_) (fun hc5 => ?_)
 ·
  rw [hc5, cond_true] at hF
  refine T.seq (T.region (T.p2 (vi r2.2) (vi r2.2) (fun _ => by kernel_rfl) (T.nil ?_)))
  have hres := Option.some.inj hF
  subst hres
  refine T.ret rfl ?_
  repeat first | refine T.unthen ?_ | refine T.unblock ?_
  exact T.ret1 rfl (ResIs.tmp rfl) fun w' hh => ⟨_, rfl, ⟨A3, c3, V4, (vt (vt hV2 hV3) hV4), hs3, rfl, (hh.sub (dr1 (kp1 kpr)))⟩⟩
 rw [hc5, cond_false] at hF
 refine T.skip_code ?_
 refine T.seq (T.region (T.p3 (pB b901 0) (pB b901 0) (pB b901 2) (fun _ => by kernel_rfl) (T.look (vi p907) (by kernel_rfl) (ld1 1 rfl rfl (fun _ => by kernel_rfl) (by rfl) rfl) ?_)))
 refine T.p3 (vi (IntKind.i64.wrap (p907 + 1))) (pB b901 0) (pB b901 2) (fun _ => by kernel_rfl) ?_
 let v41_ : List Value := [.slice A3 z7.length c3, vi z8, vi (IntKind.i64.wrap (p907 + 1))]
 refine T.step (W1.st 1 v41_ (i37_ :: (box b901 78 v41_) :: G900) [vi (IntKind.i64.wrap (p907 + 1))] (by rfl) rfl rfl rfl rfl rfl rfl (fun _ => by kernel_rfl) ?_)
 refine T.nil (T.seq (T.region (T.pk (vi 0) (fun _ => by kernel_rfl) (T.nil ?_))))
 have hres := Option.some.inj hF
 subst hres
 refine T.ret rfl ?_
 repeat first | refine T.unthen ?_ | refine T.unblock ?_
 exact T.ret1 rfl (ResIs.tmp rfl) fun w' hh => ⟨_, rfl, ⟨A3, c3, V4, (vt (vt hV2 hV3) hV4), hs3, rfl, (hh.sub (dr1 (kp1 kpr)))⟩⟩
set_option maxRecDepth 100000 in
set_option maxHeartbeats 4000000 in
theorem fs_FS_Move_fr_l (F : Nat) (p904 : List DElem) (p906 : Int) (p907 : Int) (p908 : ByteArray) (p909 : ByteArray) (r : (List DElem) × Int × Int) (hF : fs_FS_Move_fr F p904 p906 p907 p908 p909 = some r) (w : World) (hGl : Glob w) (b901 : Nat) (A902 : Option Addr) (c903 : Nat) (V900 : View) (G900 : List HObj) (w1 : World) (hs905 : SlOk V900 eElem A902 c903 p904) (hh : Hp w V900 ((box b901 78 [.slice A902 p904.length c903, .int .i64 p906, .int .i64 p907]) :: G900) w1) :
 Calls Tryz.prog 17 #[.pointer (some ⟨b901, 0, none⟩), .string p908, .string p909] w1 (fun e w2 => ∃ v, e = .returned v ∧ ∃ (A1 : Option Addr) (c1 : Nat) (V1 : View), View.le V900 V1 ∧ SlOk V1 eElem A1 c1 r.1 ∧ v = .int .i64 r.2.2 ∧ Hp w V1 ((box b901 78 [.slice A1 r.1.length c1, .int .i64 r.2.1, .int .i64 p907]) :: G900) w2) := by
 unfold fs_FS_Move_fr at hF
 have hV900 := hh.base
 refine T.startI (l := [pB b901 0, .string p908, .string p909]) Tryz.func17 rfl rfl rfl ?_ hh
 clear hh
 refine T.seq (T.region (T.pk (vi 0) (fun _ => by kernel_rfl) (T.nil (T.seq (T.region (T.p2 (pB b901 0) (.string p908) (fun _ => by kernel_rfl) ?_))))))
 obtain ⟨r1, hb1, hF⟩ := ob hF
 let i48_ : HObj := box b901 78 [.slice A902 p904.length c903, vi p906, vi p907]
 let a62_ : Value := .tuple #[vi r1.1, .string r1.2.1, vi r1.2.2.1, vi r1.2.2.2]
 refine T.step (W1.callI 51 [pB b901 0, .string p908] (fun v w' => ∃ (V2 : View), View.le V900 V2 ∧ v = a62_ ∧ Hp w V2 (i48_ :: G900) w') (by kernel_rfl) (fun _ => by kernel_rfl) (fun w' hh => fs_FS_parent_fr_l F p904 p906 p907 p908 r1 hb1 w hGl b901 A902 c903 V900 G900 w' hs905 (hh.sub (kp1 kpr))) ?_)
 rintro v w' ⟨V2, hV2, rfl, hh⟩
 refine ⟨_, _, hh, ?_⟩
 clear hh
 refine T.p8 a62_ (vi r1.1) (.string r1.2.1) (vi r1.2.2.1) (vi r1.2.2.2) (vi r1.1) (.string r1.2.1) (vi r1.2.2.1) (fun _ => by kernel_rfl) (T.pk (vi r1.2.2.2) (fun _ => by kernel_rfl) (T.nil (T.seq (T.seq (T.region (T.p2 (vi r1.2.2.2) (.bool (r1.2.2.2 != 0)) (fun _ => by kernel_rfl) (T.nil ?_)))))))
 refine T.cond (r1.2.2.2 != 0) (by kernel_rfl) (by kernel_rfl) (fun hc1 => ?_) (fun hc1 => ?_)
 ·
  rw [hc1, cond_true] at hF
  refine T.seq (T.region (T.p2 (vi r1.2.2.2) (vi r1.2.2.2) (fun _ => by kernel_rfl) (T.nil ?_)))
  have hres := Option.some.inj hF
  subst hres
  refine T.ret rfl ?_
  repeat first | refine T.unthen ?_ | refine T.unblock ?_
  exact T.ret1 rfl (ResIs.tmp rfl) fun w' hh => ⟨_, rfl, ⟨A902, c903, V2, hV2, (SlOk.mono hs905 hV2), rfl, (hh.sub (kp1 kpr))⟩⟩
 rw [hc1, cond_false] at hF
 refine T.skip_code ?_
 refine T.seq (T.seq (T.region (T.p2 (vi r1.2.2.1) (.bool (r1.2.2.1 == 0)) (fun _ => by kernel_rfl) (T.nil ?_))))
 refine T.cond (r1.2.2.1 == 0) (by kernel_rfl) (by kernel_rfl) (fun hc2 => ?_) (fun hc2 => ?_)
 ·
  rw [hc2, cond_true] at hF
  refine T.seq (T.region (T.pk (vi 4) (fun _ => by kernel_rfl) (T.nil ?_)))
  have hres := Option.some.inj hF
  subst hres
  refine T.ret rfl ?_
  repeat first | refine T.unthen ?_ | refine T.unblock ?_
  exact T.ret1 rfl (ResIs.tmp rfl) fun w' hh => ⟨_, rfl, ⟨A902, c903, V2, hV2, (SlOk.mono hs905 hV2), rfl, (hh.sub (kp1 kpr))⟩⟩
 rw [hc2, cond_false] at hF
 refine T.skip_code ?_
 refine T.seq ?_
 obtain ⟨z4, hX1, hF⟩ := ob hF
 refine T.cut (fun a w' => ∃ (V3 : View), View.le V2 V3 ∧ Fr 96 [(0, pB b901 0), (2, .string p909), (7, vi r1.1), (8, .string r1.2.1), (9, vi r1.2.2.1), (36, .bool z4)] a ∧ Hp w V3 (i48_ :: G900) w') ?_ ?_
 ·
  refine T.region (T.p3 (vi r1.2.2.1) (.bool (r1.2.2.1 == 1)) (.bool (r1.2.2.1 == 1)) (fun _ => by kernel_rfl) ?_)
  cases hg1 : (r1.2.2.1 == 1)
  ·
   skip
   rw [hg1, cond_false] at hX1
   refine T.pk (.string p909) (fun _ => by kernel_rfl) ?_
   obtain ⟨s1, hb2, hX1⟩ := ob hX1
   refine T.look (.string s1) (by kernel_rfl) (fun w' hh => exec_scat rfl rfl rfl hb2) ?_
   refine T.pk (.string p908) (fun _ => by kernel_rfl) ?_
   obtain ⟨s2, hb3, hX1⟩ := ob hX1
   refine T.look (.string s2) (by kernel_rfl) (fun w' hh => exec_scat rfl rfl rfl hb3) ?_
   obtain ⟨r2, hb4, hX1⟩ := ob hX1
   refine T.step (W1.call (vSc eBool) r2 31 #[.string s1, .string s2] (by kernel_rfl) (fun _ => by kernel_rfl) (fun w' hh => strings_HasPrefix_l s1 s2 r2 hb4 w' ) ?_)
   intro u V4 hV4 hu
   obtain rfl := sureBool _ _ _ hu
   refine T.pk (.bool r2) (fun _ => by kernel_rfl) (T.nil ?_)
   cases hX1
   exact fun a w' hf hh => ⟨V4, hV4, (Fr.sel hf rfl), (hh.sub (kp1 kpr))⟩
  skip
  rw [hg1, cond_true] at hX1
  refine T.pass (by kernel_rfl) (by kernel_rfl) (T.pass (by kernel_rfl) (by kernel_rfl) (T.pass (by kernel_rfl) (by kernel_rfl) (T.pass (by kernel_rfl) (by kernel_rfl) (T.pass (by kernel_rfl) (by kernel_rfl) (T.pk (.bool true) (fun _ => by kernel_rfl) (T.nil ?_))))))
  cases hX1
  exact fun a w' hf hh => ⟨V2, vr, (Fr.sel hf rfl), (hh.sub (kp1 kpr))⟩
 rintro a w' ⟨V3, hV3, hf, hh⟩
 refine (?_ : T 96 w V3 (i48_ :: G900) [(0, pB b901 0), (2, .string p909), (7, vi r1.1), (8, .string r1.2.1), (9, vi r1.2.2.1), (36, .bool z4)] _) a w' hf hh
 clear hf hh
 refine T.cond z4 (by kernel_rfl) (by kernel_rfl) (fun hc3 => ?_) (fun hc3 => ?_)
 ·
  rw [hc3, cond_true] at hF
  refine T.seq (T.region (T.pk (vi 1) (fun _ => by kernel_rfl) (T.nil ?_)))
  have hres := Option.some.inj hF
  subst hres
  refine T.ret rfl ?_
  repeat first | refine T.unthen ?_ | refine T.unblock ?_
  exact T.ret1 rfl (ResIs.tmp rfl) fun w' hh => ⟨_, rfl, ⟨A902, c903, V3, (vt hV2 hV3), (SlOk.mono hs905 (vt hV2 hV3)), rfl, (hh.sub (kp1 kpr))⟩⟩
 rw [hc3, cond_false] at hF
 refine T.skip_code ?_
 refine T.seq (T.region (T.p2 (pB b901 0) (.string p909) (fun _ => by kernel_rfl) ?_))
 obtain ⟨r3, hb5, hF⟩ := ob hF
 let a63_ : Value := .tuple #[vi r3.1, .string r3.2.1, vi r3.2.2.1, vi r3.2.2.2]
 refine T.step (W1.callI 51 [pB b901 0, .string p909] (fun v w' => ∃ (V5 : View), View.le V3 V5 ∧ v = a63_ ∧ Hp w V5 (i48_ :: G900) w') (by kernel_rfl) (fun _ => by kernel_rfl) (fun w' hh => fs_FS_parent_fr_l F p904 p906 p907 p909 r3 hb5 w hGl b901 A902 c903 V3 G900 w' (SlOk.mono hs905 (vt hV2 hV3)) (hh.sub (kp1 kpr))) ?_)
 rintro v w' ⟨V5, hV5, rfl, hh⟩
 refine ⟨_, _, hh, ?_⟩
 clear hh
 refine T.p8 a63_ (vi r3.1) (.string r3.2.1) (vi r3.2.2.1) (vi r3.2.2.2) (vi r3.1) (.string r3.2.1) (vi r3.2.2.1) (fun _ => by kernel_rfl) (T.pk (vi r3.2.2.2) (fun _ => by kernel_rfl) (T.nil (T.seq (T.seq (T.region (T.p2 (vi r3.2.2.2) (.bool (r3.2.2.2 != 0)) (fun _ => by kernel_rfl) (T.nil ?_)))))))
 refine T.cond (r3.2.2.2 != 0) (by kernel_rfl) (by kernel_rfl) (fun hc4 => ?_) (fun hc4 => ?_)
 ·
  rw [hc4, cond_true] at hF
  refine T.seq (T.region (T.p2 (vi r3.2.2.2) (vi r3.2.2.2) (fun _ => by kernel_rfl) (T.nil ?_)))
  have hres := Option.some.inj hF
  subst hres
  refine T.ret rfl ?_
  repeat first | refine T.unthen ?_ | refine T.unblock ?_
  exact T.ret1 rfl (ResIs.tmp rfl) fun w' hh => ⟨_, rfl, ⟨A902, c903, V5, (vt (vt hV2 hV3) hV5), (SlOk.mono hs905 (vt (vt hV2 hV3) hV5)), rfl, (hh.sub (kp1 kpr))⟩⟩
 rw [hc4, cond_false] at hF
 refine T.skip_code ?_
 refine T.seq (T.seq (T.region (T.p2 (vi r3.2.2.1) (.bool (r3.2.2.1 != 0)) (fun _ => by kernel_rfl) (T.nil ?_))))
 refine T.cond (r3.2.2.1 != 0) (by kernel_rfl) (by kernel_rfl) (fun hc5 => ?_) (fun hc5 => ?_)
 ·
  rw [hc5, cond_true] at hF
  refine T.seq (T.region (T.pk (vi 5) (fun _ => by kernel_rfl) (T.nil ?_)))
  have hres := Option.some.inj hF
  subst hres
  refine T.ret rfl ?_
  repeat first | refine T.unthen ?_ | refine T.unblock ?_
  exact T.ret1 rfl (ResIs.tmp rfl) fun w' hh => ⟨_, rfl, ⟨A902, c903, V5, (vt (vt hV2 hV3) hV5), (SlOk.mono hs905 (vt (vt hV2 hV3) hV5)), rfl, (hh.sub (kp1 kpr))⟩⟩
 rw [hc5, cond_false] at hF
 refine T.skip_code ?_
 refine T.seq (T.region (T.pk (pB b901 0) (fun _ => by kernel_rfl) ?_))
 obtain ⟨z5, hX2, hF⟩ := ob hF
 let v51_ : List Value := [.slice A902 p904.length c903, vi (IntKind.i64.wrap (p906 + 1)), vi z5]
 refine T.step (W1.within 52 [pB b901 0] (fun v w' => ∃ (b1 : Nat), v = pB b1 0 ∧ Hp w V5 ((box b1 86 v51_) :: i48_ :: G900) w') Tryz.func52 rfl rfl (by kernel_rfl) (fun _ => by kernel_rfl) rfl ?_ ?_)
 ·
  refine T.seq (T.region (T.pk (.pointer none) (fun _ => by kernel_rfl) (T.nil (T.seq ?_))))
  refine T.held (i48_ :: []) (by kernel_rfl) ?_
  have w64_ := vt (vt (vt hV900 hV2) hV3) hV5
  refine TA.keep (Hp.old vr w64_ (kp1 kp0) (oB1 ol0)) fun o68_ => ?_
  refine TA.tp 0 (pB b901 0) rfl (fun _ => by kernel_rfl) (fun _ _ _ h => h) o68_ ?_
  refine TA.tp 1 (pB b901 0) rfl (fun _ => by kernel_rfl) (fun _ _ _ h => h) o68_ ?_
  refine TA.tp 2 (pB b901 0) rfl (fun _ => by kernel_rfl) (fun _ _ _ h => h) o68_ ?_
  refine TA.tk 3 (.slice A902 p904.length c903) rfl (by kernel_rfl) (fun _ _ _ h => h) o68_ (ld1 0 rfl rfl (fun _ => by kernel_rfl) (by rfl) rfl) ?_
  refine TA.tp 4 (pB b901 0) rfl (fun _ => by kernel_rfl) (fun _ _ _ h => h) o68_ ?_
  refine TA.tp 5 (pB b901 0) rfl (fun _ => by kernel_rfl) (fun _ _ _ h => h) o68_ ?_
  refine TA.tp 6 (pB b901 1) rfl (fun _ => by kernel_rfl) (fun _ _ _ h => h) o68_ ?_
  refine TA.tk 7 (vi p906) rfl (by kernel_rfl) (fun _ _ _ h => h) o68_ (ld1 0 rfl rfl (fun _ => by kernel_rfl) (by rfl) rfl) ?_
  refine TA.tp 8 (vi (IntKind.i64.wrap (p906 + 1))) rfl (fun _ => by kernel_rfl) (fun _ _ _ h => h) o68_ ?_
  refine TA.tp 9 (.agg #[.slice A902 p904.length c903, vi (IntKind.i64.wrap (p906 + 1)), vi 0]) rfl (fun _ => by kernel_rfl) (fun _ _ _ h => h) o68_ ?_
  refine TA.all [10] (by kernel_rfl) rfl ⟨?_, trivial⟩
  refine TA.br rfl (W1.np 86 [.slice A902 p904.length c903, vi (IntKind.i64.wrap (p906 + 1)), vi 0] (fun _ => by kernel_rfl) (fun b1 => ?_))
  refine TA.onk (Hp.old vr w64_ (dr1 (kp1 kp0)) (oB1 ol0)) fun o69_ => ?_
  refine TA.tp 11 (pB b1 0) rfl (fun _ => by kernel_rfl) (fun _ _ _ h => h) o69_ ?_
  refine TA.done (by kernel_rfl) ?_
  obtain ⟨z6, hX3, hX2⟩ := ob hX2
  let i49_ : HObj := box b1 86 [.slice A902 p904.length c903, vi (IntKind.i64.wrap (p906 + 1)), vi z6]
  refine T.cut (fun a w' => Fr 24 [(3, pB b1 0)] a ∧ Hp w V5 (i49_ :: i48_ :: G900) w') ?_ ?_
  ·
   refine T.seq (T.region (T.p3 (pB b901 0) (pB b901 0) (pB b901 1) (fun _ => by kernel_rfl) (T.look (vi p906) (by kernel_rfl) (ld1 1 rfl rfl (fun _ => by kernel_rfl) (by rfl) rfl) ?_)))
   refine T.pk (.bool (p906 == 2147483647)) (fun _ => by kernel_rfl) (T.nil ?_)
   refine T.cond (p906 == 2147483647) (by kernel_rfl) (by kernel_rfl) (fun hc6 => ?_) (fun hc6 => ?_)
   ·
    rw [hc6, cond_true] at hX3
    refine T.region (T.p3 (pB b1 0) (pB b1 0) (pB b1 2) (fun _ => by kernel_rfl) ?_)
    let v52_ : List Value := [.slice A902 p904.length c903, vi (IntKind.i64.wrap (p906 + 1)), vi 8]
    refine T.step (W1.st 0 v52_ ((box b1 86 v52_) :: i48_ :: G900) [vi 8] (by rfl) rfl rfl rfl rfl rfl rfl (fun _ => by kernel_rfl) ?_)
    refine T.nil ?_
    cases hX3
    exact fun a w' hf hh => ⟨(Fr.sel hf rfl), (hh.sub (kp1 (kp1 kpr)))⟩
   rw [hc6, cond_false] at hX3
   refine T.skip_code ?_
   cases hX3
   exact fun a w' hf hh => ⟨(Fr.sel hf rfl), (hh.sub (kp1 (kp1 kpr)))⟩
  rintro a w' ⟨hf, hh⟩
  refine (?_ : T 24 w V5 (i49_ :: i48_ :: G900) [(3, pB b1 0)] _) a w' hf hh
  clear hf hh
  refine T.seq (T.region (T.p2 (pB b1 0) (pB b1 0) (fun _ => by kernel_rfl) (T.nil ?_)))
  cases hX2
  refine T.ret rfl ?_
  exact T.ret1 rfl (ResIs.tmp rfl) fun w' hh => ⟨_, rfl, ⟨b1, rfl, (hh.sub (kp1 (kp1 kpr)))⟩⟩
 rintro v w' ⟨b1, rfl, hh⟩
 refine ⟨V5, ((box b1 86 v51_) :: i48_ :: G900), hh, ?_⟩
 clear hh
 refine T.pk (pB b1 0) (fun _ => by kernel_rfl) (T.nil ?_)
 obtain ⟨q1, hX4, hF⟩ := ob hF
 refine T.cut (fun a w' => ∃ (z7 : List DElem) (z8 : Int), q1 = (z7, z8) ∧ ∃ (A2 : Option Addr) (c2 : Nat) (V6 : View), View.le V5 V6 ∧ SlOk V6 eElem A2 c2 z7 ∧ Fr 96 [(0, pB b901 0), (9, vi r1.2.2.1), (11, vi r3.1), (12, .string r3.2.1), (14, pB b1 0)] a ∧ Hp w V6 ((box b1 86 [.slice A2 z7.length c2, vi (IntKind.i64.wrap (p906 + 1)), vi z8]) :: i48_ :: G900) w') ?_ ?_
 ·
  refine T.seq (T.region (T.p3 (pB b1 0) (pB b1 0) (pB b1 2) (fun _ => by kernel_rfl) (T.look (vi z5) (by kernel_rfl) (ld1 0 rfl rfl (fun _ => by kernel_rfl) (by rfl) rfl) ?_)))
  refine T.pk (.bool (z5 == 0)) (fun _ => by kernel_rfl) (T.nil ?_)
  refine T.cond (z5 == 0) (by kernel_rfl) (by kernel_rfl) (fun hc7 => ?_) (fun hc7 => ?_)
  ·
   rw [hc7, cond_true] at hX4
   obtain ⟨r4, hb6, hX4⟩ := ob hX4
   obtain ⟨z9, hX5, hX4⟩ := ob hX4
   refine T.mid (fun a w' => ∃ (A5 : Option Addr) (c5 : Nat) (V9 : View), View.le V5 V9 ∧ SlOk V9 eElem A5 c5 z9 ∧ Fr 96 [(0, pB b901 0), (9, vi r1.2.2.1), (11, vi r3.1), (12, .string r3.2.1), (14, pB b1 0)] a ∧ Hp w V9 ((box b1 86 [.slice A5 z9.length c5, vi (IntKind.i64.wrap (p906 + 1)), vi r4.2]) :: i48_ :: G900) w') ?_ ?_
   ·
    refine T.held (i48_ :: []) (by kernel_rfl) ?_
    have w65_ := vt (vt (vt hV900 hV2) hV3) hV5
    refine TA.keep (Hp.old vr w65_ (dr1 (kp1 kp0)) (oB1 ol0)) fun o70_ => ?_
    refine TA.tp 0 (pB b1 0) rfl (fun _ => by kernel_rfl) (fun _ _ _ h => h) o70_ ?_
    refine TA.tp 1 (pB b1 0) rfl (fun _ => by kernel_rfl) (fun _ _ _ h => h) o70_ ?_
    refine TA.tp 2 (pB b1 0) rfl (fun _ => by kernel_rfl) (fun _ _ _ h => h) o70_ ?_
    refine TA.tp 3 (pB b1 0) rfl (fun _ => by kernel_rfl) (fun _ _ _ h => h) o70_ ?_
    refine TA.tp 5 (vi r1.1) rfl (fun _ => by kernel_rfl) (fun _ _ _ h => h) o70_ ?_
    refine TA.tp 6 (.string r1.2.1) rfl (fun _ => by kernel_rfl) (fun _ _ _ h => h) o70_ ?_
    refine TA.tp 7 (pB b1 0) rfl (fun _ => by kernel_rfl) (fun _ _ _ h => h) o70_ ?_
    refine TA.tp 8 (pB b1 0) rfl (fun _ => by kernel_rfl) (fun _ _ _ h => h) o70_ ?_
    refine TA.tp 9 (pB b1 1) rfl (fun _ => by kernel_rfl) (fun _ _ _ h => h) o70_ ?_
    refine TA.all [4, 10] (by kernel_rfl) rfl ⟨?_, ?_, trivial⟩
    ·
     refine TA.br rfl (W1.look (.slice A902 p904.length c903) (by kernel_rfl) (ld1 0 rfl rfl (fun _ => by kernel_rfl) (by rfl) rfl) ?_)
     refine TA.on (Hp.old vr w65_ (dr1 (kp1 kp0)) (oB1 ol0)) ?_
     refine TA.all [10] (by kernel_rfl) rfl ⟨?_, trivial⟩
     refine TA.br rfl (W1.look (vi (IntKind.i64.wrap (p906 + 1))) (by kernel_rfl) (ld1 0 rfl rfl (fun _ => by kernel_rfl) (by rfl) rfl) ?_)
     refine TA.on (Hp.old vr w65_ (dr1 (kp1 kp0)) (oB1 ol0)) ?_
     refine TA.all [11] (by kernel_rfl) rfl ⟨?_, trivial⟩
     refine TA.br rfl (W1.call (vT2 (vSc (eList eElem)) (vSc eInt)) r4 56 #[.slice A902 p904.length c903, vi 0, vi r1.1, .string r1.2.1, vi (IntKind.i64.wrap (p906 + 1))] (by kernel_rfl) (fun _ => by kernel_rfl) (fun w' hh => dir_Drop_l F p904 0 r1.1 r1.2.1 (IntKind.i64.wrap (p906 + 1)) r4 hb6 w' (Glob.mono hGl (vt hh.base hh.view)) A902 c903 (SlOk.mono (SlOk.mono hs905 (vt (vt hV2 hV3) hV5)) hh.view)) ?_)
     intro u V7 hV7 hu
     obtain ⟨u1, u2, rfl, hu1, hu2⟩ := vT2_elim hu
     obtain ⟨A3, c3, rfl, hs3⟩ := vlist_elim hu1
     obtain rfl := sureInt _ _ _ hu2
     refine TA.onk (Hp.old hV7 w65_ (dr1 (kp1 kp0)) (oB1 ol0)) fun o71_ => ?_
     refine TA.tp 12 (.slice A3 r4.1.length c3) rfl (fun _ => by kernel_rfl) (fun _ _ _ h => h) o71_ ?_
     refine TA.tp 13 (vi r4.2) rfl (fun _ => by kernel_rfl) (fun _ _ _ h => h) o71_ ?_
     refine TA.all [14] (by kernel_rfl) rfl ⟨?_, trivial⟩
     refine TA.br rfl (W1.within 55 [pB b1 0, .slice A3 r4.1.length c3, vi r4.2] (fun v w' => ∃ (A4 : Option Addr) (c4 : Nat) (V8 : View), View.le V7 V8 ∧ SlOk V8 eElem A4 c4 z9 ∧ v = .tuple #[] ∧ Hp w V8 ((box b1 86 [.slice A4 z9.length c4, vi (IntKind.i64.wrap (p906 + 1)), vi r4.2]) :: i48_ :: G900) w') Tryz.func55 rfl rfl (by kernel_rfl) (fun _ => by kernel_rfl) rfl ?_ ?_)
     ·
      refine T.seq (T.seq (T.region (T.p3 (pB b1 0) (pB b1 0) (pB b1 2) (fun _ => by kernel_rfl) (T.look (vi z5) (by kernel_rfl) (ld1 0 rfl rfl (fun _ => by kernel_rfl) (by rfl) rfl) ?_))))
      refine T.pk (.bool (z5 == 0)) (fun _ => by kernel_rfl) (T.nil ?_)
      refine T.cond (z5 == 0) (by kernel_rfl) (by kernel_rfl) (fun _ => ?_) (fun h => absurd (hc7.symm.trans h) (by decide))
      refine T.region (T.p4 (pB b1 0) (vi r4.2) (pB b1 0) (pB b1 2) (fun _ => by kernel_rfl) ?_)
      let v53_ : List Value := [.slice A902 p904.length c903, vi (IntKind.i64.wrap (p906 + 1)), vi r4.2]
      refine T.step (W1.st 0 v53_ ((box b1 86 v53_) :: i48_ :: G900) [vi r4.2] (by rfl) rfl rfl rfl rfl rfl rfl (fun _ => by kernel_rfl) ?_)
      refine T.nil (T.seq (T.region (T.p3 (pB b1 0) (pB b1 0) (pB b1 2) (fun _ => by kernel_rfl) (T.look (vi r4.2) (by kernel_rfl) (ld1 0 rfl rfl (fun _ => by kernel_rfl) (by rfl) rfl) ?_))))
      refine T.pk (.bool (r4.2 == 0)) (fun _ => by kernel_rfl) (T.nil ?_)
      refine T.cond (r4.2 == 0) (by kernel_rfl) (by kernel_rfl) (fun hc8 => ?_) (fun hc8 => ?_)
      ·
       rw [hc8, cond_true] at hX5
       refine T.region (T.p4 (pB b1 0) (.slice A3 r4.1.length c3) (pB b1 0) (pB b1 0) (fun _ => by kernel_rfl) ?_)
       let v54_ : List Value := [.slice A3 r4.1.length c3, vi (IntKind.i64.wrap (p906 + 1)), vi r4.2]
       refine T.step (W1.st 0 v54_ ((box b1 86 v54_) :: i48_ :: G900) [.slice A3 r4.1.length c3] (by rfl) rfl rfl rfl rfl rfl rfl (fun _ => by kernel_rfl) ?_)
       refine T.nil ?_
       cases hX5
       repeat first | refine T.unthen ?_ | refine T.unblock ?_
       exact T.end0 rfl fun w' hh => ⟨_, rfl, ⟨A3, c3, V7, vr, (SlOk.mono hs3 (vt (made_le _ _) vr)), rfl, (hh.sub (kp1 (kp1 kpr)))⟩⟩
      rw [hc8, cond_false] at hX5
      refine T.skip_code ?_
      cases hX5
      repeat first | refine T.unthen ?_ | refine T.unblock ?_
      exact T.end0 rfl fun w' hh => ⟨_, rfl, ⟨A902, c903, V7, vr, (SlOk.mono hs905 (vt (vt (vt hV2 hV3) hV5) hV7)), rfl, (hh.sub (kp1 (kp1 kpr)))⟩⟩
     rintro v w' ⟨A4, c4, V8, hV8, hs4, rfl, hh⟩
     refine ⟨V8, ((box b1 86 [.slice A4 z9.length c4, vi (IntKind.i64.wrap (p906 + 1)), vi r4.2]) :: i48_ :: G900), hh, ?_⟩
     clear hh
     refine TA.on (Hp.old (vt hV7 hV8) w65_ (dr1 (kp1 kp0)) (oB1 ol0)) ?_
     refine TA.done (by kernel_rfl) ?_
     exact fun a w' hf hh => ⟨A4, c4, V8, (vt hV7 hV8), hs4, (Fr.sel hf rfl), (hh.sub (kp1 (kp1 kpr)))⟩
    refine TA.br rfl (W1.look (vi (IntKind.i64.wrap (p906 + 1))) (by kernel_rfl) (ld1 0 rfl rfl (fun _ => by kernel_rfl) (by rfl) rfl) ?_)
    refine TA.on (Hp.old vr w65_ (dr1 (kp1 kp0)) (oB1 ol0)) ?_
    refine TA.all [4] (by kernel_rfl) rfl ⟨?_, trivial⟩
    refine TA.br rfl (W1.look (.slice A902 p904.length c903) (by kernel_rfl) (ld1 0 rfl rfl (fun _ => by kernel_rfl) (by rfl) rfl) ?_)
    refine TA.on (Hp.old vr w65_ (dr1 (kp1 kp0)) (oB1 ol0)) ?_
    refine TA.all [11] (by kernel_rfl) rfl ⟨?_, trivial⟩
    refine TA.br rfl (W1.call (vT2 (vSc (eList eElem)) (vSc eInt)) r4 56 #[.slice A902 p904.length c903, vi 0, vi r1.1, .string r1.2.1, vi (IntKind.i64.wrap (p906 + 1))] (by kernel_rfl) (fun _ => by kernel_rfl) (fun w' hh => dir_Drop_l F p904 0 r1.1 r1.2.1 (IntKind.i64.wrap (p906 + 1)) r4 hb6 w' (Glob.mono hGl (vt hh.base hh.view)) A902 c903 (SlOk.mono (SlOk.mono hs905 (vt (vt hV2 hV3) hV5)) hh.view)) ?_)
    intro u V7 hV7 hu
    obtain ⟨u1, u2, rfl, hu1, hu2⟩ := vT2_elim hu
    obtain ⟨A3, c3, rfl, hs3⟩ := vlist_elim hu1
    obtain rfl := sureInt _ _ _ hu2
    refine TA.onk (Hp.old hV7 w65_ (dr1 (kp1 kp0)) (oB1 ol0)) fun o72_ => ?_
    refine TA.tp 12 (.slice A3 r4.1.length c3) rfl (fun _ => by kernel_rfl) (fun _ _ _ h => h) o72_ ?_
    refine TA.tp 13 (vi r4.2) rfl (fun _ => by kernel_rfl) (fun _ _ _ h => h) o72_ ?_
    refine TA.all [14] (by kernel_rfl) rfl ⟨?_, trivial⟩
    refine TA.br rfl (W1.within 55 [pB b1 0, .slice A3 r4.1.length c3, vi r4.2] (fun v w' => ∃ (A4 : Option Addr) (c4 : Nat) (V8 : View), View.le V7 V8 ∧ SlOk V8 eElem A4 c4 z9 ∧ v = .tuple #[] ∧ Hp w V8 ((box b1 86 [.slice A4 z9.length c4, vi (IntKind.i64.wrap (p906 + 1)), vi r4.2]) :: i48_ :: G900) w') Tryz.func55 rfl rfl (by kernel_rfl) (fun _ => by kernel_rfl) rfl ?_ ?_)
    ·
     refine T.seq (T.seq (T.region (T.p3 (pB b1 0) (pB b1 0) (pB b1 2) (fun _ => by kernel_rfl) (T.look (vi z5) (by kernel_rfl) (ld1 0 rfl rfl (fun _ => by kernel_rfl) (by rfl) rfl) ?_))))
     refine T.pk (.bool (z5 == 0)) (fun _ => by kernel_rfl) (T.nil ?_)
     refine T.cond (z5 == 0) (by kernel_rfl) (by kernel_rfl) (fun _ => ?_) (fun h => absurd (hc7.symm.trans h) (by decide))
     refine T.region (T.p4 (pB b1 0) (vi r4.2) (pB b1 0) (pB b1 2) (fun _ => by kernel_rfl) ?_)
     let v55_ : List Value := [.slice A902 p904.length c903, vi (IntKind.i64.wrap (p906 + 1)), vi r4.2]
     refine T.step (W1.st 0 v55_ ((box b1 86 v55_) :: i48_ :: G900) [vi r4.2] (by rfl) rfl rfl rfl rfl rfl rfl (fun _ => by kernel_rfl) ?_)
     refine T.nil (T.seq (T.region (T.p3 (pB b1 0) (pB b1 0) (pB b1 2) (fun _ => by kernel_rfl) (T.look (vi r4.2) (by kernel_rfl) (ld1 0 rfl rfl (fun _ => by kernel_rfl) (by rfl) rfl) ?_))))
     refine T.pk (.bool (r4.2 == 0)) (fun _ => by kernel_rfl) (T.nil ?_)
     refine T.cond (r4.2 == 0) (by kernel_rfl) (by kernel_rfl) (fun hc8 => ?_) (fun hc8 => ?_)
     ·
      rw [hc8, cond_true] at hX5
      refine T.region (T.p4 (pB b1 0) (.slice A3 r4.1.length c3) (pB b1 0) (pB b1 0) (fun _ => by kernel_rfl) ?_)
      let v56_ : List Value := [.slice A3 r4.1.length c3, vi (IntKind.i64.wrap (p906 + 1)), vi r4.2]
      refine T.step (W1.st 0 v56_ ((box b1 86 v56_) :: i48_ :: G900) [.slice A3 r4.1.length c3] (by rfl) rfl rfl rfl rfl rfl rfl (fun _ => by kernel_rfl) ?_)
      refine T.nil ?_
      cases hX5
      repeat first | refine T.unthen ?_ | refine T.unblock ?_
      exact T.end0 rfl fun w' hh => ⟨_, rfl, ⟨A3, c3, V7, vr, (SlOk.mono hs3 (vt (made_le _ _) vr)), rfl, (hh.sub (kp1 (kp1 kpr)))⟩⟩
     rw [hc8, cond_false] at hX5
     refine T.skip_code ?_
     cases hX5
     repeat first | refine T.unthen ?_ | refine T.unblock ?_
     exact T.end0 rfl fun w' hh => ⟨_, rfl, ⟨A902, c903, V7, vr, (SlOk.mono hs905 (vt (vt (vt hV2 hV3) hV5) hV7)), rfl, (hh.sub (kp1 (kp1 kpr)))⟩⟩
    rintro v w' ⟨A4, c4, V8, hV8, hs4, rfl, hh⟩
    refine ⟨V8, ((box b1 86 [.slice A4 z9.length c4, vi (IntKind.i64.wrap (p906 + 1)), vi r4.2]) :: i48_ :: G900), hh, ?_⟩
    clear hh
    refine TA.on (Hp.old (vt hV7 hV8) w65_ (dr1 (kp1 kp0)) (oB1 ol0)) ?_
    refine TA.done (by kernel_rfl) ?_
    exact fun a w' hf hh => ⟨A4, c4, V8, (vt hV7 hV8), hs4, (Fr.sel hf rfl), (hh.sub (kp1 (kp1 kpr)))⟩
   rintro a w' ⟨A5, c5, V9, hV9, hs5, hf, hh⟩
   refine (?_ : T 96 w V9 ((box b1 86 [.slice A5 z9.length c5, vi (IntKind.i64.wrap (p906 + 1)), vi r4.2]) :: i48_ :: G900) [(0, pB b901 0), (9, vi r1.2.2.1), (11, vi r3.1), (12, .string r3.2.1), (14, pB b1 0)] _) a w' hf hh
   clear hf hh
   cases hX4
   exact fun a w' hf hh => ⟨z9, r4.2, rfl, A5, c5, V9, hV9, hs5, (Fr.sel hf rfl), (hh.sub (kp1 (kp1 kpr)))⟩
  rw [hc7, cond_false] at hX4
  refine T.skip_code ?_
  cases hX4
  exact fun a w' hf hh => ⟨p904, z5, rfl, A902, c903, V5, vr, (SlOk.mono hs905 (vt (vt hV2 hV3) hV5)), (Fr.sel hf rfl), (hh.sub (kp1 (kp1 kpr)))⟩
 rintro a w' ⟨z7, z8, rfl, A2, c2, V6, hV6, hs2, hf, hh⟩
 try dsimp only at hF
 refine (?_ : T 96 w V6 ((box b1 86 [.slice A2 z7.length c2, vi (IntKind.i64.wrap (p906 + 1)), vi z8]) :: i48_ :: G900) [(0, pB b901 0), (9, vi r1.2.2.1), (11, vi r3.1), (12, .string r3.2.1), (14, pB b1 0)] _) a w' hf hh
 clear hf hh
 obtain ⟨q2, hX6, hF⟩ := ob hF
 refine T.cut (fun a w' => ∃ (z10 : List DElem) (z11 : Int), q2 = (z10, z11) ∧ ∃ (A6 : Option Addr) (c6 : Nat) (V10 : View), View.le V6 V10 ∧ SlOk V10 eElem A6 c6 z10 ∧ Fr 96 [(0, pB b901 0), (14, pB b1 0)] a ∧ Hp w V10 ((box b1 86 [.slice A6 z10.length c6, vi (IntKind.i64.wrap (p906 + 1)), vi z11]) :: i48_ :: G900) w') ?_ ?_
 ·
  refine T.seq (T.region (T.p3 (pB b1 0) (pB b1 0) (pB b1 2) (fun _ => by kernel_rfl) (T.look (vi z8) (by kernel_rfl) (ld1 0 rfl rfl (fun _ => by kernel_rfl) (by rfl) rfl) ?_)))
  refine T.pk (.bool (z8 == 0)) (fun _ => by kernel_rfl) (T.nil ?_)
  refine T.cond (z8 == 0) (by kernel_rfl) (by kernel_rfl) (fun hc9 => ?_) (fun hc9 => ?_)
  ·
   rw [hc9, cond_true] at hX6
   obtain ⟨r5, hb7, hX6⟩ := ob hX6
   obtain ⟨z12, hX7, hX6⟩ := ob hX6
   refine T.mid (fun a w' => ∃ (A9 : Option Addr) (c9 : Nat) (V13 : View), View.le V6 V13 ∧ SlOk V13 eElem A9 c9 z12 ∧ Fr 96 [(0, pB b901 0), (14, pB b1 0)] a ∧ Hp w V13 ((box b1 86 [.slice A9 z12.length c9, vi (IntKind.i64.wrap (p906 + 1)), vi r5.2]) :: i48_ :: G900) w') ?_ ?_
   ·
    refine T.held (i48_ :: []) (by kernel_rfl) ?_
    have w66_ := vt (vt (vt (vt hV900 hV2) hV3) hV5) hV6
    refine TA.keep (Hp.old vr w66_ (dr1 (kp1 kp0)) (oB1 ol0)) fun o73_ => ?_
    refine TA.tp 0 (pB b1 0) rfl (fun _ => by kernel_rfl) (fun _ _ _ h => h) o73_ ?_
    refine TA.tp 1 (pB b1 0) rfl (fun _ => by kernel_rfl) (fun _ _ _ h => h) o73_ ?_
    refine TA.tp 2 (pB b1 0) rfl (fun _ => by kernel_rfl) (fun _ _ _ h => h) o73_ ?_
    refine TA.tp 3 (pB b1 0) rfl (fun _ => by kernel_rfl) (fun _ _ _ h => h) o73_ ?_
    refine TA.tp 5 (vi r3.1) rfl (fun _ => by kernel_rfl) (fun _ _ _ h => h) o73_ ?_
    refine TA.tp 6 (.string r3.2.1) rfl (fun _ => by kernel_rfl) (fun _ _ _ h => h) o73_ ?_
    refine TA.tp 7 (vi r1.2.2.1) rfl (fun _ => by kernel_rfl) (fun _ _ _ h => h) o73_ ?_
    refine TA.tp 8 (pB b1 0) rfl (fun _ => by kernel_rfl) (fun _ _ _ h => h) o73_ ?_
    refine TA.tp 9 (pB b1 0) rfl (fun _ => by kernel_rfl) (fun _ _ _ h => h) o73_ ?_
    refine TA.tp 10 (pB b1 1) rfl (fun _ => by kernel_rfl) (fun _ _ _ h => h) o73_ ?_
    refine TA.all [4, 11] (by kernel_rfl) rfl ⟨?_, ?_, trivial⟩
    ·
     refine TA.br rfl (W1.look (.slice A2 z7.length c2) (by kernel_rfl) (ld1 0 rfl rfl (fun _ => by kernel_rfl) (by rfl) rfl) ?_)
     refine TA.on (Hp.old vr w66_ (dr1 (kp1 kp0)) (oB1 ol0)) ?_
     refine TA.all [11] (by kernel_rfl) rfl ⟨?_, trivial⟩
     refine TA.br rfl (W1.look (vi (IntKind.i64.wrap (p906 + 1))) (by kernel_rfl) (ld1 0 rfl rfl (fun _ => by kernel_rfl) (by rfl) rfl) ?_)
     refine TA.on (Hp.old vr w66_ (dr1 (kp1 kp0)) (oB1 ol0)) ?_
     refine TA.all [12] (by kernel_rfl) rfl ⟨?_, trivial⟩
     refine TA.br rfl (W1.call (vT2 (vSc (eList eElem)) (vSc eInt)) r5 57 #[.slice A2 z7.length c2, vi 0, vi r3.1, .string r3.2.1, vi r1.2.2.1, vi (IntKind.i64.wrap (p906 + 1))] (by kernel_rfl) (fun _ => by kernel_rfl) (fun w' hh => dir_Add_l F z7 0 r3.1 r3.2.1 r1.2.2.1 (IntKind.i64.wrap (p906 + 1)) r5 hb7 w' (Glob.mono hGl (vt hh.base hh.view)) A2 c2 (SlOk.mono hs2 hh.view)) ?_)
     intro u V11 hV11 hu
     obtain ⟨u3, u4, rfl, hu3, hu4⟩ := vT2_elim hu
     obtain ⟨A7, c7, rfl, hs7⟩ := vlist_elim hu3
     obtain rfl := sureInt _ _ _ hu4
     refine TA.onk (Hp.old hV11 w66_ (dr1 (kp1 kp0)) (oB1 ol0)) fun o74_ => ?_
     refine TA.tp 13 (.slice A7 r5.1.length c7) rfl (fun _ => by kernel_rfl) (fun _ _ _ h => h) o74_ ?_
     refine TA.tp 14 (vi r5.2) rfl (fun _ => by kernel_rfl) (fun _ _ _ h => h) o74_ ?_
     refine TA.all [15] (by kernel_rfl) rfl ⟨?_, trivial⟩
     refine TA.br rfl (W1.within 55 [pB b1 0, .slice A7 r5.1.length c7, vi r5.2] (fun v w' => ∃ (A8 : Option Addr) (c8 : Nat) (V12 : View), View.le V11 V12 ∧ SlOk V12 eElem A8 c8 z12 ∧ v = .tuple #[] ∧ Hp w V12 ((box b1 86 [.slice A8 z12.length c8, vi (IntKind.i64.wrap (p906 + 1)), vi r5.2]) :: i48_ :: G900) w') Tryz.func55 rfl rfl (by kernel_rfl) (fun _ => by kernel_rfl) rfl ?_ ?_)
     ·
      refine T.seq (T.seq (T.region (T.p3 (pB b1 0) (pB b1 0) (pB b1 2) (fun _ => by kernel_rfl) (T.look (vi z8) (by kernel_rfl) (ld1 0 rfl rfl (fun _ => by kernel_rfl) (by rfl) rfl) ?_))))
      refine T.pk (.bool (z8 == 0)) (fun _ => by kernel_rfl) (T.nil ?_)
      refine T.cond (z8 == 0) (by kernel_rfl) (by kernel_rfl) (fun _ => ?_) (fun h => absurd (hc9.symm.trans h) (by decide))
      refine T.region (T.p4 (pB b1 0) (vi r5.2) (pB b1 0) (pB b1 2) (fun _ => by kernel_rfl) ?_)
      let v57_ : List Value := [.slice A2 z7.length c2, vi (IntKind.i64.wrap (p906 + 1)), vi r5.2]
      refine T.step (W1.st 0 v57_ ((box b1 86 v57_) :: i48_ :: G900) [vi r5.2] (by rfl) rfl rfl rfl rfl rfl rfl (fun _ => by kernel_rfl) ?_)
      refine T.nil (T.seq (T.region (T.p3 (pB b1 0) (pB b1 0) (pB b1 2) (fun _ => by kernel_rfl) (T.look (vi r5.2) (by kernel_rfl) (ld1 0 rfl rfl (fun _ => by kernel_rfl) (by rfl) rfl) ?_))))
      refine T.pk (.bool (r5.2 == 0)) (fun _ => by kernel_rfl) (T.nil ?_)
      refine T.cond (r5.2 == 0) (by kernel_rfl) (by kernel_rfl) (fun hc10 => ?_) (fun hc10 => ?_)
      ·
       rw [hc10, cond_true] at hX7
       refine T.region (T.p4 (pB b1 0) (.slice A7 r5.1.length c7) (pB b1 0) (pB b1 0) (fun _ => by kernel_rfl) ?_)
       let v58_ : List Value := [.slice A7 r5.1.length c7, vi (IntKind.i64.wrap (p906 + 1)), vi r5.2]
       refine T.step (W1.st 0 v58_ ((box b1 86 v58_) :: i48_ :: G900) [.slice A7 r5.1.length c7] (by rfl) rfl rfl rfl rfl rfl rfl (fun _ => by kernel_rfl) ?_)
       refine T.nil ?_
       cases hX7
       repeat first | refine T.unthen ?_ | refine T.unblock ?_
       exact T.end0 rfl fun w' hh => ⟨_, rfl, ⟨A7, c7, V11, vr, (SlOk.mono hs7 (vt (made_le _ _) vr)), rfl, (hh.sub (kp1 (kp1 kpr)))⟩⟩
      rw [hc10, cond_false] at hX7
      refine T.skip_code ?_
      cases hX7
      repeat first | refine T.unthen ?_ | refine T.unblock ?_
      exact T.end0 rfl fun w' hh => ⟨_, rfl, ⟨A2, c2, V11, vr, (SlOk.mono hs2 hV11), rfl, (hh.sub (kp1 (kp1 kpr)))⟩⟩
     rintro v w' ⟨A8, c8, V12, hV12, hs8, rfl, hh⟩
     refine ⟨V12, ((box b1 86 [.slice A8 z12.length c8, vi (IntKind.i64.wrap (p906 + 1)), vi r5.2]) :: i48_ :: G900), hh, ?_⟩
     clear hh
     refine TA.on (Hp.old (vt hV11 hV12) w66_ (dr1 (kp1 kp0)) (oB1 ol0)) ?_
     refine TA.done (by kernel_rfl) ?_
     exact fun a w' hf hh => ⟨A8, c8, V12, (vt hV11 hV12), hs8, (Fr.sel hf rfl), (hh.sub (kp1 (kp1 kpr)))⟩
    refine TA.br rfl (W1.look (vi (IntKind.i64.wrap (p906 + 1))) (by kernel_rfl) (ld1 0 rfl rfl (fun _ => by kernel_rfl) (by rfl) rfl) ?_)
    refine TA.on (Hp.old vr w66_ (dr1 (kp1 kp0)) (oB1 ol0)) ?_
    refine TA.all [4] (by kernel_rfl) rfl ⟨?_, trivial⟩
    refine TA.br rfl (W1.look (.slice A2 z7.length c2) (by kernel_rfl) (ld1 0 rfl rfl (fun _ => by kernel_rfl) (by rfl) rfl) ?_)
    refine TA.on (Hp.old vr w66_ (dr1 (kp1 kp0)) (oB1 ol0)) ?_
    refine TA.all [12] (by kernel_rfl) rfl ⟨?_, trivial⟩
    refine TA.br rfl (W1.call (vT2 (vSc (eList eElem)) (vSc eInt)) r5 57 #[.slice A2 z7.length c2, vi 0, vi r3.1, .string r3.2.1, vi r1.2.2.1, vi (IntKind.i64.wrap (p906 + 1))] (by kernel_rfl) (fun _ => by kernel_rfl) (fun w' hh => dir_Add_l F z7 0 r3.1 r3.2.1 r1.2.2.1 (IntKind.i64.wrap (p906 + 1)) r5 hb7 w' (Glob.mono hGl (vt hh.base hh.view)) A2 c2 (SlOk.mono hs2 hh.view)) ?_)
    intro u V11 hV11 hu
    obtain ⟨u3, u4, rfl, hu3, hu4⟩ := vT2_elim hu
    obtain ⟨A7, c7, rfl, hs7⟩ := vlist_elim hu3
    obtain rfl := sureInt _ _ _ hu4
    refine TA.onk (Hp.old hV11 w66_ (dr1 (kp1 kp0)) (oB1 ol0)) fun o75_ => ?_
    refine TA.tp 13 (.slice A7 r5.1.length c7) rfl (fun _ => by kernel_rfl) (fun _ _ _ h => h) o75_ ?_
    refine TA.tp 14 (vi r5.2) rfl (fun _ => by kernel_rfl) (fun _ _ _ h => h) o75_ ?_
    refine TA.all [15] (by kernel_rfl) rfl ⟨?_, trivial⟩
    refine TA.br rfl (W1.within 55 [pB b1 0, .slice A7 r5.1.length c7, vi r5.2] (fun v w' => ∃ (A8 : Option Addr) (c8 : Nat) (V12 : View), View.le V11 V12 ∧ SlOk V12 eElem A8 c8 z12 ∧ v = .tuple #[] ∧ Hp w V12 ((box b1 86 [.slice A8 z12.length c8, vi (IntKind.i64.wrap (p906 + 1)), vi r5.2]) :: i48_ :: G900) w') Tryz.func55 rfl rfl (by kernel_rfl) (fun _ => by kernel_rfl) rfl ?_ ?_)
    ·
     refine T.seq (T.seq (T.region (T.p3 (pB b1 0) (pB b1 0) (pB b1 2) (fun _ => by kernel_rfl) (T.look (vi z8) (by kernel_rfl) (ld1 0 rfl rfl (fun _ => by kernel_rfl) (by rfl) rfl) ?_))))
     refine T.pk (.bool (z8 == 0)) (fun _ => by kernel_rfl) (T.nil ?_)
     refine T.cond (z8 == 0) (by kernel_rfl) (by kernel_rfl) (fun _ => ?_) (fun h => absurd (hc9.symm.trans h) (by decide))
     refine T.region (T.p4 (pB b1 0) (vi r5.2) (pB b1 0) (pB b1 2) (fun _ => by kernel_rfl) ?_)
     let v59_ : List Value := [.slice A2 z7.length c2, vi (IntKind.i64.wrap (p906 + 1)), vi r5.2]
     refine T.step (W1.st 0 v59_ ((box b1 86 v59_) :: i48_ :: G900) [vi r5.2] (by rfl) rfl rfl rfl rfl rfl rfl (fun _ => by kernel_rfl) ?_)
     refine T.nil (T.seq (T.region (T.p3 (pB b1 0) (pB b1 0) (pB b1 2) (fun _ => by kernel_rfl) (T.look (vi r5.2) (by kernel_rfl) (ld1 0 rfl rfl (fun _ => by kernel_rfl) (by rfl) rfl) ?_))))
     refine T.pk (.bool (r5.2 == 0)) (fun _ => by kernel_rfl) (T.nil ?_)
     refine T.cond (r5.2 == 0) (by kernel_rfl) (by kernel_rfl) (fun hc10 => ?_) (fun hc10 => ?_)
     ·
      rw [hc10, cond_true] at hX7
      refine T.region (T.p4 (pB b1 0) (.slice A7 r5.1.length c7) (pB b1 0) (pB b1 0) (fun _ => by kernel_rfl) ?_)
      let v60_ : List Value := [.slice A7 r5.1.length c7, vi (IntKind.i64.wrap (p906 + 1)), vi r5.2]
      refine T.step (W1.st 0 v60_ ((box b1 86 v60_) :: i48_ :: G900) [.slice A7 r5.1.length c7] (by rfl) rfl rfl rfl rfl rfl rfl (fun _ => by kernel_rfl) ?_)
      refine T.nil ?_
      cases hX7
      repeat first | refine T.unthen ?_ | refine T.unblock ?_
      exact T.end0 rfl fun w' hh => ⟨_, rfl, ⟨A7, c7, V11, vr, (SlOk.mono hs7 (vt (made_le _ _) vr)), rfl, (hh.sub (kp1 (kp1 kpr)))⟩⟩
     rw [hc10, cond_false] at hX7
     refine T.skip_code ?_
     cases hX7
     repeat first | refine T.unthen ?_ | refine T.unblock ?_
     exact T.end0 rfl fun w' hh => ⟨_, rfl, ⟨A2, c2, V11, vr, (SlOk.mono hs2 hV11), rfl, (hh.sub (kp1 (kp1 kpr)))⟩⟩
    rintro v w' ⟨A8, c8, V12, hV12, hs8, rfl, hh⟩
    refine ⟨V12, ((box b1 86 [.slice A8 z12.length c8, vi (IntKind.i64.wrap (p906 + 1)), vi r5.2]) :: i48_ :: G900), hh, ?_⟩
    clear hh
    refine TA.on (Hp.old (vt hV11 hV12) w66_ (dr1 (kp1 kp0)) (oB1 ol0)) ?_
    refine TA.done (by kernel_rfl) ?_
    exact fun a w' hf hh => ⟨A8, c8, V12, (vt hV11 hV12), hs8, (Fr.sel hf rfl), (hh.sub (kp1 (kp1 kpr)))⟩
   rintro a w' ⟨A9, c9, V13, hV13, hs9, hf, hh⟩
   refine (?_ : T 96 w V13 ((box b1 86 [.slice A9 z12.length c9, vi (IntKind.i64.wrap (p906 + 1)), vi r5.2]) :: i48_ :: G900) [(0, pB b901 0), (14, pB b1 0)] _) a w' hf hh
   clear hf hh
   cases hX6
   exact fun a w' hf hh => ⟨z12, r5.2, rfl, A9, c9, V13, hV13, hs9, (Fr.sel hf rfl), (hh.sub (kp1 (kp1 kpr)))⟩
  rw [hc9, cond_false] at hX6
  refine T.skip_code ?_
  cases hX6
  exact fun a w' hf hh => ⟨z7, z8, rfl, A2, c2, V6, vr, hs2, (Fr.sel hf rfl), (hh.sub (kp1 (kp1 kpr)))⟩
 rintro a w' ⟨z10, z11, rfl, A6, c6, V10, hV10, hs6, hf, hh⟩
 try dsimp only at hF
 let i50_ : HObj := box b1 86 [.slice A6 z10.length c6, vi (IntKind.i64.wrap (p906 + 1)), vi z11]
 refine (?_ : T 96 w V10 (i50_ :: i48_ :: G900) [(0, pB b901 0), (14, pB b1 0)] _) a w' hf hh
 clear hf hh
 refine T.seq (T.region (T.p2 (pB b901 0) (pB b1 0) (fun _ => by kernel_rfl) ?_))
 obtain ⟨q3, hX8, hF⟩ := ob hF
 refine T.step (W1.within 54 [pB b901 0, pB b1 0] (fun v w' => ∃ (z13 : List DElem) (z14 : Int), q3 = (z13, z14) ∧ ∃ (A10 : Option Addr) (c10 : Nat) (V14 : View), View.le V10 V14 ∧ SlOk V14 eElem A10 c10 z13 ∧ v = vi z11 ∧ Hp w V14 (i50_ :: (box b901 78 [.slice A10 z13.length c10, vi z14, vi p907]) :: G900) w') Tryz.func54 rfl rfl (by kernel_rfl) (fun _ => by kernel_rfl) rfl ?_ ?_)
 ·
  refine T.seq (T.region (T.pk (vi 0) (fun _ => by kernel_rfl) (T.nil ?_)))
  obtain ⟨q4, hX9, hX8⟩ := ob hX8
  refine T.cut (fun a w' => ∃ (z15 : List DElem) (z16 : Int), q4 = (z15, z16) ∧ ∃ (A11 : Option Addr) (c11 : Nat) (V15 : View), View.le V10 V15 ∧ SlOk V15 eElem A11 c11 z15 ∧ Fr 28 [(1, pB b1 0)] a ∧ Hp w V15 (i50_ :: (box b901 78 [.slice A11 z15.length c11, vi z16, vi p907]) :: G900) w') ?_ ?_
  ·
   refine T.seq (T.region (T.p3 (pB b1 0) (pB b1 0) (pB b1 2) (fun _ => by kernel_rfl) (T.look (vi z11) (by kernel_rfl) (ld1 0 rfl rfl (fun _ => by kernel_rfl) (by rfl) rfl) ?_)))
   refine T.pk (.bool (z11 == 0)) (fun _ => by kernel_rfl) (T.nil ?_)
   refine T.cond (z11 == 0) (by kernel_rfl) (by kernel_rfl) (fun hc11 => ?_) (fun hc11 => ?_)
   ·
    rw [hc11, cond_true] at hX9
    refine T.held (i50_ :: []) (by kernel_rfl) ?_
    have w67_ := vt (vt (vt (vt (vt hV900 hV2) hV3) hV5) hV6) hV10
    refine TA.keep (Hp.old vr w67_ (kp1 (dr1 kp0)) (oB1 ol0)) fun o76_ => ?_
    refine TA.tp 0 (pB b901 0) rfl (fun _ => by kernel_rfl) (fun _ _ _ h => h) o76_ ?_
    refine TA.tp 1 (pB b901 0) rfl (fun _ => by kernel_rfl) (fun _ _ _ h => h) o76_ ?_
    refine TA.tp 2 (pB b1 0) rfl (fun _ => by kernel_rfl) (fun _ _ _ h => h) o76_ ?_
    refine TA.tp 3 (pB b1 0) rfl (fun _ => by kernel_rfl) (fun _ _ _ h => h) o76_ ?_
    refine TA.tp 4 (pB b1 0) rfl (fun _ => by kernel_rfl) (fun _ _ _ h => h) o76_ ?_
    refine TA.tk 5 (.slice A6 z10.length c6) rfl (by kernel_rfl) (fun _ _ _ h => h) o76_ (ld1 0 rfl rfl (fun _ => by kernel_rfl) (by rfl) rfl) ?_
    refine TA.tp 6 (pB b1 0) rfl (fun _ => by kernel_rfl) (fun _ _ _ h => h) o76_ ?_
    refine TA.tp 7 (pB b1 0) rfl (fun _ => by kernel_rfl) (fun _ _ _ h => h) o76_ ?_
    refine TA.tp 8 (pB b1 1) rfl (fun _ => by kernel_rfl) (fun _ _ _ h => h) o76_ ?_
    refine TA.tk 9 (vi (IntKind.i64.wrap (p906 + 1))) rfl (by kernel_rfl) (fun _ _ _ h => h) o76_ (ld1 0 rfl rfl (fun _ => by kernel_rfl) (by rfl) rfl) ?_
    refine TA.tp 10 (pB b901 0) rfl (fun _ => by kernel_rfl) (fun _ _ _ h => h) o76_ ?_
    refine TA.tp 11 (pB b901 0) rfl (fun _ => by kernel_rfl) (fun _ _ _ h => h) o76_ ?_
    refine TA.all [12] (by kernel_rfl) rfl ⟨?_, trivial⟩
    refine TA.br rfl (W1.st 1 [.slice A6 z10.length c6, vi p906, vi p907] (i50_ :: (box b901 78 [.slice A6 z10.length c6, vi p906, vi p907]) :: G900) [.slice A6 z10.length c6] (by rfl) rfl rfl rfl rfl rfl rfl (fun _ => by kernel_rfl) ?_)
    refine TA.onk (Hp.old vr w67_ (kp1 (dr1 kp0)) (oB1 ol0)) fun o77_ => ?_
    refine TA.tp 13 (pB b901 0) rfl (fun _ => by kernel_rfl) (fun _ _ _ h => h) o77_ ?_
    refine TA.tp 14 (pB b901 1) rfl (fun _ => by kernel_rfl) (fun _ _ _ h => h) o77_ ?_
    refine TA.all [15] (by kernel_rfl) rfl ⟨?_, trivial⟩
    let v61_ : List Value := [.slice A6 z10.length c6, vi (IntKind.i64.wrap (p906 + 1)), vi p907]
    refine TA.br rfl (W1.st 1 v61_ (i50_ :: (box b901 78 v61_) :: G900) [vi (IntKind.i64.wrap (p906 + 1))] (by rfl) rfl rfl rfl rfl rfl rfl (fun _ => by kernel_rfl) ?_)
    refine TA.on (Hp.old vr w67_ (kp1 (dr1 kp0)) (oB1 ol0)) ?_
    refine TA.done (by kernel_rfl) ?_
    cases hX9
    exact fun a w' hf hh => ⟨z10, (IntKind.i64.wrap (p906 + 1)), rfl, A6, c6, V10, vr, hs6, (Fr.sel hf rfl), (hh.sub (kp1 (kp1 kpr)))⟩
   rw [hc11, cond_false] at hX9
   refine T.skip_code ?_
   cases hX9
   exact fun a w' hf hh => ⟨p904, p906, rfl, A902, c903, V10, vr, (SlOk.mono hs905 (vt (vt (vt (vt hV2 hV3) hV5) hV6) hV10)), (Fr.sel hf rfl), (hh.sub (kp1 (kp1 kpr)))⟩
  rintro a w' ⟨z15, z16, rfl, A11, c11, V15, hV15, hs11, hf, hh⟩
  try dsimp only at hX8
  refine (?_ : T 28 w V15 (i50_ :: (box b901 78 [.slice A11 z15.length c11, vi z16, vi p907]) :: G900) [(1, pB b1 0)] _) a w' hf hh
  clear hf hh
  refine T.seq (T.region (T.p3 (pB b1 0) (pB b1 0) (pB b1 2) (fun _ => by kernel_rfl) (T.look (vi z11) (by kernel_rfl) (ld1 0 rfl rfl (fun _ => by kernel_rfl) (by rfl) rfl) ?_)))
  refine T.pk (vi z11) (fun _ => by kernel_rfl) (T.nil ?_)
  cases hX8
  refine T.ret rfl ?_
  exact T.ret1 rfl (ResIs.tmp rfl) fun w' hh => ⟨_, rfl, ⟨z15, z16, rfl, A11, c11, V15, hV15, hs11, rfl, (hh.sub (kp1 (kp1 kpr)))⟩⟩
 rintro v w' ⟨z13, z14, rfl, A10, c10, V14, hV14, hs10, rfl, hh⟩
 try dsimp only at hF
 refine ⟨V14, (i50_ :: (box b901 78 [.slice A10 z13.length c10, vi z14, vi p907]) :: G900), hh, ?_⟩
 clear hh
 refine T.pk (vi z11) (fun _ => by kernel_rfl) (T.nil ?_)
 have hres := Option.some.inj hF
 subst hres
 refine T.ret rfl ?_
 repeat first | refine T.unthen ?_ | refine T.unblock ?_
 exact T.ret1 rfl (ResIs.tmp rfl) fun w' hh => ⟨_, rfl, ⟨A10, c10, V14, (vt (vt (vt (vt (vt hV2 hV3) hV5) hV6) hV10) hV14), hs10, rfl, (hh.sub (dr1 (kp1 kpr)))⟩⟩
set_option maxRecDepth 100000 in
set_option maxHeartbeats 4000000 in
theorem fs_FS_Write_fr_l (F : Nat) (p904 : List DElem) (p906 : Int) (p907 : Int) (p908 : ByteArray) (p909 : ByteArray) (r : (List DElem) × Int × Int × Int) (hF : fs_FS_Write_fr F p904 p906 p907 p908 p909 = some r) (w : World) (hGl : Glob w) (b901 : Nat) (A902 : Option Addr) (c903 : Nat) (V900 : View) (G900 : List HObj) (w1 : World) (hs905 : SlOk V900 eElem A902 c903 p904) (hh : Hp w V900 ((box b901 78 [.slice A902 p904.length c903, .int .i64 p906, .int .i64 p907]) :: G900) w1) :
 Calls Tryz.prog 23 #[.pointer (some ⟨b901, 0, none⟩), .string p908, .string p909] w1 (fun e w2 => ∃ v, e = .returned v ∧ ∃ (A1 : Option Addr) (c1 : Nat) (V1 : View), View.le V900 V1 ∧ SlOk V1 eElem A1 c1 r.1 ∧ v = .int .i64 r.2.2.2 ∧ Hp w V1 ((box b901 78 [.slice A1 r.1.length c1, .int .i64 r.2.1, .int .i64 r.2.2.1]) :: G900) w2) := by
 unfold fs_FS_Write_fr at hF
 have hV900 := hh.base
 refine T.startI (l := [pB b901 0, .string p908, .string p909]) Tryz.func23 rfl rfl rfl ?_ hh
 clear hh
 refine T.seq (T.region (T.pk (vi 0) (fun _ => by kernel_rfl) (T.nil (T.seq (T.region (T.p2 (pB b901 0) (.string p908) (fun _ => by kernel_rfl) ?_))))))
 obtain ⟨r1, hb1, hF⟩ := ob hF
 let i78_ : HObj := box b901 78 [.slice A902 p904.length c903, vi p906, vi p907]
 let a90_ : Value := .tuple #[vi r1.1, .string r1.2.1, vi r1.2.2.1, vi r1.2.2.2]
 refine T.step (W1.callI 51 [pB b901 0, .string p908] (fun v w' => ∃ (V2 : View), View.le V900 V2 ∧ v = a90_ ∧ Hp w V2 (i78_ :: G900) w') (by kernel_rfl) (fun _ => by kernel_rfl) (fun w' hh => fs_FS_parent_fr_l F p904 p906 p907 p908 r1 hb1 w hGl b901 A902 c903 V900 G900 w' hs905 (hh.sub (kp1 kpr))) ?_)
 rintro v w' ⟨V2, hV2, rfl, hh⟩
 refine ⟨_, _, hh, ?_⟩
 clear hh
 refine T.p8 a90_ (vi r1.1) (.string r1.2.1) (vi r1.2.2.1) (vi r1.2.2.2) (vi r1.1) (.string r1.2.1) (vi r1.2.2.1) (fun _ => by kernel_rfl) (T.pk (vi r1.2.2.2) (fun _ => by kernel_rfl) (T.nil (T.seq (T.seq (T.region (T.p2 (vi r1.2.2.2) (.bool (r1.2.2.2 != 0)) (fun _ => by kernel_rfl) (T.nil ?_)))))))
 refine T.cond (r1.2.2.2 != 0) (by kernel_rfl) (by kernel_rfl) (fun hc1 => ?_) (fun hc1 => ?_)
 ·
  rw [hc1, cond_true] at hF
  refine T.seq (T.region (T.p2 (vi r1.2.2.2) (vi r1.2.2.2) (fun _ => by kernel_rfl) (T.nil ?_)))
  have hres := Option.some.inj hF
  subst hres
  refine T.ret rfl ?_
  repeat first | refine T.unthen ?_ | refine T.unblock ?_
  exact T.ret1 rfl (ResIs.tmp rfl) fun w' hh => ⟨_, rfl, ⟨A902, c903, V2, hV2, (SlOk.mono hs905 hV2), rfl, (hh.sub (kp1 kpr))⟩⟩
 rw [hc1, cond_false] at hF
 refine T.skip_code ?_
 refine T.seq ?_
 obtain ⟨z5, hX1, hF⟩ := ob hF
 refine T.cut (fun a w' => ∃ (V3 : View), View.le V2 V3 ∧ Fr 81 [(0, pB b901 0), (2, .string p909), (7, vi r1.1), (8, .string r1.2.1), (9, vi r1.2.2.1), (36, .bool z5)] a ∧ Hp w V3 (i78_ :: G900) w') ?_ ?_
 ·
  refine T.region (T.p3 (vi r1.2.2.1) (.bool (r1.2.2.1 != 0)) (.bool (r1.2.2.1 != 0)) (fun _ => by kernel_rfl) ?_)
  cases hg1 : (r1.2.2.1 != 0)
  ·
   skip
   rw [hg1, cond_false] at hX1
   refine T.pass (by kernel_rfl) (by kernel_rfl) (T.pass (by kernel_rfl) (by kernel_rfl) (T.pass (by kernel_rfl) (by kernel_rfl) (T.pass (by kernel_rfl) (by kernel_rfl) (T.pass (by kernel_rfl) (by kernel_rfl) (T.pass (by kernel_rfl) (by kernel_rfl) (T.pass (by kernel_rfl) (by kernel_rfl) (T.pass (by kernel_rfl) (by kernel_rfl) (T.pk (.bool false) (fun _ => by kernel_rfl) (T.nil ?_)))))))))
   cases hX1
   exact fun a w' hf hh => ⟨V2, vr, (Fr.sel hf rfl), (hh.sub (kp1 kpr))⟩
  skip
  rw [hg1, cond_true] at hX1
  refine T.p5 (pB b901 0) (vi r1.2.2.1) (pB b901 0) (pB b901 0) (pB b901 1) (fun _ => by kernel_rfl) (T.look (vi p906) (by kernel_rfl) (ld1 0 rfl rfl (fun _ => by kernel_rfl) (by rfl) rfl) ?_)
  obtain ⟨r2, hb2, hX1⟩ := ob hX1
  refine T.step (W1.callI 59 [pB b901 0, vi r1.2.2.1, vi p906] (fun v w' => ∃ (V4 : View), View.le V2 V4 ∧ v = .string r2 ∧ Hp w V4 (i78_ :: G900) w') (by kernel_rfl) (fun _ => by kernel_rfl) (fun w' hh => fs_FS_kind_fr_l F p904 p906 p907 r1.2.2.1 p906 r2 hb2 w hGl b901 A902 c903 V2 G900 w' (SlOk.mono hs905 hV2) (hh.sub (kp1 kpr))) ?_)
  rintro v w' ⟨V4, hV4, rfl, hh⟩
  refine ⟨_, _, hh, ?_⟩
  clear hh
  refine T.p2 (.bool (!(seq r2 (ByteArray.mk #[102])))) (.bool (!(seq r2 (ByteArray.mk #[102])))) (fun _ => by kernel_rfl) (T.nil ?_)
  cases hX1
  exact fun a w' hf hh => ⟨V4, hV4, (Fr.sel hf rfl), (hh.sub (kp1 kpr))⟩
 rintro a w' ⟨V3, hV3, hf, hh⟩
 refine (?_ : T 81 w V3 (i78_ :: G900) [(0, pB b901 0), (2, .string p909), (7, vi r1.1), (8, .string r1.2.1), (9, vi r1.2.2.1), (36, .bool z5)] _) a w' hf hh
 clear hf hh
 refine T.cond z5 (by kernel_rfl) (by kernel_rfl) (fun hc2 => ?_) (fun hc2 => ?_)
 ·
  rw [hc2, cond_true] at hF
  refine T.seq (T.region (T.pk (vi 12) (fun _ => by kernel_rfl) (T.nil ?_)))
  have hres := Option.some.inj hF
  subst hres
  refine T.ret rfl ?_
  repeat first | refine T.unthen ?_ | refine T.unblock ?_
  exact T.ret1 rfl (ResIs.tmp rfl) fun w' hh => ⟨_, rfl, ⟨A902, c903, V3, (vt hV2 hV3), (SlOk.mono hs905 (vt hV2 hV3)), rfl, (hh.sub (kp1 kpr))⟩⟩
 rw [hc2, cond_false] at hF
 refine T.skip_code ?_
 refine T.seq (T.region (T.pk (pB b901 0) (fun _ => by kernel_rfl) ?_))
 obtain ⟨z6, hX2, hF⟩ := ob hF
 let v82_ : List Value := [.slice A902 p904.length c903, vi (IntKind.i64.wrap (p906 + 1)), vi z6]
 refine T.step (W1.within 52 [pB b901 0] (fun v w' => ∃ (b1 : Nat), v = pB b1 0 ∧ Hp w V3 ((box b1 86 v82_) :: i78_ :: G900) w') Tryz.func52 rfl rfl (by kernel_rfl) (fun _ => by kernel_rfl) rfl ?_ ?_)
 ·
  refine T.seq (T.region (T.pk (.pointer none) (fun _ => by kernel_rfl) (T.nil (T.seq ?_))))
  refine T.held (i78_ :: []) (by kernel_rfl) ?_
  have w91_ := vt (vt hV900 hV2) hV3
  refine TA.keep (Hp.old vr w91_ (kp1 kp0) (oB1 ol0)) fun o94_ => ?_
  refine TA.tp 0 (pB b901 0) rfl (fun _ => by kernel_rfl) (fun _ _ _ h => h) o94_ ?_
  refine TA.tp 1 (pB b901 0) rfl (fun _ => by kernel_rfl) (fun _ _ _ h => h) o94_ ?_
  refine TA.tp 2 (pB b901 0) rfl (fun _ => by kernel_rfl) (fun _ _ _ h => h) o94_ ?_
  refine TA.tk 3 (.slice A902 p904.length c903) rfl (by kernel_rfl) (fun _ _ _ h => h) o94_ (ld1 0 rfl rfl (fun _ => by kernel_rfl) (by rfl) rfl) ?_
  refine TA.tp 4 (pB b901 0) rfl (fun _ => by kernel_rfl) (fun _ _ _ h => h) o94_ ?_
  refine TA.tp 5 (pB b901 0) rfl (fun _ => by kernel_rfl) (fun _ _ _ h => h) o94_ ?_
  refine TA.tp 6 (pB b901 1) rfl (fun _ => by kernel_rfl) (fun _ _ _ h => h) o94_ ?_
  refine TA.tk 7 (vi p906) rfl (by kernel_rfl) (fun _ _ _ h => h) o94_ (ld1 0 rfl rfl (fun _ => by kernel_rfl) (by rfl) rfl) ?_
  refine TA.tp 8 (vi (IntKind.i64.wrap (p906 + 1))) rfl (fun _ => by kernel_rfl) (fun _ _ _ h => h) o94_ ?_
  refine TA.tp 9 (.agg #[.slice A902 p904.length c903, vi (IntKind.i64.wrap (p906 + 1)), vi 0]) rfl (fun _ => by kernel_rfl) (fun _ _ _ h => h) o94_ ?_
  refine TA.all [10] (by kernel_rfl) rfl ⟨?_, trivial⟩
  refine TA.br rfl (W1.np 86 [.slice A902 p904.length c903, vi (IntKind.i64.wrap (p906 + 1)), vi 0] (fun _ => by kernel_rfl) (fun b1 => ?_))
  refine TA.onk (Hp.old vr w91_ (dr1 (kp1 kp0)) (oB1 ol0)) fun o95_ => ?_
  refine TA.tp 11 (pB b1 0) rfl (fun _ => by kernel_rfl) (fun _ _ _ h => h) o95_ ?_
  refine TA.done (by kernel_rfl) ?_
  obtain ⟨z7, hX3, hX2⟩ := ob hX2
  let i79_ : HObj := box b1 86 [.slice A902 p904.length c903, vi (IntKind.i64.wrap (p906 + 1)), vi z7]
  refine T.cut (fun a w' => Fr 24 [(3, pB b1 0)] a ∧ Hp w V3 (i79_ :: i78_ :: G900) w') ?_ ?_
  ·
   refine T.seq (T.region (T.p3 (pB b901 0) (pB b901 0) (pB b901 1) (fun _ => by kernel_rfl) (T.look (vi p906) (by kernel_rfl) (ld1 1 rfl rfl (fun _ => by kernel_rfl) (by rfl) rfl) ?_)))
   refine T.pk (.bool (p906 == 2147483647)) (fun _ => by kernel_rfl) (T.nil ?_)
   refine T.cond (p906 == 2147483647) (by kernel_rfl) (by kernel_rfl) (fun hc3 => ?_) (fun hc3 => ?_)
   ·
    rw [hc3, cond_true] at hX3
    refine T.region (T.p3 (pB b1 0) (pB b1 0) (pB b1 2) (fun _ => by kernel_rfl) ?_)
    let v83_ : List Value := [.slice A902 p904.length c903, vi (IntKind.i64.wrap (p906 + 1)), vi 8]
    refine T.step (W1.st 0 v83_ ((box b1 86 v83_) :: i78_ :: G900) [vi 8] (by rfl) rfl rfl rfl rfl rfl rfl (fun _ => by kernel_rfl) ?_)
    refine T.nil ?_
    cases hX3
    exact fun a w' hf hh => ⟨(Fr.sel hf rfl), (hh.sub (kp1 (kp1 kpr)))⟩
   rw [hc3, cond_false] at hX3
   refine T.skip_code ?_
   cases hX3
   exact fun a w' hf hh => ⟨(Fr.sel hf rfl), (hh.sub (kp1 (kp1 kpr)))⟩
  rintro a w' ⟨hf, hh⟩
  refine (?_ : T 24 w V3 (i79_ :: i78_ :: G900) [(3, pB b1 0)] _) a w' hf hh
  clear hf hh
  refine T.seq (T.region (T.p2 (pB b1 0) (pB b1 0) (fun _ => by kernel_rfl) (T.nil ?_)))
  cases hX2
  refine T.ret rfl ?_
  exact T.ret1 rfl (ResIs.tmp rfl) fun w' hh => ⟨_, rfl, ⟨b1, rfl, (hh.sub (kp1 (kp1 kpr)))⟩⟩
 rintro v w' ⟨b1, rfl, hh⟩
 refine ⟨V3, ((box b1 86 v82_) :: i78_ :: G900), hh, ?_⟩
 clear hh
 refine T.pk (pB b1 0) (fun _ => by kernel_rfl) (T.nil (T.seq (T.region (T.p3 (vi r1.2.2.1) (.bool (r1.2.2.1 == 0)) (.bool (r1.2.2.1 == 0)) (fun _ => by kernel_rfl) (T.nil ?_)))))
 obtain ⟨q1, hX4, hF⟩ := ob hF
 refine T.cut (fun a w' => ∃ (z8 : List DElem) (z9 : Int) (z10 : Int), q1 = (z8, z9, z10) ∧ ∃ (A2 : Option Addr) (c2 : Nat) (V5 : View), View.le V3 V5 ∧ SlOk V5 eElem A2 c2 z8 ∧ Fr 81 [(0, pB b901 0), (2, .string p909), (9, vi z10), (11, pB b1 0), (12, .bool (r1.2.2.1 == 0))] a ∧ Hp w V5 ((box b1 86 [.slice A2 z8.length c2, vi (IntKind.i64.wrap (p906 + 1)), vi z9]) :: i78_ :: G900) w') ?_ ?_
 ·
  refine T.seq (T.region (T.pk (.bool (r1.2.2.1 == 0)) (fun _ => by kernel_rfl) (T.nil ?_)))
  refine T.cond (r1.2.2.1 == 0) (by kernel_rfl) (by kernel_rfl) (fun hc4 => ?_) (fun hc4 => ?_)
  ·
   rw [hc4, cond_true] at hX4
   refine T.region (T.p4 (pB b901 0) (pB b1 0) (vi r1.1) (.string r1.2.1) (fun _ => by kernel_rfl) ?_)
   obtain ⟨r3, hb3, hX4⟩ := ob hX4
   refine T.step (W1.callI 53 [pB b901 0, pB b1 0, vi r1.1, .string r1.2.1, .string (ByteArray.mk #[102])] (fun v w' => ∃ (A3 : Option Addr) (c3 : Nat) (V6 : View), View.le V3 V6 ∧ SlOk V6 eElem A3 c3 r3.1 ∧ v = vi p907 ∧ Hp w V6 (i78_ :: (box b1 86 [.slice A3 r3.1.length c3, vi (IntKind.i64.wrap (p906 + 1)), vi r3.2]) :: G900) w') (by kernel_rfl) (fun _ => by kernel_rfl) (fun w' hh => fs_FS_create_fr_l F p904 p906 p907 p904 (IntKind.i64.wrap (p906 + 1)) z6 r1.1 r1.2.1 (ByteArray.mk #[102]) r3 hb3 w hGl b901 b1 A902 c903 A902 c903 V3 G900 w' (SlOk.mono hs905 (vt hV2 hV3)) (SlOk.mono hs905 (vt hV2 hV3)) (hh.ix 2 [1, 0])) ?_)
   rintro v w' ⟨A3, c3, V6, hV6, hs3, rfl, hh⟩
   refine ⟨V6, ((box b1 86 [.slice A3 r3.1.length c3, vi (IntKind.i64.wrap (p906 + 1)), vi r3.2]) :: i78_ :: G900), hh.ix 2 [1, 0], ?_⟩
   clear hh
   refine T.pk (vi p907) (fun _ => by kernel_rfl) (T.nil ?_)
   cases hX4
   exact fun a w' hf hh => ⟨r3.1, r3.2, p907, rfl, A3, c3, V6, hV6, hs3, (Fr.sel hf rfl), (hh.sub (kp1 (kp1 kpr)))⟩
  rw [hc4, cond_false] at hX4
  refine T.skip_code ?_
  cases hX4
  exact fun a w' hf hh => ⟨p904, z6, r1.2.2.1, rfl, A902, c903, V3, vr, (SlOk.mono hs905 (vt hV2 hV3)), (Fr.sel hf rfl), (hh.sub (kp1 (kp1 kpr)))⟩
 rintro a w' ⟨z8, z9, z10, rfl, A2, c2, V5, hV5, hs2, hf, hh⟩
 try dsimp only at hF
 refine (?_ : T 81 w V5 ((box b1 86 [.slice A2 z8.length c2, vi (IntKind.i64.wrap (p906 + 1)), vi z9]) :: i78_ :: G900) [(0, pB b901 0), (2, .string p909), (9, vi z10), (11, pB b1 0), (12, .bool (r1.2.2.1 == 0))] _) a w' hf hh
 clear hf hh
 obtain ⟨q2, hX5, hF⟩ := ob hF
 refine T.cut (fun a w' => ∃ (z11 : List DElem) (z12 : Int), q2 = (z11, z12) ∧ ∃ (A4 : Option Addr) (c4 : Nat) (V7 : View), View.le V5 V7 ∧ SlOk V7 eElem A4 c4 z11 ∧ Fr 81 [(0, pB b901 0), (11, pB b1 0), (12, .bool (r1.2.2.1 == 0))] a ∧ Hp w V7 ((box b1 86 [.slice A4 z11.length c4, vi (IntKind.i64.wrap (p906 + 1)), vi z12]) :: i78_ :: G900) w') ?_ ?_
 ·
  refine T.seq (T.region (T.p3 (pB b1 0) (pB b1 0) (pB b1 2) (fun _ => by kernel_rfl) (T.look (vi z9) (by kernel_rfl) (ld1 0 rfl rfl (fun _ => by kernel_rfl) (by rfl) rfl) ?_)))
  refine T.pk (.bool (z9 == 0)) (fun _ => by kernel_rfl) (T.nil ?_)
  refine T.cond (z9 == 0) (by kernel_rfl) (by kernel_rfl) (fun hc5 => ?_) (fun hc5 => ?_)
  ·
   rw [hc5, cond_true] at hX5
   obtain ⟨r4, hb4, hX5⟩ := ob hX5
   obtain ⟨z13, hX6, hX5⟩ := ob hX5
   refine T.mid (fun a w' => ∃ (A7 : Option Addr) (c7 : Nat) (V10 : View), View.le V5 V10 ∧ SlOk V10 eElem A7 c7 z13 ∧ Fr 81 [(0, pB b901 0), (11, pB b1 0), (12, .bool (r1.2.2.1 == 0))] a ∧ Hp w V10 ((box b1 86 [.slice A7 z13.length c7, vi (IntKind.i64.wrap (p906 + 1)), vi r4.2]) :: i78_ :: G900) w') ?_ ?_
   ·
    refine T.held (i78_ :: []) (by kernel_rfl) ?_
    have w92_ := vt (vt (vt hV900 hV2) hV3) hV5
    refine TA.keep (Hp.old vr w92_ (dr1 (kp1 kp0)) (oB1 ol0)) fun o96_ => ?_
    refine TA.tp 0 (pB b1 0) rfl (fun _ => by kernel_rfl) (fun _ _ _ h => h) o96_ ?_
    refine TA.tp 1 (pB b1 0) rfl (fun _ => by kernel_rfl) (fun _ _ _ h => h) o96_ ?_
    refine TA.tp 2 (pB b1 0) rfl (fun _ => by kernel_rfl) (fun _ _ _ h => h) o96_ ?_
    refine TA.tp 3 (pB b1 0) rfl (fun _ => by kernel_rfl) (fun _ _ _ h => h) o96_ ?_
    refine TA.tp 5 (vi z10) rfl (fun _ => by kernel_rfl) (fun _ _ _ h => h) o96_ ?_
    refine TA.tp 6 (.string p909) rfl (fun _ => by kernel_rfl) (fun _ _ _ h => h) o96_ ?_
    refine TA.tp 7 (pB b1 0) rfl (fun _ => by kernel_rfl) (fun _ _ _ h => h) o96_ ?_
    refine TA.tp 8 (pB b1 0) rfl (fun _ => by kernel_rfl) (fun _ _ _ h => h) o96_ ?_
    refine TA.tp 9 (pB b1 1) rfl (fun _ => by kernel_rfl) (fun _ _ _ h => h) o96_ ?_
    refine TA.all [4, 10] (by kernel_rfl) rfl ⟨?_, ?_, trivial⟩
    ·
     refine TA.br rfl (W1.look (.slice A2 z8.length c2) (by kernel_rfl) (ld1 0 rfl rfl (fun _ => by kernel_rfl) (by rfl) rfl) ?_)
     refine TA.on (Hp.old vr w92_ (dr1 (kp1 kp0)) (oB1 ol0)) ?_
     refine TA.all [10] (by kernel_rfl) rfl ⟨?_, trivial⟩
     refine TA.br rfl (W1.look (vi (IntKind.i64.wrap (p906 + 1))) (by kernel_rfl) (ld1 0 rfl rfl (fun _ => by kernel_rfl) (by rfl) rfl) ?_)
     refine TA.on (Hp.old vr w92_ (dr1 (kp1 kp0)) (oB1 ol0)) ?_
     refine TA.all [11] (by kernel_rfl) rfl ⟨?_, trivial⟩
     refine TA.br rfl (W1.call (vT2 (vSc (eList eElem)) (vSc eInt)) r4 60 #[.slice A2 z8.length c2, vi 0, vi z10, .string p909, vi (IntKind.i64.wrap (p906 + 1))] (by kernel_rfl) (fun _ => by kernel_rfl) (fun w' hh => file_Set_l F z8 0 z10 p909 (IntKind.i64.wrap (p906 + 1)) r4 hb4 w' A2 c2 (SlOk.mono hs2 hh.view)) ?_)
     intro u V8 hV8 hu
     obtain ⟨u1, u2, rfl, hu1, hu2⟩ := vT2_elim hu
     obtain ⟨A5, c5, rfl, hs5⟩ := vlist_elim hu1
     obtain rfl := sureInt _ _ _ hu2
     refine TA.onk (Hp.old hV8 w92_ (dr1 (kp1 kp0)) (oB1 ol0)) fun o97_ => ?_
     refine TA.tp 12 (.slice A5 r4.1.length c5) rfl (fun _ => by kernel_rfl) (fun _ _ _ h => h) o97_ ?_
     refine TA.tp 13 (vi r4.2) rfl (fun _ => by kernel_rfl) (fun _ _ _ h => h) o97_ ?_
     refine TA.all [14] (by kernel_rfl) rfl ⟨?_, trivial⟩
     refine TA.br rfl (W1.within 55 [pB b1 0, .slice A5 r4.1.length c5, vi r4.2] (fun v w' => ∃ (A6 : Option Addr) (c6 : Nat) (V9 : View), View.le V8 V9 ∧ SlOk V9 eElem A6 c6 z13 ∧ v = .tuple #[] ∧ Hp w V9 ((box b1 86 [.slice A6 z13.length c6, vi (IntKind.i64.wrap (p906 + 1)), vi r4.2]) :: i78_ :: G900) w') Tryz.func55 rfl rfl (by kernel_rfl) (fun _ => by kernel_rfl) rfl ?_ ?_)
     ·
      refine T.seq (T.seq (T.region (T.p3 (pB b1 0) (pB b1 0) (pB b1 2) (fun _ => by kernel_rfl) (T.look (vi z9) (by kernel_rfl) (ld1 0 rfl rfl (fun _ => by kernel_rfl) (by rfl) rfl) ?_))))
      refine T.pk (.bool (z9 == 0)) (fun _ => by kernel_rfl) (T.nil ?_)
      refine T.cond (z9 == 0) (by kernel_rfl) (by kernel_rfl) (fun _ => ?_) (fun h => absurd (hc5.symm.trans h) (by decide))
      refine T.region (T.p4 (pB b1 0) (vi r4.2) (pB b1 0) (pB b1 2) (fun _ => by kernel_rfl) ?_)
      let v84_ : List Value := [.slice A2 z8.length c2, vi (IntKind.i64.wrap (p906 + 1)), vi r4.2]
      refine T.step (W1.st 0 v84_ ((box b1 86 v84_) :: i78_ :: G900) [vi r4.2] (by rfl) rfl rfl rfl rfl rfl rfl (fun _ => by kernel_rfl) ?_)
      refine T.nil (T.seq (T.region (T.p3 (pB b1 0) (pB b1 0) (pB b1 2) (fun _ => by kernel_rfl) (T.look (vi r4.2) (by kernel_rfl) (ld1 0 rfl rfl (fun _ => by kernel_rfl) (by rfl) rfl) ?_))))
      refine T.pk (.bool (r4.2 == 0)) (fun _ => by kernel_rfl) (T.nil ?_)
      refine T.cond (r4.2 == 0) (by kernel_rfl) (by kernel_rfl) (fun hc6 => ?_) (fun hc6 => ?_)
      ·
       rw [hc6, cond_true] at hX6
       refine T.region (T.p4 (pB b1 0) (.slice A5 r4.1.length c5) (pB b1 0) (pB b1 0) (fun _ => by kernel_rfl) ?_)
       let v85_ : List Value := [.slice A5 r4.1.length c5, vi (IntKind.i64.wrap (p906 + 1)), vi r4.2]
       refine T.step (W1.st 0 v85_ ((box b1 86 v85_) :: i78_ :: G900) [.slice A5 r4.1.length c5] (by rfl) rfl rfl rfl rfl rfl rfl (fun _ => by kernel_rfl) ?_)
       refine T.nil ?_
       cases hX6
       repeat first | refine T.unthen ?_ | refine T.unblock ?_
       exact T.end0 rfl fun w' hh => ⟨_, rfl, ⟨A5, c5, V8, vr, (SlOk.mono hs5 (vt (made_le _ _) vr)), rfl, (hh.sub (kp1 (kp1 kpr)))⟩⟩
      rw [hc6, cond_false] at hX6
      refine T.skip_code ?_
      cases hX6
      repeat first | refine T.unthen ?_ | refine T.unblock ?_
      exact T.end0 rfl fun w' hh => ⟨_, rfl, ⟨A2, c2, V8, vr, (SlOk.mono hs2 hV8), rfl, (hh.sub (kp1 (kp1 kpr)))⟩⟩
     rintro v w' ⟨A6, c6, V9, hV9, hs6, rfl, hh⟩
     refine ⟨V9, ((box b1 86 [.slice A6 z13.length c6, vi (IntKind.i64.wrap (p906 + 1)), vi r4.2]) :: i78_ :: G900), hh, ?_⟩
     clear hh
     refine TA.on (Hp.old (vt hV8 hV9) w92_ (dr1 (kp1 kp0)) (oB1 ol0)) ?_
     refine TA.done (by kernel_rfl) ?_
     exact fun a w' hf hh => ⟨A6, c6, V9, (vt hV8 hV9), hs6, (Fr.sel hf rfl), (hh.sub (kp1 (kp1 kpr)))⟩
    refine TA.br rfl (W1.look (vi (IntKind.i64.wrap (p906 + 1))) (by kernel_rfl) (ld1 0 rfl rfl (fun _ => by kernel_rfl) (by rfl) rfl) ?_)
    refine TA.on (Hp.old vr w92_ (dr1 (kp1 kp0)) (oB1 ol0)) ?_
    refine TA.all [4] (by kernel_rfl) rfl ⟨?_, trivial⟩
    refine TA.br rfl (W1.look (.slice A2 z8.length c2) (by kernel_rfl) (ld1 0 rfl rfl (fun _ => by kernel_rfl) (by rfl) rfl) ?_)
    refine TA.on (Hp.old vr w92_ (dr1 (kp1 kp0)) (oB1 ol0)) ?_
    refine TA.all [11] (by kernel_rfl) rfl ⟨?_, trivial⟩
    refine TA.br rfl (W1.call (vT2 (vSc (eList eElem)) (vSc eInt)) r4 60 #[.slice A2 z8.length c2, vi 0, vi z10, .string p909, vi (IntKind.i64.wrap (p906 + 1))] (by kernel_rfl) (fun _ => by kernel_rfl) (fun w' hh => file_Set_l F z8 0 z10 p909 (IntKind.i64.wrap (p906 + 1)) r4 hb4 w' A2 c2 (SlOk.mono hs2 hh.view)) ?_)
    intro u V8 hV8 hu
    obtain ⟨u1, u2, rfl, hu1, hu2⟩ := vT2_elim hu
    obtain ⟨A5, c5, rfl, hs5⟩ := vlist_elim hu1
    obtain rfl := sureInt _ _ _ hu2
    refine TA.onk (Hp.old hV8 w92_ (dr1 (kp1 kp0)) (oB1 ol0)) fun o98_ => ?_
    refine TA.tp 12 (.slice A5 r4.1.length c5) rfl (fun _ => by kernel_rfl) (fun _ _ _ h => h) o98_ ?_
    refine TA.tp 13 (vi r4.2) rfl (fun _ => by kernel_rfl) (fun _ _ _ h => h) o98_ ?_
    refine TA.all [14] (by kernel_rfl) rfl ⟨?_, trivial⟩
    refine TA.br rfl (W1.within 55 [pB b1 0, .slice A5 r4.1.length c5, vi r4.2] (fun v w' => ∃ (A6 : Option Addr) (c6 : Nat) (V9 : View), View.le V8 V9 ∧ SlOk V9 eElem A6 c6 z13 ∧ v = .tuple #[] ∧ Hp w V9 ((box b1 86 [.slice A6 z13.length c6, vi (IntKind.i64.wrap (p906 + 1)), vi r4.2]) :: i78_ :: G900) w') Tryz.func55 rfl rfl (by kernel_rfl) (fun _ => by kernel_rfl) rfl ?_ ?_)
    ·
     refine T.seq (T.seq (T.region (T.p3 (pB b1 0) (pB b1 0) (pB b1 2) (fun _ => by kernel_rfl) (T.look (vi z9) (by kernel_rfl) (ld1 0 rfl rfl (fun _ => by kernel_rfl) (by rfl) rfl) ?_))))
     refine T.pk (.bool (z9 == 0)) (fun _ => by kernel_rfl) (T.nil ?_)
     refine T.cond (z9 == 0) (by kernel_rfl) (by kernel_rfl) (fun _ => ?_) (fun h => absurd (hc5.symm.trans h) (by decide))
     refine T.region (T.p4 (pB b1 0) (vi r4.2) (pB b1 0) (pB b1 2) (fun _ => by kernel_rfl) ?_)
     let v86_ : List Value := [.slice A2 z8.length c2, vi (IntKind.i64.wrap (p906 + 1)), vi r4.2]
     refine T.step (W1.st 0 v86_ ((box b1 86 v86_) :: i78_ :: G900) [vi r4.2] (by rfl) rfl rfl rfl rfl rfl rfl (fun _ => by kernel_rfl) ?_)
     refine T.nil (T.seq (T.region (T.p3 (pB b1 0) (pB b1 0) (pB b1 2) (fun _ => by kernel_rfl) (T.look (vi r4.2) (by kernel_rfl) (ld1 0 rfl rfl (fun _ => by kernel_rfl) (by rfl) rfl) ?_))))
     refine T.pk (.bool (r4.2 == 0)) (fun _ => by kernel_rfl) (T.nil ?_)
     refine T.cond (r4.2 == 0) (by kernel_rfl) (by kernel_rfl) (fun hc6 => ?_) (fun hc6 => ?_)
     ·
      rw [hc6, cond_true] at hX6
      refine T.region (T.p4 (pB b1 0) (.slice A5 r4.1.length c5) (pB b1 0) (pB b1 0) (fun _ => by kernel_rfl) ?_)
      let v87_ : List Value := [.slice A5 r4.1.length c5, vi (IntKind.i64.wrap (p906 + 1)), vi r4.2]
      refine T.step (W1.st 0 v87_ ((box b1 86 v87_) :: i78_ :: G900) [.slice A5 r4.1.length c5] (by rfl) rfl rfl rfl rfl rfl rfl (fun _ => by kernel_rfl) ?_)
      refine T.nil ?_
      cases hX6
      repeat first | refine T.unthen ?_ | refine T.unblock ?_
      exact T.end0 rfl fun w' hh => ⟨_, rfl, ⟨A5, c5, V8, vr, (SlOk.mono hs5 (vt (made_le _ _) vr)), rfl, (hh.sub (kp1 (kp1 kpr)))⟩⟩
     rw [hc6, cond_false] at hX6
     refine T.skip_code ?_
     cases hX6
     repeat first | refine T.unthen ?_ | refine T.unblock ?_
     exact T.end0 rfl fun w' hh => ⟨_, rfl, ⟨A2, c2, V8, vr, (SlOk.mono hs2 hV8), rfl, (hh.sub (kp1 (kp1 kpr)))⟩⟩
    rintro v w' ⟨A6, c6, V9, hV9, hs6, rfl, hh⟩
    refine ⟨V9, ((box b1 86 [.slice A6 z13.length c6, vi (IntKind.i64.wrap (p906 + 1)), vi r4.2]) :: i78_ :: G900), hh, ?_⟩
    clear hh
    refine TA.on (Hp.old (vt hV8 hV9) w92_ (dr1 (kp1 kp0)) (oB1 ol0)) ?_
    refine TA.done (by kernel_rfl) ?_
    exact fun a w' hf hh => ⟨A6, c6, V9, (vt hV8 hV9), hs6, (Fr.sel hf rfl), (hh.sub (kp1 (kp1 kpr)))⟩
   rintro a w' ⟨A7, c7, V10, hV10, hs7, hf, hh⟩
   refine (?_ : T 81 w V10 ((box b1 86 [.slice A7 z13.length c7, vi (IntKind.i64.wrap (p906 + 1)), vi r4.2]) :: i78_ :: G900) [(0, pB b901 0), (11, pB b1 0), (12, .bool (r1.2.2.1 == 0))] _) a w' hf hh
   clear hf hh
   cases hX5
   exact fun a w' hf hh => ⟨z13, r4.2, rfl, A7, c7, V10, hV10, hs7, (Fr.sel hf rfl), (hh.sub (kp1 (kp1 kpr)))⟩
  rw [hc5, cond_false] at hX5
  refine T.skip_code ?_
  cases hX5
  exact fun a w' hf hh => ⟨z8, z9, rfl, A2, c2, V5, vr, hs2, (Fr.sel hf rfl), (hh.sub (kp1 (kp1 kpr)))⟩
 rintro a w' ⟨z11, z12, rfl, A4, c4, V7, hV7, hs4, hf, hh⟩
 try dsimp only at hF
 let i80_ : HObj := box b1 86 [.slice A4 z11.length c4, vi (IntKind.i64.wrap (p906 + 1)), vi z12]
 refine (?_ : T 81 w V7 (i80_ :: i78_ :: G900) [(0, pB b901 0), (11, pB b1 0), (12, .bool (r1.2.2.1 == 0))] _) a w' hf hh
 clear hf hh
 refine T.seq (T.seq (T.region (T.p2 (pB b901 0) (pB b1 0) (fun _ => by kernel_rfl) ?_)))
 obtain ⟨q3, hX7, hF⟩ := ob hF
 refine T.step (W1.within 54 [pB b901 0, pB b1 0] (fun v w' => ∃ (z14 : List DElem) (z15 : Int), q3 = (z14, z15) ∧ ∃ (A8 : Option Addr) (c8 : Nat) (V11 : View), View.le V7 V11 ∧ SlOk V11 eElem A8 c8 z14 ∧ v = vi z12 ∧ Hp w V11 (i80_ :: (box b901 78 [.slice A8 z14.length c8, vi z15, vi p907]) :: G900) w') Tryz.func54 rfl rfl (by kernel_rfl) (fun _ => by kernel_rfl) rfl ?_ ?_)
 ·
  refine T.seq (T.region (T.pk (vi 0) (fun _ => by kernel_rfl) (T.nil ?_)))
  obtain ⟨q4, hX8, hX7⟩ := ob hX7
  refine T.cut (fun a w' => ∃ (z16 : List DElem) (z17 : Int), q4 = (z16, z17) ∧ ∃ (A9 : Option Addr) (c9 : Nat) (V12 : View), View.le V7 V12 ∧ SlOk V12 eElem A9 c9 z16 ∧ Fr 28 [(1, pB b1 0)] a ∧ Hp w V12 (i80_ :: (box b901 78 [.slice A9 z16.length c9, vi z17, vi p907]) :: G900) w') ?_ ?_
  ·
   refine T.seq (T.region (T.p3 (pB b1 0) (pB b1 0) (pB b1 2) (fun _ => by kernel_rfl) (T.look (vi z12) (by kernel_rfl) (ld1 0 rfl rfl (fun _ => by kernel_rfl) (by rfl) rfl) ?_)))
   refine T.pk (.bool (z12 == 0)) (fun _ => by kernel_rfl) (T.nil ?_)
   refine T.cond (z12 == 0) (by kernel_rfl) (by kernel_rfl) (fun hc7 => ?_) (fun hc7 => ?_)
   ·
    rw [hc7, cond_true] at hX8
    refine T.held (i80_ :: []) (by kernel_rfl) ?_
    have w93_ := vt (vt (vt (vt hV900 hV2) hV3) hV5) hV7
    refine TA.keep (Hp.old vr w93_ (kp1 (dr1 kp0)) (oB1 ol0)) fun o99_ => ?_
    refine TA.tp 0 (pB b901 0) rfl (fun _ => by kernel_rfl) (fun _ _ _ h => h) o99_ ?_
    refine TA.tp 1 (pB b901 0) rfl (fun _ => by kernel_rfl) (fun _ _ _ h => h) o99_ ?_
    refine TA.tp 2 (pB b1 0) rfl (fun _ => by kernel_rfl) (fun _ _ _ h => h) o99_ ?_
    refine TA.tp 3 (pB b1 0) rfl (fun _ => by kernel_rfl) (fun _ _ _ h => h) o99_ ?_
    refine TA.tp 4 (pB b1 0) rfl (fun _ => by kernel_rfl) (fun _ _ _ h => h) o99_ ?_
    refine TA.tk 5 (.slice A4 z11.length c4) rfl (by kernel_rfl) (fun _ _ _ h => h) o99_ (ld1 0 rfl rfl (fun _ => by kernel_rfl) (by rfl) rfl) ?_
    refine TA.tp 6 (pB b1 0) rfl (fun _ => by kernel_rfl) (fun _ _ _ h => h) o99_ ?_
    refine TA.tp 7 (pB b1 0) rfl (fun _ => by kernel_rfl) (fun _ _ _ h => h) o99_ ?_
    refine TA.tp 8 (pB b1 1) rfl (fun _ => by kernel_rfl) (fun _ _ _ h => h) o99_ ?_
    refine TA.tk 9 (vi (IntKind.i64.wrap (p906 + 1))) rfl (by kernel_rfl) (fun _ _ _ h => h) o99_ (ld1 0 rfl rfl (fun _ => by kernel_rfl) (by rfl) rfl) ?_
    refine TA.tp 10 (pB b901 0) rfl (fun _ => by kernel_rfl) (fun _ _ _ h => h) o99_ ?_
    refine TA.tp 11 (pB b901 0) rfl (fun _ => by kernel_rfl) (fun _ _ _ h => h) o99_ ?_
    refine TA.all [12] (by kernel_rfl) rfl ⟨?_, trivial⟩
    refine TA.br rfl (W1.st 1 [.slice A4 z11.length c4, vi p906, vi p907] (i80_ :: (box b901 78 [.slice A4 z11.length c4, vi p906, vi p907]) :: G900) [.slice A4 z11.length c4] (by rfl) rfl rfl rfl rfl rfl rfl (fun _ => by kernel_rfl) ?_)
    refine TA.onk (Hp.old vr w93_ (kp1 (dr1 kp0)) (oB1 ol0)) fun o100_ => ?_
    refine TA.tp 13 (pB b901 0) rfl (fun _ => by kernel_rfl) (fun _ _ _ h => h) o100_ ?_
    refine TA.tp 14 (pB b901 1) rfl (fun _ => by kernel_rfl) (fun _ _ _ h => h) o100_ ?_
    refine TA.all [15] (by kernel_rfl) rfl ⟨?_, trivial⟩
    let v88_ : List Value := [.slice A4 z11.length c4, vi (IntKind.i64.wrap (p906 + 1)), vi p907]
    refine TA.br rfl (W1.st 1 v88_ (i80_ :: (box b901 78 v88_) :: G900) [vi (IntKind.i64.wrap (p906 + 1))] (by rfl) rfl rfl rfl rfl rfl rfl (fun _ => by kernel_rfl) ?_)
    refine TA.on (Hp.old vr w93_ (kp1 (dr1 kp0)) (oB1 ol0)) ?_
    refine TA.done (by kernel_rfl) ?_
    cases hX8
    exact fun a w' hf hh => ⟨z11, (IntKind.i64.wrap (p906 + 1)), rfl, A4, c4, V7, vr, hs4, (Fr.sel hf rfl), (hh.sub (kp1 (kp1 kpr)))⟩
   rw [hc7, cond_false] at hX8
   refine T.skip_code ?_
   cases hX8
   exact fun a w' hf hh => ⟨p904, p906, rfl, A902, c903, V7, vr, (SlOk.mono hs905 (vt (vt (vt hV2 hV3) hV5) hV7)), (Fr.sel hf rfl), (hh.sub (kp1 (kp1 kpr)))⟩
  rintro a w' ⟨z16, z17, rfl, A9, c9, V12, hV12, hs9, hf, hh⟩
  try dsimp only at hX7
  refine (?_ : T 28 w V12 (i80_ :: (box b901 78 [.slice A9 z16.length c9, vi z17, vi p907]) :: G900) [(1, pB b1 0)] _) a w' hf hh
  clear hf hh
  refine T.seq (T.region (T.p3 (pB b1 0) (pB b1 0) (pB b1 2) (fun _ => by kernel_rfl) (T.look (vi z12) (by kernel_rfl) (ld1 0 rfl rfl (fun _ => by kernel_rfl) (by rfl) rfl) ?_)))
  refine T.pk (vi z12) (fun _ => by kernel_rfl) (T.nil ?_)
  cases hX7
  refine T.ret rfl ?_
  exact T.ret1 rfl (ResIs.tmp rfl) fun w' hh => ⟨_, rfl, ⟨z16, z17, rfl, A9, c9, V12, hV12, hs9, rfl, (hh.sub (kp1 (kp1 kpr)))⟩⟩
 rintro v w' ⟨z14, z15, rfl, A8, c8, V11, hV11, hs8, rfl, hh⟩
 try dsimp only at hF
 refine ⟨V11, (i80_ :: (box b901 78 [.slice A8 z14.length c8, vi z15, vi p907]) :: G900), hh, ?_⟩
 clear hh
 refine T.pk (vi z12) (fun _ => by kernel_rfl) (T.nil (T.seq (T.region (T.p2 (vi z12) (.bool (z12 != 0)) (fun _ => by kernel_rfl) (T.nil ?_)))))
 refine T.cond (z12 != 0) (by kernel_rfl) (by kernel_rfl) (fun hc8 => ?_) (fun hc8 => ?_)
 ·
  rw [hc8, cond_true] at hF
  refine T.seq (T.region (T.p2 (vi z12) (vi z12) (fun _ => by kernel_rfl) (T.nil ?_)))
  have hres := Option.some.inj hF
  subst hres
  refine T.ret rfl ?_
  repeat first | refine T.unthen ?_ | refine T.unblock ?_
  exact T.ret1 rfl (ResIs.tmp rfl) fun w' hh => ⟨_, rfl, ⟨A8, c8, V11, (vt (vt (vt (vt hV2 hV3) hV5) hV7) hV11), hs8, rfl, (hh.sub (dr1 (kp1 kpr)))⟩⟩
 rw [hc8, cond_false] at hF
 refine T.skip_code ?_
 obtain ⟨z18, hX9, hF⟩ := ob hF
 let i81_ : HObj := box b901 78 [.slice A8 z14.length c8, vi z15, vi z18]
 refine T.cut (fun a w' => Fr 81 [] a ∧ Hp w V11 (i81_ :: G900) w') ?_ ?_
 ·
  refine T.seq (T.region (T.pk (.bool (r1.2.2.1 == 0)) (fun _ => by kernel_rfl) (T.nil ?_)))
  refine T.cond (r1.2.2.1 == 0) (by kernel_rfl) (by kernel_rfl) (fun hc9 => ?_) (fun hc9 => ?_)
  ·
   rw [hc9, cond_true] at hX9
   refine T.region (T.p3 (pB b901 0) (pB b901 0) (pB b901 2) (fun _ => by kernel_rfl) (T.look (vi p907) (by kernel_rfl) (ld1 1 rfl rfl (fun _ => by kernel_rfl) (by rfl) rfl) ?_))
   refine T.p3 (vi (IntKind.i64.wrap (p907 + 1))) (pB b901 0) (pB b901 2) (fun _ => by kernel_rfl) ?_
   let v89_ : List Value := [.slice A8 z14.length c8, vi z15, vi (IntKind.i64.wrap (p907 + 1))]
   refine T.step (W1.st 1 v89_ (i80_ :: (box b901 78 v89_) :: G900) [vi (IntKind.i64.wrap (p907 + 1))] (by rfl) rfl rfl rfl rfl rfl rfl (fun _ => by kernel_rfl) ?_)
   refine T.nil ?_
   cases hX9
   exact fun a w' hf hh => ⟨(Fr.nil hf), (hh.sub (dr1 (kp1 kpr)))⟩
  rw [hc9, cond_false] at hX9
  refine T.skip_code ?_
  cases hX9
  exact fun a w' hf hh => ⟨(Fr.nil hf), (hh.sub (dr1 (kp1 kpr)))⟩
 rintro a w' ⟨hf, hh⟩
 refine (?_ : T 81 w V11 (i81_ :: G900) [] _) a w' hf hh
 clear hf hh
 refine T.seq (T.region (T.pk (vi 0) (fun _ => by kernel_rfl) (T.nil ?_)))
 have hres := Option.some.inj hF
 subst hres
 refine T.ret rfl ?_
 repeat first | refine T.unthen ?_ | refine T.unblock ?_
 exact T.ret1 rfl (ResIs.tmp rfl) fun w' hh => ⟨_, rfl, ⟨A8, c8, V11, (vt (vt (vt (vt hV2 hV3) hV5) hV7) hV11), hs8, rfl, (hh.sub (kp1 kpr))⟩⟩
set_option maxRecDepth 100000 in
set_option maxHeartbeats 4000000 in
theorem fs_FS_at_fr_l (F : Nat) (p904 : List DElem) (p906 : Int) (p907 : Int) (p908 : ByteArray) (p909 : Int) (r : Int × Int) (hF : fs_FS_at_fr F p904 p906 p907 p908 p909 = some r) (w : World) (hGl : Glob w) (b901 : Nat) (A902 : Option Addr) (c903 : Nat) (V900 : View) (G900 : List HObj) (w1 : World) (hs905 : SlOk V900 eElem A902 c903 p904) (hh : Hp w V900 ((box b901 78 [.slice A902 p904.length c903, .int .i64 p906, .int .i64 p907]) :: G900) w1) :
 Calls Tryz.prog 58 #[.pointer (some ⟨b901, 0, none⟩), .string p908, .int .i64 p909] w1 (fun e w2 => ∃ v, e = .returned v ∧ ∃ (V1 : View), View.le V900 V1 ∧ v = .tuple #[.int .i64 r.1, .int .i64 r.2] ∧ Hp w V1 ((box b901 78 [.slice A902 p904.length c903, .int .i64 p906, .int .i64 p907]) :: G900) w2) := by
 unfold fs_FS_at_fr at hF
 have hV900 := hh.base
 refine T.startI (l := [pB b901 0, .string p908, vi p909]) Tryz.func58 rfl rfl rfl ?_ hh
 clear hh
 refine T.seq (T.region (T.p2 (vi 0) (vi 0) (fun _ => by kernel_rfl) (T.nil (T.seq (T.region (T.pk (.string p908) (fun _ => by kernel_rfl) ?_))))))
 obtain ⟨r1, hb1, hF⟩ := ob hF
 refine T.step (W1.call (vT2 (vSc (eList eStr)) (vSc eInt)) r1 86 #[.string p908] (by kernel_rfl) (fun _ => by kernel_rfl) (fun w' hh => fs_names_l F p908 r1 hb1 w' (Glob.mono hGl (vt hh.base hh.view))) ?_)
 intro u V2 hV2 hu
 obtain ⟨u1, u2, rfl, hu1, hu2⟩ := vT2_elim hu
 obtain ⟨A1, c1, rfl, hs1⟩ := vlist_elim hu1
 obtain rfl := sureInt _ _ _ hu2
 refine T.p5 (.tuple #[.slice A1 r1.1.length c1, vi r1.2]) (.slice A1 r1.1.length c1) (vi r1.2) (.slice A1 r1.1.length c1) (vi r1.2) (fun _ => by kernel_rfl) (T.nil (T.seq (T.seq (T.region (T.p2 (vi r1.2) (.bool (r1.2 != 0)) (fun _ => by kernel_rfl) (T.nil ?_))))))
 refine T.cond (r1.2 != 0) (by kernel_rfl) (by kernel_rfl) (fun hc1 => ?_) (fun hc1 => ?_)
 ·
  rw [hc1, cond_true] at hF
  refine T.seq (T.region (T.p3 (vi r1.2) (vi 0) (vi r1.2) (fun _ => by kernel_rfl) (T.nil ?_)))
  have hres := Option.some.inj hF
  subst hres
  refine T.ret rfl ?_
  repeat first | refine T.unthen ?_ | refine T.unblock ?_
  exact T.ret2 rfl (ResIs.tmp rfl) (ResIs.tmp rfl) fun w' hh => ⟨_, rfl, ⟨V2, hV2, rfl, (hh.sub (kp1 kpr))⟩⟩
 rw [hc1, cond_false] at hF
 refine T.skip_code ?_
 refine T.seq ?_
 let i101_ : HObj := box b901 78 [.slice A902 p904.length c903, vi p906, vi p907]
 refine T.cut (fun a w' => Fr 34 [(0, pB b901 0), (2, vi p909), (8, .slice A1 r1.1.length c1), (27, .bool ((decide (p909 < 0)) || (decide (p906 < p909))))] a ∧ Hp w V2 (i101_ :: G900) w') ?_ ?_
 ·
  refine T.region (T.p3 (vi p909) (.bool (decide (p909 < 0))) (.bool (decide (p909 < 0))) (fun _ => by kernel_rfl) ?_)
  cases hg1 : decide (p909 < 0)
  ·
   skip
   refine T.p4 (vi p909) (pB b901 0) (pB b901 0) (pB b901 1) (fun _ => by kernel_rfl) (T.look (vi p906) (by kernel_rfl) (ld1 0 rfl rfl (fun _ => by kernel_rfl) (by rfl) rfl) ?_)
   refine T.p2 (.bool (decide (p906 < p909))) (.bool (decide (p906 < p909))) (fun _ => by kernel_rfl) (T.nil ?_)
   exact fun a w' hf hh => ⟨(Fr.sel hf rfl), (hh.sub (kp1 kpr))⟩
  skip
  refine T.pass (by kernel_rfl) (by kernel_rfl) (T.pass (by kernel_rfl) (by kernel_rfl) (T.pass (by kernel_rfl) (by kernel_rfl) (T.pass (by kernel_rfl) (by kernel_rfl) (T.pass (by kernel_rfl) (by kernel_rfl) (T.pass (by kernel_rfl) (by kernel_rfl) (T.pk (.bool true) (fun _ => by kernel_rfl) (T.nil ?_)))))))
  exact fun a w' hf hh => ⟨(Fr.sel hf rfl), (hh.sub (kp1 kpr))⟩
 rintro a w' ⟨hf, hh⟩
 refine (?_ : T 34 w V2 (i101_ :: G900) [(0, pB b901 0), (2, vi p909), (8, .slice A1 r1.1.length c1), (27, .bool ((decide (p909 < 0)) || (decide (p906 < p909))))] _) a w' hf hh
 clear hf hh
 refine T.cond ((decide (p909 < 0)) || (decide (p906 < p909))) (by kernel_rfl) (by kernel_rfl) (fun hc2 => ?_) (fun hc2 => ?_)
 ·
  rw [hc2, cond_true] at hF
  refine T.seq (T.region (T.p2 (vi 0) (vi 9) (fun _ => by kernel_rfl) (T.nil ?_)))
  have hres := Option.some.inj hF
  subst hres
  refine T.ret rfl ?_
  repeat first | refine T.unthen ?_ | refine T.unblock ?_
  exact T.ret2 rfl (ResIs.tmp rfl) (ResIs.tmp rfl) fun w' hh => ⟨_, rfl, ⟨V2, hV2, rfl, (hh.sub (kp1 kpr))⟩⟩
 rw [hc2, cond_false] at hF
 refine T.skip_code ?_
 refine T.seq (T.region (T.p3 (pB b901 0) (.slice A1 r1.1.length c1) (vi p909) (fun _ => by kernel_rfl) ?_))
 obtain ⟨r2, hb2, hF⟩ := ob hF
 refine T.step (W1.callI 87 [pB b901 0, .slice A1 r1.1.length c1, vi p909] (fun v w' => ∃ (V3 : View), View.le V2 V3 ∧ v = .tuple #[vi r2.1, vi r2.2] ∧ Hp w V3 (i101_ :: G900) w') (by kernel_rfl) (fun _ => by kernel_rfl) (fun w' hh => fs_FS_walk_fr_l F p904 p906 p907 r1.1 p909 r2 hb2 w hGl b901 A902 c903 A1 c1 V2 G900 w' (SlOk.mono hs905 hV2) (SlOk.mono hs1 (vt (made_le _ _) vr)) (hh.sub (kp1 kpr))) ?_)
 rintro v w' ⟨V3, hV3, rfl, hh⟩
 refine ⟨_, _, hh, ?_⟩
 clear hh
 refine T.p4 (vi r2.1) (vi r2.2) (vi r2.1) (vi r2.2) (fun _ => by kernel_rfl) (T.nil ?_)
 have hres := Option.some.inj hF
 subst hres
 refine T.ret rfl ?_
 repeat first | refine T.unthen ?_ | refine T.unblock ?_
 exact T.ret2 rfl (ResIs.tmp rfl) (ResIs.tmp rfl) fun w' hh => ⟨_, rfl, ⟨V3, (vt hV2 hV3), rfl, (hh.sub (kp1 kpr))⟩⟩
set_option maxRecDepth 100000 in
set_option maxHeartbeats 4000000 in
theorem fs_FS_Patch_fr_l (F : Nat) (p904 : List DElem) (p906 : Int) (p907 : Int) (p908 : ByteArray) (p909 : Int) (p910 : ByteArray) (r : (List DElem) × Int × Int) (hF : fs_FS_Patch_fr F p904 p906 p907 p908 p909 p910 = some r) (w : World) (hGl : Glob w) (b901 : Nat) (A902 : Option Addr) (c903 : Nat) (V900 : View) (G900 : List HObj) (w1 : World) (hs905 : SlOk V900 eElem A902 c903 p904) (hh : Hp w V900 ((box b901 78 [.slice A902 p904.length c903, .int .i64 p906, .int .i64 p907]) :: G900) w1) :
 Calls Tryz.prog 24 #[.pointer (some ⟨b901, 0, none⟩), .string p908, .int .i64 p909, .string p910] w1 (fun e w2 => ∃ v, e = .returned v ∧ ∃ (A1 : Option Addr) (c1 : Nat) (V1 : View), View.le V900 V1 ∧ SlOk V1 eElem A1 c1 r.1 ∧ v = .int .i64 r.2.2 ∧ Hp w V1 ((box b901 78 [.slice A1 r.1.length c1, .int .i64 r.2.1, .int .i64 p907]) :: G900) w2) := by
 unfold fs_FS_Patch_fr at hF
 have hV900 := hh.base
 refine T.startI (l := [pB b901 0, .string p908, vi p909, .string p910]) Tryz.func24 rfl rfl rfl ?_ hh
 clear hh
 refine T.seq (T.region (T.pk (vi 0) (fun _ => by kernel_rfl) (T.nil (T.seq (T.region (T.p5 (pB b901 0) (.string p908) (pB b901 0) (pB b901 0) (pB b901 1) (fun _ => by kernel_rfl) (T.look (vi p906) (by kernel_rfl) (ld1 0 rfl rfl (fun _ => by kernel_rfl) (by rfl) rfl) ?_)))))))
 obtain ⟨r1, hb1, hF⟩ := ob hF
 let i102_ : HObj := box b901 78 [.slice A902 p904.length c903, vi p906, vi p907]
 refine T.step (W1.callI 58 [pB b901 0, .string p908, vi p906] (fun v w' => ∃ (V2 : View), View.le V900 V2 ∧ v = .tuple #[vi r1.1, vi r1.2] ∧ Hp w V2 (i102_ :: G900) w') (by kernel_rfl) (fun _ => by kernel_rfl) (fun w' hh => fs_FS_at_fr_l F p904 p906 p907 p908 p906 r1 hb1 w hGl b901 A902 c903 V900 G900 w' hs905 (hh.sub (kp1 kpr))) ?_)
 rintro v w' ⟨V2, hV2, rfl, hh⟩
 refine ⟨_, _, hh, ?_⟩
 clear hh
 refine T.p5 (.tuple #[vi r1.1, vi r1.2]) (vi r1.1) (vi r1.2) (vi r1.1) (vi r1.2) (fun _ => by kernel_rfl) (T.nil (T.seq (T.seq (T.region (T.p2 (vi r1.2) (.bool (r1.2 != 0)) (fun _ => by kernel_rfl) (T.nil ?_))))))
 refine T.cond (r1.2 != 0) (by kernel_rfl) (by kernel_rfl) (fun hc1 => ?_) (fun hc1 => ?_)
 ·
  rw [hc1, cond_true] at hF
  refine T.seq (T.region (T.p2 (vi r1.2) (vi r1.2) (fun _ => by kernel_rfl) (T.nil ?_)))
  have hres := Option.some.inj hF
  subst hres
  refine T.ret rfl ?_
  repeat first | refine T.unthen ?_ | refine T.unblock ?_
  exact T.ret1 rfl (ResIs.tmp rfl) fun w' hh => ⟨_, rfl, ⟨A902, c903, V2, hV2, (SlOk.mono hs905 hV2), rfl, (hh.sub (kp1 kpr))⟩⟩
 rw [hc1, cond_false] at hF
 refine T.skip_code ?_
 refine T.seq (T.seq (T.region (T.p5 (pB b901 0) (vi r1.1) (pB b901 0) (pB b901 0) (pB b901 1) (fun _ => by kernel_rfl) (T.look (vi p906) (by kernel_rfl) (ld1 0 rfl rfl (fun _ => by kernel_rfl) (by rfl) rfl) ?_))))
 obtain ⟨r2, hb2, hF⟩ := ob hF
 refine T.step (W1.callI 59 [pB b901 0, vi r1.1, vi p906] (fun v w' => ∃ (V3 : View), View.le V2 V3 ∧ v = .string r2 ∧ Hp w V3 (i102_ :: G900) w') (by kernel_rfl) (fun _ => by kernel_rfl) (fun w' hh => fs_FS_kind_fr_l F p904 p906 p907 r1.1 p906 r2 hb2 w hGl b901 A902 c903 V2 G900 w' (SlOk.mono hs905 hV2) (hh.sub (kp1 kpr))) ?_)
 rintro v w' ⟨V3, hV3, rfl, hh⟩
 refine ⟨_, _, hh, ?_⟩
 clear hh
 refine T.pk (.bool (!(seq r2 (ByteArray.mk #[102])))) (fun _ => by kernel_rfl) (T.nil ?_)
 refine T.cond (!(seq r2 (ByteArray.mk #[102]))) (by kernel_rfl) (by kernel_rfl) (fun hc2 => ?_) (fun hc2 => ?_)
 ·
  rw [hc2, cond_true] at hF
  refine T.seq (T.region (T.pk (vi 12) (fun _ => by kernel_rfl) (T.nil ?_)))
  have hres := Option.some.inj hF
  subst hres
  refine T.ret rfl ?_
  repeat first | refine T.unthen ?_ | refine T.unblock ?_
  exact T.ret1 rfl (ResIs.tmp rfl) fun w' hh => ⟨_, rfl, ⟨A902, c903, V3, (vt hV2 hV3), (SlOk.mono hs905 (vt hV2 hV3)), rfl, (hh.sub (kp1 kpr))⟩⟩
 rw [hc2, cond_false] at hF
 refine T.skip_code ?_
 refine T.seq (T.region (T.pk (pB b901 0) (fun _ => by kernel_rfl) ?_))
 obtain ⟨z4, hX1, hF⟩ := ob hF
 let v105_ : List Value := [.slice A902 p904.length c903, vi (IntKind.i64.wrap (p906 + 1)), vi z4]
 refine T.step (W1.within 52 [pB b901 0] (fun v w' => ∃ (b1 : Nat), v = pB b1 0 ∧ Hp w V3 ((box b1 86 v105_) :: i102_ :: G900) w') Tryz.func52 rfl rfl (by kernel_rfl) (fun _ => by kernel_rfl) rfl ?_ ?_)
 ·
  refine T.seq (T.region (T.pk (.pointer none) (fun _ => by kernel_rfl) (T.nil (T.seq ?_))))
  refine T.held (i102_ :: []) (by kernel_rfl) ?_
  have w112_ := vt (vt hV900 hV2) hV3
  refine TA.keep (Hp.old vr w112_ (kp1 kp0) (oB1 ol0)) fun o115_ => ?_
  refine TA.tp 0 (pB b901 0) rfl (fun _ => by kernel_rfl) (fun _ _ _ h => h) o115_ ?_
  refine TA.tp 1 (pB b901 0) rfl (fun _ => by kernel_rfl) (fun _ _ _ h => h) o115_ ?_
  refine TA.tp 2 (pB b901 0) rfl (fun _ => by kernel_rfl) (fun _ _ _ h => h) o115_ ?_
  refine TA.tk 3 (.slice A902 p904.length c903) rfl (by kernel_rfl) (fun _ _ _ h => h) o115_ (ld1 0 rfl rfl (fun _ => by kernel_rfl) (by rfl) rfl) ?_
  refine TA.tp 4 (pB b901 0) rfl (fun _ => by kernel_rfl) (fun _ _ _ h => h) o115_ ?_
  refine TA.tp 5 (pB b901 0) rfl (fun _ => by kernel_rfl) (fun _ _ _ h => h) o115_ ?_
  refine TA.tp 6 (pB b901 1) rfl (fun _ => by kernel_rfl) (fun _ _ _ h => h) o115_ ?_
  refine TA.tk 7 (vi p906) rfl (by kernel_rfl) (fun _ _ _ h => h) o115_ (ld1 0 rfl rfl (fun _ => by kernel_rfl) (by rfl) rfl) ?_
  refine TA.tp 8 (vi (IntKind.i64.wrap (p906 + 1))) rfl (fun _ => by kernel_rfl) (fun _ _ _ h => h) o115_ ?_
  refine TA.tp 9 (.agg #[.slice A902 p904.length c903, vi (IntKind.i64.wrap (p906 + 1)), vi 0]) rfl (fun _ => by kernel_rfl) (fun _ _ _ h => h) o115_ ?_
  refine TA.all [10] (by kernel_rfl) rfl ⟨?_, trivial⟩
  refine TA.br rfl (W1.np 86 [.slice A902 p904.length c903, vi (IntKind.i64.wrap (p906 + 1)), vi 0] (fun _ => by kernel_rfl) (fun b1 => ?_))
  refine TA.onk (Hp.old vr w112_ (dr1 (kp1 kp0)) (oB1 ol0)) fun o116_ => ?_
  refine TA.tp 11 (pB b1 0) rfl (fun _ => by kernel_rfl) (fun _ _ _ h => h) o116_ ?_
  refine TA.done (by kernel_rfl) ?_
  obtain ⟨z5, hX2, hX1⟩ := ob hX1
  let i103_ : HObj := box b1 86 [.slice A902 p904.length c903, vi (IntKind.i64.wrap (p906 + 1)), vi z5]
  refine T.cut (fun a w' => Fr 24 [(3, pB b1 0)] a ∧ Hp w V3 (i103_ :: i102_ :: G900) w') ?_ ?_
  ·
   refine T.seq (T.region (T.p3 (pB b901 0) (pB b901 0) (pB b901 1) (fun _ => by kernel_rfl) (T.look (vi p906) (by kernel_rfl) (ld1 1 rfl rfl (fun _ => by kernel_rfl) (by rfl) rfl) ?_)))
   refine T.pk (.bool (p906 == 2147483647)) (fun _ => by kernel_rfl) (T.nil ?_)
   refine T.cond (p906 == 2147483647) (by kernel_rfl) (by kernel_rfl) (fun hc3 => ?_) (fun hc3 => ?_)
   ·
    rw [hc3, cond_true] at hX2
    refine T.region (T.p3 (pB b1 0) (pB b1 0) (pB b1 2) (fun _ => by kernel_rfl) ?_)
    let v106_ : List Value := [.slice A902 p904.length c903, vi (IntKind.i64.wrap (p906 + 1)), vi 8]
    refine T.step (W1.st 0 v106_ ((box b1 86 v106_) :: i102_ :: G900) [vi 8] (by rfl) rfl rfl rfl rfl rfl rfl (fun _ => by kernel_rfl) ?_)
    refine T.nil ?_
    cases hX2
    exact fun a w' hf hh => ⟨(Fr.sel hf rfl), (hh.sub (kp1 (kp1 kpr)))⟩
   rw [hc3, cond_false] at hX2
   refine T.skip_code ?_
   cases hX2
   exact fun a w' hf hh => ⟨(Fr.sel hf rfl), (hh.sub (kp1 (kp1 kpr)))⟩
  rintro a w' ⟨hf, hh⟩
  refine (?_ : T 24 w V3 (i103_ :: i102_ :: G900) [(3, pB b1 0)] _) a w' hf hh
  clear hf hh
  refine T.seq (T.region (T.p2 (pB b1 0) (pB b1 0) (fun _ => by kernel_rfl) (T.nil ?_)))
  cases hX1
  refine T.ret rfl ?_
  exact T.ret1 rfl (ResIs.tmp rfl) fun w' hh => ⟨_, rfl, ⟨b1, rfl, (hh.sub (kp1 (kp1 kpr)))⟩⟩
 rintro v w' ⟨b1, rfl, hh⟩
 refine ⟨V3, ((box b1 86 v105_) :: i102_ :: G900), hh, ?_⟩
 clear hh
 refine T.pk (pB b1 0) (fun _ => by kernel_rfl) (T.nil ?_)
 obtain ⟨q1, hX3, hF⟩ := ob hF
 refine T.cut (fun a w' => ∃ (z6 : List DElem) (z7 : Int), q1 = (z6, z7) ∧ ∃ (A2 : Option Addr) (c2 : Nat) (V4 : View), View.le V3 V4 ∧ SlOk V4 eElem A2 c2 z6 ∧ Fr 59 [(0, pB b901 0), (11, pB b1 0)] a ∧ Hp w V4 ((box b1 86 [.slice A2 z6.length c2, vi (IntKind.i64.wrap (p906 + 1)), vi z7]) :: i102_ :: G900) w') ?_ ?_
 ·
  refine T.seq (T.region (T.p3 (pB b1 0) (pB b1 0) (pB b1 2) (fun _ => by kernel_rfl) (T.look (vi z4) (by kernel_rfl) (ld1 0 rfl rfl (fun _ => by kernel_rfl) (by rfl) rfl) ?_)))
  refine T.pk (.bool (z4 == 0)) (fun _ => by kernel_rfl) (T.nil ?_)
  refine T.cond (z4 == 0) (by kernel_rfl) (by kernel_rfl) (fun hc4 => ?_) (fun hc4 => ?_)
  ·
   rw [hc4, cond_true] at hX3
   obtain ⟨r3, hb3, hX3⟩ := ob hX3
   obtain ⟨z8, hX4, hX3⟩ := ob hX3
   refine T.mid (fun a w' => ∃ (A5 : Option Addr) (c5 : Nat) (V7 : View), View.le V3 V7 ∧ SlOk V7 eElem A5 c5 z8 ∧ Fr 59 [(0, pB b901 0), (11, pB b1 0)] a ∧ Hp w V7 ((box b1 86 [.slice A5 z8.length c5, vi (IntKind.i64.wrap (p906 + 1)), vi r3.2]) :: i102_ :: G900) w') ?_ ?_
   ·
    refine T.held (i102_ :: []) (by kernel_rfl) ?_
    have w113_ := vt (vt hV900 hV2) hV3
    refine TA.keep (Hp.old vr w113_ (dr1 (kp1 kp0)) (oB1 ol0)) fun o117_ => ?_
    refine TA.tp 0 (pB b1 0) rfl (fun _ => by kernel_rfl) (fun _ _ _ h => h) o117_ ?_
    refine TA.tp 1 (pB b1 0) rfl (fun _ => by kernel_rfl) (fun _ _ _ h => h) o117_ ?_
    refine TA.tp 2 (pB b1 0) rfl (fun _ => by kernel_rfl) (fun _ _ _ h => h) o117_ ?_
    refine TA.tp 3 (pB b1 0) rfl (fun _ => by kernel_rfl) (fun _ _ _ h => h) o117_ ?_
    refine TA.tp 5 (vi r1.1) rfl (fun _ => by kernel_rfl) (fun _ _ _ h => h) o117_ ?_
    refine TA.tp 6 (vi p909) rfl (fun _ => by kernel_rfl) (fun _ _ _ h => h) o117_ ?_
    refine TA.tp 7 (.string p910) rfl (fun _ => by kernel_rfl) (fun _ _ _ h => h) o117_ ?_
    refine TA.tp 8 (pB b1 0) rfl (fun _ => by kernel_rfl) (fun _ _ _ h => h) o117_ ?_
    refine TA.tp 9 (pB b1 0) rfl (fun _ => by kernel_rfl) (fun _ _ _ h => h) o117_ ?_
    refine TA.tp 10 (pB b1 1) rfl (fun _ => by kernel_rfl) (fun _ _ _ h => h) o117_ ?_
    refine TA.all [4, 11] (by kernel_rfl) rfl ⟨?_, ?_, trivial⟩
    ·
     refine TA.br rfl (W1.look (.slice A902 p904.length c903) (by kernel_rfl) (ld1 0 rfl rfl (fun _ => by kernel_rfl) (by rfl) rfl) ?_)
     refine TA.on (Hp.old vr w113_ (dr1 (kp1 kp0)) (oB1 ol0)) ?_
     refine TA.all [11] (by kernel_rfl) rfl ⟨?_, trivial⟩
     refine TA.br rfl (W1.look (vi (IntKind.i64.wrap (p906 + 1))) (by kernel_rfl) (ld1 0 rfl rfl (fun _ => by kernel_rfl) (by rfl) rfl) ?_)
     refine TA.on (Hp.old vr w113_ (dr1 (kp1 kp0)) (oB1 ol0)) ?_
     refine TA.all [12] (by kernel_rfl) rfl ⟨?_, trivial⟩
     refine TA.br rfl (W1.call (vT2 (vSc (eList eElem)) (vSc eInt)) r3 61 #[.slice A902 p904.length c903, vi 0, vi r1.1, vi p909, .string p910, vi (IntKind.i64.wrap (p906 + 1))] (by kernel_rfl) (fun _ => by kernel_rfl) (fun w' hh => file_Patch_l F p904 0 r1.1 p909 p910 (IntKind.i64.wrap (p906 + 1)) r3 hb3 w' A902 c903 (SlOk.mono (SlOk.mono hs905 (vt hV2 hV3)) hh.view)) ?_)
     intro u V5 hV5 hu
     obtain ⟨u1, u2, rfl, hu1, hu2⟩ := vT2_elim hu
     obtain ⟨A3, c3, rfl, hs3⟩ := vlist_elim hu1
     obtain rfl := sureInt _ _ _ hu2
     refine TA.onk (Hp.old hV5 w113_ (dr1 (kp1 kp0)) (oB1 ol0)) fun o118_ => ?_
     refine TA.tp 13 (.slice A3 r3.1.length c3) rfl (fun _ => by kernel_rfl) (fun _ _ _ h => h) o118_ ?_
     refine TA.tp 14 (vi r3.2) rfl (fun _ => by kernel_rfl) (fun _ _ _ h => h) o118_ ?_
     refine TA.all [15] (by kernel_rfl) rfl ⟨?_, trivial⟩
     refine TA.br rfl (W1.within 55 [pB b1 0, .slice A3 r3.1.length c3, vi r3.2] (fun v w' => ∃ (A4 : Option Addr) (c4 : Nat) (V6 : View), View.le V5 V6 ∧ SlOk V6 eElem A4 c4 z8 ∧ v = .tuple #[] ∧ Hp w V6 ((box b1 86 [.slice A4 z8.length c4, vi (IntKind.i64.wrap (p906 + 1)), vi r3.2]) :: i102_ :: G900) w') Tryz.func55 rfl rfl (by kernel_rfl) (fun _ => by kernel_rfl) rfl ?_ ?_)
     ·
      refine T.seq (T.seq (T.region (T.p3 (pB b1 0) (pB b1 0) (pB b1 2) (fun _ => by kernel_rfl) (T.look (vi z4) (by kernel_rfl) (ld1 0 rfl rfl (fun _ => by kernel_rfl) (by rfl) rfl) ?_))))
      refine T.pk (.bool (z4 == 0)) (fun _ => by kernel_rfl) (T.nil ?_)
      refine T.cond (z4 == 0) (by kernel_rfl) (by kernel_rfl) (fun _ => ?_) (fun h => absurd (hc4.symm.trans h) (by decide))
      refine T.region (T.p4 (pB b1 0) (vi r3.2) (pB b1 0) (pB b1 2) (fun _ => by kernel_rfl) ?_)
      let v107_ : List Value := [.slice A902 p904.length c903, vi (IntKind.i64.wrap (p906 + 1)), vi r3.2]
      refine T.step (W1.st 0 v107_ ((box b1 86 v107_) :: i102_ :: G900) [vi r3.2] (by rfl) rfl rfl rfl rfl rfl rfl (fun _ => by kernel_rfl) ?_)
      refine T.nil (T.seq (T.region (T.p3 (pB b1 0) (pB b1 0) (pB b1 2) (fun _ => by kernel_rfl) (T.look (vi r3.2) (by kernel_rfl) (ld1 0 rfl rfl (fun _ => by kernel_rfl) (by rfl) rfl) ?_))))
      refine T.pk (.bool (r3.2 == 0)) (fun _ => by kernel_rfl) (T.nil ?_)
      refine T.cond (r3.2 == 0) (by kernel_rfl) (by kernel_rfl) (fun hc5 => ?_) (fun hc5 => ?_)
      ·
       rw [hc5, cond_true] at hX4
       refine T.region (T.p4 (pB b1 0) (.slice A3 r3.1.length c3) (pB b1 0) (pB b1 0) (fun _ => by kernel_rfl) ?_)
       let v108_ : List Value := [.slice A3 r3.1.length c3, vi (IntKind.i64.wrap (p906 + 1)), vi r3.2]
       refine T.step (W1.st 0 v108_ ((box b1 86 v108_) :: i102_ :: G900) [.slice A3 r3.1.length c3] (by rfl) rfl rfl rfl rfl rfl rfl (fun _ => by kernel_rfl) ?_)
       refine T.nil ?_
       cases hX4
       repeat first | refine T.unthen ?_ | refine T.unblock ?_
       exact T.end0 rfl fun w' hh => ⟨_, rfl, ⟨A3, c3, V5, vr, (SlOk.mono hs3 (vt (made_le _ _) vr)), rfl, (hh.sub (kp1 (kp1 kpr)))⟩⟩
      rw [hc5, cond_false] at hX4
      refine T.skip_code ?_
      cases hX4
      repeat first | refine T.unthen ?_ | refine T.unblock ?_
      exact T.end0 rfl fun w' hh => ⟨_, rfl, ⟨A902, c903, V5, vr, (SlOk.mono hs905 (vt (vt hV2 hV3) hV5)), rfl, (hh.sub (kp1 (kp1 kpr)))⟩⟩
     rintro v w' ⟨A4, c4, V6, hV6, hs4, rfl, hh⟩
     refine ⟨V6, ((box b1 86 [.slice A4 z8.length c4, vi (IntKind.i64.wrap (p906 + 1)), vi r3.2]) :: i102_ :: G900), hh, ?_⟩
     clear hh
     refine TA.on (Hp.old (vt hV5 hV6) w113_ (dr1 (kp1 kp0)) (oB1 ol0)) ?_
     refine TA.done (by kernel_rfl) ?_
     exact fun a w' hf hh => ⟨A4, c4, V6, (vt hV5 hV6), hs4, (Fr.sel hf rfl), (hh.sub (kp1 (kp1 kpr)))⟩
    refine TA.br rfl (W1.look (vi (IntKind.i64.wrap (p906 + 1))) (by kernel_rfl) (ld1 0 rfl rfl (fun _ => by kernel_rfl) (by rfl) rfl) ?_)
    refine TA.on (Hp.old vr w113_ (dr1 (kp1 kp0)) (oB1 ol0)) ?_
    refine TA.all [4] (by kernel_rfl) rfl ⟨?_, trivial⟩
    refine TA.br rfl (W1.look (.slice A902 p904.length c903) (by kernel_rfl) (ld1 0 rfl rfl (fun _ => by kernel_rfl) (by rfl) rfl) ?_)
    refine TA.on (Hp.old vr w113_ (dr1 (kp1 kp0)) (oB1 ol0)) ?_
    refine TA.all [12] (by kernel_rfl) rfl ⟨?_, trivial⟩
    refine TA.br rfl (W1.call (vT2 (vSc (eList eElem)) (vSc eInt)) r3 61 #[.slice A902 p904.length c903, vi 0, vi r1.1, vi p909, .string p910, vi (IntKind.i64.wrap (p906 + 1))] (by kernel_rfl) (fun _ => by kernel_rfl) (fun w' hh => file_Patch_l F p904 0 r1.1 p909 p910 (IntKind.i64.wrap (p906 + 1)) r3 hb3 w' A902 c903 (SlOk.mono (SlOk.mono hs905 (vt hV2 hV3)) hh.view)) ?_)
    intro u V5 hV5 hu
    obtain ⟨u1, u2, rfl, hu1, hu2⟩ := vT2_elim hu
    obtain ⟨A3, c3, rfl, hs3⟩ := vlist_elim hu1
    obtain rfl := sureInt _ _ _ hu2
    refine TA.onk (Hp.old hV5 w113_ (dr1 (kp1 kp0)) (oB1 ol0)) fun o119_ => ?_
    refine TA.tp 13 (.slice A3 r3.1.length c3) rfl (fun _ => by kernel_rfl) (fun _ _ _ h => h) o119_ ?_
    refine TA.tp 14 (vi r3.2) rfl (fun _ => by kernel_rfl) (fun _ _ _ h => h) o119_ ?_
    refine TA.all [15] (by kernel_rfl) rfl ⟨?_, trivial⟩
    refine TA.br rfl (W1.within 55 [pB b1 0, .slice A3 r3.1.length c3, vi r3.2] (fun v w' => ∃ (A4 : Option Addr) (c4 : Nat) (V6 : View), View.le V5 V6 ∧ SlOk V6 eElem A4 c4 z8 ∧ v = .tuple #[] ∧ Hp w V6 ((box b1 86 [.slice A4 z8.length c4, vi (IntKind.i64.wrap (p906 + 1)), vi r3.2]) :: i102_ :: G900) w') Tryz.func55 rfl rfl (by kernel_rfl) (fun _ => by kernel_rfl) rfl ?_ ?_)
    ·
     refine T.seq (T.seq (T.region (T.p3 (pB b1 0) (pB b1 0) (pB b1 2) (fun _ => by kernel_rfl) (T.look (vi z4) (by kernel_rfl) (ld1 0 rfl rfl (fun _ => by kernel_rfl) (by rfl) rfl) ?_))))
     refine T.pk (.bool (z4 == 0)) (fun _ => by kernel_rfl) (T.nil ?_)
     refine T.cond (z4 == 0) (by kernel_rfl) (by kernel_rfl) (fun _ => ?_) (fun h => absurd (hc4.symm.trans h) (by decide))
     refine T.region (T.p4 (pB b1 0) (vi r3.2) (pB b1 0) (pB b1 2) (fun _ => by kernel_rfl) ?_)
     let v109_ : List Value := [.slice A902 p904.length c903, vi (IntKind.i64.wrap (p906 + 1)), vi r3.2]
     refine T.step (W1.st 0 v109_ ((box b1 86 v109_) :: i102_ :: G900) [vi r3.2] (by rfl) rfl rfl rfl rfl rfl rfl (fun _ => by kernel_rfl) ?_)
     refine T.nil (T.seq (T.region (T.p3 (pB b1 0) (pB b1 0) (pB b1 2) (fun _ => by kernel_rfl) (T.look (vi r3.2) (by kernel_rfl) (ld1 0 rfl rfl (fun _ => by kernel_rfl) (by rfl) rfl) ?_))))
     refine T.pk (.bool (r3.2 == 0)) (fun _ => by kernel_rfl) (T.nil ?_)
     refine T.cond (r3.2 == 0) (by kernel_rfl) (by kernel_rfl) (fun hc5 => ?_) (fun hc5 => ?_)
     ·
      rw [hc5, cond_true] at hX4
      refine T.region (T.p4 (pB b1 0) (.slice A3 r3.1.length c3) (pB b1 0) (pB b1 0) (fun _ => by kernel_rfl) ?_)
      let v110_ : List Value := [.slice A3 r3.1.length c3, vi (IntKind.i64.wrap (p906 + 1)), vi r3.2]
      refine T.step (W1.st 0 v110_ ((box b1 86 v110_) :: i102_ :: G900) [.slice A3 r3.1.length c3] (by rfl) rfl rfl rfl rfl rfl rfl (fun _ => by kernel_rfl) ?_)
      refine T.nil ?_
      cases hX4
      repeat first | refine T.unthen ?_ | refine T.unblock ?_
      exact T.end0 rfl fun w' hh => ⟨_, rfl, ⟨A3, c3, V5, vr, (SlOk.mono hs3 (vt (made_le _ _) vr)), rfl, (hh.sub (kp1 (kp1 kpr)))⟩⟩
     rw [hc5, cond_false] at hX4
     refine T.skip_code ?_
     cases hX4
     repeat first | refine T.unthen ?_ | refine T.unblock ?_
     exact T.end0 rfl fun w' hh => ⟨_, rfl, ⟨A902, c903, V5, vr, (SlOk.mono hs905 (vt (vt hV2 hV3) hV5)), rfl, (hh.sub (kp1 (kp1 kpr)))⟩⟩
    rintro v w' ⟨A4, c4, V6, hV6, hs4, rfl, hh⟩
    refine ⟨V6, ((box b1 86 [.slice A4 z8.length c4, vi (IntKind.i64.wrap (p906 + 1)), vi r3.2]) :: i102_ :: G900), hh, ?_⟩
    clear hh
    refine TA.on (Hp.old (vt hV5 hV6) w113_ (dr1 (kp1 kp0)) (oB1 ol0)) ?_
    refine TA.done (by kernel_rfl) ?_
    exact fun a w' hf hh => ⟨A4, c4, V6, (vt hV5 hV6), hs4, (Fr.sel hf rfl), (hh.sub (kp1 (kp1 kpr)))⟩
   rintro a w' ⟨A5, c5, V7, hV7, hs5, hf, hh⟩
   refine (?_ : T 59 w V7 ((box b1 86 [.slice A5 z8.length c5, vi (IntKind.i64.wrap (p906 + 1)), vi r3.2]) :: i102_ :: G900) [(0, pB b901 0), (11, pB b1 0)] _) a w' hf hh
   clear hf hh
   cases hX3
   exact fun a w' hf hh => ⟨z8, r3.2, rfl, A5, c5, V7, hV7, hs5, (Fr.sel hf rfl), (hh.sub (kp1 (kp1 kpr)))⟩
  rw [hc4, cond_false] at hX3
  refine T.skip_code ?_
  cases hX3
  exact fun a w' hf hh => ⟨p904, z4, rfl, A902, c903, V3, vr, (SlOk.mono hs905 (vt hV2 hV3)), (Fr.sel hf rfl), (hh.sub (kp1 (kp1 kpr)))⟩
 rintro a w' ⟨z6, z7, rfl, A2, c2, V4, hV4, hs2, hf, hh⟩
 try dsimp only at hF
 let i104_ : HObj := box b1 86 [.slice A2 z6.length c2, vi (IntKind.i64.wrap (p906 + 1)), vi z7]
 refine (?_ : T 59 w V4 (i104_ :: i102_ :: G900) [(0, pB b901 0), (11, pB b1 0)] _) a w' hf hh
 clear hf hh
 refine T.seq (T.region (T.p2 (pB b901 0) (pB b1 0) (fun _ => by kernel_rfl) ?_))
 obtain ⟨q2, hX5, hF⟩ := ob hF
 refine T.step (W1.within 54 [pB b901 0, pB b1 0] (fun v w' => ∃ (z9 : List DElem) (z10 : Int), q2 = (z9, z10) ∧ ∃ (A6 : Option Addr) (c6 : Nat) (V8 : View), View.le V4 V8 ∧ SlOk V8 eElem A6 c6 z9 ∧ v = vi z7 ∧ Hp w V8 (i104_ :: (box b901 78 [.slice A6 z9.length c6, vi z10, vi p907]) :: G900) w') Tryz.func54 rfl rfl (by kernel_rfl) (fun _ => by kernel_rfl) rfl ?_ ?_)
 ·
  refine T.seq (T.region (T.pk (vi 0) (fun _ => by kernel_rfl) (T.nil ?_)))
  obtain ⟨q3, hX6, hX5⟩ := ob hX5
  refine T.cut (fun a w' => ∃ (z11 : List DElem) (z12 : Int), q3 = (z11, z12) ∧ ∃ (A7 : Option Addr) (c7 : Nat) (V9 : View), View.le V4 V9 ∧ SlOk V9 eElem A7 c7 z11 ∧ Fr 28 [(1, pB b1 0)] a ∧ Hp w V9 (i104_ :: (box b901 78 [.slice A7 z11.length c7, vi z12, vi p907]) :: G900) w') ?_ ?_
  ·
   refine T.seq (T.region (T.p3 (pB b1 0) (pB b1 0) (pB b1 2) (fun _ => by kernel_rfl) (T.look (vi z7) (by kernel_rfl) (ld1 0 rfl rfl (fun _ => by kernel_rfl) (by rfl) rfl) ?_)))
   refine T.pk (.bool (z7 == 0)) (fun _ => by kernel_rfl) (T.nil ?_)
   refine T.cond (z7 == 0) (by kernel_rfl) (by kernel_rfl) (fun hc6 => ?_) (fun hc6 => ?_)
   ·
    rw [hc6, cond_true] at hX6
    refine T.held (i104_ :: []) (by kernel_rfl) ?_
    have w114_ := vt (vt (vt hV900 hV2) hV3) hV4
    refine TA.keep (Hp.old vr w114_ (kp1 (dr1 kp0)) (oB1 ol0)) fun o120_ => ?_
    refine TA.tp 0 (pB b901 0) rfl (fun _ => by kernel_rfl) (fun _ _ _ h => h) o120_ ?_
    refine TA.tp 1 (pB b901 0) rfl (fun _ => by kernel_rfl) (fun _ _ _ h => h) o120_ ?_
    refine TA.tp 2 (pB b1 0) rfl (fun _ => by kernel_rfl) (fun _ _ _ h => h) o120_ ?_
    refine TA.tp 3 (pB b1 0) rfl (fun _ => by kernel_rfl) (fun _ _ _ h => h) o120_ ?_
    refine TA.tp 4 (pB b1 0) rfl (fun _ => by kernel_rfl) (fun _ _ _ h => h) o120_ ?_
    refine TA.tk 5 (.slice A2 z6.length c2) rfl (by kernel_rfl) (fun _ _ _ h => h) o120_ (ld1 0 rfl rfl (fun _ => by kernel_rfl) (by rfl) rfl) ?_
    refine TA.tp 6 (pB b1 0) rfl (fun _ => by kernel_rfl) (fun _ _ _ h => h) o120_ ?_
    refine TA.tp 7 (pB b1 0) rfl (fun _ => by kernel_rfl) (fun _ _ _ h => h) o120_ ?_
    refine TA.tp 8 (pB b1 1) rfl (fun _ => by kernel_rfl) (fun _ _ _ h => h) o120_ ?_
    refine TA.tk 9 (vi (IntKind.i64.wrap (p906 + 1))) rfl (by kernel_rfl) (fun _ _ _ h => h) o120_ (ld1 0 rfl rfl (fun _ => by kernel_rfl) (by rfl) rfl) ?_
    refine TA.tp 10 (pB b901 0) rfl (fun _ => by kernel_rfl) (fun _ _ _ h => h) o120_ ?_
    refine TA.tp 11 (pB b901 0) rfl (fun _ => by kernel_rfl) (fun _ _ _ h => h) o120_ ?_
    refine TA.all [12] (by kernel_rfl) rfl ⟨?_, trivial⟩
    refine TA.br rfl (W1.st 1 [.slice A2 z6.length c2, vi p906, vi p907] (i104_ :: (box b901 78 [.slice A2 z6.length c2, vi p906, vi p907]) :: G900) [.slice A2 z6.length c2] (by rfl) rfl rfl rfl rfl rfl rfl (fun _ => by kernel_rfl) ?_)
    refine TA.onk (Hp.old vr w114_ (kp1 (dr1 kp0)) (oB1 ol0)) fun o121_ => ?_
    refine TA.tp 13 (pB b901 0) rfl (fun _ => by kernel_rfl) (fun _ _ _ h => h) o121_ ?_
    refine TA.tp 14 (pB b901 1) rfl (fun _ => by kernel_rfl) (fun _ _ _ h => h) o121_ ?_
    refine TA.all [15] (by kernel_rfl) rfl ⟨?_, trivial⟩
    let v111_ : List Value := [.slice A2 z6.length c2, vi (IntKind.i64.wrap (p906 + 1)), vi p907]
    refine TA.br rfl (W1.st 1 v111_ (i104_ :: (box b901 78 v111_) :: G900) [vi (IntKind.i64.wrap (p906 + 1))] (by rfl) rfl rfl rfl rfl rfl rfl (fun _ => by kernel_rfl) ?_)
    refine TA.on (Hp.old vr w114_ (kp1 (dr1 kp0)) (oB1 ol0)) ?_
    refine TA.done (by kernel_rfl) ?_
    cases hX6
    exact fun a w' hf hh => ⟨z6, (IntKind.i64.wrap (p906 + 1)), rfl, A2, c2, V4, vr, hs2, (Fr.sel hf rfl), (hh.sub (kp1 (kp1 kpr)))⟩
   rw [hc6, cond_false] at hX6
   refine T.skip_code ?_
   cases hX6
   exact fun a w' hf hh => ⟨p904, p906, rfl, A902, c903, V4, vr, (SlOk.mono hs905 (vt (vt hV2 hV3) hV4)), (Fr.sel hf rfl), (hh.sub (kp1 (kp1 kpr)))⟩
  rintro a w' ⟨z11, z12, rfl, A7, c7, V9, hV9, hs7, hf, hh⟩
  try dsimp only at hX5
  refine (?_ : T 28 w V9 (i104_ :: (box b901 78 [.slice A7 z11.length c7, vi z12, vi p907]) :: G900) [(1, pB b1 0)] _) a w' hf hh
  clear hf hh
  refine T.seq (T.region (T.p3 (pB b1 0) (pB b1 0) (pB b1 2) (fun _ => by kernel_rfl) (T.look (vi z7) (by kernel_rfl) (ld1 0 rfl rfl (fun _ => by kernel_rfl) (by rfl) rfl) ?_)))
  refine T.pk (vi z7) (fun _ => by kernel_rfl) (T.nil ?_)
  cases hX5
  refine T.ret rfl ?_
  exact T.ret1 rfl (ResIs.tmp rfl) fun w' hh => ⟨_, rfl, ⟨z11, z12, rfl, A7, c7, V9, hV9, hs7, rfl, (hh.sub (kp1 (kp1 kpr)))⟩⟩
 rintro v w' ⟨z9, z10, rfl, A6, c6, V8, hV8, hs6, rfl, hh⟩
 try dsimp only at hF
 refine ⟨V8, (i104_ :: (box b901 78 [.slice A6 z9.length c6, vi z10, vi p907]) :: G900), hh, ?_⟩
 clear hh
 refine T.pk (vi z7) (fun _ => by kernel_rfl) (T.nil ?_)
 have hres := Option.some.inj hF
 subst hres
 refine T.ret rfl ?_
 repeat first | refine T.unthen ?_ | refine T.unblock ?_
 exact T.ret1 rfl (ResIs.tmp rfl) fun w' hh => ⟨_, rfl, ⟨A6, c6, V8, (vt (vt (vt hV2 hV3) hV4) hV8), hs6, rfl, (hh.sub (dr1 (kp1 kpr)))⟩⟩
set_option maxRecDepth 100000 in
set_option maxHeartbeats 4000000 in
theorem fs_FS_Remove_fr_l (F : Nat) (p904 : List DElem) (p906 : Int) (p907 : Int) (p908 : ByteArray) (r : (List DElem) × Int × Int) (hF : fs_FS_Remove_fr F p904 p906 p907 p908 = some r) (w : World) (hGl : Glob w) (b901 : Nat) (A902 : Option Addr) (c903 : Nat) (V900 : View) (G900 : List HObj) (w1 : World) (hs905 : SlOk V900 eElem A902 c903 p904) (hh : Hp w V900 ((box b901 78 [.slice A902 p904.length c903, .int .i64 p906, .int .i64 p907]) :: G900) w1) :
 Calls Tryz.prog 30 #[.pointer (some ⟨b901, 0, none⟩), .string p908] w1 (fun e w2 => ∃ v, e = .returned v ∧ ∃ (A1 : Option Addr) (c1 : Nat) (V1 : View), View.le V900 V1 ∧ SlOk V1 eElem A1 c1 r.1 ∧ v = .int .i64 r.2.2 ∧ Hp w V1 ((box b901 78 [.slice A1 r.1.length c1, .int .i64 r.2.1, .int .i64 p907]) :: G900) w2) := by
 unfold fs_FS_Remove_fr at hF
 have hV900 := hh.base
 refine T.startI (l := [pB b901 0, .string p908]) Tryz.func30 rfl rfl rfl ?_ hh
 clear hh
 refine T.seq (T.region (T.pk (vi 0) (fun _ => by kernel_rfl) (T.nil (T.seq (T.region (T.p2 (pB b901 0) (.string p908) (fun _ => by kernel_rfl) ?_))))))
 obtain ⟨r1, hb1, hF⟩ := ob hF
 let i122_ : HObj := box b901 78 [.slice A902 p904.length c903, vi p906, vi p907]
 let a155_ : Value := .tuple #[vi r1.1, .string r1.2.1, vi r1.2.2.1, vi r1.2.2.2]
 refine T.step (W1.callI 51 [pB b901 0, .string p908] (fun v w' => ∃ (V2 : View), View.le V900 V2 ∧ v = a155_ ∧ Hp w V2 (i122_ :: G900) w') (by kernel_rfl) (fun _ => by kernel_rfl) (fun w' hh => fs_FS_parent_fr_l F p904 p906 p907 p908 r1 hb1 w hGl b901 A902 c903 V900 G900 w' hs905 (hh.sub (kp1 kpr))) ?_)
 rintro v w' ⟨V2, hV2, rfl, hh⟩
 refine ⟨_, _, hh, ?_⟩
 clear hh
 refine T.p8 a155_ (vi r1.1) (.string r1.2.1) (vi r1.2.2.1) (vi r1.2.2.2) (vi r1.1) (.string r1.2.1) (vi r1.2.2.1) (fun _ => by kernel_rfl) (T.pk (vi r1.2.2.2) (fun _ => by kernel_rfl) (T.nil (T.seq (T.seq (T.region (T.p2 (vi r1.2.2.2) (.bool (r1.2.2.2 != 0)) (fun _ => by kernel_rfl) (T.nil ?_)))))))
 refine T.cond (r1.2.2.2 != 0) (by kernel_rfl) (by kernel_rfl) (fun hc1 => ?_) (fun hc1 => ?_)
 ·
  rw [hc1, cond_true] at hF
  refine T.seq (T.region (T.p2 (vi r1.2.2.2) (vi r1.2.2.2) (fun _ => by kernel_rfl) (T.nil ?_)))
  have hres := Option.some.inj hF
  subst hres
  refine T.ret rfl ?_
  repeat first | refine T.unthen ?_ | refine T.unblock ?_
  exact T.ret1 rfl (ResIs.tmp rfl) fun w' hh => ⟨_, rfl, ⟨A902, c903, V2, hV2, (SlOk.mono hs905 hV2), rfl, (hh.sub (kp1 kpr))⟩⟩
 rw [hc1, cond_false] at hF
 refine T.skip_code ?_
 refine T.seq (T.seq (T.region (T.p2 (vi r1.2.2.1) (.bool (r1.2.2.1 == 1)) (fun _ => by kernel_rfl) (T.nil ?_))))
 refine T.cond (r1.2.2.1 == 1) (by kernel_rfl) (by kernel_rfl) (fun hc2 => ?_) (fun hc2 => ?_)
 ·
  rw [hc2, cond_true] at hF
  refine T.seq (T.region (T.pk (vi 1) (fun _ => by kernel_rfl) (T.nil ?_)))
  have hres := Option.some.inj hF
  subst hres
  refine T.ret rfl ?_
  repeat first | refine T.unthen ?_ | refine T.unblock ?_
  exact T.ret1 rfl (ResIs.tmp rfl) fun w' hh => ⟨_, rfl, ⟨A902, c903, V2, hV2, (SlOk.mono hs905 hV2), rfl, (hh.sub (kp1 kpr))⟩⟩
 rw [hc2, cond_false] at hF
 refine T.skip_code ?_
 refine T.seq (T.seq (T.region (T.p2 (vi r1.2.2.1) (.bool (r1.2.2.1 == 0)) (fun _ => by kernel_rfl) (T.nil ?_))))
 refine T.cond (r1.2.2.1 == 0) (by kernel_rfl) (by kernel_rfl) (fun hc3 => ?_) (fun hc3 => ?_)
 ·
  rw [hc3, cond_true] at hF
  refine T.seq (T.region (T.pk (vi 4) (fun _ => by kernel_rfl) (T.nil ?_)))
  have hres := Option.some.inj hF
  subst hres
  refine T.ret rfl ?_
  repeat first | refine T.unthen ?_ | refine T.unblock ?_
  exact T.ret1 rfl (ResIs.tmp rfl) fun w' hh => ⟨_, rfl, ⟨A902, c903, V2, hV2, (SlOk.mono hs905 hV2), rfl, (hh.sub (kp1 kpr))⟩⟩
 rw [hc3, cond_false] at hF
 refine T.skip_code ?_
 refine T.seq (T.seq ?_)
 refine T.held (i122_ :: []) (by kernel_rfl) ?_
 refine TA.keep (Hp.old vr (vt hV900 hV2) (kp1 kp0) (oB1 ol0)) fun o166_ => ?_
 refine TA.tp 0 (pB b901 0) rfl (fun _ => by kernel_rfl) (fun _ _ _ h => h) o166_ ?_
 refine TA.tp 1 (pB b901 0) rfl (fun _ => by kernel_rfl) (fun _ _ _ h => h) o166_ ?_
 refine TA.tp 2 (pB b901 0) rfl (fun _ => by kernel_rfl) (fun _ _ _ h => h) o166_ ?_
 refine TA.tk 3 (.slice A902 p904.length c903) rfl (by kernel_rfl) (fun _ _ _ h => h) o166_ (ld1 0 rfl rfl (fun _ => by kernel_rfl) (by rfl) rfl) ?_
 refine TA.tp 4 (vi r1.2.2.1) rfl (fun _ => by kernel_rfl) (fun _ _ _ h => h) o166_ ?_
 refine TA.tp 5 (pB b901 0) rfl (fun _ => by kernel_rfl) (fun _ _ _ h => h) o166_ ?_
 refine TA.tp 6 (pB b901 0) rfl (fun _ => by kernel_rfl) (fun _ _ _ h => h) o166_ ?_
 refine TA.tp 7 (pB b901 1) rfl (fun _ => by kernel_rfl) (fun _ _ _ h => h) o166_ ?_
 refine TA.tk 8 (vi p906) rfl (by kernel_rfl) (fun _ _ _ h => h) o166_ (ld1 0 rfl rfl (fun _ => by kernel_rfl) (by rfl) rfl) ?_
 refine TA.all [9] (by kernel_rfl) rfl ⟨?_, trivial⟩
 obtain ⟨r2, hb2, hF⟩ := ob hF
 refine TA.br rfl (W1.call (vT2 (vSc (eList eStr)) (vSc eInt)) r2 66 #[.slice A902 p904.length c903, vi 0, vi r1.2.2.1, vi p906] (by kernel_rfl) (fun _ => by kernel_rfl) (fun w' hh => dir_List_l F p904 0 r1.2.2.1 p906 r2 hb2 w' (Glob.mono hGl (vt hh.base hh.view)) A902 c903 (SlOk.mono (SlOk.mono hs905 hV2) hh.view)) ?_)
 intro u V3 hV3 hu
 obtain ⟨u1, u2, rfl, hu1, hu2⟩ := vT2_elim hu
 obtain ⟨A2, c2, rfl, hs2⟩ := vlist_elim hu1
 obtain rfl := sureInt _ _ _ hu2
 refine TA.onk (Hp.old hV3 (vt hV900 hV2) (kp1 kp0) (oB1 ol0)) fun o167_ => ?_
 refine TA.tp 10 (.tuple #[.slice A2 r2.1.length c2, vi r2.2]) rfl (fun _ => by kernel_rfl) (fun _ _ _ h => h) o167_ ?_
 refine TA.tp 11 (.slice A2 r2.1.length c2) rfl (fun _ => by kernel_rfl) (fun _ _ _ h => h) o167_ ?_
 refine TA.tp 12 (vi r2.2) rfl (fun _ => by kernel_rfl) (fun _ _ _ h => h) o167_ ?_
 refine TA.tp 13 (.slice A2 r2.1.length c2) rfl (fun _ => by kernel_rfl) (fun _ _ _ h => h) o167_ ?_
 refine TA.tp 14 (vi r2.2) rfl (fun _ => by kernel_rfl) (fun _ _ _ h => h) o167_ ?_
 refine TA.done (by kernel_rfl) ?_
 refine T.seq (T.region (T.p3 (.slice A2 r2.1.length c2) (vi (r2.1.length : Int)) (.bool (decide ((0 : Int) < (r2.1.length : Int)))) (fun _ => by kernel_rfl) (T.nil ?_)))
 refine T.cond (decide ((0 : Int) < (r2.1.length : Int))) (by kernel_rfl) (by kernel_rfl) (fun hc4 => ?_) (fun hc4 => ?_)
 ·
  rw [hc4, cond_true] at hF
  refine T.seq (T.region (T.pk (vi 5) (fun _ => by kernel_rfl) (T.nil ?_)))
  have hres := Option.some.inj hF
  subst hres
  refine T.ret rfl ?_
  repeat first | refine T.unthen ?_ | refine T.unblock ?_
  exact T.ret1 rfl (ResIs.tmp rfl) fun w' hh => ⟨_, rfl, ⟨A902, c903, V3, (vt hV2 hV3), (SlOk.mono hs905 (vt hV2 hV3)), rfl, (hh.sub (kp1 kpr))⟩⟩
 rw [hc4, cond_false] at hF
 refine T.skip_code ?_
 refine T.seq (T.region (T.pk (pB b901 0) (fun _ => by kernel_rfl) ?_))
 obtain ⟨z4, hX1, hF⟩ := ob hF
 let v127_ : List Value := [.slice A902 p904.length c903, vi (IntKind.i64.wrap (p906 + 1)), vi z4]
 refine T.step (W1.within 52 [pB b901 0] (fun v w' => ∃ (b1 : Nat), v = pB b1 0 ∧ Hp w V3 ((box b1 86 v127_) :: i122_ :: G900) w') Tryz.func52 rfl rfl (by kernel_rfl) (fun _ => by kernel_rfl) rfl ?_ ?_)
 ·
  refine T.seq (T.region (T.pk (.pointer none) (fun _ => by kernel_rfl) (T.nil (T.seq ?_))))
  refine T.held (i122_ :: []) (by kernel_rfl) ?_
  have w161_ := vt (vt hV900 hV2) hV3
  refine TA.keep (Hp.old vr w161_ (kp1 kp0) (oB1 ol0)) fun o168_ => ?_
  refine TA.tp 0 (pB b901 0) rfl (fun _ => by kernel_rfl) (fun _ _ _ h => h) o168_ ?_
  refine TA.tp 1 (pB b901 0) rfl (fun _ => by kernel_rfl) (fun _ _ _ h => h) o168_ ?_
  refine TA.tp 2 (pB b901 0) rfl (fun _ => by kernel_rfl) (fun _ _ _ h => h) o168_ ?_
  refine TA.tk 3 (.slice A902 p904.length c903) rfl (by kernel_rfl) (fun _ _ _ h => h) o168_ (ld1 0 rfl rfl (fun _ => by kernel_rfl) (by rfl) rfl) ?_
  refine TA.tp 4 (pB b901 0) rfl (fun _ => by kernel_rfl) (fun _ _ _ h => h) o168_ ?_
  refine TA.tp 5 (pB b901 0) rfl (fun _ => by kernel_rfl) (fun _ _ _ h => h) o168_ ?_
  refine TA.tp 6 (pB b901 1) rfl (fun _ => by kernel_rfl) (fun _ _ _ h => h) o168_ ?_
  refine TA.tk 7 (vi p906) rfl (by kernel_rfl) (fun _ _ _ h => h) o168_ (ld1 0 rfl rfl (fun _ => by kernel_rfl) (by rfl) rfl) ?_
  refine TA.tp 8 (vi (IntKind.i64.wrap (p906 + 1))) rfl (fun _ => by kernel_rfl) (fun _ _ _ h => h) o168_ ?_
  refine TA.tp 9 (.agg #[.slice A902 p904.length c903, vi (IntKind.i64.wrap (p906 + 1)), vi 0]) rfl (fun _ => by kernel_rfl) (fun _ _ _ h => h) o168_ ?_
  refine TA.all [10] (by kernel_rfl) rfl ⟨?_, trivial⟩
  refine TA.br rfl (W1.np 86 [.slice A902 p904.length c903, vi (IntKind.i64.wrap (p906 + 1)), vi 0] (fun _ => by kernel_rfl) (fun b1 => ?_))
  refine TA.onk (Hp.old vr w161_ (dr1 (kp1 kp0)) (oB1 ol0)) fun o169_ => ?_
  refine TA.tp 11 (pB b1 0) rfl (fun _ => by kernel_rfl) (fun _ _ _ h => h) o169_ ?_
  refine TA.done (by kernel_rfl) ?_
  obtain ⟨z5, hX2, hX1⟩ := ob hX1
  let i123_ : HObj := box b1 86 [.slice A902 p904.length c903, vi (IntKind.i64.wrap (p906 + 1)), vi z5]
  refine T.cut (fun a w' => Fr 24 [(3, pB b1 0)] a ∧ Hp w V3 (i123_ :: i122_ :: G900) w') ?_ ?_
  ·
   refine T.seq (T.region (T.p3 (pB b901 0) (pB b901 0) (pB b901 1) (fun _ => by kernel_rfl) (T.look (vi p906) (by kernel_rfl) (ld1 1 rfl rfl (fun _ => by kernel_rfl) (by rfl) rfl) ?_)))
   refine T.pk (.bool (p906 == 2147483647)) (fun _ => by kernel_rfl) (T.nil ?_)
   refine T.cond (p906 == 2147483647) (by kernel_rfl) (by kernel_rfl) (fun hc5 => ?_) (fun hc5 => ?_)
   ·
    rw [hc5, cond_true] at hX2
    refine T.region (T.p3 (pB b1 0) (pB b1 0) (pB b1 2) (fun _ => by kernel_rfl) ?_)
    let v128_ : List Value := [.slice A902 p904.length c903, vi (IntKind.i64.wrap (p906 + 1)), vi 8]
    refine T.step (W1.st 0 v128_ ((box b1 86 v128_) :: i122_ :: G900) [vi 8] (by rfl) rfl rfl rfl rfl rfl rfl (fun _ => by kernel_rfl) ?_)
    refine T.nil ?_
    cases hX2
    exact fun a w' hf hh => ⟨(Fr.sel hf rfl), (hh.sub (kp1 (kp1 kpr)))⟩
   rw [hc5, cond_false] at hX2
   refine T.skip_code ?_
   cases hX2
   exact fun a w' hf hh => ⟨(Fr.sel hf rfl), (hh.sub (kp1 (kp1 kpr)))⟩
  rintro a w' ⟨hf, hh⟩
  refine (?_ : T 24 w V3 (i123_ :: i122_ :: G900) [(3, pB b1 0)] _) a w' hf hh
  clear hf hh
  refine T.seq (T.region (T.p2 (pB b1 0) (pB b1 0) (fun _ => by kernel_rfl) (T.nil ?_)))
  cases hX1
  refine T.ret rfl ?_
  exact T.ret1 rfl (ResIs.tmp rfl) fun w' hh => ⟨_, rfl, ⟨b1, rfl, (hh.sub (kp1 (kp1 kpr)))⟩⟩
 rintro v w' ⟨b1, rfl, hh⟩
 refine ⟨V3, ((box b1 86 v127_) :: i122_ :: G900), hh, ?_⟩
 clear hh
 refine T.pk (pB b1 0) (fun _ => by kernel_rfl) (T.nil ?_)
 obtain ⟨q1, hX3, hF⟩ := ob hF
 refine T.cut (fun a w' => ∃ (z6 : List DElem) (z7 : Int), q1 = (z6, z7) ∧ ∃ (A3 : Option Addr) (c3 : Nat) (V4 : View), View.le V3 V4 ∧ SlOk V4 eElem A3 c3 z6 ∧ Fr 107 [(0, pB b901 0), (7, vi r1.2.2.1), (11, pB b1 0)] a ∧ Hp w V4 ((box b1 86 [.slice A3 z6.length c3, vi (IntKind.i64.wrap (p906 + 1)), vi z7]) :: i122_ :: G900) w') ?_ ?_
 ·
  refine T.seq (T.region (T.p3 (pB b1 0) (pB b1 0) (pB b1 2) (fun _ => by kernel_rfl) (T.look (vi z4) (by kernel_rfl) (ld1 0 rfl rfl (fun _ => by kernel_rfl) (by rfl) rfl) ?_)))
  refine T.pk (.bool (z4 == 0)) (fun _ => by kernel_rfl) (T.nil ?_)
  refine T.cond (z4 == 0) (by kernel_rfl) (by kernel_rfl) (fun hc6 => ?_) (fun hc6 => ?_)
  ·
   rw [hc6, cond_true] at hX3
   obtain ⟨r3, hb3, hX3⟩ := ob hX3
   obtain ⟨z8, hX4, hX3⟩ := ob hX3
   refine T.mid (fun a w' => ∃ (A6 : Option Addr) (c6 : Nat) (V7 : View), View.le V3 V7 ∧ SlOk V7 eElem A6 c6 z8 ∧ Fr 107 [(0, pB b901 0), (7, vi r1.2.2.1), (11, pB b1 0)] a ∧ Hp w V7 ((box b1 86 [.slice A6 z8.length c6, vi (IntKind.i64.wrap (p906 + 1)), vi r3.2]) :: i122_ :: G900) w') ?_ ?_
   ·
    refine T.held (i122_ :: []) (by kernel_rfl) ?_
    have w162_ := vt (vt hV900 hV2) hV3
    refine TA.keep (Hp.old vr w162_ (dr1 (kp1 kp0)) (oB1 ol0)) fun o170_ => ?_
    refine TA.tp 0 (pB b1 0) rfl (fun _ => by kernel_rfl) (fun _ _ _ h => h) o170_ ?_
    refine TA.tp 1 (pB b1 0) rfl (fun _ => by kernel_rfl) (fun _ _ _ h => h) o170_ ?_
    refine TA.tp 2 (pB b1 0) rfl (fun _ => by kernel_rfl) (fun _ _ _ h => h) o170_ ?_
    refine TA.tp 3 (pB b1 0) rfl (fun _ => by kernel_rfl) (fun _ _ _ h => h) o170_ ?_
    refine TA.tp 5 (vi r1.1) rfl (fun _ => by kernel_rfl) (fun _ _ _ h => h) o170_ ?_
    refine TA.tp 6 (.string r1.2.1) rfl (fun _ => by kernel_rfl) (fun _ _ _ h => h) o170_ ?_
    refine TA.tp 7 (pB b1 0) rfl (fun _ => by kernel_rfl) (fun _ _ _ h => h) o170_ ?_
    refine TA.tp 8 (pB b1 0) rfl (fun _ => by kernel_rfl) (fun _ _ _ h => h) o170_ ?_
    refine TA.tp 9 (pB b1 1) rfl (fun _ => by kernel_rfl) (fun _ _ _ h => h) o170_ ?_
    refine TA.all [4, 10] (by kernel_rfl) rfl ⟨?_, ?_, trivial⟩
    ·
     refine TA.br rfl (W1.look (.slice A902 p904.length c903) (by kernel_rfl) (ld1 0 rfl rfl (fun _ => by kernel_rfl) (by rfl) rfl) ?_)
     refine TA.on (Hp.old vr w162_ (dr1 (kp1 kp0)) (oB1 ol0)) ?_
     refine TA.all [10] (by kernel_rfl) rfl ⟨?_, trivial⟩
     refine TA.br rfl (W1.look (vi (IntKind.i64.wrap (p906 + 1))) (by kernel_rfl) (ld1 0 rfl rfl (fun _ => by kernel_rfl) (by rfl) rfl) ?_)
     refine TA.on (Hp.old vr w162_ (dr1 (kp1 kp0)) (oB1 ol0)) ?_
     refine TA.all [11] (by kernel_rfl) rfl ⟨?_, trivial⟩
     refine TA.br rfl (W1.call (vT2 (vSc (eList eElem)) (vSc eInt)) r3 56 #[.slice A902 p904.length c903, vi 0, vi r1.1, .string r1.2.1, vi (IntKind.i64.wrap (p906 + 1))] (by kernel_rfl) (fun _ => by kernel_rfl) (fun w' hh => dir_Drop_l F p904 0 r1.1 r1.2.1 (IntKind.i64.wrap (p906 + 1)) r3 hb3 w' (Glob.mono hGl (vt hh.base hh.view)) A902 c903 (SlOk.mono (SlOk.mono hs905 (vt hV2 hV3)) hh.view)) ?_)
     intro u V5 hV5 hu
     obtain ⟨u3, u4, rfl, hu3, hu4⟩ := vT2_elim hu
     obtain ⟨A4, c4, rfl, hs4⟩ := vlist_elim hu3
     obtain rfl := sureInt _ _ _ hu4
     refine TA.onk (Hp.old hV5 w162_ (dr1 (kp1 kp0)) (oB1 ol0)) fun o171_ => ?_
     refine TA.tp 12 (.slice A4 r3.1.length c4) rfl (fun _ => by kernel_rfl) (fun _ _ _ h => h) o171_ ?_
     refine TA.tp 13 (vi r3.2) rfl (fun _ => by kernel_rfl) (fun _ _ _ h => h) o171_ ?_
     refine TA.all [14] (by kernel_rfl) rfl ⟨?_, trivial⟩
     refine TA.br rfl (W1.within 55 [pB b1 0, .slice A4 r3.1.length c4, vi r3.2] (fun v w' => ∃ (A5 : Option Addr) (c5 : Nat) (V6 : View), View.le V5 V6 ∧ SlOk V6 eElem A5 c5 z8 ∧ v = .tuple #[] ∧ Hp w V6 ((box b1 86 [.slice A5 z8.length c5, vi (IntKind.i64.wrap (p906 + 1)), vi r3.2]) :: i122_ :: G900) w') Tryz.func55 rfl rfl (by kernel_rfl) (fun _ => by kernel_rfl) rfl ?_ ?_)
     ·
      refine T.seq (T.seq (T.region (T.p3 (pB b1 0) (pB b1 0) (pB b1 2) (fun _ => by kernel_rfl) (T.look (vi z4) (by kernel_rfl) (ld1 0 rfl rfl (fun _ => by kernel_rfl) (by rfl) rfl) ?_))))
      refine T.pk (.bool (z4 == 0)) (fun _ => by kernel_rfl) (T.nil ?_)
      refine T.cond (z4 == 0) (by kernel_rfl) (by kernel_rfl) (fun _ => ?_) (fun h => absurd (hc6.symm.trans h) (by decide))
      refine T.region (T.p4 (pB b1 0) (vi r3.2) (pB b1 0) (pB b1 2) (fun _ => by kernel_rfl) ?_)
      let v129_ : List Value := [.slice A902 p904.length c903, vi (IntKind.i64.wrap (p906 + 1)), vi r3.2]
      refine T.step (W1.st 0 v129_ ((box b1 86 v129_) :: i122_ :: G900) [vi r3.2] (by rfl) rfl rfl rfl rfl rfl rfl (fun _ => by kernel_rfl) ?_)
      refine T.nil (T.seq (T.region (T.p3 (pB b1 0) (pB b1 0) (pB b1 2) (fun _ => by kernel_rfl) (T.look (vi r3.2) (by kernel_rfl) (ld1 0 rfl rfl (fun _ => by kernel_rfl) (by rfl) rfl) ?_))))
      refine T.pk (.bool (r3.2 == 0)) (fun _ => by kernel_rfl) (T.nil ?_)
      refine T.cond (r3.2 == 0) (by kernel_rfl) (by kernel_rfl) (fun hc7 => ?_) (fun hc7 => ?_)
      ·
       rw [hc7, cond_true] at hX4
       refine T.region (T.p4 (pB b1 0) (.slice A4 r3.1.length c4) (pB b1 0) (pB b1 0) (fun _ => by kernel_rfl) ?_)
       let v130_ : List Value := [.slice A4 r3.1.length c4, vi (IntKind.i64.wrap (p906 + 1)), vi r3.2]
       refine T.step (W1.st 0 v130_ ((box b1 86 v130_) :: i122_ :: G900) [.slice A4 r3.1.length c4] (by rfl) rfl rfl rfl rfl rfl rfl (fun _ => by kernel_rfl) ?_)
       refine T.nil ?_
       cases hX4
       repeat first | refine T.unthen ?_ | refine T.unblock ?_
       exact T.end0 rfl fun w' hh => ⟨_, rfl, ⟨A4, c4, V5, vr, (SlOk.mono hs4 (vt (made_le _ _) vr)), rfl, (hh.sub (kp1 (kp1 kpr)))⟩⟩
      rw [hc7, cond_false] at hX4
      refine T.skip_code ?_
      cases hX4
      repeat first | refine T.unthen ?_ | refine T.unblock ?_
      exact T.end0 rfl fun w' hh => ⟨_, rfl, ⟨A902, c903, V5, vr, (SlOk.mono hs905 (vt (vt hV2 hV3) hV5)), rfl, (hh.sub (kp1 (kp1 kpr)))⟩⟩
     rintro v w' ⟨A5, c5, V6, hV6, hs5, rfl, hh⟩
     refine ⟨V6, ((box b1 86 [.slice A5 z8.length c5, vi (IntKind.i64.wrap (p906 + 1)), vi r3.2]) :: i122_ :: G900), hh, ?_⟩
     clear hh
     refine TA.on (Hp.old (vt hV5 hV6) w162_ (dr1 (kp1 kp0)) (oB1 ol0)) ?_
     refine TA.done (by kernel_rfl) ?_
     exact fun a w' hf hh => ⟨A5, c5, V6, (vt hV5 hV6), hs5, (Fr.sel hf rfl), (hh.sub (kp1 (kp1 kpr)))⟩
    refine TA.br rfl (W1.look (vi (IntKind.i64.wrap (p906 + 1))) (by kernel_rfl) (ld1 0 rfl rfl (fun _ => by kernel_rfl) (by rfl) rfl) ?_)
    refine TA.on (Hp.old vr w162_ (dr1 (kp1 kp0)) (oB1 ol0)) ?_
    refine TA.all [4] (by kernel_rfl) rfl ⟨?_, trivial⟩
    refine TA.br rfl (W1.look (.slice A902 p904.length c903) (by kernel_rfl) (ld1 0 rfl rfl (fun _ => by kernel_rfl) (by rfl) rfl) ?_)
    refine TA.on (Hp.old vr w162_ (dr1 (kp1 kp0)) (oB1 ol0)) ?_
    refine TA.all [11] (by kernel_rfl) rfl ⟨?_, trivial⟩
    refine TA.br rfl (W1.call (vT2 (vSc (eList eElem)) (vSc eInt)) r3 56 #[.slice A902 p904.length c903, vi 0, vi r1.1, .string r1.2.1, vi (IntKind.i64.wrap (p906 + 1))] (by kernel_rfl) (fun _ => by kernel_rfl) (fun w' hh => dir_Drop_l F p904 0 r1.1 r1.2.1 (IntKind.i64.wrap (p906 + 1)) r3 hb3 w' (Glob.mono hGl (vt hh.base hh.view)) A902 c903 (SlOk.mono (SlOk.mono hs905 (vt hV2 hV3)) hh.view)) ?_)
    intro u V5 hV5 hu
    obtain ⟨u3, u4, rfl, hu3, hu4⟩ := vT2_elim hu
    obtain ⟨A4, c4, rfl, hs4⟩ := vlist_elim hu3
    obtain rfl := sureInt _ _ _ hu4
    refine TA.onk (Hp.old hV5 w162_ (dr1 (kp1 kp0)) (oB1 ol0)) fun o172_ => ?_
    refine TA.tp 12 (.slice A4 r3.1.length c4) rfl (fun _ => by kernel_rfl) (fun _ _ _ h => h) o172_ ?_
    refine TA.tp 13 (vi r3.2) rfl (fun _ => by kernel_rfl) (fun _ _ _ h => h) o172_ ?_
    refine TA.all [14] (by kernel_rfl) rfl ⟨?_, trivial⟩
    refine TA.br rfl (W1.within 55 [pB b1 0, .slice A4 r3.1.length c4, vi r3.2] (fun v w' => ∃ (A5 : Option Addr) (c5 : Nat) (V6 : View), View.le V5 V6 ∧ SlOk V6 eElem A5 c5 z8 ∧ v = .tuple #[] ∧ Hp w V6 ((box b1 86 [.slice A5 z8.length c5, vi (IntKind.i64.wrap (p906 + 1)), vi r3.2]) :: i122_ :: G900) w') Tryz.func55 rfl rfl (by kernel_rfl) (fun _ => by kernel_rfl) rfl ?_ ?_)
    ·
     refine T.seq (T.seq (T.region (T.p3 (pB b1 0) (pB b1 0) (pB b1 2) (fun _ => by kernel_rfl) (T.look (vi z4) (by kernel_rfl) (ld1 0 rfl rfl (fun _ => by kernel_rfl) (by rfl) rfl) ?_))))
     refine T.pk (.bool (z4 == 0)) (fun _ => by kernel_rfl) (T.nil ?_)
     refine T.cond (z4 == 0) (by kernel_rfl) (by kernel_rfl) (fun _ => ?_) (fun h => absurd (hc6.symm.trans h) (by decide))
     refine T.region (T.p4 (pB b1 0) (vi r3.2) (pB b1 0) (pB b1 2) (fun _ => by kernel_rfl) ?_)
     let v131_ : List Value := [.slice A902 p904.length c903, vi (IntKind.i64.wrap (p906 + 1)), vi r3.2]
     refine T.step (W1.st 0 v131_ ((box b1 86 v131_) :: i122_ :: G900) [vi r3.2] (by rfl) rfl rfl rfl rfl rfl rfl (fun _ => by kernel_rfl) ?_)
     refine T.nil (T.seq (T.region (T.p3 (pB b1 0) (pB b1 0) (pB b1 2) (fun _ => by kernel_rfl) (T.look (vi r3.2) (by kernel_rfl) (ld1 0 rfl rfl (fun _ => by kernel_rfl) (by rfl) rfl) ?_))))
     refine T.pk (.bool (r3.2 == 0)) (fun _ => by kernel_rfl) (T.nil ?_)
     refine T.cond (r3.2 == 0) (by kernel_rfl) (by kernel_rfl) (fun hc7 => ?_) (fun hc7 => ?_)
     ·
      rw [hc7, cond_true] at hX4
      refine T.region (T.p4 (pB b1 0) (.slice A4 r3.1.length c4) (pB b1 0) (pB b1 0) (fun _ => by kernel_rfl) ?_)
      let v132_ : List Value := [.slice A4 r3.1.length c4, vi (IntKind.i64.wrap (p906 + 1)), vi r3.2]
      refine T.step (W1.st 0 v132_ ((box b1 86 v132_) :: i122_ :: G900) [.slice A4 r3.1.length c4] (by rfl) rfl rfl rfl rfl rfl rfl (fun _ => by kernel_rfl) ?_)
      refine T.nil ?_
      cases hX4
      repeat first | refine T.unthen ?_ | refine T.unblock ?_
      exact T.end0 rfl fun w' hh => ⟨_, rfl, ⟨A4, c4, V5, vr, (SlOk.mono hs4 (vt (made_le _ _) vr)), rfl, (hh.sub (kp1 (kp1 kpr)))⟩⟩
     rw [hc7, cond_false] at hX4
     refine T.skip_code ?_
     cases hX4
     repeat first | refine T.unthen ?_ | refine T.unblock ?_
     exact T.end0 rfl fun w' hh => ⟨_, rfl, ⟨A902, c903, V5, vr, (SlOk.mono hs905 (vt (vt hV2 hV3) hV5)), rfl, (hh.sub (kp1 (kp1 kpr)))⟩⟩
    rintro v w' ⟨A5, c5, V6, hV6, hs5, rfl, hh⟩
    refine ⟨V6, ((box b1 86 [.slice A5 z8.length c5, vi (IntKind.i64.wrap (p906 + 1)), vi r3.2]) :: i122_ :: G900), hh, ?_⟩
    clear hh
    refine TA.on (Hp.old (vt hV5 hV6) w162_ (dr1 (kp1 kp0)) (oB1 ol0)) ?_
    refine TA.done (by kernel_rfl) ?_
    exact fun a w' hf hh => ⟨A5, c5, V6, (vt hV5 hV6), hs5, (Fr.sel hf rfl), (hh.sub (kp1 (kp1 kpr)))⟩
   rintro a w' ⟨A6, c6, V7, hV7, hs6, hf, hh⟩
   refine (?_ : T 107 w V7 ((box b1 86 [.slice A6 z8.length c6, vi (IntKind.i64.wrap (p906 + 1)), vi r3.2]) :: i122_ :: G900) [(0, pB b901 0), (7, vi r1.2.2.1), (11, pB b1 0)] _) a w' hf hh
   clear hf hh
   cases hX3
   exact fun a w' hf hh => ⟨z8, r3.2, rfl, A6, c6, V7, hV7, hs6, (Fr.sel hf rfl), (hh.sub (kp1 (kp1 kpr)))⟩
  rw [hc6, cond_false] at hX3
  refine T.skip_code ?_
  cases hX3
  exact fun a w' hf hh => ⟨p904, z4, rfl, A902, c903, V3, vr, (SlOk.mono hs905 (vt hV2 hV3)), (Fr.sel hf rfl), (hh.sub (kp1 (kp1 kpr)))⟩
 rintro a w' ⟨z6, z7, rfl, A3, c3, V4, hV4, hs3, hf, hh⟩
 try dsimp only at hF
 refine (?_ : T 107 w V4 ((box b1 86 [.slice A3 z6.length c3, vi (IntKind.i64.wrap (p906 + 1)), vi z7]) :: i122_ :: G900) [(0, pB b901 0), (7, vi r1.2.2.1), (11, pB b1 0)] _) a w' hf hh
 clear hf hh
 obtain ⟨q2, hX5, hF⟩ := ob hF
 refine T.cut (fun a w' => ∃ (z9 : List DElem) (z10 : Int), q2 = (z9, z10) ∧ ∃ (A7 : Option Addr) (c7 : Nat) (V8 : View), View.le V4 V8 ∧ SlOk V8 eElem A7 c7 z9 ∧ Fr 107 [(0, pB b901 0), (7, vi r1.2.2.1), (11, pB b1 0)] a ∧ Hp w V8 ((box b1 86 [.slice A7 z9.length c7, vi (IntKind.i64.wrap (p906 + 1)), vi z10]) :: i122_ :: G900) w') ?_ ?_
 ·
  refine T.seq (T.region (T.p3 (pB b1 0) (pB b1 0) (pB b1 2) (fun _ => by kernel_rfl) (T.look (vi z7) (by kernel_rfl) (ld1 0 rfl rfl (fun _ => by kernel_rfl) (by rfl) rfl) ?_)))
  refine T.pk (.bool (z7 == 0)) (fun _ => by kernel_rfl) (T.nil ?_)
  refine T.cond (z7 == 0) (by kernel_rfl) (by kernel_rfl) (fun hc8 => ?_) (fun hc8 => ?_)
  ·
   rw [hc8, cond_true] at hX5
   obtain ⟨r4, hb4, hX5⟩ := ob hX5
   obtain ⟨z11, hX6, hX5⟩ := ob hX5
   refine T.mid (fun a w' => ∃ (A10 : Option Addr) (c10 : Nat) (V11 : View), View.le V4 V11 ∧ SlOk V11 eElem A10 c10 z11 ∧ Fr 107 [(0, pB b901 0), (7, vi r1.2.2.1), (11, pB b1 0)] a ∧ Hp w V11 ((box b1 86 [.slice A10 z11.length c10, vi (IntKind.i64.wrap (p906 + 1)), vi r4.2]) :: i122_ :: G900) w') ?_ ?_
   ·
    refine T.held (i122_ :: []) (by kernel_rfl) ?_
    have w163_ := vt (vt (vt hV900 hV2) hV3) hV4
    refine TA.keep (Hp.old vr w163_ (dr1 (kp1 kp0)) (oB1 ol0)) fun o173_ => ?_
    refine TA.tp 0 (pB b1 0) rfl (fun _ => by kernel_rfl) (fun _ _ _ h => h) o173_ ?_
    refine TA.tp 1 (pB b1 0) rfl (fun _ => by kernel_rfl) (fun _ _ _ h => h) o173_ ?_
    refine TA.tp 2 (pB b1 0) rfl (fun _ => by kernel_rfl) (fun _ _ _ h => h) o173_ ?_
    refine TA.tp 3 (pB b1 0) rfl (fun _ => by kernel_rfl) (fun _ _ _ h => h) o173_ ?_
    refine TA.tp 5 (vi r1.2.2.1) rfl (fun _ => by kernel_rfl) (fun _ _ _ h => h) o173_ ?_
    refine TA.tp 6 (pB b1 0) rfl (fun _ => by kernel_rfl) (fun _ _ _ h => h) o173_ ?_
    refine TA.tp 7 (pB b1 0) rfl (fun _ => by kernel_rfl) (fun _ _ _ h => h) o173_ ?_
    refine TA.tp 8 (pB b1 1) rfl (fun _ => by kernel_rfl) (fun _ _ _ h => h) o173_ ?_
    refine TA.all [4, 9] (by kernel_rfl) rfl ⟨?_, ?_, trivial⟩
    ·
     refine TA.br rfl (W1.look (.slice A3 z6.length c3) (by kernel_rfl) (ld1 0 rfl rfl (fun _ => by kernel_rfl) (by rfl) rfl) ?_)
     refine TA.on (Hp.old vr w163_ (dr1 (kp1 kp0)) (oB1 ol0)) ?_
     refine TA.all [9] (by kernel_rfl) rfl ⟨?_, trivial⟩
     refine TA.br rfl (W1.look (vi (IntKind.i64.wrap (p906 + 1))) (by kernel_rfl) (ld1 0 rfl rfl (fun _ => by kernel_rfl) (by rfl) rfl) ?_)
     refine TA.on (Hp.old vr w163_ (dr1 (kp1 kp0)) (oB1 ol0)) ?_
     refine TA.all [10] (by kernel_rfl) rfl ⟨?_, trivial⟩
     refine TA.br rfl (W1.call (vT2 (vSc (eList eElem)) (vSc eInt)) r4 60 #[.slice A3 z6.length c3, vi 0, vi r1.2.2.1, .string (ByteArray.mk #[]), vi (IntKind.i64.wrap (p906 + 1))] (by kernel_rfl) (fun _ => by kernel_rfl) (fun w' hh => file_Set_l F z6 0 r1.2.2.1 (ByteArray.mk #[]) (IntKind.i64.wrap (p906 + 1)) r4 hb4 w' A3 c3 (SlOk.mono hs3 hh.view)) ?_)
     intro u V9 hV9 hu
     obtain ⟨u5, u6, rfl, hu5, hu6⟩ := vT2_elim hu
     obtain ⟨A8, c8, rfl, hs8⟩ := vlist_elim hu5
     obtain rfl := sureInt _ _ _ hu6
     refine TA.onk (Hp.old hV9 w163_ (dr1 (kp1 kp0)) (oB1 ol0)) fun o174_ => ?_
     refine TA.tp 11 (.slice A8 r4.1.length c8) rfl (fun _ => by kernel_rfl) (fun _ _ _ h => h) o174_ ?_
     refine TA.tp 12 (vi r4.2) rfl (fun _ => by kernel_rfl) (fun _ _ _ h => h) o174_ ?_
     refine TA.all [13] (by kernel_rfl) rfl ⟨?_, trivial⟩
     refine TA.br rfl (W1.within 55 [pB b1 0, .slice A8 r4.1.length c8, vi r4.2] (fun v w' => ∃ (A9 : Option Addr) (c9 : Nat) (V10 : View), View.le V9 V10 ∧ SlOk V10 eElem A9 c9 z11 ∧ v = .tuple #[] ∧ Hp w V10 ((box b1 86 [.slice A9 z11.length c9, vi (IntKind.i64.wrap (p906 + 1)), vi r4.2]) :: i122_ :: G900) w') Tryz.func55 rfl rfl (by kernel_rfl) (fun _ => by kernel_rfl) rfl ?_ ?_)
     ·
      refine T.seq (T.seq (T.region (T.p3 (pB b1 0) (pB b1 0) (pB b1 2) (fun _ => by kernel_rfl) (T.look (vi z7) (by kernel_rfl) (ld1 0 rfl rfl (fun _ => by kernel_rfl) (by rfl) rfl) ?_))))
      refine T.pk (.bool (z7 == 0)) (fun _ => by kernel_rfl) (T.nil ?_)
      refine T.cond (z7 == 0) (by kernel_rfl) (by kernel_rfl) (fun _ => ?_) (fun h => absurd (hc8.symm.trans h) (by decide))
      refine T.region (T.p4 (pB b1 0) (vi r4.2) (pB b1 0) (pB b1 2) (fun _ => by kernel_rfl) ?_)
      let v133_ : List Value := [.slice A3 z6.length c3, vi (IntKind.i64.wrap (p906 + 1)), vi r4.2]
      refine T.step (W1.st 0 v133_ ((box b1 86 v133_) :: i122_ :: G900) [vi r4.2] (by rfl) rfl rfl rfl rfl rfl rfl (fun _ => by kernel_rfl) ?_)
      refine T.nil (T.seq (T.region (T.p3 (pB b1 0) (pB b1 0) (pB b1 2) (fun _ => by kernel_rfl) (T.look (vi r4.2) (by kernel_rfl) (ld1 0 rfl rfl (fun _ => by kernel_rfl) (by rfl) rfl) ?_))))
      refine T.pk (.bool (r4.2 == 0)) (fun _ => by kernel_rfl) (T.nil ?_)
      refine T.cond (r4.2 == 0) (by kernel_rfl) (by kernel_rfl) (fun hc9 => ?_) (fun hc9 => ?_)
      ·
       rw [hc9, cond_true] at hX6
       refine T.region (T.p4 (pB b1 0) (.slice A8 r4.1.length c8) (pB b1 0) (pB b1 0) (fun _ => by kernel_rfl) ?_)
       let v134_ : List Value := [.slice A8 r4.1.length c8, vi (IntKind.i64.wrap (p906 + 1)), vi r4.2]
       refine T.step (W1.st 0 v134_ ((box b1 86 v134_) :: i122_ :: G900) [.slice A8 r4.1.length c8] (by rfl) rfl rfl rfl rfl rfl rfl (fun _ => by kernel_rfl) ?_)
       refine T.nil ?_
       cases hX6
       repeat first | refine T.unthen ?_ | refine T.unblock ?_
       exact T.end0 rfl fun w' hh => ⟨_, rfl, ⟨A8, c8, V9, vr, (SlOk.mono hs8 (vt (made_le _ _) vr)), rfl, (hh.sub (kp1 (kp1 kpr)))⟩⟩
      rw [hc9, cond_false] at hX6
      refine T.skip_code ?_
      cases hX6
      repeat first | refine T.unthen ?_ | refine T.unblock ?_
      exact T.end0 rfl fun w' hh => ⟨_, rfl, ⟨A3, c3, V9, vr, (SlOk.mono hs3 hV9), rfl, (hh.sub (kp1 (kp1 kpr)))⟩⟩
     rintro v w' ⟨A9, c9, V10, hV10, hs9, rfl, hh⟩
     refine ⟨V10, ((box b1 86 [.slice A9 z11.length c9, vi (IntKind.i64.wrap (p906 + 1)), vi r4.2]) :: i122_ :: G900), hh, ?_⟩
     clear hh
     refine TA.on (Hp.old (vt hV9 hV10) w163_ (dr1 (kp1 kp0)) (oB1 ol0)) ?_
     refine TA.done (by kernel_rfl) ?_
     exact fun a w' hf hh => ⟨A9, c9, V10, (vt hV9 hV10), hs9, (Fr.sel hf rfl), (hh.sub (kp1 (kp1 kpr)))⟩
    refine TA.br rfl (W1.look (vi (IntKind.i64.wrap (p906 + 1))) (by kernel_rfl) (ld1 0 rfl rfl (fun _ => by kernel_rfl) (by rfl) rfl) ?_)
    refine TA.on (Hp.old vr w163_ (dr1 (kp1 kp0)) (oB1 ol0)) ?_
    refine TA.all [4] (by kernel_rfl) rfl ⟨?_, trivial⟩
    refine TA.br rfl (W1.look (.slice A3 z6.length c3) (by kernel_rfl) (ld1 0 rfl rfl (fun _ => by kernel_rfl) (by rfl) rfl) ?_)
    refine TA.on (Hp.old vr w163_ (dr1 (kp1 kp0)) (oB1 ol0)) ?_
    refine TA.all [10] (by kernel_rfl) rfl ⟨?_, trivial⟩
    refine TA.br rfl (W1.call (vT2 (vSc (eList eElem)) (vSc eInt)) r4 60 #[.slice A3 z6.length c3, vi 0, vi r1.2.2.1, .string (ByteArray.mk #[]), vi (IntKind.i64.wrap (p906 + 1))] (by kernel_rfl) (fun _ => by kernel_rfl) (fun w' hh => file_Set_l F z6 0 r1.2.2.1 (ByteArray.mk #[]) (IntKind.i64.wrap (p906 + 1)) r4 hb4 w' A3 c3 (SlOk.mono hs3 hh.view)) ?_)
    intro u V9 hV9 hu
    obtain ⟨u5, u6, rfl, hu5, hu6⟩ := vT2_elim hu
    obtain ⟨A8, c8, rfl, hs8⟩ := vlist_elim hu5
    obtain rfl := sureInt _ _ _ hu6
    refine TA.onk (Hp.old hV9 w163_ (dr1 (kp1 kp0)) (oB1 ol0)) fun o175_ => ?_
    refine TA.tp 11 (.slice A8 r4.1.length c8) rfl (fun _ => by kernel_rfl) (fun _ _ _ h => h) o175_ ?_
    refine TA.tp 12 (vi r4.2) rfl (fun _ => by kernel_rfl) (fun _ _ _ h => h) o175_ ?_
    refine TA.all [13] (by kernel_rfl) rfl ⟨?_, trivial⟩
    refine TA.br rfl (W1.within 55 [pB b1 0, .slice A8 r4.1.length c8, vi r4.2] (fun v w' => ∃ (A9 : Option Addr) (c9 : Nat) (V10 : View), View.le V9 V10 ∧ SlOk V10 eElem A9 c9 z11 ∧ v = .tuple #[] ∧ Hp w V10 ((box b1 86 [.slice A9 z11.length c9, vi (IntKind.i64.wrap (p906 + 1)), vi r4.2]) :: i122_ :: G900) w') Tryz.func55 rfl rfl (by kernel_rfl) (fun _ => by kernel_rfl) rfl ?_ ?_)
    ·
     refine T.seq (T.seq (T.region (T.p3 (pB b1 0) (pB b1 0) (pB b1 2) (fun _ => by kernel_rfl) (T.look (vi z7) (by kernel_rfl) (ld1 0 rfl rfl (fun _ => by kernel_rfl) (by rfl) rfl) ?_))))
     refine T.pk (.bool (z7 == 0)) (fun _ => by kernel_rfl) (T.nil ?_)
     refine T.cond (z7 == 0) (by kernel_rfl) (by kernel_rfl) (fun _ => ?_) (fun h => absurd (hc8.symm.trans h) (by decide))
     refine T.region (T.p4 (pB b1 0) (vi r4.2) (pB b1 0) (pB b1 2) (fun _ => by kernel_rfl) ?_)
     let v135_ : List Value := [.slice A3 z6.length c3, vi (IntKind.i64.wrap (p906 + 1)), vi r4.2]
     refine T.step (W1.st 0 v135_ ((box b1 86 v135_) :: i122_ :: G900) [vi r4.2] (by rfl) rfl rfl rfl rfl rfl rfl (fun _ => by kernel_rfl) ?_)
     refine T.nil (T.seq (T.region (T.p3 (pB b1 0) (pB b1 0) (pB b1 2) (fun _ => by kernel_rfl) (T.look (vi r4.2) (by kernel_rfl) (ld1 0 rfl rfl (fun _ => by kernel_rfl) (by rfl) rfl) ?_))))
     refine T.pk (.bool (r4.2 == 0)) (fun _ => by kernel_rfl) (T.nil ?_)
     refine T.cond (r4.2 == 0) (by kernel_rfl) (by kernel_rfl) (fun hc9 => ?_) (fun hc9 => ?_)
     ·
      rw [hc9, cond_true] at hX6
      refine T.region (T.p4 (pB b1 0) (.slice A8 r4.1.length c8) (pB b1 0) (pB b1 0) (fun _ => by kernel_rfl) ?_)
      let v136_ : List Value := [.slice A8 r4.1.length c8, vi (IntKind.i64.wrap (p906 + 1)), vi r4.2]
      refine T.step (W1.st 0 v136_ ((box b1 86 v136_) :: i122_ :: G900) [.slice A8 r4.1.length c8] (by rfl) rfl rfl rfl rfl rfl rfl (fun _ => by kernel_rfl) ?_)
      refine T.nil ?_
      cases hX6
      repeat first | refine T.unthen ?_ | refine T.unblock ?_
      exact T.end0 rfl fun w' hh => ⟨_, rfl, ⟨A8, c8, V9, vr, (SlOk.mono hs8 (vt (made_le _ _) vr)), rfl, (hh.sub (kp1 (kp1 kpr)))⟩⟩
     rw [hc9, cond_false] at hX6
     refine T.skip_code ?_
     cases hX6
     repeat first | refine T.unthen ?_ | refine T.unblock ?_
     exact T.end0 rfl fun w' hh => ⟨_, rfl, ⟨A3, c3, V9, vr, (SlOk.mono hs3 hV9), rfl, (hh.sub (kp1 (kp1 kpr)))⟩⟩
    rintro v w' ⟨A9, c9, V10, hV10, hs9, rfl, hh⟩
    refine ⟨V10, ((box b1 86 [.slice A9 z11.length c9, vi (IntKind.i64.wrap (p906 + 1)), vi r4.2]) :: i122_ :: G900), hh, ?_⟩
    clear hh
    refine TA.on (Hp.old (vt hV9 hV10) w163_ (dr1 (kp1 kp0)) (oB1 ol0)) ?_
    refine TA.done (by kernel_rfl) ?_
    exact fun a w' hf hh => ⟨A9, c9, V10, (vt hV9 hV10), hs9, (Fr.sel hf rfl), (hh.sub (kp1 (kp1 kpr)))⟩
   rintro a w' ⟨A10, c10, V11, hV11, hs10, hf, hh⟩
   refine (?_ : T 107 w V11 ((box b1 86 [.slice A10 z11.length c10, vi (IntKind.i64.wrap (p906 + 1)), vi r4.2]) :: i122_ :: G900) [(0, pB b901 0), (7, vi r1.2.2.1), (11, pB b1 0)] _) a w' hf hh
   clear hf hh
   cases hX5
   exact fun a w' hf hh => ⟨z11, r4.2, rfl, A10, c10, V11, hV11, hs10, (Fr.sel hf rfl), (hh.sub (kp1 (kp1 kpr)))⟩
  rw [hc8, cond_false] at hX5
  refine T.skip_code ?_
  cases hX5
  exact fun a w' hf hh => ⟨z6, z7, rfl, A3, c3, V4, vr, hs3, (Fr.sel hf rfl), (hh.sub (kp1 (kp1 kpr)))⟩
 rintro a w' ⟨z9, z10, rfl, A7, c7, V8, hV8, hs7, hf, hh⟩
 try dsimp only at hF
 let i124_ : HObj := box b1 86 [.slice A7 z9.length c7, vi (IntKind.i64.wrap (p906 + 1)), vi z10]
 let t125_ : List HObj := i124_ :: i122_ :: G900
 refine (?_ : T 107 w V8 t125_ [(0, pB b901 0), (7, vi r1.2.2.1), (11, pB b1 0)] _) a w' hf hh
 clear hf hh
 obtain ⟨q3, hX7, hF⟩ := ob hF
 refine T.cut (fun a w' => ∃ (z12 : List DElem) (z13 : Int), q3 = (z12, z13) ∧ ∃ (A11 : Option Addr) (c11 : Nat) (V12 : View), View.le V8 V12 ∧ SlOk V12 eElem A11 c11 z12 ∧ Fr 107 [(0, pB b901 0), (11, pB b1 0)] a ∧ Hp w V12 ((box b1 86 [.slice A11 z12.length c11, vi (IntKind.i64.wrap (p906 + 1)), vi z13]) :: i122_ :: G900) w') ?_ ?_
 ·
  refine T.seq (T.region (T.p3 (pB b1 0) (pB b1 0) (pB b1 2) (fun _ => by kernel_rfl) (T.look (vi z10) (by kernel_rfl) (ld1 0 rfl rfl (fun _ => by kernel_rfl) (by rfl) rfl) ?_)))
  refine T.pk (.bool (z10 == 0)) (fun _ => by kernel_rfl) (T.nil ?_)
  refine T.cond (z10 == 0) (by kernel_rfl) (by kernel_rfl) (fun hc10 => ?_) (fun hc10 => ?_)
  ·
   rw [hc10, cond_true] at hX7
   obtain ⟨r5, hb5, hX7⟩ := ob hX7
   obtain ⟨z14, hX8, hX7⟩ := ob hX7
   refine T.mid (fun a w' => ∃ (A14 : Option Addr) (c14 : Nat) (V15 : View), View.le V8 V15 ∧ SlOk V15 eElem A14 c14 z14 ∧ Fr 107 [(0, pB b901 0), (11, pB b1 0)] a ∧ Hp w V15 ((box b1 86 [.slice A14 z14.length c14, vi (IntKind.i64.wrap (p906 + 1)), vi r5.2]) :: i122_ :: G900) w') ?_ ?_
   ·
    refine T.held (i122_ :: []) (by kernel_rfl) ?_
    have w164_ := vt (vt (vt (vt hV900 hV2) hV3) hV4) hV8
    refine TA.keep (Hp.old vr w164_ (dr1 (kp1 kp0)) (oB1 ol0)) fun o176_ => ?_
    refine TA.tp 0 (pB b1 0) rfl (fun _ => by kernel_rfl) (fun _ _ _ h => h) o176_ ?_
    refine TA.tp 1 (pB b1 0) rfl (fun _ => by kernel_rfl) (fun _ _ _ h => h) o176_ ?_
    refine TA.tp 2 (pB b1 0) rfl (fun _ => by kernel_rfl) (fun _ _ _ h => h) o176_ ?_
    refine TA.tp 3 (pB b1 0) rfl (fun _ => by kernel_rfl) (fun _ _ _ h => h) o176_ ?_
    refine TA.tp 5 (vi r1.2.2.1) rfl (fun _ => by kernel_rfl) (fun _ _ _ h => h) o176_ ?_
    refine TA.tp 7 (pB b1 0) rfl (fun _ => by kernel_rfl) (fun _ _ _ h => h) o176_ ?_
    refine TA.tp 8 (pB b1 0) rfl (fun _ => by kernel_rfl) (fun _ _ _ h => h) o176_ ?_
    refine TA.tp 9 (pB b1 1) rfl (fun _ => by kernel_rfl) (fun _ _ _ h => h) o176_ ?_
    refine TA.all [4, 6, 10] (by kernel_rfl) rfl ⟨?_, ?_, ?_, trivial⟩
    ·
     refine TA.br rfl (W1.look (.slice A7 z9.length c7) (by kernel_rfl) (ld1 0 rfl rfl (fun _ => by kernel_rfl) (by rfl) rfl) ?_)
     refine TA.on (Hp.old vr w164_ (dr1 (kp1 kp0)) (oB1 ol0)) ?_
     refine TA.all [6, 10] (by kernel_rfl) rfl ⟨?_, ?_, trivial⟩
     ·
      let a156_ : Value := .agg #[vi 0, vi r1.2.2.1, vi 0]
      refine TA.br rfl (W1.within 50 [vi r1.2.2.1] (fun v w' => v = a156_ ∧ Hp w V8 t125_ w') Tryz.func50 rfl rfl (by kernel_rfl) (fun _ => by kernel_rfl) rfl ?_ ?_)
      ·
       refine T.seq (T.region (T.step (W1.np 42 [vi 0, vi 0, vi 0] (fun _ => by kernel_rfl) (fun b2 => ?_))))
       refine T.nil (T.seq (T.region (T.p2 (vi r1.2.2.1) a156_ (fun _ => by kernel_rfl) ?_)))
       let v137_ : List Value := [vi 0, vi r1.2.2.1, vi 0]
       refine T.step (W1.st 0 v137_ ((box b2 42 v137_) :: t125_) v137_ (by rfl) rfl rfl rfl rfl rfl rfl (fun _ => by kernel_rfl) ?_)
       refine T.nil ?_
       refine T.ret rfl ?_
       exact T.ret1 rfl (ResIs.cellN 0 rfl (by rfl) (fun _ => by kernel_rfl) (fun _ => by kernel_rfl)) fun w' hh => ⟨_, rfl, ⟨rfl, (hh.sub (dr1 (kp1 (kp1 kpr))))⟩⟩
      rintro v w' ⟨rfl, hh⟩
      refine ⟨V8, t125_, hh, ?_⟩
      clear hh
      refine TA.on (Hp.old vr w164_ (dr1 (kp1 kp0)) (oB1 ol0)) ?_
      refine TA.all [10] (by kernel_rfl) rfl ⟨?_, trivial⟩
      refine TA.br rfl (W1.look (vi (IntKind.i64.wrap (p906 + 1))) (by kernel_rfl) (ld1 0 rfl rfl (fun _ => by kernel_rfl) (by rfl) rfl) ?_)
      refine TA.on (Hp.old vr w164_ (dr1 (kp1 kp0)) (oB1 ol0)) ?_
      refine TA.all [11] (by kernel_rfl) rfl ⟨?_, trivial⟩
      refine TA.br rfl (W1.call (vT2 (vSc (eList eElem)) (vSc eInt)) r5 67 #[.slice A7 z9.length c7, a156_, vi (IntKind.i64.wrap (p906 + 1))] (by kernel_rfl) (fun _ => by kernel_rfl) (fun w' hh => run_Cut_l F z9 (DKey.mk 0 r1.2.2.1 0) (IntKind.i64.wrap (p906 + 1)) r5 hb5 w' A7 c7 (SlOk.mono hs7 hh.view)) ?_)
      intro u V13 hV13 hu
      obtain ⟨u7, u8, rfl, hu7, hu8⟩ := vT2_elim hu
      obtain ⟨A12, c12, rfl, hs12⟩ := vlist_elim hu7
      obtain rfl := sureInt _ _ _ hu8
      refine TA.onk (Hp.old hV13 w164_ (dr1 (kp1 kp0)) (oB1 ol0)) fun o177_ => ?_
      refine TA.tp 12 (.slice A12 r5.1.length c12) rfl (fun _ => by kernel_rfl) (fun _ _ _ h => h) o177_ ?_
      refine TA.tp 13 (vi r5.2) rfl (fun _ => by kernel_rfl) (fun _ _ _ h => h) o177_ ?_
      refine TA.all [14] (by kernel_rfl) rfl ⟨?_, trivial⟩
      refine TA.br rfl (W1.within 55 [pB b1 0, .slice A12 r5.1.length c12, vi r5.2] (fun v w' => ∃ (A13 : Option Addr) (c13 : Nat) (V14 : View), View.le V13 V14 ∧ SlOk V14 eElem A13 c13 z14 ∧ v = .tuple #[] ∧ Hp w V14 ((box b1 86 [.slice A13 z14.length c13, vi (IntKind.i64.wrap (p906 + 1)), vi r5.2]) :: i122_ :: G900) w') Tryz.func55 rfl rfl (by kernel_rfl) (fun _ => by kernel_rfl) rfl ?_ ?_)
      ·
       refine T.seq (T.seq (T.region (T.p3 (pB b1 0) (pB b1 0) (pB b1 2) (fun _ => by kernel_rfl) (T.look (vi z10) (by kernel_rfl) (ld1 0 rfl rfl (fun _ => by kernel_rfl) (by rfl) rfl) ?_))))
       refine T.pk (.bool (z10 == 0)) (fun _ => by kernel_rfl) (T.nil ?_)
       refine T.cond (z10 == 0) (by kernel_rfl) (by kernel_rfl) (fun _ => ?_) (fun h => absurd (hc10.symm.trans h) (by decide))
       refine T.region (T.p4 (pB b1 0) (vi r5.2) (pB b1 0) (pB b1 2) (fun _ => by kernel_rfl) ?_)
       let v138_ : List Value := [.slice A7 z9.length c7, vi (IntKind.i64.wrap (p906 + 1)), vi r5.2]
       refine T.step (W1.st 0 v138_ ((box b1 86 v138_) :: i122_ :: G900) [vi r5.2] (by rfl) rfl rfl rfl rfl rfl rfl (fun _ => by kernel_rfl) ?_)
       refine T.nil (T.seq (T.region (T.p3 (pB b1 0) (pB b1 0) (pB b1 2) (fun _ => by kernel_rfl) (T.look (vi r5.2) (by kernel_rfl) (ld1 0 rfl rfl (fun _ => by kernel_rfl) (by rfl) rfl) ?_))))
       refine T.pk (.bool (r5.2 == 0)) (fun _ => by kernel_rfl) (T.nil ?_)
       refine T.cond (r5.2 == 0) (by kernel_rfl) (by kernel_rfl) (fun hc11 => ?_) (fun hc11 => ?_)
       ·
        rw [hc11, cond_true] at hX8
        refine T.region (T.p4 (pB b1 0) (.slice A12 r5.1.length c12) (pB b1 0) (pB b1 0) (fun _ => by kernel_rfl) ?_)
        let v139_ : List Value := [.slice A12 r5.1.length c12, vi (IntKind.i64.wrap (p906 + 1)), vi r5.2]
        refine T.step (W1.st 0 v139_ ((box b1 86 v139_) :: i122_ :: G900) [.slice A12 r5.1.length c12] (by rfl) rfl rfl rfl rfl rfl rfl (fun _ => by kernel_rfl) ?_)
        refine T.nil ?_
        cases hX8
        repeat first | refine T.unthen ?_ | refine T.unblock ?_
        exact T.end0 rfl fun w' hh => ⟨_, rfl, ⟨A12, c12, V13, vr, (SlOk.mono hs12 (vt (made_le _ _) vr)), rfl, (hh.sub (kp1 (kp1 kpr)))⟩⟩
       rw [hc11, cond_false] at hX8
       refine T.skip_code ?_
       cases hX8
       repeat first | refine T.unthen ?_ | refine T.unblock ?_
       exact T.end0 rfl fun w' hh => ⟨_, rfl, ⟨A7, c7, V13, vr, (SlOk.mono hs7 hV13), rfl, (hh.sub (kp1 (kp1 kpr)))⟩⟩
      rintro v w' ⟨A13, c13, V14, hV14, hs13, rfl, hh⟩
      refine ⟨V14, ((box b1 86 [.slice A13 z14.length c13, vi (IntKind.i64.wrap (p906 + 1)), vi r5.2]) :: i122_ :: G900), hh, ?_⟩
      clear hh
      refine TA.on (Hp.old (vt hV13 hV14) w164_ (dr1 (kp1 kp0)) (oB1 ol0)) ?_
      refine TA.done (by kernel_rfl) ?_
      exact fun a w' hf hh => ⟨A13, c13, V14, (vt hV13 hV14), hs13, (Fr.sel hf rfl), (hh.sub (kp1 (kp1 kpr)))⟩
     refine TA.br rfl (W1.look (vi (IntKind.i64.wrap (p906 + 1))) (by kernel_rfl) (ld1 0 rfl rfl (fun _ => by kernel_rfl) (by rfl) rfl) ?_)
     refine TA.on (Hp.old vr w164_ (dr1 (kp1 kp0)) (oB1 ol0)) ?_
     refine TA.all [6] (by kernel_rfl) rfl ⟨?_, trivial⟩
     let a157_ : Value := .agg #[vi 0, vi r1.2.2.1, vi 0]
     refine TA.br rfl (W1.within 50 [vi r1.2.2.1] (fun v w' => v = a157_ ∧ Hp w V8 t125_ w') Tryz.func50 rfl rfl (by kernel_rfl) (fun _ => by kernel_rfl) rfl ?_ ?_)
     ·
      refine T.seq (T.region (T.step (W1.np 42 [vi 0, vi 0, vi 0] (fun _ => by kernel_rfl) (fun b2 => ?_))))
      refine T.nil (T.seq (T.region (T.p2 (vi r1.2.2.1) a157_ (fun _ => by kernel_rfl) ?_)))
      let v140_ : List Value := [vi 0, vi r1.2.2.1, vi 0]
      refine T.step (W1.st 0 v140_ ((box b2 42 v140_) :: t125_) v140_ (by rfl) rfl rfl rfl rfl rfl rfl (fun _ => by kernel_rfl) ?_)
      refine T.nil ?_
      refine T.ret rfl ?_
      exact T.ret1 rfl (ResIs.cellN 0 rfl (by rfl) (fun _ => by kernel_rfl) (fun _ => by kernel_rfl)) fun w' hh => ⟨_, rfl, ⟨rfl, (hh.sub (dr1 (kp1 (kp1 kpr))))⟩⟩
     rintro v w' ⟨rfl, hh⟩
     refine ⟨V8, t125_, hh, ?_⟩
     clear hh
     refine TA.on (Hp.old vr w164_ (dr1 (kp1 kp0)) (oB1 ol0)) ?_
     refine TA.all [11] (by kernel_rfl) rfl ⟨?_, trivial⟩
     refine TA.br rfl (W1.call (vT2 (vSc (eList eElem)) (vSc eInt)) r5 67 #[.slice A7 z9.length c7, a157_, vi (IntKind.i64.wrap (p906 + 1))] (by kernel_rfl) (fun _ => by kernel_rfl) (fun w' hh => run_Cut_l F z9 (DKey.mk 0 r1.2.2.1 0) (IntKind.i64.wrap (p906 + 1)) r5 hb5 w' A7 c7 (SlOk.mono hs7 hh.view)) ?_)
     intro u V13 hV13 hu
     obtain ⟨u7, u8, rfl, hu7, hu8⟩ := vT2_elim hu
     obtain ⟨A12, c12, rfl, hs12⟩ := vlist_elim hu7
     obtain rfl := sureInt _ _ _ hu8
     refine TA.onk (Hp.old hV13 w164_ (dr1 (kp1 kp0)) (oB1 ol0)) fun o178_ => ?_
     refine TA.tp 12 (.slice A12 r5.1.length c12) rfl (fun _ => by kernel_rfl) (fun _ _ _ h => h) o178_ ?_
     refine TA.tp 13 (vi r5.2) rfl (fun _ => by kernel_rfl) (fun _ _ _ h => h) o178_ ?_
     refine TA.all [14] (by kernel_rfl) rfl ⟨?_, trivial⟩
     refine TA.br rfl (W1.within 55 [pB b1 0, .slice A12 r5.1.length c12, vi r5.2] (fun v w' => ∃ (A13 : Option Addr) (c13 : Nat) (V14 : View), View.le V13 V14 ∧ SlOk V14 eElem A13 c13 z14 ∧ v = .tuple #[] ∧ Hp w V14 ((box b1 86 [.slice A13 z14.length c13, vi (IntKind.i64.wrap (p906 + 1)), vi r5.2]) :: i122_ :: G900) w') Tryz.func55 rfl rfl (by kernel_rfl) (fun _ => by kernel_rfl) rfl ?_ ?_)
     ·
      refine T.seq (T.seq (T.region (T.p3 (pB b1 0) (pB b1 0) (pB b1 2) (fun _ => by kernel_rfl) (T.look (vi z10) (by kernel_rfl) (ld1 0 rfl rfl (fun _ => by kernel_rfl) (by rfl) rfl) ?_))))
      refine T.pk (.bool (z10 == 0)) (fun _ => by kernel_rfl) (T.nil ?_)
      refine T.cond (z10 == 0) (by kernel_rfl) (by kernel_rfl) (fun _ => ?_) (fun h => absurd (hc10.symm.trans h) (by decide))
      refine T.region (T.p4 (pB b1 0) (vi r5.2) (pB b1 0) (pB b1 2) (fun _ => by kernel_rfl) ?_)
      let v141_ : List Value := [.slice A7 z9.length c7, vi (IntKind.i64.wrap (p906 + 1)), vi r5.2]
      refine T.step (W1.st 0 v141_ ((box b1 86 v141_) :: i122_ :: G900) [vi r5.2] (by rfl) rfl rfl rfl rfl rfl rfl (fun _ => by kernel_rfl) ?_)
      refine T.nil (T.seq (T.region (T.p3 (pB b1 0) (pB b1 0) (pB b1 2) (fun _ => by kernel_rfl) (T.look (vi r5.2) (by kernel_rfl) (ld1 0 rfl rfl (fun _ => by kernel_rfl) (by rfl) rfl) ?_))))
      refine T.pk (.bool (r5.2 == 0)) (fun _ => by kernel_rfl) (T.nil ?_)
      refine T.cond (r5.2 == 0) (by kernel_rfl) (by kernel_rfl) (fun hc11 => ?_) (fun hc11 => ?_)
      ·
       rw [hc11, cond_true] at hX8
       refine T.region (T.p4 (pB b1 0) (.slice A12 r5.1.length c12) (pB b1 0) (pB b1 0) (fun _ => by kernel_rfl) ?_)
       let v142_ : List Value := [.slice A12 r5.1.length c12, vi (IntKind.i64.wrap (p906 + 1)), vi r5.2]
       refine T.step (W1.st 0 v142_ ((box b1 86 v142_) :: i122_ :: G900) [.slice A12 r5.1.length c12] (by rfl) rfl rfl rfl rfl rfl rfl (fun _ => by kernel_rfl) ?_)
       refine T.nil ?_
       cases hX8
       repeat first | refine T.unthen ?_ | refine T.unblock ?_
       exact T.end0 rfl fun w' hh => ⟨_, rfl, ⟨A12, c12, V13, vr, (SlOk.mono hs12 (vt (made_le _ _) vr)), rfl, (hh.sub (kp1 (kp1 kpr)))⟩⟩
      rw [hc11, cond_false] at hX8
      refine T.skip_code ?_
      cases hX8
      repeat first | refine T.unthen ?_ | refine T.unblock ?_
      exact T.end0 rfl fun w' hh => ⟨_, rfl, ⟨A7, c7, V13, vr, (SlOk.mono hs7 hV13), rfl, (hh.sub (kp1 (kp1 kpr)))⟩⟩
     rintro v w' ⟨A13, c13, V14, hV14, hs13, rfl, hh⟩
     refine ⟨V14, ((box b1 86 [.slice A13 z14.length c13, vi (IntKind.i64.wrap (p906 + 1)), vi r5.2]) :: i122_ :: G900), hh, ?_⟩
     clear hh
     refine TA.on (Hp.old (vt hV13 hV14) w164_ (dr1 (kp1 kp0)) (oB1 ol0)) ?_
     refine TA.done (by kernel_rfl) ?_
     exact fun a w' hf hh => ⟨A13, c13, V14, (vt hV13 hV14), hs13, (Fr.sel hf rfl), (hh.sub (kp1 (kp1 kpr)))⟩
    ·
     let a158_ : Value := .agg #[vi 0, vi r1.2.2.1, vi 0]
     refine TA.br rfl (W1.within 50 [vi r1.2.2.1] (fun v w' => v = a158_ ∧ Hp w V8 t125_ w') Tryz.func50 rfl rfl (by kernel_rfl) (fun _ => by kernel_rfl) rfl ?_ ?_)
     ·
      refine T.seq (T.region (T.step (W1.np 42 [vi 0, vi 0, vi 0] (fun _ => by kernel_rfl) (fun b2 => ?_))))
      refine T.nil (T.seq (T.region (T.p2 (vi r1.2.2.1) a158_ (fun _ => by kernel_rfl) ?_)))
      let v143_ : List Value := [vi 0, vi r1.2.2.1, vi 0]
      refine T.step (W1.st 0 v143_ ((box b2 42 v143_) :: t125_) v143_ (by rfl) rfl rfl rfl rfl rfl rfl (fun _ => by kernel_rfl) ?_)
      refine T.nil ?_
      refine T.ret rfl ?_
      exact T.ret1 rfl (ResIs.cellN 0 rfl (by rfl) (fun _ => by kernel_rfl) (fun _ => by kernel_rfl)) fun w' hh => ⟨_, rfl, ⟨rfl, (hh.sub (dr1 (kp1 (kp1 kpr))))⟩⟩
     rintro v w' ⟨rfl, hh⟩
     refine ⟨V8, t125_, hh, ?_⟩
     clear hh
     refine TA.on (Hp.old vr w164_ (dr1 (kp1 kp0)) (oB1 ol0)) ?_
     refine TA.all [4, 10] (by kernel_rfl) rfl ⟨?_, ?_, trivial⟩
     ·
      refine TA.br rfl (W1.look (.slice A7 z9.length c7) (by kernel_rfl) (ld1 0 rfl rfl (fun _ => by kernel_rfl) (by rfl) rfl) ?_)
      refine TA.on (Hp.old vr w164_ (dr1 (kp1 kp0)) (oB1 ol0)) ?_
      refine TA.all [10] (by kernel_rfl) rfl ⟨?_, trivial⟩
      refine TA.br rfl (W1.look (vi (IntKind.i64.wrap (p906 + 1))) (by kernel_rfl) (ld1 0 rfl rfl (fun _ => by kernel_rfl) (by rfl) rfl) ?_)
      refine TA.on (Hp.old vr w164_ (dr1 (kp1 kp0)) (oB1 ol0)) ?_
      refine TA.all [11] (by kernel_rfl) rfl ⟨?_, trivial⟩
      refine TA.br rfl (W1.call (vT2 (vSc (eList eElem)) (vSc eInt)) r5 67 #[.slice A7 z9.length c7, a158_, vi (IntKind.i64.wrap (p906 + 1))] (by kernel_rfl) (fun _ => by kernel_rfl) (fun w' hh => run_Cut_l F z9 (DKey.mk 0 r1.2.2.1 0) (IntKind.i64.wrap (p906 + 1)) r5 hb5 w' A7 c7 (SlOk.mono hs7 hh.view)) ?_)
      intro u V13 hV13 hu
      obtain ⟨u7, u8, rfl, hu7, hu8⟩ := vT2_elim hu
      obtain ⟨A12, c12, rfl, hs12⟩ := vlist_elim hu7
      obtain rfl := sureInt _ _ _ hu8
      refine TA.onk (Hp.old hV13 w164_ (dr1 (kp1 kp0)) (oB1 ol0)) fun o179_ => ?_
      refine TA.tp 12 (.slice A12 r5.1.length c12) rfl (fun _ => by kernel_rfl) (fun _ _ _ h => h) o179_ ?_
      refine TA.tp 13 (vi r5.2) rfl (fun _ => by kernel_rfl) (fun _ _ _ h => h) o179_ ?_
      refine TA.all [14] (by kernel_rfl) rfl ⟨?_, trivial⟩
      refine TA.br rfl (W1.within 55 [pB b1 0, .slice A12 r5.1.length c12, vi r5.2] (fun v w' => ∃ (A13 : Option Addr) (c13 : Nat) (V14 : View), View.le V13 V14 ∧ SlOk V14 eElem A13 c13 z14 ∧ v = .tuple #[] ∧ Hp w V14 ((box b1 86 [.slice A13 z14.length c13, vi (IntKind.i64.wrap (p906 + 1)), vi r5.2]) :: i122_ :: G900) w') Tryz.func55 rfl rfl (by kernel_rfl) (fun _ => by kernel_rfl) rfl ?_ ?_)
      ·
       refine T.seq (T.seq (T.region (T.p3 (pB b1 0) (pB b1 0) (pB b1 2) (fun _ => by kernel_rfl) (T.look (vi z10) (by kernel_rfl) (ld1 0 rfl rfl (fun _ => by kernel_rfl) (by rfl) rfl) ?_))))
       refine T.pk (.bool (z10 == 0)) (fun _ => by kernel_rfl) (T.nil ?_)
       refine T.cond (z10 == 0) (by kernel_rfl) (by kernel_rfl) (fun _ => ?_) (fun h => absurd (hc10.symm.trans h) (by decide))
       refine T.region (T.p4 (pB b1 0) (vi r5.2) (pB b1 0) (pB b1 2) (fun _ => by kernel_rfl) ?_)
       let v144_ : List Value := [.slice A7 z9.length c7, vi (IntKind.i64.wrap (p906 + 1)), vi r5.2]
       refine T.step (W1.st 0 v144_ ((box b1 86 v144_) :: i122_ :: G900) [vi r5.2] (by rfl) rfl rfl rfl rfl rfl rfl (fun _ => by kernel_rfl) ?_)
       refine T.nil (T.seq (T.region (T.p3 (pB b1 0) (pB b1 0) (pB b1 2) (fun _ => by kernel_rfl) (T.look (vi r5.2) (by kernel_rfl) (ld1 0 rfl rfl (fun _ => by kernel_rfl) (by rfl) rfl) ?_))))
       refine T.pk (.bool (r5.2 == 0)) (fun _ => by kernel_rfl) (T.nil ?_)
       refine T.cond (r5.2 == 0) (by kernel_rfl) (by kernel_rfl) (fun hc11 => ?_) (fun hc11 => ?_)
       ·
        rw [hc11, cond_true] at hX8
        refine T.region (T.p4 (pB b1 0) (.slice A12 r5.1.length c12) (pB b1 0) (pB b1 0) (fun _ => by kernel_rfl) ?_)
        let v145_ : List Value := [.slice A12 r5.1.length c12, vi (IntKind.i64.wrap (p906 + 1)), vi r5.2]
        refine T.step (W1.st 0 v145_ ((box b1 86 v145_) :: i122_ :: G900) [.slice A12 r5.1.length c12] (by rfl) rfl rfl rfl rfl rfl rfl (fun _ => by kernel_rfl) ?_)
        refine T.nil ?_
        cases hX8
        repeat first | refine T.unthen ?_ | refine T.unblock ?_
        exact T.end0 rfl fun w' hh => ⟨_, rfl, ⟨A12, c12, V13, vr, (SlOk.mono hs12 (vt (made_le _ _) vr)), rfl, (hh.sub (kp1 (kp1 kpr)))⟩⟩
       rw [hc11, cond_false] at hX8
       refine T.skip_code ?_
       cases hX8
       repeat first | refine T.unthen ?_ | refine T.unblock ?_
       exact T.end0 rfl fun w' hh => ⟨_, rfl, ⟨A7, c7, V13, vr, (SlOk.mono hs7 hV13), rfl, (hh.sub (kp1 (kp1 kpr)))⟩⟩
      rintro v w' ⟨A13, c13, V14, hV14, hs13, rfl, hh⟩
      refine ⟨V14, ((box b1 86 [.slice A13 z14.length c13, vi (IntKind.i64.wrap (p906 + 1)), vi r5.2]) :: i122_ :: G900), hh, ?_⟩
      clear hh
      refine TA.on (Hp.old (vt hV13 hV14) w164_ (dr1 (kp1 kp0)) (oB1 ol0)) ?_
      refine TA.done (by kernel_rfl) ?_
      exact fun a w' hf hh => ⟨A13, c13, V14, (vt hV13 hV14), hs13, (Fr.sel hf rfl), (hh.sub (kp1 (kp1 kpr)))⟩
     refine TA.br rfl (W1.look (vi (IntKind.i64.wrap (p906 + 1))) (by kernel_rfl) (ld1 0 rfl rfl (fun _ => by kernel_rfl) (by rfl) rfl) ?_)
     refine TA.on (Hp.old vr w164_ (dr1 (kp1 kp0)) (oB1 ol0)) ?_
     refine TA.all [4] (by kernel_rfl) rfl ⟨?_, trivial⟩
     refine TA.br rfl (W1.look (.slice A7 z9.length c7) (by kernel_rfl) (ld1 0 rfl rfl (fun _ => by kernel_rfl) (by rfl) rfl) ?_)
     refine TA.on (Hp.old vr w164_ (dr1 (kp1 kp0)) (oB1 ol0)) ?_
     refine TA.all [11] (by kernel_rfl) rfl ⟨?_, trivial⟩
     refine TA.br rfl (W1.call (vT2 (vSc (eList eElem)) (vSc eInt)) r5 67 #[.slice A7 z9.length c7, a158_, vi (IntKind.i64.wrap (p906 + 1))] (by kernel_rfl) (fun _ => by kernel_rfl) (fun w' hh => run_Cut_l F z9 (DKey.mk 0 r1.2.2.1 0) (IntKind.i64.wrap (p906 + 1)) r5 hb5 w' A7 c7 (SlOk.mono hs7 hh.view)) ?_)
     intro u V13 hV13 hu
     obtain ⟨u7, u8, rfl, hu7, hu8⟩ := vT2_elim hu
     obtain ⟨A12, c12, rfl, hs12⟩ := vlist_elim hu7
     obtain rfl := sureInt _ _ _ hu8
     refine TA.onk (Hp.old hV13 w164_ (dr1 (kp1 kp0)) (oB1 ol0)) fun o180_ => ?_
     refine TA.tp 12 (.slice A12 r5.1.length c12) rfl (fun _ => by kernel_rfl) (fun _ _ _ h => h) o180_ ?_
     refine TA.tp 13 (vi r5.2) rfl (fun _ => by kernel_rfl) (fun _ _ _ h => h) o180_ ?_
     refine TA.all [14] (by kernel_rfl) rfl ⟨?_, trivial⟩
     refine TA.br rfl (W1.within 55 [pB b1 0, .slice A12 r5.1.length c12, vi r5.2] (fun v w' => ∃ (A13 : Option Addr) (c13 : Nat) (V14 : View), View.le V13 V14 ∧ SlOk V14 eElem A13 c13 z14 ∧ v = .tuple #[] ∧ Hp w V14 ((box b1 86 [.slice A13 z14.length c13, vi (IntKind.i64.wrap (p906 + 1)), vi r5.2]) :: i122_ :: G900) w') Tryz.func55 rfl rfl (by kernel_rfl) (fun _ => by kernel_rfl) rfl ?_ ?_)
     ·
      refine T.seq (T.seq (T.region (T.p3 (pB b1 0) (pB b1 0) (pB b1 2) (fun _ => by kernel_rfl) (T.look (vi z10) (by kernel_rfl) (ld1 0 rfl rfl (fun _ => by kernel_rfl) (by rfl) rfl) ?_))))
      refine T.pk (.bool (z10 == 0)) (fun _ => by kernel_rfl) (T.nil ?_)
      refine T.cond (z10 == 0) (by kernel_rfl) (by kernel_rfl) (fun _ => ?_) (fun h => absurd (hc10.symm.trans h) (by decide))
      refine T.region (T.p4 (pB b1 0) (vi r5.2) (pB b1 0) (pB b1 2) (fun _ => by kernel_rfl) ?_)
      let v146_ : List Value := [.slice A7 z9.length c7, vi (IntKind.i64.wrap (p906 + 1)), vi r5.2]
      refine T.step (W1.st 0 v146_ ((box b1 86 v146_) :: i122_ :: G900) [vi r5.2] (by rfl) rfl rfl rfl rfl rfl rfl (fun _ => by kernel_rfl) ?_)
      refine T.nil (T.seq (T.region (T.p3 (pB b1 0) (pB b1 0) (pB b1 2) (fun _ => by kernel_rfl) (T.look (vi r5.2) (by kernel_rfl) (ld1 0 rfl rfl (fun _ => by kernel_rfl) (by rfl) rfl) ?_))))
      refine T.pk (.bool (r5.2 == 0)) (fun _ => by kernel_rfl) (T.nil ?_)
      refine T.cond (r5.2 == 0) (by kernel_rfl) (by kernel_rfl) (fun hc11 => ?_) (fun hc11 => ?_)
      ·
       rw [hc11, cond_true] at hX8
       refine T.region (T.p4 (pB b1 0) (.slice A12 r5.1.length c12) (pB b1 0) (pB b1 0) (fun _ => by kernel_rfl) ?_)
       let v147_ : List Value := [.slice A12 r5.1.length c12, vi (IntKind.i64.wrap (p906 + 1)), vi r5.2]
       refine T.step (W1.st 0 v147_ ((box b1 86 v147_) :: i122_ :: G900) [.slice A12 r5.1.length c12] (by rfl) rfl rfl rfl rfl rfl rfl (fun _ => by kernel_rfl) ?_)
       refine T.nil ?_
       cases hX8
       repeat first | refine T.unthen ?_ | refine T.unblock ?_
       exact T.end0 rfl fun w' hh => ⟨_, rfl, ⟨A12, c12, V13, vr, (SlOk.mono hs12 (vt (made_le _ _) vr)), rfl, (hh.sub (kp1 (kp1 kpr)))⟩⟩
      rw [hc11, cond_false] at hX8
      refine T.skip_code ?_
      cases hX8
      repeat first | refine T.unthen ?_ | refine T.unblock ?_
      exact T.end0 rfl fun w' hh => ⟨_, rfl, ⟨A7, c7, V13, vr, (SlOk.mono hs7 hV13), rfl, (hh.sub (kp1 (kp1 kpr)))⟩⟩
     rintro v w' ⟨A13, c13, V14, hV14, hs13, rfl, hh⟩
     refine ⟨V14, ((box b1 86 [.slice A13 z14.length c13, vi (IntKind.i64.wrap (p906 + 1)), vi r5.2]) :: i122_ :: G900), hh, ?_⟩
     clear hh
     refine TA.on (Hp.old (vt hV13 hV14) w164_ (dr1 (kp1 kp0)) (oB1 ol0)) ?_
     refine TA.done (by kernel_rfl) ?_
     exact fun a w' hf hh => ⟨A13, c13, V14, (vt hV13 hV14), hs13, (Fr.sel hf rfl), (hh.sub (kp1 (kp1 kpr)))⟩
    refine TA.br rfl (W1.look (vi (IntKind.i64.wrap (p906 + 1))) (by kernel_rfl) (ld1 0 rfl rfl (fun _ => by kernel_rfl) (by rfl) rfl) ?_)
    refine TA.on (Hp.old vr w164_ (dr1 (kp1 kp0)) (oB1 ol0)) ?_
    refine TA.all [4, 6] (by kernel_rfl) rfl ⟨?_, ?_, trivial⟩
    ·
     refine TA.br rfl (W1.look (.slice A7 z9.length c7) (by kernel_rfl) (ld1 0 rfl rfl (fun _ => by kernel_rfl) (by rfl) rfl) ?_)
     refine TA.on (Hp.old vr w164_ (dr1 (kp1 kp0)) (oB1 ol0)) ?_
     refine TA.all [6] (by kernel_rfl) rfl ⟨?_, trivial⟩
     let a159_ : Value := .agg #[vi 0, vi r1.2.2.1, vi 0]
     refine TA.br rfl (W1.within 50 [vi r1.2.2.1] (fun v w' => v = a159_ ∧ Hp w V8 t125_ w') Tryz.func50 rfl rfl (by kernel_rfl) (fun _ => by kernel_rfl) rfl ?_ ?_)
     ·
      refine T.seq (T.region (T.step (W1.np 42 [vi 0, vi 0, vi 0] (fun _ => by kernel_rfl) (fun b2 => ?_))))
      refine T.nil (T.seq (T.region (T.p2 (vi r1.2.2.1) a159_ (fun _ => by kernel_rfl) ?_)))
      let v148_ : List Value := [vi 0, vi r1.2.2.1, vi 0]
      refine T.step (W1.st 0 v148_ ((box b2 42 v148_) :: t125_) v148_ (by rfl) rfl rfl rfl rfl rfl rfl (fun _ => by kernel_rfl) ?_)
      refine T.nil ?_
      refine T.ret rfl ?_
      exact T.ret1 rfl (ResIs.cellN 0 rfl (by rfl) (fun _ => by kernel_rfl) (fun _ => by kernel_rfl)) fun w' hh => ⟨_, rfl, ⟨rfl, (hh.sub (dr1 (kp1 (kp1 kpr))))⟩⟩
     rintro v w' ⟨rfl, hh⟩
     refine ⟨V8, t125_, hh, ?_⟩
     clear hh
     refine TA.on (Hp.old vr w164_ (dr1 (kp1 kp0)) (oB1 ol0)) ?_
     refine TA.all [11] (by kernel_rfl) rfl ⟨?_, trivial⟩
     refine TA.br rfl (W1.call (vT2 (vSc (eList eElem)) (vSc eInt)) r5 67 #[.slice A7 z9.length c7, a159_, vi (IntKind.i64.wrap (p906 + 1))] (by kernel_rfl) (fun _ => by kernel_rfl) (fun w' hh => run_Cut_l F z9 (DKey.mk 0 r1.2.2.1 0) (IntKind.i64.wrap (p906 + 1)) r5 hb5 w' A7 c7 (SlOk.mono hs7 hh.view)) ?_)
     intro u V13 hV13 hu
     obtain ⟨u7, u8, rfl, hu7, hu8⟩ := vT2_elim hu
     obtain ⟨A12, c12, rfl, hs12⟩ := vlist_elim hu7
     obtain rfl := sureInt _ _ _ hu8
     refine TA.onk (Hp.old hV13 w164_ (dr1 (kp1 kp0)) (oB1 ol0)) fun o181_ => ?_
     refine TA.tp 12 (.slice A12 r5.1.length c12) rfl (fun _ => by kernel_rfl) (fun _ _ _ h => h) o181_ ?_
     refine TA.tp 13 (vi r5.2) rfl (fun _ => by kernel_rfl) (fun _ _ _ h => h) o181_ ?_
     refine TA.all [14] (by kernel_rfl) rfl ⟨?_, trivial⟩
     refine TA.br rfl (W1.within 55 [pB b1 0, .slice A12 r5.1.length c12, vi r5.2] (fun v w' => ∃ (A13 : Option Addr) (c13 : Nat) (V14 : View), View.le V13 V14 ∧ SlOk V14 eElem A13 c13 z14 ∧ v = .tuple #[] ∧ Hp w V14 ((box b1 86 [.slice A13 z14.length c13, vi (IntKind.i64.wrap (p906 + 1)), vi r5.2]) :: i122_ :: G900) w') Tryz.func55 rfl rfl (by kernel_rfl) (fun _ => by kernel_rfl) rfl ?_ ?_)
     ·
      refine T.seq (T.seq (T.region (T.p3 (pB b1 0) (pB b1 0) (pB b1 2) (fun _ => by kernel_rfl) (T.look (vi z10) (by kernel_rfl) (ld1 0 rfl rfl (fun _ => by kernel_rfl) (by rfl) rfl) ?_))))
      refine T.pk (.bool (z10 == 0)) (fun _ => by kernel_rfl) (T.nil ?_)
      refine T.cond (z10 == 0) (by kernel_rfl) (by kernel_rfl) (fun _ => ?_) (fun h => absurd (hc10.symm.trans h) (by decide))
      refine T.region (T.p4 (pB b1 0) (vi r5.2) (pB b1 0) (pB b1 2) (fun _ => by kernel_rfl) ?_)
      let v149_ : List Value := [.slice A7 z9.length c7, vi (IntKind.i64.wrap (p906 + 1)), vi r5.2]
      refine T.step (W1.st 0 v149_ ((box b1 86 v149_) :: i122_ :: G900) [vi r5.2] (by rfl) rfl rfl rfl rfl rfl rfl (fun _ => by kernel_rfl) ?_)
      refine T.nil (T.seq (T.region (T.p3 (pB b1 0) (pB b1 0) (pB b1 2) (fun _ => by kernel_rfl) (T.look (vi r5.2) (by kernel_rfl) (ld1 0 rfl rfl (fun _ => by kernel_rfl) (by rfl) rfl) ?_))))
      refine T.pk (.bool (r5.2 == 0)) (fun _ => by kernel_rfl) (T.nil ?_)
      refine T.cond (r5.2 == 0) (by kernel_rfl) (by kernel_rfl) (fun hc11 => ?_) (fun hc11 => ?_)
      ·
       rw [hc11, cond_true] at hX8
       refine T.region (T.p4 (pB b1 0) (.slice A12 r5.1.length c12) (pB b1 0) (pB b1 0) (fun _ => by kernel_rfl) ?_)
       let v150_ : List Value := [.slice A12 r5.1.length c12, vi (IntKind.i64.wrap (p906 + 1)), vi r5.2]
       refine T.step (W1.st 0 v150_ ((box b1 86 v150_) :: i122_ :: G900) [.slice A12 r5.1.length c12] (by rfl) rfl rfl rfl rfl rfl rfl (fun _ => by kernel_rfl) ?_)
       refine T.nil ?_
       cases hX8
       repeat first | refine T.unthen ?_ | refine T.unblock ?_
       exact T.end0 rfl fun w' hh => ⟨_, rfl, ⟨A12, c12, V13, vr, (SlOk.mono hs12 (vt (made_le _ _) vr)), rfl, (hh.sub (kp1 (kp1 kpr)))⟩⟩
      rw [hc11, cond_false] at hX8
      refine T.skip_code ?_
      cases hX8
      repeat first | refine T.unthen ?_ | refine T.unblock ?_
      exact T.end0 rfl fun w' hh => ⟨_, rfl, ⟨A7, c7, V13, vr, (SlOk.mono hs7 hV13), rfl, (hh.sub (kp1 (kp1 kpr)))⟩⟩
     rintro v w' ⟨A13, c13, V14, hV14, hs13, rfl, hh⟩
     refine ⟨V14, ((box b1 86 [.slice A13 z14.length c13, vi (IntKind.i64.wrap (p906 + 1)), vi r5.2]) :: i122_ :: G900), hh, ?_⟩
     clear hh
     refine TA.on (Hp.old (vt hV13 hV14) w164_ (dr1 (kp1 kp0)) (oB1 ol0)) ?_
     refine TA.done (by kernel_rfl) ?_
     exact fun a w' hf hh => ⟨A13, c13, V14, (vt hV13 hV14), hs13, (Fr.sel hf rfl), (hh.sub (kp1 (kp1 kpr)))⟩
    let a160_ : Value := .agg #[vi 0, vi r1.2.2.1, vi 0]
    refine TA.br rfl (W1.within 50 [vi r1.2.2.1] (fun v w' => v = a160_ ∧ Hp w V8 t125_ w') Tryz.func50 rfl rfl (by kernel_rfl) (fun _ => by kernel_rfl) rfl ?_ ?_)
    ·
     refine T.seq (T.region (T.step (W1.np 42 [vi 0, vi 0, vi 0] (fun _ => by kernel_rfl) (fun b2 => ?_))))
     refine T.nil (T.seq (T.region (T.p2 (vi r1.2.2.1) a160_ (fun _ => by kernel_rfl) ?_)))
     let v151_ : List Value := [vi 0, vi r1.2.2.1, vi 0]
     refine T.step (W1.st 0 v151_ ((box b2 42 v151_) :: t125_) v151_ (by rfl) rfl rfl rfl rfl rfl rfl (fun _ => by kernel_rfl) ?_)
     refine T.nil ?_
     refine T.ret rfl ?_
     exact T.ret1 rfl (ResIs.cellN 0 rfl (by rfl) (fun _ => by kernel_rfl) (fun _ => by kernel_rfl)) fun w' hh => ⟨_, rfl, ⟨rfl, (hh.sub (dr1 (kp1 (kp1 kpr))))⟩⟩
    rintro v w' ⟨rfl, hh⟩
    refine ⟨V8, t125_, hh, ?_⟩
    clear hh
    refine TA.on (Hp.old vr w164_ (dr1 (kp1 kp0)) (oB1 ol0)) ?_
    refine TA.all [4] (by kernel_rfl) rfl ⟨?_, trivial⟩
    refine TA.br rfl (W1.look (.slice A7 z9.length c7) (by kernel_rfl) (ld1 0 rfl rfl (fun _ => by kernel_rfl) (by rfl) rfl) ?_)
    refine TA.on (Hp.old vr w164_ (dr1 (kp1 kp0)) (oB1 ol0)) ?_
    refine TA.all [11] (by kernel_rfl) rfl ⟨?_, trivial⟩
    refine TA.br rfl (W1.call (vT2 (vSc (eList eElem)) (vSc eInt)) r5 67 #[.slice A7 z9.length c7, a160_, vi (IntKind.i64.wrap (p906 + 1))] (by kernel_rfl) (fun _ => by kernel_rfl) (fun w' hh => run_Cut_l F z9 (DKey.mk 0 r1.2.2.1 0) (IntKind.i64.wrap (p906 + 1)) r5 hb5 w' A7 c7 (SlOk.mono hs7 hh.view)) ?_)
    intro u V13 hV13 hu
    obtain ⟨u7, u8, rfl, hu7, hu8⟩ := vT2_elim hu
    obtain ⟨A12, c12, rfl, hs12⟩ := vlist_elim hu7
    obtain rfl := sureInt _ _ _ hu8
    refine TA.onk (Hp.old hV13 w164_ (dr1 (kp1 kp0)) (oB1 ol0)) fun o182_ => ?_
    refine TA.tp 12 (.slice A12 r5.1.length c12) rfl (fun _ => by kernel_rfl) (fun _ _ _ h => h) o182_ ?_
    refine TA.tp 13 (vi r5.2) rfl (fun _ => by kernel_rfl) (fun _ _ _ h => h) o182_ ?_
    refine TA.all [14] (by kernel_rfl) rfl ⟨?_, trivial⟩
    refine TA.br rfl (W1.within 55 [pB b1 0, .slice A12 r5.1.length c12, vi r5.2] (fun v w' => ∃ (A13 : Option Addr) (c13 : Nat) (V14 : View), View.le V13 V14 ∧ SlOk V14 eElem A13 c13 z14 ∧ v = .tuple #[] ∧ Hp w V14 ((box b1 86 [.slice A13 z14.length c13, vi (IntKind.i64.wrap (p906 + 1)), vi r5.2]) :: i122_ :: G900) w') Tryz.func55 rfl rfl (by kernel_rfl) (fun _ => by kernel_rfl) rfl ?_ ?_)
    ·
     refine T.seq (T.seq (T.region (T.p3 (pB b1 0) (pB b1 0) (pB b1 2) (fun _ => by kernel_rfl) (T.look (vi z10) (by kernel_rfl) (ld1 0 rfl rfl (fun _ => by kernel_rfl) (by rfl) rfl) ?_))))
     refine T.pk (.bool (z10 == 0)) (fun _ => by kernel_rfl) (T.nil ?_)
     refine T.cond (z10 == 0) (by kernel_rfl) (by kernel_rfl) (fun _ => ?_) (fun h => absurd (hc10.symm.trans h) (by decide))
     refine T.region (T.p4 (pB b1 0) (vi r5.2) (pB b1 0) (pB b1 2) (fun _ => by kernel_rfl) ?_)
     let v152_ : List Value := [.slice A7 z9.length c7, vi (IntKind.i64.wrap (p906 + 1)), vi r5.2]
     refine T.step (W1.st 0 v152_ ((box b1 86 v152_) :: i122_ :: G900) [vi r5.2] (by rfl) rfl rfl rfl rfl rfl rfl (fun _ => by kernel_rfl) ?_)
     refine T.nil (T.seq (T.region (T.p3 (pB b1 0) (pB b1 0) (pB b1 2) (fun _ => by kernel_rfl) (T.look (vi r5.2) (by kernel_rfl) (ld1 0 rfl rfl (fun _ => by kernel_rfl) (by rfl) rfl) ?_))))
     refine T.pk (.bool (r5.2 == 0)) (fun _ => by kernel_rfl) (T.nil ?_)
     refine T.cond (r5.2 == 0) (by kernel_rfl) (by kernel_rfl) (fun hc11 => ?_) (fun hc11 => ?_)
     ·
      rw [hc11, cond_true] at hX8
      refine T.region (T.p4 (pB b1 0) (.slice A12 r5.1.length c12) (pB b1 0) (pB b1 0) (fun _ => by kernel_rfl) ?_)
      let v153_ : List Value := [.slice A12 r5.1.length c12, vi (IntKind.i64.wrap (p906 + 1)), vi r5.2]
      refine T.step (W1.st 0 v153_ ((box b1 86 v153_) :: i122_ :: G900) [.slice A12 r5.1.length c12] (by rfl) rfl rfl rfl rfl rfl rfl (fun _ => by kernel_rfl) ?_)
      refine T.nil ?_
      cases hX8
      repeat first | refine T.unthen ?_ | refine T.unblock ?_
      exact T.end0 rfl fun w' hh => ⟨_, rfl, ⟨A12, c12, V13, vr, (SlOk.mono hs12 (vt (made_le _ _) vr)), rfl, (hh.sub (kp1 (kp1 kpr)))⟩⟩
     rw [hc11, cond_false] at hX8
     refine T.skip_code ?_
     cases hX8
     repeat first | refine T.unthen ?_ | refine T.unblock ?_
     exact T.end0 rfl fun w' hh => ⟨_, rfl, ⟨A7, c7, V13, vr, (SlOk.mono hs7 hV13), rfl, (hh.sub (kp1 (kp1 kpr)))⟩⟩
    rintro v w' ⟨A13, c13, V14, hV14, hs13, rfl, hh⟩
    refine ⟨V14, ((box b1 86 [.slice A13 z14.length c13, vi (IntKind.i64.wrap (p906 + 1)), vi r5.2]) :: i122_ :: G900), hh, ?_⟩
    clear hh
    refine TA.on (Hp.old (vt hV13 hV14) w164_ (dr1 (kp1 kp0)) (oB1 ol0)) ?_
    refine TA.done (by kernel_rfl) ?_
    exact fun a w' hf hh => ⟨A13, c13, V14, (vt hV13 hV14), hs13, (Fr.sel hf rfl), (hh.sub (kp1 (kp1 kpr)))⟩
   rintro a w' ⟨A14, c14, V15, hV15, hs14, hf, hh⟩
   refine (?_ : T 107 w V15 ((box b1 86 [.slice A14 z14.length c14, vi (IntKind.i64.wrap (p906 + 1)), vi r5.2]) :: i122_ :: G900) [(0, pB b901 0), (11, pB b1 0)] _) a w' hf hh
   clear hf hh
   cases hX7
   exact fun a w' hf hh => ⟨z14, r5.2, rfl, A14, c14, V15, hV15, hs14, (Fr.sel hf rfl), (hh.sub (kp1 (kp1 kpr)))⟩
  rw [hc10, cond_false] at hX7
  refine T.skip_code ?_
  cases hX7
  exact fun a w' hf hh => ⟨z9, z10, rfl, A7, c7, V8, vr, hs7, (Fr.sel hf rfl), (hh.sub (kp1 (kp1 kpr)))⟩
 rintro a w' ⟨z12, z13, rfl, A11, c11, V12, hV12, hs11, hf, hh⟩
 try dsimp only at hF
 let i126_ : HObj := box b1 86 [.slice A11 z12.length c11, vi (IntKind.i64.wrap (p906 + 1)), vi z13]
 refine (?_ : T 107 w V12 (i126_ :: i122_ :: G900) [(0, pB b901 0), (11, pB b1 0)] _) a w' hf hh
 clear hf hh
 refine T.seq (T.region (T.p2 (pB b901 0) (pB b1 0) (fun _ => by kernel_rfl) ?_))
 obtain ⟨q4, hX9, hF⟩ := ob hF
 refine T.step (W1.within 54 [pB b901 0, pB b1 0] (fun v w' => ∃ (z15 : List DElem) (z16 : Int), q4 = (z15, z16) ∧ ∃ (A15 : Option Addr) (c15 : Nat) (V16 : View), View.le V12 V16 ∧ SlOk V16 eElem A15 c15 z15 ∧ v = vi z13 ∧ Hp w V16 (i126_ :: (box b901 78 [.slice A15 z15.length c15, vi z16, vi p907]) :: G900) w') Tryz.func54 rfl rfl (by kernel_rfl) (fun _ => by kernel_rfl) rfl ?_ ?_)
 ·
  refine T.seq (T.region (T.pk (vi 0) (fun _ => by kernel_rfl) (T.nil ?_)))
  obtain ⟨q5, hX10, hX9⟩ := ob hX9
  refine T.cut (fun a w' => ∃ (z17 : List DElem) (z18 : Int), q5 = (z17, z18) ∧ ∃ (A16 : Option Addr) (c16 : Nat) (V17 : View), View.le V12 V17 ∧ SlOk V17 eElem A16 c16 z17 ∧ Fr 28 [(1, pB b1 0)] a ∧ Hp w V17 (i126_ :: (box b901 78 [.slice A16 z17.length c16, vi z18, vi p907]) :: G900) w') ?_ ?_
  ·
   refine T.seq (T.region (T.p3 (pB b1 0) (pB b1 0) (pB b1 2) (fun _ => by kernel_rfl) (T.look (vi z13) (by kernel_rfl) (ld1 0 rfl rfl (fun _ => by kernel_rfl) (by rfl) rfl) ?_)))
   refine T.pk (.bool (z13 == 0)) (fun _ => by kernel_rfl) (T.nil ?_)
   refine T.cond (z13 == 0) (by kernel_rfl) (by kernel_rfl) (fun hc12 => ?_) (fun hc12 => ?_)
   ·
    rw [hc12, cond_true] at hX10
    refine T.held (i126_ :: []) (by kernel_rfl) ?_
    have w165_ := vt (vt (vt (vt (vt hV900 hV2) hV3) hV4) hV8) hV12
    refine TA.keep (Hp.old vr w165_ (kp1 (dr1 kp0)) (oB1 ol0)) fun o183_ => ?_
    refine TA.tp 0 (pB b901 0) rfl (fun _ => by kernel_rfl) (fun _ _ _ h => h) o183_ ?_
    refine TA.tp 1 (pB b901 0) rfl (fun _ => by kernel_rfl) (fun _ _ _ h => h) o183_ ?_
    refine TA.tp 2 (pB b1 0) rfl (fun _ => by kernel_rfl) (fun _ _ _ h => h) o183_ ?_
    refine TA.tp 3 (pB b1 0) rfl (fun _ => by kernel_rfl) (fun _ _ _ h => h) o183_ ?_
    refine TA.tp 4 (pB b1 0) rfl (fun _ => by kernel_rfl) (fun _ _ _ h => h) o183_ ?_
    refine TA.tk 5 (.slice A11 z12.length c11) rfl (by kernel_rfl) (fun _ _ _ h => h) o183_ (ld1 0 rfl rfl (fun _ => by kernel_rfl) (by rfl) rfl) ?_
    refine TA.tp 6 (pB b1 0) rfl (fun _ => by kernel_rfl) (fun _ _ _ h => h) o183_ ?_
    refine TA.tp 7 (pB b1 0) rfl (fun _ => by kernel_rfl) (fun _ _ _ h => h) o183_ ?_
    refine TA.tp 8 (pB b1 1) rfl (fun _ => by kernel_rfl) (fun _ _ _ h => h) o183_ ?_
    refine TA.tk 9 (vi (IntKind.i64.wrap (p906 + 1))) rfl (by kernel_rfl) (fun _ _ _ h => h) o183_ (ld1 0 rfl rfl (fun _ => by kernel_rfl) (by rfl) rfl) ?_
    refine TA.tp 10 (pB b901 0) rfl (fun _ => by kernel_rfl) (fun _ _ _ h => h) o183_ ?_
    refine TA.tp 11 (pB b901 0) rfl (fun _ => by kernel_rfl) (fun _ _ _ h => h) o183_ ?_
    refine TA.all [12] (by kernel_rfl) rfl ⟨?_, trivial⟩
    refine TA.br rfl (W1.st 1 [.slice A11 z12.length c11, vi p906, vi p907] (i126_ :: (box b901 78 [.slice A11 z12.length c11, vi p906, vi p907]) :: G900) [.slice A11 z12.length c11] (by rfl) rfl rfl rfl rfl rfl rfl (fun _ => by kernel_rfl) ?_)
    refine TA.onk (Hp.old vr w165_ (kp1 (dr1 kp0)) (oB1 ol0)) fun o184_ => ?_
    refine TA.tp 13 (pB b901 0) rfl (fun _ => by kernel_rfl) (fun _ _ _ h => h) o184_ ?_
    refine TA.tp 14 (pB b901 1) rfl (fun _ => by kernel_rfl) (fun _ _ _ h => h) o184_ ?_
    refine TA.all [15] (by kernel_rfl) rfl ⟨?_, trivial⟩
    let v154_ : List Value := [.slice A11 z12.length c11, vi (IntKind.i64.wrap (p906 + 1)), vi p907]
    refine TA.br rfl (W1.st 1 v154_ (i126_ :: (box b901 78 v154_) :: G900) [vi (IntKind.i64.wrap (p906 + 1))] (by rfl) rfl rfl rfl rfl rfl rfl (fun _ => by kernel_rfl) ?_)
    refine TA.on (Hp.old vr w165_ (kp1 (dr1 kp0)) (oB1 ol0)) ?_
    refine TA.done (by kernel_rfl) ?_
    cases hX10
    exact fun a w' hf hh => ⟨z12, (IntKind.i64.wrap (p906 + 1)), rfl, A11, c11, V12, vr, hs11, (Fr.sel hf rfl), (hh.sub (kp1 (kp1 kpr)))⟩
   rw [hc12, cond_false] at hX10
   refine T.skip_code ?_
   cases hX10
   exact fun a w' hf hh => ⟨p904, p906, rfl, A902, c903, V12, vr, (SlOk.mono hs905 (vt (vt (vt (vt hV2 hV3) hV4) hV8) hV12)), (Fr.sel hf rfl), (hh.sub (kp1 (kp1 kpr)))⟩
  rintro a w' ⟨z17, z18, rfl, A16, c16, V17, hV17, hs16, hf, hh⟩
  try dsimp only at hX9
  refine (?_ : T 28 w V17 (i126_ :: (box b901 78 [.slice A16 z17.length c16, vi z18, vi p907]) :: G900) [(1, pB b1 0)] _) a w' hf hh
  clear hf hh
  refine T.seq (T.region (T.p3 (pB b1 0) (pB b1 0) (pB b1 2) (fun _ => by kernel_rfl) (T.look (vi z13) (by kernel_rfl) (ld1 0 rfl rfl (fun _ => by kernel_rfl) (by rfl) rfl) ?_)))
  refine T.pk (vi z13) (fun _ => by kernel_rfl) (T.nil ?_)
  cases hX9
  refine T.ret rfl ?_
  exact T.ret1 rfl (ResIs.tmp rfl) fun w' hh => ⟨_, rfl, ⟨z17, z18, rfl, A16, c16, V17, hV17, hs16, rfl, (hh.sub (kp1 (kp1 kpr)))⟩⟩
 rintro v w' ⟨z15, z16, rfl, A15, c15, V16, hV16, hs15, rfl, hh⟩
 try dsimp only at hF
 refine ⟨V16, (i126_ :: (box b901 78 [.slice A15 z15.length c15, vi z16, vi p907]) :: G900), hh, ?_⟩
 clear hh
 refine T.pk (vi z13) (fun _ => by kernel_rfl) (T.nil ?_)
 have hres := Option.some.inj hF
 subst hres
 refine T.ret rfl ?_
 repeat first | refine T.unthen ?_ | refine T.unblock ?_
 exact T.ret1 rfl (ResIs.tmp rfl) fun w' hh => ⟨_, rfl, ⟨A15, c15, V16, (vt (vt (vt (vt (vt hV2 hV3) hV4) hV8) hV12) hV16), hs15, rfl, (hh.sub (dr1 (kp1 kpr)))⟩⟩
set_option maxRecDepth 100000 in
set_option maxHeartbeats 4000000 in
theorem annalkeep_act_fr_l (F : Nat) (p904 : List DElem) (p906 : Int) (p907 : Int) (p910 : List Int) (p914 : List ByteArray) (p918 : List ByteArray) (r : (List DElem) × Int × Int × Int) (hF : annalkeep_act_fr F p904 p906 p907 p910 p914 p918 = some r) (w : World) (hGl : Glob w) (b901 : Nat) (A902 : Option Addr) (c903 : Nat) (A908 : Option Addr) (c909 : Nat) (A912 : Option Addr) (c913 : Nat) (A916 : Option Addr) (c917 : Nat) (V900 : View) (G900 : List HObj) (w1 : World) (hs905 : SlOk V900 eElem A902 c903 p904) (hs911 : SlOk V900 eInt A908 c909 p910) (hs915 : SlOk V900 eStr A912 c913 p914) (hs919 : SlOk V900 eStr A916 c917 p918) (hh : Hp w V900 ((box b901 78 [.slice A902 p904.length c903, .int .i64 p906, .int .i64 p907]) :: G900) w1) :
 Calls Tryz.prog 36 #[.pointer (some ⟨b901, 0, none⟩), .slice A908 p910.length c909, .slice A912 p914.length c913, .slice A916 p918.length c917] w1 (fun e w2 => ∃ v, e = .returned v ∧ ∃ (A1 : Option Addr) (c1 : Nat) (V1 : View), View.le V900 V1 ∧ SlOk V1 eElem A1 c1 r.1 ∧ v = .int .i64 r.2.2.2 ∧ Hp w V1 ((box b901 78 [.slice A1 r.1.length c1, .int .i64 r.2.1, .int .i64 r.2.2.1]) :: G900) w2) := by
 unfold annalkeep_act_fr at hF
 have hV900 := hh.base
 refine T.startI (l := [pB b901 0, .slice A908 p910.length c909, .slice A912 p914.length c913, .slice A916 p918.length c917]) Tryz.func36 rfl rfl rfl ?_ hh
 clear hh
 refine T.seq (T.region (T.pk (vi 0) (fun _ => by kernel_rfl) (T.nil (T.seq (T.region (T.p2 (.slice A912 p914.length c913) (.slice A908 p910.length c909) (fun _ => by kernel_rfl) ?_))))))
 obtain ⟨r1, hb1, hF⟩ := ob hF
 refine T.step (W1.call (vSc eInt) r1 72 #[.slice A908 p910.length c909, vi 1] (by kernel_rfl) (fun _ => by kernel_rfl) (fun w' hh => annalkeep_num_l p910 1 r1 hb1 w' A908 c909 (SlOk.mono hs911 hh.view)) ?_)
 intro u V2 hV2 hu
 obtain rfl := sureInt _ _ _ hu
 obtain ⟨r2, hb2, hF⟩ := ob hF
 refine T.step (W1.call (vSc eStr) r2 19 #[.slice A912 p914.length c913, vi r1] (by kernel_rfl) (fun _ => by kernel_rfl) (fun w' hh => annalkeep_pick_l p914 r1 r2 hb2 w' A912 c913 (SlOk.mono (SlOk.mono hs915 hV2) hh.view)) ?_)
 intro u V3 hV3 hu
 obtain rfl := sureStr _ _ _ hu
 refine T.p2 (.slice A912 p914.length c913) (.slice A908 p910.length c909) (fun _ => by kernel_rfl) ?_
 obtain ⟨r3, hb3, hF⟩ := ob hF
 refine T.step (W1.call (vSc eInt) r3 72 #[.slice A908 p910.length c909, vi 2] (by kernel_rfl) (fun _ => by kernel_rfl) (fun w' hh => annalkeep_num_l p910 2 r3 hb3 w' A908 c909 (SlOk.mono (SlOk.mono hs911 (vt hV2 hV3)) hh.view)) ?_)
 intro u V4 hV4 hu
 obtain rfl := sureInt _ _ _ hu
 obtain ⟨r4, hb4, hF⟩ := ob hF
 refine T.step (W1.call (vSc eStr) r4 19 #[.slice A912 p914.length c913, vi r3] (by kernel_rfl) (fun _ => by kernel_rfl) (fun w' hh => annalkeep_pick_l p914 r3 r4 hb4 w' A912 c913 (SlOk.mono (SlOk.mono hs915 (vt (vt hV2 hV3) hV4)) hh.view)) ?_)
 intro u V5 hV5 hu
 obtain rfl := sureStr _ _ _ hu
 refine T.p2 (.slice A916 p918.length c917) (.slice A908 p910.length c909) (fun _ => by kernel_rfl) ?_
 obtain ⟨r5, hb5, hF⟩ := ob hF
 refine T.step (W1.call (vSc eInt) r5 72 #[.slice A908 p910.length c909, vi 2] (by kernel_rfl) (fun _ => by kernel_rfl) (fun w' hh => annalkeep_num_l p910 2 r5 hb5 w' A908 c909 (SlOk.mono (SlOk.mono hs911 (vt (vt (vt hV2 hV3) hV4) hV5)) hh.view)) ?_)
 intro u V6 hV6 hu
 obtain rfl := sureInt _ _ _ hu
 obtain ⟨r6, hb6, hF⟩ := ob hF
 refine T.step (W1.call (vSc eStr) r6 19 #[.slice A916 p918.length c917, vi r5] (by kernel_rfl) (fun _ => by kernel_rfl) (fun w' hh => annalkeep_pick_l p918 r5 r6 hb6 w' A916 c917 (SlOk.mono (SlOk.mono hs919 (vt (vt (vt (vt hV2 hV3) hV4) hV5) hV6)) hh.view)) ?_)
 intro u V7 hV7 hu
 obtain rfl := sureStr _ _ _ hu
 refine T.p3 (.string r2) (.string r4) (.string r6) (fun _ => by kernel_rfl) (T.nil (T.seq (T.seq (T.region (T.pk (.slice A908 p910.length c909) (fun _ => by kernel_rfl) ?_)))))
 obtain ⟨r7, hb7, hF⟩ := ob hF
 refine T.step (W1.call (vSc eInt) r7 72 #[.slice A908 p910.length c909, vi 0] (by kernel_rfl) (fun _ => by kernel_rfl) (fun w' hh => annalkeep_num_l p910 0 r7 hb7 w' A908 c909 (SlOk.mono (SlOk.mono hs911 (vt (vt (vt (vt (vt hV2 hV3) hV4) hV5) hV6) hV7)) hh.view)) ?_)
 intro u V8 hV8 hu
 obtain rfl := sureInt _ _ _ hu
 obtain ⟨r8, hb8, hF⟩ := ob hF
 refine T.step (W1.call (vSc eInt) r8 22 #[vi r7, vi 5] (by kernel_rfl) (fun _ => by kernel_rfl) (fun w' hh => annalkeep_Within_l r7 5 r8 hb8 w' ) ?_)
 intro u V9 hV9 hu
 obtain rfl := sureInt _ _ _ hu
 refine T.nil (T.block (T.seq (T.region (T.p2 (.bool (r8 == 0)) (.bool (r8 == 0)) (fun _ => by kernel_rfl) (T.nil ?_)))))
 refine T.cond (r8 == 0) (by kernel_rfl) (by kernel_rfl) (fun hc1 => ?_) (fun hc1 => ?_)
 ·
  rw [hc1, cond_true] at hF
  refine T.seq (T.region (T.p2 (pB b901 0) (.string r2) (fun _ => by kernel_rfl) ?_))
  obtain ⟨r9, hb9, hF⟩ := ob hF
  refine T.step (W1.callI 16 [pB b901 0, .string r2] (fun v w' => ∃ (A2 : Option Addr) (c2 : Nat) (V10 : View), View.le V9 V10 ∧ SlOk V10 eElem A2 c2 r9.1 ∧ v = vi r9.2.2.2 ∧ Hp w V10 ((box b901 78 [.slice A2 r9.1.length c2, vi r9.2.1, vi r9.2.2.1]) :: G900) w') (by kernel_rfl) (fun _ => by kernel_rfl) (fun w' hh => fs_FS_Mkdir_fr_l F p904 p906 p907 r2 r9 hb9 w hGl b901 A902 c903 V9 G900 w' (SlOk.mono hs905 (vt (vt (vt (vt (vt (vt (vt hV2 hV3) hV4) hV5) hV6) hV7) hV8) hV9)) (hh.sub (kp1 kpr))) ?_)
  rintro v w' ⟨A2, c2, V10, hV10, hs2, rfl, hh⟩
  refine ⟨_, _, hh, ?_⟩
  clear hh
  refine T.pk (vi r9.2.2.2) (fun _ => by kernel_rfl) (T.nil ?_)
  have hres := Option.some.inj hF
  subst hres
  refine T.ret rfl ?_
  repeat first | refine T.unthen ?_ | refine T.unblock ?_
  exact T.ret1 rfl (ResIs.tmp rfl) fun w' hh => ⟨_, rfl, ⟨A2, c2, V10, (vt (vt (vt (vt (vt (vt (vt (vt hV2 hV3) hV4) hV5) hV6) hV7) hV8) hV9) hV10), hs2, rfl, (hh.sub (kp1 kpr))⟩⟩
 rw [hc1, cond_false] at hF
 refine T.seq (T.region (T.p2 (.bool (r8 == 1)) (.bool (r8 == 1)) (fun _ => by kernel_rfl) (T.nil ?_)))
 refine T.cond (r8 == 1) (by kernel_rfl) (by kernel_rfl) (fun hc2 => ?_) (fun hc2 => ?_)
 ·
  rw [hc2, cond_true] at hF
  refine T.seq (T.region (T.p3 (pB b901 0) (.string r2) (.string r6) (fun _ => by kernel_rfl) ?_))
  obtain ⟨r10, hb10, hF⟩ := ob hF
  refine T.step (W1.callI 23 [pB b901 0, .string r2, .string r6] (fun v w' => ∃ (A3 : Option Addr) (c3 : Nat) (V11 : View), View.le V9 V11 ∧ SlOk V11 eElem A3 c3 r10.1 ∧ v = vi r10.2.2.2 ∧ Hp w V11 ((box b901 78 [.slice A3 r10.1.length c3, vi r10.2.1, vi r10.2.2.1]) :: G900) w') (by kernel_rfl) (fun _ => by kernel_rfl) (fun w' hh => fs_FS_Write_fr_l F p904 p906 p907 r2 r6 r10 hb10 w hGl b901 A902 c903 V9 G900 w' (SlOk.mono hs905 (vt (vt (vt (vt (vt (vt (vt hV2 hV3) hV4) hV5) hV6) hV7) hV8) hV9)) (hh.sub (kp1 kpr))) ?_)
  rintro v w' ⟨A3, c3, V11, hV11, hs3, rfl, hh⟩
  refine ⟨_, _, hh, ?_⟩
  clear hh
  refine T.pk (vi r10.2.2.2) (fun _ => by kernel_rfl) (T.nil ?_)
  have hres := Option.some.inj hF
  subst hres
  refine T.ret rfl ?_
  repeat first | refine T.unthen ?_ | refine T.unblock ?_
  exact T.ret1 rfl (ResIs.tmp rfl) fun w' hh => ⟨_, rfl, ⟨A3, c3, V11, (vt (vt (vt (vt (vt (vt (vt (vt hV2 hV3) hV4) hV5) hV6) hV7) hV8) hV9) hV11), hs3, rfl, (hh.sub (kp1 kpr))⟩⟩
 rw [hc2, cond_false] at hF
 refine T.seq (T.region (T.p2 (.bool (r8 == 2)) (.bool (r8 == 2)) (fun _ => by kernel_rfl) (T.nil ?_)))
 refine T.cond (r8 == 2) (by kernel_rfl) (by kernel_rfl) (fun hc3 => ?_) (fun hc3 => ?_)
 ·
  rw [hc3, cond_true] at hF
  refine T.seq (T.region (T.p3 (pB b901 0) (.string r2) (.slice A908 p910.length c909) (fun _ => by kernel_rfl) ?_))
  obtain ⟨r11, hb11, hF⟩ := ob hF
  refine T.step (W1.call (vSc eInt) r11 72 #[.slice A908 p910.length c909, vi 3] (by kernel_rfl) (fun _ => by kernel_rfl) (fun w' hh => annalkeep_num_l p910 3 r11 hb11 w' A908 c909 (SlOk.mono (SlOk.mono hs911 (vt (vt (vt (vt (vt (vt (vt hV2 hV3) hV4) hV5) hV6) hV7) hV8) hV9)) hh.view)) ?_)
  intro u V12 hV12 hu
  obtain rfl := sureInt _ _ _ hu
  refine T.pk (.string r6) (fun _ => by kernel_rfl) ?_
  obtain ⟨r12, hb12, hF⟩ := ob hF
  refine T.step (W1.callI 24 [pB b901 0, .string r2, vi r11, .string r6] (fun v w' => ∃ (A4 : Option Addr) (c4 : Nat) (V13 : View), View.le V12 V13 ∧ SlOk V13 eElem A4 c4 r12.1 ∧ v = vi r12.2.2 ∧ Hp w V13 ((box b901 78 [.slice A4 r12.1.length c4, vi r12.2.1, vi p907]) :: G900) w') (by kernel_rfl) (fun _ => by kernel_rfl) (fun w' hh => fs_FS_Patch_fr_l F p904 p906 p907 r2 r11 r6 r12 hb12 w hGl b901 A902 c903 V12 G900 w' (SlOk.mono hs905 (vt (vt (vt (vt (vt (vt (vt (vt hV2 hV3) hV4) hV5) hV6) hV7) hV8) hV9) hV12)) (hh.sub (kp1 kpr))) ?_)
  rintro v w' ⟨A4, c4, V13, hV13, hs4, rfl, hh⟩
  refine ⟨_, _, hh, ?_⟩
  clear hh
  refine T.pk (vi r12.2.2) (fun _ => by kernel_rfl) (T.nil ?_)
  have hres := Option.some.inj hF
  subst hres
  refine T.ret rfl ?_
  repeat first | refine T.unthen ?_ | refine T.unblock ?_
  exact T.ret1 rfl (ResIs.tmp rfl) fun w' hh => ⟨_, rfl, ⟨A4, c4, V13, (vt (vt (vt (vt (vt (vt (vt (vt (vt hV2 hV3) hV4) hV5) hV6) hV7) hV8) hV9) hV12) hV13), hs4, rfl, (hh.sub (kp1 kpr))⟩⟩
 rw [hc3, cond_false] at hF
 refine T.seq (T.region (T.p2 (.bool (r8 == 3)) (.bool (r8 == 3)) (fun _ => by kernel_rfl) (T.nil ?_)))
 refine T.cond (r8 == 3) (by kernel_rfl) (by kernel_rfl) (fun hc4 => ?_) (fun hc4 => ?_)
 ·
  rw [hc4, cond_true] at hF
  refine T.seq (T.region (T.p2 (pB b901 0) (.string r2) (fun _ => by kernel_rfl) ?_))
  obtain ⟨r13, hb13, hF⟩ := ob hF
  refine T.step (W1.callI 30 [pB b901 0, .string r2] (fun v w' => ∃ (A5 : Option Addr) (c5 : Nat) (V14 : View), View.le V9 V14 ∧ SlOk V14 eElem A5 c5 r13.1 ∧ v = vi r13.2.2 ∧ Hp w V14 ((box b901 78 [.slice A5 r13.1.length c5, vi r13.2.1, vi p907]) :: G900) w') (by kernel_rfl) (fun _ => by kernel_rfl) (fun w' hh => fs_FS_Remove_fr_l F p904 p906 p907 r2 r13 hb13 w hGl b901 A902 c903 V9 G900 w' (SlOk.mono hs905 (vt (vt (vt (vt (vt (vt (vt hV2 hV3) hV4) hV5) hV6) hV7) hV8) hV9)) (hh.sub (kp1 kpr))) ?_)
  rintro v w' ⟨A5, c5, V14, hV14, hs5, rfl, hh⟩
  refine ⟨_, _, hh, ?_⟩
  clear hh
  refine T.pk (vi r13.2.2) (fun _ => by kernel_rfl) (T.nil ?_)
  have hres := Option.some.inj hF
  subst hres
  refine T.ret rfl ?_
  repeat first | refine T.unthen ?_ | refine T.unblock ?_
  exact T.ret1 rfl (ResIs.tmp rfl) fun w' hh => ⟨_, rfl, ⟨A5, c5, V14, (vt (vt (vt (vt (vt (vt (vt (vt hV2 hV3) hV4) hV5) hV6) hV7) hV8) hV9) hV14), hs5, rfl, (hh.sub (kp1 kpr))⟩⟩
 rw [hc4, cond_false] at hF
 refine T.skip_code ?_
 refine T.seq (T.region (T.p3 (pB b901 0) (.string r2) (.string r4) (fun _ => by kernel_rfl) ?_))
 obtain ⟨r14, hb14, hF⟩ := ob hF
 refine T.step (W1.callI 17 [pB b901 0, .string r2, .string r4] (fun v w' => ∃ (A6 : Option Addr) (c6 : Nat) (V15 : View), View.le V9 V15 ∧ SlOk V15 eElem A6 c6 r14.1 ∧ v = vi r14.2.2 ∧ Hp w V15 ((box b901 78 [.slice A6 r14.1.length c6, vi r14.2.1, vi p907]) :: G900) w') (by kernel_rfl) (fun _ => by kernel_rfl) (fun w' hh => fs_FS_Move_fr_l F p904 p906 p907 r2 r4 r14 hb14 w hGl b901 A902 c903 V9 G900 w' (SlOk.mono hs905 (vt (vt (vt (vt (vt (vt (vt hV2 hV3) hV4) hV5) hV6) hV7) hV8) hV9)) (hh.sub (kp1 kpr))) ?_)
 rintro v w' ⟨A6, c6, V15, hV15, hs6, rfl, hh⟩
 refine ⟨_, _, hh, ?_⟩
 clear hh
 refine T.pk (vi r14.2.2) (fun _ => by kernel_rfl) (T.nil ?_)
 have hres := Option.some.inj hF
 subst hres
 refine T.ret rfl ?_
 repeat first | refine T.unthen ?_ | refine T.unblock ?_
 exact T.ret1 rfl (ResIs.tmp rfl) fun w' hh => ⟨_, rfl, ⟨A6, c6, V15, (vt (vt (vt (vt (vt (vt (vt (vt hV2 hV3) hV4) hV5) hV6) hV7) hV8) hV9) hV15), hs6, rfl, (hh.sub (kp1 kpr))⟩⟩
set_option maxRecDepth 100000 in
set_option maxHeartbeats 4000000 in
theorem fs_FS_Kind_fr_l (F : Nat) (p904 : List DElem) (p906 : Int) (p907 : Int) (p908 : ByteArray) (p909 : Int) (r : ByteArray × Int) (hF : fs_FS_Kind_fr F p904 p906 p907 p908 p909 = some r) (w : World) (hGl : Glob w) (b901 : Nat) (A902 : Option Addr) (c903 : Nat) (V900 : View) (G900 : List HObj) (w1 : World) (hs905 : SlOk V900 eElem A902 c903 p904) (hh : Hp w V900 ((box b901 78 [.slice A902 p904.length c903, .int .i64 p906, .int .i64 p907]) :: G900) w1) :
 Calls Tryz.prog 20 #[.pointer (some ⟨b901, 0, none⟩), .string p908, .int .i64 p909] w1 (fun e w2 => ∃ v, e = .returned v ∧ ∃ (V1 : View), View.le V900 V1 ∧ v = .tuple #[.string r.1, .int .i64 r.2] ∧ Hp w V1 ((box b901 78 [.slice A902 p904.length c903, .int .i64 p906, .int .i64 p907]) :: G900) w2) := by
 unfold fs_FS_Kind_fr at hF
 have hV900 := hh.base
 refine T.startI (l := [pB b901 0, .string p908, vi p909]) Tryz.func20 rfl rfl rfl ?_ hh
 clear hh
 refine T.seq (T.region (T.p2 (.string (ByteArray.mk #[])) (vi 0) (fun _ => by kernel_rfl) (T.nil (T.seq (T.region (T.p3 (pB b901 0) (.string p908) (vi p909) (fun _ => by kernel_rfl) ?_))))))
 obtain ⟨r1, hb1, hF⟩ := ob hF
 let i185_ : HObj := box b901 78 [.slice A902 p904.length c903, vi p906, vi p907]
 refine T.step (W1.callI 58 [pB b901 0, .string p908, vi p909] (fun v w' => ∃ (V2 : View), View.le V900 V2 ∧ v = .tuple #[vi r1.1, vi r1.2] ∧ Hp w V2 (i185_ :: G900) w') (by kernel_rfl) (fun _ => by kernel_rfl) (fun w' hh => fs_FS_at_fr_l F p904 p906 p907 p908 p909 r1 hb1 w hGl b901 A902 c903 V900 G900 w' hs905 (hh.sub (kp1 kpr))) ?_)
 rintro v w' ⟨V2, hV2, rfl, hh⟩
 refine ⟨_, _, hh, ?_⟩
 clear hh
 refine T.p5 (.tuple #[vi r1.1, vi r1.2]) (vi r1.1) (vi r1.2) (vi r1.1) (vi r1.2) (fun _ => by kernel_rfl) (T.nil (T.seq (T.seq (T.region (T.p2 (vi r1.2) (.bool (r1.2 != 0)) (fun _ => by kernel_rfl) (T.nil ?_))))))
 refine T.cond (r1.2 != 0) (by kernel_rfl) (by kernel_rfl) (fun hc1 => ?_) (fun hc1 => ?_)
 ·
  rw [hc1, cond_true] at hF
  refine T.seq (T.region (T.p3 (vi r1.2) (.string (ByteArray.mk #[])) (vi r1.2) (fun _ => by kernel_rfl) (T.nil ?_)))
  have hres := Option.some.inj hF
  subst hres
  refine T.ret rfl ?_
  repeat first | refine T.unthen ?_ | refine T.unblock ?_
  exact T.ret2 rfl (ResIs.tmp rfl) (ResIs.tmp rfl) fun w' hh => ⟨_, rfl, ⟨V2, hV2, rfl, (hh.sub (kp1 kpr))⟩⟩
 rw [hc1, cond_false] at hF
 refine T.skip_code ?_
 refine T.seq (T.region (T.p3 (pB b901 0) (vi r1.1) (vi p909) (fun _ => by kernel_rfl) ?_))
 obtain ⟨r2, hb2, hF⟩ := ob hF
 refine T.step (W1.callI 59 [pB b901 0, vi r1.1, vi p909] (fun v w' => ∃ (V3 : View), View.le V2 V3 ∧ v = .string r2 ∧ Hp w V3 (i185_ :: G900) w') (by kernel_rfl) (fun _ => by kernel_rfl) (fun w' hh => fs_FS_kind_fr_l F p904 p906 p907 r1.1 p909 r2 hb2 w hGl b901 A902 c903 V2 G900 w' (SlOk.mono hs905 hV2) (hh.sub (kp1 kpr))) ?_)
 rintro v w' ⟨V3, hV3, rfl, hh⟩
 refine ⟨_, _, hh, ?_⟩
 clear hh
 refine T.p2 (.string r2) (vi 0) (fun _ => by kernel_rfl) (T.nil ?_)
 have hres := Option.some.inj hF
 subst hres
 refine T.ret rfl ?_
 repeat first | refine T.unthen ?_ | refine T.unblock ?_
 exact T.ret2 rfl (ResIs.tmp rfl) (ResIs.tmp rfl) fun w' hh => ⟨_, rfl, ⟨V3, (vt hV2 hV3), rfl, (hh.sub (kp1 kpr))⟩⟩
set_option maxRecDepth 100000 in
set_option maxHeartbeats 4000000 in
theorem fs_FS_Read_fr_l (F : Nat) (p904 : List DElem) (p906 : Int) (p907 : Int) (p908 : ByteArray) (p909 : Int) (r : ByteArray × Int) (hF : fs_FS_Read_fr F p904 p906 p907 p908 p909 = some r) (w : World) (hGl : Glob w) (b901 : Nat) (A902 : Option Addr) (c903 : Nat) (V900 : View) (G900 : List HObj) (w1 : World) (hs905 : SlOk V900 eElem A902 c903 p904) (hh : Hp w V900 ((box b901 78 [.slice A902 p904.length c903, .int .i64 p906, .int .i64 p907]) :: G900) w1) :
 Calls Tryz.prog 25 #[.pointer (some ⟨b901, 0, none⟩), .string p908, .int .i64 p909] w1 (fun e w2 => ∃ v, e = .returned v ∧ ∃ (V1 : View), View.le V900 V1 ∧ v = .tuple #[.string r.1, .int .i64 r.2] ∧ Hp w V1 ((box b901 78 [.slice A902 p904.length c903, .int .i64 p906, .int .i64 p907]) :: G900) w2) := by
 unfold fs_FS_Read_fr at hF
 have hV900 := hh.base
 refine T.startI (l := [pB b901 0, .string p908, vi p909]) Tryz.func25 rfl rfl rfl ?_ hh
 clear hh
 refine T.seq (T.region (T.p2 (.string (ByteArray.mk #[])) (vi 0) (fun _ => by kernel_rfl) (T.nil (T.seq (T.region (T.p3 (pB b901 0) (.string p908) (vi p909) (fun _ => by kernel_rfl) ?_))))))
 obtain ⟨r1, hb1, hF⟩ := ob hF
 let i189_ : HObj := box b901 78 [.slice A902 p904.length c903, vi p906, vi p907]
 refine T.step (W1.callI 58 [pB b901 0, .string p908, vi p909] (fun v w' => ∃ (V2 : View), View.le V900 V2 ∧ v = .tuple #[vi r1.1, vi r1.2] ∧ Hp w V2 (i189_ :: G900) w') (by kernel_rfl) (fun _ => by kernel_rfl) (fun w' hh => fs_FS_at_fr_l F p904 p906 p907 p908 p909 r1 hb1 w hGl b901 A902 c903 V900 G900 w' hs905 (hh.sub (kp1 kpr))) ?_)
 rintro v w' ⟨V2, hV2, rfl, hh⟩
 refine ⟨_, _, hh, ?_⟩
 clear hh
 refine T.p5 (.tuple #[vi r1.1, vi r1.2]) (vi r1.1) (vi r1.2) (vi r1.1) (vi r1.2) (fun _ => by kernel_rfl) (T.nil (T.seq (T.seq (T.region (T.p2 (vi r1.2) (.bool (r1.2 != 0)) (fun _ => by kernel_rfl) (T.nil ?_))))))
 refine T.cond (r1.2 != 0) (by kernel_rfl) (by kernel_rfl) (fun hc1 => ?_) (fun hc1 => ?_)
 ·
  rw [hc1, cond_true] at hF
  refine T.seq (T.region (T.p3 (vi r1.2) (.string (ByteArray.mk #[])) (vi r1.2) (fun _ => by kernel_rfl) (T.nil ?_)))
  have hres := Option.some.inj hF
  subst hres
  refine T.ret rfl ?_
  repeat first | refine T.unthen ?_ | refine T.unblock ?_
  exact T.ret2 rfl (ResIs.tmp rfl) (ResIs.tmp rfl) fun w' hh => ⟨_, rfl, ⟨V2, hV2, rfl, (hh.sub (kp1 kpr))⟩⟩
 rw [hc1, cond_false] at hF
 refine T.skip_code ?_
 refine T.seq (T.seq (T.region (T.p3 (pB b901 0) (vi r1.1) (vi p909) (fun _ => by kernel_rfl) ?_)))
 obtain ⟨r2, hb2, hF⟩ := ob hF
 refine T.step (W1.callI 59 [pB b901 0, vi r1.1, vi p909] (fun v w' => ∃ (V3 : View), View.le V2 V3 ∧ v = .string r2 ∧ Hp w V3 (i189_ :: G900) w') (by kernel_rfl) (fun _ => by kernel_rfl) (fun w' hh => fs_FS_kind_fr_l F p904 p906 p907 r1.1 p909 r2 hb2 w hGl b901 A902 c903 V2 G900 w' (SlOk.mono hs905 hV2) (hh.sub (kp1 kpr))) ?_)
 rintro v w' ⟨V3, hV3, rfl, hh⟩
 refine ⟨_, _, hh, ?_⟩
 clear hh
 refine T.pk (.bool (!(seq r2 (ByteArray.mk #[102])))) (fun _ => by kernel_rfl) (T.nil ?_)
 refine T.cond (!(seq r2 (ByteArray.mk #[102]))) (by kernel_rfl) (by kernel_rfl) (fun hc2 => ?_) (fun hc2 => ?_)
 ·
  rw [hc2, cond_true] at hF
  refine T.seq (T.region (T.p2 (.string (ByteArray.mk #[])) (vi 12) (fun _ => by kernel_rfl) (T.nil ?_)))
  have hres := Option.some.inj hF
  subst hres
  refine T.ret rfl ?_
  repeat first | refine T.unthen ?_ | refine T.unblock ?_
  exact T.ret2 rfl (ResIs.tmp rfl) (ResIs.tmp rfl) fun w' hh => ⟨_, rfl, ⟨V3, (vt hV2 hV3), rfl, (hh.sub (kp1 kpr))⟩⟩
 rw [hc2, cond_false] at hF
 refine T.skip_code ?_
 refine T.seq (T.region (T.p3 (pB b901 0) (pB b901 0) (pB b901 0) (fun _ => by kernel_rfl) (T.look (.slice A902 p904.length c903) (by kernel_rfl) (ld1 0 rfl rfl (fun _ => by kernel_rfl) (by rfl) rfl) ?_)))
 refine T.p2 (vi r1.1) (vi p909) (fun _ => by kernel_rfl) ?_
 obtain ⟨r3, hb3, hF⟩ := ob hF
 refine T.step (W1.call (vT2 (vSc eStr) (vSc eInt)) r3 62 #[.slice A902 p904.length c903, vi 0, vi r1.1, vi p909] (by kernel_rfl) (fun _ => by kernel_rfl) (fun w' hh => file_Get_l F p904 0 r1.1 p909 r3 hb3 w' A902 c903 (SlOk.mono (SlOk.mono hs905 (vt hV2 hV3)) hh.view)) ?_)
 intro u V4 hV4 hu
 obtain rfl := (Sure.t2 sureStr sureInt) _ _ _ hu
 refine T.p4 (.string r3.1) (vi r3.2) (.string r3.1) (vi r3.2) (fun _ => by kernel_rfl) (T.nil ?_)
 have hres := Option.some.inj hF
 subst hres
 refine T.ret rfl ?_
 repeat first | refine T.unthen ?_ | refine T.unblock ?_
 exact T.ret2 rfl (ResIs.tmp rfl) (ResIs.tmp rfl) fun w' hh => ⟨_, rfl, ⟨V4, (vt (vt hV2 hV3) hV4), rfl, (hh.sub (kp1 kpr))⟩⟩
set_option maxRecDepth 100000 in
set_option maxHeartbeats 4000000 in
theorem fs_FS_List_fr_l (F : Nat) (p904 : List DElem) (p906 : Int) (p907 : Int) (p908 : ByteArray) (p909 : Int) (r : (List ByteArray) × Int) (hF : fs_FS_List_fr F p904 p906 p907 p908 p909 = some r) (w : World) (hGl : Glob w) (b901 : Nat) (A902 : Option Addr) (c903 : Nat) (V900 : View) (G900 : List HObj) (w1 : World) (hs905 : SlOk V900 eElem A902 c903 p904) (hh : Hp w V900 ((box b901 78 [.slice A902 p904.length c903, .int .i64 p906, .int .i64 p907]) :: G900) w1) :
 Calls Tryz.prog 34 #[.pointer (some ⟨b901, 0, none⟩), .string p908, .int .i64 p909] w1 (fun e w2 => ∃ v, e = .returned v ∧ ∃ (A1 : Option Addr) (c1 : Nat) (V1 : View), View.le V900 V1 ∧ SlOk (made w V1) eStr A1 c1 r.1 ∧ v = .tuple #[.slice A1 r.1.length c1, .int .i64 r.2] ∧ Hp w V1 ((box b901 78 [.slice A902 p904.length c903, .int .i64 p906, .int .i64 p907]) :: G900) w2) := by
 unfold fs_FS_List_fr at hF
 have hV900 := hh.base
 refine T.startI (l := [pB b901 0, .string p908, vi p909]) Tryz.func34 rfl rfl rfl ?_ hh
 clear hh
 refine T.seq (T.region (T.p2 sN (vi 0) (fun _ => by kernel_rfl) (T.nil (T.seq (T.region (T.p3 (pB b901 0) (.string p908) (vi p909) (fun _ => by kernel_rfl) ?_))))))
 obtain ⟨r1, hb1, hF⟩ := ob hF
 let i190_ : HObj := box b901 78 [.slice A902 p904.length c903, vi p906, vi p907]
 refine T.step (W1.callI 58 [pB b901 0, .string p908, vi p909] (fun v w' => ∃ (V2 : View), View.le V900 V2 ∧ v = .tuple #[vi r1.1, vi r1.2] ∧ Hp w V2 (i190_ :: G900) w') (by kernel_rfl) (fun _ => by kernel_rfl) (fun w' hh => fs_FS_at_fr_l F p904 p906 p907 p908 p909 r1 hb1 w hGl b901 A902 c903 V900 G900 w' hs905 (hh.sub (kp1 kpr))) ?_)
 rintro v w' ⟨V2, hV2, rfl, hh⟩
 refine ⟨_, _, hh, ?_⟩
 clear hh
 refine T.p5 (.tuple #[vi r1.1, vi r1.2]) (vi r1.1) (vi r1.2) (vi r1.1) (vi r1.2) (fun _ => by kernel_rfl) (T.nil (T.seq (T.seq (T.region (T.p2 (vi r1.2) (.bool (r1.2 != 0)) (fun _ => by kernel_rfl) (T.nil ?_))))))
 refine T.cond (r1.2 != 0) (by kernel_rfl) (by kernel_rfl) (fun hc1 => ?_) (fun hc1 => ?_)
 ·
  rw [hc1, cond_true] at hF
  refine T.seq (T.region (T.p3 (vi r1.2) sN (vi r1.2) (fun _ => by kernel_rfl) (T.nil ?_)))
  have hres := Option.some.inj hF
  subst hres
  refine T.ret rfl ?_
  repeat first | refine T.unthen ?_ | refine T.unblock ?_
  exact T.ret2 rfl (ResIs.tmp rfl) (ResIs.tmp rfl) fun w' hh => ⟨_, rfl, ⟨none, 0, V2, hV2, (SlOk.nil _ _), rfl, (hh.sub (kp1 kpr))⟩⟩
 rw [hc1, cond_false] at hF
 refine T.skip_code ?_
 refine T.seq (T.seq (T.region (T.p3 (pB b901 0) (vi r1.1) (vi p909) (fun _ => by kernel_rfl) ?_)))
 obtain ⟨r2, hb2, hF⟩ := ob hF
 refine T.step (W1.callI 59 [pB b901 0, vi r1.1, vi p909] (fun v w' => ∃ (V3 : View), View.le V2 V3 ∧ v = .string r2 ∧ Hp w V3 (i190_ :: G900) w') (by kernel_rfl) (fun _ => by kernel_rfl) (fun w' hh => fs_FS_kind_fr_l F p904 p906 p907 r1.1 p909 r2 hb2 w hGl b901 A902 c903 V2 G900 w' (SlOk.mono hs905 hV2) (hh.sub (kp1 kpr))) ?_)
 rintro v w' ⟨V3, hV3, rfl, hh⟩
 refine ⟨_, _, hh, ?_⟩
 clear hh
 refine T.pk (.bool (!(seq r2 (ByteArray.mk #[100])))) (fun _ => by kernel_rfl) (T.nil ?_)
 refine T.cond (!(seq r2 (ByteArray.mk #[100]))) (by kernel_rfl) (by kernel_rfl) (fun hc2 => ?_) (fun hc2 => ?_)
 ·
  rw [hc2, cond_true] at hF
  refine T.seq (T.region (T.p2 sN (vi 12) (fun _ => by kernel_rfl) (T.nil ?_)))
  have hres := Option.some.inj hF
  subst hres
  refine T.ret rfl ?_
  repeat first | refine T.unthen ?_ | refine T.unblock ?_
  exact T.ret2 rfl (ResIs.tmp rfl) (ResIs.tmp rfl) fun w' hh => ⟨_, rfl, ⟨none, 0, V3, (vt hV2 hV3), (SlOk.nil _ _), rfl, (hh.sub (kp1 kpr))⟩⟩
 rw [hc2, cond_false] at hF
 refine T.skip_code ?_
 refine T.seq (T.region (T.p3 (pB b901 0) (pB b901 0) (pB b901 0) (fun _ => by kernel_rfl) (T.look (.slice A902 p904.length c903) (by kernel_rfl) (ld1 0 rfl rfl (fun _ => by kernel_rfl) (by rfl) rfl) ?_)))
 refine T.p2 (vi r1.1) (vi p909) (fun _ => by kernel_rfl) ?_
 obtain ⟨r3, hb3, hF⟩ := ob hF
 refine T.step (W1.call (vT2 (vSc (eList eStr)) (vSc eInt)) r3 66 #[.slice A902 p904.length c903, vi 0, vi r1.1, vi p909] (by kernel_rfl) (fun _ => by kernel_rfl) (fun w' hh => dir_List_l F p904 0 r1.1 p909 r3 hb3 w' (Glob.mono hGl (vt hh.base hh.view)) A902 c903 (SlOk.mono (SlOk.mono hs905 (vt hV2 hV3)) hh.view)) ?_)
 intro u V4 hV4 hu
 obtain ⟨u1, u2, rfl, hu1, hu2⟩ := vT2_elim hu
 obtain ⟨A2, c2, rfl, hs2⟩ := vlist_elim hu1
 obtain rfl := sureInt _ _ _ hu2
 refine T.p4 (.slice A2 r3.1.length c2) (vi r3.2) (.slice A2 r3.1.length c2) (vi r3.2) (fun _ => by kernel_rfl) (T.nil ?_)
 have hres := Option.some.inj hF
 subst hres
 refine T.ret rfl ?_
 repeat first | refine T.unthen ?_ | refine T.unblock ?_
 exact T.ret2 rfl (ResIs.tmp rfl) (ResIs.tmp rfl) fun w' hh => ⟨_, rfl, ⟨A2, c2, V4, (vt (vt hV2 hV3) hV4), (SlOk.mono hs2 (made_mono vr)), rfl, (hh.sub (kp1 kpr))⟩⟩
end Go.Proofs.YtacjdfhllomccaaGreatDoor
