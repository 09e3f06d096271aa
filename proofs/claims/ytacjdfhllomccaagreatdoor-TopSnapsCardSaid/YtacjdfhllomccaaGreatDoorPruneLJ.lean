/- The Go functions of group Prune compute the pure functions of that group: written by walkgen.py. Condition of each: the pure function yields a result. -/
import Derived.Test.YtacjdfhllomccaaGreatDoorSh2J
import Derived.Test.YtacjdfhllomccaaGreatDoorRunLJ
import Derived.Test.YtacjdfhllomccaaGreatDoorPruneFJ
import Derived.Test.YtacjdfhllomccaaGreatDoorEqLJ
namespace Go.Proofs.YtacjdfhllomccaaGreatDoor
set_option linter.unusedVariables false
set_option maxRecDepth 100000 in
set_option maxHeartbeats 4000000 in
theorem prune_times_l (F : Nat) (p0 : (List Int)) (r : Int) (hF : prune_times F p0 = some r) (w : World) (A1 : Option Addr) (c1 : Nat) (hs1 : SlOk (vw w) eInt A1 c1 p0) :
 Calls Tryz.prog 109 #[.slice A1 p0.length c1] w (Post (vSc eInt) r w) := by
 unfold prune_times at hF
 refine T.start (l := [.slice A1 p0.length c1]) Tryz.func109 rfl rfl rfl ?_
 refine T.seq (T.region (T.pk (vi 0) (fun _ => by kernel_rfl) (T.nil (T.seq (T.seq (T.region (T.p3 (.slice A1 p0.length c1) (vi (p0.length : Int)) (.bool (decide ((20 : Int) < (p0.length : Int)))) (fun _ => by kernel_rfl) (T.nil ?_))))))))
 refine T.cond (decide ((20 : Int) < (p0.length : Int))) (by kernel_rfl) (by kernel_rfl) (fun hc1 => ?_) (fun hc1 => ?_)
 ·
  rw [hc1, cond_true] at hF
  refine T.seq (T.region (T.pk (vi 2) (fun _ => by kernel_rfl) (T.nil ?_)))
  cases hF
  refine T.ret rfl ?_
  exact T.ret1 rfl (ResIs.tmp rfl) fun w' hh => ⟨_, rfl, hh.below, (show _ from rfl)⟩
 rw [hc1, cond_false] at hF
 refine T.skip_code ?_
 refine T.seq (T.seq (T.region (T.p3 (.slice A1 p0.length c1) (vi (p0.length : Int)) (vi 0) (fun _ => by kernel_rfl) (T.nil ?_))))
 obtain ⟨q1, hz1, hF⟩ := ob hF
 refine T.mid (fun a w' => q1 = Sum.inl () ∧ Fr 21 [] a ∧ Hp w (vw w) [] w') ?_ ?_
 ·
  refine T.block ?_
  refine T.iter (fun x1 a w' => Fr 21 [(8, .slice A1 p0.length c1), (9, vi (p0.length : Int)), (10, vi x1)] a ∧ Hp w (vw w) [] w') hz1 ?_ ?_
  ·
   exact fun a w' hf hh => ⟨(Fr.sel hf rfl), (hh.sub List.Sublist.slnil)⟩
  rintro x1 y1 hY1 hr1 a w' ⟨hf, hh⟩
  refine (?_ : T 21 w (vw w) [] [(8, .slice A1 p0.length c1), (9, vi (p0.length : Int)), (10, vi x1)] _) a w' hf hh
  clear hf hh
  try dsimp only at hY1
  refine T.seq (T.region (T.pk (.bool (decide (x1 < (p0.length : Int)))) (fun _ => by kernel_rfl) (T.nil (T.seq ?_))))
  refine T.cond (decide (x1 < (p0.length : Int))) (by kernel_rfl) (by kernel_rfl) (fun hc2 => ?_) (fun hc2 => ?_)
  ·
   rw [hc2, cond_true] at hY1
   refine T.skip_code ?_
   refine T.seq (T.block (T.seq (T.region ?_)))
   obtain ⟨e1, hb1, hY1⟩ := ob hY1
   obtain ⟨hi1, hi2, hi3⟩ := idx_some hb1
   refine T.look (.pointer (some ((sadr A1).add (x1.toNat * 1)))) (by kernel_rfl) (fun w' hh => exec_indexAddr (e := 3) (s := 1) rfl rfl rfl (by kernel_rfl) (by kernel_rfl) hi1 hi2 (hs1.some_ hi3 (by decide))) ?_
   refine T.look (vi e1) (by kernel_rfl) (fun w' hh => exec_load1 rfl rfl (by kernel_rfl) (hh.cell_view (SlOk.cellF0 (E := eInt) hs1 hi3 (fun _ _ _ h => h) rfl))) ?_
   refine T.pk (vi e1) (fun _ => by kernel_rfl) (T.nil ?_)
   refine T.cut (fun a w' => Fr 21 [(8, .slice A1 p0.length c1), (9, vi (p0.length : Int)), (10, vi x1), (19, .bool ((decide (e1 < 0)) || (decide ((2147483647 : Int) < e1))))] a ∧ Hp w (vw w) [] w') ?_ ?_
   ·
    refine T.region (T.p3 (vi e1) (.bool (decide (e1 < 0))) (.bool (decide (e1 < 0))) (fun _ => by kernel_rfl) ?_)
    cases hg1 : decide (e1 < 0)
    ·
     skip
     refine T.p3 (vi e1) (.bool (decide ((2147483647 : Int) < e1))) (.bool (decide ((2147483647 : Int) < e1))) (fun _ => by kernel_rfl) (T.nil ?_)
     exact fun a w' hf hh => ⟨(Fr.sel hf rfl), (hh.sub List.Sublist.slnil)⟩
    skip
    refine T.pass (by kernel_rfl) (by kernel_rfl) (T.pass (by kernel_rfl) (by kernel_rfl) (T.pk (.bool true) (fun _ => by kernel_rfl) (T.nil ?_)))
    exact fun a w' hf hh => ⟨(Fr.sel hf rfl), (hh.sub List.Sublist.slnil)⟩
   rintro a w' ⟨hf, hh⟩
   refine (?_ : T 21 w (vw w) [] [(8, .slice A1 p0.length c1), (9, vi (p0.length : Int)), (10, vi x1), (19, .bool ((decide (e1 < 0)) || (decide ((2147483647 : Int) < e1))))] _) a w' hf hh
   clear hf hh
   refine T.cond ((decide (e1 < 0)) || (decide ((2147483647 : Int) < e1))) (by kernel_rfl) (by kernel_rfl) (fun hc3 => ?_) (fun hc3 => ?_)
   ·
    rw [hc3, cond_true] at hY1
    refine T.seq (T.region (T.pk (vi 9) (fun _ => by kernel_rfl) (T.nil ?_)))
    cases hY1
    cases (hr1 _ rfl)
    try dsimp only at hF
    cases hF
    refine T.ret rfl ?_
    exact T.ret1 rfl (ResIs.tmp rfl) fun w' hh => ⟨_, rfl, hh.below, (show _ from rfl)⟩
   rw [hc3, cond_false] at hY1
   refine T.skip_code ?_
   refine T.region (T.p2 (vi (IntKind.i64.wrap (x1 + 1))) (vi (IntKind.i64.wrap (x1 + 1))) (fun _ => by kernel_rfl) (T.nil ?_))
   cases hY1
   exact fun a w' hf hh => ⟨(IntKind.i64.wrap (x1 + 1)), rfl, (Fr.sel hf rfl), (hh.sub List.Sublist.slnil)⟩
  rw [hc2, cond_false] at hY1
  refine T.exit ?_
  cases hY1
  cases (hr1 _ rfl)
  exact fun a w' hf hh => ⟨rfl, (Fr.nil hf), (hh.sub List.Sublist.slnil)⟩
 rintro a w' ⟨rfl, hf, hh⟩
 try dsimp only at hF
 refine (?_ : T 21 w (vw w) [] [] _) a w' hf hh
 clear hf hh
 refine T.seq (T.region (T.pk (vi 0) (fun _ => by kernel_rfl) (T.nil ?_)))
 cases hF
 refine T.ret rfl ?_
 exact T.ret1 rfl (ResIs.tmp rfl) fun w' hh => ⟨_, rfl, hh.below, (show _ from rfl)⟩
set_option maxRecDepth 100000 in
set_option maxHeartbeats 4000000 in
theorem prune_stays_l (F : Nat) (p0 : DElem) (p1 : (List Int)) (r : Bool) (hF : prune_stays F p0 p1 = some r) (w : World) (A1 : Option Addr) (c1 : Nat) (hs1 : SlOk (vw w) eInt A1 c1 p1) :
 Calls Tryz.prog 110 #[.agg #[.int .i64 p0.key.pfs, .int .i64 p0.key.obj, .int .i64 p0.key.off, .int .i64 p0.made, .int .i64 p0.gone, .string p0.val], .slice A1 p1.length c1] w (Post (vSc eBool) r w) := by
 unfold prune_stays at hF
 let a3_ : Value := .agg #[vi p0.key.pfs, vi p0.key.obj, vi p0.key.off, vi p0.made, vi p0.gone, .string p0.val]
 refine T.start (l := [a3_, .slice A1 p1.length c1]) Tryz.func110 rfl rfl rfl ?_
 refine T.seq (T.region ?_)
 let v2_ : List Value := [vi p0.key.pfs, vi p0.key.obj, vi p0.key.off, vi p0.made, vi p0.gone, .string p0.val]
 refine T.step (W1.np 44 v2_ (fun _ => by kernel_rfl) (fun b1 => ?_))
 refine T.pk (.bool false) (fun _ => by kernel_rfl) (T.nil (T.seq (T.seq (T.region (T.pk (pB b1 4) (fun _ => by kernel_rfl) (T.look (vi p0.gone) (by kernel_rfl) (ld1 0 rfl rfl (fun _ => by kernel_rfl) (by rfl) rfl) ?_))))))
 refine T.pk (.bool (p0.gone == 0)) (fun _ => by kernel_rfl) (T.nil ?_)
 refine T.cond (p0.gone == 0) (by kernel_rfl) (by kernel_rfl) (fun hc1 => ?_) (fun hc1 => ?_)
 ·
  rw [hc1, cond_true] at hF
  refine T.seq (T.region (T.pk (.bool true) (fun _ => by kernel_rfl) (T.nil ?_)))
  cases hF
  refine T.ret rfl ?_
  exact T.ret1 rfl (ResIs.tmp rfl) fun w' hh => ⟨_, rfl, hh.below, (show _ from rfl)⟩
 rw [hc1, cond_false] at hF
 refine T.skip_code ?_
 refine T.seq (T.seq (T.region (T.p3 (.slice A1 p1.length c1) (vi (p1.length : Int)) (vi 0) (fun _ => by kernel_rfl) (T.nil ?_))))
 obtain ⟨q1, hz1, hF⟩ := ob hF
 refine T.mid (fun a w' => q1 = Sum.inl () ∧ ∃ (V2 : View), View.le (vw w) V2 ∧ Fr 20 [] a ∧ Hp w V2 [] w') ?_ ?_
 ·
  refine T.block ?_
  let i1_ : HObj := box b1 44 v2_
  refine T.iter (fun x1 a w' => ∃ (V1 : View), View.le (vw w) V1 ∧ Fr 20 [(2, pB b1 0), (10, .slice A1 p1.length c1), (11, vi (p1.length : Int)), (12, vi x1)] a ∧ Hp w V1 (i1_ :: []) w') hz1 ?_ ?_
  ·
   exact fun a w' hf hh => ⟨(vw w), vr, (Fr.sel hf rfl), (hh.sub (kp1 kp0))⟩
  rintro x1 y1 hY1 hr1 a w' ⟨V1, hV1, hf, hh⟩
  refine (?_ : T 20 w V1 (i1_ :: []) [(2, pB b1 0), (10, .slice A1 p1.length c1), (11, vi (p1.length : Int)), (12, vi x1)] _) a w' hf hh
  clear hf hh
  try dsimp only at hY1
  refine T.seq (T.region (T.pk (.bool (decide (x1 < (p1.length : Int)))) (fun _ => by kernel_rfl) (T.nil (T.seq ?_))))
  refine T.cond (decide (x1 < (p1.length : Int))) (by kernel_rfl) (by kernel_rfl) (fun hc2 => ?_) (fun hc2 => ?_)
  ·
   rw [hc2, cond_true] at hY1
   refine T.skip_code ?_
   refine T.seq (T.block (T.seq (T.region ?_)))
   obtain ⟨e1, hb1, hY1⟩ := ob hY1
   obtain ⟨hi1, hi2, hi3⟩ := idx_some hb1
   refine T.look (.pointer (some ((sadr A1).add (x1.toNat * 1)))) (by kernel_rfl) (fun w' hh => exec_indexAddr (e := 3) (s := 1) rfl rfl rfl (by kernel_rfl) (by kernel_rfl) hi1 hi2 ((SlOk.mono hs1 hV1).some_ hi3 (by decide))) ?_
   refine T.look (vi e1) (by kernel_rfl) (fun w' hh => exec_load1 rfl rfl (by kernel_rfl) (hh.cell_view (SlOk.cellF0 (E := eInt) (SlOk.mono hs1 hV1) hi3 (fun _ _ _ h => h) rfl))) ?_
   refine T.pk (vi e1) (fun _ => by kernel_rfl) (T.nil (T.seq (T.region (T.look a3_ (by kernel_rfl) (ldN 0 rfl rfl (fun _ => by kernel_rfl) (by rfl) rfl) ?_))))
   refine T.pk (vi e1) (fun _ => by kernel_rfl) ?_
   obtain ⟨r1, hb2, hY1⟩ := ob hY1
   refine T.step (W1.call (vSc eBool) r1 63 #[a3_, vi e1] (by kernel_rfl) (fun _ => by kernel_rfl) (fun w' hh => elem_Live_l p0 e1 r1 hb2 w' ) ?_)
   intro u V3 hV3 hu
   obtain rfl := sureBool _ _ _ hu
   refine T.nil ?_
   refine T.cond r1 (by kernel_rfl) (by kernel_rfl) (fun hc3 => ?_) (fun hc3 => ?_)
   ·
    rw [hc3, cond_true] at hY1
    refine T.seq (T.region (T.pk (.bool true) (fun _ => by kernel_rfl) (T.nil ?_)))
    cases hY1
    cases (hr1 _ rfl)
    try dsimp only at hF
    cases hF
    refine T.ret rfl ?_
    exact T.ret1 rfl (ResIs.tmp rfl) fun w' hh => ⟨_, rfl, hh.below, (show _ from rfl)⟩
   rw [hc3, cond_false] at hY1
   refine T.skip_code ?_
   refine T.region (T.p2 (vi (IntKind.i64.wrap (x1 + 1))) (vi (IntKind.i64.wrap (x1 + 1))) (fun _ => by kernel_rfl) (T.nil ?_))
   cases hY1
   exact fun a w' hf hh => ⟨(IntKind.i64.wrap (x1 + 1)), rfl, V3, (vt hV1 hV3), (Fr.sel hf rfl), (hh.sub (kp1 kp0))⟩
  rw [hc2, cond_false] at hY1
  refine T.exit ?_
  cases hY1
  cases (hr1 _ rfl)
  exact fun a w' hf hh => ⟨rfl, V1, hV1, (Fr.nil hf), (hh.sub (dr1 kp0))⟩
 rintro a w' ⟨rfl, V2, hV2, hf, hh⟩
 try dsimp only at hF
 refine (?_ : T 20 w V2 [] [] _) a w' hf hh
 clear hf hh
 refine T.seq (T.region (T.pk (.bool false) (fun _ => by kernel_rfl) (T.nil ?_)))
 cases hF
 refine T.ret rfl ?_
 exact T.ret1 rfl (ResIs.tmp rfl) fun w' hh => ⟨_, rfl, hh.below, (show _ from rfl)⟩
set_option maxRecDepth 100000 in
set_option maxHeartbeats 4000000 in
theorem prune_Kept_l (F : Nat) (p0 : (List DElem)) (p1 : (List Int)) (r : ((List DElem)) × Int) (hF : prune_Kept F p0 p1 = some r) (w : World) (A1 : Option Addr) (c1 : Nat) (hs1 : SlOk (vw w) eElem A1 c1 p0) (A2 : Option Addr) (c2 : Nat) (hs2 : SlOk (vw w) eInt A2 c2 p1) :
 Calls Tryz.prog 78 #[.slice A1 p0.length c1, .slice A2 p1.length c2] w (Post (vT2 (vSc (eList eElem)) (vSc eInt)) r w) := by
 unfold prune_Kept at hF
 refine T.start (l := [.slice A1 p0.length c1, .slice A2 p1.length c2]) Tryz.func78 rfl rfl rfl ?_
 refine T.seq (T.region (T.p2 sN (vi 0) (fun _ => by kernel_rfl) (T.nil (T.seq (T.seq (T.region (T.pk (.slice A1 p0.length c1) (fun _ => by kernel_rfl) ?_)))))))
 obtain ⟨r1, hb1, hF⟩ := ob hF
 refine T.step (W1.call (vSc eInt) r1 64 #[.slice A1 p0.length c1] (by kernel_rfl) (fun _ => by kernel_rfl) (fun w' hh => run_Check_l F p0 r1 hb1 w' A1 c1 (SlOk.mono hs1 hh.view)) ?_)
 intro u V1 hV1 hu
 obtain rfl := sureInt _ _ _ hu
 refine T.pk (vi r1) (fun _ => by kernel_rfl) (T.nil (T.seq (T.region (T.p2 (vi r1) (.bool (r1 != 0)) (fun _ => by kernel_rfl) (T.nil ?_)))))
 refine T.cond (r1 != 0) (by kernel_rfl) (by kernel_rfl) (fun hc1 => ?_) (fun hc1 => ?_)
 ·
  rw [hc1, cond_true] at hF
  refine T.seq (T.region (T.p3 (vi r1) sN (vi r1) (fun _ => by kernel_rfl) (T.nil ?_)))
  cases hF
  refine T.ret rfl ?_
  exact T.ret2 rfl (ResIs.tmp rfl) (ResIs.tmp rfl) fun w' hh => ⟨_, rfl, hh.below, (vT2.mk ⟨_, _, rfl, (SlOk.nil _ _)⟩ (show _ from rfl))⟩
 rw [hc1, cond_false] at hF
 refine T.skip_code ?_
 refine T.seq (T.seq (T.region (T.pk (.slice A2 p1.length c2) (fun _ => by kernel_rfl) ?_)))
 obtain ⟨r2, hb2, hF⟩ := ob hF
 refine T.step (W1.call (vSc eInt) r2 109 #[.slice A2 p1.length c2] (by kernel_rfl) (fun _ => by kernel_rfl) (fun w' hh => prune_times_l F p1 r2 hb2 w' A2 c2 (SlOk.mono (SlOk.mono hs2 hV1) hh.view)) ?_)
 intro u V2 hV2 hu
 obtain rfl := sureInt _ _ _ hu
 refine T.pk (vi r2) (fun _ => by kernel_rfl) (T.nil (T.seq (T.region (T.p2 (vi r2) (.bool (r2 != 0)) (fun _ => by kernel_rfl) (T.nil ?_)))))
 refine T.cond (r2 != 0) (by kernel_rfl) (by kernel_rfl) (fun hc2 => ?_) (fun hc2 => ?_)
 ·
  rw [hc2, cond_true] at hF
  refine T.seq (T.region (T.p3 (vi r2) sN (vi r2) (fun _ => by kernel_rfl) (T.nil ?_)))
  cases hF
  refine T.ret rfl ?_
  exact T.ret2 rfl (ResIs.tmp rfl) (ResIs.tmp rfl) fun w' hh => ⟨_, rfl, hh.below, (vT2.mk ⟨_, _, rfl, (SlOk.nil _ _)⟩ (show _ from rfl))⟩
 rw [hc2, cond_false] at hF
 refine T.skip_code ?_
 refine T.seq (T.region (T.pk sN (fun _ => by kernel_rfl) (T.nil (T.seq (T.seq (T.region (T.p3 (.slice A1 p0.length c1) (vi (p0.length : Int)) (vi 0) (fun _ => by kernel_rfl) (T.nil ?_))))))))
 refine T.rownil 44 eElem ?_
 obtain ⟨z1, hz1, hF⟩ := ob hF
 refine T.mid (fun a w' => ∃ (A4 : Option Addr) (c4 : Nat) (V4 : View), View.le V2 V4 ∧ Fr 36 [(8, .slice A4 z1.length c4)] a ∧ Hp w V4 ((row 44 eElem A4 c4 z1) :: []) w') ?_ ?_
 ·
  refine T.block ?_
  refine T.iter (fun s1 a w' => ∃ (x1 : List DElem) (x2 : Int), s1 = (x1, x2) ∧ ∃ (A3 : Option Addr) (c3 : Nat) (V3 : View), View.le V2 V3 ∧ Fr 36 [(1, .slice A2 p1.length c2), (8, .slice A3 x1.length c3), (21, .slice A1 p0.length c1), (22, vi (p0.length : Int)), (23, vi x2)] a ∧ Hp w V3 ((row 44 eElem A3 c3 x1) :: []) w') hz1 ?_ ?_
  ·
   exact fun a w' hf hh => ⟨[], 0, rfl, none, 0, V2, vr, (Fr.sel hf rfl), (hh.sub (kp1 kp0))⟩
  rintro s1 y1 hY1 hr1 a w' ⟨x1, x2, rfl, A3, c3, V3, hV3, hf, hh⟩
  refine (?_ : T 36 w V3 ((row 44 eElem A3 c3 x1) :: []) [(1, .slice A2 p1.length c2), (8, .slice A3 x1.length c3), (21, .slice A1 p0.length c1), (22, vi (p0.length : Int)), (23, vi x2)] _) a w' hf hh
  clear hf hh
  try dsimp only at hY1
  refine T.seq (T.region (T.pk (.bool (decide (x2 < (p0.length : Int)))) (fun _ => by kernel_rfl) (T.nil (T.seq ?_))))
  refine T.cond (decide (x2 < (p0.length : Int))) (by kernel_rfl) (by kernel_rfl) (fun hc3 => ?_) (fun hc3 => ?_)
  ·
   rw [hc3, cond_true] at hY1
   refine T.skip_code ?_
   obtain ⟨z2, hX1, hY1⟩ := ob hY1
   refine T.cut (fun a w' => ∃ (A5 : Option Addr) (c5 : Nat) (V5 : View), View.le V3 V5 ∧ Fr 36 [(1, .slice A2 p1.length c2), (8, .slice A5 z2.length c5), (21, .slice A1 p0.length c1), (22, vi (p0.length : Int)), (23, vi x2)] a ∧ Hp w V5 ((row 44 eElem A5 c5 z2) :: []) w') ?_ ?_
   ·
    refine T.block (T.seq (T.region ?_))
    obtain ⟨e1, hb3, hX1⟩ := ob hX1
    obtain ⟨hi1, hi2, hi3⟩ := idx_some hb3
    have w6_ := vt (vt hV1 hV2) hV3
    refine T.look (.pointer (some ((sadr A1).add (x2.toNat * 6)))) (by kernel_rfl) (fun w' hh => exec_indexAddr (e := 44) (s := 6) rfl rfl rfl (by kernel_rfl) (by kernel_rfl) hi1 hi2 ((SlOk.mono hs1 w6_).some_ hi3 (by decide))) ?_
    let v4_ : List Value := [vi e1.key.pfs, vi e1.key.obj, vi e1.key.off, vi e1.made, vi e1.gone, .string e1.val]
    let a5_ : Value := .agg #[vi e1.key.pfs, vi e1.key.obj, vi e1.key.off, vi e1.made, vi e1.gone, .string e1.val]
    refine T.look a5_ (by kernel_rfl) (fun w' hh => exec_loadN (cs := v4_) rfl rfl (by kernel_rfl) (by kernel_rfl) (fun j u hj => (hh.cell_view (SlOk.cellF (E := eElem) (SlOk.mono hs1 w6_) hi3 j (fun _ _ _ h => h) hj)))) ?_
    refine T.step (W1.np 44 [vi 0, vi 0, vi 0, vi 0, vi 0, .string (ByteArray.mk #[])] (fun _ => by kernel_rfl) (fun b1 => ?_))
    refine T.step (W1.st 0 v4_ ((box b1 44 v4_) :: (row 44 eElem A3 c3 x1) :: []) v4_ (by rfl) rfl rfl rfl rfl rfl rfl (fun _ => by kernel_rfl) ?_)
    refine T.nil (T.seq (T.region (T.look a5_ (by kernel_rfl) (ldN 0 rfl rfl (fun _ => by kernel_rfl) (by rfl) rfl) ?_)))
    refine T.pk (.slice A2 p1.length c2) (fun _ => by kernel_rfl) ?_
    obtain ⟨r4, hb4, hX1⟩ := ob hX1
    refine T.step (W1.call (vSc eBool) r4 110 #[a5_, .slice A2 p1.length c2] (by kernel_rfl) (fun _ => by kernel_rfl) (fun w' hh => prune_stays_l F e1 p1 r4 hb4 w' A2 c2 (SlOk.mono (SlOk.mono hs2 w6_) hh.view)) ?_)
    intro u V6 hV6 hu
    obtain rfl := sureBool _ _ _ hu
    refine T.nil ?_
    refine T.cond r4 (by kernel_rfl) (by kernel_rfl) (fun hc4 => ?_) (fun hc4 => ?_)
    ·
     rw [hc4, cond_true] at hX1
     refine T.region (T.pk (.slice A3 x1.length c3) (fun _ => by kernel_rfl) (T.look a5_ (by kernel_rfl) (ldN 0 rfl rfl (fun _ => by kernel_rfl) (by rfl) rfl) ?_))
     refine T.step (W1.ns 44 v4_ (fun _ => by kernel_rfl) (fun b2 => ?_))
     obtain ⟨y2, hb5, hX1⟩ := ob hX1
     obtain ⟨hb5_r, hb5_m, rfl⟩ := grow_some hb5
     obtain ⟨ti, hti, hz1, hz2, hz3⟩ := info_parts (P := Tryz.prog) (e := 44) (z := .agg #[vi 0, vi 0, vi 0, vi 0, vi 0, .string (ByteArray.mk #[])]) (size := 6) (bytes := 56) (by kernel_rfl)
     refine T.step (W1.append (E := eElem) (l := x1) (m := [e1]) 2 _ _ 56 ti _ (by rfl) (by kernel_rfl) rfl (by kernel_rfl) hti hz1 hz2 hz3 rfl (by decide) rfl rfl (fun w' hh => (SlOk.srcF (slok_lit (E := eElem) (f := DElem.cells) [e1] (fun _ _ => rfl) (Nat.le_of_ble_eq_true (by rfl)) (fun j => hh.cellBox (i := 0) (by rfl) j)) (fun _ _ _ _ h => h))) hb5_r hb5_m (fun A6 c6 => ?_))
     refine T.pk (.slice A6 ((x1 ++ [e1]).length) c6) (fun _ => by kernel_rfl) (T.nil ?_)
     cases hX1
     exact fun a w' hf hh => ⟨A6, c6, V6, hV6, (Fr.sel hf rfl), (hh.sub (dr2 (kp1 kp0)))⟩
    rw [hc4, cond_false] at hX1
    refine T.skip_code ?_
    cases hX1
    exact fun a w' hf hh => ⟨A3, c3, V6, hV6, (Fr.sel hf rfl), (hh.sub (dr1 (kp1 kp0)))⟩
   rintro a w' ⟨A5, c5, V5, hV5, hf, hh⟩
   refine (?_ : T 36 w V5 ((row 44 eElem A5 c5 z2) :: []) [(1, .slice A2 p1.length c2), (8, .slice A5 z2.length c5), (21, .slice A1 p0.length c1), (22, vi (p0.length : Int)), (23, vi x2)] _) a w' hf hh
   clear hf hh
   refine T.region (T.p2 (vi (IntKind.i64.wrap (x2 + 1))) (vi (IntKind.i64.wrap (x2 + 1))) (fun _ => by kernel_rfl) (T.nil ?_))
   cases hY1
   exact fun a w' hf hh => ⟨(z2, IntKind.i64.wrap (x2 + 1)), rfl, z2, (IntKind.i64.wrap (x2 + 1)), rfl, A5, c5, V5, (vt hV3 hV5), (Fr.sel hf rfl), (hh.sub (kp1 kp0))⟩
  rw [hc3, cond_false] at hY1
  refine T.exit ?_
  cases hY1
  cases (hr1 _ rfl)
  exact fun a w' hf hh => ⟨A3, c3, V3, hV3, (Fr.sel hf rfl), (hh.sub (kp1 kp0))⟩
 rintro a w' ⟨A4, c4, V4, hV4, hf, hh⟩
 refine (?_ : T 36 w V4 ((row 44 eElem A4 c4 z1) :: []) [(8, .slice A4 z1.length c4)] _) a w' hf hh
 clear hf hh
 refine T.seq (T.region (T.p3 (.slice A4 z1.length c4) (.slice A4 z1.length c4) (vi 0) (fun _ => by kernel_rfl) (T.nil ?_)))
 cases hF
 refine T.ret rfl ?_
 exact T.ret2 rfl (ResIs.tmp rfl) (ResIs.tmp rfl) fun w' hh => ⟨_, rfl, hh.below, (vT2.mk ⟨_, _, rfl, (hh.row_fresh (i := 0) (by rfl) (fun _ h => h))⟩ (show _ from rfl))⟩
end Go.Proofs.YtacjdfhllomccaaGreatDoor
