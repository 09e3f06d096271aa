/- The Go functions of group Key compute the pure functions of that group: written by walkgen.py. Condition of each: the pure function yields a result. -/
import Derived.Test.YtacjdfhllomccaaGreatDoorSh2J
import Derived.Test.YtacjdfhllomccaaGreatDoorKeyFJ
import Derived.Test.YtacjdfhllomccaaGreatDoorEqLJ
namespace Go.Proofs.YtacjdfhllomccaaGreatDoor
set_option linter.unusedVariables false
set_option maxRecDepth 100000 in
set_option maxHeartbeats 4000000 in
theorem key_order_l (p0 : Int) (p1 : Int) (r : Int) (hF : key_order p0 p1 = some r) (w : World)  :
 Calls Tryz.prog 122 #[.int .i64 p0, .int .i64 p1] w (Post (vSc eInt) r w) := by
 unfold key_order at hF
 refine T.start (l := [vi p0, vi p1]) Tryz.func122 rfl rfl rfl ?_
 refine T.seq (T.region (T.pk (vi 0) (fun _ => by kernel_rfl) (T.nil (T.seq (T.block (T.seq (T.region (T.p4 (vi p0) (vi p1) (.bool (decide (p0 < p1))) (.bool (decide (p0 < p1))) (fun _ => by kernel_rfl) (T.nil ?_)))))))))
 refine T.cond (decide (p0 < p1)) (by kernel_rfl) (by kernel_rfl) (fun hc1 => ?_) (fun hc1 => ?_)
 ·
  rw [hc1, cond_true] at hF
  refine T.seq (T.region (T.pk (vi (-1)) (fun _ => by kernel_rfl) (T.nil ?_)))
  cases hF
  refine T.ret rfl ?_
  exact T.ret1 rfl (ResIs.tmp rfl) fun w' hh => ⟨_, rfl, hh.below, (show _ from rfl)⟩
 rw [hc1, cond_false] at hF
 refine T.seq (T.region (T.p4 (vi p0) (vi p1) (.bool (decide (p1 < p0))) (.bool (decide (p1 < p0))) (fun _ => by kernel_rfl) (T.nil ?_)))
 refine T.cond (decide (p1 < p0)) (by kernel_rfl) (by kernel_rfl) (fun hc2 => ?_) (fun hc2 => ?_)
 ·
  rw [hc2, cond_true] at hF
  refine T.seq (T.region (T.pk (vi 1) (fun _ => by kernel_rfl) (T.nil ?_)))
  cases hF
  refine T.ret rfl ?_
  exact T.ret1 rfl (ResIs.tmp rfl) fun w' hh => ⟨_, rfl, hh.below, (show _ from rfl)⟩
 rw [hc2, cond_false] at hF
 refine T.skip_code ?_
 refine T.seq (T.region (T.pk (vi 0) (fun _ => by kernel_rfl) (T.nil ?_)))
 cases hF
 refine T.ret rfl ?_
 exact T.ret1 rfl (ResIs.tmp rfl) fun w' hh => ⟨_, rfl, hh.below, (show _ from rfl)⟩
set_option maxRecDepth 100000 in
set_option maxHeartbeats 4000000 in
theorem key_Check_l (p0 : DKey) (r : Int) (hF : key_Check p0 = some r) (w : World)  :
 Calls Tryz.prog 106 #[.agg #[.int .i64 p0.pfs, .int .i64 p0.obj, .int .i64 p0.off]] w (Post (vSc eInt) r w) := by
 unfold key_Check at hF
 refine T.start (l := [.agg #[vi p0.pfs, vi p0.obj, vi p0.off]]) Tryz.func106 rfl rfl rfl ?_
 refine T.seq (T.region (T.step (W1.np 42 [vi p0.pfs, vi p0.obj, vi p0.off] (fun _ => by kernel_rfl) (fun b1 => ?_))))
 refine T.pk (vi 0) (fun _ => by kernel_rfl) (T.nil (T.seq ?_))
 refine T.cut (fun a w' => Fr 31 [(30, .bool ((decide (p0.pfs < 0)) || ((decide ((15 : Int) < p0.pfs)) || ((decide (p0.obj < 0)) || ((decide ((1048576 : Int) < p0.obj)) || ((decide (p0.off < 0)) || (decide ((1073741824 : Int) < p0.off))))))))] a ∧ Hp w (vw w) [] w') ?_ ?_
 ·
  refine T.region (T.pk (pB b1 0) (fun _ => by kernel_rfl) (T.look (vi p0.pfs) (by kernel_rfl) (ld1 0 rfl rfl (fun _ => by kernel_rfl) (by rfl) rfl) ?_))
  refine T.p2 (.bool (decide (p0.pfs < 0))) (.bool (decide (p0.pfs < 0))) (fun _ => by kernel_rfl) ?_
  cases hg1 : decide (p0.pfs < 0)
  ·
   skip
   refine T.pk (pB b1 0) (fun _ => by kernel_rfl) (T.look (vi p0.pfs) (by kernel_rfl) (ld1 0 rfl rfl (fun _ => by kernel_rfl) (by rfl) rfl) ?_)
   refine T.p3 (.bool (decide ((15 : Int) < p0.pfs))) (.bool (decide ((15 : Int) < p0.pfs))) (.bool (decide ((15 : Int) < p0.pfs))) (fun _ => by kernel_rfl) ?_
   cases hg2 : decide ((15 : Int) < p0.pfs)
   ·
    skip
    refine T.pk (pB b1 1) (fun _ => by kernel_rfl) (T.look (vi p0.obj) (by kernel_rfl) (ld1 0 rfl rfl (fun _ => by kernel_rfl) (by rfl) rfl) ?_)
    refine T.p3 (.bool (decide (p0.obj < 0))) (.bool (decide (p0.obj < 0))) (.bool (decide (p0.obj < 0))) (fun _ => by kernel_rfl) ?_
    cases hg3 : decide (p0.obj < 0)
    ·
     skip
     refine T.pk (pB b1 1) (fun _ => by kernel_rfl) (T.look (vi p0.obj) (by kernel_rfl) (ld1 0 rfl rfl (fun _ => by kernel_rfl) (by rfl) rfl) ?_)
     refine T.p3 (.bool (decide ((1048576 : Int) < p0.obj))) (.bool (decide ((1048576 : Int) < p0.obj))) (.bool (decide ((1048576 : Int) < p0.obj))) (fun _ => by kernel_rfl) ?_
     cases hg4 : decide ((1048576 : Int) < p0.obj)
     ·
      skip
      refine T.pk (pB b1 2) (fun _ => by kernel_rfl) (T.look (vi p0.off) (by kernel_rfl) (ld1 0 rfl rfl (fun _ => by kernel_rfl) (by rfl) rfl) ?_)
      refine T.p3 (.bool (decide (p0.off < 0))) (.bool (decide (p0.off < 0))) (.bool (decide (p0.off < 0))) (fun _ => by kernel_rfl) ?_
      cases hg5 : decide (p0.off < 0)
      ·
       skip
       refine T.pk (pB b1 2) (fun _ => by kernel_rfl) (T.look (vi p0.off) (by kernel_rfl) (ld1 0 rfl rfl (fun _ => by kernel_rfl) (by rfl) rfl) ?_)
       refine T.p2 (.bool (decide ((1073741824 : Int) < p0.off))) (.bool (decide ((1073741824 : Int) < p0.off))) (fun _ => by kernel_rfl) (T.nil ?_)
       exact fun a w' hf hh => ⟨(Fr.sel hf rfl), (hh.sub (dr1 kp0))⟩
      skip
      refine T.pass (by kernel_rfl) (by kernel_rfl) (T.pass (by kernel_rfl) (by kernel_rfl) (T.pass (by kernel_rfl) (by kernel_rfl) (T.pk (.bool true) (fun _ => by kernel_rfl) (T.nil ?_))))
      exact fun a w' hf hh => ⟨(Fr.sel hf rfl), (hh.sub (dr1 kp0))⟩
     skip
     refine T.pass (by kernel_rfl) (by kernel_rfl) (T.pass (by kernel_rfl) (by kernel_rfl) (T.pass (by kernel_rfl) (by kernel_rfl) (T.p2 (.bool true) (.bool true) (fun _ => by kernel_rfl) (T.pass (by kernel_rfl) (by kernel_rfl) (T.pass (by kernel_rfl) (by kernel_rfl) (T.pass (by kernel_rfl) (by kernel_rfl) (T.pk (.bool true) (fun _ => by kernel_rfl) (T.nil ?_))))))))
     exact fun a w' hf hh => ⟨(Fr.sel hf rfl), (hh.sub (dr1 kp0))⟩
    skip
    refine T.pass (by kernel_rfl) (by kernel_rfl) (T.pass (by kernel_rfl) (by kernel_rfl) (T.pass (by kernel_rfl) (by kernel_rfl) (T.p2 (.bool true) (.bool true) (fun _ => by kernel_rfl) (T.pass (by kernel_rfl) (by kernel_rfl) (T.pass (by kernel_rfl) (by kernel_rfl) (T.pass (by kernel_rfl) (by kernel_rfl) (T.p2 (.bool true) (.bool true) (fun _ => by kernel_rfl) (T.pass (by kernel_rfl) (by kernel_rfl) (T.pass (by kernel_rfl) (by kernel_rfl) (T.pass (by kernel_rfl) (by kernel_rfl) (T.pk (.bool true) (fun _ => by kernel_rfl) (T.nil ?_))))))))))))
    exact fun a w' hf hh => ⟨(Fr.sel hf rfl), (hh.sub (dr1 kp0))⟩
   skip
   refine T.pass (by kernel_rfl) (by kernel_rfl) (T.pass (by kernel_rfl) (by kernel_rfl) (T.pass (by kernel_rfl) (by kernel_rfl) (T.p2 (.bool true) (.bool true) (fun _ => by kernel_rfl) (T.pass (by kernel_rfl) (by kernel_rfl) (T.pass (by kernel_rfl) (by kernel_rfl) (T.pass (by kernel_rfl) (by kernel_rfl) (T.p2 (.bool true) (.bool true) (fun _ => by kernel_rfl) (T.pass (by kernel_rfl) (by kernel_rfl) (T.pass (by kernel_rfl) (by kernel_rfl) (T.pass (by kernel_rfl) (by kernel_rfl) (T.p2 (.bool true) (.bool true) (fun _ => by kernel_rfl) (T.pass (by kernel_rfl) (by kernel_rfl) (T.pass (by kernel_rfl) (by kernel_rfl) (T.pass (by kernel_rfl) (by kernel_rfl) (T.pk (.bool true) (fun _ => by kernel_rfl) (T.nil ?_))))))))))))))))
   exact fun a w' hf hh => ⟨(Fr.sel hf rfl), (hh.sub (dr1 kp0))⟩
  skip
  refine T.pass (by kernel_rfl) (by kernel_rfl) (T.pass (by kernel_rfl) (by kernel_rfl) (T.pass (by kernel_rfl) (by kernel_rfl) (T.p2 (.bool true) (.bool true) (fun _ => by kernel_rfl) (T.pass (by kernel_rfl) (by kernel_rfl) (T.pass (by kernel_rfl) (by kernel_rfl) (T.pass (by kernel_rfl) (by kernel_rfl) (T.p2 (.bool true) (.bool true) (fun _ => by kernel_rfl) (T.pass (by kernel_rfl) (by kernel_rfl) (T.pass (by kernel_rfl) (by kernel_rfl) (T.pass (by kernel_rfl) (by kernel_rfl) (T.p2 (.bool true) (.bool true) (fun _ => by kernel_rfl) (T.pass (by kernel_rfl) (by kernel_rfl) (T.pass (by kernel_rfl) (by kernel_rfl) (T.pass (by kernel_rfl) (by kernel_rfl) (T.p2 (.bool true) (.bool true) (fun _ => by kernel_rfl) (T.pass (by kernel_rfl) (by kernel_rfl) (T.pass (by kernel_rfl) (by kernel_rfl) (T.pass (by kernel_rfl) (by kernel_rfl) (T.pk (.bool true) (fun _ => by kernel_rfl) (T.nil ?_))))))))))))))))))))
  exact fun a w' hf hh => ⟨(Fr.sel hf rfl), (hh.sub (dr1 kp0))⟩
 rintro a w' ⟨hf, hh⟩
 refine (?_ : T 31 w (vw w) [] [(30, .bool ((decide (p0.pfs < 0)) || ((decide ((15 : Int) < p0.pfs)) || ((decide (p0.obj < 0)) || ((decide ((1048576 : Int) < p0.obj)) || ((decide (p0.off < 0)) || (decide ((1073741824 : Int) < p0.off))))))))] _) a w' hf hh
 clear hf hh
 refine T.cond ((decide (p0.pfs < 0)) || ((decide ((15 : Int) < p0.pfs)) || ((decide (p0.obj < 0)) || ((decide ((1048576 : Int) < p0.obj)) || ((decide (p0.off < 0)) || (decide ((1073741824 : Int) < p0.off))))))) (by kernel_rfl) (by kernel_rfl) (fun hc1 => ?_) (fun hc1 => ?_)
 ·
  rw [hc1, cond_true] at hF
  refine T.seq (T.region (T.pk (vi 1) (fun _ => by kernel_rfl) (T.nil ?_)))
  cases hF
  refine T.ret rfl ?_
  exact T.ret1 rfl (ResIs.tmp rfl) fun w' hh => ⟨_, rfl, hh.below, (show _ from rfl)⟩
 rw [hc1, cond_false] at hF
 refine T.skip_code ?_
 refine T.seq (T.region (T.pk (vi 0) (fun _ => by kernel_rfl) (T.nil ?_)))
 cases hF
 refine T.ret rfl ?_
 exact T.ret1 rfl (ResIs.tmp rfl) fun w' hh => ⟨_, rfl, hh.below, (show _ from rfl)⟩
set_option maxRecDepth 100000 in
set_option maxHeartbeats 4000000 in
theorem key_Cmp_l (p0 : DKey) (p1 : DKey) (r : Int) (hF : key_Cmp p0 p1 = some r) (w : World)  :
 Calls Tryz.prog 121 #[.agg #[.int .i64 p0.pfs, .int .i64 p0.obj, .int .i64 p0.off], .agg #[.int .i64 p1.pfs, .int .i64 p1.obj, .int .i64 p1.off]] w (Post (vSc eInt) r w) := by
 unfold key_Cmp at hF
 refine T.start (l := [.agg #[vi p0.pfs, vi p0.obj, vi p0.off], .agg #[vi p1.pfs, vi p1.obj, vi p1.off]]) Tryz.func121 rfl rfl rfl ?_
 refine T.seq (T.region (T.step (W1.np 42 [vi p0.pfs, vi p0.obj, vi p0.off] (fun _ => by kernel_rfl) (fun b1 => ?_))))
 refine T.step (W1.np 42 [vi p1.pfs, vi p1.obj, vi p1.off] (fun _ => by kernel_rfl) (fun b2 => ?_))
 refine T.pk (vi 0) (fun _ => by kernel_rfl) (T.nil (T.seq (T.seq (T.region (T.pk (pB b1 0) (fun _ => by kernel_rfl) (T.look (vi p0.pfs) (by kernel_rfl) (ld1 1 rfl rfl (fun _ => by kernel_rfl) (by rfl) rfl) ?_))))))
 refine T.pk (pB b2 0) (fun _ => by kernel_rfl) (T.look (vi p1.pfs) (by kernel_rfl) (ld1 0 rfl rfl (fun _ => by kernel_rfl) (by rfl) rfl) ?_)
 refine T.p2 (.agg #[vi p0.pfs, vi p1.pfs]) (pB b1 1) (fun _ => by kernel_rfl) (T.look (vi p0.obj) (by kernel_rfl) (ld1 1 rfl rfl (fun _ => by kernel_rfl) (by rfl) rfl) ?_)
 refine T.pk (pB b2 1) (fun _ => by kernel_rfl) (T.look (vi p1.obj) (by kernel_rfl) (ld1 0 rfl rfl (fun _ => by kernel_rfl) (by rfl) rfl) ?_)
 refine T.p2 (.agg #[vi p0.obj, vi p1.obj]) (pB b1 2) (fun _ => by kernel_rfl) (T.look (vi p0.off) (by kernel_rfl) (ld1 1 rfl rfl (fun _ => by kernel_rfl) (by rfl) rfl) ?_)
 refine T.pk (pB b2 2) (fun _ => by kernel_rfl) (T.look (vi p1.off) (by kernel_rfl) (ld1 0 rfl rfl (fun _ => by kernel_rfl) (by rfl) rfl) ?_)
 refine T.p3 (.agg #[vi p0.off, vi p1.off]) (.agg #[vi p0.pfs, vi p1.pfs, vi p0.obj, vi p1.obj, vi p0.off, vi p1.off]) (vi 0) (fun _ => by kernel_rfl) (T.nil (T.block ?_))
 refine T.rounds 4 ?_
 refine T.round ?_
 refine T.seq (T.region (T.pk (.bool true) (fun _ => by kernel_rfl) (T.nil (T.seq ?_))))
 refine T.cond true (by kernel_rfl) (by kernel_rfl) (fun _ => ?_) (fun h => Bool.noConfusion h)
 refine T.skip_code ?_
 refine T.seq (T.block (T.seq (T.region (T.pk (.agg #[vi p0.pfs, vi p1.pfs]) (fun _ => by kernel_rfl) (T.step (W1.np 175 [vi 0, vi 0] (fun _ => by kernel_rfl) (fun b3 => ?_)))))))
 let v7_ : List Value := [vi p0.pfs, vi p1.pfs]
 let i1_ : HObj := box b3 175 v7_
 let i2_ : HObj := box b2 42 [vi p1.pfs, vi p1.obj, vi p1.off]
 let i3_ : HObj := box b1 42 [vi p0.pfs, vi p0.obj, vi p0.off]
 let t4_ : List HObj := i2_ :: i3_ :: []
 let t5_ : List HObj := i1_ :: t4_
 refine T.step (W1.st 0 v7_ t5_ v7_ (by rfl) rfl rfl rfl rfl rfl rfl (fun _ => by kernel_rfl) ?_)
 refine T.nil (T.seq (T.region (T.pk (pB b3 0) (fun _ => by kernel_rfl) (T.look (vi p0.pfs) (by kernel_rfl) (ld1 0 rfl rfl (fun _ => by kernel_rfl) (by rfl) rfl) ?_))))
 refine T.pk (pB b3 1) (fun _ => by kernel_rfl) (T.look (vi p1.pfs) (by kernel_rfl) (ld1 0 rfl rfl (fun _ => by kernel_rfl) (by rfl) rfl) ?_)
 obtain ⟨r1, hb1, hF⟩ := ob hF
 refine T.step (W1.call (vSc eInt) r1 122 #[vi p0.pfs, vi p1.pfs] (by kernel_rfl) (fun _ => by kernel_rfl) (fun w' hh => key_order_l p0.pfs p1.pfs r1 hb1 w' ) ?_)
 intro u V1 hV1 hu
 obtain rfl := sureInt _ _ _ hu
 refine T.pk (vi r1) (fun _ => by kernel_rfl) (T.nil (T.seq (T.region (T.p2 (vi r1) (.bool (r1 != 0)) (fun _ => by kernel_rfl) (T.nil ?_)))))
 refine T.cond (r1 != 0) (by kernel_rfl) (by kernel_rfl) (fun hc1 => ?_) (fun hc1 => ?_)
 ·
  rw [hc1, cond_true] at hF
  refine T.seq (T.region (T.p2 (vi r1) (vi r1) (fun _ => by kernel_rfl) (T.nil ?_)))
  cases hF
  refine T.ret rfl ?_
  exact T.ret1 rfl (ResIs.tmp rfl) fun w' hh => ⟨_, rfl, hh.below, (show _ from rfl)⟩
 rw [hc1, cond_false] at hF
 refine T.skip_code ?_
 refine T.region (T.p2 (vi 1) (vi 1) (fun _ => by kernel_rfl) (T.nil ?_))
 refine T.round ?_
 refine T.seq (T.region (T.pk (.bool true) (fun _ => by kernel_rfl) (T.nil (T.seq ?_))))
 refine T.cond true (by kernel_rfl) (by kernel_rfl) (fun _ => ?_) (fun h => Bool.noConfusion h)
 refine T.skip_code ?_
 refine T.seq (T.block (T.seq (T.region (T.pk (.agg #[vi p0.obj, vi p1.obj]) (fun _ => by kernel_rfl) (T.step (W1.np 175 [vi 0, vi 0] (fun _ => by kernel_rfl) (fun b4 => ?_)))))))
 let v8_ : List Value := [vi p0.obj, vi p1.obj]
 let i6_ : HObj := box b4 175 v8_
 refine T.step (W1.st 0 v8_ (i6_ :: t5_) v8_ (by rfl) rfl rfl rfl rfl rfl rfl (fun _ => by kernel_rfl) ?_)
 refine T.nil (T.seq (T.region (T.pk (pB b4 0) (fun _ => by kernel_rfl) (T.look (vi p0.obj) (by kernel_rfl) (ld1 0 rfl rfl (fun _ => by kernel_rfl) (by rfl) rfl) ?_))))
 refine T.pk (pB b4 1) (fun _ => by kernel_rfl) (T.look (vi p1.obj) (by kernel_rfl) (ld1 0 rfl rfl (fun _ => by kernel_rfl) (by rfl) rfl) ?_)
 obtain ⟨r2, hb2, hF⟩ := ob hF
 refine T.step (W1.call (vSc eInt) r2 122 #[vi p0.obj, vi p1.obj] (by kernel_rfl) (fun _ => by kernel_rfl) (fun w' hh => key_order_l p0.obj p1.obj r2 hb2 w' ) ?_)
 intro u V2 hV2 hu
 obtain rfl := sureInt _ _ _ hu
 refine T.pk (vi r2) (fun _ => by kernel_rfl) (T.nil (T.seq (T.region (T.p2 (vi r2) (.bool (r2 != 0)) (fun _ => by kernel_rfl) (T.nil ?_)))))
 refine T.cond (r2 != 0) (by kernel_rfl) (by kernel_rfl) (fun hc2 => ?_) (fun hc2 => ?_)
 ·
  rw [hc2, cond_true] at hF
  refine T.seq (T.region (T.p2 (vi r2) (vi r2) (fun _ => by kernel_rfl) (T.nil ?_)))
  cases hF
  refine T.ret rfl ?_
  exact T.ret1 rfl (ResIs.tmp rfl) fun w' hh => ⟨_, rfl, hh.below, (show _ from rfl)⟩
 rw [hc2, cond_false] at hF
 refine T.skip_code ?_
 refine T.region (T.p2 (vi 2) (vi 2) (fun _ => by kernel_rfl) (T.nil ?_))
 refine T.round ?_
 refine T.seq (T.region (T.pk (.bool true) (fun _ => by kernel_rfl) (T.nil (T.seq ?_))))
 refine T.cond true (by kernel_rfl) (by kernel_rfl) (fun _ => ?_) (fun h => Bool.noConfusion h)
 refine T.skip_code ?_
 refine T.seq (T.block (T.seq (T.region (T.pk (.agg #[vi p0.off, vi p1.off]) (fun _ => by kernel_rfl) (T.step (W1.np 175 [vi 0, vi 0] (fun _ => by kernel_rfl) (fun b5 => ?_)))))))
 let v9_ : List Value := [vi p0.off, vi p1.off]
 refine T.step (W1.st 0 v9_ ((box b5 175 v9_) :: i6_ :: t5_) v9_ (by rfl) rfl rfl rfl rfl rfl rfl (fun _ => by kernel_rfl) ?_)
 refine T.nil (T.seq (T.region (T.pk (pB b5 0) (fun _ => by kernel_rfl) (T.look (vi p0.off) (by kernel_rfl) (ld1 0 rfl rfl (fun _ => by kernel_rfl) (by rfl) rfl) ?_))))
 refine T.pk (pB b5 1) (fun _ => by kernel_rfl) (T.look (vi p1.off) (by kernel_rfl) (ld1 0 rfl rfl (fun _ => by kernel_rfl) (by rfl) rfl) ?_)
 obtain ⟨r3, hb3, hF⟩ := ob hF
 refine T.step (W1.call (vSc eInt) r3 122 #[vi p0.off, vi p1.off] (by kernel_rfl) (fun _ => by kernel_rfl) (fun w' hh => key_order_l p0.off p1.off r3 hb3 w' ) ?_)
 intro u V3 hV3 hu
 obtain rfl := sureInt _ _ _ hu
 refine T.pk (vi r3) (fun _ => by kernel_rfl) (T.nil (T.seq (T.region (T.p2 (vi r3) (.bool (r3 != 0)) (fun _ => by kernel_rfl) (T.nil ?_)))))
 refine T.cond (r3 != 0) (by kernel_rfl) (by kernel_rfl) (fun hc3 => ?_) (fun hc3 => ?_)
 ·
  rw [hc3, cond_true] at hF
  refine T.seq (T.region (T.p2 (vi r3) (vi r3) (fun _ => by kernel_rfl) (T.nil ?_)))
  cases hF
  refine T.ret rfl ?_
  exact T.ret1 rfl (ResIs.tmp rfl) fun w' hh => ⟨_, rfl, hh.below, (show _ from rfl)⟩
 rw [hc3, cond_false] at hF
 refine T.skip_code ?_
 refine T.region (T.p2 (vi 3) (vi 3) (fun _ => by kernel_rfl) (T.nil ?_))
 refine T.round ?_
 refine T.seq (T.region (T.pk (.bool false) (fun _ => by kernel_rfl) (T.nil (T.seq ?_))))
 refine T.cond false (by kernel_rfl) (by kernel_rfl) (fun h => Bool.noConfusion h) (fun _ => ?_)
 refine T.exit ?_
 refine T.seq (T.region (T.pk (vi 0) (fun _ => by kernel_rfl) (T.nil ?_)))
 cases hF
 refine T.ret rfl ?_
 exact T.ret1 rfl (ResIs.tmp rfl) fun w' hh => ⟨_, rfl, hh.below, (show _ from rfl)⟩
set_option maxRecDepth 100000 in
set_option maxHeartbeats 4000000 in
theorem key_CmpSpot_l (p0 : DSpot) (p1 : DSpot) (r : Int) (hF : key_CmpSpot p0 p1 = some r) (w : World)  :
 Calls Tryz.prog 100 #[.agg #[.int .i64 p0.key.pfs, .int .i64 p0.key.obj, .int .i64 p0.key.off, .int .i64 p0.made], .agg #[.int .i64 p1.key.pfs, .int .i64 p1.key.obj, .int .i64 p1.key.off, .int .i64 p1.made]] w (Post (vSc eInt) r w) := by
 unfold key_CmpSpot at hF
 refine T.start (l := [.agg #[vi p0.key.pfs, vi p0.key.obj, vi p0.key.off, vi p0.made], .agg #[vi p1.key.pfs, vi p1.key.obj, vi p1.key.off, vi p1.made]]) Tryz.func100 rfl rfl rfl ?_
 refine T.seq (T.region ?_)
 let v10_ : List Value := [vi p0.key.pfs, vi p0.key.obj, vi p0.key.off, vi p0.made]
 refine T.step (W1.np 133 v10_ (fun _ => by kernel_rfl) (fun b1 => ?_))
 let v11_ : List Value := [vi p1.key.pfs, vi p1.key.obj, vi p1.key.off, vi p1.made]
 refine T.step (W1.np 133 v11_ (fun _ => by kernel_rfl) (fun b2 => ?_))
 refine T.pk (vi 0) (fun _ => by kernel_rfl) (T.nil (T.seq (T.seq (T.region (T.pk (pB b1 0) (fun _ => by kernel_rfl) ?_)))))
 let a12_ : Value := .agg #[vi p0.key.pfs, vi p0.key.obj, vi p0.key.off]
 refine T.look a12_ (by kernel_rfl) (ldN 1 rfl rfl (fun _ => by kernel_rfl) (by rfl) rfl) ?_
 refine T.pk (pB b2 0) (fun _ => by kernel_rfl) ?_
 let a13_ : Value := .agg #[vi p1.key.pfs, vi p1.key.obj, vi p1.key.off]
 refine T.look a13_ (by kernel_rfl) (ldN 0 rfl rfl (fun _ => by kernel_rfl) (by rfl) rfl) ?_
 obtain ⟨r1, hb1, hF⟩ := ob hF
 refine T.step (W1.call (vSc eInt) r1 121 #[a12_, a13_] (by kernel_rfl) (fun _ => by kernel_rfl) (fun w' hh => key_Cmp_l p0.key p1.key r1 hb1 w' ) ?_)
 intro u V1 hV1 hu
 obtain rfl := sureInt _ _ _ hu
 refine T.pk (vi r1) (fun _ => by kernel_rfl) (T.nil (T.seq (T.region (T.p2 (vi r1) (.bool (r1 != 0)) (fun _ => by kernel_rfl) (T.nil ?_)))))
 refine T.cond (r1 != 0) (by kernel_rfl) (by kernel_rfl) (fun hc1 => ?_) (fun hc1 => ?_)
 ·
  rw [hc1, cond_true] at hF
  refine T.seq (T.region (T.p2 (vi r1) (vi r1) (fun _ => by kernel_rfl) (T.nil ?_)))
  cases hF
  refine T.ret rfl ?_
  exact T.ret1 rfl (ResIs.tmp rfl) fun w' hh => ⟨_, rfl, hh.below, (show _ from rfl)⟩
 rw [hc1, cond_false] at hF
 refine T.skip_code ?_
 refine T.seq (T.region (T.pk (pB b1 3) (fun _ => by kernel_rfl) (T.look (vi p0.made) (by kernel_rfl) (ld1 1 rfl rfl (fun _ => by kernel_rfl) (by rfl) rfl) ?_)))
 refine T.pk (pB b2 3) (fun _ => by kernel_rfl) (T.look (vi p1.made) (by kernel_rfl) (ld1 0 rfl rfl (fun _ => by kernel_rfl) (by rfl) rfl) ?_)
 obtain ⟨r2, hb2, hF⟩ := ob hF
 refine T.step (W1.call (vSc eInt) r2 122 #[vi p0.made, vi p1.made] (by kernel_rfl) (fun _ => by kernel_rfl) (fun w' hh => key_order_l p0.made p1.made r2 hb2 w' ) ?_)
 intro u V2 hV2 hu
 obtain rfl := sureInt _ _ _ hu
 refine T.pk (vi r2) (fun _ => by kernel_rfl) (T.nil ?_)
 cases hF
 refine T.ret rfl ?_
 exact T.ret1 rfl (ResIs.tmp rfl) fun w' hh => ⟨_, rfl, hh.below, (show _ from rfl)⟩
set_option maxRecDepth 100000 in
set_option maxHeartbeats 4000000 in
theorem elem_Check_l (p0 : DElem) (r : Int) (hF : elem_Check p0 = some r) (w : World)  :
 Calls Tryz.prog 99 #[.agg #[.int .i64 p0.key.pfs, .int .i64 p0.key.obj, .int .i64 p0.key.off, .int .i64 p0.made, .int .i64 p0.gone, .string p0.val]] w (Post (vSc eInt) r w) := by
 unfold elem_Check at hF
 refine T.start (l := [.agg #[vi p0.key.pfs, vi p0.key.obj, vi p0.key.off, vi p0.made, vi p0.gone, .string p0.val]]) Tryz.func99 rfl rfl rfl ?_
 refine T.seq (T.region ?_)
 let v15_ : List Value := [vi p0.key.pfs, vi p0.key.obj, vi p0.key.off, vi p0.made, vi p0.gone, .string p0.val]
 refine T.step (W1.np 44 v15_ (fun _ => by kernel_rfl) (fun b1 => ?_))
 refine T.pk (vi 0) (fun _ => by kernel_rfl) (T.nil (T.seq (T.seq (T.region (T.pk (pB b1 0) (fun _ => by kernel_rfl) ?_)))))
 let a16_ : Value := .agg #[vi p0.key.pfs, vi p0.key.obj, vi p0.key.off]
 refine T.look a16_ (by kernel_rfl) (ldN 0 rfl rfl (fun _ => by kernel_rfl) (by rfl) rfl) ?_
 obtain ⟨r1, hb1, hF⟩ := ob hF
 refine T.step (W1.call (vSc eInt) r1 106 #[a16_] (by kernel_rfl) (fun _ => by kernel_rfl) (fun w' hh => key_Check_l p0.key r1 hb1 w' ) ?_)
 intro u V1 hV1 hu
 obtain rfl := sureInt _ _ _ hu
 refine T.pk (vi r1) (fun _ => by kernel_rfl) (T.nil (T.seq (T.region (T.p2 (vi r1) (.bool (r1 != 0)) (fun _ => by kernel_rfl) (T.nil ?_)))))
 refine T.cond (r1 != 0) (by kernel_rfl) (by kernel_rfl) (fun hc1 => ?_) (fun hc1 => ?_)
 ·
  rw [hc1, cond_true] at hF
  refine T.seq (T.region (T.p2 (vi r1) (vi r1) (fun _ => by kernel_rfl) (T.nil ?_)))
  cases hF
  refine T.ret rfl ?_
  exact T.ret1 rfl (ResIs.tmp rfl) fun w' hh => ⟨_, rfl, hh.below, (show _ from rfl)⟩
 rw [hc1, cond_false] at hF
 refine T.skip_code ?_
 refine T.seq ?_
 let i14_ : HObj := box b1 44 v15_
 refine T.cut (fun a w' => Fr 39 [(1, pB b1 0), (34, .bool ((decide (p0.made < 1)) || ((decide ((2147483647 : Int) < p0.made)) || ((p0.gone != 0) && ((decide (p0.gone ≤ p0.made)) || (decide ((2147483647 : Int) < p0.gone)))))))] a ∧ Hp w V1 (i14_ :: []) w') ?_ ?_
 ·
  refine T.region (T.pk (pB b1 3) (fun _ => by kernel_rfl) (T.look (vi p0.made) (by kernel_rfl) (ld1 0 rfl rfl (fun _ => by kernel_rfl) (by rfl) rfl) ?_))
  refine T.p2 (.bool (decide (p0.made < 1))) (.bool (decide (p0.made < 1))) (fun _ => by kernel_rfl) ?_
  cases hg1 : decide (p0.made < 1)
  ·
   skip
   refine T.pk (pB b1 3) (fun _ => by kernel_rfl) (T.look (vi p0.made) (by kernel_rfl) (ld1 0 rfl rfl (fun _ => by kernel_rfl) (by rfl) rfl) ?_)
   refine T.p3 (.bool (decide ((2147483647 : Int) < p0.made))) (.bool (decide ((2147483647 : Int) < p0.made))) (.bool (decide ((2147483647 : Int) < p0.made))) (fun _ => by kernel_rfl) ?_
   cases hg2 : decide ((2147483647 : Int) < p0.made)
   ·
    skip
    refine T.pk (pB b1 4) (fun _ => by kernel_rfl) (T.look (vi p0.gone) (by kernel_rfl) (ld1 0 rfl rfl (fun _ => by kernel_rfl) (by rfl) rfl) ?_)
    refine T.p2 (.bool (p0.gone != 0)) (.bool (p0.gone != 0)) (fun _ => by kernel_rfl) ?_
    cases hg3 : (p0.gone != 0)
    ·
     skip
     refine T.pass (by kernel_rfl) (by kernel_rfl) (T.pass (by kernel_rfl) (by kernel_rfl) (T.pass (by kernel_rfl) (by kernel_rfl) (T.pass (by kernel_rfl) (by kernel_rfl) (T.pass (by kernel_rfl) (by kernel_rfl) (T.pass (by kernel_rfl) (by kernel_rfl) (T.pass (by kernel_rfl) (by kernel_rfl) (T.pass (by kernel_rfl) (by kernel_rfl) (T.pass (by kernel_rfl) (by kernel_rfl) (T.pass (by kernel_rfl) (by kernel_rfl) (T.p2 (.bool false) (.bool false) (fun _ => by kernel_rfl) (T.nil ?_)))))))))))
     exact fun a w' hf hh => ⟨(Fr.sel hf rfl), (hh.sub (kp1 kp0))⟩
    skip
    refine T.pk (pB b1 4) (fun _ => by kernel_rfl) (T.look (vi p0.gone) (by kernel_rfl) (ld1 0 rfl rfl (fun _ => by kernel_rfl) (by rfl) rfl) ?_)
    refine T.pk (pB b1 3) (fun _ => by kernel_rfl) (T.look (vi p0.made) (by kernel_rfl) (ld1 0 rfl rfl (fun _ => by kernel_rfl) (by rfl) rfl) ?_)
    refine T.p2 (.bool (decide (p0.gone ≤ p0.made))) (.bool (decide (p0.gone ≤ p0.made))) (fun _ => by kernel_rfl) ?_
    cases hg4 : decide (p0.gone ≤ p0.made)
    ·
     skip
     refine T.pk (pB b1 4) (fun _ => by kernel_rfl) (T.look (vi p0.gone) (by kernel_rfl) (ld1 0 rfl rfl (fun _ => by kernel_rfl) (by rfl) rfl) ?_)
     refine T.p4 (.bool (decide ((2147483647 : Int) < p0.gone))) (.bool (decide ((2147483647 : Int) < p0.gone))) (.bool (decide ((2147483647 : Int) < p0.gone))) (.bool (decide ((2147483647 : Int) < p0.gone))) (fun _ => by kernel_rfl) (T.nil ?_)
     exact fun a w' hf hh => ⟨(Fr.sel hf rfl), (hh.sub (kp1 kp0))⟩
    skip
    refine T.pass (by kernel_rfl) (by kernel_rfl) (T.pass (by kernel_rfl) (by kernel_rfl) (T.pass (by kernel_rfl) (by kernel_rfl) (T.p3 (.bool true) (.bool true) (.bool true) (fun _ => by kernel_rfl) (T.nil ?_))))
    exact fun a w' hf hh => ⟨(Fr.sel hf rfl), (hh.sub (kp1 kp0))⟩
   skip
   refine T.pass (by kernel_rfl) (by kernel_rfl) (T.pass (by kernel_rfl) (by kernel_rfl) (T.pass (by kernel_rfl) (by kernel_rfl) (T.pass (by kernel_rfl) (by kernel_rfl) (T.pass (by kernel_rfl) (by kernel_rfl) (T.pass (by kernel_rfl) (by kernel_rfl) (T.pass (by kernel_rfl) (by kernel_rfl) (T.pass (by kernel_rfl) (by kernel_rfl) (T.pass (by kernel_rfl) (by kernel_rfl) (T.pass (by kernel_rfl) (by kernel_rfl) (T.pass (by kernel_rfl) (by kernel_rfl) (T.pass (by kernel_rfl) (by kernel_rfl) (T.pass (by kernel_rfl) (by kernel_rfl) (T.pass (by kernel_rfl) (by kernel_rfl) (T.pass (by kernel_rfl) (by kernel_rfl) (T.pk (.bool true) (fun _ => by kernel_rfl) (T.nil ?_))))))))))))))))
   exact fun a w' hf hh => ⟨(Fr.sel hf rfl), (hh.sub (kp1 kp0))⟩
  skip
  refine T.pass (by kernel_rfl) (by kernel_rfl) (T.pass (by kernel_rfl) (by kernel_rfl) (T.pass (by kernel_rfl) (by kernel_rfl) (T.p2 (.bool true) (.bool true) (fun _ => by kernel_rfl) (T.pass (by kernel_rfl) (by kernel_rfl) (T.pass (by kernel_rfl) (by kernel_rfl) (T.pass (by kernel_rfl) (by kernel_rfl) (T.pass (by kernel_rfl) (by kernel_rfl) (T.pass (by kernel_rfl) (by kernel_rfl) (T.pass (by kernel_rfl) (by kernel_rfl) (T.pass (by kernel_rfl) (by kernel_rfl) (T.pass (by kernel_rfl) (by kernel_rfl) (T.pass (by kernel_rfl) (by kernel_rfl) (T.pass (by kernel_rfl) (by kernel_rfl) (T.pass (by kernel_rfl) (by kernel_rfl) (T.pass (by kernel_rfl) (by kernel_rfl) (T.pass (by kernel_rfl) (by kernel_rfl) (T.pass (by kernel_rfl) (by kernel_rfl) (T.pass (by kernel_rfl) (by kernel_rfl) (T.pk (.bool true) (fun _ => by kernel_rfl) (T.nil ?_))))))))))))))))))))
  exact fun a w' hf hh => ⟨(Fr.sel hf rfl), (hh.sub (kp1 kp0))⟩
 rintro a w' ⟨hf, hh⟩
 refine (?_ : T 39 w V1 (i14_ :: []) [(1, pB b1 0), (34, .bool ((decide (p0.made < 1)) || ((decide ((2147483647 : Int) < p0.made)) || ((p0.gone != 0) && ((decide (p0.gone ≤ p0.made)) || (decide ((2147483647 : Int) < p0.gone)))))))] _) a w' hf hh
 clear hf hh
 refine T.cond ((decide (p0.made < 1)) || ((decide ((2147483647 : Int) < p0.made)) || ((p0.gone != 0) && ((decide (p0.gone ≤ p0.made)) || (decide ((2147483647 : Int) < p0.gone)))))) (by kernel_rfl) (by kernel_rfl) (fun hc2 => ?_) (fun hc2 => ?_)
 ·
  rw [hc2, cond_true] at hF
  refine T.seq (T.region (T.pk (vi 9) (fun _ => by kernel_rfl) (T.nil ?_)))
  cases hF
  refine T.ret rfl ?_
  exact T.ret1 rfl (ResIs.tmp rfl) fun w' hh => ⟨_, rfl, hh.below, (show _ from rfl)⟩
 rw [hc2, cond_false] at hF
 refine T.skip_code ?_
 refine T.seq (T.seq (T.region (T.pk (pB b1 5) (fun _ => by kernel_rfl) (T.look (.string p0.val) (by kernel_rfl) (ld1 0 rfl rfl (fun _ => by kernel_rfl) (by rfl) rfl) ?_))))
 refine T.p2 (vi (p0.val.size : Int)) (.bool (decide ((40 : Int) < (p0.val.size : Int)))) (fun _ => by kernel_rfl) (T.nil ?_)
 refine T.cond (decide ((40 : Int) < (p0.val.size : Int))) (by kernel_rfl) (by kernel_rfl) (fun hc3 => ?_) (fun hc3 => ?_)
 ·
  rw [hc3, cond_true] at hF
  refine T.seq (T.region (T.pk (vi 2) (fun _ => by kernel_rfl) (T.nil ?_)))
  cases hF
  refine T.ret rfl ?_
  exact T.ret1 rfl (ResIs.tmp rfl) fun w' hh => ⟨_, rfl, hh.below, (show _ from rfl)⟩
 rw [hc3, cond_false] at hF
 refine T.skip_code ?_
 refine T.seq (T.region (T.pk (vi 0) (fun _ => by kernel_rfl) (T.nil ?_)))
 cases hF
 refine T.ret rfl ?_
 exact T.ret1 rfl (ResIs.tmp rfl) fun w' hh => ⟨_, rfl, hh.below, (show _ from rfl)⟩
set_option maxRecDepth 100000 in
set_option maxHeartbeats 4000000 in
theorem elem_Spot_l (p0 : DElem) (r : DSpot) (hF : elem_Spot p0 = some r) (w : World)  :
 Calls Tryz.prog 101 #[.agg #[.int .i64 p0.key.pfs, .int .i64 p0.key.obj, .int .i64 p0.key.off, .int .i64 p0.made, .int .i64 p0.gone, .string p0.val]] w (Post (vAg eSpot) r w) := by
 unfold elem_Spot at hF
 refine T.start (l := [.agg #[vi p0.key.pfs, vi p0.key.obj, vi p0.key.off, vi p0.made, vi p0.gone, .string p0.val]]) Tryz.func101 rfl rfl rfl ?_
 refine T.seq (T.region ?_)
 let v17_ : List Value := [vi p0.key.pfs, vi p0.key.obj, vi p0.key.off, vi p0.made, vi p0.gone, .string p0.val]
 refine T.step (W1.np 44 v17_ (fun _ => by kernel_rfl) (fun b1 => ?_))
 refine T.step (W1.np 133 [vi 0, vi 0, vi 0, vi 0] (fun _ => by kernel_rfl) (fun b2 => ?_))
 refine T.nil (T.seq (T.region (T.pk (pB b1 0) (fun _ => by kernel_rfl) (T.look (.agg #[vi p0.key.pfs, vi p0.key.obj, vi p0.key.off]) (by kernel_rfl) (ldN 1 rfl rfl (fun _ => by kernel_rfl) (by rfl) rfl) ?_))))
 refine T.pk (pB b1 3) (fun _ => by kernel_rfl) (T.look (vi p0.made) (by kernel_rfl) (ld1 1 rfl rfl (fun _ => by kernel_rfl) (by rfl) rfl) ?_)
 refine T.pk (.agg #[vi p0.key.pfs, vi p0.key.obj, vi p0.key.off, vi p0.made]) (fun _ => by kernel_rfl) ?_
 let v18_ : List Value := [vi p0.key.pfs, vi p0.key.obj, vi p0.key.off, vi p0.made]
 refine T.step (W1.st 0 v18_ ((box b2 133 v18_) :: (box b1 44 v17_) :: []) v18_ (by rfl) rfl rfl rfl rfl rfl rfl (fun _ => by kernel_rfl) ?_)
 refine T.nil ?_
 cases hF
 refine T.ret rfl ?_
 exact T.ret1 rfl (ResIs.cellN 0 rfl (by rfl) (fun _ => by kernel_rfl) (fun _ => by kernel_rfl)) fun w' hh => ⟨_, rfl, hh.below, (vAg.mk rfl)⟩
set_option maxRecDepth 100000 in
set_option maxHeartbeats 4000000 in
theorem elem_Live_l (p0 : DElem) (p1 : Int) (r : Bool) (hF : elem_Live p0 p1 = some r) (w : World)  :
 Calls Tryz.prog 63 #[.agg #[.int .i64 p0.key.pfs, .int .i64 p0.key.obj, .int .i64 p0.key.off, .int .i64 p0.made, .int .i64 p0.gone, .string p0.val], .int .i64 p1] w (Post (vSc eBool) r w) := by
 unfold elem_Live at hF
 refine T.start (l := [.agg #[vi p0.key.pfs, vi p0.key.obj, vi p0.key.off, vi p0.made, vi p0.gone, .string p0.val], vi p1]) Tryz.func63 rfl rfl rfl ?_
 refine T.seq (T.region (T.step (W1.np 44 [vi p0.key.pfs, vi p0.key.obj, vi p0.key.off, vi p0.made, vi p0.gone, .string p0.val] (fun _ => by kernel_rfl) (fun b1 => ?_))))
 refine T.pk (.bool false) (fun _ => by kernel_rfl) (T.nil ?_)
 refine T.cut (fun a w' => Fr 20 [(4, .bool ((decide (p0.made ≤ p1)) && ((p0.gone == 0) || (decide (p1 < p0.gone)))))] a ∧ Hp w (vw w) [] w') ?_ ?_
 ·
  refine T.region (T.pk (pB b1 3) (fun _ => by kernel_rfl) (T.look (vi p0.made) (by kernel_rfl) (ld1 0 rfl rfl (fun _ => by kernel_rfl) (by rfl) rfl) ?_))
  refine T.p3 (vi p1) (.bool (decide (p0.made ≤ p1))) (.bool (decide (p0.made ≤ p1))) (fun _ => by kernel_rfl) ?_
  cases hg1 : decide (p0.made ≤ p1)
  ·
   skip
   refine T.pass (by kernel_rfl) (by kernel_rfl) (T.pass (by kernel_rfl) (by kernel_rfl) (T.pass (by kernel_rfl) (by kernel_rfl) (T.pass (by kernel_rfl) (by kernel_rfl) (T.pass (by kernel_rfl) (by kernel_rfl) (T.pass (by kernel_rfl) (by kernel_rfl) (T.pass (by kernel_rfl) (by kernel_rfl) (T.pass (by kernel_rfl) (by kernel_rfl) (T.pass (by kernel_rfl) (by kernel_rfl) (T.p2 (.bool false) (.bool false) (fun _ => by kernel_rfl) (T.nil ?_))))))))))
   exact fun a w' hf hh => ⟨(Fr.sel hf rfl), (hh.sub (dr1 kp0))⟩
  skip
  refine T.pk (pB b1 4) (fun _ => by kernel_rfl) (T.look (vi p0.gone) (by kernel_rfl) (ld1 0 rfl rfl (fun _ => by kernel_rfl) (by rfl) rfl) ?_)
  refine T.p2 (.bool (p0.gone == 0)) (.bool (p0.gone == 0)) (fun _ => by kernel_rfl) ?_
  cases hg2 : (p0.gone == 0)
  ·
   skip
   refine T.p2 (vi p1) (pB b1 4) (fun _ => by kernel_rfl) (T.look (vi p0.gone) (by kernel_rfl) (ld1 0 rfl rfl (fun _ => by kernel_rfl) (by rfl) rfl) ?_)
   refine T.p4 (.bool (decide (p1 < p0.gone))) (.bool (decide (p1 < p0.gone))) (.bool (decide (p1 < p0.gone))) (.bool (decide (p1 < p0.gone))) (fun _ => by kernel_rfl) (T.nil ?_)
   exact fun a w' hf hh => ⟨(Fr.sel hf rfl), (hh.sub (dr1 kp0))⟩
  skip
  refine T.pass (by kernel_rfl) (by kernel_rfl) (T.pass (by kernel_rfl) (by kernel_rfl) (T.pass (by kernel_rfl) (by kernel_rfl) (T.pass (by kernel_rfl) (by kernel_rfl) (T.p3 (.bool true) (.bool true) (.bool true) (fun _ => by kernel_rfl) (T.nil ?_)))))
  exact fun a w' hf hh => ⟨(Fr.sel hf rfl), (hh.sub (dr1 kp0))⟩
 rintro a w' ⟨hf, hh⟩
 refine (?_ : T 20 w (vw w) [] [(4, .bool ((decide (p0.made ≤ p1)) && ((p0.gone == 0) || (decide (p1 < p0.gone)))))] _) a w' hf hh
 clear hf hh
 cases hF
 refine T.ret rfl ?_
 exact T.ret1 rfl (ResIs.tmp rfl) fun w' hh => ⟨_, rfl, hh.below, (show _ from rfl)⟩
set_option maxRecDepth 100000 in
set_option maxHeartbeats 4000000 in
theorem elem_Last_l (p0 : DElem) (r : Int) (hF : elem_Last p0 = some r) (w : World)  :
 Calls Tryz.prog 102 #[.agg #[.int .i64 p0.key.pfs, .int .i64 p0.key.obj, .int .i64 p0.key.off, .int .i64 p0.made, .int .i64 p0.gone, .string p0.val]] w (Post (vSc eInt) r w) := by
 unfold elem_Last at hF
 refine T.start (l := [.agg #[vi p0.key.pfs, vi p0.key.obj, vi p0.key.off, vi p0.made, vi p0.gone, .string p0.val]]) Tryz.func102 rfl rfl rfl ?_
 refine T.seq (T.region (T.step (W1.np 44 [vi p0.key.pfs, vi p0.key.obj, vi p0.key.off, vi p0.made, vi p0.gone, .string p0.val] (fun _ => by kernel_rfl) (fun b1 => ?_))))
 refine T.pk (vi 0) (fun _ => by kernel_rfl) (T.nil (T.seq (T.region (T.pk (pB b1 3) (fun _ => by kernel_rfl) (T.look (vi p0.made) (by kernel_rfl) (ld1 0 rfl rfl (fun _ => by kernel_rfl) (by rfl) rfl) ?_)))))
 refine T.pk (pB b1 4) (fun _ => by kernel_rfl) (T.look (vi p0.gone) (by kernel_rfl) (ld1 0 rfl rfl (fun _ => by kernel_rfl) (by rfl) rfl) ?_)
 refine T.p2 (vi (if p0.made < p0.gone then p0.gone else p0.made)) (vi (if p0.made < p0.gone then p0.gone else p0.made)) (fun _ => by kernel_rfl) (T.nil ?_)
 cases hF
 refine T.ret rfl ?_
 exact T.ret1 rfl (ResIs.tmp rfl) fun w' hh => ⟨_, rfl, hh.below, (show _ from rfl)⟩
end Go.Proofs.YtacjdfhllomccaaGreatDoor
