/- The Go functions of group LawA compute the pure functions of that group: written by walkgen.py. Condition of each: the pure function yields a result. -/
import Derived.Test.YtgpcpllkcehheaaKeyL
import Derived.Test.YtgpcpllkcehheaaLawAF
import Derived.Test.YtgpcpllkcehheaaEqL
namespace Go.Proofs.Ytgpcpllkcehheaa
set_option linter.unusedVariables false

set_option maxRecDepth 100000 in
set_option maxHeartbeats 4000000 in
theorem annalkeep_KeyOrders_l (p0 : DSpot) (p1 : DSpot) (p2 : DSpot) (r : Bool) (hF : annalkeep_KeyOrders p0 p1 p2 = some r) (w : World)  :
    Calls Try.prog 7 #[.agg #[.int .i64 p0.key.pfs, .int .i64 p0.key.obj, .int .i64 p0.key.off, .int .i64 p0.made], .agg #[.int .i64 p1.key.pfs, .int .i64 p1.key.obj, .int .i64 p1.key.off, .int .i64 p1.made], .agg #[.int .i64 p2.key.pfs, .int .i64 p2.key.obj, .int .i64 p2.key.off, .int .i64 p2.made]] w (Post (vSc eBool) r w) := by
  unfold annalkeep_KeyOrders at hF
  refine T.start (l := [.agg #[.int .i64 p0.key.pfs, .int .i64 p0.key.obj, .int .i64 p0.key.off, .int .i64 p0.made], .agg #[.int .i64 p1.key.pfs, .int .i64 p1.key.obj, .int .i64 p1.key.off, .int .i64 p1.made], .agg #[.int .i64 p2.key.pfs, .int .i64 p2.key.obj, .int .i64 p2.key.off, .int .i64 p2.made]]) Try.func7 rfl rfl rfl ?_
  refine T.seq ?_
  refine T.region ?_
  refine T.step (W1.new 39 [.int .i64 p0.key.pfs, .int .i64 p0.key.obj, .int .i64 p0.key.off, .int .i64 p0.made] (fun b => .pointer (some ⟨b, 0, none⟩)) (by kernel_rfl) (fun _ => by kernel_rfl) (fun b1 => ?_))
  refine T.step (W1.new 39 [.int .i64 p1.key.pfs, .int .i64 p1.key.obj, .int .i64 p1.key.off, .int .i64 p1.made] (fun b => .pointer (some ⟨b, 0, none⟩)) (by kernel_rfl) (fun _ => by kernel_rfl) (fun b2 => ?_))
  refine T.step (W1.new 39 [.int .i64 p2.key.pfs, .int .i64 p2.key.obj, .int .i64 p2.key.off, .int .i64 p2.made] (fun b => .pointer (some ⟨b, 0, none⟩)) (by kernel_rfl) (fun _ => by kernel_rfl) (fun b3 => ?_))
  refine T.pure (.bool false) (by kernel_rfl) (fun _ => by kernel_rfl) ?_
  refine T.nil ?_
  refine T.seq ?_
  obtain ⟨z1, hX1, hF⟩ := Option.bind_eq_some_iff.1 hF
  refine T.cut (fun a w' => ∃ (V1 : View), View.le (vw w) V1 ∧ Fr 82 [(3, .pointer (some ⟨b1, 0, none⟩)), (4, .pointer (some ⟨b2, 0, none⟩)), (5, .pointer (some ⟨b3, 0, none⟩)), (21, .bool z1)] a ∧ Hp w V1 [box b3 39 [.int .i64 p2.key.pfs, .int .i64 p2.key.obj, .int .i64 p2.key.off, .int .i64 p2.made], box b2 39 [.int .i64 p1.key.pfs, .int .i64 p1.key.obj, .int .i64 p1.key.off, .int .i64 p1.made], box b1 39 [.int .i64 p0.key.pfs, .int .i64 p0.key.obj, .int .i64 p0.key.off, .int .i64 p0.made]] w') ?_ ?_
  ·
    refine T.region ?_
    refine T.pure (.agg #[.int .i64 1, .int .i64 0, .int .i64 0]) (by kernel_rfl) (fun _ => by kernel_rfl) ?_
    refine T.pure (.agg #[.int .i64 0, .int .i64 9, .int .i64 9]) (by kernel_rfl) (fun _ => by kernel_rfl) ?_
    obtain ⟨r1, hb1, hX1⟩ := Option.bind_eq_some_iff.1 hX1
    refine T.step (W1.call (vSc eInt) r1 26 #[.agg #[.int .i64 1, .int .i64 0, .int .i64 0], .agg #[.int .i64 0, .int .i64 9, .int .i64 9]] (by kernel_rfl) (fun _ => by kernel_rfl) (fun w' hh => key_Cmp_l (DKey.mk 1 0 0) (DKey.mk 0 9 9) r1 hb1 w' ) ?_)
    intro u V2 hV2 hu
    obtain rfl := sureInt _ _ _ hu
    refine T.pure (.bool (r1 != 1)) (by kernel_rfl) (fun _ => by kernel_rfl) ?_
    refine T.pure (.bool (r1 != 1)) (by kernel_rfl) (fun _ => by kernel_rfl) ?_
    cases hg1 : (r1 != 1)
    ·
      skip
      rw [hg1, cond_false] at hX1
      refine T.pure (.agg #[.int .i64 0, .int .i64 0, .int .i64 0, .int .i64 1]) (by kernel_rfl) (fun _ => by kernel_rfl) ?_
      refine T.pure (.agg #[.int .i64 0, .int .i64 0, .int .i64 0, .int .i64 2]) (by kernel_rfl) (fun _ => by kernel_rfl) ?_
      obtain ⟨r2, hb2, hX1⟩ := Option.bind_eq_some_iff.1 hX1
      refine T.step (W1.call (vSc eInt) r2 27 #[.agg #[.int .i64 0, .int .i64 0, .int .i64 0, .int .i64 1], .agg #[.int .i64 0, .int .i64 0, .int .i64 0, .int .i64 2]] (by kernel_rfl) (fun _ => by kernel_rfl) (fun w' hh => key_CmpSpot_l (DSpot.mk (DKey.mk 0 0 0) 1) (DSpot.mk (DKey.mk 0 0 0) 2) r2 hb2 w' ) ?_)
      intro u V3 hV3 hu
      obtain rfl := sureInt _ _ _ hu
      refine T.pure (.bool (r2 != (-1))) (by kernel_rfl) (fun _ => by kernel_rfl) ?_
      refine T.pure (.bool (r2 != (-1))) (by kernel_rfl) (fun _ => by kernel_rfl) ?_
      refine T.nil ?_
      cases hX1
      exact fun a w' hf hh => Exists.intro V3 (And.intro (View.le_trans hV2 hV3) (And.intro (((((Fr.nil hf).pick hf 21 rfl).pick hf 5 rfl).pick hf 4 rfl).pick hf 3 rfl) (hh.sub (.cons_cons _ (.cons_cons _ (.cons_cons _ List.Sublist.slnil))))))
    ·
      skip
      rw [hg1, cond_true] at hX1
      refine T.pass (by kernel_rfl) (by kernel_rfl) ?_
      refine T.pass (by kernel_rfl) (by kernel_rfl) ?_
      refine T.pass (by kernel_rfl) (by kernel_rfl) ?_
      refine T.pass (by kernel_rfl) (by kernel_rfl) ?_
      refine T.pure (.bool true) (by kernel_rfl) (fun _ => by kernel_rfl) ?_
      refine T.nil ?_
      cases hX1
      exact fun a w' hf hh => Exists.intro V2 (And.intro hV2 (And.intro (((((Fr.nil hf).pick hf 21 rfl).pick hf 5 rfl).pick hf 4 rfl).pick hf 3 rfl) (hh.sub (.cons_cons _ (.cons_cons _ (.cons_cons _ List.Sublist.slnil))))))
  ·
    rintro a w' ⟨V1, hV1, hf, hh⟩
    refine (?_ : T 82 w V1 [box b3 39 [.int .i64 p2.key.pfs, .int .i64 p2.key.obj, .int .i64 p2.key.off, .int .i64 p2.made], box b2 39 [.int .i64 p1.key.pfs, .int .i64 p1.key.obj, .int .i64 p1.key.off, .int .i64 p1.made], box b1 39 [.int .i64 p0.key.pfs, .int .i64 p0.key.obj, .int .i64 p0.key.off, .int .i64 p0.made]] [(3, .pointer (some ⟨b1, 0, none⟩)), (4, .pointer (some ⟨b2, 0, none⟩)), (5, .pointer (some ⟨b3, 0, none⟩)), (21, .bool z1)] _) a w' hf hh
    clear hf hh
    refine T.cond z1 (by kernel_rfl) (by kernel_rfl) (fun hc1 => ?_) (fun hc1 => ?_)
    ·
      rw [hc1, cond_true] at hF
      refine T.seq ?_
      refine T.region ?_
      refine T.pure (.bool false) (by kernel_rfl) (fun _ => by kernel_rfl) ?_
      refine T.nil ?_
      cases hF
      refine T.ret rfl ?_
      exact T.ret1 rfl (ResIs.tmp rfl) fun w' hh => ⟨_, rfl, hh.below, (show _ from rfl)⟩
    ·
      rw [hc1, cond_false] at hF
      refine T.skip_code ?_
      refine T.seq ?_
      refine T.quiet (by kernel_rfl) (by kernel_rfl) ?_
      refine TQ.look (.agg #[.int .i64 p0.key.pfs, .int .i64 p0.key.obj, .int .i64 p0.key.off, .int .i64 p0.made]) (by kernel_rfl) (fun w' hh => exec_loadN (cs := [.int .i64 p0.key.pfs, .int .i64 p0.key.obj, .int .i64 p0.key.off, .int .i64 p0.made]) rfl rfl (by kernel_rfl) (by kernel_rfl) (fun j u hj => (hh.box_at (i := 2) (cs := [.int .i64 p0.key.pfs, .int .i64 p0.key.obj, .int .i64 p0.key.off, .int .i64 p0.made]) (by rfl) 0 j).trans (seg_at (n := 4) rfl hj))) ?_
      refine TQ.look (.agg #[.int .i64 p1.key.pfs, .int .i64 p1.key.obj, .int .i64 p1.key.off, .int .i64 p1.made]) (by kernel_rfl) (fun w' hh => exec_loadN (cs := [.int .i64 p1.key.pfs, .int .i64 p1.key.obj, .int .i64 p1.key.off, .int .i64 p1.made]) rfl rfl (by kernel_rfl) (by kernel_rfl) (fun j u hj => (hh.box_at (i := 1) (cs := [.int .i64 p1.key.pfs, .int .i64 p1.key.obj, .int .i64 p1.key.off, .int .i64 p1.made]) (by rfl) 0 j).trans (seg_at (n := 4) rfl hj))) ?_
      obtain ⟨r3, hb3, hF⟩ := Option.bind_eq_some_iff.1 hF
      refine TQ.call (vSc eInt) r3 27 #[.agg #[.int .i64 p0.key.pfs, .int .i64 p0.key.obj, .int .i64 p0.key.off, .int .i64 p0.made], .agg #[.int .i64 p1.key.pfs, .int .i64 p1.key.obj, .int .i64 p1.key.off, .int .i64 p1.made]] (.int .i64 r3) (fun V u hu => sureInt V u _ hu) (by kernel_rfl) (fun _ => by kernel_rfl) (fun w' hh => key_CmpSpot_l p0 p1 r3 hb3 w' ) ?_
      refine TQ.look (.agg #[.int .i64 p1.key.pfs, .int .i64 p1.key.obj, .int .i64 p1.key.off, .int .i64 p1.made]) (by kernel_rfl) (fun w' hh => exec_loadN (cs := [.int .i64 p1.key.pfs, .int .i64 p1.key.obj, .int .i64 p1.key.off, .int .i64 p1.made]) rfl rfl (by kernel_rfl) (by kernel_rfl) (fun j u hj => (hh.box_at (i := 1) (cs := [.int .i64 p1.key.pfs, .int .i64 p1.key.obj, .int .i64 p1.key.off, .int .i64 p1.made]) (by rfl) 0 j).trans (seg_at (n := 4) rfl hj))) ?_
      refine TQ.look (.agg #[.int .i64 p0.key.pfs, .int .i64 p0.key.obj, .int .i64 p0.key.off, .int .i64 p0.made]) (by kernel_rfl) (fun w' hh => exec_loadN (cs := [.int .i64 p0.key.pfs, .int .i64 p0.key.obj, .int .i64 p0.key.off, .int .i64 p0.made]) rfl rfl (by kernel_rfl) (by kernel_rfl) (fun j u hj => (hh.box_at (i := 2) (cs := [.int .i64 p0.key.pfs, .int .i64 p0.key.obj, .int .i64 p0.key.off, .int .i64 p0.made]) (by rfl) 0 j).trans (seg_at (n := 4) rfl hj))) ?_
      obtain ⟨r4, hb4, hF⟩ := Option.bind_eq_some_iff.1 hF
      refine TQ.call (vSc eInt) r4 27 #[.agg #[.int .i64 p1.key.pfs, .int .i64 p1.key.obj, .int .i64 p1.key.off, .int .i64 p1.made], .agg #[.int .i64 p0.key.pfs, .int .i64 p0.key.obj, .int .i64 p0.key.off, .int .i64 p0.made]] (.int .i64 r4) (fun V u hu => sureInt V u _ hu) (by kernel_rfl) (fun _ => by kernel_rfl) (fun w' hh => key_CmpSpot_l p1 p0 r4 hb4 w' ) ?_
      refine TQ.look (.agg #[.int .i64 p1.key.pfs, .int .i64 p1.key.obj, .int .i64 p1.key.off, .int .i64 p1.made]) (by kernel_rfl) (fun w' hh => exec_loadN (cs := [.int .i64 p1.key.pfs, .int .i64 p1.key.obj, .int .i64 p1.key.off, .int .i64 p1.made]) rfl rfl (by kernel_rfl) (by kernel_rfl) (fun j u hj => (hh.box_at (i := 1) (cs := [.int .i64 p1.key.pfs, .int .i64 p1.key.obj, .int .i64 p1.key.off, .int .i64 p1.made]) (by rfl) 0 j).trans (seg_at (n := 4) rfl hj))) ?_
      refine TQ.look (.agg #[.int .i64 p2.key.pfs, .int .i64 p2.key.obj, .int .i64 p2.key.off, .int .i64 p2.made]) (by kernel_rfl) (fun w' hh => exec_loadN (cs := [.int .i64 p2.key.pfs, .int .i64 p2.key.obj, .int .i64 p2.key.off, .int .i64 p2.made]) rfl rfl (by kernel_rfl) (by kernel_rfl) (fun j u hj => (hh.box_at (i := 0) (cs := [.int .i64 p2.key.pfs, .int .i64 p2.key.obj, .int .i64 p2.key.off, .int .i64 p2.made]) (by rfl) 0 j).trans (seg_at (n := 4) rfl hj))) ?_
      obtain ⟨r5, hb5, hF⟩ := Option.bind_eq_some_iff.1 hF
      refine TQ.call (vSc eInt) r5 27 #[.agg #[.int .i64 p1.key.pfs, .int .i64 p1.key.obj, .int .i64 p1.key.off, .int .i64 p1.made], .agg #[.int .i64 p2.key.pfs, .int .i64 p2.key.obj, .int .i64 p2.key.off, .int .i64 p2.made]] (.int .i64 r5) (fun V u hu => sureInt V u _ hu) (by kernel_rfl) (fun _ => by kernel_rfl) (fun w' hh => key_CmpSpot_l p1 p2 r5 hb5 w' ) ?_
      refine TQ.look (.agg #[.int .i64 p0.key.pfs, .int .i64 p0.key.obj, .int .i64 p0.key.off, .int .i64 p0.made]) (by kernel_rfl) (fun w' hh => exec_loadN (cs := [.int .i64 p0.key.pfs, .int .i64 p0.key.obj, .int .i64 p0.key.off, .int .i64 p0.made]) rfl rfl (by kernel_rfl) (by kernel_rfl) (fun j u hj => (hh.box_at (i := 2) (cs := [.int .i64 p0.key.pfs, .int .i64 p0.key.obj, .int .i64 p0.key.off, .int .i64 p0.made]) (by rfl) 0 j).trans (seg_at (n := 4) rfl hj))) ?_
      refine TQ.look (.agg #[.int .i64 p2.key.pfs, .int .i64 p2.key.obj, .int .i64 p2.key.off, .int .i64 p2.made]) (by kernel_rfl) (fun w' hh => exec_loadN (cs := [.int .i64 p2.key.pfs, .int .i64 p2.key.obj, .int .i64 p2.key.off, .int .i64 p2.made]) rfl rfl (by kernel_rfl) (by kernel_rfl) (fun j u hj => (hh.box_at (i := 0) (cs := [.int .i64 p2.key.pfs, .int .i64 p2.key.obj, .int .i64 p2.key.off, .int .i64 p2.made]) (by rfl) 0 j).trans (seg_at (n := 4) rfl hj))) ?_
      obtain ⟨r6, hb6, hF⟩ := Option.bind_eq_some_iff.1 hF
      refine TQ.call (vSc eInt) r6 27 #[.agg #[.int .i64 p0.key.pfs, .int .i64 p0.key.obj, .int .i64 p0.key.off, .int .i64 p0.made], .agg #[.int .i64 p2.key.pfs, .int .i64 p2.key.obj, .int .i64 p2.key.off, .int .i64 p2.made]] (.int .i64 r6) (fun V u hu => sureInt V u _ hu) (by kernel_rfl) (fun _ => by kernel_rfl) (fun w' hh => key_CmpSpot_l p0 p2 r6 hb6 w' ) ?_
      refine TQ.pure (.int .i64 r3) (by kernel_rfl) (fun _ => by kernel_rfl) ?_
      refine TQ.pure (.int .i64 r4) (by kernel_rfl) (fun _ => by kernel_rfl) ?_
      refine TQ.pure (.int .i64 r5) (by kernel_rfl) (fun _ => by kernel_rfl) ?_
      refine TQ.pure (.int .i64 r6) (by kernel_rfl) (fun _ => by kernel_rfl) ?_
      refine TQ.nil ?_
      refine T.seq ?_
      refine T.region ?_
      refine T.pure (.pointer (some ⟨b1, 0, none⟩)) (by kernel_rfl) (fun _ => by kernel_rfl) ?_
      refine T.look (.agg #[.int .i64 p0.key.pfs, .int .i64 p0.key.obj, .int .i64 p0.key.off]) (by kernel_rfl) (fun w' hh => exec_loadN (cs := [.int .i64 p0.key.pfs, .int .i64 p0.key.obj, .int .i64 p0.key.off]) rfl rfl (by kernel_rfl) (by kernel_rfl) (fun j u hj => (hh.box_at (i := 2) (cs := [.int .i64 p0.key.pfs, .int .i64 p0.key.obj, .int .i64 p0.key.off, .int .i64 p0.made]) (by rfl) 0 j).trans (seg_at (n := 3) rfl hj))) ?_
      refine T.pure (.pointer (some ⟨b2, 0, none⟩)) (by kernel_rfl) (fun _ => by kernel_rfl) ?_
      refine T.look (.agg #[.int .i64 p1.key.pfs, .int .i64 p1.key.obj, .int .i64 p1.key.off]) (by kernel_rfl) (fun w' hh => exec_loadN (cs := [.int .i64 p1.key.pfs, .int .i64 p1.key.obj, .int .i64 p1.key.off]) rfl rfl (by kernel_rfl) (by kernel_rfl) (fun j u hj => (hh.box_at (i := 1) (cs := [.int .i64 p1.key.pfs, .int .i64 p1.key.obj, .int .i64 p1.key.off, .int .i64 p1.made]) (by rfl) 0 j).trans (seg_at (n := 3) rfl hj))) ?_
      obtain ⟨r7, hb7, hF⟩ := Option.bind_eq_some_iff.1 hF
      refine T.step (W1.call (vSc eInt) r7 26 #[.agg #[.int .i64 p0.key.pfs, .int .i64 p0.key.obj, .int .i64 p0.key.off], .agg #[.int .i64 p1.key.pfs, .int .i64 p1.key.obj, .int .i64 p1.key.off]] (by kernel_rfl) (fun _ => by kernel_rfl) (fun w' hh => key_Cmp_l p0.key p1.key r7 hb7 w' ) ?_)
      intro u V4 hV4 hu
      obtain rfl := sureInt _ _ _ hu
      refine T.pure (.int .i64 r7) (by kernel_rfl) (fun _ => by kernel_rfl) ?_
      refine T.nil ?_
      refine T.cut (fun a w' => Fr 82 [(6, .bool ((r3 == (IntKind.i64.wrap (0 - r4))) && (((r3 == 0) == (p0 == p1)) && (bif decide ((0 : Int) < r3) then (((r7 == 0) == (p0.key == p1.key)) && ((r7 == 0) || (r7 == r3))) else (bif decide ((0 : Int) < r5) then (((r7 == 0) == (p0.key == p1.key)) && ((r7 == 0) || (r7 == r3))) else ((decide (r6 ≤ 0)) && (((r7 == 0) == (p0.key == p1.key)) && ((r7 == 0) || (r7 == r3)))))))))] a ∧ Hp w V4 [] w') ?_ ?_
      ·
        refine T.region ?_
        refine T.pure (.int .i64 r3) (by kernel_rfl) (fun _ => by kernel_rfl) ?_
        refine T.pure (.int .i64 r4) (by kernel_rfl) (fun _ => by kernel_rfl) ?_
        refine T.pure (.int .i64 (IntKind.i64.wrap (0 - r4))) (by kernel_rfl) (fun _ => by kernel_rfl) ?_
        refine T.pure (.bool (r3 == (IntKind.i64.wrap (0 - r4)))) (by kernel_rfl) (fun _ => by kernel_rfl) ?_
        refine T.pure (.bool (r3 == (IntKind.i64.wrap (0 - r4)))) (by kernel_rfl) (fun _ => by kernel_rfl) ?_
        cases hg2 : (r3 == (IntKind.i64.wrap (0 - r4)))
        ·
          skip
          refine T.pass (by kernel_rfl) (by kernel_rfl) ?_
          refine T.pass (by kernel_rfl) (by kernel_rfl) ?_
          refine T.pass (by kernel_rfl) (by kernel_rfl) ?_
          refine T.pass (by kernel_rfl) (by kernel_rfl) ?_
          refine T.pass (by kernel_rfl) (by kernel_rfl) ?_
          refine T.pass (by kernel_rfl) (by kernel_rfl) ?_
          refine T.pure (.bool false) (by kernel_rfl) (fun _ => by kernel_rfl) ?_
          refine T.pure (.bool false) (by kernel_rfl) (fun _ => by kernel_rfl) ?_
          refine T.pass (by kernel_rfl) (by kernel_rfl) ?_
          refine T.pass (by kernel_rfl) (by kernel_rfl) ?_
          refine T.pass (by kernel_rfl) (by kernel_rfl) ?_
          refine T.pass (by kernel_rfl) (by kernel_rfl) ?_
          refine T.pass (by kernel_rfl) (by kernel_rfl) ?_
          refine T.pass (by kernel_rfl) (by kernel_rfl) ?_
          refine T.pass (by kernel_rfl) (by kernel_rfl) ?_
          refine T.pass (by kernel_rfl) (by kernel_rfl) ?_
          refine T.pass (by kernel_rfl) (by kernel_rfl) ?_
          refine T.pass (by kernel_rfl) (by kernel_rfl) ?_
          refine T.pure (.bool false) (by kernel_rfl) (fun _ => by kernel_rfl) ?_
          refine T.pure (.bool false) (by kernel_rfl) (fun _ => by kernel_rfl) ?_
          refine T.pass (by kernel_rfl) (by kernel_rfl) ?_
          refine T.pass (by kernel_rfl) (by kernel_rfl) ?_
          refine T.pass (by kernel_rfl) (by kernel_rfl) ?_
          refine T.pass (by kernel_rfl) (by kernel_rfl) ?_
          refine T.pass (by kernel_rfl) (by kernel_rfl) ?_
          refine T.pass (by kernel_rfl) (by kernel_rfl) ?_
          refine T.pass (by kernel_rfl) (by kernel_rfl) ?_
          refine T.pass (by kernel_rfl) (by kernel_rfl) ?_
          refine T.pure (.bool false) (by kernel_rfl) (fun _ => by kernel_rfl) ?_
          refine T.pure (.bool false) (by kernel_rfl) (fun _ => by kernel_rfl) ?_
          refine T.pass (by kernel_rfl) (by kernel_rfl) ?_
          refine T.pass (by kernel_rfl) (by kernel_rfl) ?_
          refine T.pass (by kernel_rfl) (by kernel_rfl) ?_
          refine T.pass (by kernel_rfl) (by kernel_rfl) ?_
          refine T.pass (by kernel_rfl) (by kernel_rfl) ?_
          refine T.pass (by kernel_rfl) (by kernel_rfl) ?_
          refine T.pass (by kernel_rfl) (by kernel_rfl) ?_
          refine T.pure (.bool false) (by kernel_rfl) (fun _ => by kernel_rfl) ?_
          refine T.pure (.bool false) (by kernel_rfl) (fun _ => by kernel_rfl) ?_
          refine T.nil ?_
          exact fun a w' hf hh => And.intro ((Fr.nil hf).pick hf 6 rfl) (hh.sub (.cons _ (.cons _ (.cons _ List.Sublist.slnil))))
        ·
          skip
          refine T.pure (.int .i64 r3) (by kernel_rfl) (fun _ => by kernel_rfl) ?_
          refine T.pure (.bool (r3 == 0)) (by kernel_rfl) (fun _ => by kernel_rfl) ?_
          refine T.look (.agg #[.int .i64 p0.key.pfs, .int .i64 p0.key.obj, .int .i64 p0.key.off, .int .i64 p0.made]) (by kernel_rfl) (fun w' hh => exec_loadN (cs := [.int .i64 p0.key.pfs, .int .i64 p0.key.obj, .int .i64 p0.key.off, .int .i64 p0.made]) rfl rfl (by kernel_rfl) (by kernel_rfl) (fun j u hj => (hh.box_at (i := 2) (cs := [.int .i64 p0.key.pfs, .int .i64 p0.key.obj, .int .i64 p0.key.off, .int .i64 p0.made]) (by rfl) 0 j).trans (seg_at (n := 4) rfl hj))) ?_
          refine T.look (.agg #[.int .i64 p1.key.pfs, .int .i64 p1.key.obj, .int .i64 p1.key.off, .int .i64 p1.made]) (by kernel_rfl) (fun w' hh => exec_loadN (cs := [.int .i64 p1.key.pfs, .int .i64 p1.key.obj, .int .i64 p1.key.off, .int .i64 p1.made]) rfl rfl (by kernel_rfl) (by kernel_rfl) (fun j u hj => (hh.box_at (i := 1) (cs := [.int .i64 p1.key.pfs, .int .i64 p1.key.obj, .int .i64 p1.key.off, .int .i64 p1.made]) (by rfl) 0 j).trans (seg_at (n := 4) rfl hj))) ?_
          refine T.look (.bool (p0 == p1)) (by kernel_rfl) (fun w' _ => exec_eql_DSpot p0 p1 w' rfl rfl rfl) ?_
          refine T.pure (.bool ((r3 == 0) == (p0 == p1))) (by kernel_rfl) (fun _ => by kernel_rfl) ?_
          refine T.pure (.bool ((r3 == 0) == (p0 == p1))) (by kernel_rfl) (fun _ => by kernel_rfl) ?_
          refine T.pure (.bool ((r3 == 0) == (p0 == p1))) (by kernel_rfl) (fun _ => by kernel_rfl) ?_
          cases hg3 : ((r3 == 0) == (p0 == p1))
          ·
            skip
            refine T.pass (by kernel_rfl) (by kernel_rfl) ?_
            refine T.pass (by kernel_rfl) (by kernel_rfl) ?_
            refine T.pass (by kernel_rfl) (by kernel_rfl) ?_
            refine T.pass (by kernel_rfl) (by kernel_rfl) ?_
            refine T.pass (by kernel_rfl) (by kernel_rfl) ?_
            refine T.pass (by kernel_rfl) (by kernel_rfl) ?_
            refine T.pass (by kernel_rfl) (by kernel_rfl) ?_
            refine T.pass (by kernel_rfl) (by kernel_rfl) ?_
            refine T.pass (by kernel_rfl) (by kernel_rfl) ?_
            refine T.pass (by kernel_rfl) (by kernel_rfl) ?_
            refine T.pure (.bool false) (by kernel_rfl) (fun _ => by kernel_rfl) ?_
            refine T.pure (.bool false) (by kernel_rfl) (fun _ => by kernel_rfl) ?_
            refine T.pass (by kernel_rfl) (by kernel_rfl) ?_
            refine T.pass (by kernel_rfl) (by kernel_rfl) ?_
            refine T.pass (by kernel_rfl) (by kernel_rfl) ?_
            refine T.pass (by kernel_rfl) (by kernel_rfl) ?_
            refine T.pass (by kernel_rfl) (by kernel_rfl) ?_
            refine T.pass (by kernel_rfl) (by kernel_rfl) ?_
            refine T.pass (by kernel_rfl) (by kernel_rfl) ?_
            refine T.pass (by kernel_rfl) (by kernel_rfl) ?_
            refine T.pure (.bool false) (by kernel_rfl) (fun _ => by kernel_rfl) ?_
            refine T.pure (.bool false) (by kernel_rfl) (fun _ => by kernel_rfl) ?_
            refine T.pass (by kernel_rfl) (by kernel_rfl) ?_
            refine T.pass (by kernel_rfl) (by kernel_rfl) ?_
            refine T.pass (by kernel_rfl) (by kernel_rfl) ?_
            refine T.pass (by kernel_rfl) (by kernel_rfl) ?_
            refine T.pass (by kernel_rfl) (by kernel_rfl) ?_
            refine T.pass (by kernel_rfl) (by kernel_rfl) ?_
            refine T.pass (by kernel_rfl) (by kernel_rfl) ?_
            refine T.pure (.bool false) (by kernel_rfl) (fun _ => by kernel_rfl) ?_
            refine T.pure (.bool false) (by kernel_rfl) (fun _ => by kernel_rfl) ?_
            refine T.nil ?_
            exact fun a w' hf hh => And.intro ((Fr.nil hf).pick hf 6 rfl) (hh.sub (.cons _ (.cons _ (.cons _ List.Sublist.slnil))))
          ·
            skip
            refine T.pure (.int .i64 r3) (by kernel_rfl) (fun _ => by kernel_rfl) ?_
            refine T.pure (.bool (decide ((0 : Int) < r3))) (by kernel_rfl) (fun _ => by kernel_rfl) ?_
            refine T.pure (.bool (decide ((0 : Int) < r3))) (by kernel_rfl) (fun _ => by kernel_rfl) ?_
            cases hg4 : decide ((0 : Int) < r3)
            ·
              skip
              refine T.pure (.int .i64 r5) (by kernel_rfl) (fun _ => by kernel_rfl) ?_
              refine T.pure (.bool (decide ((0 : Int) < r5))) (by kernel_rfl) (fun _ => by kernel_rfl) ?_
              refine T.pure (.bool (decide ((0 : Int) < r5))) (by kernel_rfl) (fun _ => by kernel_rfl) ?_
              refine T.pure (.bool (decide ((0 : Int) < r5))) (by kernel_rfl) (fun _ => by kernel_rfl) ?_
              cases hg5 : decide ((0 : Int) < r5)
              ·
                skip
                refine T.pure (.int .i64 r6) (by kernel_rfl) (fun _ => by kernel_rfl) ?_
                refine T.pure (.bool (decide (r6 ≤ 0))) (by kernel_rfl) (fun _ => by kernel_rfl) ?_
                refine T.pure (.bool (decide (r6 ≤ 0))) (by kernel_rfl) (fun _ => by kernel_rfl) ?_
                refine T.pure (.bool (decide (r6 ≤ 0))) (by kernel_rfl) (fun _ => by kernel_rfl) ?_
                refine T.pure (.bool (decide (r6 ≤ 0))) (by kernel_rfl) (fun _ => by kernel_rfl) ?_
                cases hg6 : decide (r6 ≤ 0)
                ·
                  skip
                  refine T.pass (by kernel_rfl) (by kernel_rfl) ?_
                  refine T.pass (by kernel_rfl) (by kernel_rfl) ?_
                  refine T.pass (by kernel_rfl) (by kernel_rfl) ?_
                  refine T.pass (by kernel_rfl) (by kernel_rfl) ?_
                  refine T.pass (by kernel_rfl) (by kernel_rfl) ?_
                  refine T.pass (by kernel_rfl) (by kernel_rfl) ?_
                  refine T.pass (by kernel_rfl) (by kernel_rfl) ?_
                  refine T.pass (by kernel_rfl) (by kernel_rfl) ?_
                  refine T.pure (.bool false) (by kernel_rfl) (fun _ => by kernel_rfl) ?_
                  refine T.pure (.bool false) (by kernel_rfl) (fun _ => by kernel_rfl) ?_
                  refine T.pass (by kernel_rfl) (by kernel_rfl) ?_
                  refine T.pass (by kernel_rfl) (by kernel_rfl) ?_
                  refine T.pass (by kernel_rfl) (by kernel_rfl) ?_
                  refine T.pass (by kernel_rfl) (by kernel_rfl) ?_
                  refine T.pass (by kernel_rfl) (by kernel_rfl) ?_
                  refine T.pass (by kernel_rfl) (by kernel_rfl) ?_
                  refine T.pass (by kernel_rfl) (by kernel_rfl) ?_
                  refine T.pure (.bool false) (by kernel_rfl) (fun _ => by kernel_rfl) ?_
                  refine T.pure (.bool false) (by kernel_rfl) (fun _ => by kernel_rfl) ?_
                  refine T.nil ?_
                  exact fun a w' hf hh => And.intro ((Fr.nil hf).pick hf 6 rfl) (hh.sub (.cons _ (.cons _ (.cons _ List.Sublist.slnil))))
                ·
                  skip
                  refine T.pure (.int .i64 r7) (by kernel_rfl) (fun _ => by kernel_rfl) ?_
                  refine T.pure (.bool (r7 == 0)) (by kernel_rfl) (fun _ => by kernel_rfl) ?_
                  refine T.pure (.pointer (some ⟨b1, 0, none⟩)) (by kernel_rfl) (fun _ => by kernel_rfl) ?_
                  refine T.look (.agg #[.int .i64 p0.key.pfs, .int .i64 p0.key.obj, .int .i64 p0.key.off]) (by kernel_rfl) (fun w' hh => exec_loadN (cs := [.int .i64 p0.key.pfs, .int .i64 p0.key.obj, .int .i64 p0.key.off]) rfl rfl (by kernel_rfl) (by kernel_rfl) (fun j u hj => (hh.box_at (i := 2) (cs := [.int .i64 p0.key.pfs, .int .i64 p0.key.obj, .int .i64 p0.key.off, .int .i64 p0.made]) (by rfl) 0 j).trans (seg_at (n := 3) rfl hj))) ?_
                  refine T.pure (.pointer (some ⟨b2, 0, none⟩)) (by kernel_rfl) (fun _ => by kernel_rfl) ?_
                  refine T.look (.agg #[.int .i64 p1.key.pfs, .int .i64 p1.key.obj, .int .i64 p1.key.off]) (by kernel_rfl) (fun w' hh => exec_loadN (cs := [.int .i64 p1.key.pfs, .int .i64 p1.key.obj, .int .i64 p1.key.off]) rfl rfl (by kernel_rfl) (by kernel_rfl) (fun j u hj => (hh.box_at (i := 1) (cs := [.int .i64 p1.key.pfs, .int .i64 p1.key.obj, .int .i64 p1.key.off, .int .i64 p1.made]) (by rfl) 0 j).trans (seg_at (n := 3) rfl hj))) ?_
                  refine T.look (.bool (p0.key == p1.key)) (by kernel_rfl) (fun w' _ => exec_eql_DKey p0.key p1.key w' rfl rfl rfl) ?_
                  refine T.pure (.bool ((r7 == 0) == (p0.key == p1.key))) (by kernel_rfl) (fun _ => by kernel_rfl) ?_
                  refine T.pure (.bool ((r7 == 0) == (p0.key == p1.key))) (by kernel_rfl) (fun _ => by kernel_rfl) ?_
                  refine T.pure (.bool ((r7 == 0) == (p0.key == p1.key))) (by kernel_rfl) (fun _ => by kernel_rfl) ?_
                  cases hg7 : ((r7 == 0) == (p0.key == p1.key))
                  ·
                    skip
                    refine T.pass (by kernel_rfl) (by kernel_rfl) ?_
                    refine T.pass (by kernel_rfl) (by kernel_rfl) ?_
                    refine T.pass (by kernel_rfl) (by kernel_rfl) ?_
                    refine T.pass (by kernel_rfl) (by kernel_rfl) ?_
                    refine T.pass (by kernel_rfl) (by kernel_rfl) ?_
                    refine T.pass (by kernel_rfl) (by kernel_rfl) ?_
                    refine T.pass (by kernel_rfl) (by kernel_rfl) ?_
                    refine T.pure (.bool false) (by kernel_rfl) (fun _ => by kernel_rfl) ?_
                    refine T.pure (.bool false) (by kernel_rfl) (fun _ => by kernel_rfl) ?_
                    refine T.nil ?_
                    exact fun a w' hf hh => And.intro ((Fr.nil hf).pick hf 6 rfl) (hh.sub (.cons _ (.cons _ (.cons _ List.Sublist.slnil))))
                  ·
                    skip
                    refine T.pure (.int .i64 r7) (by kernel_rfl) (fun _ => by kernel_rfl) ?_
                    refine T.pure (.bool (r7 == 0)) (by kernel_rfl) (fun _ => by kernel_rfl) ?_
                    refine T.pure (.bool (r7 == 0)) (by kernel_rfl) (fun _ => by kernel_rfl) ?_
                    cases hg8 : (r7 == 0)
                    ·
                      skip
                      refine T.pure (.int .i64 r7) (by kernel_rfl) (fun _ => by kernel_rfl) ?_
                      refine T.pure (.int .i64 r3) (by kernel_rfl) (fun _ => by kernel_rfl) ?_
                      refine T.pure (.bool (r7 == r3)) (by kernel_rfl) (fun _ => by kernel_rfl) ?_
                      refine T.pure (.bool (r7 == r3)) (by kernel_rfl) (fun _ => by kernel_rfl) ?_
                      refine T.pure (.bool (r7 == r3)) (by kernel_rfl) (fun _ => by kernel_rfl) ?_
                      refine T.pure (.bool (r7 == r3)) (by kernel_rfl) (fun _ => by kernel_rfl) ?_
                      refine T.nil ?_
                      exact fun a w' hf hh => And.intro ((Fr.nil hf).pick hf 6 rfl) (hh.sub (.cons _ (.cons _ (.cons _ List.Sublist.slnil))))
                    ·
                      skip
                      refine T.pass (by kernel_rfl) (by kernel_rfl) ?_
                      refine T.pass (by kernel_rfl) (by kernel_rfl) ?_
                      refine T.pass (by kernel_rfl) (by kernel_rfl) ?_
                      refine T.pure (.bool true) (by kernel_rfl) (fun _ => by kernel_rfl) ?_
                      refine T.pure (.bool true) (by kernel_rfl) (fun _ => by kernel_rfl) ?_
                      refine T.pure (.bool true) (by kernel_rfl) (fun _ => by kernel_rfl) ?_
                      refine T.nil ?_
                      exact fun a w' hf hh => And.intro ((Fr.nil hf).pick hf 6 rfl) (hh.sub (.cons _ (.cons _ (.cons _ List.Sublist.slnil))))
              ·
                skip
                refine T.pass (by kernel_rfl) (by kernel_rfl) ?_
                refine T.pass (by kernel_rfl) (by kernel_rfl) ?_
                refine T.pure (.bool true) (by kernel_rfl) (fun _ => by kernel_rfl) ?_
                refine T.pure (.bool true) (by kernel_rfl) (fun _ => by kernel_rfl) ?_
                refine T.pure (.bool true) (by kernel_rfl) (fun _ => by kernel_rfl) ?_
                refine T.pure (.int .i64 r7) (by kernel_rfl) (fun _ => by kernel_rfl) ?_
                refine T.pure (.bool (r7 == 0)) (by kernel_rfl) (fun _ => by kernel_rfl) ?_
                refine T.pure (.pointer (some ⟨b1, 0, none⟩)) (by kernel_rfl) (fun _ => by kernel_rfl) ?_
                refine T.look (.agg #[.int .i64 p0.key.pfs, .int .i64 p0.key.obj, .int .i64 p0.key.off]) (by kernel_rfl) (fun w' hh => exec_loadN (cs := [.int .i64 p0.key.pfs, .int .i64 p0.key.obj, .int .i64 p0.key.off]) rfl rfl (by kernel_rfl) (by kernel_rfl) (fun j u hj => (hh.box_at (i := 2) (cs := [.int .i64 p0.key.pfs, .int .i64 p0.key.obj, .int .i64 p0.key.off, .int .i64 p0.made]) (by rfl) 0 j).trans (seg_at (n := 3) rfl hj))) ?_
                refine T.pure (.pointer (some ⟨b2, 0, none⟩)) (by kernel_rfl) (fun _ => by kernel_rfl) ?_
                refine T.look (.agg #[.int .i64 p1.key.pfs, .int .i64 p1.key.obj, .int .i64 p1.key.off]) (by kernel_rfl) (fun w' hh => exec_loadN (cs := [.int .i64 p1.key.pfs, .int .i64 p1.key.obj, .int .i64 p1.key.off]) rfl rfl (by kernel_rfl) (by kernel_rfl) (fun j u hj => (hh.box_at (i := 1) (cs := [.int .i64 p1.key.pfs, .int .i64 p1.key.obj, .int .i64 p1.key.off, .int .i64 p1.made]) (by rfl) 0 j).trans (seg_at (n := 3) rfl hj))) ?_
                refine T.look (.bool (p0.key == p1.key)) (by kernel_rfl) (fun w' _ => exec_eql_DKey p0.key p1.key w' rfl rfl rfl) ?_
                refine T.pure (.bool ((r7 == 0) == (p0.key == p1.key))) (by kernel_rfl) (fun _ => by kernel_rfl) ?_
                refine T.pure (.bool ((r7 == 0) == (p0.key == p1.key))) (by kernel_rfl) (fun _ => by kernel_rfl) ?_
                refine T.pure (.bool ((r7 == 0) == (p0.key == p1.key))) (by kernel_rfl) (fun _ => by kernel_rfl) ?_
                cases hg9 : ((r7 == 0) == (p0.key == p1.key))
                ·
                  skip
                  refine T.pass (by kernel_rfl) (by kernel_rfl) ?_
                  refine T.pass (by kernel_rfl) (by kernel_rfl) ?_
                  refine T.pass (by kernel_rfl) (by kernel_rfl) ?_
                  refine T.pass (by kernel_rfl) (by kernel_rfl) ?_
                  refine T.pass (by kernel_rfl) (by kernel_rfl) ?_
                  refine T.pass (by kernel_rfl) (by kernel_rfl) ?_
                  refine T.pass (by kernel_rfl) (by kernel_rfl) ?_
                  refine T.pure (.bool false) (by kernel_rfl) (fun _ => by kernel_rfl) ?_
                  refine T.pure (.bool false) (by kernel_rfl) (fun _ => by kernel_rfl) ?_
                  refine T.nil ?_
                  exact fun a w' hf hh => And.intro ((Fr.nil hf).pick hf 6 rfl) (hh.sub (.cons _ (.cons _ (.cons _ List.Sublist.slnil))))
                ·
                  skip
                  refine T.pure (.int .i64 r7) (by kernel_rfl) (fun _ => by kernel_rfl) ?_
                  refine T.pure (.bool (r7 == 0)) (by kernel_rfl) (fun _ => by kernel_rfl) ?_
                  refine T.pure (.bool (r7 == 0)) (by kernel_rfl) (fun _ => by kernel_rfl) ?_
                  cases hg10 : (r7 == 0)
                  ·
                    skip
                    refine T.pure (.int .i64 r7) (by kernel_rfl) (fun _ => by kernel_rfl) ?_
                    refine T.pure (.int .i64 r3) (by kernel_rfl) (fun _ => by kernel_rfl) ?_
                    refine T.pure (.bool (r7 == r3)) (by kernel_rfl) (fun _ => by kernel_rfl) ?_
                    refine T.pure (.bool (r7 == r3)) (by kernel_rfl) (fun _ => by kernel_rfl) ?_
                    refine T.pure (.bool (r7 == r3)) (by kernel_rfl) (fun _ => by kernel_rfl) ?_
                    refine T.pure (.bool (r7 == r3)) (by kernel_rfl) (fun _ => by kernel_rfl) ?_
                    refine T.nil ?_
                    exact fun a w' hf hh => And.intro ((Fr.nil hf).pick hf 6 rfl) (hh.sub (.cons _ (.cons _ (.cons _ List.Sublist.slnil))))
                  ·
                    skip
                    refine T.pass (by kernel_rfl) (by kernel_rfl) ?_
                    refine T.pass (by kernel_rfl) (by kernel_rfl) ?_
                    refine T.pass (by kernel_rfl) (by kernel_rfl) ?_
                    refine T.pure (.bool true) (by kernel_rfl) (fun _ => by kernel_rfl) ?_
                    refine T.pure (.bool true) (by kernel_rfl) (fun _ => by kernel_rfl) ?_
                    refine T.pure (.bool true) (by kernel_rfl) (fun _ => by kernel_rfl) ?_
                    refine T.nil ?_
                    exact fun a w' hf hh => And.intro ((Fr.nil hf).pick hf 6 rfl) (hh.sub (.cons _ (.cons _ (.cons _ List.Sublist.slnil))))
            ·
              skip
              refine T.pass (by kernel_rfl) (by kernel_rfl) ?_
              refine T.pass (by kernel_rfl) (by kernel_rfl) ?_
              refine T.pure (.bool true) (by kernel_rfl) (fun _ => by kernel_rfl) ?_
              refine T.pure (.bool true) (by kernel_rfl) (fun _ => by kernel_rfl) ?_
              refine T.pass (by kernel_rfl) (by kernel_rfl) ?_
              refine T.pass (by kernel_rfl) (by kernel_rfl) ?_
              refine T.pure (.bool true) (by kernel_rfl) (fun _ => by kernel_rfl) ?_
              refine T.pure (.bool true) (by kernel_rfl) (fun _ => by kernel_rfl) ?_
              refine T.pure (.bool true) (by kernel_rfl) (fun _ => by kernel_rfl) ?_
              refine T.pure (.int .i64 r7) (by kernel_rfl) (fun _ => by kernel_rfl) ?_
              refine T.pure (.bool (r7 == 0)) (by kernel_rfl) (fun _ => by kernel_rfl) ?_
              refine T.pure (.pointer (some ⟨b1, 0, none⟩)) (by kernel_rfl) (fun _ => by kernel_rfl) ?_
              refine T.look (.agg #[.int .i64 p0.key.pfs, .int .i64 p0.key.obj, .int .i64 p0.key.off]) (by kernel_rfl) (fun w' hh => exec_loadN (cs := [.int .i64 p0.key.pfs, .int .i64 p0.key.obj, .int .i64 p0.key.off]) rfl rfl (by kernel_rfl) (by kernel_rfl) (fun j u hj => (hh.box_at (i := 2) (cs := [.int .i64 p0.key.pfs, .int .i64 p0.key.obj, .int .i64 p0.key.off, .int .i64 p0.made]) (by rfl) 0 j).trans (seg_at (n := 3) rfl hj))) ?_
              refine T.pure (.pointer (some ⟨b2, 0, none⟩)) (by kernel_rfl) (fun _ => by kernel_rfl) ?_
              refine T.look (.agg #[.int .i64 p1.key.pfs, .int .i64 p1.key.obj, .int .i64 p1.key.off]) (by kernel_rfl) (fun w' hh => exec_loadN (cs := [.int .i64 p1.key.pfs, .int .i64 p1.key.obj, .int .i64 p1.key.off]) rfl rfl (by kernel_rfl) (by kernel_rfl) (fun j u hj => (hh.box_at (i := 1) (cs := [.int .i64 p1.key.pfs, .int .i64 p1.key.obj, .int .i64 p1.key.off, .int .i64 p1.made]) (by rfl) 0 j).trans (seg_at (n := 3) rfl hj))) ?_
              refine T.look (.bool (p0.key == p1.key)) (by kernel_rfl) (fun w' _ => exec_eql_DKey p0.key p1.key w' rfl rfl rfl) ?_
              refine T.pure (.bool ((r7 == 0) == (p0.key == p1.key))) (by kernel_rfl) (fun _ => by kernel_rfl) ?_
              refine T.pure (.bool ((r7 == 0) == (p0.key == p1.key))) (by kernel_rfl) (fun _ => by kernel_rfl) ?_
              refine T.pure (.bool ((r7 == 0) == (p0.key == p1.key))) (by kernel_rfl) (fun _ => by kernel_rfl) ?_
              cases hg11 : ((r7 == 0) == (p0.key == p1.key))
              ·
                skip
                refine T.pass (by kernel_rfl) (by kernel_rfl) ?_
                refine T.pass (by kernel_rfl) (by kernel_rfl) ?_
                refine T.pass (by kernel_rfl) (by kernel_rfl) ?_
                refine T.pass (by kernel_rfl) (by kernel_rfl) ?_
                refine T.pass (by kernel_rfl) (by kernel_rfl) ?_
                refine T.pass (by kernel_rfl) (by kernel_rfl) ?_
                refine T.pass (by kernel_rfl) (by kernel_rfl) ?_
                refine T.pure (.bool false) (by kernel_rfl) (fun _ => by kernel_rfl) ?_
                refine T.pure (.bool false) (by kernel_rfl) (fun _ => by kernel_rfl) ?_
                refine T.nil ?_
                exact fun a w' hf hh => And.intro ((Fr.nil hf).pick hf 6 rfl) (hh.sub (.cons _ (.cons _ (.cons _ List.Sublist.slnil))))
              ·
                skip
                refine T.pure (.int .i64 r7) (by kernel_rfl) (fun _ => by kernel_rfl) ?_
                refine T.pure (.bool (r7 == 0)) (by kernel_rfl) (fun _ => by kernel_rfl) ?_
                refine T.pure (.bool (r7 == 0)) (by kernel_rfl) (fun _ => by kernel_rfl) ?_
                cases hg12 : (r7 == 0)
                ·
                  skip
                  refine T.pure (.int .i64 r7) (by kernel_rfl) (fun _ => by kernel_rfl) ?_
                  refine T.pure (.int .i64 r3) (by kernel_rfl) (fun _ => by kernel_rfl) ?_
                  refine T.pure (.bool (r7 == r3)) (by kernel_rfl) (fun _ => by kernel_rfl) ?_
                  refine T.pure (.bool (r7 == r3)) (by kernel_rfl) (fun _ => by kernel_rfl) ?_
                  refine T.pure (.bool (r7 == r3)) (by kernel_rfl) (fun _ => by kernel_rfl) ?_
                  refine T.pure (.bool (r7 == r3)) (by kernel_rfl) (fun _ => by kernel_rfl) ?_
                  refine T.nil ?_
                  exact fun a w' hf hh => And.intro ((Fr.nil hf).pick hf 6 rfl) (hh.sub (.cons _ (.cons _ (.cons _ List.Sublist.slnil))))
                ·
                  skip
                  refine T.pass (by kernel_rfl) (by kernel_rfl) ?_
                  refine T.pass (by kernel_rfl) (by kernel_rfl) ?_
                  refine T.pass (by kernel_rfl) (by kernel_rfl) ?_
                  refine T.pure (.bool true) (by kernel_rfl) (fun _ => by kernel_rfl) ?_
                  refine T.pure (.bool true) (by kernel_rfl) (fun _ => by kernel_rfl) ?_
                  refine T.pure (.bool true) (by kernel_rfl) (fun _ => by kernel_rfl) ?_
                  refine T.nil ?_
                  exact fun a w' hf hh => And.intro ((Fr.nil hf).pick hf 6 rfl) (hh.sub (.cons _ (.cons _ (.cons _ List.Sublist.slnil))))
      ·
        rintro a w' ⟨hf, hh⟩
        refine (?_ : T 82 w V4 [] [(6, .bool ((r3 == (IntKind.i64.wrap (0 - r4))) && (((r3 == 0) == (p0 == p1)) && (bif decide ((0 : Int) < r3) then (((r7 == 0) == (p0.key == p1.key)) && ((r7 == 0) || (r7 == r3))) else (bif decide ((0 : Int) < r5) then (((r7 == 0) == (p0.key == p1.key)) && ((r7 == 0) || (r7 == r3))) else ((decide (r6 ≤ 0)) && (((r7 == 0) == (p0.key == p1.key)) && ((r7 == 0) || (r7 == r3)))))))))] _) a w' hf hh
        clear hf hh
        cases hF
        refine T.ret rfl ?_
        exact T.ret1 rfl (ResIs.tmp rfl) fun w' hh => ⟨_, rfl, hh.below, (show _ from rfl)⟩

set_option maxRecDepth 100000 in
set_option maxHeartbeats 4000000 in
theorem annalkeep_ElemTimes_l (p0 : DElem) (p1 : Int) (r : Bool) (hF : annalkeep_ElemTimes p0 p1 = some r) (w : World)  :
    Calls Try.prog 6 #[.agg #[.int .i64 p0.key.pfs, .int .i64 p0.key.obj, .int .i64 p0.key.off, .int .i64 p0.made, .int .i64 p0.gone, .string p0.val], .int .i64 p1] w (Post (vSc eBool) r w) := by
  unfold annalkeep_ElemTimes at hF
  refine T.start (l := [.agg #[.int .i64 p0.key.pfs, .int .i64 p0.key.obj, .int .i64 p0.key.off, .int .i64 p0.made, .int .i64 p0.gone, .string p0.val], .int .i64 p1]) Try.func6 rfl rfl rfl ?_
  refine T.seq ?_
  refine T.region ?_
  refine T.step (W1.new 33 [.int .i64 p0.key.pfs, .int .i64 p0.key.obj, .int .i64 p0.key.off, .int .i64 p0.made, .int .i64 p0.gone, .string p0.val] (fun b => .pointer (some ⟨b, 0, none⟩)) (by kernel_rfl) (fun _ => by kernel_rfl) (fun b1 => ?_))
  refine T.pure (.bool false) (by kernel_rfl) (fun _ => by kernel_rfl) ?_
  refine T.nil ?_
  refine T.seq ?_
  refine T.region ?_
  refine T.pure (.agg #[.int .i64 0, .int .i64 0, .int .i64 0, .int .i64 3, .int .i64 5, .string (ByteArray.mk #[])]) (by kernel_rfl) (fun _ => by kernel_rfl) ?_
  refine T.step (W1.new 33 [.int .i64 0, .int .i64 0, .int .i64 0, .int .i64 0, .int .i64 0, .string (ByteArray.mk #[])] (fun b => .pointer (some ⟨b, 0, none⟩)) (by kernel_rfl) (fun _ => by kernel_rfl) (fun b2 => ?_))
  refine T.step (W1.store 0 [.int .i64 0, .int .i64 0, .int .i64 0, .int .i64 3, .int .i64 5, .string (ByteArray.mk #[])] [box b2 33 [.int .i64 0, .int .i64 0, .int .i64 0, .int .i64 3, .int .i64 5, .string (ByteArray.mk #[])], box b1 33 [.int .i64 p0.key.pfs, .int .i64 p0.key.obj, .int .i64 p0.key.off, .int .i64 p0.made, .int .i64 p0.gone, .string p0.val]] (by rfl) rfl (by kernel_rfl) (fun w' hw => exec_store (vs := [.int .i64 0, .int .i64 0, .int .i64 0, .int .i64 3, .int .i64 5, .string (ByteArray.mk #[])]) rfl rfl rfl rfl (by kernel_rfl) (one_of rfl) (by simp) rfl hw) ?_)
  refine T.nil ?_
  refine T.seq ?_
  obtain ⟨z1, hX1, hF⟩ := Option.bind_eq_some_iff.1 hF
  refine T.cut (fun a w' => ∃ (V1 : View), View.le (vw w) V1 ∧ Fr 77 [(1, .int .i64 p1), (2, .pointer (some ⟨b1, 0, none⟩)), (28, .bool z1)] a ∧ Hp w V1 [box b1 33 [.int .i64 p0.key.pfs, .int .i64 p0.key.obj, .int .i64 p0.key.off, .int .i64 p0.made, .int .i64 p0.gone, .string p0.val]] w') ?_ ?_
  ·
    refine T.region ?_
    refine T.look (.agg #[.int .i64 0, .int .i64 0, .int .i64 0, .int .i64 3, .int .i64 5, .string (ByteArray.mk #[])]) (by kernel_rfl) (fun w' hh => exec_loadN (cs := [.int .i64 0, .int .i64 0, .int .i64 0, .int .i64 3, .int .i64 5, .string (ByteArray.mk #[])]) rfl rfl (by kernel_rfl) (by kernel_rfl) (fun j u hj => (hh.box_at (i := 0) (cs := [.int .i64 0, .int .i64 0, .int .i64 0, .int .i64 3, .int .i64 5, .string (ByteArray.mk #[])]) (by rfl) 0 j).trans (seg_at (n := 6) rfl hj))) ?_
    obtain ⟨r1, hb1, hX1⟩ := Option.bind_eq_some_iff.1 hX1
    refine T.step (W1.call (vSc eBool) r1 23 #[.agg #[.int .i64 0, .int .i64 0, .int .i64 0, .int .i64 3, .int .i64 5, .string (ByteArray.mk #[])], .int .i64 2] (by kernel_rfl) (fun _ => by kernel_rfl) (fun w' hh => elem_Live_l (DElem.mk (DKey.mk 0 0 0) 3 5 (ByteArray.mk #[])) 2 r1 hb1 w' ) ?_)
    intro u V2 hV2 hu
    obtain rfl := sureBool _ _ _ hu
    refine T.pure (.bool r1) (by kernel_rfl) (fun _ => by kernel_rfl) ?_
    cases hg1 : r1
    ·
      skip
      rw [hg1, cond_false] at hX1
      refine T.look (.agg #[.int .i64 0, .int .i64 0, .int .i64 0, .int .i64 3, .int .i64 5, .string (ByteArray.mk #[])]) (by kernel_rfl) (fun w' hh => exec_loadN (cs := [.int .i64 0, .int .i64 0, .int .i64 0, .int .i64 3, .int .i64 5, .string (ByteArray.mk #[])]) rfl rfl (by kernel_rfl) (by kernel_rfl) (fun j u hj => (hh.box_at (i := 0) (cs := [.int .i64 0, .int .i64 0, .int .i64 0, .int .i64 3, .int .i64 5, .string (ByteArray.mk #[])]) (by rfl) 0 j).trans (seg_at (n := 6) rfl hj))) ?_
      obtain ⟨r2, hb2, hX1⟩ := Option.bind_eq_some_iff.1 hX1
      refine T.step (W1.call (vSc eBool) r2 23 #[.agg #[.int .i64 0, .int .i64 0, .int .i64 0, .int .i64 3, .int .i64 5, .string (ByteArray.mk #[])], .int .i64 3] (by kernel_rfl) (fun _ => by kernel_rfl) (fun w' hh => elem_Live_l (DElem.mk (DKey.mk 0 0 0) 3 5 (ByteArray.mk #[])) 3 r2 hb2 w' ) ?_)
      intro u V3 hV3 hu
      obtain rfl := sureBool _ _ _ hu
      refine T.pure (.bool (!r2)) (by kernel_rfl) (fun _ => by kernel_rfl) ?_
      refine T.pure (.bool (!r2)) (by kernel_rfl) (fun _ => by kernel_rfl) ?_
      refine T.pure (.bool (!r2)) (by kernel_rfl) (fun _ => by kernel_rfl) ?_
      cases hg2 : (!r2)
      ·
        skip
        rw [hg2, cond_false] at hX1
        refine T.look (.agg #[.int .i64 0, .int .i64 0, .int .i64 0, .int .i64 3, .int .i64 5, .string (ByteArray.mk #[])]) (by kernel_rfl) (fun w' hh => exec_loadN (cs := [.int .i64 0, .int .i64 0, .int .i64 0, .int .i64 3, .int .i64 5, .string (ByteArray.mk #[])]) rfl rfl (by kernel_rfl) (by kernel_rfl) (fun j u hj => (hh.box_at (i := 0) (cs := [.int .i64 0, .int .i64 0, .int .i64 0, .int .i64 3, .int .i64 5, .string (ByteArray.mk #[])]) (by rfl) 0 j).trans (seg_at (n := 6) rfl hj))) ?_
        obtain ⟨r3, hb3, hX1⟩ := Option.bind_eq_some_iff.1 hX1
        refine T.step (W1.call (vSc eBool) r3 23 #[.agg #[.int .i64 0, .int .i64 0, .int .i64 0, .int .i64 3, .int .i64 5, .string (ByteArray.mk #[])], .int .i64 4] (by kernel_rfl) (fun _ => by kernel_rfl) (fun w' hh => elem_Live_l (DElem.mk (DKey.mk 0 0 0) 3 5 (ByteArray.mk #[])) 4 r3 hb3 w' ) ?_)
        intro u V4 hV4 hu
        obtain rfl := sureBool _ _ _ hu
        refine T.pure (.bool (!r3)) (by kernel_rfl) (fun _ => by kernel_rfl) ?_
        refine T.pure (.bool (!r3)) (by kernel_rfl) (fun _ => by kernel_rfl) ?_
        refine T.pure (.bool (!r3)) (by kernel_rfl) (fun _ => by kernel_rfl) ?_
        cases hg3 : (!r3)
        ·
          skip
          rw [hg3, cond_false] at hX1
          refine T.look (.agg #[.int .i64 0, .int .i64 0, .int .i64 0, .int .i64 3, .int .i64 5, .string (ByteArray.mk #[])]) (by kernel_rfl) (fun w' hh => exec_loadN (cs := [.int .i64 0, .int .i64 0, .int .i64 0, .int .i64 3, .int .i64 5, .string (ByteArray.mk #[])]) rfl rfl (by kernel_rfl) (by kernel_rfl) (fun j u hj => (hh.box_at (i := 0) (cs := [.int .i64 0, .int .i64 0, .int .i64 0, .int .i64 3, .int .i64 5, .string (ByteArray.mk #[])]) (by rfl) 0 j).trans (seg_at (n := 6) rfl hj))) ?_
          obtain ⟨r4, hb4, hX1⟩ := Option.bind_eq_some_iff.1 hX1
          refine T.step (W1.call (vSc eBool) r4 23 #[.agg #[.int .i64 0, .int .i64 0, .int .i64 0, .int .i64 3, .int .i64 5, .string (ByteArray.mk #[])], .int .i64 5] (by kernel_rfl) (fun _ => by kernel_rfl) (fun w' hh => elem_Live_l (DElem.mk (DKey.mk 0 0 0) 3 5 (ByteArray.mk #[])) 5 r4 hb4 w' ) ?_)
          intro u V5 hV5 hu
          obtain rfl := sureBool _ _ _ hu
          refine T.pure (.bool r4) (by kernel_rfl) (fun _ => by kernel_rfl) ?_
          refine T.pure (.bool r4) (by kernel_rfl) (fun _ => by kernel_rfl) ?_
          cases hg4 : r4
          ·
            skip
            rw [hg4, cond_false] at hX1
            refine T.look (.agg #[.int .i64 0, .int .i64 0, .int .i64 0, .int .i64 3, .int .i64 5, .string (ByteArray.mk #[])]) (by kernel_rfl) (fun w' hh => exec_loadN (cs := [.int .i64 0, .int .i64 0, .int .i64 0, .int .i64 3, .int .i64 5, .string (ByteArray.mk #[])]) rfl rfl (by kernel_rfl) (by kernel_rfl) (fun j u hj => (hh.box_at (i := 0) (cs := [.int .i64 0, .int .i64 0, .int .i64 0, .int .i64 3, .int .i64 5, .string (ByteArray.mk #[])]) (by rfl) 0 j).trans (seg_at (n := 6) rfl hj))) ?_
            obtain ⟨r5, hb5, hX1⟩ := Option.bind_eq_some_iff.1 hX1
            refine T.step (W1.call (vSc eInt) r5 24 #[.agg #[.int .i64 0, .int .i64 0, .int .i64 0, .int .i64 3, .int .i64 5, .string (ByteArray.mk #[])]] (by kernel_rfl) (fun _ => by kernel_rfl) (fun w' hh => elem_Last_l (DElem.mk (DKey.mk 0 0 0) 3 5 (ByteArray.mk #[])) r5 hb5 w' ) ?_)
            intro u V6 hV6 hu
            obtain rfl := sureInt _ _ _ hu
            refine T.pure (.bool (r5 != 5)) (by kernel_rfl) (fun _ => by kernel_rfl) ?_
            refine T.pure (.bool (r5 != 5)) (by kernel_rfl) (fun _ => by kernel_rfl) ?_
            refine T.nil ?_
            cases hX1
            exact fun a w' hf hh => Exists.intro V6 (And.intro (View.le_trans (View.le_trans (View.le_trans (View.le_trans hV2 hV3) hV4) hV5) hV6) (And.intro ((((Fr.nil hf).pick hf 28 rfl).pick hf 2 rfl).pick hf 1 rfl) (hh.sub (.cons _ (.cons_cons _ List.Sublist.slnil)))))
          ·
            skip
            rw [hg4, cond_true] at hX1
            refine T.pass (by kernel_rfl) (by kernel_rfl) ?_
            refine T.pass (by kernel_rfl) (by kernel_rfl) ?_
            refine T.pass (by kernel_rfl) (by kernel_rfl) ?_
            refine T.pure (.bool true) (by kernel_rfl) (fun _ => by kernel_rfl) ?_
            refine T.nil ?_
            cases hX1
            exact fun a w' hf hh => Exists.intro V5 (And.intro (View.le_trans (View.le_trans (View.le_trans hV2 hV3) hV4) hV5) (And.intro ((((Fr.nil hf).pick hf 28 rfl).pick hf 2 rfl).pick hf 1 rfl) (hh.sub (.cons _ (.cons_cons _ List.Sublist.slnil)))))
        ·
          skip
          rw [hg3, cond_true] at hX1
          refine T.pass (by kernel_rfl) (by kernel_rfl) ?_
          refine T.pass (by kernel_rfl) (by kernel_rfl) ?_
          refine T.pure (.bool true) (by kernel_rfl) (fun _ => by kernel_rfl) ?_
          refine T.pure (.bool true) (by kernel_rfl) (fun _ => by kernel_rfl) ?_
          refine T.pass (by kernel_rfl) (by kernel_rfl) ?_
          refine T.pass (by kernel_rfl) (by kernel_rfl) ?_
          refine T.pass (by kernel_rfl) (by kernel_rfl) ?_
          refine T.pure (.bool true) (by kernel_rfl) (fun _ => by kernel_rfl) ?_
          refine T.nil ?_
          cases hX1
          exact fun a w' hf hh => Exists.intro V4 (And.intro (View.le_trans (View.le_trans hV2 hV3) hV4) (And.intro ((((Fr.nil hf).pick hf 28 rfl).pick hf 2 rfl).pick hf 1 rfl) (hh.sub (.cons _ (.cons_cons _ List.Sublist.slnil)))))
      ·
        skip
        rw [hg2, cond_true] at hX1
        refine T.pass (by kernel_rfl) (by kernel_rfl) ?_
        refine T.pass (by kernel_rfl) (by kernel_rfl) ?_
        refine T.pass (by kernel_rfl) (by kernel_rfl) ?_
        refine T.pure (.bool true) (by kernel_rfl) (fun _ => by kernel_rfl) ?_
        refine T.pure (.bool true) (by kernel_rfl) (fun _ => by kernel_rfl) ?_
        refine T.pass (by kernel_rfl) (by kernel_rfl) ?_
        refine T.pass (by kernel_rfl) (by kernel_rfl) ?_
        refine T.pure (.bool true) (by kernel_rfl) (fun _ => by kernel_rfl) ?_
        refine T.pure (.bool true) (by kernel_rfl) (fun _ => by kernel_rfl) ?_
        refine T.pass (by kernel_rfl) (by kernel_rfl) ?_
        refine T.pass (by kernel_rfl) (by kernel_rfl) ?_
        refine T.pass (by kernel_rfl) (by kernel_rfl) ?_
        refine T.pure (.bool true) (by kernel_rfl) (fun _ => by kernel_rfl) ?_
        refine T.nil ?_
        cases hX1
        exact fun a w' hf hh => Exists.intro V3 (And.intro (View.le_trans hV2 hV3) (And.intro ((((Fr.nil hf).pick hf 28 rfl).pick hf 2 rfl).pick hf 1 rfl) (hh.sub (.cons _ (.cons_cons _ List.Sublist.slnil)))))
    ·
      skip
      rw [hg1, cond_true] at hX1
      refine T.pass (by kernel_rfl) (by kernel_rfl) ?_
      refine T.pass (by kernel_rfl) (by kernel_rfl) ?_
      refine T.pass (by kernel_rfl) (by kernel_rfl) ?_
      refine T.pure (.bool true) (by kernel_rfl) (fun _ => by kernel_rfl) ?_
      refine T.pure (.bool true) (by kernel_rfl) (fun _ => by kernel_rfl) ?_
      refine T.pass (by kernel_rfl) (by kernel_rfl) ?_
      refine T.pass (by kernel_rfl) (by kernel_rfl) ?_
      refine T.pass (by kernel_rfl) (by kernel_rfl) ?_
      refine T.pure (.bool true) (by kernel_rfl) (fun _ => by kernel_rfl) ?_
      refine T.pure (.bool true) (by kernel_rfl) (fun _ => by kernel_rfl) ?_
      refine T.pass (by kernel_rfl) (by kernel_rfl) ?_
      refine T.pass (by kernel_rfl) (by kernel_rfl) ?_
      refine T.pure (.bool true) (by kernel_rfl) (fun _ => by kernel_rfl) ?_
      refine T.pure (.bool true) (by kernel_rfl) (fun _ => by kernel_rfl) ?_
      refine T.pass (by kernel_rfl) (by kernel_rfl) ?_
      refine T.pass (by kernel_rfl) (by kernel_rfl) ?_
      refine T.pass (by kernel_rfl) (by kernel_rfl) ?_
      refine T.pure (.bool true) (by kernel_rfl) (fun _ => by kernel_rfl) ?_
      refine T.nil ?_
      cases hX1
      exact fun a w' hf hh => Exists.intro V2 (And.intro hV2 (And.intro ((((Fr.nil hf).pick hf 28 rfl).pick hf 2 rfl).pick hf 1 rfl) (hh.sub (.cons _ (.cons_cons _ List.Sublist.slnil)))))
  ·
    rintro a w' ⟨V1, hV1, hf, hh⟩
    refine (?_ : T 77 w V1 [box b1 33 [.int .i64 p0.key.pfs, .int .i64 p0.key.obj, .int .i64 p0.key.off, .int .i64 p0.made, .int .i64 p0.gone, .string p0.val]] [(1, .int .i64 p1), (2, .pointer (some ⟨b1, 0, none⟩)), (28, .bool z1)] _) a w' hf hh
    clear hf hh
    refine T.cond z1 (by kernel_rfl) (by kernel_rfl) (fun hc1 => ?_) (fun hc1 => ?_)
    ·
      rw [hc1, cond_true] at hF
      refine T.seq ?_
      refine T.region ?_
      refine T.pure (.bool false) (by kernel_rfl) (fun _ => by kernel_rfl) ?_
      refine T.nil ?_
      cases hF
      refine T.ret rfl ?_
      exact T.ret1 rfl (ResIs.tmp rfl) fun w' hh => ⟨_, rfl, hh.below, (show _ from rfl)⟩
    ·
      rw [hc1, cond_false] at hF
      refine T.skip_code ?_
      refine T.seq ?_
      refine T.seq ?_
      refine T.region ?_
      refine T.look (.agg #[.int .i64 p0.key.pfs, .int .i64 p0.key.obj, .int .i64 p0.key.off, .int .i64 p0.made, .int .i64 p0.gone, .string p0.val]) (by kernel_rfl) (fun w' hh => exec_loadN (cs := [.int .i64 p0.key.pfs, .int .i64 p0.key.obj, .int .i64 p0.key.off, .int .i64 p0.made, .int .i64 p0.gone, .string p0.val]) rfl rfl (by kernel_rfl) (by kernel_rfl) (fun j u hj => (hh.box_at (i := 0) (cs := [.int .i64 p0.key.pfs, .int .i64 p0.key.obj, .int .i64 p0.key.off, .int .i64 p0.made, .int .i64 p0.gone, .string p0.val]) (by rfl) 0 j).trans (seg_at (n := 6) rfl hj))) ?_
      obtain ⟨r6, hb6, hF⟩ := Option.bind_eq_some_iff.1 hF
      refine T.step (W1.call (vSc eInt) r6 25 #[.agg #[.int .i64 p0.key.pfs, .int .i64 p0.key.obj, .int .i64 p0.key.off, .int .i64 p0.made, .int .i64 p0.gone, .string p0.val]] (by kernel_rfl) (fun _ => by kernel_rfl) (fun w' hh => elem_Check_l p0 r6 hb6 w' ) ?_)
      intro u V7 hV7 hu
      obtain rfl := sureInt _ _ _ hu
      refine T.pure (.bool (r6 != 0)) (by kernel_rfl) (fun _ => by kernel_rfl) ?_
      refine T.nil ?_
      refine T.cond (r6 != 0) (by kernel_rfl) (by kernel_rfl) (fun hc2 => ?_) (fun hc2 => ?_)
      ·
        rw [hc2, cond_true] at hF
        refine T.seq ?_
        refine T.region ?_
        refine T.pure (.bool true) (by kernel_rfl) (fun _ => by kernel_rfl) ?_
        refine T.nil ?_
        cases hF
        refine T.ret rfl ?_
        exact T.ret1 rfl (ResIs.tmp rfl) fun w' hh => ⟨_, rfl, hh.below, (show _ from rfl)⟩
      ·
        rw [hc2, cond_false] at hF
        refine T.skip_code ?_
        refine T.seq ?_
        refine T.region ?_
        refine T.look (.agg #[.int .i64 p0.key.pfs, .int .i64 p0.key.obj, .int .i64 p0.key.off, .int .i64 p0.made, .int .i64 p0.gone, .string p0.val]) (by kernel_rfl) (fun w' hh => exec_loadN (cs := [.int .i64 p0.key.pfs, .int .i64 p0.key.obj, .int .i64 p0.key.off, .int .i64 p0.made, .int .i64 p0.gone, .string p0.val]) rfl rfl (by kernel_rfl) (by kernel_rfl) (fun j u hj => (hh.box_at (i := 0) (cs := [.int .i64 p0.key.pfs, .int .i64 p0.key.obj, .int .i64 p0.key.off, .int .i64 p0.made, .int .i64 p0.gone, .string p0.val]) (by rfl) 0 j).trans (seg_at (n := 6) rfl hj))) ?_
        obtain ⟨r7, hb7, hF⟩ := Option.bind_eq_some_iff.1 hF
        refine T.step (W1.call (vSc eInt) r7 24 #[.agg #[.int .i64 p0.key.pfs, .int .i64 p0.key.obj, .int .i64 p0.key.off, .int .i64 p0.made, .int .i64 p0.gone, .string p0.val]] (by kernel_rfl) (fun _ => by kernel_rfl) (fun w' hh => elem_Last_l p0 r7 hb7 w' ) ?_)
        intro u V8 hV8 hu
        obtain rfl := sureInt _ _ _ hu
        refine T.pure (.int .i64 r7) (by kernel_rfl) (fun _ => by kernel_rfl) ?_
        refine T.nil ?_
        refine T.seq ?_
        obtain ⟨z2, hX2, hF⟩ := Option.bind_eq_some_iff.1 hF
        refine T.cut (fun a w' => Fr 77 [(2, .pointer (some ⟨b1, 0, none⟩)), (45, .bool z2)] a ∧ Hp w V8 [box b1 33 [.int .i64 p0.key.pfs, .int .i64 p0.key.obj, .int .i64 p0.key.off, .int .i64 p0.made, .int .i64 p0.gone, .string p0.val]] w') ?_ ?_
        ·
          refine T.quiet (by kernel_rfl) (by kernel_rfl) ?_
          refine TQ.pure (.int .i64 p1) (by kernel_rfl) (fun _ => by kernel_rfl) ?_
          refine TQ.pure (.int .i64 r7) (by kernel_rfl) (fun _ => by kernel_rfl) ?_
          refine TQ.pure (.bool (decide (r7 ≤ p1))) (by kernel_rfl) (fun _ => by kernel_rfl) ?_
          refine TQ.pure (.bool (decide (r7 ≤ p1))) (by kernel_rfl) (fun _ => by kernel_rfl) ?_
          cases hg5 : decide (r7 ≤ p1)
          ·
            skip
            rw [hg5, cond_false] at hX2
            refine TQ.pass (by kernel_rfl) (by kernel_rfl) ?_
            refine TQ.pass (by kernel_rfl) (by kernel_rfl) ?_
            refine TQ.pass (by kernel_rfl) (by kernel_rfl) ?_
            refine TQ.pass (by kernel_rfl) (by kernel_rfl) ?_
            refine TQ.pass (by kernel_rfl) (by kernel_rfl) ?_
            refine TQ.pass (by kernel_rfl) (by kernel_rfl) ?_
            refine TQ.pass (by kernel_rfl) (by kernel_rfl) ?_
            refine TQ.pure (.bool false) (by kernel_rfl) (fun _ => by kernel_rfl) ?_
            refine TQ.nil ?_
            cases hX2
            exact fun a w' hf hh => And.intro (((Fr.nil hf).pick hf 45 rfl).pick hf 2 rfl) (hh.sub (.cons_cons _ List.Sublist.slnil))
          ·
            skip
            rw [hg5, cond_true] at hX2
            refine TQ.look (.agg #[.int .i64 p0.key.pfs, .int .i64 p0.key.obj, .int .i64 p0.key.off, .int .i64 p0.made, .int .i64 p0.gone, .string p0.val]) (by kernel_rfl) (fun w' hh => exec_loadN (cs := [.int .i64 p0.key.pfs, .int .i64 p0.key.obj, .int .i64 p0.key.off, .int .i64 p0.made, .int .i64 p0.gone, .string p0.val]) rfl rfl (by kernel_rfl) (by kernel_rfl) (fun j u hj => (hh.box_at (i := 0) (cs := [.int .i64 p0.key.pfs, .int .i64 p0.key.obj, .int .i64 p0.key.off, .int .i64 p0.made, .int .i64 p0.gone, .string p0.val]) (by rfl) 0 j).trans (seg_at (n := 6) rfl hj))) ?_
            refine TQ.pure (.int .i64 p1) (by kernel_rfl) (fun _ => by kernel_rfl) ?_
            obtain ⟨r8, hb8, hX2⟩ := Option.bind_eq_some_iff.1 hX2
            refine TQ.call (vSc eBool) r8 23 #[.agg #[.int .i64 p0.key.pfs, .int .i64 p0.key.obj, .int .i64 p0.key.off, .int .i64 p0.made, .int .i64 p0.gone, .string p0.val], .int .i64 p1] (.bool r8) (fun V u hu => sureBool V u _ hu) (by kernel_rfl) (fun _ => by kernel_rfl) (fun w' hh => elem_Live_l p0 p1 r8 hb8 w' ) ?_
            refine TQ.pure (.pointer (some ⟨b1, 4, none⟩)) (by kernel_rfl) (fun _ => by kernel_rfl) ?_
            refine TQ.look (.int .i64 p0.gone) (by kernel_rfl) (fun w' hh => exec_load1 rfl rfl (by kernel_rfl) (hh.cellBox (i := 0) (by rfl) 4)) ?_
            refine TQ.pure (.bool (p0.gone == 0)) (by kernel_rfl) (fun _ => by kernel_rfl) ?_
            refine TQ.pure (.bool (!(r8 == (p0.gone == 0)))) (by kernel_rfl) (fun _ => by kernel_rfl) ?_
            refine TQ.pure (.bool (!(r8 == (p0.gone == 0)))) (by kernel_rfl) (fun _ => by kernel_rfl) ?_
            refine TQ.nil ?_
            cases hX2
            exact fun a w' hf hh => And.intro (((Fr.nil hf).pick hf 45 rfl).pick hf 2 rfl) (hh.sub (.cons_cons _ List.Sublist.slnil))
        ·
          rintro a w' ⟨hf, hh⟩
          refine (?_ : T 77 w V8 [box b1 33 [.int .i64 p0.key.pfs, .int .i64 p0.key.obj, .int .i64 p0.key.off, .int .i64 p0.made, .int .i64 p0.gone, .string p0.val]] [(2, .pointer (some ⟨b1, 0, none⟩)), (45, .bool z2)] _) a w' hf hh
          clear hf hh
          refine T.cond z2 (by kernel_rfl) (by kernel_rfl) (fun hc3 => ?_) (fun hc3 => ?_)
          ·
            rw [hc3, cond_true] at hF
            refine T.seq ?_
            refine T.region ?_
            refine T.pure (.bool false) (by kernel_rfl) (fun _ => by kernel_rfl) ?_
            refine T.nil ?_
            cases hF
            refine T.ret rfl ?_
            exact T.ret1 rfl (ResIs.tmp rfl) fun w' hh => ⟨_, rfl, hh.below, (show _ from rfl)⟩
          ·
            rw [hc3, cond_false] at hF
            refine T.skip_code ?_
            obtain ⟨z3, hX3, hF⟩ := Option.bind_eq_some_iff.1 hF
            refine T.cut (fun a w' => ∃ (V9 : View), View.le V8 V9 ∧ Fr 77 [(4, .bool z3)] a ∧ Hp w V9 [] w') ?_ ?_
            ·
              refine T.region ?_
              refine T.look (.agg #[.int .i64 p0.key.pfs, .int .i64 p0.key.obj, .int .i64 p0.key.off, .int .i64 p0.made, .int .i64 p0.gone, .string p0.val]) (by kernel_rfl) (fun w' hh => exec_loadN (cs := [.int .i64 p0.key.pfs, .int .i64 p0.key.obj, .int .i64 p0.key.off, .int .i64 p0.made, .int .i64 p0.gone, .string p0.val]) rfl rfl (by kernel_rfl) (by kernel_rfl) (fun j u hj => (hh.box_at (i := 0) (cs := [.int .i64 p0.key.pfs, .int .i64 p0.key.obj, .int .i64 p0.key.off, .int .i64 p0.made, .int .i64 p0.gone, .string p0.val]) (by rfl) 0 j).trans (seg_at (n := 6) rfl hj))) ?_
              refine T.pure (.pointer (some ⟨b1, 3, none⟩)) (by kernel_rfl) (fun _ => by kernel_rfl) ?_
              refine T.look (.int .i64 p0.made) (by kernel_rfl) (fun w' hh => exec_load1 rfl rfl (by kernel_rfl) (hh.cellBox (i := 0) (by rfl) 3)) ?_
              obtain ⟨r9, hb9, hX3⟩ := Option.bind_eq_some_iff.1 hX3
              refine T.step (W1.call (vSc eBool) r9 23 #[.agg #[.int .i64 p0.key.pfs, .int .i64 p0.key.obj, .int .i64 p0.key.off, .int .i64 p0.made, .int .i64 p0.gone, .string p0.val], .int .i64 p0.made] (by kernel_rfl) (fun _ => by kernel_rfl) (fun w' hh => elem_Live_l p0 p0.made r9 hb9 w' ) ?_)
              intro u V10 hV10 hu
              obtain rfl := sureBool _ _ _ hu
              refine T.pure (.bool r9) (by kernel_rfl) (fun _ => by kernel_rfl) ?_
              cases hg6 : r9
              ·
                skip
                rw [hg6, cond_false] at hX3
                refine T.pass (by kernel_rfl) (by kernel_rfl) ?_
                refine T.pass (by kernel_rfl) (by kernel_rfl) ?_
                refine T.pass (by kernel_rfl) (by kernel_rfl) ?_
                refine T.pass (by kernel_rfl) (by kernel_rfl) ?_
                refine T.pass (by kernel_rfl) (by kernel_rfl) ?_
                refine T.pass (by kernel_rfl) (by kernel_rfl) ?_
                refine T.pure (.bool false) (by kernel_rfl) (fun _ => by kernel_rfl) ?_
                refine T.pure (.bool false) (by kernel_rfl) (fun _ => by kernel_rfl) ?_
                refine T.pass (by kernel_rfl) (by kernel_rfl) ?_
                refine T.pass (by kernel_rfl) (by kernel_rfl) ?_
                refine T.pass (by kernel_rfl) (by kernel_rfl) ?_
                refine T.pass (by kernel_rfl) (by kernel_rfl) ?_
                refine T.pass (by kernel_rfl) (by kernel_rfl) ?_
                refine T.pass (by kernel_rfl) (by kernel_rfl) ?_
                refine T.pass (by kernel_rfl) (by kernel_rfl) ?_
                refine T.pass (by kernel_rfl) (by kernel_rfl) ?_
                refine T.pass (by kernel_rfl) (by kernel_rfl) ?_
                refine T.pass (by kernel_rfl) (by kernel_rfl) ?_
                refine T.pass (by kernel_rfl) (by kernel_rfl) ?_
                refine T.pass (by kernel_rfl) (by kernel_rfl) ?_
                refine T.pass (by kernel_rfl) (by kernel_rfl) ?_
                refine T.pass (by kernel_rfl) (by kernel_rfl) ?_
                refine T.pass (by kernel_rfl) (by kernel_rfl) ?_
                refine T.pass (by kernel_rfl) (by kernel_rfl) ?_
                refine T.pass (by kernel_rfl) (by kernel_rfl) ?_
                refine T.pure (.bool false) (by kernel_rfl) (fun _ => by kernel_rfl) ?_
                refine T.pure (.bool false) (by kernel_rfl) (fun _ => by kernel_rfl) ?_
                refine T.nil ?_
                cases hX3
                exact fun a w' hf hh => Exists.intro V10 (And.intro hV10 (And.intro ((Fr.nil hf).pick hf 4 rfl) (hh.sub (.cons _ List.Sublist.slnil))))
              ·
                skip
                rw [hg6, cond_true] at hX3
                refine T.look (.agg #[.int .i64 p0.key.pfs, .int .i64 p0.key.obj, .int .i64 p0.key.off, .int .i64 p0.made, .int .i64 p0.gone, .string p0.val]) (by kernel_rfl) (fun w' hh => exec_loadN (cs := [.int .i64 p0.key.pfs, .int .i64 p0.key.obj, .int .i64 p0.key.off, .int .i64 p0.made, .int .i64 p0.gone, .string p0.val]) rfl rfl (by kernel_rfl) (by kernel_rfl) (fun j u hj => (hh.box_at (i := 0) (cs := [.int .i64 p0.key.pfs, .int .i64 p0.key.obj, .int .i64 p0.key.off, .int .i64 p0.made, .int .i64 p0.gone, .string p0.val]) (by rfl) 0 j).trans (seg_at (n := 6) rfl hj))) ?_
                refine T.pure (.pointer (some ⟨b1, 3, none⟩)) (by kernel_rfl) (fun _ => by kernel_rfl) ?_
                refine T.look (.int .i64 p0.made) (by kernel_rfl) (fun w' hh => exec_load1 rfl rfl (by kernel_rfl) (hh.cellBox (i := 0) (by rfl) 3)) ?_
                refine T.pure (.int .i64 (IntKind.i64.wrap (p0.made - 1))) (by kernel_rfl) (fun _ => by kernel_rfl) ?_
                obtain ⟨r10, hb10, hX3⟩ := Option.bind_eq_some_iff.1 hX3
                refine T.step (W1.call (vSc eBool) r10 23 #[.agg #[.int .i64 p0.key.pfs, .int .i64 p0.key.obj, .int .i64 p0.key.off, .int .i64 p0.made, .int .i64 p0.gone, .string p0.val], .int .i64 (IntKind.i64.wrap (p0.made - 1))] (by kernel_rfl) (fun _ => by kernel_rfl) (fun w' hh => elem_Live_l p0 (IntKind.i64.wrap (p0.made - 1)) r10 hb10 w' ) ?_)
                intro u V11 hV11 hu
                obtain rfl := sureBool _ _ _ hu
                refine T.pure (.bool (!r10)) (by kernel_rfl) (fun _ => by kernel_rfl) ?_
                refine T.pure (.bool (!r10)) (by kernel_rfl) (fun _ => by kernel_rfl) ?_
                refine T.pure (.bool (!r10)) (by kernel_rfl) (fun _ => by kernel_rfl) ?_
                cases hg7 : (!r10)
                ·
                  skip
                  rw [hg7, cond_false] at hX3
                  refine T.pass (by kernel_rfl) (by kernel_rfl) ?_
                  refine T.pass (by kernel_rfl) (by kernel_rfl) ?_
                  refine T.pass (by kernel_rfl) (by kernel_rfl) ?_
                  refine T.pass (by kernel_rfl) (by kernel_rfl) ?_
                  refine T.pass (by kernel_rfl) (by kernel_rfl) ?_
                  refine T.pass (by kernel_rfl) (by kernel_rfl) ?_
                  refine T.pass (by kernel_rfl) (by kernel_rfl) ?_
                  refine T.pass (by kernel_rfl) (by kernel_rfl) ?_
                  refine T.pass (by kernel_rfl) (by kernel_rfl) ?_
                  refine T.pass (by kernel_rfl) (by kernel_rfl) ?_
                  refine T.pass (by kernel_rfl) (by kernel_rfl) ?_
                  refine T.pass (by kernel_rfl) (by kernel_rfl) ?_
                  refine T.pass (by kernel_rfl) (by kernel_rfl) ?_
                  refine T.pass (by kernel_rfl) (by kernel_rfl) ?_
                  refine T.pass (by kernel_rfl) (by kernel_rfl) ?_
                  refine T.pass (by kernel_rfl) (by kernel_rfl) ?_
                  refine T.pass (by kernel_rfl) (by kernel_rfl) ?_
                  refine T.pure (.bool false) (by kernel_rfl) (fun _ => by kernel_rfl) ?_
                  refine T.pure (.bool false) (by kernel_rfl) (fun _ => by kernel_rfl) ?_
                  refine T.nil ?_
                  cases hX3
                  exact fun a w' hf hh => Exists.intro V11 (And.intro (View.le_trans hV10 hV11) (And.intro ((Fr.nil hf).pick hf 4 rfl) (hh.sub (.cons _ List.Sublist.slnil))))
                ·
                  skip
                  rw [hg7, cond_true] at hX3
                  refine T.pure (.pointer (some ⟨b1, 4, none⟩)) (by kernel_rfl) (fun _ => by kernel_rfl) ?_
                  refine T.look (.int .i64 p0.gone) (by kernel_rfl) (fun w' hh => exec_load1 rfl rfl (by kernel_rfl) (hh.cellBox (i := 0) (by rfl) 4)) ?_
                  refine T.pure (.bool (p0.gone == 0)) (by kernel_rfl) (fun _ => by kernel_rfl) ?_
                  refine T.pure (.bool (p0.gone == 0)) (by kernel_rfl) (fun _ => by kernel_rfl) ?_
                  cases hg8 : (p0.gone == 0)
                  ·
                    skip
                    rw [hg8, cond_false] at hX3
                    refine T.look (.agg #[.int .i64 p0.key.pfs, .int .i64 p0.key.obj, .int .i64 p0.key.off, .int .i64 p0.made, .int .i64 p0.gone, .string p0.val]) (by kernel_rfl) (fun w' hh => exec_loadN (cs := [.int .i64 p0.key.pfs, .int .i64 p0.key.obj, .int .i64 p0.key.off, .int .i64 p0.made, .int .i64 p0.gone, .string p0.val]) rfl rfl (by kernel_rfl) (by kernel_rfl) (fun j u hj => (hh.box_at (i := 0) (cs := [.int .i64 p0.key.pfs, .int .i64 p0.key.obj, .int .i64 p0.key.off, .int .i64 p0.made, .int .i64 p0.gone, .string p0.val]) (by rfl) 0 j).trans (seg_at (n := 6) rfl hj))) ?_
                    refine T.pure (.pointer (some ⟨b1, 4, none⟩)) (by kernel_rfl) (fun _ => by kernel_rfl) ?_
                    refine T.look (.int .i64 p0.gone) (by kernel_rfl) (fun w' hh => exec_load1 rfl rfl (by kernel_rfl) (hh.cellBox (i := 0) (by rfl) 4)) ?_
                    refine T.pure (.int .i64 (IntKind.i64.wrap (p0.gone - 1))) (by kernel_rfl) (fun _ => by kernel_rfl) ?_
                    obtain ⟨r11, hb11, hX3⟩ := Option.bind_eq_some_iff.1 hX3
                    refine T.step (W1.call (vSc eBool) r11 23 #[.agg #[.int .i64 p0.key.pfs, .int .i64 p0.key.obj, .int .i64 p0.key.off, .int .i64 p0.made, .int .i64 p0.gone, .string p0.val], .int .i64 (IntKind.i64.wrap (p0.gone - 1))] (by kernel_rfl) (fun _ => by kernel_rfl) (fun w' hh => elem_Live_l p0 (IntKind.i64.wrap (p0.gone - 1)) r11 hb11 w' ) ?_)
                    intro u V12 hV12 hu
                    obtain rfl := sureBool _ _ _ hu
                    refine T.pure (.bool r11) (by kernel_rfl) (fun _ => by kernel_rfl) ?_
                    cases hg9 : r11
                    ·
                      skip
                      rw [hg9, cond_false] at hX3
                      refine T.pass (by kernel_rfl) (by kernel_rfl) ?_
                      refine T.pass (by kernel_rfl) (by kernel_rfl) ?_
                      refine T.pass (by kernel_rfl) (by kernel_rfl) ?_
                      refine T.pass (by kernel_rfl) (by kernel_rfl) ?_
                      refine T.pass (by kernel_rfl) (by kernel_rfl) ?_
                      refine T.pure (.bool false) (by kernel_rfl) (fun _ => by kernel_rfl) ?_
                      refine T.pure (.bool false) (by kernel_rfl) (fun _ => by kernel_rfl) ?_
                      refine T.pure (.bool false) (by kernel_rfl) (fun _ => by kernel_rfl) ?_
                      refine T.pure (.bool false) (by kernel_rfl) (fun _ => by kernel_rfl) ?_
                      refine T.nil ?_
                      cases hX3
                      exact fun a w' hf hh => Exists.intro V12 (And.intro (View.le_trans (View.le_trans hV10 hV11) hV12) (And.intro ((Fr.nil hf).pick hf 4 rfl) (hh.sub (.cons _ List.Sublist.slnil))))
                    ·
                      skip
                      rw [hg9, cond_true] at hX3
                      refine T.look (.agg #[.int .i64 p0.key.pfs, .int .i64 p0.key.obj, .int .i64 p0.key.off, .int .i64 p0.made, .int .i64 p0.gone, .string p0.val]) (by kernel_rfl) (fun w' hh => exec_loadN (cs := [.int .i64 p0.key.pfs, .int .i64 p0.key.obj, .int .i64 p0.key.off, .int .i64 p0.made, .int .i64 p0.gone, .string p0.val]) rfl rfl (by kernel_rfl) (by kernel_rfl) (fun j u hj => (hh.box_at (i := 0) (cs := [.int .i64 p0.key.pfs, .int .i64 p0.key.obj, .int .i64 p0.key.off, .int .i64 p0.made, .int .i64 p0.gone, .string p0.val]) (by rfl) 0 j).trans (seg_at (n := 6) rfl hj))) ?_
                      refine T.pure (.pointer (some ⟨b1, 4, none⟩)) (by kernel_rfl) (fun _ => by kernel_rfl) ?_
                      refine T.look (.int .i64 p0.gone) (by kernel_rfl) (fun w' hh => exec_load1 rfl rfl (by kernel_rfl) (hh.cellBox (i := 0) (by rfl) 4)) ?_
                      obtain ⟨r12, hb12, hX3⟩ := Option.bind_eq_some_iff.1 hX3
                      refine T.step (W1.call (vSc eBool) r12 23 #[.agg #[.int .i64 p0.key.pfs, .int .i64 p0.key.obj, .int .i64 p0.key.off, .int .i64 p0.made, .int .i64 p0.gone, .string p0.val], .int .i64 p0.gone] (by kernel_rfl) (fun _ => by kernel_rfl) (fun w' hh => elem_Live_l p0 p0.gone r12 hb12 w' ) ?_)
                      intro u V13 hV13 hu
                      obtain rfl := sureBool _ _ _ hu
                      refine T.pure (.bool (!r12)) (by kernel_rfl) (fun _ => by kernel_rfl) ?_
                      refine T.pure (.bool (!r12)) (by kernel_rfl) (fun _ => by kernel_rfl) ?_
                      refine T.pure (.bool (!r12)) (by kernel_rfl) (fun _ => by kernel_rfl) ?_
                      refine T.pure (.bool (!r12)) (by kernel_rfl) (fun _ => by kernel_rfl) ?_
                      refine T.pure (.bool (!r12)) (by kernel_rfl) (fun _ => by kernel_rfl) ?_
                      refine T.nil ?_
                      cases hX3
                      exact fun a w' hf hh => Exists.intro V13 (And.intro (View.le_trans (View.le_trans (View.le_trans hV10 hV11) hV12) hV13) (And.intro ((Fr.nil hf).pick hf 4 rfl) (hh.sub (.cons _ List.Sublist.slnil))))
                  ·
                    skip
                    rw [hg8, cond_true] at hX3
                    refine T.pass (by kernel_rfl) (by kernel_rfl) ?_
                    refine T.pass (by kernel_rfl) (by kernel_rfl) ?_
                    refine T.pass (by kernel_rfl) (by kernel_rfl) ?_
                    refine T.pass (by kernel_rfl) (by kernel_rfl) ?_
                    refine T.pass (by kernel_rfl) (by kernel_rfl) ?_
                    refine T.pass (by kernel_rfl) (by kernel_rfl) ?_
                    refine T.pass (by kernel_rfl) (by kernel_rfl) ?_
                    refine T.pass (by kernel_rfl) (by kernel_rfl) ?_
                    refine T.pass (by kernel_rfl) (by kernel_rfl) ?_
                    refine T.pass (by kernel_rfl) (by kernel_rfl) ?_
                    refine T.pass (by kernel_rfl) (by kernel_rfl) ?_
                    refine T.pass (by kernel_rfl) (by kernel_rfl) ?_
                    refine T.pure (.bool true) (by kernel_rfl) (fun _ => by kernel_rfl) ?_
                    refine T.pure (.bool true) (by kernel_rfl) (fun _ => by kernel_rfl) ?_
                    refine T.pure (.bool true) (by kernel_rfl) (fun _ => by kernel_rfl) ?_
                    refine T.nil ?_
                    cases hX3
                    exact fun a w' hf hh => Exists.intro V11 (And.intro (View.le_trans hV10 hV11) (And.intro ((Fr.nil hf).pick hf 4 rfl) (hh.sub (.cons _ List.Sublist.slnil))))
            ·
              rintro a w' ⟨V9, hV9, hf, hh⟩
              refine (?_ : T 77 w V9 [] [(4, .bool z3)] _) a w' hf hh
              clear hf hh
              cases hF
              refine T.ret rfl ?_
              exact T.ret1 rfl (ResIs.tmp rfl) fun w' hh => ⟨_, rfl, hh.below, (show _ from rfl)⟩

end Go.Proofs.Ytgpcpllkcehheaa
