/- The Go functions of group WPageOne compute the pure functions of that group: written by walkgen.py. Condition of each: the pure function yields a result. -/
import Derived.Test.YtldlakjemifdmaaPageL
import Derived.Test.YtldlakjemifdmaaWPageOneF
import Derived.Test.YtldlakjemifdmaaEqL
namespace Go.Proofs.Ytldlakjemifdmaa
set_option linter.unusedVariables false

set_option maxRecDepth 100000 in
set_option maxHeartbeats 4000000 in
theorem annalkeep_PageOne_l (F : Nat) (p0 : ByteArray) (r : Bool) (hF : annalkeep_PageOne F p0 = some r) (w : World)  :
    Calls Try.prog 14 #[.string p0] w (Post (vSc eBool) r w) := by
  unfold annalkeep_PageOne at hF
  refine T.start (l := [.string p0]) Try.func14 rfl rfl rfl ?_
  refine T.seq ?_
  refine T.region ?_
  refine T.pure (.bool false) (by kernel_rfl) (fun _ => by kernel_rfl) ?_
  refine T.nil ?_
  refine T.seq ?_
  refine T.seq ?_
  refine T.region ?_
  obtain ⟨r1, hb1, hF⟩ := Option.bind_eq_some_iff.1 hF
  refine T.step (W1.call (vT2 (vAg eNode) (vSc eInt)) r1 49 #[.string (ByteArray.mk #[1, 0, 0, 0, 0])] (by kernel_rfl) (fun _ => by kernel_rfl) (fun w' hh => page_Read_l F (ByteArray.mk #[1, 0, 0, 0, 0]) r1 hb1 w' ) ?_)
  intro u V1 hV1 hu
  obtain ⟨u1, u2, rfl, hu1, hu2⟩ := vT2_elim hu
  obtain ⟨cs1, rfl, hr1⟩ := vagg_elim hu1
  obtain ⟨A1, c1, A2, c2, A3, c3, A4, c4, rfl, hs1, hs2, hs3, hs4⟩ := hr1
  obtain rfl := sureInt _ _ _ hu2
  refine T.pure (.tuple #[.agg #[.int .i64 r1.1.kind, .slice A1 r1.1.elems.length c1, .slice A2 r1.1.kids.length c2, .slice A3 r1.1.seps.length c3, .slice A4 r1.1.tids.length c4], .int .i64 r1.2]) (by kernel_rfl) (fun _ => by kernel_rfl) ?_
  refine T.pure (.agg #[.int .i64 r1.1.kind, .slice A1 r1.1.elems.length c1, .slice A2 r1.1.kids.length c2, .slice A3 r1.1.seps.length c3, .slice A4 r1.1.tids.length c4]) (by kernel_rfl) (fun _ => by kernel_rfl) ?_
  refine T.pure (.int .i64 r1.2) (by kernel_rfl) (fun _ => by kernel_rfl) ?_
  refine T.step (W1.new 26 [.int .i64 0, .slice none 0 0, .slice none 0 0, .slice none 0 0, .slice none 0 0] (fun b => .pointer (some ⟨b, 0, none⟩)) (by kernel_rfl) (fun _ => by kernel_rfl) (fun b1 => ?_))
  refine T.step (W1.store 0 [.int .i64 r1.1.kind, .slice A1 r1.1.elems.length c1, .slice A2 r1.1.kids.length c2, .slice A3 r1.1.seps.length c3, .slice A4 r1.1.tids.length c4] [box b1 26 [.int .i64 r1.1.kind, .slice A1 r1.1.elems.length c1, .slice A2 r1.1.kids.length c2, .slice A3 r1.1.seps.length c3, .slice A4 r1.1.tids.length c4]] (by rfl) rfl (by kernel_rfl) (fun w' hw => exec_store (vs := [.int .i64 r1.1.kind, .slice A1 r1.1.elems.length c1, .slice A2 r1.1.kids.length c2, .slice A3 r1.1.seps.length c3, .slice A4 r1.1.tids.length c4]) rfl rfl rfl rfl (by kernel_rfl) (one_of rfl) (by simp) rfl hw) ?_)
  refine T.pure (.int .i64 r1.2) (by kernel_rfl) (fun _ => by kernel_rfl) ?_
  refine T.nil ?_
  refine T.seq ?_
  refine T.region ?_
  refine T.pure (.int .i64 r1.2) (by kernel_rfl) (fun _ => by kernel_rfl) ?_
  refine T.pure (.bool (r1.2 != 6)) (by kernel_rfl) (fun _ => by kernel_rfl) ?_
  refine T.nil ?_
  refine T.cond (r1.2 != 6) (by kernel_rfl) (by kernel_rfl) (fun hc1 => ?_) (fun hc1 => ?_)
  ·
    rw [hc1, cond_true] at hF
    refine T.seq ?_
    refine T.region ?_
    refine T.pure (.bool false) (by kernel_rfl) (fun _ => by kernel_rfl) ?_
    refine T.nil ?_
    cases hF
    refine T.ret rfl ?_
    exact T.ret1 rfl (ResIs.tmp rfl) fun w' hh => ⟨_, rfl, hh.below, (show _ from rfl)⟩
  ·
    rw [hc1, cond_false] at hF
    refine T.skip_code ?_
    refine T.seq ?_
    refine T.region ?_
    refine T.pure (.string p0) (by kernel_rfl) (fun _ => by kernel_rfl) ?_
    obtain ⟨r2, hb2, hF⟩ := Option.bind_eq_some_iff.1 hF
    refine T.step (W1.call (vT2 (vAg eNode) (vSc eInt)) r2 49 #[.string p0] (by kernel_rfl) (fun _ => by kernel_rfl) (fun w' hh => page_Read_l F p0 r2 hb2 w' ) ?_)
    intro u V2 hV2 hu
    obtain ⟨u3, u4, rfl, hu3, hu4⟩ := vT2_elim hu
    obtain ⟨cs2, rfl, hr2⟩ := vagg_elim hu3
    obtain ⟨A5, c5, A6, c6, A7, c7, A8, c8, rfl, hs5, hs6, hs7, hs8⟩ := hr2
    obtain rfl := sureInt _ _ _ hu4
    refine T.pure (.tuple #[.agg #[.int .i64 r2.1.kind, .slice A5 r2.1.elems.length c5, .slice A6 r2.1.kids.length c6, .slice A7 r2.1.seps.length c7, .slice A8 r2.1.tids.length c8], .int .i64 r2.2]) (by kernel_rfl) (fun _ => by kernel_rfl) ?_
    refine T.pure (.agg #[.int .i64 r2.1.kind, .slice A5 r2.1.elems.length c5, .slice A6 r2.1.kids.length c6, .slice A7 r2.1.seps.length c7, .slice A8 r2.1.tids.length c8]) (by kernel_rfl) (fun _ => by kernel_rfl) ?_
    refine T.pure (.int .i64 r2.2) (by kernel_rfl) (fun _ => by kernel_rfl) ?_
    refine T.step (W1.new 26 [.int .i64 0, .slice none 0 0, .slice none 0 0, .slice none 0 0, .slice none 0 0] (fun b => .pointer (some ⟨b, 0, none⟩)) (by kernel_rfl) (fun _ => by kernel_rfl) (fun b2 => ?_))
    refine T.step (W1.store 0 [.int .i64 r2.1.kind, .slice A5 r2.1.elems.length c5, .slice A6 r2.1.kids.length c6, .slice A7 r2.1.seps.length c7, .slice A8 r2.1.tids.length c8] [box b2 26 [.int .i64 r2.1.kind, .slice A5 r2.1.elems.length c5, .slice A6 r2.1.kids.length c6, .slice A7 r2.1.seps.length c7, .slice A8 r2.1.tids.length c8], box b1 26 [.int .i64 r1.1.kind, .slice A1 r1.1.elems.length c1, .slice A2 r1.1.kids.length c2, .slice A3 r1.1.seps.length c3, .slice A4 r1.1.tids.length c4]] (by rfl) rfl (by kernel_rfl) (fun w' hw => exec_store (vs := [.int .i64 r2.1.kind, .slice A5 r2.1.elems.length c5, .slice A6 r2.1.kids.length c6, .slice A7 r2.1.seps.length c7, .slice A8 r2.1.tids.length c8]) rfl rfl rfl rfl (by kernel_rfl) (one_of rfl) (by simp) rfl hw) ?_)
    refine T.pure (.int .i64 r2.2) (by kernel_rfl) (fun _ => by kernel_rfl) ?_
    refine T.nil ?_
    refine T.seq ?_
    refine T.seq ?_
    refine T.region ?_
    refine T.pure (.int .i64 r2.2) (by kernel_rfl) (fun _ => by kernel_rfl) ?_
    refine T.pure (.bool (r2.2 != 0)) (by kernel_rfl) (fun _ => by kernel_rfl) ?_
    refine T.nil ?_
    refine T.cond (r2.2 != 0) (by kernel_rfl) (by kernel_rfl) (fun hc2 => ?_) (fun hc2 => ?_)
    ·
      rw [hc2, cond_true] at hF
      refine T.seq ?_
      refine T.region ?_
      refine T.look (.agg #[.int .i64 r2.1.kind, .slice A5 r2.1.elems.length c5, .slice A6 r2.1.kids.length c6, .slice A7 r2.1.seps.length c7, .slice A8 r2.1.tids.length c8]) (by kernel_rfl) (fun w' hh => exec_loadN (cs := [.int .i64 r2.1.kind, .slice A5 r2.1.elems.length c5, .slice A6 r2.1.kids.length c6, .slice A7 r2.1.seps.length c7, .slice A8 r2.1.tids.length c8]) rfl rfl (by kernel_rfl) (by kernel_rfl) (fun j u hj => (hh.box_at (i := 0) (cs := [.int .i64 r2.1.kind, .slice A5 r2.1.elems.length c5, .slice A6 r2.1.kids.length c6, .slice A7 r2.1.seps.length c7, .slice A8 r2.1.tids.length c8]) (by rfl) 0 j).trans (seg_at (n := 5) rfl hj))) ?_
      refine T.pure (.agg #[.int .i64 0, .slice none 0 0, .slice none 0 0, .slice none 0 0, .slice none 0 0]) (by kernel_rfl) (fun _ => by kernel_rfl) ?_
      obtain ⟨r3, hb3, hF⟩ := Option.bind_eq_some_iff.1 hF
      refine T.step (W1.call (vSc eBool) r3 35 #[.agg #[.int .i64 r2.1.kind, .slice A5 r2.1.elems.length c5, .slice A6 r2.1.kids.length c6, .slice A7 r2.1.seps.length c7, .slice A8 r2.1.tids.length c8], .agg #[.int .i64 0, .slice none 0 0, .slice none 0 0, .slice none 0 0, .slice none 0 0]] (by kernel_rfl) (fun _ => by kernel_rfl) (fun w' hh => annalref_SameNode_l F r2.1 (DNode.mk 0 [] [] [] []) r3 hb3 w' A5 c5 (SlOk.mono (SlOk.mono hs5 (View.le_trans (made_le _ _) (View.le_refl _))) hh.view) A6 c6 (SlOk.mono (SlOk.mono hs6 (View.le_trans (made_le _ _) (View.le_refl _))) hh.view) A7 c7 (SlOk.mono (SlOk.mono hs7 (View.le_trans (made_le _ _) (View.le_refl _))) hh.view) A8 c8 (SlOk.mono (SlOk.mono hs8 (View.le_trans (made_le _ _) (View.le_refl _))) hh.view) none 0 (SlOk.nil _ _) none 0 (SlOk.nil _ _) none 0 (SlOk.nil _ _) none 0 (SlOk.nil _ _)) ?_)
      intro u V3 hV3 hu
      obtain rfl := sureBool _ _ _ hu
      refine T.pure (.bool r3) (by kernel_rfl) (fun _ => by kernel_rfl) ?_
      refine T.nil ?_
      cases hF
      refine T.ret rfl ?_
      exact T.ret1 rfl (ResIs.tmp rfl) fun w' hh => ⟨_, rfl, hh.below, (show _ from rfl)⟩
    ·
      rw [hc2, cond_false] at hF
      refine T.skip_code ?_
      refine T.seq ?_
      refine T.region ?_
      refine T.look (.agg #[.int .i64 r2.1.kind, .slice A5 r2.1.elems.length c5, .slice A6 r2.1.kids.length c6, .slice A7 r2.1.seps.length c7, .slice A8 r2.1.tids.length c8]) (by kernel_rfl) (fun w' hh => exec_loadN (cs := [.int .i64 r2.1.kind, .slice A5 r2.1.elems.length c5, .slice A6 r2.1.kids.length c6, .slice A7 r2.1.seps.length c7, .slice A8 r2.1.tids.length c8]) rfl rfl (by kernel_rfl) (by kernel_rfl) (fun j u hj => (hh.box_at (i := 0) (cs := [.int .i64 r2.1.kind, .slice A5 r2.1.elems.length c5, .slice A6 r2.1.kids.length c6, .slice A7 r2.1.seps.length c7, .slice A8 r2.1.tids.length c8]) (by rfl) 0 j).trans (seg_at (n := 5) rfl hj))) ?_
      obtain ⟨r4, hb4, hF⟩ := Option.bind_eq_some_iff.1 hF
      refine T.step (W1.call (vT2 (vSc eStr) (vSc eInt)) r4 34 #[.agg #[.int .i64 r2.1.kind, .slice A5 r2.1.elems.length c5, .slice A6 r2.1.kids.length c6, .slice A7 r2.1.seps.length c7, .slice A8 r2.1.tids.length c8]] (by kernel_rfl) (fun _ => by kernel_rfl) (fun w' hh => page_Write_l F r2.1 r4 hb4 w' A5 c5 (SlOk.mono (SlOk.mono hs5 (View.le_trans (made_le _ _) (View.le_refl _))) hh.view) A6 c6 (SlOk.mono (SlOk.mono hs6 (View.le_trans (made_le _ _) (View.le_refl _))) hh.view) A7 c7 (SlOk.mono (SlOk.mono hs7 (View.le_trans (made_le _ _) (View.le_refl _))) hh.view) A8 c8 (SlOk.mono (SlOk.mono hs8 (View.le_trans (made_le _ _) (View.le_refl _))) hh.view)) ?_)
      intro u V4 hV4 hu
      obtain rfl := (Sure.t2 sureStr sureInt) _ _ _ hu
      refine T.pure (.tuple #[.string r4.1, .int .i64 r4.2]) (by kernel_rfl) (fun _ => by kernel_rfl) ?_
      refine T.pure (.string r4.1) (by kernel_rfl) (fun _ => by kernel_rfl) ?_
      refine T.pure (.int .i64 r4.2) (by kernel_rfl) (fun _ => by kernel_rfl) ?_
      refine T.pure (.string r4.1) (by kernel_rfl) (fun _ => by kernel_rfl) ?_
      refine T.pure (.int .i64 r4.2) (by kernel_rfl) (fun _ => by kernel_rfl) ?_
      refine T.nil ?_
      refine T.cut (fun a w' => Fr 36 [(2, .bool ((r4.2 == 0) && (seq r4.1 p0)))] a ∧ Hp w V4 [] w') ?_ ?_
      ·
        refine T.region ?_
        refine T.pure (.int .i64 r4.2) (by kernel_rfl) (fun _ => by kernel_rfl) ?_
        refine T.pure (.bool (r4.2 == 0)) (by kernel_rfl) (fun _ => by kernel_rfl) ?_
        refine T.pure (.bool (r4.2 == 0)) (by kernel_rfl) (fun _ => by kernel_rfl) ?_
        cases hg1 : (r4.2 == 0)
        ·
          skip
          refine T.pass (by kernel_rfl) (by kernel_rfl) ?_
          refine T.pass (by kernel_rfl) (by kernel_rfl) ?_
          refine T.pass (by kernel_rfl) (by kernel_rfl) ?_
          refine T.pure (.bool false) (by kernel_rfl) (fun _ => by kernel_rfl) ?_
          refine T.pure (.bool false) (by kernel_rfl) (fun _ => by kernel_rfl) ?_
          refine T.nil ?_
          exact fun a w' hf hh => And.intro ((Fr.nil hf).pick hf 2 rfl) (hh.sub (.cons _ (.cons _ List.Sublist.slnil)))
        ·
          skip
          refine T.pure (.string r4.1) (by kernel_rfl) (fun _ => by kernel_rfl) ?_
          refine T.pure (.string p0) (by kernel_rfl) (fun _ => by kernel_rfl) ?_
          refine T.pure (.bool (seq r4.1 p0)) (by kernel_rfl) (fun _ => by kernel_rfl) ?_
          refine T.pure (.bool (seq r4.1 p0)) (by kernel_rfl) (fun _ => by kernel_rfl) ?_
          refine T.pure (.bool (seq r4.1 p0)) (by kernel_rfl) (fun _ => by kernel_rfl) ?_
          refine T.nil ?_
          exact fun a w' hf hh => And.intro ((Fr.nil hf).pick hf 2 rfl) (hh.sub (.cons _ (.cons _ List.Sublist.slnil)))
      ·
        rintro a w' ⟨hf, hh⟩
        refine (?_ : T 36 w V4 [] [(2, .bool ((r4.2 == 0) && (seq r4.1 p0)))] _) a w' hf hh
        clear hf hh
        cases hF
        refine T.ret rfl ?_
        exact T.ret1 rfl (ResIs.tmp rfl) fun w' hh => ⟨_, rfl, hh.below, (show _ from rfl)⟩

end Go.Proofs.Ytldlakjemifdmaa
