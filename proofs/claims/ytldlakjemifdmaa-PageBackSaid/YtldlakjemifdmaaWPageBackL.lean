/- The Go functions of group WPageBack compute the pure functions of that group: written by walkgen.py. Condition of each: the pure function yields a result. -/
import Derived.Test.YtldlakjemifdmaaPageL
import Derived.Test.YtldlakjemifdmaaWPageBackF
import Derived.Test.YtldlakjemifdmaaEqL
namespace Go.Proofs.Ytldlakjemifdmaa
set_option linter.unusedVariables false

set_option maxRecDepth 100000 in
set_option maxHeartbeats 4000000 in
theorem annalkeep_PageBack_l (F : Nat) (p0 : DNode) (p1 : Int) (r : Bool) (hF : annalkeep_PageBack F p0 p1 = some r) (w : World) (A1 : Option Addr) (c1 : Nat) (hs1 : SlOk (vw w) eElem A1 c1 p0.elems) (A2 : Option Addr) (c2 : Nat) (hs2 : SlOk (vw w) eInt A2 c2 p0.kids) (A3 : Option Addr) (c3 : Nat) (hs3 : SlOk (vw w) eSpot A3 c3 p0.seps) (A4 : Option Addr) (c4 : Nat) (hs4 : SlOk (vw w) eInt A4 c4 p0.tids) :
    Calls Try.prog 13 #[.agg #[.int .i64 p0.kind, .slice A1 p0.elems.length c1, .slice A2 p0.kids.length c2, .slice A3 p0.seps.length c3, .slice A4 p0.tids.length c4], .int .i64 p1] w (Post (vSc eBool) r w) := by
  unfold annalkeep_PageBack at hF
  refine T.start (l := [.agg #[.int .i64 p0.kind, .slice A1 p0.elems.length c1, .slice A2 p0.kids.length c2, .slice A3 p0.seps.length c3, .slice A4 p0.tids.length c4], .int .i64 p1]) Try.func13 rfl rfl rfl ?_
  refine T.seq ?_
  refine T.region ?_
  refine T.step (W1.new 26 [.int .i64 p0.kind, .slice A1 p0.elems.length c1, .slice A2 p0.kids.length c2, .slice A3 p0.seps.length c3, .slice A4 p0.tids.length c4] (fun b => .pointer (some ⟨b, 0, none⟩)) (by kernel_rfl) (fun _ => by kernel_rfl) (fun b1 => ?_))
  refine T.pure (.bool false) (by kernel_rfl) (fun _ => by kernel_rfl) ?_
  refine T.nil ?_
  refine T.seq ?_
  refine T.seq ?_
  refine T.region ?_
  refine T.step (W1.within 22 [.slice none 0 0] (fun v w' => v = .agg #[.int .i64 1, .slice none 0 0, .slice none 0 0, .slice none 0 0, .slice none 0 0] ∧ Hp w (vw w) [box b1 26 [.int .i64 p0.kind, .slice A1 p0.elems.length c1, .slice A2 p0.kids.length c2, .slice A3 p0.seps.length c3, .slice A4 p0.tids.length c4]] w') Try.func22 rfl rfl (by kernel_rfl) (fun _ => by kernel_rfl) rfl ?_ ?_)
  ·
    refine T.seq ?_
    refine T.region ?_
    refine T.step (W1.new 26 [.int .i64 0, .slice none 0 0, .slice none 0 0, .slice none 0 0, .slice none 0 0] (fun b => .pointer (some ⟨b, 0, none⟩)) (by kernel_rfl) (fun _ => by kernel_rfl) (fun b2 => ?_))
    refine T.nil ?_
    refine T.seq ?_
    refine T.region ?_
    refine T.pure (.slice none 0 0) (by kernel_rfl) (fun _ => by kernel_rfl) ?_
    refine T.pure (.agg #[.int .i64 1, .slice none 0 0, .slice none 0 0, .slice none 0 0, .slice none 0 0]) (by kernel_rfl) (fun _ => by kernel_rfl) ?_
    refine T.step (W1.store 0 [.int .i64 1, .slice none 0 0, .slice none 0 0, .slice none 0 0, .slice none 0 0] [box b2 26 [.int .i64 1, .slice none 0 0, .slice none 0 0, .slice none 0 0, .slice none 0 0], box b1 26 [.int .i64 p0.kind, .slice A1 p0.elems.length c1, .slice A2 p0.kids.length c2, .slice A3 p0.seps.length c3, .slice A4 p0.tids.length c4]] (by rfl) rfl (by kernel_rfl) (fun w' hw => exec_store (vs := [.int .i64 1, .slice none 0 0, .slice none 0 0, .slice none 0 0, .slice none 0 0]) rfl rfl rfl rfl (by kernel_rfl) (one_of rfl) (by simp) rfl hw) ?_)
    refine T.nil ?_
    refine T.ret rfl ?_
    exact T.ret1 rfl (ResIs.cellN 0 rfl (by rfl) (fun _ => by kernel_rfl) (fun _ => by kernel_rfl)) fun w' hh => ⟨_, rfl, And.intro rfl (hh.sub (.cons _ (.cons_cons _ List.Sublist.slnil)))⟩
  ·
    rintro v w' ⟨rfl, hh⟩
    refine ⟨(vw w), [box b1 26 [.int .i64 p0.kind, .slice A1 p0.elems.length c1, .slice A2 p0.kids.length c2, .slice A3 p0.seps.length c3, .slice A4 p0.tids.length c4]], hh, ?_⟩
    clear hh
    obtain ⟨r1, hb1, hF⟩ := Option.bind_eq_some_iff.1 hF
    refine T.step (W1.call (vT2 (vSc eStr) (vSc eInt)) r1 34 #[.agg #[.int .i64 1, .slice none 0 0, .slice none 0 0, .slice none 0 0, .slice none 0 0]] (by kernel_rfl) (fun _ => by kernel_rfl) (fun w' hh => page_Write_l F (DNode.mk 1 [] [] [] []) r1 hb1 w' none 0 (SlOk.nil _ _) none 0 (SlOk.nil _ _) none 0 (SlOk.nil _ _) none 0 (SlOk.nil _ _)) ?_)
    intro u V1 hV1 hu
    obtain rfl := (Sure.t2 sureStr sureInt) _ _ _ hu
    refine T.pure (.tuple #[.string r1.1, .int .i64 r1.2]) (by kernel_rfl) (fun _ => by kernel_rfl) ?_
    refine T.pure (.string r1.1) (by kernel_rfl) (fun _ => by kernel_rfl) ?_
    refine T.pure (.int .i64 r1.2) (by kernel_rfl) (fun _ => by kernel_rfl) ?_
    refine T.pure (.string r1.1) (by kernel_rfl) (fun _ => by kernel_rfl) ?_
    refine T.pure (.int .i64 r1.2) (by kernel_rfl) (fun _ => by kernel_rfl) ?_
    refine T.nil ?_
    refine T.cut (fun a w' => Fr 82 [(1, .int .i64 p1), (2, .pointer (some ⟨b1, 0, none⟩)), (25, .bool ((r1.2 != 0) || ((r1.1.size : Int) != 5)))] a ∧ Hp w V1 [box b1 26 [.int .i64 p0.kind, .slice A1 p0.elems.length c1, .slice A2 p0.kids.length c2, .slice A3 p0.seps.length c3, .slice A4 p0.tids.length c4]] w') ?_ ?_
    ·
      refine T.region ?_
      refine T.pure (.int .i64 r1.2) (by kernel_rfl) (fun _ => by kernel_rfl) ?_
      refine T.pure (.bool (r1.2 != 0)) (by kernel_rfl) (fun _ => by kernel_rfl) ?_
      refine T.pure (.bool (r1.2 != 0)) (by kernel_rfl) (fun _ => by kernel_rfl) ?_
      cases hg1 : (r1.2 != 0)
      ·
        skip
        refine T.pure (.string r1.1) (by kernel_rfl) (fun _ => by kernel_rfl) ?_
        refine T.pure (.int .i64 (r1.1.size : Int)) (by kernel_rfl) (fun _ => by kernel_rfl) ?_
        refine T.pure (.bool ((r1.1.size : Int) != 5)) (by kernel_rfl) (fun _ => by kernel_rfl) ?_
        refine T.pure (.bool ((r1.1.size : Int) != 5)) (by kernel_rfl) (fun _ => by kernel_rfl) ?_
        refine T.nil ?_
        exact fun a w' hf hh => And.intro ((((Fr.nil hf).pick hf 25 rfl).pick hf 2 rfl).pick hf 1 rfl) (hh.sub (.cons_cons _ List.Sublist.slnil))
      ·
        skip
        refine T.pass (by kernel_rfl) (by kernel_rfl) ?_
        refine T.pass (by kernel_rfl) (by kernel_rfl) ?_
        refine T.pass (by kernel_rfl) (by kernel_rfl) ?_
        refine T.pure (.bool true) (by kernel_rfl) (fun _ => by kernel_rfl) ?_
        refine T.nil ?_
        exact fun a w' hf hh => And.intro ((((Fr.nil hf).pick hf 25 rfl).pick hf 2 rfl).pick hf 1 rfl) (hh.sub (.cons_cons _ List.Sublist.slnil))
    ·
      rintro a w' ⟨hf, hh⟩
      refine (?_ : T 82 w V1 [box b1 26 [.int .i64 p0.kind, .slice A1 p0.elems.length c1, .slice A2 p0.kids.length c2, .slice A3 p0.seps.length c3, .slice A4 p0.tids.length c4]] [(1, .int .i64 p1), (2, .pointer (some ⟨b1, 0, none⟩)), (25, .bool ((r1.2 != 0) || ((r1.1.size : Int) != 5)))] _) a w' hf hh
      clear hf hh
      refine T.cond ((r1.2 != 0) || ((r1.1.size : Int) != 5)) (by kernel_rfl) (by kernel_rfl) (fun hc1 => ?_) (fun hc1 => ?_)
      ·
        rw [hc1, cond_true] at hF
        refine T.seq ?_
        refine T.region ?_
        refine T.pure (.bool false) (by kernel_rfl) (fun _ => by kernel_rfl) ?_
        refine T.nil ?_
        cases hF
        refine T.ret rfl ?_
        exact T.ret1 rfl (ResIs.tmp rfl) fun w' hh => ⟨_, rfl, hh.below, (show _ from rfl)⟩
      ·
        rw [hc1, cond_false] at hF
        refine T.skip_code ?_
        refine T.seq ?_
        refine T.region ?_
        refine T.look (.agg #[.int .i64 p0.kind, .slice A1 p0.elems.length c1, .slice A2 p0.kids.length c2, .slice A3 p0.seps.length c3, .slice A4 p0.tids.length c4]) (by kernel_rfl) (fun w' hh => exec_loadN (cs := [.int .i64 p0.kind, .slice A1 p0.elems.length c1, .slice A2 p0.kids.length c2, .slice A3 p0.seps.length c3, .slice A4 p0.tids.length c4]) rfl rfl (by kernel_rfl) (by kernel_rfl) (fun j u hj => (hh.box_at (i := 0) (cs := [.int .i64 p0.kind, .slice A1 p0.elems.length c1, .slice A2 p0.kids.length c2, .slice A3 p0.seps.length c3, .slice A4 p0.tids.length c4]) (by rfl) 0 j).trans (seg_at (n := 5) rfl hj))) ?_
        obtain ⟨r2, hb2, hF⟩ := Option.bind_eq_some_iff.1 hF
        refine T.step (W1.call (vT2 (vSc eStr) (vSc eInt)) r2 34 #[.agg #[.int .i64 p0.kind, .slice A1 p0.elems.length c1, .slice A2 p0.kids.length c2, .slice A3 p0.seps.length c3, .slice A4 p0.tids.length c4]] (by kernel_rfl) (fun _ => by kernel_rfl) (fun w' hh => page_Write_l F p0 r2 hb2 w' A1 c1 (SlOk.mono (SlOk.mono hs1 hV1) hh.view) A2 c2 (SlOk.mono (SlOk.mono hs2 hV1) hh.view) A3 c3 (SlOk.mono (SlOk.mono hs3 hV1) hh.view) A4 c4 (SlOk.mono (SlOk.mono hs4 hV1) hh.view)) ?_)
        intro u V2 hV2 hu
        obtain rfl := (Sure.t2 sureStr sureInt) _ _ _ hu
        refine T.pure (.tuple #[.string r2.1, .int .i64 r2.2]) (by kernel_rfl) (fun _ => by kernel_rfl) ?_
        refine T.pure (.string r2.1) (by kernel_rfl) (fun _ => by kernel_rfl) ?_
        refine T.pure (.int .i64 r2.2) (by kernel_rfl) (fun _ => by kernel_rfl) ?_
        refine T.pure (.string r2.1) (by kernel_rfl) (fun _ => by kernel_rfl) ?_
        refine T.pure (.int .i64 r2.2) (by kernel_rfl) (fun _ => by kernel_rfl) ?_
        refine T.nil ?_
        refine T.seq ?_
        refine T.seq ?_
        refine T.region ?_
        refine T.pure (.int .i64 r2.2) (by kernel_rfl) (fun _ => by kernel_rfl) ?_
        refine T.pure (.bool (r2.2 != 0)) (by kernel_rfl) (fun _ => by kernel_rfl) ?_
        refine T.nil ?_
        refine T.cond (r2.2 != 0) (by kernel_rfl) (by kernel_rfl) (fun hc2 => ?_) (fun hc2 => ?_)
        ·
          rw [hc2, cond_true] at hF
          obtain ⟨z1, hX1, hF⟩ := Option.bind_eq_some_iff.1 hF
          refine T.cut (fun a w' => ∃ (V3 : View), View.le V2 V3 ∧ Fr 82 [(4, .bool z1)] a ∧ Hp w V3 [] w') ?_ ?_
          ·
            refine T.region ?_
            refine T.pure (.string r2.1) (by kernel_rfl) (fun _ => by kernel_rfl) ?_
            refine T.pure (.bool (seq r2.1 (ByteArray.mk #[]))) (by kernel_rfl) (fun _ => by kernel_rfl) ?_
            refine T.pure (.bool (seq r2.1 (ByteArray.mk #[]))) (by kernel_rfl) (fun _ => by kernel_rfl) ?_
            cases hg2 : (seq r2.1 (ByteArray.mk #[]))
            ·
              skip
              rw [hg2, cond_false] at hX1
              refine T.pass (by kernel_rfl) (by kernel_rfl) ?_
              refine T.pass (by kernel_rfl) (by kernel_rfl) ?_
              refine T.pass (by kernel_rfl) (by kernel_rfl) ?_
              refine T.pass (by kernel_rfl) (by kernel_rfl) ?_
              refine T.pure (.bool false) (by kernel_rfl) (fun _ => by kernel_rfl) ?_
              refine T.pure (.bool false) (by kernel_rfl) (fun _ => by kernel_rfl) ?_
              refine T.nil ?_
              cases hX1
              exact fun a w' hf hh => Exists.intro V2 (And.intro (View.le_refl _) (And.intro ((Fr.nil hf).pick hf 4 rfl) (hh.sub (.cons _ List.Sublist.slnil))))
            ·
              skip
              rw [hg2, cond_true] at hX1
              refine T.pure (.int .i64 r2.2) (by kernel_rfl) (fun _ => by kernel_rfl) ?_
              refine T.look (.agg #[.int .i64 p0.kind, .slice A1 p0.elems.length c1, .slice A2 p0.kids.length c2, .slice A3 p0.seps.length c3, .slice A4 p0.tids.length c4]) (by kernel_rfl) (fun w' hh => exec_loadN (cs := [.int .i64 p0.kind, .slice A1 p0.elems.length c1, .slice A2 p0.kids.length c2, .slice A3 p0.seps.length c3, .slice A4 p0.tids.length c4]) rfl rfl (by kernel_rfl) (by kernel_rfl) (fun j u hj => (hh.box_at (i := 0) (cs := [.int .i64 p0.kind, .slice A1 p0.elems.length c1, .slice A2 p0.kids.length c2, .slice A3 p0.seps.length c3, .slice A4 p0.tids.length c4]) (by rfl) 0 j).trans (seg_at (n := 5) rfl hj))) ?_
              obtain ⟨r3, hb3, hX1⟩ := Option.bind_eq_some_iff.1 hX1
              refine T.step (W1.call (vSc eInt) r3 23 #[.agg #[.int .i64 p0.kind, .slice A1 p0.elems.length c1, .slice A2 p0.kids.length c2, .slice A3 p0.seps.length c3, .slice A4 p0.tids.length c4]] (by kernel_rfl) (fun _ => by kernel_rfl) (fun w' hh => node_Check_l F p0 r3 hb3 w' A1 c1 (SlOk.mono (SlOk.mono hs1 (View.le_trans hV1 hV2)) hh.view) A2 c2 (SlOk.mono (SlOk.mono hs2 (View.le_trans hV1 hV2)) hh.view) A3 c3 (SlOk.mono (SlOk.mono hs3 (View.le_trans hV1 hV2)) hh.view) A4 c4 (SlOk.mono (SlOk.mono hs4 (View.le_trans hV1 hV2)) hh.view)) ?_)
              intro u V4 hV4 hu
              obtain rfl := sureInt _ _ _ hu
              refine T.pure (.bool (r2.2 == r3)) (by kernel_rfl) (fun _ => by kernel_rfl) ?_
              refine T.pure (.bool (r2.2 == r3)) (by kernel_rfl) (fun _ => by kernel_rfl) ?_
              refine T.pure (.bool (r2.2 == r3)) (by kernel_rfl) (fun _ => by kernel_rfl) ?_
              refine T.nil ?_
              cases hX1
              exact fun a w' hf hh => Exists.intro V4 (And.intro hV4 (And.intro ((Fr.nil hf).pick hf 4 rfl) (hh.sub (.cons _ List.Sublist.slnil))))
          ·
            rintro a w' ⟨V3, hV3, hf, hh⟩
            refine (?_ : T 82 w V3 [] [(4, .bool z1)] _) a w' hf hh
            clear hf hh
            cases hF
            refine T.ret rfl ?_
            exact T.ret1 rfl (ResIs.tmp rfl) fun w' hh => ⟨_, rfl, hh.below, (show _ from rfl)⟩
        ·
          rw [hc2, cond_false] at hF
          refine T.skip_code ?_
          refine T.seq ?_
          refine T.region ?_
          refine T.pure (.string r2.1) (by kernel_rfl) (fun _ => by kernel_rfl) ?_
          obtain ⟨r4, hb4, hF⟩ := Option.bind_eq_some_iff.1 hF
          refine T.step (W1.call (vT2 (vAg eNode) (vSc eInt)) r4 49 #[.string r2.1] (by kernel_rfl) (fun _ => by kernel_rfl) (fun w' hh => page_Read_l F r2.1 r4 hb4 w' ) ?_)
          intro u V5 hV5 hu
          obtain ⟨u1, u2, rfl, hu1, hu2⟩ := vT2_elim hu
          obtain ⟨cs1, rfl, hr1⟩ := vagg_elim hu1
          obtain ⟨A5, c5, A6, c6, A7, c7, A8, c8, rfl, hs5, hs6, hs7, hs8⟩ := hr1
          obtain rfl := sureInt _ _ _ hu2
          refine T.pure (.tuple #[.agg #[.int .i64 r4.1.kind, .slice A5 r4.1.elems.length c5, .slice A6 r4.1.kids.length c6, .slice A7 r4.1.seps.length c7, .slice A8 r4.1.tids.length c8], .int .i64 r4.2]) (by kernel_rfl) (fun _ => by kernel_rfl) ?_
          refine T.pure (.agg #[.int .i64 r4.1.kind, .slice A5 r4.1.elems.length c5, .slice A6 r4.1.kids.length c6, .slice A7 r4.1.seps.length c7, .slice A8 r4.1.tids.length c8]) (by kernel_rfl) (fun _ => by kernel_rfl) ?_
          refine T.pure (.int .i64 r4.2) (by kernel_rfl) (fun _ => by kernel_rfl) ?_
          refine T.step (W1.new 26 [.int .i64 0, .slice none 0 0, .slice none 0 0, .slice none 0 0, .slice none 0 0] (fun b => .pointer (some ⟨b, 0, none⟩)) (by kernel_rfl) (fun _ => by kernel_rfl) (fun b3 => ?_))
          refine T.step (W1.store 0 [.int .i64 r4.1.kind, .slice A5 r4.1.elems.length c5, .slice A6 r4.1.kids.length c6, .slice A7 r4.1.seps.length c7, .slice A8 r4.1.tids.length c8] [box b3 26 [.int .i64 r4.1.kind, .slice A5 r4.1.elems.length c5, .slice A6 r4.1.kids.length c6, .slice A7 r4.1.seps.length c7, .slice A8 r4.1.tids.length c8], box b1 26 [.int .i64 p0.kind, .slice A1 p0.elems.length c1, .slice A2 p0.kids.length c2, .slice A3 p0.seps.length c3, .slice A4 p0.tids.length c4]] (by rfl) rfl (by kernel_rfl) (fun w' hw => exec_store (vs := [.int .i64 r4.1.kind, .slice A5 r4.1.elems.length c5, .slice A6 r4.1.kids.length c6, .slice A7 r4.1.seps.length c7, .slice A8 r4.1.tids.length c8]) rfl rfl rfl rfl (by kernel_rfl) (one_of rfl) (by simp) rfl hw) ?_)
          refine T.pure (.int .i64 r4.2) (by kernel_rfl) (fun _ => by kernel_rfl) ?_
          refine T.nil ?_
          refine T.seq ?_
          refine T.region ?_
          refine T.pure (.string r2.1) (by kernel_rfl) (fun _ => by kernel_rfl) ?_
          refine T.pure (.int .i64 p1) (by kernel_rfl) (fun _ => by kernel_rfl) ?_
          refine T.pure (.string r2.1) (by kernel_rfl) (fun _ => by kernel_rfl) ?_
          refine T.pure (.int .i64 (r2.1.size : Int)) (by kernel_rfl) (fun _ => by kernel_rfl) ?_
          obtain ⟨r5, hb5, hF⟩ := Option.bind_eq_some_iff.1 hF
          refine T.step (W1.call (vSc eInt) r5 37 #[.int .i64 p1, .int .i64 (r2.1.size : Int)] (by kernel_rfl) (fun _ => by kernel_rfl) (fun w' hh => annalkeep_Within_l p1 (r2.1.size : Int) r5 hb5 w' ) ?_)
          intro u V6 hV6 hu
          obtain rfl := sureInt _ _ _ hu
          obtain ⟨s1, hb6, hF⟩ := Option.bind_eq_some_iff.1 hF
          refine T.look (.string s1) (by kernel_rfl) (fun w' hh => exec_slice_str_hi rfl rfl rfl (by kernel_rfl) hb6) ?_
          obtain ⟨r6, hb7, hF⟩ := Option.bind_eq_some_iff.1 hF
          refine T.step (W1.call (vT2 (vAg eNode) (vSc eInt)) r6 49 #[.string s1] (by kernel_rfl) (fun _ => by kernel_rfl) (fun w' hh => page_Read_l F s1 r6 hb7 w' ) ?_)
          intro u V7 hV7 hu
          obtain ⟨u3, u4, rfl, hu3, hu4⟩ := vT2_elim hu
          obtain ⟨cs2, rfl, hr2⟩ := vagg_elim hu3
          obtain ⟨A9, c9, A10, c10, A11, c11, A12, c12, rfl, hs9, hs10, hs11, hs12⟩ := hr2
          obtain rfl := sureInt _ _ _ hu4
          refine T.pure (.tuple #[.agg #[.int .i64 r6.1.kind, .slice A9 r6.1.elems.length c9, .slice A10 r6.1.kids.length c10, .slice A11 r6.1.seps.length c11, .slice A12 r6.1.tids.length c12], .int .i64 r6.2]) (by kernel_rfl) (fun _ => by kernel_rfl) ?_
          refine T.pure (.agg #[.int .i64 r6.1.kind, .slice A9 r6.1.elems.length c9, .slice A10 r6.1.kids.length c10, .slice A11 r6.1.seps.length c11, .slice A12 r6.1.tids.length c12]) (by kernel_rfl) (fun _ => by kernel_rfl) ?_
          refine T.pure (.int .i64 r6.2) (by kernel_rfl) (fun _ => by kernel_rfl) ?_
          refine T.step (W1.new 26 [.int .i64 0, .slice none 0 0, .slice none 0 0, .slice none 0 0, .slice none 0 0] (fun b => .pointer (some ⟨b, 0, none⟩)) (by kernel_rfl) (fun _ => by kernel_rfl) (fun b4 => ?_))
          refine T.step (W1.store 0 [.int .i64 r6.1.kind, .slice A9 r6.1.elems.length c9, .slice A10 r6.1.kids.length c10, .slice A11 r6.1.seps.length c11, .slice A12 r6.1.tids.length c12] [box b4 26 [.int .i64 r6.1.kind, .slice A9 r6.1.elems.length c9, .slice A10 r6.1.kids.length c10, .slice A11 r6.1.seps.length c11, .slice A12 r6.1.tids.length c12], box b3 26 [.int .i64 r4.1.kind, .slice A5 r4.1.elems.length c5, .slice A6 r4.1.kids.length c6, .slice A7 r4.1.seps.length c7, .slice A8 r4.1.tids.length c8], box b1 26 [.int .i64 p0.kind, .slice A1 p0.elems.length c1, .slice A2 p0.kids.length c2, .slice A3 p0.seps.length c3, .slice A4 p0.tids.length c4]] (by rfl) rfl (by kernel_rfl) (fun w' hw => exec_store (vs := [.int .i64 r6.1.kind, .slice A9 r6.1.elems.length c9, .slice A10 r6.1.kids.length c10, .slice A11 r6.1.seps.length c11, .slice A12 r6.1.tids.length c12]) rfl rfl rfl rfl (by kernel_rfl) (one_of rfl) (by simp) rfl hw) ?_)
          refine T.pure (.int .i64 r6.2) (by kernel_rfl) (fun _ => by kernel_rfl) ?_
          refine T.nil ?_
          refine T.seq ?_
          refine T.region ?_
          refine T.pure (.string r2.1) (by kernel_rfl) (fun _ => by kernel_rfl) ?_
          obtain ⟨s2, hb8, hF⟩ := Option.bind_eq_some_iff.1 hF
          refine T.look (.string s2) (by kernel_rfl) (fun w' hh => exec_scat rfl rfl rfl hb8) ?_
          obtain ⟨r7, hb9, hF⟩ := Option.bind_eq_some_iff.1 hF
          refine T.step (W1.call (vT2 (vAg eNode) (vSc eInt)) r7 49 #[.string s2] (by kernel_rfl) (fun _ => by kernel_rfl) (fun w' hh => page_Read_l F s2 r7 hb9 w' ) ?_)
          intro u V8 hV8 hu
          obtain ⟨u5, u6, rfl, hu5, hu6⟩ := vT2_elim hu
          obtain ⟨cs3, rfl, hr3⟩ := vagg_elim hu5
          obtain ⟨A13, c13, A14, c14, A15, c15, A16, c16, rfl, hs13, hs14, hs15, hs16⟩ := hr3
          obtain rfl := sureInt _ _ _ hu6
          refine T.pure (.tuple #[.agg #[.int .i64 r7.1.kind, .slice A13 r7.1.elems.length c13, .slice A14 r7.1.kids.length c14, .slice A15 r7.1.seps.length c15, .slice A16 r7.1.tids.length c16], .int .i64 r7.2]) (by kernel_rfl) (fun _ => by kernel_rfl) ?_
          refine T.pure (.agg #[.int .i64 r7.1.kind, .slice A13 r7.1.elems.length c13, .slice A14 r7.1.kids.length c14, .slice A15 r7.1.seps.length c15, .slice A16 r7.1.tids.length c16]) (by kernel_rfl) (fun _ => by kernel_rfl) ?_
          refine T.pure (.int .i64 r7.2) (by kernel_rfl) (fun _ => by kernel_rfl) ?_
          refine T.step (W1.new 26 [.int .i64 0, .slice none 0 0, .slice none 0 0, .slice none 0 0, .slice none 0 0] (fun b => .pointer (some ⟨b, 0, none⟩)) (by kernel_rfl) (fun _ => by kernel_rfl) (fun b5 => ?_))
          refine T.step (W1.store 0 [.int .i64 r7.1.kind, .slice A13 r7.1.elems.length c13, .slice A14 r7.1.kids.length c14, .slice A15 r7.1.seps.length c15, .slice A16 r7.1.tids.length c16] [box b5 26 [.int .i64 r7.1.kind, .slice A13 r7.1.elems.length c13, .slice A14 r7.1.kids.length c14, .slice A15 r7.1.seps.length c15, .slice A16 r7.1.tids.length c16], box b4 26 [.int .i64 r6.1.kind, .slice A9 r6.1.elems.length c9, .slice A10 r6.1.kids.length c10, .slice A11 r6.1.seps.length c11, .slice A12 r6.1.tids.length c12], box b3 26 [.int .i64 r4.1.kind, .slice A5 r4.1.elems.length c5, .slice A6 r4.1.kids.length c6, .slice A7 r4.1.seps.length c7, .slice A8 r4.1.tids.length c8], box b1 26 [.int .i64 p0.kind, .slice A1 p0.elems.length c1, .slice A2 p0.kids.length c2, .slice A3 p0.seps.length c3, .slice A4 p0.tids.length c4]] (by rfl) rfl (by kernel_rfl) (fun w' hw => exec_store (vs := [.int .i64 r7.1.kind, .slice A13 r7.1.elems.length c13, .slice A14 r7.1.kids.length c14, .slice A15 r7.1.seps.length c15, .slice A16 r7.1.tids.length c16]) rfl rfl rfl rfl (by kernel_rfl) (one_of rfl) (by simp) rfl hw) ?_)
          refine T.pure (.int .i64 r7.2) (by kernel_rfl) (fun _ => by kernel_rfl) ?_
          refine T.nil ?_
          obtain ⟨z2, hX2, hF⟩ := Option.bind_eq_some_iff.1 hF
          refine T.cut (fun a w' => ∃ (V9 : View), View.le V8 V9 ∧ Fr 82 [(4, .bool z2)] a ∧ Hp w V9 [] w') ?_ ?_
          ·
            refine T.region ?_
            refine T.pure (.int .i64 r4.2) (by kernel_rfl) (fun _ => by kernel_rfl) ?_
            refine T.pure (.bool (r4.2 == 0)) (by kernel_rfl) (fun _ => by kernel_rfl) ?_
            refine T.pure (.bool (r4.2 == 0)) (by kernel_rfl) (fun _ => by kernel_rfl) ?_
            cases hg3 : (r4.2 == 0)
            ·
              skip
              rw [hg3, cond_false] at hX2
              refine T.pass (by kernel_rfl) (by kernel_rfl) ?_
              refine T.pass (by kernel_rfl) (by kernel_rfl) ?_
              refine T.pass (by kernel_rfl) (by kernel_rfl) ?_
              refine T.pure (.bool false) (by kernel_rfl) (fun _ => by kernel_rfl) ?_
              refine T.pure (.bool false) (by kernel_rfl) (fun _ => by kernel_rfl) ?_
              refine T.pass (by kernel_rfl) (by kernel_rfl) ?_
              refine T.pass (by kernel_rfl) (by kernel_rfl) ?_
              refine T.pure (.bool false) (by kernel_rfl) (fun _ => by kernel_rfl) ?_
              refine T.pure (.bool false) (by kernel_rfl) (fun _ => by kernel_rfl) ?_
              refine T.pass (by kernel_rfl) (by kernel_rfl) ?_
              refine T.pass (by kernel_rfl) (by kernel_rfl) ?_
              refine T.pure (.bool false) (by kernel_rfl) (fun _ => by kernel_rfl) ?_
              refine T.pure (.bool false) (by kernel_rfl) (fun _ => by kernel_rfl) ?_
              refine T.pass (by kernel_rfl) (by kernel_rfl) ?_
              refine T.pass (by kernel_rfl) (by kernel_rfl) ?_
              refine T.pass (by kernel_rfl) (by kernel_rfl) ?_
              refine T.pure (.bool false) (by kernel_rfl) (fun _ => by kernel_rfl) ?_
              refine T.pure (.bool false) (by kernel_rfl) (fun _ => by kernel_rfl) ?_
              refine T.nil ?_
              cases hX2
              exact fun a w' hf hh => Exists.intro V8 (And.intro (View.le_refl _) (And.intro ((Fr.nil hf).pick hf 4 rfl) (hh.sub (.cons _ (.cons _ (.cons _ (.cons _ List.Sublist.slnil)))))))
            ·
              skip
              rw [hg3, cond_true] at hX2
              refine T.look (.agg #[.int .i64 r4.1.kind, .slice A5 r4.1.elems.length c5, .slice A6 r4.1.kids.length c6, .slice A7 r4.1.seps.length c7, .slice A8 r4.1.tids.length c8]) (by kernel_rfl) (fun w' hh => exec_loadN (cs := [.int .i64 r4.1.kind, .slice A5 r4.1.elems.length c5, .slice A6 r4.1.kids.length c6, .slice A7 r4.1.seps.length c7, .slice A8 r4.1.tids.length c8]) rfl rfl (by kernel_rfl) (by kernel_rfl) (fun j u hj => (hh.box_at (i := 2) (cs := [.int .i64 r4.1.kind, .slice A5 r4.1.elems.length c5, .slice A6 r4.1.kids.length c6, .slice A7 r4.1.seps.length c7, .slice A8 r4.1.tids.length c8]) (by rfl) 0 j).trans (seg_at (n := 5) rfl hj))) ?_
              refine T.look (.agg #[.int .i64 p0.kind, .slice A1 p0.elems.length c1, .slice A2 p0.kids.length c2, .slice A3 p0.seps.length c3, .slice A4 p0.tids.length c4]) (by kernel_rfl) (fun w' hh => exec_loadN (cs := [.int .i64 p0.kind, .slice A1 p0.elems.length c1, .slice A2 p0.kids.length c2, .slice A3 p0.seps.length c3, .slice A4 p0.tids.length c4]) rfl rfl (by kernel_rfl) (by kernel_rfl) (fun j u hj => (hh.box_at (i := 3) (cs := [.int .i64 p0.kind, .slice A1 p0.elems.length c1, .slice A2 p0.kids.length c2, .slice A3 p0.seps.length c3, .slice A4 p0.tids.length c4]) (by rfl) 0 j).trans (seg_at (n := 5) rfl hj))) ?_
              obtain ⟨r8, hb10, hX2⟩ := Option.bind_eq_some_iff.1 hX2
              refine T.step (W1.call (vSc eBool) r8 35 #[.agg #[.int .i64 r4.1.kind, .slice A5 r4.1.elems.length c5, .slice A6 r4.1.kids.length c6, .slice A7 r4.1.seps.length c7, .slice A8 r4.1.tids.length c8], .agg #[.int .i64 p0.kind, .slice A1 p0.elems.length c1, .slice A2 p0.kids.length c2, .slice A3 p0.seps.length c3, .slice A4 p0.tids.length c4]] (by kernel_rfl) (fun _ => by kernel_rfl) (fun w' hh => annalref_SameNode_l F r4.1 p0 r8 hb10 w' A5 c5 (SlOk.mono (SlOk.mono hs5 (View.le_trans (made_le _ _) (View.le_trans (View.le_trans hV6 hV7) hV8))) hh.view) A6 c6 (SlOk.mono (SlOk.mono hs6 (View.le_trans (made_le _ _) (View.le_trans (View.le_trans hV6 hV7) hV8))) hh.view) A7 c7 (SlOk.mono (SlOk.mono hs7 (View.le_trans (made_le _ _) (View.le_trans (View.le_trans hV6 hV7) hV8))) hh.view) A8 c8 (SlOk.mono (SlOk.mono hs8 (View.le_trans (made_le _ _) (View.le_trans (View.le_trans hV6 hV7) hV8))) hh.view) A1 c1 (SlOk.mono (SlOk.mono hs1 (View.le_trans (View.le_trans (View.le_trans (View.le_trans (View.le_trans hV1 hV2) hV5) hV6) hV7) hV8)) hh.view) A2 c2 (SlOk.mono (SlOk.mono hs2 (View.le_trans (View.le_trans (View.le_trans (View.le_trans (View.le_trans hV1 hV2) hV5) hV6) hV7) hV8)) hh.view) A3 c3 (SlOk.mono (SlOk.mono hs3 (View.le_trans (View.le_trans (View.le_trans (View.le_trans (View.le_trans hV1 hV2) hV5) hV6) hV7) hV8)) hh.view) A4 c4 (SlOk.mono (SlOk.mono hs4 (View.le_trans (View.le_trans (View.le_trans (View.le_trans (View.le_trans hV1 hV2) hV5) hV6) hV7) hV8)) hh.view)) ?_)
              intro u V10 hV10 hu
              obtain rfl := sureBool _ _ _ hu
              refine T.pure (.bool r8) (by kernel_rfl) (fun _ => by kernel_rfl) ?_
              refine T.pure (.bool r8) (by kernel_rfl) (fun _ => by kernel_rfl) ?_
              cases hg4 : r8
              ·
                skip
                rw [hg4, cond_false] at hX2
                refine T.pass (by kernel_rfl) (by kernel_rfl) ?_
                refine T.pass (by kernel_rfl) (by kernel_rfl) ?_
                refine T.pure (.bool false) (by kernel_rfl) (fun _ => by kernel_rfl) ?_
                refine T.pure (.bool false) (by kernel_rfl) (fun _ => by kernel_rfl) ?_
                refine T.pass (by kernel_rfl) (by kernel_rfl) ?_
                refine T.pass (by kernel_rfl) (by kernel_rfl) ?_
                refine T.pure (.bool false) (by kernel_rfl) (fun _ => by kernel_rfl) ?_
                refine T.pure (.bool false) (by kernel_rfl) (fun _ => by kernel_rfl) ?_
                refine T.pass (by kernel_rfl) (by kernel_rfl) ?_
                refine T.pass (by kernel_rfl) (by kernel_rfl) ?_
                refine T.pass (by kernel_rfl) (by kernel_rfl) ?_
                refine T.pure (.bool false) (by kernel_rfl) (fun _ => by kernel_rfl) ?_
                refine T.pure (.bool false) (by kernel_rfl) (fun _ => by kernel_rfl) ?_
                refine T.nil ?_
                cases hX2
                exact fun a w' hf hh => Exists.intro V10 (And.intro hV10 (And.intro ((Fr.nil hf).pick hf 4 rfl) (hh.sub (.cons _ (.cons _ (.cons _ (.cons _ List.Sublist.slnil)))))))
              ·
                skip
                rw [hg4, cond_true] at hX2
                refine T.pure (.int .i64 r6.2) (by kernel_rfl) (fun _ => by kernel_rfl) ?_
                refine T.pure (.bool (r6.2 == 7)) (by kernel_rfl) (fun _ => by kernel_rfl) ?_
                refine T.pure (.bool (r6.2 == 7)) (by kernel_rfl) (fun _ => by kernel_rfl) ?_
                refine T.pure (.bool (r6.2 == 7)) (by kernel_rfl) (fun _ => by kernel_rfl) ?_
                cases hg5 : (r6.2 == 7)
                ·
                  skip
                  rw [hg5, cond_false] at hX2
                  refine T.pass (by kernel_rfl) (by kernel_rfl) ?_
                  refine T.pass (by kernel_rfl) (by kernel_rfl) ?_
                  refine T.pure (.bool false) (by kernel_rfl) (fun _ => by kernel_rfl) ?_
                  refine T.pure (.bool false) (by kernel_rfl) (fun _ => by kernel_rfl) ?_
                  refine T.pass (by kernel_rfl) (by kernel_rfl) ?_
                  refine T.pass (by kernel_rfl) (by kernel_rfl) ?_
                  refine T.pass (by kernel_rfl) (by kernel_rfl) ?_
                  refine T.pure (.bool false) (by kernel_rfl) (fun _ => by kernel_rfl) ?_
                  refine T.pure (.bool false) (by kernel_rfl) (fun _ => by kernel_rfl) ?_
                  refine T.nil ?_
                  cases hX2
                  exact fun a w' hf hh => Exists.intro V10 (And.intro hV10 (And.intro ((Fr.nil hf).pick hf 4 rfl) (hh.sub (.cons _ (.cons _ (.cons _ (.cons _ List.Sublist.slnil)))))))
                ·
                  skip
                  rw [hg5, cond_true] at hX2
                  refine T.pure (.int .i64 r7.2) (by kernel_rfl) (fun _ => by kernel_rfl) ?_
                  refine T.pure (.bool (r7.2 == 3)) (by kernel_rfl) (fun _ => by kernel_rfl) ?_
                  refine T.pure (.bool (r7.2 == 3)) (by kernel_rfl) (fun _ => by kernel_rfl) ?_
                  refine T.pure (.bool (r7.2 == 3)) (by kernel_rfl) (fun _ => by kernel_rfl) ?_
                  cases hg6 : (r7.2 == 3)
                  ·
                    skip
                    rw [hg6, cond_false] at hX2
                    refine T.pass (by kernel_rfl) (by kernel_rfl) ?_
                    refine T.pass (by kernel_rfl) (by kernel_rfl) ?_
                    refine T.pass (by kernel_rfl) (by kernel_rfl) ?_
                    refine T.pure (.bool false) (by kernel_rfl) (fun _ => by kernel_rfl) ?_
                    refine T.pure (.bool false) (by kernel_rfl) (fun _ => by kernel_rfl) ?_
                    refine T.nil ?_
                    cases hX2
                    exact fun a w' hf hh => Exists.intro V10 (And.intro hV10 (And.intro ((Fr.nil hf).pick hf 4 rfl) (hh.sub (.cons _ (.cons _ (.cons _ (.cons _ List.Sublist.slnil)))))))
                  ·
                    skip
                    rw [hg6, cond_true] at hX2
                    refine T.pure (.string r2.1) (by kernel_rfl) (fun _ => by kernel_rfl) ?_
                    refine T.pure (.int .i64 (r2.1.size : Int)) (by kernel_rfl) (fun _ => by kernel_rfl) ?_
                    refine T.pure (.bool (decide ((r2.1.size : Int) ≤ 2900))) (by kernel_rfl) (fun _ => by kernel_rfl) ?_
                    refine T.pure (.bool (decide ((r2.1.size : Int) ≤ 2900))) (by kernel_rfl) (fun _ => by kernel_rfl) ?_
                    refine T.pure (.bool (decide ((r2.1.size : Int) ≤ 2900))) (by kernel_rfl) (fun _ => by kernel_rfl) ?_
                    refine T.nil ?_
                    cases hX2
                    exact fun a w' hf hh => Exists.intro V10 (And.intro hV10 (And.intro ((Fr.nil hf).pick hf 4 rfl) (hh.sub (.cons _ (.cons _ (.cons _ (.cons _ List.Sublist.slnil)))))))
          ·
            rintro a w' ⟨V9, hV9, hf, hh⟩
            refine (?_ : T 82 w V9 [] [(4, .bool z2)] _) a w' hf hh
            clear hf hh
            cases hF
            refine T.ret rfl ?_
            exact T.ret1 rfl (ResIs.tmp rfl) fun w' hh => ⟨_, rfl, hh.below, (show _ from rfl)⟩

end Go.Proofs.Ytldlakjemifdmaa
