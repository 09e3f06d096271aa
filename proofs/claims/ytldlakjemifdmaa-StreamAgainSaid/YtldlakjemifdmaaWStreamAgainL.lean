/- The Go functions of group WStreamAgain compute the pure functions of that group: written by walkgen.py. Condition of each: the pure function yields a result. -/
import Derived.Test.YtldlakjemifdmaaStreamL
import Derived.Test.YtldlakjemifdmaaEqsL
import Derived.Test.YtldlakjemifdmaaWStreamAgainF
import Derived.Test.YtldlakjemifdmaaEqL
namespace Go.Proofs.Ytldlakjemifdmaa
set_option linter.unusedVariables false

set_option maxRecDepth 100000 in
set_option maxHeartbeats 4000000 in
theorem annalkeep_StreamAgain_l (F : Nat) (p0 : (List DElem)) (p1 : Int) (p2 : Int) (p3 : Int) (p4 : Int) (r : Bool) (hF : annalkeep_StreamAgain F p0 p1 p2 p3 p4 = some r) (w : World) (A1 : Option Addr) (c1 : Nat) (hs1 : SlOk (vw w) eElem A1 c1 p0) :
    Calls Try.prog 18 #[.slice A1 p0.length c1, .int .i64 p1, .int .i64 p2, .int .i64 p3, .int .i64 p4] w (Post (vSc eBool) r w) := by
  unfold annalkeep_StreamAgain at hF
  refine T.start (l := [.slice A1 p0.length c1, .int .i64 p1, .int .i64 p2, .int .i64 p3, .int .i64 p4]) Try.func18 rfl rfl rfl ?_
  refine T.seq ?_
  refine T.region ?_
  refine T.pure (.bool false) (by kernel_rfl) (fun _ => by kernel_rfl) ?_
  refine T.nil ?_
  refine T.seq ?_
  refine T.seq ?_
  refine T.region ?_
  obtain ⟨r1, hb1, hF⟩ := Option.bind_eq_some_iff.1 hF
  refine T.step (W1.call (vT2 (vSc (eList eElem)) (vSc eInt)) r1 51 #[.slice none 0 0, .string (ByteArray.mk #[])] (by kernel_rfl) (fun _ => by kernel_rfl) (fun w' hh => stream_Feed_l F ([] : List DElem) (ByteArray.mk #[]) r1 hb1 w' none 0 (SlOk.nil _ _)) ?_)
  intro u V1 hV1 hu
  obtain ⟨u1, u2, rfl, hu1, hu2⟩ := vT2_elim hu
  obtain ⟨A2, c2, rfl, hs2⟩ := vlist_elim hu1
  obtain rfl := sureInt _ _ _ hu2
  refine T.pure (.tuple #[.slice A2 r1.1.length c2, .int .i64 r1.2]) (by kernel_rfl) (fun _ => by kernel_rfl) ?_
  refine T.pure (.slice A2 r1.1.length c2) (by kernel_rfl) (fun _ => by kernel_rfl) ?_
  refine T.pure (.int .i64 r1.2) (by kernel_rfl) (fun _ => by kernel_rfl) ?_
  refine T.pure (.slice A2 r1.1.length c2) (by kernel_rfl) (fun _ => by kernel_rfl) ?_
  refine T.pure (.int .i64 r1.2) (by kernel_rfl) (fun _ => by kernel_rfl) ?_
  refine T.nil ?_
  refine T.seq ?_
  refine T.region ?_
  refine T.pure (.int .i64 r1.2) (by kernel_rfl) (fun _ => by kernel_rfl) ?_
  refine T.pure (.bool (r1.2 != 7)) (by kernel_rfl) (fun _ => by kernel_rfl) ?_
  refine T.nil ?_
  refine T.cond (r1.2 != 7) (by kernel_rfl) (by kernel_rfl) (fun hc1 => ?_) (fun hc1 => ?_)
  ·
    rw [hc1, cond_true] at hF
    refine T.seq ?_
    refine T.region ?_
    refine T.pure (.bool false) (by kernel_rfl) (fun _ => by kernel_rfl) ?_
    refine T.nil ?_
    cases hF
    refine T.ret rfl ?_
    exact T.ret1 rfl (ResIs.tmp rfl) fun w' hh => ⟨_, rfl, hh.below, (show _ from rfl)⟩
  ·
    rw [hc1, cond_false] at hF
    refine T.skip_code ?_
    refine T.seq ?_
    refine T.region ?_
    refine T.pure (.slice A1 p0.length c1) (by kernel_rfl) (fun _ => by kernel_rfl) ?_
    refine T.pure (.int .i64 p1) (by kernel_rfl) (fun _ => by kernel_rfl) ?_
    refine T.pure (.int .i64 p2) (by kernel_rfl) (fun _ => by kernel_rfl) ?_
    refine T.pure (.int .i64 p3) (by kernel_rfl) (fun _ => by kernel_rfl) ?_
    obtain ⟨r2, hb2, hF⟩ := Option.bind_eq_some_iff.1 hF
    refine T.step (W1.call (vT2 (vSc eStr) (vSc eInt)) r2 50 #[.slice A1 p0.length c1, .int .i64 p1, .int .i64 p2, .int .i64 p3] (by kernel_rfl) (fun _ => by kernel_rfl) (fun w' hh => stream_Read_l F p0 p1 p2 p3 r2 hb2 w' A1 c1 (SlOk.mono (SlOk.mono hs1 hV1) hh.view)) ?_)
    intro u V2 hV2 hu
    obtain rfl := (Sure.t2 sureStr sureInt) _ _ _ hu
    refine T.pure (.tuple #[.string r2.1, .int .i64 r2.2]) (by kernel_rfl) (fun _ => by kernel_rfl) ?_
    refine T.pure (.string r2.1) (by kernel_rfl) (fun _ => by kernel_rfl) ?_
    refine T.pure (.int .i64 r2.2) (by kernel_rfl) (fun _ => by kernel_rfl) ?_
    refine T.pure (.string r2.1) (by kernel_rfl) (fun _ => by kernel_rfl) ?_
    refine T.pure (.int .i64 r2.2) (by kernel_rfl) (fun _ => by kernel_rfl) ?_
    refine T.nil ?_
    refine T.seq ?_
    refine T.region ?_
    refine T.pure (.slice A1 p0.length c1) (by kernel_rfl) (fun _ => by kernel_rfl) ?_
    obtain ⟨r3, hb3, hF⟩ := Option.bind_eq_some_iff.1 hF
    refine T.step (W1.call (vT2 (vSc eInt) (vSc eInt)) r3 53 #[.slice A1 p0.length c1] (by kernel_rfl) (fun _ => by kernel_rfl) (fun w' hh => run_Last_l F p0 r3 hb3 w' A1 c1 (SlOk.mono (SlOk.mono hs1 (View.le_trans hV1 hV2)) hh.view)) ?_)
    intro u V3 hV3 hu
    obtain rfl := (Sure.t2 sureInt sureInt) _ _ _ hu
    refine T.pure (.tuple #[.int .i64 r3.1, .int .i64 r3.2]) (by kernel_rfl) (fun _ => by kernel_rfl) ?_
    refine T.pure (.int .i64 r3.1) (by kernel_rfl) (fun _ => by kernel_rfl) ?_
    refine T.pure (.int .i64 r3.2) (by kernel_rfl) (fun _ => by kernel_rfl) ?_
    refine T.pure (.int .i64 r3.1) (by kernel_rfl) (fun _ => by kernel_rfl) ?_
    refine T.pure (.int .i64 r3.2) (by kernel_rfl) (fun _ => by kernel_rfl) ?_
    refine T.nil ?_
    refine T.seq ?_
    refine T.cut (fun a w' => Fr 89 [(0, .slice A1 p0.length c1), (3, .int .i64 p3), (4, .int .i64 p4), (13, .string r2.1), (15, .int .i64 r3.1), (16, .int .i64 r3.2), (42, .bool ((r2.2 != 0) || (r3.2 != 0)))] a ∧ Hp w V3 [] w') ?_ ?_
    ·
      refine T.region ?_
      refine T.pure (.int .i64 r2.2) (by kernel_rfl) (fun _ => by kernel_rfl) ?_
      refine T.pure (.bool (r2.2 != 0)) (by kernel_rfl) (fun _ => by kernel_rfl) ?_
      refine T.pure (.bool (r2.2 != 0)) (by kernel_rfl) (fun _ => by kernel_rfl) ?_
      cases hg1 : (r2.2 != 0)
      ·
        skip
        refine T.pure (.int .i64 r3.2) (by kernel_rfl) (fun _ => by kernel_rfl) ?_
        refine T.pure (.bool (r3.2 != 0)) (by kernel_rfl) (fun _ => by kernel_rfl) ?_
        refine T.pure (.bool (r3.2 != 0)) (by kernel_rfl) (fun _ => by kernel_rfl) ?_
        refine T.nil ?_
        exact fun a w' hf hh => And.intro ((((((((Fr.nil hf).pick hf 42 rfl).pick hf 16 rfl).pick hf 15 rfl).pick hf 13 rfl).pick hf 4 rfl).pick hf 3 rfl).pick hf 0 rfl) (hh.sub List.Sublist.slnil)
      ·
        skip
        refine T.pass (by kernel_rfl) (by kernel_rfl) ?_
        refine T.pass (by kernel_rfl) (by kernel_rfl) ?_
        refine T.pure (.bool true) (by kernel_rfl) (fun _ => by kernel_rfl) ?_
        refine T.nil ?_
        exact fun a w' hf hh => And.intro ((((((((Fr.nil hf).pick hf 42 rfl).pick hf 16 rfl).pick hf 15 rfl).pick hf 13 rfl).pick hf 4 rfl).pick hf 3 rfl).pick hf 0 rfl) (hh.sub List.Sublist.slnil)
    ·
      rintro a w' ⟨hf, hh⟩
      refine (?_ : T 89 w V3 [] [(0, .slice A1 p0.length c1), (3, .int .i64 p3), (4, .int .i64 p4), (13, .string r2.1), (15, .int .i64 r3.1), (16, .int .i64 r3.2), (42, .bool ((r2.2 != 0) || (r3.2 != 0)))] _) a w' hf hh
      clear hf hh
      refine T.cond ((r2.2 != 0) || (r3.2 != 0)) (by kernel_rfl) (by kernel_rfl) (fun hc2 => ?_) (fun hc2 => ?_)
      ·
        rw [hc2, cond_true] at hF
        refine T.cut (fun a w' => Fr 89 [(10, .bool ((seq r2.1 (ByteArray.mk #[])) || (r3.2 != 0)))] a ∧ Hp w V3 [] w') ?_ ?_
        ·
          refine T.region ?_
          refine T.pure (.string r2.1) (by kernel_rfl) (fun _ => by kernel_rfl) ?_
          refine T.pure (.bool (seq r2.1 (ByteArray.mk #[]))) (by kernel_rfl) (fun _ => by kernel_rfl) ?_
          refine T.pure (.bool (seq r2.1 (ByteArray.mk #[]))) (by kernel_rfl) (fun _ => by kernel_rfl) ?_
          cases hg2 : (seq r2.1 (ByteArray.mk #[]))
          ·
            skip
            refine T.pure (.int .i64 r3.2) (by kernel_rfl) (fun _ => by kernel_rfl) ?_
            refine T.pure (.bool (r3.2 != 0)) (by kernel_rfl) (fun _ => by kernel_rfl) ?_
            refine T.pure (.bool (r3.2 != 0)) (by kernel_rfl) (fun _ => by kernel_rfl) ?_
            refine T.pure (.bool (r3.2 != 0)) (by kernel_rfl) (fun _ => by kernel_rfl) ?_
            refine T.nil ?_
            exact fun a w' hf hh => And.intro ((Fr.nil hf).pick hf 10 rfl) (hh.sub List.Sublist.slnil)
          ·
            skip
            refine T.pass (by kernel_rfl) (by kernel_rfl) ?_
            refine T.pass (by kernel_rfl) (by kernel_rfl) ?_
            refine T.pure (.bool true) (by kernel_rfl) (fun _ => by kernel_rfl) ?_
            refine T.pure (.bool true) (by kernel_rfl) (fun _ => by kernel_rfl) ?_
            refine T.nil ?_
            exact fun a w' hf hh => And.intro ((Fr.nil hf).pick hf 10 rfl) (hh.sub List.Sublist.slnil)
        ·
          rintro a w' ⟨hf, hh⟩
          refine (?_ : T 89 w V3 [] [(10, .bool ((seq r2.1 (ByteArray.mk #[])) || (r3.2 != 0)))] _) a w' hf hh
          clear hf hh
          cases hF
          refine T.ret rfl ?_
          exact T.ret1 rfl (ResIs.tmp rfl) fun w' hh => ⟨_, rfl, hh.below, (show _ from rfl)⟩
      ·
        rw [hc2, cond_false] at hF
        refine T.skip_code ?_
        refine T.seq ?_
        refine T.region ?_
        refine T.pure (.slice A1 p0.length c1) (by kernel_rfl) (fun _ => by kernel_rfl) ?_
        refine T.pure (.string r2.1) (by kernel_rfl) (fun _ => by kernel_rfl) ?_
        refine T.pure (.int .i64 p4) (by kernel_rfl) (fun _ => by kernel_rfl) ?_
        refine T.pure (.string r2.1) (by kernel_rfl) (fun _ => by kernel_rfl) ?_
        refine T.pure (.int .i64 (r2.1.size : Int)) (by kernel_rfl) (fun _ => by kernel_rfl) ?_
        obtain ⟨r4, hb4, hF⟩ := Option.bind_eq_some_iff.1 hF
        refine T.step (W1.call (vSc eInt) r4 37 #[.int .i64 p4, .int .i64 (r2.1.size : Int)] (by kernel_rfl) (fun _ => by kernel_rfl) (fun w' hh => annalkeep_Within_l p4 (r2.1.size : Int) r4 hb4 w' ) ?_)
        intro u V4 hV4 hu
        obtain rfl := sureInt _ _ _ hu
        obtain ⟨s1, hb5, hF⟩ := Option.bind_eq_some_iff.1 hF
        refine T.look (.string s1) (by kernel_rfl) (fun w' hh => exec_slice_str_hi rfl rfl rfl (by kernel_rfl) hb5) ?_
        obtain ⟨r5, hb6, hF⟩ := Option.bind_eq_some_iff.1 hF
        refine T.step (W1.call (vT2 (vSc (eList eElem)) (vSc eInt)) r5 51 #[.slice A1 p0.length c1, .string s1] (by kernel_rfl) (fun _ => by kernel_rfl) (fun w' hh => stream_Feed_l F p0 s1 r5 hb6 w' A1 c1 (SlOk.mono (SlOk.mono hs1 (View.le_trans (View.le_trans (View.le_trans hV1 hV2) hV3) hV4)) hh.view)) ?_)
        intro u V5 hV5 hu
        obtain ⟨u3, u4, rfl, hu3, hu4⟩ := vT2_elim hu
        obtain ⟨A3, c3, rfl, hs3⟩ := vlist_elim hu3
        obtain rfl := sureInt _ _ _ hu4
        refine T.pure (.tuple #[.slice A3 r5.1.length c3, .int .i64 r5.2]) (by kernel_rfl) (fun _ => by kernel_rfl) ?_
        refine T.pure (.slice A3 r5.1.length c3) (by kernel_rfl) (fun _ => by kernel_rfl) ?_
        refine T.pure (.int .i64 r5.2) (by kernel_rfl) (fun _ => by kernel_rfl) ?_
        refine T.pure (.int .i64 r5.2) (by kernel_rfl) (fun _ => by kernel_rfl) ?_
        refine T.nil ?_
        refine T.seq ?_
        refine T.region ?_
        refine T.pure (.slice A1 p0.length c1) (by kernel_rfl) (fun _ => by kernel_rfl) ?_
        refine T.pure (.string r2.1) (by kernel_rfl) (fun _ => by kernel_rfl) ?_
        obtain ⟨s2, hb7, hF⟩ := Option.bind_eq_some_iff.1 hF
        refine T.look (.string s2) (by kernel_rfl) (fun w' hh => exec_scat rfl rfl rfl hb7) ?_
        obtain ⟨r6, hb8, hF⟩ := Option.bind_eq_some_iff.1 hF
        refine T.step (W1.call (vT2 (vSc (eList eElem)) (vSc eInt)) r6 51 #[.slice A1 p0.length c1, .string s2] (by kernel_rfl) (fun _ => by kernel_rfl) (fun w' hh => stream_Feed_l F p0 s2 r6 hb8 w' A1 c1 (SlOk.mono (SlOk.mono hs1 (View.le_trans (View.le_trans (View.le_trans (View.le_trans hV1 hV2) hV3) hV4) hV5)) hh.view)) ?_)
        intro u V6 hV6 hu
        obtain ⟨u5, u6, rfl, hu5, hu6⟩ := vT2_elim hu
        obtain ⟨A4, c4, rfl, hs4⟩ := vlist_elim hu5
        obtain rfl := sureInt _ _ _ hu6
        refine T.pure (.tuple #[.slice A4 r6.1.length c4, .int .i64 r6.2]) (by kernel_rfl) (fun _ => by kernel_rfl) ?_
        refine T.pure (.slice A4 r6.1.length c4) (by kernel_rfl) (fun _ => by kernel_rfl) ?_
        refine T.pure (.int .i64 r6.2) (by kernel_rfl) (fun _ => by kernel_rfl) ?_
        refine T.pure (.int .i64 r6.2) (by kernel_rfl) (fun _ => by kernel_rfl) ?_
        refine T.nil ?_
        refine T.seq ?_
        refine T.cut (fun a w' => Fr 89 [(0, .slice A1 p0.length c1), (3, .int .i64 p3), (13, .string r2.1), (15, .int .i64 r3.1), (72, .bool ((r5.2 == 0) || (r6.2 == 0)))] a ∧ Hp w V6 [] w') ?_ ?_
        ·
          refine T.region ?_
          refine T.pure (.int .i64 r5.2) (by kernel_rfl) (fun _ => by kernel_rfl) ?_
          refine T.pure (.bool (r5.2 == 0)) (by kernel_rfl) (fun _ => by kernel_rfl) ?_
          refine T.pure (.bool (r5.2 == 0)) (by kernel_rfl) (fun _ => by kernel_rfl) ?_
          cases hg3 : (r5.2 == 0)
          ·
            skip
            refine T.pure (.int .i64 r6.2) (by kernel_rfl) (fun _ => by kernel_rfl) ?_
            refine T.pure (.bool (r6.2 == 0)) (by kernel_rfl) (fun _ => by kernel_rfl) ?_
            refine T.pure (.bool (r6.2 == 0)) (by kernel_rfl) (fun _ => by kernel_rfl) ?_
            refine T.nil ?_
            exact fun a w' hf hh => And.intro ((((((Fr.nil hf).pick hf 72 rfl).pick hf 15 rfl).pick hf 13 rfl).pick hf 3 rfl).pick hf 0 rfl) (hh.sub List.Sublist.slnil)
          ·
            skip
            refine T.pass (by kernel_rfl) (by kernel_rfl) ?_
            refine T.pass (by kernel_rfl) (by kernel_rfl) ?_
            refine T.pure (.bool true) (by kernel_rfl) (fun _ => by kernel_rfl) ?_
            refine T.nil ?_
            exact fun a w' hf hh => And.intro ((((((Fr.nil hf).pick hf 72 rfl).pick hf 15 rfl).pick hf 13 rfl).pick hf 3 rfl).pick hf 0 rfl) (hh.sub List.Sublist.slnil)
        ·
          rintro a w' ⟨hf, hh⟩
          refine (?_ : T 89 w V6 [] [(0, .slice A1 p0.length c1), (3, .int .i64 p3), (13, .string r2.1), (15, .int .i64 r3.1), (72, .bool ((r5.2 == 0) || (r6.2 == 0)))] _) a w' hf hh
          clear hf hh
          refine T.cond ((r5.2 == 0) || (r6.2 == 0)) (by kernel_rfl) (by kernel_rfl) (fun hc3 => ?_) (fun hc3 => ?_)
          ·
            rw [hc3, cond_true] at hF
            refine T.seq ?_
            refine T.region ?_
            refine T.pure (.bool false) (by kernel_rfl) (fun _ => by kernel_rfl) ?_
            refine T.nil ?_
            cases hF
            refine T.ret rfl ?_
            exact T.ret1 rfl (ResIs.tmp rfl) fun w' hh => ⟨_, rfl, hh.below, (show _ from rfl)⟩
          ·
            rw [hc3, cond_false] at hF
            refine T.skip_code ?_
            refine T.seq ?_
            refine T.seq ?_
            refine T.region ?_
            refine T.pure (.int .i64 p3) (by kernel_rfl) (fun _ => by kernel_rfl) ?_
            refine T.pure (.int .i64 r3.1) (by kernel_rfl) (fun _ => by kernel_rfl) ?_
            refine T.pure (.bool (decide (p3 < r3.1))) (by kernel_rfl) (fun _ => by kernel_rfl) ?_
            refine T.nil ?_
            refine T.cond (decide (p3 < r3.1)) (by kernel_rfl) (by kernel_rfl) (fun hc4 => ?_) (fun hc4 => ?_)
            ·
              rw [hc4, cond_true] at hF
              refine T.seq ?_
              refine T.region ?_
              refine T.pure (.bool true) (by kernel_rfl) (fun _ => by kernel_rfl) ?_
              refine T.nil ?_
              cases hF
              refine T.ret rfl ?_
              exact T.ret1 rfl (ResIs.tmp rfl) fun w' hh => ⟨_, rfl, hh.below, (show _ from rfl)⟩
            ·
              rw [hc4, cond_false] at hF
              refine T.skip_code ?_
              refine T.seq ?_
              refine T.region ?_
              refine T.pure (.slice A1 p0.length c1) (by kernel_rfl) (fun _ => by kernel_rfl) ?_
              refine T.pure (.string r2.1) (by kernel_rfl) (fun _ => by kernel_rfl) ?_
              obtain ⟨r7, hb9, hF⟩ := Option.bind_eq_some_iff.1 hF
              refine T.step (W1.call (vT2 (vSc (eList eElem)) (vSc eInt)) r7 51 #[.slice A1 p0.length c1, .string r2.1] (by kernel_rfl) (fun _ => by kernel_rfl) (fun w' hh => stream_Feed_l F p0 r2.1 r7 hb9 w' A1 c1 (SlOk.mono (SlOk.mono hs1 (View.le_trans (View.le_trans (View.le_trans (View.le_trans (View.le_trans hV1 hV2) hV3) hV4) hV5) hV6)) hh.view)) ?_)
              intro u V7 hV7 hu
              obtain ⟨u7, u8, rfl, hu7, hu8⟩ := vT2_elim hu
              obtain ⟨A5, c5, rfl, hs5⟩ := vlist_elim hu7
              obtain rfl := sureInt _ _ _ hu8
              refine T.pure (.tuple #[.slice A5 r7.1.length c5, .int .i64 r7.2]) (by kernel_rfl) (fun _ => by kernel_rfl) ?_
              refine T.pure (.slice A5 r7.1.length c5) (by kernel_rfl) (fun _ => by kernel_rfl) ?_
              refine T.pure (.int .i64 r7.2) (by kernel_rfl) (fun _ => by kernel_rfl) ?_
              refine T.pure (.slice A5 r7.1.length c5) (by kernel_rfl) (fun _ => by kernel_rfl) ?_
              refine T.pure (.int .i64 r7.2) (by kernel_rfl) (fun _ => by kernel_rfl) ?_
              refine T.nil ?_
              obtain ⟨z1, hX1, hF⟩ := Option.bind_eq_some_iff.1 hF
              refine T.cut (fun a w' => ∃ (V8 : View), View.le V7 V8 ∧ Fr 89 [(10, .bool z1)] a ∧ Hp w V8 [] w') ?_ ?_
              ·
                refine T.region ?_
                refine T.pure (.int .i64 r7.2) (by kernel_rfl) (fun _ => by kernel_rfl) ?_
                refine T.pure (.bool (r7.2 == 0)) (by kernel_rfl) (fun _ => by kernel_rfl) ?_
                refine T.pure (.bool (r7.2 == 0)) (by kernel_rfl) (fun _ => by kernel_rfl) ?_
                cases hg4 : (r7.2 == 0)
                ·
                  skip
                  rw [hg4, cond_false] at hX1
                  refine T.pass (by kernel_rfl) (by kernel_rfl) ?_
                  refine T.pass (by kernel_rfl) (by kernel_rfl) ?_
                  refine T.pass (by kernel_rfl) (by kernel_rfl) ?_
                  refine T.pure (.bool false) (by kernel_rfl) (fun _ => by kernel_rfl) ?_
                  refine T.pure (.bool false) (by kernel_rfl) (fun _ => by kernel_rfl) ?_
                  refine T.nil ?_
                  cases hX1
                  exact fun a w' hf hh => Exists.intro V7 (And.intro (View.le_refl _) (And.intro ((Fr.nil hf).pick hf 10 rfl) (hh.sub List.Sublist.slnil)))
                ·
                  skip
                  rw [hg4, cond_true] at hX1
                  refine T.pure (.slice A5 r7.1.length c5) (by kernel_rfl) (fun _ => by kernel_rfl) ?_
                  refine T.pure (.slice A1 p0.length c1) (by kernel_rfl) (fun _ => by kernel_rfl) ?_
                  obtain ⟨r8, hb10, hX1⟩ := Option.bind_eq_some_iff.1 hX1
                  refine T.step (W1.call (vSc eBool) r8 26 #[.slice A5 r7.1.length c5, .slice A1 p0.length c1] (by kernel_rfl) (fun _ => by kernel_rfl) (fun w' hh => slices_Equal_Elem_l F r7.1 p0 r8 hb10 w' A5 c5 (SlOk.mono (SlOk.mono hs5 (View.le_trans (made_le _ _) (View.le_refl _))) hh.view) A1 c1 (SlOk.mono (SlOk.mono hs1 (View.le_trans (View.le_trans (View.le_trans (View.le_trans (View.le_trans (View.le_trans hV1 hV2) hV3) hV4) hV5) hV6) hV7)) hh.view)) ?_)
                  intro u V9 hV9 hu
                  obtain rfl := sureBool _ _ _ hu
                  refine T.pure (.bool r8) (by kernel_rfl) (fun _ => by kernel_rfl) ?_
                  refine T.pure (.bool r8) (by kernel_rfl) (fun _ => by kernel_rfl) ?_
                  refine T.nil ?_
                  cases hX1
                  exact fun a w' hf hh => Exists.intro V9 (And.intro hV9 (And.intro ((Fr.nil hf).pick hf 10 rfl) (hh.sub List.Sublist.slnil)))
              ·
                rintro a w' ⟨V8, hV8, hf, hh⟩
                refine (?_ : T 89 w V8 [] [(10, .bool z1)] _) a w' hf hh
                clear hf hh
                cases hF
                refine T.ret rfl ?_
                exact T.ret1 rfl (ResIs.tmp rfl) fun w' hh => ⟨_, rfl, hh.below, (show _ from rfl)⟩

end Go.Proofs.Ytldlakjemifdmaa
