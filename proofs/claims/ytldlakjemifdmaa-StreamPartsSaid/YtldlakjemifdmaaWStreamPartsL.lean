/- The Go functions of group WStreamParts compute the pure functions of that group: written by walkgen.py. Condition of each: the pure function yields a result. -/
import Derived.Test.YtldlakjemifdmaaStreamL
import Derived.Test.YtldlakjemifdmaaEqsL
import Derived.Test.YtldlakjemifdmaaWStreamPartsF
import Derived.Test.YtldlakjemifdmaaEqL
namespace Go.Proofs.Ytldlakjemifdmaa
set_option linter.unusedVariables false

set_option maxRecDepth 100000 in
set_option maxHeartbeats 4000000 in
theorem annalkeep_StreamParts_l (F : Nat) (p0 : (List DElem)) (p1 : Int) (p2 : Int) (p3 : Int) (r : Bool) (hF : annalkeep_StreamParts F p0 p1 p2 p3 = some r) (w : World) (A1 : Option Addr) (c1 : Nat) (hs1 : SlOk (vw w) eElem A1 c1 p0) :
    Calls Try.prog 15 #[.slice A1 p0.length c1, .int .i64 p1, .int .i64 p2, .int .i64 p3] w (Post (vSc eBool) r w) := by
  unfold annalkeep_StreamParts at hF
  refine T.start (l := [.slice A1 p0.length c1, .int .i64 p1, .int .i64 p2, .int .i64 p3]) Try.func15 rfl rfl rfl ?_
  refine T.seq ?_
  refine T.region ?_
  refine T.pure (.bool false) (by kernel_rfl) (fun _ => by kernel_rfl) ?_
  refine T.nil ?_
  refine T.seq ?_
  refine T.seq ?_
  refine T.region ?_
  obtain ⟨r1, hb1, hF⟩ := Option.bind_eq_some_iff.1 hF
  refine T.step (W1.call (vT2 (vSc eStr) (vSc eInt)) r1 50 #[.slice none 0 0, .int .i64 0, .int .i64 0, .int .i64 0] (by kernel_rfl) (fun _ => by kernel_rfl) (fun w' hh => stream_Read_l F ([] : List DElem) 0 0 0 r1 hb1 w' none 0 (SlOk.nil _ _)) ?_)
  intro u V1 hV1 hu
  obtain rfl := (Sure.t2 sureStr sureInt) _ _ _ hu
  refine T.pure (.tuple #[.string r1.1, .int .i64 r1.2]) (by kernel_rfl) (fun _ => by kernel_rfl) ?_
  refine T.pure (.string r1.1) (by kernel_rfl) (fun _ => by kernel_rfl) ?_
  refine T.pure (.int .i64 r1.2) (by kernel_rfl) (fun _ => by kernel_rfl) ?_
  refine T.pure (.string r1.1) (by kernel_rfl) (fun _ => by kernel_rfl) ?_
  refine T.pure (.int .i64 r1.2) (by kernel_rfl) (fun _ => by kernel_rfl) ?_
  refine T.nil ?_
  refine T.cut (fun a w' => Fr 127 [(0, .slice A1 p0.length c1), (1, .int .i64 p1), (2, .int .i64 p2), (3, .int .i64 p3), (32, .bool ((r1.2 != 0) || ((r1.1.size : Int) != 26)))] a ∧ Hp w V1 [] w') ?_ ?_
  ·
    refine T.region ?_
    refine T.pure (.int .i64 r1.2) (by kernel_rfl) (fun _ => by kernel_rfl) ?_
    refine T.pure (.bool (r1.2 != 0)) (by kernel_rfl) (fun _ => by kernel_rfl) ?_
    refine T.pure (.bool (r1.2 != 0)) (by kernel_rfl) (fun _ => by kernel_rfl) ?_
    cases hg1 : (r1.2 != 0)
    ·
      skip
      refine T.pure (.string r1.1) (by kernel_rfl) (fun _ => by kernel_rfl) ?_
      refine T.pure (.int .i64 (r1.1.size : Int)) (by kernel_rfl) (fun _ => by kernel_rfl) ?_
      refine T.pure (.bool ((r1.1.size : Int) != 26)) (by kernel_rfl) (fun _ => by kernel_rfl) ?_
      refine T.pure (.bool ((r1.1.size : Int) != 26)) (by kernel_rfl) (fun _ => by kernel_rfl) ?_
      refine T.nil ?_
      exact fun a w' hf hh => And.intro ((((((Fr.nil hf).pick hf 32 rfl).pick hf 3 rfl).pick hf 2 rfl).pick hf 1 rfl).pick hf 0 rfl) (hh.sub List.Sublist.slnil)
    ·
      skip
      refine T.pass (by kernel_rfl) (by kernel_rfl) ?_
      refine T.pass (by kernel_rfl) (by kernel_rfl) ?_
      refine T.pass (by kernel_rfl) (by kernel_rfl) ?_
      refine T.pure (.bool true) (by kernel_rfl) (fun _ => by kernel_rfl) ?_
      refine T.nil ?_
      exact fun a w' hf hh => And.intro ((((((Fr.nil hf).pick hf 32 rfl).pick hf 3 rfl).pick hf 2 rfl).pick hf 1 rfl).pick hf 0 rfl) (hh.sub List.Sublist.slnil)
  ·
    rintro a w' ⟨hf, hh⟩
    refine (?_ : T 127 w V1 [] [(0, .slice A1 p0.length c1), (1, .int .i64 p1), (2, .int .i64 p2), (3, .int .i64 p3), (32, .bool ((r1.2 != 0) || ((r1.1.size : Int) != 26)))] _) a w' hf hh
    clear hf hh
    refine T.cond ((r1.2 != 0) || ((r1.1.size : Int) != 26)) (by kernel_rfl) (by kernel_rfl) (fun hc1 => ?_) (fun hc1 => ?_)
    ·
      rw [hc1, cond_true] at hF
      refine T.seq ?_
      refine T.region ?_
      refine T.pure (.bool false) (by kernel_rfl) (fun _ => by kernel_rfl) ?_
      refine T.nil ?_
      cases hF
      refine T.ret rfl ?_
      exact T.ret1 rfl (ResIs.tmp rfl) fun w' hh => ⟨_, rfl, hh.below, (show _ from rfl)⟩
    ·
      rw [hc1, cond_false] at hF
      refine T.skip_code ?_
      refine T.seq ?_
      refine T.seq ?_
      refine T.region ?_
      refine T.pure (.slice A1 p0.length c1) (by kernel_rfl) (fun _ => by kernel_rfl) ?_
      obtain ⟨r2, hb2, hF⟩ := Option.bind_eq_some_iff.1 hF
      refine T.step (W1.call (vSc eInt) r2 28 #[.slice A1 p0.length c1] (by kernel_rfl) (fun _ => by kernel_rfl) (fun w' hh => run_Check_l F p0 r2 hb2 w' A1 c1 (SlOk.mono (SlOk.mono hs1 hV1) hh.view)) ?_)
      intro u V2 hV2 hu
      obtain rfl := sureInt _ _ _ hu
      refine T.pure (.bool (r2 != 0)) (by kernel_rfl) (fun _ => by kernel_rfl) ?_
      refine T.nil ?_
      refine T.cond (r2 != 0) (by kernel_rfl) (by kernel_rfl) (fun hc2 => ?_) (fun hc2 => ?_)
      ·
        rw [hc2, cond_true] at hF
        refine T.seq ?_
        refine T.region ?_
        refine T.pure (.bool true) (by kernel_rfl) (fun _ => by kernel_rfl) ?_
        refine T.nil ?_
        cases hF
        refine T.ret rfl ?_
        exact T.ret1 rfl (ResIs.tmp rfl) fun w' hh => ⟨_, rfl, hh.below, (show _ from rfl)⟩
      ·
        rw [hc2, cond_false] at hF
        refine T.skip_code ?_
        refine T.seq ?_
        refine T.region ?_
        refine T.pure (.int .i64 p1) (by kernel_rfl) (fun _ => by kernel_rfl) ?_
        obtain ⟨r3, hb3, hF⟩ := Option.bind_eq_some_iff.1 hF
        refine T.step (W1.call (vSc eInt) r3 37 #[.int .i64 p1, .int .i64 16] (by kernel_rfl) (fun _ => by kernel_rfl) (fun w' hh => annalkeep_Within_l p1 16 r3 hb3 w' ) ?_)
        intro u V3 hV3 hu
        obtain rfl := sureInt _ _ _ hu
        refine T.pure (.int .i64 p2) (by kernel_rfl) (fun _ => by kernel_rfl) ?_
        obtain ⟨r4, hb4, hF⟩ := Option.bind_eq_some_iff.1 hF
        refine T.step (W1.call (vSc eInt) r4 37 #[.int .i64 p2, .int .i64 40] (by kernel_rfl) (fun _ => by kernel_rfl) (fun w' hh => annalkeep_Within_l p2 40 r4 hb4 w' ) ?_)
        intro u V4 hV4 hu
        obtain rfl := sureInt _ _ _ hu
        refine T.pure (.int .i64 p3) (by kernel_rfl) (fun _ => by kernel_rfl) ?_
        obtain ⟨r5, hb5, hF⟩ := Option.bind_eq_some_iff.1 hF
        refine T.step (W1.call (vSc eInt) r5 37 #[.int .i64 p3, .int .i64 40] (by kernel_rfl) (fun _ => by kernel_rfl) (fun w' hh => annalkeep_Within_l p3 40 r5 hb5 w' ) ?_)
        intro u V5 hV5 hu
        obtain rfl := sureInt _ _ _ hu
        refine T.pure (.int .i64 r3) (by kernel_rfl) (fun _ => by kernel_rfl) ?_
        refine T.pure (.int .i64 r4) (by kernel_rfl) (fun _ => by kernel_rfl) ?_
        refine T.pure (.int .i64 r5) (by kernel_rfl) (fun _ => by kernel_rfl) ?_
        refine T.nil ?_
        refine T.seq ?_
        refine T.region ?_
        refine T.pure (.int .i64 r4) (by kernel_rfl) (fun _ => by kernel_rfl) ?_
        refine T.pure (.int .i64 r5) (by kernel_rfl) (fun _ => by kernel_rfl) ?_
        refine T.pure (.int .i64 (if r5 < r4 then r5 else r4)) (by kernel_rfl) (fun _ => by kernel_rfl) ?_
        refine T.pure (.int .i64 r4) (by kernel_rfl) (fun _ => by kernel_rfl) ?_
        refine T.pure (.int .i64 r5) (by kernel_rfl) (fun _ => by kernel_rfl) ?_
        refine T.pure (.int .i64 (if r4 < r5 then r5 else r4)) (by kernel_rfl) (fun _ => by kernel_rfl) ?_
        refine T.pure (.int .i64 (if r5 < r4 then r5 else r4)) (by kernel_rfl) (fun _ => by kernel_rfl) ?_
        refine T.pure (.int .i64 (if r4 < r5 then r5 else r4)) (by kernel_rfl) (fun _ => by kernel_rfl) ?_
        refine T.nil ?_
        refine T.seq ?_
        refine T.region ?_
        refine T.pure (.slice A1 p0.length c1) (by kernel_rfl) (fun _ => by kernel_rfl) ?_
        refine T.pure (.int .i64 r3) (by kernel_rfl) (fun _ => by kernel_rfl) ?_
        refine T.pure (.int .i64 (if r4 < r5 then r5 else r4)) (by kernel_rfl) (fun _ => by kernel_rfl) ?_
        obtain ⟨r6, hb6, hF⟩ := Option.bind_eq_some_iff.1 hF
        refine T.step (W1.call (vT2 (vSc (eList eElem)) (vSc eInt)) r6 25 #[.slice A1 p0.length c1, .int .i64 r3, .int .i64 (if r4 < r5 then r5 else r4)] (by kernel_rfl) (fun _ => by kernel_rfl) (fun w' hh => stream_Upto_l F p0 r3 (if r4 < r5 then r5 else r4) r6 hb6 w' A1 c1 (SlOk.mono (SlOk.mono hs1 (View.le_trans (View.le_trans (View.le_trans (View.le_trans hV1 hV2) hV3) hV4) hV5)) hh.view)) ?_)
        intro u V6 hV6 hu
        obtain ⟨u1, u2, rfl, hu1, hu2⟩ := vT2_elim hu
        obtain ⟨A2, c2, rfl, hs2⟩ := vlist_elim hu1
        obtain rfl := sureInt _ _ _ hu2
        refine T.pure (.tuple #[.slice A2 r6.1.length c2, .int .i64 r6.2]) (by kernel_rfl) (fun _ => by kernel_rfl) ?_
        refine T.pure (.slice A2 r6.1.length c2) (by kernel_rfl) (fun _ => by kernel_rfl) ?_
        refine T.pure (.int .i64 r6.2) (by kernel_rfl) (fun _ => by kernel_rfl) ?_
        refine T.pure (.slice A2 r6.1.length c2) (by kernel_rfl) (fun _ => by kernel_rfl) ?_
        refine T.pure (.int .i64 r6.2) (by kernel_rfl) (fun _ => by kernel_rfl) ?_
        refine T.nil ?_
        refine T.seq ?_
        refine T.region ?_
        refine T.pure (.slice A1 p0.length c1) (by kernel_rfl) (fun _ => by kernel_rfl) ?_
        refine T.pure (.int .i64 r3) (by kernel_rfl) (fun _ => by kernel_rfl) ?_
        refine T.pure (.int .i64 (if r4 < r5 then r5 else r4)) (by kernel_rfl) (fun _ => by kernel_rfl) ?_
        obtain ⟨r7, hb7, hF⟩ := Option.bind_eq_some_iff.1 hF
        refine T.step (W1.call (vT2 (vSc eStr) (vSc eInt)) r7 50 #[.slice A1 p0.length c1, .int .i64 r3, .int .i64 0, .int .i64 (if r4 < r5 then r5 else r4)] (by kernel_rfl) (fun _ => by kernel_rfl) (fun w' hh => stream_Read_l F p0 r3 0 (if r4 < r5 then r5 else r4) r7 hb7 w' A1 c1 (SlOk.mono (SlOk.mono hs1 (View.le_trans (View.le_trans (View.le_trans (View.le_trans (View.le_trans hV1 hV2) hV3) hV4) hV5) hV6)) hh.view)) ?_)
        intro u V7 hV7 hu
        obtain rfl := (Sure.t2 sureStr sureInt) _ _ _ hu
        refine T.pure (.tuple #[.string r7.1, .int .i64 r7.2]) (by kernel_rfl) (fun _ => by kernel_rfl) ?_
        refine T.pure (.string r7.1) (by kernel_rfl) (fun _ => by kernel_rfl) ?_
        refine T.pure (.int .i64 r7.2) (by kernel_rfl) (fun _ => by kernel_rfl) ?_
        refine T.pure (.string r7.1) (by kernel_rfl) (fun _ => by kernel_rfl) ?_
        refine T.pure (.int .i64 r7.2) (by kernel_rfl) (fun _ => by kernel_rfl) ?_
        refine T.nil ?_
        refine T.seq ?_
        refine T.region ?_
        refine T.pure (.slice A1 p0.length c1) (by kernel_rfl) (fun _ => by kernel_rfl) ?_
        refine T.pure (.int .i64 r3) (by kernel_rfl) (fun _ => by kernel_rfl) ?_
        refine T.pure (.int .i64 (if r5 < r4 then r5 else r4)) (by kernel_rfl) (fun _ => by kernel_rfl) ?_
        obtain ⟨r8, hb8, hF⟩ := Option.bind_eq_some_iff.1 hF
        refine T.step (W1.call (vT2 (vSc eStr) (vSc eInt)) r8 50 #[.slice A1 p0.length c1, .int .i64 r3, .int .i64 0, .int .i64 (if r5 < r4 then r5 else r4)] (by kernel_rfl) (fun _ => by kernel_rfl) (fun w' hh => stream_Read_l F p0 r3 0 (if r5 < r4 then r5 else r4) r8 hb8 w' A1 c1 (SlOk.mono (SlOk.mono hs1 (View.le_trans (View.le_trans (View.le_trans (View.le_trans (View.le_trans (View.le_trans hV1 hV2) hV3) hV4) hV5) hV6) hV7)) hh.view)) ?_)
        intro u V8 hV8 hu
        obtain rfl := (Sure.t2 sureStr sureInt) _ _ _ hu
        refine T.pure (.tuple #[.string r8.1, .int .i64 r8.2]) (by kernel_rfl) (fun _ => by kernel_rfl) ?_
        refine T.pure (.string r8.1) (by kernel_rfl) (fun _ => by kernel_rfl) ?_
        refine T.pure (.int .i64 r8.2) (by kernel_rfl) (fun _ => by kernel_rfl) ?_
        refine T.pure (.string r8.1) (by kernel_rfl) (fun _ => by kernel_rfl) ?_
        refine T.pure (.int .i64 r8.2) (by kernel_rfl) (fun _ => by kernel_rfl) ?_
        refine T.nil ?_
        refine T.seq ?_
        refine T.region ?_
        refine T.pure (.slice A1 p0.length c1) (by kernel_rfl) (fun _ => by kernel_rfl) ?_
        refine T.pure (.int .i64 r3) (by kernel_rfl) (fun _ => by kernel_rfl) ?_
        refine T.pure (.int .i64 (if r5 < r4 then r5 else r4)) (by kernel_rfl) (fun _ => by kernel_rfl) ?_
        refine T.pure (.int .i64 (if r4 < r5 then r5 else r4)) (by kernel_rfl) (fun _ => by kernel_rfl) ?_
        obtain ⟨r9, hb9, hF⟩ := Option.bind_eq_some_iff.1 hF
        refine T.step (W1.call (vT2 (vSc eStr) (vSc eInt)) r9 50 #[.slice A1 p0.length c1, .int .i64 r3, .int .i64 (if r5 < r4 then r5 else r4), .int .i64 (if r4 < r5 then r5 else r4)] (by kernel_rfl) (fun _ => by kernel_rfl) (fun w' hh => stream_Read_l F p0 r3 (if r5 < r4 then r5 else r4) (if r4 < r5 then r5 else r4) r9 hb9 w' A1 c1 (SlOk.mono (SlOk.mono hs1 (View.le_trans (View.le_trans (View.le_trans (View.le_trans (View.le_trans (View.le_trans (View.le_trans hV1 hV2) hV3) hV4) hV5) hV6) hV7) hV8)) hh.view)) ?_)
        intro u V9 hV9 hu
        obtain rfl := (Sure.t2 sureStr sureInt) _ _ _ hu
        refine T.pure (.tuple #[.string r9.1, .int .i64 r9.2]) (by kernel_rfl) (fun _ => by kernel_rfl) ?_
        refine T.pure (.string r9.1) (by kernel_rfl) (fun _ => by kernel_rfl) ?_
        refine T.pure (.int .i64 r9.2) (by kernel_rfl) (fun _ => by kernel_rfl) ?_
        refine T.pure (.string r9.1) (by kernel_rfl) (fun _ => by kernel_rfl) ?_
        refine T.pure (.int .i64 r9.2) (by kernel_rfl) (fun _ => by kernel_rfl) ?_
        refine T.nil ?_
        refine T.seq ?_
        refine T.cut (fun a w' => Fr 127 [(11, .slice A2 r6.1.length c2), (13, .string r7.1), (15, .string r8.1), (17, .string r9.1), (90, .bool ((r6.2 != 0) || ((r7.2 != 0) || ((r8.2 != 0) || (r9.2 != 0)))))] a ∧ Hp w V9 [] w') ?_ ?_
        ·
          refine T.region ?_
          refine T.pure (.int .i64 r6.2) (by kernel_rfl) (fun _ => by kernel_rfl) ?_
          refine T.pure (.bool (r6.2 != 0)) (by kernel_rfl) (fun _ => by kernel_rfl) ?_
          refine T.pure (.bool (r6.2 != 0)) (by kernel_rfl) (fun _ => by kernel_rfl) ?_
          cases hg2 : (r6.2 != 0)
          ·
            skip
            refine T.pure (.int .i64 r7.2) (by kernel_rfl) (fun _ => by kernel_rfl) ?_
            refine T.pure (.bool (r7.2 != 0)) (by kernel_rfl) (fun _ => by kernel_rfl) ?_
            refine T.pure (.bool (r7.2 != 0)) (by kernel_rfl) (fun _ => by kernel_rfl) ?_
            refine T.pure (.bool (r7.2 != 0)) (by kernel_rfl) (fun _ => by kernel_rfl) ?_
            cases hg3 : (r7.2 != 0)
            ·
              skip
              refine T.pure (.int .i64 r8.2) (by kernel_rfl) (fun _ => by kernel_rfl) ?_
              refine T.pure (.bool (r8.2 != 0)) (by kernel_rfl) (fun _ => by kernel_rfl) ?_
              refine T.pure (.bool (r8.2 != 0)) (by kernel_rfl) (fun _ => by kernel_rfl) ?_
              refine T.pure (.bool (r8.2 != 0)) (by kernel_rfl) (fun _ => by kernel_rfl) ?_
              cases hg4 : (r8.2 != 0)
              ·
                skip
                refine T.pure (.int .i64 r9.2) (by kernel_rfl) (fun _ => by kernel_rfl) ?_
                refine T.pure (.bool (r9.2 != 0)) (by kernel_rfl) (fun _ => by kernel_rfl) ?_
                refine T.pure (.bool (r9.2 != 0)) (by kernel_rfl) (fun _ => by kernel_rfl) ?_
                refine T.nil ?_
                exact fun a w' hf hh => And.intro ((((((Fr.nil hf).pick hf 90 rfl).pick hf 17 rfl).pick hf 15 rfl).pick hf 13 rfl).pick hf 11 rfl) (hh.sub List.Sublist.slnil)
              ·
                skip
                refine T.pass (by kernel_rfl) (by kernel_rfl) ?_
                refine T.pass (by kernel_rfl) (by kernel_rfl) ?_
                refine T.pure (.bool true) (by kernel_rfl) (fun _ => by kernel_rfl) ?_
                refine T.nil ?_
                exact fun a w' hf hh => And.intro ((((((Fr.nil hf).pick hf 90 rfl).pick hf 17 rfl).pick hf 15 rfl).pick hf 13 rfl).pick hf 11 rfl) (hh.sub List.Sublist.slnil)
            ·
              skip
              refine T.pass (by kernel_rfl) (by kernel_rfl) ?_
              refine T.pass (by kernel_rfl) (by kernel_rfl) ?_
              refine T.pure (.bool true) (by kernel_rfl) (fun _ => by kernel_rfl) ?_
              refine T.pure (.bool true) (by kernel_rfl) (fun _ => by kernel_rfl) ?_
              refine T.pass (by kernel_rfl) (by kernel_rfl) ?_
              refine T.pass (by kernel_rfl) (by kernel_rfl) ?_
              refine T.pure (.bool true) (by kernel_rfl) (fun _ => by kernel_rfl) ?_
              refine T.nil ?_
              exact fun a w' hf hh => And.intro ((((((Fr.nil hf).pick hf 90 rfl).pick hf 17 rfl).pick hf 15 rfl).pick hf 13 rfl).pick hf 11 rfl) (hh.sub List.Sublist.slnil)
          ·
            skip
            refine T.pass (by kernel_rfl) (by kernel_rfl) ?_
            refine T.pass (by kernel_rfl) (by kernel_rfl) ?_
            refine T.pure (.bool true) (by kernel_rfl) (fun _ => by kernel_rfl) ?_
            refine T.pure (.bool true) (by kernel_rfl) (fun _ => by kernel_rfl) ?_
            refine T.pass (by kernel_rfl) (by kernel_rfl) ?_
            refine T.pass (by kernel_rfl) (by kernel_rfl) ?_
            refine T.pure (.bool true) (by kernel_rfl) (fun _ => by kernel_rfl) ?_
            refine T.pure (.bool true) (by kernel_rfl) (fun _ => by kernel_rfl) ?_
            refine T.pass (by kernel_rfl) (by kernel_rfl) ?_
            refine T.pass (by kernel_rfl) (by kernel_rfl) ?_
            refine T.pure (.bool true) (by kernel_rfl) (fun _ => by kernel_rfl) ?_
            refine T.nil ?_
            exact fun a w' hf hh => And.intro ((((((Fr.nil hf).pick hf 90 rfl).pick hf 17 rfl).pick hf 15 rfl).pick hf 13 rfl).pick hf 11 rfl) (hh.sub List.Sublist.slnil)
        ·
          rintro a w' ⟨hf, hh⟩
          refine (?_ : T 127 w V9 [] [(11, .slice A2 r6.1.length c2), (13, .string r7.1), (15, .string r8.1), (17, .string r9.1), (90, .bool ((r6.2 != 0) || ((r7.2 != 0) || ((r8.2 != 0) || (r9.2 != 0)))))] _) a w' hf hh
          clear hf hh
          refine T.cond ((r6.2 != 0) || ((r7.2 != 0) || ((r8.2 != 0) || (r9.2 != 0)))) (by kernel_rfl) (by kernel_rfl) (fun hc3 => ?_) (fun hc3 => ?_)
          ·
            rw [hc3, cond_true] at hF
            refine T.seq ?_
            refine T.region ?_
            refine T.pure (.bool false) (by kernel_rfl) (fun _ => by kernel_rfl) ?_
            refine T.nil ?_
            cases hF
            refine T.ret rfl ?_
            exact T.ret1 rfl (ResIs.tmp rfl) fun w' hh => ⟨_, rfl, hh.below, (show _ from rfl)⟩
          ·
            rw [hc3, cond_false] at hF
            refine T.skip_code ?_
            refine T.seq ?_
            refine T.region ?_
            refine T.pure (.string r7.1) (by kernel_rfl) (fun _ => by kernel_rfl) ?_
            obtain ⟨r10, hb10, hF⟩ := Option.bind_eq_some_iff.1 hF
            refine T.step (W1.call (vT2 (vSc (eList eElem)) (vSc eInt)) r10 51 #[.slice none 0 0, .string r7.1] (by kernel_rfl) (fun _ => by kernel_rfl) (fun w' hh => stream_Feed_l F ([] : List DElem) r7.1 r10 hb10 w' none 0 (SlOk.nil _ _)) ?_)
            intro u V10 hV10 hu
            obtain ⟨u3, u4, rfl, hu3, hu4⟩ := vT2_elim hu
            obtain ⟨A3, c3, rfl, hs3⟩ := vlist_elim hu3
            obtain rfl := sureInt _ _ _ hu4
            refine T.pure (.tuple #[.slice A3 r10.1.length c3, .int .i64 r10.2]) (by kernel_rfl) (fun _ => by kernel_rfl) ?_
            refine T.pure (.slice A3 r10.1.length c3) (by kernel_rfl) (fun _ => by kernel_rfl) ?_
            refine T.pure (.int .i64 r10.2) (by kernel_rfl) (fun _ => by kernel_rfl) ?_
            refine T.pure (.slice A3 r10.1.length c3) (by kernel_rfl) (fun _ => by kernel_rfl) ?_
            refine T.pure (.int .i64 r10.2) (by kernel_rfl) (fun _ => by kernel_rfl) ?_
            refine T.nil ?_
            refine T.seq ?_
            refine T.region ?_
            refine T.pure (.string r8.1) (by kernel_rfl) (fun _ => by kernel_rfl) ?_
            obtain ⟨r11, hb11, hF⟩ := Option.bind_eq_some_iff.1 hF
            refine T.step (W1.call (vT2 (vSc (eList eElem)) (vSc eInt)) r11 51 #[.slice none 0 0, .string r8.1] (by kernel_rfl) (fun _ => by kernel_rfl) (fun w' hh => stream_Feed_l F ([] : List DElem) r8.1 r11 hb11 w' none 0 (SlOk.nil _ _)) ?_)
            intro u V11 hV11 hu
            obtain ⟨u5, u6, rfl, hu5, hu6⟩ := vT2_elim hu
            obtain ⟨A4, c4, rfl, hs4⟩ := vlist_elim hu5
            obtain rfl := sureInt _ _ _ hu6
            refine T.pure (.tuple #[.slice A4 r11.1.length c4, .int .i64 r11.2]) (by kernel_rfl) (fun _ => by kernel_rfl) ?_
            refine T.pure (.slice A4 r11.1.length c4) (by kernel_rfl) (fun _ => by kernel_rfl) ?_
            refine T.pure (.int .i64 r11.2) (by kernel_rfl) (fun _ => by kernel_rfl) ?_
            refine T.pure (.slice A4 r11.1.length c4) (by kernel_rfl) (fun _ => by kernel_rfl) ?_
            refine T.pure (.int .i64 r11.2) (by kernel_rfl) (fun _ => by kernel_rfl) ?_
            refine T.nil ?_
            refine T.seq ?_
            refine T.region ?_
            refine T.pure (.slice A4 r11.1.length c4) (by kernel_rfl) (fun _ => by kernel_rfl) ?_
            refine T.pure (.string r9.1) (by kernel_rfl) (fun _ => by kernel_rfl) ?_
            obtain ⟨r12, hb12, hF⟩ := Option.bind_eq_some_iff.1 hF
            refine T.step (W1.call (vT2 (vSc (eList eElem)) (vSc eInt)) r12 51 #[.slice A4 r11.1.length c4, .string r9.1] (by kernel_rfl) (fun _ => by kernel_rfl) (fun w' hh => stream_Feed_l F r11.1 r9.1 r12 hb12 w' A4 c4 (SlOk.mono (SlOk.mono hs4 (View.le_trans (made_le _ _) (View.le_refl _))) hh.view)) ?_)
            intro u V12 hV12 hu
            obtain ⟨u7, u8, rfl, hu7, hu8⟩ := vT2_elim hu
            obtain ⟨A5, c5, rfl, hs5⟩ := vlist_elim hu7
            obtain rfl := sureInt _ _ _ hu8
            refine T.pure (.tuple #[.slice A5 r12.1.length c5, .int .i64 r12.2]) (by kernel_rfl) (fun _ => by kernel_rfl) ?_
            refine T.pure (.slice A5 r12.1.length c5) (by kernel_rfl) (fun _ => by kernel_rfl) ?_
            refine T.pure (.int .i64 r12.2) (by kernel_rfl) (fun _ => by kernel_rfl) ?_
            refine T.pure (.slice A5 r12.1.length c5) (by kernel_rfl) (fun _ => by kernel_rfl) ?_
            refine T.pure (.int .i64 r12.2) (by kernel_rfl) (fun _ => by kernel_rfl) ?_
            refine T.nil ?_
            obtain ⟨z1, hX1, hF⟩ := Option.bind_eq_some_iff.1 hF
            refine T.cut (fun a w' => ∃ (V13 : View), View.le V12 V13 ∧ Fr 127 [(8, .bool z1)] a ∧ Hp w V13 [] w') ?_ ?_
            ·
              refine T.region ?_
              refine T.pure (.int .i64 r10.2) (by kernel_rfl) (fun _ => by kernel_rfl) ?_
              refine T.pure (.bool (r10.2 == 0)) (by kernel_rfl) (fun _ => by kernel_rfl) ?_
              refine T.pure (.bool (r10.2 == 0)) (by kernel_rfl) (fun _ => by kernel_rfl) ?_
              cases hg5 : (r10.2 == 0)
              ·
                skip
                rw [hg5, cond_false] at hX1
                refine T.pass (by kernel_rfl) (by kernel_rfl) ?_
                refine T.pass (by kernel_rfl) (by kernel_rfl) ?_
                refine T.pure (.bool false) (by kernel_rfl) (fun _ => by kernel_rfl) ?_
                refine T.pure (.bool false) (by kernel_rfl) (fun _ => by kernel_rfl) ?_
                refine T.pass (by kernel_rfl) (by kernel_rfl) ?_
                refine T.pass (by kernel_rfl) (by kernel_rfl) ?_
                refine T.pure (.bool false) (by kernel_rfl) (fun _ => by kernel_rfl) ?_
                refine T.pure (.bool false) (by kernel_rfl) (fun _ => by kernel_rfl) ?_
                refine T.pass (by kernel_rfl) (by kernel_rfl) ?_
                refine T.pass (by kernel_rfl) (by kernel_rfl) ?_
                refine T.pass (by kernel_rfl) (by kernel_rfl) ?_
                refine T.pure (.bool false) (by kernel_rfl) (fun _ => by kernel_rfl) ?_
                refine T.pure (.bool false) (by kernel_rfl) (fun _ => by kernel_rfl) ?_
                refine T.pass (by kernel_rfl) (by kernel_rfl) ?_
                refine T.pass (by kernel_rfl) (by kernel_rfl) ?_
                refine T.pass (by kernel_rfl) (by kernel_rfl) ?_
                refine T.pure (.bool false) (by kernel_rfl) (fun _ => by kernel_rfl) ?_
                refine T.pure (.bool false) (by kernel_rfl) (fun _ => by kernel_rfl) ?_
                refine T.nil ?_
                cases hX1
                exact fun a w' hf hh => Exists.intro V12 (And.intro (View.le_refl _) (And.intro ((Fr.nil hf).pick hf 8 rfl) (hh.sub List.Sublist.slnil)))
              ·
                skip
                rw [hg5, cond_true] at hX1
                refine T.pure (.int .i64 r11.2) (by kernel_rfl) (fun _ => by kernel_rfl) ?_
                refine T.pure (.bool (r11.2 == 0)) (by kernel_rfl) (fun _ => by kernel_rfl) ?_
                refine T.pure (.bool (r11.2 == 0)) (by kernel_rfl) (fun _ => by kernel_rfl) ?_
                refine T.pure (.bool (r11.2 == 0)) (by kernel_rfl) (fun _ => by kernel_rfl) ?_
                cases hg6 : (r11.2 == 0)
                ·
                  skip
                  rw [hg6, cond_false] at hX1
                  refine T.pass (by kernel_rfl) (by kernel_rfl) ?_
                  refine T.pass (by kernel_rfl) (by kernel_rfl) ?_
                  refine T.pure (.bool false) (by kernel_rfl) (fun _ => by kernel_rfl) ?_
                  refine T.pure (.bool false) (by kernel_rfl) (fun _ => by kernel_rfl) ?_
                  refine T.pass (by kernel_rfl) (by kernel_rfl) ?_
                  refine T.pass (by kernel_rfl) (by kernel_rfl) ?_
                  refine T.pass (by kernel_rfl) (by kernel_rfl) ?_
                  refine T.pure (.bool false) (by kernel_rfl) (fun _ => by kernel_rfl) ?_
                  refine T.pure (.bool false) (by kernel_rfl) (fun _ => by kernel_rfl) ?_
                  refine T.pass (by kernel_rfl) (by kernel_rfl) ?_
                  refine T.pass (by kernel_rfl) (by kernel_rfl) ?_
                  refine T.pass (by kernel_rfl) (by kernel_rfl) ?_
                  refine T.pure (.bool false) (by kernel_rfl) (fun _ => by kernel_rfl) ?_
                  refine T.pure (.bool false) (by kernel_rfl) (fun _ => by kernel_rfl) ?_
                  refine T.nil ?_
                  cases hX1
                  exact fun a w' hf hh => Exists.intro V12 (And.intro (View.le_refl _) (And.intro ((Fr.nil hf).pick hf 8 rfl) (hh.sub List.Sublist.slnil)))
                ·
                  skip
                  rw [hg6, cond_true] at hX1
                  refine T.pure (.int .i64 r12.2) (by kernel_rfl) (fun _ => by kernel_rfl) ?_
                  refine T.pure (.bool (r12.2 == 0)) (by kernel_rfl) (fun _ => by kernel_rfl) ?_
                  refine T.pure (.bool (r12.2 == 0)) (by kernel_rfl) (fun _ => by kernel_rfl) ?_
                  refine T.pure (.bool (r12.2 == 0)) (by kernel_rfl) (fun _ => by kernel_rfl) ?_
                  cases hg7 : (r12.2 == 0)
                  ·
                    skip
                    rw [hg7, cond_false] at hX1
                    refine T.pass (by kernel_rfl) (by kernel_rfl) ?_
                    refine T.pass (by kernel_rfl) (by kernel_rfl) ?_
                    refine T.pass (by kernel_rfl) (by kernel_rfl) ?_
                    refine T.pure (.bool false) (by kernel_rfl) (fun _ => by kernel_rfl) ?_
                    refine T.pure (.bool false) (by kernel_rfl) (fun _ => by kernel_rfl) ?_
                    refine T.pass (by kernel_rfl) (by kernel_rfl) ?_
                    refine T.pass (by kernel_rfl) (by kernel_rfl) ?_
                    refine T.pass (by kernel_rfl) (by kernel_rfl) ?_
                    refine T.pure (.bool false) (by kernel_rfl) (fun _ => by kernel_rfl) ?_
                    refine T.pure (.bool false) (by kernel_rfl) (fun _ => by kernel_rfl) ?_
                    refine T.nil ?_
                    cases hX1
                    exact fun a w' hf hh => Exists.intro V12 (And.intro (View.le_refl _) (And.intro ((Fr.nil hf).pick hf 8 rfl) (hh.sub List.Sublist.slnil)))
                  ·
                    skip
                    rw [hg7, cond_true] at hX1
                    refine T.pure (.slice A3 r10.1.length c3) (by kernel_rfl) (fun _ => by kernel_rfl) ?_
                    refine T.pure (.slice A2 r6.1.length c2) (by kernel_rfl) (fun _ => by kernel_rfl) ?_
                    obtain ⟨r13, hb13, hX1⟩ := Option.bind_eq_some_iff.1 hX1
                    refine T.step (W1.call (vSc eBool) r13 26 #[.slice A3 r10.1.length c3, .slice A2 r6.1.length c2] (by kernel_rfl) (fun _ => by kernel_rfl) (fun w' hh => slices_Equal_Elem_l F r10.1 r6.1 r13 hb13 w' A3 c3 (SlOk.mono (SlOk.mono hs3 (View.le_trans (made_le _ _) (View.le_trans hV11 hV12))) hh.view) A2 c2 (SlOk.mono (SlOk.mono hs2 (View.le_trans (made_le _ _) (View.le_trans (View.le_trans (View.le_trans (View.le_trans (View.le_trans hV7 hV8) hV9) hV10) hV11) hV12))) hh.view)) ?_)
                    intro u V14 hV14 hu
                    obtain rfl := sureBool _ _ _ hu
                    refine T.pure (.bool r13) (by kernel_rfl) (fun _ => by kernel_rfl) ?_
                    refine T.pure (.bool r13) (by kernel_rfl) (fun _ => by kernel_rfl) ?_
                    cases hg8 : r13
                    ·
                      skip
                      rw [hg8, cond_false] at hX1
                      refine T.pass (by kernel_rfl) (by kernel_rfl) ?_
                      refine T.pass (by kernel_rfl) (by kernel_rfl) ?_
                      refine T.pass (by kernel_rfl) (by kernel_rfl) ?_
                      refine T.pure (.bool false) (by kernel_rfl) (fun _ => by kernel_rfl) ?_
                      refine T.pure (.bool false) (by kernel_rfl) (fun _ => by kernel_rfl) ?_
                      refine T.nil ?_
                      cases hX1
                      exact fun a w' hf hh => Exists.intro V14 (And.intro hV14 (And.intro ((Fr.nil hf).pick hf 8 rfl) (hh.sub List.Sublist.slnil)))
                    ·
                      skip
                      rw [hg8, cond_true] at hX1
                      refine T.pure (.slice A5 r12.1.length c5) (by kernel_rfl) (fun _ => by kernel_rfl) ?_
                      refine T.pure (.slice A2 r6.1.length c2) (by kernel_rfl) (fun _ => by kernel_rfl) ?_
                      obtain ⟨r14, hb14, hX1⟩ := Option.bind_eq_some_iff.1 hX1
                      refine T.step (W1.call (vSc eBool) r14 26 #[.slice A5 r12.1.length c5, .slice A2 r6.1.length c2] (by kernel_rfl) (fun _ => by kernel_rfl) (fun w' hh => slices_Equal_Elem_l F r12.1 r6.1 r14 hb14 w' A5 c5 (SlOk.mono (SlOk.mono hs5 (View.le_trans (made_le _ _) hV14)) hh.view) A2 c2 (SlOk.mono (SlOk.mono hs2 (View.le_trans (made_le _ _) (View.le_trans (View.le_trans (View.le_trans (View.le_trans (View.le_trans (View.le_trans hV7 hV8) hV9) hV10) hV11) hV12) hV14))) hh.view)) ?_)
                      intro u V15 hV15 hu
                      obtain rfl := sureBool _ _ _ hu
                      refine T.pure (.bool r14) (by kernel_rfl) (fun _ => by kernel_rfl) ?_
                      refine T.pure (.bool r14) (by kernel_rfl) (fun _ => by kernel_rfl) ?_
                      refine T.nil ?_
                      cases hX1
                      exact fun a w' hf hh => Exists.intro V15 (And.intro (View.le_trans hV14 hV15) (And.intro ((Fr.nil hf).pick hf 8 rfl) (hh.sub List.Sublist.slnil)))
            ·
              rintro a w' ⟨V13, hV13, hf, hh⟩
              refine (?_ : T 127 w V13 [] [(8, .bool z1)] _) a w' hf hh
              clear hf hh
              cases hF
              refine T.ret rfl ?_
              exact T.ret1 rfl (ResIs.tmp rfl) fun w' hh => ⟨_, rfl, hh.below, (show _ from rfl)⟩

end Go.Proofs.Ytldlakjemifdmaa
