/- The Go functions of group WChangeChains compute the pure functions of that group: written by walkgen.py. Condition of each: the pure function yields a result. -/
import Derived.Test.YtiaoncjkfgebdaaChangeL
import Derived.Test.YtiaoncjkfgebdaaEqsL
import Derived.Test.YtiaoncjkfgebdaaWChangeChainsF
import Derived.Test.YtiaoncjkfgebdaaEqL
namespace Go.Proofs.Ytiaoncjkfgebdaa
set_option linter.unusedVariables false

set_option maxRecDepth 100000 in
set_option maxHeartbeats 4000000 in
theorem annalkeep_ChangeChains_l (F : Nat) (p0 : (List DElem)) (p1 : Int) (p2 : Int) (p3 : Int) (r : Bool) (hF : annalkeep_ChangeChains F p0 p1 p2 p3 = some r) (w : World) (A1 : Option Addr) (c1 : Nat) (hs1 : SlOk (vw w) eElem A1 c1 p0) :
    Calls Try.prog 13 #[.slice A1 p0.length c1, .int .i64 p1, .int .i64 p2, .int .i64 p3] w (Post (vSc eBool) r w) := by
  unfold annalkeep_ChangeChains at hF
  refine T.start (l := [.slice A1 p0.length c1, .int .i64 p1, .int .i64 p2, .int .i64 p3]) Try.func13 rfl rfl rfl ?_
  refine T.seq ?_
  refine T.region ?_
  refine T.pure (.bool false) (by kernel_rfl) (fun _ => by kernel_rfl) ?_
  refine T.nil ?_
  refine T.seq ?_
  refine T.region ?_
  obtain ⟨r1, hb1, hF⟩ := Option.bind_eq_some_iff.1 hF
  refine T.step (W1.call (vSc (eList eElem)) r1 43 #[] (by kernel_rfl) (fun _ => by kernel_rfl) (fun w' hh => annalkeep_two_l  r1 hb1 w' ) ?_)
  intro u V1 hV1 hu
  obtain ⟨A2, c2, rfl, hs2⟩ := vlist_elim hu
  obtain ⟨r2, hb2, hF⟩ := Option.bind_eq_some_iff.1 hF
  refine T.step (W1.call (vT2 (vSc (eList eChange)) (vSc eInt)) r2 42 #[.slice A2 r1.length c2, .int .i64 0, .int .i64 2] (by kernel_rfl) (fun _ => by kernel_rfl) (fun w' hh => change_Between_l F r1 0 2 r2 hb2 w' A2 c2 (SlOk.mono (SlOk.mono hs2 (View.le_trans (made_le _ _) (View.le_refl _))) hh.view)) ?_)
  intro u V2 hV2 hu
  obtain ⟨u1, u2, rfl, hu1, hu2⟩ := vT2_elim hu
  obtain ⟨A3, c3, rfl, hs3⟩ := vlist_elim hu1
  obtain rfl := sureInt _ _ _ hu2
  refine T.pure (.tuple #[.slice A3 r2.1.length c3, .int .i64 r2.2]) (by kernel_rfl) (fun _ => by kernel_rfl) ?_
  refine T.pure (.slice A3 r2.1.length c3) (by kernel_rfl) (fun _ => by kernel_rfl) ?_
  refine T.pure (.int .i64 r2.2) (by kernel_rfl) (fun _ => by kernel_rfl) ?_
  refine T.pure (.slice A3 r2.1.length c3) (by kernel_rfl) (fun _ => by kernel_rfl) ?_
  refine T.pure (.int .i64 r2.2) (by kernel_rfl) (fun _ => by kernel_rfl) ?_
  refine T.nil ?_
  refine T.seq ?_
  refine T.region ?_
  obtain ⟨r3, hb3, hF⟩ := Option.bind_eq_some_iff.1 hF
  refine T.step (W1.call (vSc (eList eElem)) r3 43 #[] (by kernel_rfl) (fun _ => by kernel_rfl) (fun w' hh => annalkeep_two_l  r3 hb3 w' ) ?_)
  intro u V3 hV3 hu
  obtain ⟨A4, c4, rfl, hs4⟩ := vlist_elim hu
  obtain ⟨r4, hb4, hF⟩ := Option.bind_eq_some_iff.1 hF
  refine T.step (W1.call (vT2 (vSc (eList eChange)) (vSc eInt)) r4 42 #[.slice A4 r3.length c4, .int .i64 2, .int .i64 3] (by kernel_rfl) (fun _ => by kernel_rfl) (fun w' hh => change_Between_l F r3 2 3 r4 hb4 w' A4 c4 (SlOk.mono (SlOk.mono hs4 (View.le_trans (made_le _ _) (View.le_refl _))) hh.view)) ?_)
  intro u V4 hV4 hu
  obtain ⟨u3, u4, rfl, hu3, hu4⟩ := vT2_elim hu
  obtain ⟨A5, c5, rfl, hs5⟩ := vlist_elim hu3
  obtain rfl := sureInt _ _ _ hu4
  refine T.pure (.tuple #[.slice A5 r4.1.length c5, .int .i64 r4.2]) (by kernel_rfl) (fun _ => by kernel_rfl) ?_
  refine T.pure (.slice A5 r4.1.length c5) (by kernel_rfl) (fun _ => by kernel_rfl) ?_
  refine T.pure (.int .i64 r4.2) (by kernel_rfl) (fun _ => by kernel_rfl) ?_
  refine T.pure (.slice A5 r4.1.length c5) (by kernel_rfl) (fun _ => by kernel_rfl) ?_
  refine T.pure (.int .i64 r4.2) (by kernel_rfl) (fun _ => by kernel_rfl) ?_
  refine T.nil ?_
  refine T.seq ?_
  refine T.seq ?_
  refine T.region ?_
  refine T.pure (.slice A3 r2.1.length c3) (by kernel_rfl) (fun _ => by kernel_rfl) ?_
  refine T.pure (.slice A5 r4.1.length c5) (by kernel_rfl) (fun _ => by kernel_rfl) ?_
  obtain ⟨r5, hb5, hF⟩ := Option.bind_eq_some_iff.1 hF
  refine T.step (W1.call (vT2 (vSc (eList eChange)) (vSc eInt)) r5 38 #[.slice A3 r2.1.length c3, .slice A5 r4.1.length c5] (by kernel_rfl) (fun _ => by kernel_rfl) (fun w' hh => change_Then_l F r2.1 r4.1 r5 hb5 w' A3 c3 (SlOk.mono (SlOk.mono hs3 (View.le_trans (made_le _ _) (View.le_trans hV3 hV4))) hh.view) A5 c5 (SlOk.mono (SlOk.mono hs5 (View.le_trans (made_le _ _) (View.le_refl _))) hh.view)) ?_)
  intro u V5 hV5 hu
  obtain ⟨u5, u6, rfl, hu5, hu6⟩ := vT2_elim hu
  obtain ⟨A6, c6, rfl, hs6⟩ := vlist_elim hu5
  obtain rfl := sureInt _ _ _ hu6
  refine T.pure (.tuple #[.slice A6 r5.1.length c6, .int .i64 r5.2]) (by kernel_rfl) (fun _ => by kernel_rfl) ?_
  refine T.pure (.slice A6 r5.1.length c6) (by kernel_rfl) (fun _ => by kernel_rfl) ?_
  refine T.pure (.int .i64 r5.2) (by kernel_rfl) (fun _ => by kernel_rfl) ?_
  refine T.pure (.slice A6 r5.1.length c6) (by kernel_rfl) (fun _ => by kernel_rfl) ?_
  refine T.pure (.int .i64 r5.2) (by kernel_rfl) (fun _ => by kernel_rfl) ?_
  refine T.nil ?_
  obtain ⟨z1, hX1, hF⟩ := Option.bind_eq_some_iff.1 hF
  refine T.cut (fun a w' => ∃ (V6 : View), View.le V5 V6 ∧ Fr 108 [(0, .slice A1 p0.length c1), (1, .int .i64 p1), (2, .int .i64 p2), (3, .int .i64 p3), (50, .bool z1)] a ∧ Hp w V6 [] w') ?_ ?_
  ·
    refine T.region ?_
    refine T.pure (.int .i64 r2.2) (by kernel_rfl) (fun _ => by kernel_rfl) ?_
    refine T.pure (.bool (r2.2 != 0)) (by kernel_rfl) (fun _ => by kernel_rfl) ?_
    refine T.pure (.bool (r2.2 != 0)) (by kernel_rfl) (fun _ => by kernel_rfl) ?_
    cases hg1 : (r2.2 != 0)
    ·
      skip
      rw [hg1, cond_false] at hX1
      refine T.pure (.int .i64 r4.2) (by kernel_rfl) (fun _ => by kernel_rfl) ?_
      refine T.pure (.bool (r4.2 != 0)) (by kernel_rfl) (fun _ => by kernel_rfl) ?_
      refine T.pure (.bool (r4.2 != 0)) (by kernel_rfl) (fun _ => by kernel_rfl) ?_
      refine T.pure (.bool (r4.2 != 0)) (by kernel_rfl) (fun _ => by kernel_rfl) ?_
      cases hg2 : (r4.2 != 0)
      ·
        skip
        rw [hg2, cond_false] at hX1
        refine T.pure (.int .i64 r5.2) (by kernel_rfl) (fun _ => by kernel_rfl) ?_
        refine T.pure (.bool (r5.2 != 0)) (by kernel_rfl) (fun _ => by kernel_rfl) ?_
        refine T.pure (.bool (r5.2 != 0)) (by kernel_rfl) (fun _ => by kernel_rfl) ?_
        refine T.pure (.bool (r5.2 != 0)) (by kernel_rfl) (fun _ => by kernel_rfl) ?_
        cases hg3 : (r5.2 != 0)
        ·
          skip
          rw [hg3, cond_false] at hX1
          refine T.pure (.slice A6 r5.1.length c6) (by kernel_rfl) (fun _ => by kernel_rfl) ?_
          refine T.pure (.agg #[.int .i64 0, .int .i64 0, .int .i64 0, .bool false, .bool true, .string (ByteArray.mk #[]), .string (ByteArray.mk #[98])]) (by kernel_rfl) (fun _ => by kernel_rfl) ?_
          refine T.step (W1.new 44 [.int .i64 0, .int .i64 0, .int .i64 0, .bool false, .bool true, .string (ByteArray.mk #[]), .string (ByteArray.mk #[98])] (fun b => .slice (some ⟨b, 0, none⟩) 1 1) (by kernel_rfl) (fun _ => by kernel_rfl) (fun b1 => ?_))
          obtain ⟨r6, hb6, hX1⟩ := Option.bind_eq_some_iff.1 hX1
          refine T.step (W1.call (vSc eBool) r6 37 #[.slice A6 r5.1.length c6, .slice (some ⟨b1, 0, none⟩) 1 1] (by kernel_rfl) (fun _ => by kernel_rfl) (fun w' hh => slices_Equal_Change_l F r5.1 [(DChange.mk (DKey.mk 0 0 0) false true (ByteArray.mk #[]) (ByteArray.mk #[98]))] r6 hb6 w' A6 c6 (SlOk.mono (SlOk.mono hs6 (View.le_trans (made_le _ _) (View.le_refl _))) hh.view) (some ⟨b1, 0, none⟩) 1 (slok_lit (E := eChange) (f := DChange.cells) [(DChange.mk (DKey.mk 0 0 0) false true (ByteArray.mk #[]) (ByteArray.mk #[98]))] (fun _ _ => rfl) (Nat.le_of_ble_eq_true (by rfl)) (fun j => hh.cellBox (i := 0) (by rfl) j))) ?_)
          intro u V7 hV7 hu
          obtain rfl := sureBool _ _ _ hu
          refine T.pure (.bool (!r6)) (by kernel_rfl) (fun _ => by kernel_rfl) ?_
          refine T.pure (.bool (!r6)) (by kernel_rfl) (fun _ => by kernel_rfl) ?_
          refine T.nil ?_
          cases hX1
          exact fun a w' hf hh => Exists.intro V7 (And.intro hV7 (And.intro ((((((Fr.nil hf).pick hf 50 rfl).pick hf 3 rfl).pick hf 2 rfl).pick hf 1 rfl).pick hf 0 rfl) (hh.sub (.cons _ List.Sublist.slnil))))
        ·
          skip
          rw [hg3, cond_true] at hX1
          refine T.pass (by kernel_rfl) (by kernel_rfl) ?_
          refine T.pass (by kernel_rfl) (by kernel_rfl) ?_
          refine T.pass (by kernel_rfl) (by kernel_rfl) ?_
          refine T.pass (by kernel_rfl) (by kernel_rfl) ?_
          refine T.pass (by kernel_rfl) (by kernel_rfl) ?_
          refine T.pure (.bool true) (by kernel_rfl) (fun _ => by kernel_rfl) ?_
          refine T.nil ?_
          cases hX1
          exact fun a w' hf hh => Exists.intro V5 (And.intro (View.le_refl _) (And.intro ((((((Fr.nil hf).pick hf 50 rfl).pick hf 3 rfl).pick hf 2 rfl).pick hf 1 rfl).pick hf 0 rfl) (hh.sub List.Sublist.slnil)))
      ·
        skip
        rw [hg2, cond_true] at hX1
        refine T.pass (by kernel_rfl) (by kernel_rfl) ?_
        refine T.pass (by kernel_rfl) (by kernel_rfl) ?_
        refine T.pure (.bool true) (by kernel_rfl) (fun _ => by kernel_rfl) ?_
        refine T.pure (.bool true) (by kernel_rfl) (fun _ => by kernel_rfl) ?_
        refine T.pass (by kernel_rfl) (by kernel_rfl) ?_
        refine T.pass (by kernel_rfl) (by kernel_rfl) ?_
        refine T.pass (by kernel_rfl) (by kernel_rfl) ?_
        refine T.pass (by kernel_rfl) (by kernel_rfl) ?_
        refine T.pass (by kernel_rfl) (by kernel_rfl) ?_
        refine T.pure (.bool true) (by kernel_rfl) (fun _ => by kernel_rfl) ?_
        refine T.nil ?_
        cases hX1
        exact fun a w' hf hh => Exists.intro V5 (And.intro (View.le_refl _) (And.intro ((((((Fr.nil hf).pick hf 50 rfl).pick hf 3 rfl).pick hf 2 rfl).pick hf 1 rfl).pick hf 0 rfl) (hh.sub List.Sublist.slnil)))
    ·
      skip
      rw [hg1, cond_true] at hX1
      refine T.pass (by kernel_rfl) (by kernel_rfl) ?_
      refine T.pass (by kernel_rfl) (by kernel_rfl) ?_
      refine T.pure (.bool true) (by kernel_rfl) (fun _ => by kernel_rfl) ?_
      refine T.pure (.bool true) (by kernel_rfl) (fun _ => by kernel_rfl) ?_
      refine T.pass (by kernel_rfl) (by kernel_rfl) ?_
      refine T.pass (by kernel_rfl) (by kernel_rfl) ?_
      refine T.pure (.bool true) (by kernel_rfl) (fun _ => by kernel_rfl) ?_
      refine T.pure (.bool true) (by kernel_rfl) (fun _ => by kernel_rfl) ?_
      refine T.pass (by kernel_rfl) (by kernel_rfl) ?_
      refine T.pass (by kernel_rfl) (by kernel_rfl) ?_
      refine T.pass (by kernel_rfl) (by kernel_rfl) ?_
      refine T.pass (by kernel_rfl) (by kernel_rfl) ?_
      refine T.pass (by kernel_rfl) (by kernel_rfl) ?_
      refine T.pure (.bool true) (by kernel_rfl) (fun _ => by kernel_rfl) ?_
      refine T.nil ?_
      cases hX1
      exact fun a w' hf hh => Exists.intro V5 (And.intro (View.le_refl _) (And.intro ((((((Fr.nil hf).pick hf 50 rfl).pick hf 3 rfl).pick hf 2 rfl).pick hf 1 rfl).pick hf 0 rfl) (hh.sub List.Sublist.slnil)))
  ·
    rintro a w' ⟨V6, hV6, hf, hh⟩
    refine (?_ : T 108 w V6 [] [(0, .slice A1 p0.length c1), (1, .int .i64 p1), (2, .int .i64 p2), (3, .int .i64 p3), (50, .bool z1)] _) a w' hf hh
    clear hf hh
    refine T.cond z1 (by kernel_rfl) (by kernel_rfl) (fun hc1 => ?_) (fun hc1 => ?_)
    ·
      rw [hc1, cond_true] at hF
      refine T.seq ?_
      refine T.region ?_
      refine T.pure (.bool false) (by kernel_rfl) (fun _ => by kernel_rfl) ?_
      refine T.nil ?_
      cases hF
      refine T.ret rfl ?_
      exact T.ret1 rfl (ResIs.tmp rfl) fun w' hh => ⟨_, rfl, hh.below, (show _ from rfl)⟩
    ·
      rw [hc1, cond_false] at hF
      refine T.skip_code ?_
      refine T.seq ?_
      refine T.region ?_
      refine T.pure (.slice A1 p0.length c1) (by kernel_rfl) (fun _ => by kernel_rfl) ?_
      refine T.pure (.int .i64 p1) (by kernel_rfl) (fun _ => by kernel_rfl) ?_
      refine T.pure (.int .i64 p2) (by kernel_rfl) (fun _ => by kernel_rfl) ?_
      obtain ⟨r7, hb7, hF⟩ := Option.bind_eq_some_iff.1 hF
      refine T.step (W1.call (vT2 (vSc (eList eChange)) (vSc eInt)) r7 42 #[.slice A1 p0.length c1, .int .i64 p1, .int .i64 p2] (by kernel_rfl) (fun _ => by kernel_rfl) (fun w' hh => change_Between_l F p0 p1 p2 r7 hb7 w' A1 c1 (SlOk.mono (SlOk.mono hs1 (View.le_trans (View.le_trans (View.le_trans (View.le_trans (View.le_trans hV1 hV2) hV3) hV4) hV5) hV6)) hh.view)) ?_)
      intro u V8 hV8 hu
      obtain ⟨u7, u8, rfl, hu7, hu8⟩ := vT2_elim hu
      obtain ⟨A7, c7, rfl, hs7⟩ := vlist_elim hu7
      obtain rfl := sureInt _ _ _ hu8
      refine T.pure (.tuple #[.slice A7 r7.1.length c7, .int .i64 r7.2]) (by kernel_rfl) (fun _ => by kernel_rfl) ?_
      refine T.pure (.slice A7 r7.1.length c7) (by kernel_rfl) (fun _ => by kernel_rfl) ?_
      refine T.pure (.int .i64 r7.2) (by kernel_rfl) (fun _ => by kernel_rfl) ?_
      refine T.pure (.slice A7 r7.1.length c7) (by kernel_rfl) (fun _ => by kernel_rfl) ?_
      refine T.pure (.int .i64 r7.2) (by kernel_rfl) (fun _ => by kernel_rfl) ?_
      refine T.nil ?_
      refine T.seq ?_
      refine T.region ?_
      refine T.pure (.slice A1 p0.length c1) (by kernel_rfl) (fun _ => by kernel_rfl) ?_
      refine T.pure (.int .i64 p2) (by kernel_rfl) (fun _ => by kernel_rfl) ?_
      refine T.pure (.int .i64 p3) (by kernel_rfl) (fun _ => by kernel_rfl) ?_
      obtain ⟨r8, hb8, hF⟩ := Option.bind_eq_some_iff.1 hF
      refine T.step (W1.call (vT2 (vSc (eList eChange)) (vSc eInt)) r8 42 #[.slice A1 p0.length c1, .int .i64 p2, .int .i64 p3] (by kernel_rfl) (fun _ => by kernel_rfl) (fun w' hh => change_Between_l F p0 p2 p3 r8 hb8 w' A1 c1 (SlOk.mono (SlOk.mono hs1 (View.le_trans (View.le_trans (View.le_trans (View.le_trans (View.le_trans (View.le_trans hV1 hV2) hV3) hV4) hV5) hV6) hV8)) hh.view)) ?_)
      intro u V9 hV9 hu
      obtain ⟨u9, u10, rfl, hu9, hu10⟩ := vT2_elim hu
      obtain ⟨A8, c8, rfl, hs8⟩ := vlist_elim hu9
      obtain rfl := sureInt _ _ _ hu10
      refine T.pure (.tuple #[.slice A8 r8.1.length c8, .int .i64 r8.2]) (by kernel_rfl) (fun _ => by kernel_rfl) ?_
      refine T.pure (.slice A8 r8.1.length c8) (by kernel_rfl) (fun _ => by kernel_rfl) ?_
      refine T.pure (.int .i64 r8.2) (by kernel_rfl) (fun _ => by kernel_rfl) ?_
      refine T.pure (.slice A8 r8.1.length c8) (by kernel_rfl) (fun _ => by kernel_rfl) ?_
      refine T.pure (.int .i64 r8.2) (by kernel_rfl) (fun _ => by kernel_rfl) ?_
      refine T.nil ?_
      refine T.seq ?_
      refine T.region ?_
      refine T.pure (.slice A1 p0.length c1) (by kernel_rfl) (fun _ => by kernel_rfl) ?_
      refine T.pure (.int .i64 p1) (by kernel_rfl) (fun _ => by kernel_rfl) ?_
      refine T.pure (.int .i64 p3) (by kernel_rfl) (fun _ => by kernel_rfl) ?_
      obtain ⟨r9, hb9, hF⟩ := Option.bind_eq_some_iff.1 hF
      refine T.step (W1.call (vT2 (vSc (eList eChange)) (vSc eInt)) r9 42 #[.slice A1 p0.length c1, .int .i64 p1, .int .i64 p3] (by kernel_rfl) (fun _ => by kernel_rfl) (fun w' hh => change_Between_l F p0 p1 p3 r9 hb9 w' A1 c1 (SlOk.mono (SlOk.mono hs1 (View.le_trans (View.le_trans (View.le_trans (View.le_trans (View.le_trans (View.le_trans (View.le_trans hV1 hV2) hV3) hV4) hV5) hV6) hV8) hV9)) hh.view)) ?_)
      intro u V10 hV10 hu
      obtain ⟨u11, u12, rfl, hu11, hu12⟩ := vT2_elim hu
      obtain ⟨A9, c9, rfl, hs9⟩ := vlist_elim hu11
      obtain rfl := sureInt _ _ _ hu12
      refine T.pure (.tuple #[.slice A9 r9.1.length c9, .int .i64 r9.2]) (by kernel_rfl) (fun _ => by kernel_rfl) ?_
      refine T.pure (.slice A9 r9.1.length c9) (by kernel_rfl) (fun _ => by kernel_rfl) ?_
      refine T.pure (.int .i64 r9.2) (by kernel_rfl) (fun _ => by kernel_rfl) ?_
      refine T.pure (.slice A9 r9.1.length c9) (by kernel_rfl) (fun _ => by kernel_rfl) ?_
      refine T.pure (.int .i64 r9.2) (by kernel_rfl) (fun _ => by kernel_rfl) ?_
      refine T.nil ?_
      refine T.seq ?_
      refine T.cut (fun a w' => Fr 108 [(9, .slice A7 r7.1.length c7), (10, .int .i64 r7.2), (11, .slice A8 r8.1.length c8), (12, .int .i64 r8.2), (15, .slice A9 r9.1.length c9), (16, .int .i64 r9.2), (81, .bool ((r7.2 != 0) || ((r8.2 != 0) || (r9.2 != 0))))] a ∧ Hp w V10 [] w') ?_ ?_
      ·
        refine T.region ?_
        refine T.pure (.int .i64 r7.2) (by kernel_rfl) (fun _ => by kernel_rfl) ?_
        refine T.pure (.bool (r7.2 != 0)) (by kernel_rfl) (fun _ => by kernel_rfl) ?_
        refine T.pure (.bool (r7.2 != 0)) (by kernel_rfl) (fun _ => by kernel_rfl) ?_
        cases hg4 : (r7.2 != 0)
        ·
          skip
          refine T.pure (.int .i64 r8.2) (by kernel_rfl) (fun _ => by kernel_rfl) ?_
          refine T.pure (.bool (r8.2 != 0)) (by kernel_rfl) (fun _ => by kernel_rfl) ?_
          refine T.pure (.bool (r8.2 != 0)) (by kernel_rfl) (fun _ => by kernel_rfl) ?_
          refine T.pure (.bool (r8.2 != 0)) (by kernel_rfl) (fun _ => by kernel_rfl) ?_
          cases hg5 : (r8.2 != 0)
          ·
            skip
            refine T.pure (.int .i64 r9.2) (by kernel_rfl) (fun _ => by kernel_rfl) ?_
            refine T.pure (.bool (r9.2 != 0)) (by kernel_rfl) (fun _ => by kernel_rfl) ?_
            refine T.pure (.bool (r9.2 != 0)) (by kernel_rfl) (fun _ => by kernel_rfl) ?_
            refine T.nil ?_
            exact fun a w' hf hh => And.intro ((((((((Fr.nil hf).pick hf 81 rfl).pick hf 16 rfl).pick hf 15 rfl).pick hf 12 rfl).pick hf 11 rfl).pick hf 10 rfl).pick hf 9 rfl) (hh.sub List.Sublist.slnil)
          ·
            skip
            refine T.pass (by kernel_rfl) (by kernel_rfl) ?_
            refine T.pass (by kernel_rfl) (by kernel_rfl) ?_
            refine T.pure (.bool true) (by kernel_rfl) (fun _ => by kernel_rfl) ?_
            refine T.nil ?_
            exact fun a w' hf hh => And.intro ((((((((Fr.nil hf).pick hf 81 rfl).pick hf 16 rfl).pick hf 15 rfl).pick hf 12 rfl).pick hf 11 rfl).pick hf 10 rfl).pick hf 9 rfl) (hh.sub List.Sublist.slnil)
        ·
          skip
          refine T.pass (by kernel_rfl) (by kernel_rfl) ?_
          refine T.pass (by kernel_rfl) (by kernel_rfl) ?_
          refine T.pure (.bool true) (by kernel_rfl) (fun _ => by kernel_rfl) ?_
          refine T.pure (.bool true) (by kernel_rfl) (fun _ => by kernel_rfl) ?_
          refine T.pass (by kernel_rfl) (by kernel_rfl) ?_
          refine T.pass (by kernel_rfl) (by kernel_rfl) ?_
          refine T.pure (.bool true) (by kernel_rfl) (fun _ => by kernel_rfl) ?_
          refine T.nil ?_
          exact fun a w' hf hh => And.intro ((((((((Fr.nil hf).pick hf 81 rfl).pick hf 16 rfl).pick hf 15 rfl).pick hf 12 rfl).pick hf 11 rfl).pick hf 10 rfl).pick hf 9 rfl) (hh.sub List.Sublist.slnil)
      ·
        rintro a w' ⟨hf, hh⟩
        refine (?_ : T 108 w V10 [] [(9, .slice A7 r7.1.length c7), (10, .int .i64 r7.2), (11, .slice A8 r8.1.length c8), (12, .int .i64 r8.2), (15, .slice A9 r9.1.length c9), (16, .int .i64 r9.2), (81, .bool ((r7.2 != 0) || ((r8.2 != 0) || (r9.2 != 0))))] _) a w' hf hh
        clear hf hh
        refine T.cond ((r7.2 != 0) || ((r8.2 != 0) || (r9.2 != 0))) (by kernel_rfl) (by kernel_rfl) (fun hc2 => ?_) (fun hc2 => ?_)
        ·
          rw [hc2, cond_true] at hF
          refine T.cut (fun a w' => Fr 108 [(8, .bool ((r7.2 == r8.2) && ((r8.2 == r9.2) && ((r7.1.length : Int) == 0))))] a ∧ Hp w V10 [] w') ?_ ?_
          ·
            refine T.region ?_
            refine T.pure (.int .i64 r7.2) (by kernel_rfl) (fun _ => by kernel_rfl) ?_
            refine T.pure (.int .i64 r8.2) (by kernel_rfl) (fun _ => by kernel_rfl) ?_
            refine T.pure (.bool (r7.2 == r8.2)) (by kernel_rfl) (fun _ => by kernel_rfl) ?_
            refine T.pure (.bool (r7.2 == r8.2)) (by kernel_rfl) (fun _ => by kernel_rfl) ?_
            cases hg6 : (r7.2 == r8.2)
            ·
              skip
              refine T.pass (by kernel_rfl) (by kernel_rfl) ?_
              refine T.pass (by kernel_rfl) (by kernel_rfl) ?_
              refine T.pass (by kernel_rfl) (by kernel_rfl) ?_
              refine T.pure (.bool false) (by kernel_rfl) (fun _ => by kernel_rfl) ?_
              refine T.pure (.bool false) (by kernel_rfl) (fun _ => by kernel_rfl) ?_
              refine T.pass (by kernel_rfl) (by kernel_rfl) ?_
              refine T.pass (by kernel_rfl) (by kernel_rfl) ?_
              refine T.pass (by kernel_rfl) (by kernel_rfl) ?_
              refine T.pure (.bool false) (by kernel_rfl) (fun _ => by kernel_rfl) ?_
              refine T.pure (.bool false) (by kernel_rfl) (fun _ => by kernel_rfl) ?_
              refine T.nil ?_
              exact fun a w' hf hh => And.intro ((Fr.nil hf).pick hf 8 rfl) (hh.sub List.Sublist.slnil)
            ·
              skip
              refine T.pure (.int .i64 r8.2) (by kernel_rfl) (fun _ => by kernel_rfl) ?_
              refine T.pure (.int .i64 r9.2) (by kernel_rfl) (fun _ => by kernel_rfl) ?_
              refine T.pure (.bool (r8.2 == r9.2)) (by kernel_rfl) (fun _ => by kernel_rfl) ?_
              refine T.pure (.bool (r8.2 == r9.2)) (by kernel_rfl) (fun _ => by kernel_rfl) ?_
              refine T.pure (.bool (r8.2 == r9.2)) (by kernel_rfl) (fun _ => by kernel_rfl) ?_
              cases hg7 : (r8.2 == r9.2)
              ·
                skip
                refine T.pass (by kernel_rfl) (by kernel_rfl) ?_
                refine T.pass (by kernel_rfl) (by kernel_rfl) ?_
                refine T.pass (by kernel_rfl) (by kernel_rfl) ?_
                refine T.pure (.bool false) (by kernel_rfl) (fun _ => by kernel_rfl) ?_
                refine T.pure (.bool false) (by kernel_rfl) (fun _ => by kernel_rfl) ?_
                refine T.nil ?_
                exact fun a w' hf hh => And.intro ((Fr.nil hf).pick hf 8 rfl) (hh.sub List.Sublist.slnil)
              ·
                skip
                refine T.pure (.slice A7 r7.1.length c7) (by kernel_rfl) (fun _ => by kernel_rfl) ?_
                refine T.pure (.int .i64 (r7.1.length : Int)) (by kernel_rfl) (fun _ => by kernel_rfl) ?_
                refine T.pure (.bool ((r7.1.length : Int) == 0)) (by kernel_rfl) (fun _ => by kernel_rfl) ?_
                refine T.pure (.bool ((r7.1.length : Int) == 0)) (by kernel_rfl) (fun _ => by kernel_rfl) ?_
                refine T.pure (.bool ((r7.1.length : Int) == 0)) (by kernel_rfl) (fun _ => by kernel_rfl) ?_
                refine T.nil ?_
                exact fun a w' hf hh => And.intro ((Fr.nil hf).pick hf 8 rfl) (hh.sub List.Sublist.slnil)
          ·
            rintro a w' ⟨hf, hh⟩
            refine (?_ : T 108 w V10 [] [(8, .bool ((r7.2 == r8.2) && ((r8.2 == r9.2) && ((r7.1.length : Int) == 0))))] _) a w' hf hh
            clear hf hh
            cases hF
            refine T.ret rfl ?_
            exact T.ret1 rfl (ResIs.tmp rfl) fun w' hh => ⟨_, rfl, hh.below, (show _ from rfl)⟩
        ·
          rw [hc2, cond_false] at hF
          refine T.skip_code ?_
          refine T.seq ?_
          refine T.region ?_
          refine T.pure (.slice A7 r7.1.length c7) (by kernel_rfl) (fun _ => by kernel_rfl) ?_
          refine T.pure (.slice A8 r8.1.length c8) (by kernel_rfl) (fun _ => by kernel_rfl) ?_
          obtain ⟨r10, hb10, hF⟩ := Option.bind_eq_some_iff.1 hF
          refine T.step (W1.call (vT2 (vSc (eList eChange)) (vSc eInt)) r10 38 #[.slice A7 r7.1.length c7, .slice A8 r8.1.length c8] (by kernel_rfl) (fun _ => by kernel_rfl) (fun w' hh => change_Then_l F r7.1 r8.1 r10 hb10 w' A7 c7 (SlOk.mono (SlOk.mono hs7 (View.le_trans (made_le _ _) (View.le_trans hV9 hV10))) hh.view) A8 c8 (SlOk.mono (SlOk.mono hs8 (View.le_trans (made_le _ _) hV10)) hh.view)) ?_)
          intro u V11 hV11 hu
          obtain ⟨u13, u14, rfl, hu13, hu14⟩ := vT2_elim hu
          obtain ⟨A10, c10, rfl, hs10⟩ := vlist_elim hu13
          obtain rfl := sureInt _ _ _ hu14
          refine T.pure (.tuple #[.slice A10 r10.1.length c10, .int .i64 r10.2]) (by kernel_rfl) (fun _ => by kernel_rfl) ?_
          refine T.pure (.slice A10 r10.1.length c10) (by kernel_rfl) (fun _ => by kernel_rfl) ?_
          refine T.pure (.int .i64 r10.2) (by kernel_rfl) (fun _ => by kernel_rfl) ?_
          refine T.pure (.slice A10 r10.1.length c10) (by kernel_rfl) (fun _ => by kernel_rfl) ?_
          refine T.pure (.int .i64 r10.2) (by kernel_rfl) (fun _ => by kernel_rfl) ?_
          refine T.nil ?_
          obtain ⟨z2, hX2, hF⟩ := Option.bind_eq_some_iff.1 hF
          refine T.cut (fun a w' => ∃ (V12 : View), View.le V11 V12 ∧ Fr 108 [(8, .bool z2)] a ∧ Hp w V12 [] w') ?_ ?_
          ·
            refine T.region ?_
            refine T.pure (.int .i64 r10.2) (by kernel_rfl) (fun _ => by kernel_rfl) ?_
            refine T.pure (.bool (r10.2 == 0)) (by kernel_rfl) (fun _ => by kernel_rfl) ?_
            refine T.pure (.bool (r10.2 == 0)) (by kernel_rfl) (fun _ => by kernel_rfl) ?_
            cases hg8 : (r10.2 == 0)
            ·
              skip
              rw [hg8, cond_false] at hX2
              refine T.pass (by kernel_rfl) (by kernel_rfl) ?_
              refine T.pass (by kernel_rfl) (by kernel_rfl) ?_
              refine T.pass (by kernel_rfl) (by kernel_rfl) ?_
              refine T.pure (.bool false) (by kernel_rfl) (fun _ => by kernel_rfl) ?_
              refine T.pure (.bool false) (by kernel_rfl) (fun _ => by kernel_rfl) ?_
              refine T.nil ?_
              cases hX2
              exact fun a w' hf hh => Exists.intro V11 (And.intro (View.le_refl _) (And.intro ((Fr.nil hf).pick hf 8 rfl) (hh.sub List.Sublist.slnil)))
            ·
              skip
              rw [hg8, cond_true] at hX2
              refine T.pure (.slice A10 r10.1.length c10) (by kernel_rfl) (fun _ => by kernel_rfl) ?_
              refine T.pure (.slice A9 r9.1.length c9) (by kernel_rfl) (fun _ => by kernel_rfl) ?_
              obtain ⟨r11, hb11, hX2⟩ := Option.bind_eq_some_iff.1 hX2
              refine T.step (W1.call (vSc eBool) r11 37 #[.slice A10 r10.1.length c10, .slice A9 r9.1.length c9] (by kernel_rfl) (fun _ => by kernel_rfl) (fun w' hh => slices_Equal_Change_l F r10.1 r9.1 r11 hb11 w' A10 c10 (SlOk.mono (SlOk.mono hs10 (View.le_trans (made_le _ _) (View.le_refl _))) hh.view) A9 c9 (SlOk.mono (SlOk.mono hs9 (View.le_trans (made_le _ _) hV11)) hh.view)) ?_)
              intro u V13 hV13 hu
              obtain rfl := sureBool _ _ _ hu
              refine T.pure (.bool r11) (by kernel_rfl) (fun _ => by kernel_rfl) ?_
              refine T.pure (.bool r11) (by kernel_rfl) (fun _ => by kernel_rfl) ?_
              refine T.nil ?_
              cases hX2
              exact fun a w' hf hh => Exists.intro V13 (And.intro hV13 (And.intro ((Fr.nil hf).pick hf 8 rfl) (hh.sub List.Sublist.slnil)))
          ·
            rintro a w' ⟨V12, hV12, hf, hh⟩
            refine (?_ : T 108 w V12 [] [(8, .bool z2)] _) a w' hf hh
            clear hf hh
            cases hF
            refine T.ret rfl ?_
            exact T.ret1 rfl (ResIs.tmp rfl) fun w' hh => ⟨_, rfl, hh.below, (show _ from rfl)⟩

end Go.Proofs.Ytiaoncjkfgebdaa
