/- The Go functions of group WChangeNone compute the pure functions of that group: written by walkgen.py. Condition of each: the pure function yields a result. -/
import Derived.Test.YtiaoncjkfgebdaaChangeL
import Derived.Test.YtiaoncjkfgebdaaEqsL
import Derived.Test.YtiaoncjkfgebdaaWChangeNoneF
import Derived.Test.YtiaoncjkfgebdaaEqL
namespace Go.Proofs.Ytiaoncjkfgebdaa
set_option linter.unusedVariables false

set_option maxRecDepth 100000 in
set_option maxHeartbeats 4000000 in
theorem annalkeep_ChangeNone_l (F : Nat) (p0 : (List DElem)) (p1 : Int) (p2 : Int) (r : Bool) (hF : annalkeep_ChangeNone F p0 p1 p2 = some r) (w : World) (A1 : Option Addr) (c1 : Nat) (hs1 : SlOk (vw w) eElem A1 c1 p0) :
    Calls Try.prog 7 #[.slice A1 p0.length c1, .int .i64 p1, .int .i64 p2] w (Post (vSc eBool) r w) := by
  unfold annalkeep_ChangeNone at hF
  refine T.start (l := [.slice A1 p0.length c1, .int .i64 p1, .int .i64 p2]) Try.func7 rfl rfl rfl ?_
  refine T.seq ?_
  refine T.region ?_
  refine T.pure (.bool false) (by kernel_rfl) (fun _ => by kernel_rfl) ?_
  refine T.nil ?_
  refine T.seq ?_
  refine T.seq ?_
  refine T.region ?_
  obtain ⟨r1, hb1, hF⟩ := Option.bind_eq_some_iff.1 hF
  refine T.step (W1.call (vSc (eList eElem)) r1 43 #[] (by kernel_rfl) (fun _ => by kernel_rfl) (fun w' hh => annalkeep_two_l  r1 hb1 w' ) ?_)
  intro u V1 hV1 hu
  obtain ⟨A2, c2, rfl, hs2⟩ := vlist_elim hu
  obtain ⟨r2, hb2, hF⟩ := Option.bind_eq_some_iff.1 hF
  refine T.step (W1.call (vT2 (vSc (eList eChange)) (vSc eInt)) r2 42 #[.slice A2 r1.length c2, .int .i64 2, .int .i64 3] (by kernel_rfl) (fun _ => by kernel_rfl) (fun w' hh => change_Between_l F r1 2 3 r2 hb2 w' A2 c2 (SlOk.mono (SlOk.mono hs2 (View.le_trans (made_le _ _) (View.le_refl _))) hh.view)) ?_)
  intro u V2 hV2 hu
  obtain ⟨u1, u2, rfl, hu1, hu2⟩ := vT2_elim hu
  obtain ⟨A3, c3, rfl, hs3⟩ := vlist_elim hu1
  obtain rfl := sureInt _ _ _ hu2
  refine T.pure (.tuple #[.slice A3 r2.1.length c3, .int .i64 r2.2]) (by kernel_rfl) (fun _ => by kernel_rfl) ?_
  refine T.pure (.slice A3 r2.1.length c3) (by kernel_rfl) (fun _ => by kernel_rfl) ?_
  refine T.pure (.int .i64 r2.2) (by kernel_rfl) (fun _ => by kernel_rfl) ?_
  refine T.pure (.slice A3 r2.1.length c3) (by kernel_rfl) (fun _ => by kernel_rfl) ?_
  refine T.pure (.int .i64 r2.2) (by kernel_rfl) (fun _ => by kernel_rfl) ?_
  refine T.nil ?_
  obtain ⟨z1, hX1, hF⟩ := Option.bind_eq_some_iff.1 hF
  refine T.cut (fun a w' => ∃ (V3 : View), View.le V2 V3 ∧ Fr 111 [(0, .slice A1 p0.length c1), (1, .int .i64 p1), (2, .int .i64 p2), (30, .bool z1)] a ∧ Hp w V3 [] w') ?_ ?_
  ·
    refine T.region ?_
    refine T.pure (.int .i64 r2.2) (by kernel_rfl) (fun _ => by kernel_rfl) ?_
    refine T.pure (.bool (r2.2 != 0)) (by kernel_rfl) (fun _ => by kernel_rfl) ?_
    refine T.pure (.bool (r2.2 != 0)) (by kernel_rfl) (fun _ => by kernel_rfl) ?_
    cases hg1 : (r2.2 != 0)
    ·
      skip
      rw [hg1, cond_false] at hX1
      refine T.pure (.slice A3 r2.1.length c3) (by kernel_rfl) (fun _ => by kernel_rfl) ?_
      refine T.pure (.agg #[.int .i64 0, .int .i64 0, .int .i64 0, .bool true, .bool true, .string (ByteArray.mk #[97]), .string (ByteArray.mk #[98])]) (by kernel_rfl) (fun _ => by kernel_rfl) ?_
      refine T.step (W1.new 44 [.int .i64 0, .int .i64 0, .int .i64 0, .bool true, .bool true, .string (ByteArray.mk #[97]), .string (ByteArray.mk #[98])] (fun b => .slice (some ⟨b, 0, none⟩) 1 1) (by kernel_rfl) (fun _ => by kernel_rfl) (fun b1 => ?_))
      obtain ⟨r3, hb3, hX1⟩ := Option.bind_eq_some_iff.1 hX1
      refine T.step (W1.call (vSc eBool) r3 37 #[.slice A3 r2.1.length c3, .slice (some ⟨b1, 0, none⟩) 1 1] (by kernel_rfl) (fun _ => by kernel_rfl) (fun w' hh => slices_Equal_Change_l F r2.1 [(DChange.mk (DKey.mk 0 0 0) true true (ByteArray.mk #[97]) (ByteArray.mk #[98]))] r3 hb3 w' A3 c3 (SlOk.mono (SlOk.mono hs3 (View.le_trans (made_le _ _) (View.le_refl _))) hh.view) (some ⟨b1, 0, none⟩) 1 (slok_lit (E := eChange) (f := DChange.cells) [(DChange.mk (DKey.mk 0 0 0) true true (ByteArray.mk #[97]) (ByteArray.mk #[98]))] (fun _ _ => rfl) (Nat.le_of_ble_eq_true (by rfl)) (fun j => hh.cellBox (i := 0) (by rfl) j))) ?_)
      intro u V4 hV4 hu
      obtain rfl := sureBool _ _ _ hu
      refine T.pure (.bool (!r3)) (by kernel_rfl) (fun _ => by kernel_rfl) ?_
      refine T.pure (.bool (!r3)) (by kernel_rfl) (fun _ => by kernel_rfl) ?_
      refine T.nil ?_
      cases hX1
      exact fun a w' hf hh => Exists.intro V4 (And.intro hV4 (And.intro (((((Fr.nil hf).pick hf 30 rfl).pick hf 2 rfl).pick hf 1 rfl).pick hf 0 rfl) (hh.sub (.cons _ List.Sublist.slnil))))
    ·
      skip
      rw [hg1, cond_true] at hX1
      refine T.pass (by kernel_rfl) (by kernel_rfl) ?_
      refine T.pass (by kernel_rfl) (by kernel_rfl) ?_
      refine T.pass (by kernel_rfl) (by kernel_rfl) ?_
      refine T.pass (by kernel_rfl) (by kernel_rfl) ?_
      refine T.pass (by kernel_rfl) (by kernel_rfl) ?_
      refine T.pure (.bool true) (by kernel_rfl) (fun _ => by kernel_rfl) ?_
      refine T.nil ?_
      cases hX1
      exact fun a w' hf hh => Exists.intro V2 (And.intro (View.le_refl _) (And.intro (((((Fr.nil hf).pick hf 30 rfl).pick hf 2 rfl).pick hf 1 rfl).pick hf 0 rfl) (hh.sub List.Sublist.slnil)))
  ·
    rintro a w' ⟨V3, hV3, hf, hh⟩
    refine (?_ : T 111 w V3 [] [(0, .slice A1 p0.length c1), (1, .int .i64 p1), (2, .int .i64 p2), (30, .bool z1)] _) a w' hf hh
    clear hf hh
    refine T.cond z1 (by kernel_rfl) (by kernel_rfl) (fun hc1 => ?_) (fun hc1 => ?_)
    ·
      rw [hc1, cond_true] at hF
      refine T.seq ?_
      refine T.region ?_
      refine T.pure (.bool false) (by kernel_rfl) (fun _ => by kernel_rfl) ?_
      refine T.nil ?_
      cases hF
      refine T.ret rfl ?_
      exact T.ret1 rfl (ResIs.tmp rfl) fun w' hh => ⟨_, rfl, hh.below, (show _ from rfl)⟩
    ·
      rw [hc1, cond_false] at hF
      refine T.skip_code ?_
      refine T.seq ?_
      refine T.region ?_
      refine T.pure (.slice A1 p0.length c1) (by kernel_rfl) (fun _ => by kernel_rfl) ?_
      refine T.pure (.int .i64 p1) (by kernel_rfl) (fun _ => by kernel_rfl) ?_
      refine T.pure (.int .i64 p1) (by kernel_rfl) (fun _ => by kernel_rfl) ?_
      obtain ⟨r4, hb4, hF⟩ := Option.bind_eq_some_iff.1 hF
      refine T.step (W1.call (vT2 (vSc (eList eChange)) (vSc eInt)) r4 42 #[.slice A1 p0.length c1, .int .i64 p1, .int .i64 p1] (by kernel_rfl) (fun _ => by kernel_rfl) (fun w' hh => change_Between_l F p0 p1 p1 r4 hb4 w' A1 c1 (SlOk.mono (SlOk.mono hs1 (View.le_trans (View.le_trans hV1 hV2) hV3)) hh.view)) ?_)
      intro u V5 hV5 hu
      obtain ⟨u3, u4, rfl, hu3, hu4⟩ := vT2_elim hu
      obtain ⟨A4, c4, rfl, hs4⟩ := vlist_elim hu3
      obtain rfl := sureInt _ _ _ hu4
      refine T.pure (.tuple #[.slice A4 r4.1.length c4, .int .i64 r4.2]) (by kernel_rfl) (fun _ => by kernel_rfl) ?_
      refine T.pure (.slice A4 r4.1.length c4) (by kernel_rfl) (fun _ => by kernel_rfl) ?_
      refine T.pure (.int .i64 r4.2) (by kernel_rfl) (fun _ => by kernel_rfl) ?_
      refine T.pure (.slice A4 r4.1.length c4) (by kernel_rfl) (fun _ => by kernel_rfl) ?_
      refine T.pure (.int .i64 r4.2) (by kernel_rfl) (fun _ => by kernel_rfl) ?_
      refine T.nil ?_
      refine T.seq ?_
      refine T.region ?_
      refine T.pure (.slice A1 p0.length c1) (by kernel_rfl) (fun _ => by kernel_rfl) ?_
      refine T.pure (.int .i64 p1) (by kernel_rfl) (fun _ => by kernel_rfl) ?_
      refine T.pure (.int .i64 p2) (by kernel_rfl) (fun _ => by kernel_rfl) ?_
      obtain ⟨r5, hb5, hF⟩ := Option.bind_eq_some_iff.1 hF
      refine T.step (W1.call (vT2 (vSc (eList eChange)) (vSc eInt)) r5 42 #[.slice A1 p0.length c1, .int .i64 p1, .int .i64 p2] (by kernel_rfl) (fun _ => by kernel_rfl) (fun w' hh => change_Between_l F p0 p1 p2 r5 hb5 w' A1 c1 (SlOk.mono (SlOk.mono hs1 (View.le_trans (View.le_trans (View.le_trans hV1 hV2) hV3) hV5)) hh.view)) ?_)
      intro u V6 hV6 hu
      obtain ⟨u5, u6, rfl, hu5, hu6⟩ := vT2_elim hu
      obtain ⟨A5, c5, rfl, hs5⟩ := vlist_elim hu5
      obtain rfl := sureInt _ _ _ hu6
      refine T.pure (.tuple #[.slice A5 r5.1.length c5, .int .i64 r5.2]) (by kernel_rfl) (fun _ => by kernel_rfl) ?_
      refine T.pure (.slice A5 r5.1.length c5) (by kernel_rfl) (fun _ => by kernel_rfl) ?_
      refine T.pure (.int .i64 r5.2) (by kernel_rfl) (fun _ => by kernel_rfl) ?_
      refine T.pure (.slice A5 r5.1.length c5) (by kernel_rfl) (fun _ => by kernel_rfl) ?_
      refine T.pure (.int .i64 r5.2) (by kernel_rfl) (fun _ => by kernel_rfl) ?_
      refine T.nil ?_
      refine T.seq ?_
      refine T.region ?_
      refine T.pure (.slice A1 p0.length c1) (by kernel_rfl) (fun _ => by kernel_rfl) ?_
      refine T.pure (.int .i64 p2) (by kernel_rfl) (fun _ => by kernel_rfl) ?_
      refine T.pure (.int .i64 p1) (by kernel_rfl) (fun _ => by kernel_rfl) ?_
      obtain ⟨r6, hb6, hF⟩ := Option.bind_eq_some_iff.1 hF
      refine T.step (W1.call (vT2 (vSc (eList eChange)) (vSc eInt)) r6 42 #[.slice A1 p0.length c1, .int .i64 p2, .int .i64 p1] (by kernel_rfl) (fun _ => by kernel_rfl) (fun w' hh => change_Between_l F p0 p2 p1 r6 hb6 w' A1 c1 (SlOk.mono (SlOk.mono hs1 (View.le_trans (View.le_trans (View.le_trans (View.le_trans hV1 hV2) hV3) hV5) hV6)) hh.view)) ?_)
      intro u V7 hV7 hu
      obtain ⟨u7, u8, rfl, hu7, hu8⟩ := vT2_elim hu
      obtain ⟨A6, c6, rfl, hs6⟩ := vlist_elim hu7
      obtain rfl := sureInt _ _ _ hu8
      refine T.pure (.tuple #[.slice A6 r6.1.length c6, .int .i64 r6.2]) (by kernel_rfl) (fun _ => by kernel_rfl) ?_
      refine T.pure (.slice A6 r6.1.length c6) (by kernel_rfl) (fun _ => by kernel_rfl) ?_
      refine T.pure (.int .i64 r6.2) (by kernel_rfl) (fun _ => by kernel_rfl) ?_
      refine T.pure (.slice A6 r6.1.length c6) (by kernel_rfl) (fun _ => by kernel_rfl) ?_
      refine T.pure (.int .i64 r6.2) (by kernel_rfl) (fun _ => by kernel_rfl) ?_
      refine T.nil ?_
      refine T.seq ?_
      refine T.cut (fun a w' => Fr 111 [(9, .slice A4 r4.1.length c4), (10, .int .i64 r4.2), (11, .slice A5 r5.1.length c5), (12, .int .i64 r5.2), (13, .slice A6 r6.1.length c6), (14, .int .i64 r6.2), (61, .bool ((r4.2 != 0) || ((r5.2 != 0) || (r6.2 != 0))))] a ∧ Hp w V7 [] w') ?_ ?_
      ·
        refine T.region ?_
        refine T.pure (.int .i64 r4.2) (by kernel_rfl) (fun _ => by kernel_rfl) ?_
        refine T.pure (.bool (r4.2 != 0)) (by kernel_rfl) (fun _ => by kernel_rfl) ?_
        refine T.pure (.bool (r4.2 != 0)) (by kernel_rfl) (fun _ => by kernel_rfl) ?_
        cases hg2 : (r4.2 != 0)
        ·
          skip
          refine T.pure (.int .i64 r5.2) (by kernel_rfl) (fun _ => by kernel_rfl) ?_
          refine T.pure (.bool (r5.2 != 0)) (by kernel_rfl) (fun _ => by kernel_rfl) ?_
          refine T.pure (.bool (r5.2 != 0)) (by kernel_rfl) (fun _ => by kernel_rfl) ?_
          refine T.pure (.bool (r5.2 != 0)) (by kernel_rfl) (fun _ => by kernel_rfl) ?_
          cases hg3 : (r5.2 != 0)
          ·
            skip
            refine T.pure (.int .i64 r6.2) (by kernel_rfl) (fun _ => by kernel_rfl) ?_
            refine T.pure (.bool (r6.2 != 0)) (by kernel_rfl) (fun _ => by kernel_rfl) ?_
            refine T.pure (.bool (r6.2 != 0)) (by kernel_rfl) (fun _ => by kernel_rfl) ?_
            refine T.nil ?_
            exact fun a w' hf hh => And.intro ((((((((Fr.nil hf).pick hf 61 rfl).pick hf 14 rfl).pick hf 13 rfl).pick hf 12 rfl).pick hf 11 rfl).pick hf 10 rfl).pick hf 9 rfl) (hh.sub List.Sublist.slnil)
          ·
            skip
            refine T.pass (by kernel_rfl) (by kernel_rfl) ?_
            refine T.pass (by kernel_rfl) (by kernel_rfl) ?_
            refine T.pure (.bool true) (by kernel_rfl) (fun _ => by kernel_rfl) ?_
            refine T.nil ?_
            exact fun a w' hf hh => And.intro ((((((((Fr.nil hf).pick hf 61 rfl).pick hf 14 rfl).pick hf 13 rfl).pick hf 12 rfl).pick hf 11 rfl).pick hf 10 rfl).pick hf 9 rfl) (hh.sub List.Sublist.slnil)
        ·
          skip
          refine T.pass (by kernel_rfl) (by kernel_rfl) ?_
          refine T.pass (by kernel_rfl) (by kernel_rfl) ?_
          refine T.pure (.bool true) (by kernel_rfl) (fun _ => by kernel_rfl) ?_
          refine T.pure (.bool true) (by kernel_rfl) (fun _ => by kernel_rfl) ?_
          refine T.pass (by kernel_rfl) (by kernel_rfl) ?_
          refine T.pass (by kernel_rfl) (by kernel_rfl) ?_
          refine T.pure (.bool true) (by kernel_rfl) (fun _ => by kernel_rfl) ?_
          refine T.nil ?_
          exact fun a w' hf hh => And.intro ((((((((Fr.nil hf).pick hf 61 rfl).pick hf 14 rfl).pick hf 13 rfl).pick hf 12 rfl).pick hf 11 rfl).pick hf 10 rfl).pick hf 9 rfl) (hh.sub List.Sublist.slnil)
      ·
        rintro a w' ⟨hf, hh⟩
        refine (?_ : T 111 w V7 [] [(9, .slice A4 r4.1.length c4), (10, .int .i64 r4.2), (11, .slice A5 r5.1.length c5), (12, .int .i64 r5.2), (13, .slice A6 r6.1.length c6), (14, .int .i64 r6.2), (61, .bool ((r4.2 != 0) || ((r5.2 != 0) || (r6.2 != 0))))] _) a w' hf hh
        clear hf hh
        refine T.cond ((r4.2 != 0) || ((r5.2 != 0) || (r6.2 != 0))) (by kernel_rfl) (by kernel_rfl) (fun hc2 => ?_) (fun hc2 => ?_)
        ·
          rw [hc2, cond_true] at hF
          refine T.cut (fun a w' => Fr 111 [(6, .bool ((r4.2 == r5.2) && ((r5.2 == r6.2) && (((r4.1.length : Int) == 0) && ((r5.1.length : Int) == 0)))))] a ∧ Hp w V7 [] w') ?_ ?_
          ·
            refine T.region ?_
            refine T.pure (.int .i64 r4.2) (by kernel_rfl) (fun _ => by kernel_rfl) ?_
            refine T.pure (.int .i64 r5.2) (by kernel_rfl) (fun _ => by kernel_rfl) ?_
            refine T.pure (.bool (r4.2 == r5.2)) (by kernel_rfl) (fun _ => by kernel_rfl) ?_
            refine T.pure (.bool (r4.2 == r5.2)) (by kernel_rfl) (fun _ => by kernel_rfl) ?_
            cases hg4 : (r4.2 == r5.2)
            ·
              skip
              refine T.pass (by kernel_rfl) (by kernel_rfl) ?_
              refine T.pass (by kernel_rfl) (by kernel_rfl) ?_
              refine T.pass (by kernel_rfl) (by kernel_rfl) ?_
              refine T.pure (.bool false) (by kernel_rfl) (fun _ => by kernel_rfl) ?_
              refine T.pure (.bool false) (by kernel_rfl) (fun _ => by kernel_rfl) ?_
              refine T.pass (by kernel_rfl) (by kernel_rfl) ?_
              refine T.pass (by kernel_rfl) (by kernel_rfl) ?_
              refine T.pass (by kernel_rfl) (by kernel_rfl) ?_
              refine T.pure (.bool false) (by kernel_rfl) (fun _ => by kernel_rfl) ?_
              refine T.pure (.bool false) (by kernel_rfl) (fun _ => by kernel_rfl) ?_
              refine T.pass (by kernel_rfl) (by kernel_rfl) ?_
              refine T.pass (by kernel_rfl) (by kernel_rfl) ?_
              refine T.pass (by kernel_rfl) (by kernel_rfl) ?_
              refine T.pure (.bool false) (by kernel_rfl) (fun _ => by kernel_rfl) ?_
              refine T.pure (.bool false) (by kernel_rfl) (fun _ => by kernel_rfl) ?_
              refine T.nil ?_
              exact fun a w' hf hh => And.intro ((Fr.nil hf).pick hf 6 rfl) (hh.sub List.Sublist.slnil)
            ·
              skip
              refine T.pure (.int .i64 r5.2) (by kernel_rfl) (fun _ => by kernel_rfl) ?_
              refine T.pure (.int .i64 r6.2) (by kernel_rfl) (fun _ => by kernel_rfl) ?_
              refine T.pure (.bool (r5.2 == r6.2)) (by kernel_rfl) (fun _ => by kernel_rfl) ?_
              refine T.pure (.bool (r5.2 == r6.2)) (by kernel_rfl) (fun _ => by kernel_rfl) ?_
              refine T.pure (.bool (r5.2 == r6.2)) (by kernel_rfl) (fun _ => by kernel_rfl) ?_
              cases hg5 : (r5.2 == r6.2)
              ·
                skip
                refine T.pass (by kernel_rfl) (by kernel_rfl) ?_
                refine T.pass (by kernel_rfl) (by kernel_rfl) ?_
                refine T.pass (by kernel_rfl) (by kernel_rfl) ?_
                refine T.pure (.bool false) (by kernel_rfl) (fun _ => by kernel_rfl) ?_
                refine T.pure (.bool false) (by kernel_rfl) (fun _ => by kernel_rfl) ?_
                refine T.pass (by kernel_rfl) (by kernel_rfl) ?_
                refine T.pass (by kernel_rfl) (by kernel_rfl) ?_
                refine T.pass (by kernel_rfl) (by kernel_rfl) ?_
                refine T.pure (.bool false) (by kernel_rfl) (fun _ => by kernel_rfl) ?_
                refine T.pure (.bool false) (by kernel_rfl) (fun _ => by kernel_rfl) ?_
                refine T.nil ?_
                exact fun a w' hf hh => And.intro ((Fr.nil hf).pick hf 6 rfl) (hh.sub List.Sublist.slnil)
              ·
                skip
                refine T.pure (.slice A4 r4.1.length c4) (by kernel_rfl) (fun _ => by kernel_rfl) ?_
                refine T.pure (.int .i64 (r4.1.length : Int)) (by kernel_rfl) (fun _ => by kernel_rfl) ?_
                refine T.pure (.bool ((r4.1.length : Int) == 0)) (by kernel_rfl) (fun _ => by kernel_rfl) ?_
                refine T.pure (.bool ((r4.1.length : Int) == 0)) (by kernel_rfl) (fun _ => by kernel_rfl) ?_
                refine T.pure (.bool ((r4.1.length : Int) == 0)) (by kernel_rfl) (fun _ => by kernel_rfl) ?_
                cases hg6 : ((r4.1.length : Int) == 0)
                ·
                  skip
                  refine T.pass (by kernel_rfl) (by kernel_rfl) ?_
                  refine T.pass (by kernel_rfl) (by kernel_rfl) ?_
                  refine T.pass (by kernel_rfl) (by kernel_rfl) ?_
                  refine T.pure (.bool false) (by kernel_rfl) (fun _ => by kernel_rfl) ?_
                  refine T.pure (.bool false) (by kernel_rfl) (fun _ => by kernel_rfl) ?_
                  refine T.nil ?_
                  exact fun a w' hf hh => And.intro ((Fr.nil hf).pick hf 6 rfl) (hh.sub List.Sublist.slnil)
                ·
                  skip
                  refine T.pure (.slice A5 r5.1.length c5) (by kernel_rfl) (fun _ => by kernel_rfl) ?_
                  refine T.pure (.int .i64 (r5.1.length : Int)) (by kernel_rfl) (fun _ => by kernel_rfl) ?_
                  refine T.pure (.bool ((r5.1.length : Int) == 0)) (by kernel_rfl) (fun _ => by kernel_rfl) ?_
                  refine T.pure (.bool ((r5.1.length : Int) == 0)) (by kernel_rfl) (fun _ => by kernel_rfl) ?_
                  refine T.pure (.bool ((r5.1.length : Int) == 0)) (by kernel_rfl) (fun _ => by kernel_rfl) ?_
                  refine T.nil ?_
                  exact fun a w' hf hh => And.intro ((Fr.nil hf).pick hf 6 rfl) (hh.sub List.Sublist.slnil)
          ·
            rintro a w' ⟨hf, hh⟩
            refine (?_ : T 111 w V7 [] [(6, .bool ((r4.2 == r5.2) && ((r5.2 == r6.2) && (((r4.1.length : Int) == 0) && ((r5.1.length : Int) == 0)))))] _) a w' hf hh
            clear hf hh
            cases hF
            refine T.ret rfl ?_
            exact T.ret1 rfl (ResIs.tmp rfl) fun w' hh => ⟨_, rfl, hh.below, (show _ from rfl)⟩
        ·
          rw [hc2, cond_false] at hF
          refine T.skip_code ?_
          refine T.seq ?_
          refine T.region ?_
          refine T.pure (.slice A5 r5.1.length c5) (by kernel_rfl) (fun _ => by kernel_rfl) ?_
          obtain ⟨r7, hb7, hF⟩ := Option.bind_eq_some_iff.1 hF
          refine T.step (W1.call (vT2 (vSc (eList eChange)) (vSc eInt)) r7 36 #[.slice A5 r5.1.length c5] (by kernel_rfl) (fun _ => by kernel_rfl) (fun w' hh => change_Back_l F r5.1 r7 hb7 w' A5 c5 (SlOk.mono (SlOk.mono hs5 (View.le_trans (made_le _ _) hV7)) hh.view)) ?_)
          intro u V8 hV8 hu
          obtain ⟨u9, u10, rfl, hu9, hu10⟩ := vT2_elim hu
          obtain ⟨A7, c7, rfl, hs7⟩ := vlist_elim hu9
          obtain rfl := sureInt _ _ _ hu10
          refine T.pure (.tuple #[.slice A7 r7.1.length c7, .int .i64 r7.2]) (by kernel_rfl) (fun _ => by kernel_rfl) ?_
          refine T.pure (.slice A7 r7.1.length c7) (by kernel_rfl) (fun _ => by kernel_rfl) ?_
          refine T.pure (.int .i64 r7.2) (by kernel_rfl) (fun _ => by kernel_rfl) ?_
          refine T.pure (.slice A7 r7.1.length c7) (by kernel_rfl) (fun _ => by kernel_rfl) ?_
          refine T.pure (.int .i64 r7.2) (by kernel_rfl) (fun _ => by kernel_rfl) ?_
          refine T.nil ?_
          refine T.seq ?_
          refine T.region ?_
          refine T.pure (.slice A7 r7.1.length c7) (by kernel_rfl) (fun _ => by kernel_rfl) ?_
          obtain ⟨r8, hb8, hF⟩ := Option.bind_eq_some_iff.1 hF
          refine T.step (W1.call (vT2 (vSc (eList eChange)) (vSc eInt)) r8 36 #[.slice A7 r7.1.length c7] (by kernel_rfl) (fun _ => by kernel_rfl) (fun w' hh => change_Back_l F r7.1 r8 hb8 w' A7 c7 (SlOk.mono (SlOk.mono hs7 (View.le_trans (made_le _ _) (View.le_refl _))) hh.view)) ?_)
          intro u V9 hV9 hu
          obtain ⟨u11, u12, rfl, hu11, hu12⟩ := vT2_elim hu
          obtain ⟨A8, c8, rfl, hs8⟩ := vlist_elim hu11
          obtain rfl := sureInt _ _ _ hu12
          refine T.pure (.tuple #[.slice A8 r8.1.length c8, .int .i64 r8.2]) (by kernel_rfl) (fun _ => by kernel_rfl) ?_
          refine T.pure (.slice A8 r8.1.length c8) (by kernel_rfl) (fun _ => by kernel_rfl) ?_
          refine T.pure (.int .i64 r8.2) (by kernel_rfl) (fun _ => by kernel_rfl) ?_
          refine T.pure (.slice A8 r8.1.length c8) (by kernel_rfl) (fun _ => by kernel_rfl) ?_
          refine T.pure (.int .i64 r8.2) (by kernel_rfl) (fun _ => by kernel_rfl) ?_
          refine T.nil ?_
          obtain ⟨z2, hX2, hF⟩ := Option.bind_eq_some_iff.1 hF
          refine T.cut (fun a w' => ∃ (V10 : View), View.le V9 V10 ∧ Fr 111 [(6, .bool z2)] a ∧ Hp w V10 [] w') ?_ ?_
          ·
            refine T.region ?_
            refine T.pure (.int .i64 r7.2) (by kernel_rfl) (fun _ => by kernel_rfl) ?_
            refine T.pure (.bool (r7.2 == 0)) (by kernel_rfl) (fun _ => by kernel_rfl) ?_
            refine T.pure (.bool (r7.2 == 0)) (by kernel_rfl) (fun _ => by kernel_rfl) ?_
            cases hg7 : (r7.2 == 0)
            ·
              skip
              rw [hg7, cond_false] at hX2
              refine T.pass (by kernel_rfl) (by kernel_rfl) ?_
              refine T.pass (by kernel_rfl) (by kernel_rfl) ?_
              refine T.pure (.bool false) (by kernel_rfl) (fun _ => by kernel_rfl) ?_
              refine T.pure (.bool false) (by kernel_rfl) (fun _ => by kernel_rfl) ?_
              refine T.pass (by kernel_rfl) (by kernel_rfl) ?_
              refine T.pass (by kernel_rfl) (by kernel_rfl) ?_
              refine T.pass (by kernel_rfl) (by kernel_rfl) ?_
              refine T.pure (.bool false) (by kernel_rfl) (fun _ => by kernel_rfl) ?_
              refine T.pure (.bool false) (by kernel_rfl) (fun _ => by kernel_rfl) ?_
              refine T.pass (by kernel_rfl) (by kernel_rfl) ?_
              refine T.pass (by kernel_rfl) (by kernel_rfl) ?_
              refine T.pass (by kernel_rfl) (by kernel_rfl) ?_
              refine T.pure (.bool false) (by kernel_rfl) (fun _ => by kernel_rfl) ?_
              refine T.pure (.bool false) (by kernel_rfl) (fun _ => by kernel_rfl) ?_
              refine T.pass (by kernel_rfl) (by kernel_rfl) ?_
              refine T.pass (by kernel_rfl) (by kernel_rfl) ?_
              refine T.pass (by kernel_rfl) (by kernel_rfl) ?_
              refine T.pure (.bool false) (by kernel_rfl) (fun _ => by kernel_rfl) ?_
              refine T.pure (.bool false) (by kernel_rfl) (fun _ => by kernel_rfl) ?_
              refine T.nil ?_
              cases hX2
              exact fun a w' hf hh => Exists.intro V9 (And.intro (View.le_refl _) (And.intro ((Fr.nil hf).pick hf 6 rfl) (hh.sub List.Sublist.slnil)))
            ·
              skip
              rw [hg7, cond_true] at hX2
              refine T.pure (.int .i64 r8.2) (by kernel_rfl) (fun _ => by kernel_rfl) ?_
              refine T.pure (.bool (r8.2 == 0)) (by kernel_rfl) (fun _ => by kernel_rfl) ?_
              refine T.pure (.bool (r8.2 == 0)) (by kernel_rfl) (fun _ => by kernel_rfl) ?_
              refine T.pure (.bool (r8.2 == 0)) (by kernel_rfl) (fun _ => by kernel_rfl) ?_
              cases hg8 : (r8.2 == 0)
              ·
                skip
                rw [hg8, cond_false] at hX2
                refine T.pass (by kernel_rfl) (by kernel_rfl) ?_
                refine T.pass (by kernel_rfl) (by kernel_rfl) ?_
                refine T.pass (by kernel_rfl) (by kernel_rfl) ?_
                refine T.pure (.bool false) (by kernel_rfl) (fun _ => by kernel_rfl) ?_
                refine T.pure (.bool false) (by kernel_rfl) (fun _ => by kernel_rfl) ?_
                refine T.pass (by kernel_rfl) (by kernel_rfl) ?_
                refine T.pass (by kernel_rfl) (by kernel_rfl) ?_
                refine T.pass (by kernel_rfl) (by kernel_rfl) ?_
                refine T.pure (.bool false) (by kernel_rfl) (fun _ => by kernel_rfl) ?_
                refine T.pure (.bool false) (by kernel_rfl) (fun _ => by kernel_rfl) ?_
                refine T.pass (by kernel_rfl) (by kernel_rfl) ?_
                refine T.pass (by kernel_rfl) (by kernel_rfl) ?_
                refine T.pass (by kernel_rfl) (by kernel_rfl) ?_
                refine T.pure (.bool false) (by kernel_rfl) (fun _ => by kernel_rfl) ?_
                refine T.pure (.bool false) (by kernel_rfl) (fun _ => by kernel_rfl) ?_
                refine T.nil ?_
                cases hX2
                exact fun a w' hf hh => Exists.intro V9 (And.intro (View.le_refl _) (And.intro ((Fr.nil hf).pick hf 6 rfl) (hh.sub List.Sublist.slnil)))
              ·
                skip
                rw [hg8, cond_true] at hX2
                refine T.pure (.slice A4 r4.1.length c4) (by kernel_rfl) (fun _ => by kernel_rfl) ?_
                refine T.pure (.int .i64 (r4.1.length : Int)) (by kernel_rfl) (fun _ => by kernel_rfl) ?_
                refine T.pure (.bool ((r4.1.length : Int) == 0)) (by kernel_rfl) (fun _ => by kernel_rfl) ?_
                refine T.pure (.bool ((r4.1.length : Int) == 0)) (by kernel_rfl) (fun _ => by kernel_rfl) ?_
                refine T.pure (.bool ((r4.1.length : Int) == 0)) (by kernel_rfl) (fun _ => by kernel_rfl) ?_
                cases hg9 : ((r4.1.length : Int) == 0)
                ·
                  skip
                  rw [hg9, cond_false] at hX2
                  refine T.pass (by kernel_rfl) (by kernel_rfl) ?_
                  refine T.pass (by kernel_rfl) (by kernel_rfl) ?_
                  refine T.pass (by kernel_rfl) (by kernel_rfl) ?_
                  refine T.pure (.bool false) (by kernel_rfl) (fun _ => by kernel_rfl) ?_
                  refine T.pure (.bool false) (by kernel_rfl) (fun _ => by kernel_rfl) ?_
                  refine T.pass (by kernel_rfl) (by kernel_rfl) ?_
                  refine T.pass (by kernel_rfl) (by kernel_rfl) ?_
                  refine T.pass (by kernel_rfl) (by kernel_rfl) ?_
                  refine T.pure (.bool false) (by kernel_rfl) (fun _ => by kernel_rfl) ?_
                  refine T.pure (.bool false) (by kernel_rfl) (fun _ => by kernel_rfl) ?_
                  refine T.nil ?_
                  cases hX2
                  exact fun a w' hf hh => Exists.intro V9 (And.intro (View.le_refl _) (And.intro ((Fr.nil hf).pick hf 6 rfl) (hh.sub List.Sublist.slnil)))
                ·
                  skip
                  rw [hg9, cond_true] at hX2
                  refine T.pure (.slice A7 r7.1.length c7) (by kernel_rfl) (fun _ => by kernel_rfl) ?_
                  refine T.pure (.slice A6 r6.1.length c6) (by kernel_rfl) (fun _ => by kernel_rfl) ?_
                  obtain ⟨r9, hb9, hX2⟩ := Option.bind_eq_some_iff.1 hX2
                  refine T.step (W1.call (vSc eBool) r9 37 #[.slice A7 r7.1.length c7, .slice A6 r6.1.length c6] (by kernel_rfl) (fun _ => by kernel_rfl) (fun w' hh => slices_Equal_Change_l F r7.1 r6.1 r9 hb9 w' A7 c7 (SlOk.mono (SlOk.mono hs7 (View.le_trans (made_le _ _) hV9)) hh.view) A6 c6 (SlOk.mono (SlOk.mono hs6 (View.le_trans (made_le _ _) (View.le_trans hV8 hV9))) hh.view)) ?_)
                  intro u V11 hV11 hu
                  obtain rfl := sureBool _ _ _ hu
                  refine T.pure (.bool r9) (by kernel_rfl) (fun _ => by kernel_rfl) ?_
                  refine T.pure (.bool r9) (by kernel_rfl) (fun _ => by kernel_rfl) ?_
                  cases hg10 : r9
                  ·
                    skip
                    rw [hg10, cond_false] at hX2
                    refine T.pass (by kernel_rfl) (by kernel_rfl) ?_
                    refine T.pass (by kernel_rfl) (by kernel_rfl) ?_
                    refine T.pass (by kernel_rfl) (by kernel_rfl) ?_
                    refine T.pure (.bool false) (by kernel_rfl) (fun _ => by kernel_rfl) ?_
                    refine T.pure (.bool false) (by kernel_rfl) (fun _ => by kernel_rfl) ?_
                    refine T.nil ?_
                    cases hX2
                    exact fun a w' hf hh => Exists.intro V11 (And.intro hV11 (And.intro ((Fr.nil hf).pick hf 6 rfl) (hh.sub List.Sublist.slnil)))
                  ·
                    skip
                    rw [hg10, cond_true] at hX2
                    refine T.pure (.slice A8 r8.1.length c8) (by kernel_rfl) (fun _ => by kernel_rfl) ?_
                    refine T.pure (.slice A5 r5.1.length c5) (by kernel_rfl) (fun _ => by kernel_rfl) ?_
                    obtain ⟨r10, hb10, hX2⟩ := Option.bind_eq_some_iff.1 hX2
                    refine T.step (W1.call (vSc eBool) r10 37 #[.slice A8 r8.1.length c8, .slice A5 r5.1.length c5] (by kernel_rfl) (fun _ => by kernel_rfl) (fun w' hh => slices_Equal_Change_l F r8.1 r5.1 r10 hb10 w' A8 c8 (SlOk.mono (SlOk.mono hs8 (View.le_trans (made_le _ _) hV11)) hh.view) A5 c5 (SlOk.mono (SlOk.mono hs5 (View.le_trans (made_le _ _) (View.le_trans (View.le_trans (View.le_trans hV7 hV8) hV9) hV11))) hh.view)) ?_)
                    intro u V12 hV12 hu
                    obtain rfl := sureBool _ _ _ hu
                    refine T.pure (.bool r10) (by kernel_rfl) (fun _ => by kernel_rfl) ?_
                    refine T.pure (.bool r10) (by kernel_rfl) (fun _ => by kernel_rfl) ?_
                    refine T.nil ?_
                    cases hX2
                    exact fun a w' hf hh => Exists.intro V12 (And.intro (View.le_trans hV11 hV12) (And.intro ((Fr.nil hf).pick hf 6 rfl) (hh.sub List.Sublist.slnil)))
          ·
            rintro a w' ⟨V10, hV10, hf, hh⟩
            refine (?_ : T 111 w V10 [] [(6, .bool z2)] _) a w' hf hh
            clear hf hh
            cases hF
            refine T.ret rfl ?_
            exact T.ret1 rfl (ResIs.tmp rfl) fun w' hh => ⟨_, rfl, hh.below, (show _ from rfl)⟩

end Go.Proofs.Ytiaoncjkfgebdaa
