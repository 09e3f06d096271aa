/- The Go functions of group WChangeJoins compute the pure functions of that group: written by walkgen.py. Condition of each: the pure function yields a result. -/
import Derived.Test.YtiaoncjkfgebdaaChangeL
import Derived.Test.YtiaoncjkfgebdaaEqsL
import Derived.Test.YtiaoncjkfgebdaaWChangeJoinsF
import Derived.Test.YtiaoncjkfgebdaaEqL
namespace Go.Proofs.Ytiaoncjkfgebdaa
set_option linter.unusedVariables false

set_option maxRecDepth 100000 in
set_option maxHeartbeats 4000000 in
theorem annalkeep_ChangeJoins_l (F : Nat) (p0 : (List DChange)) (p1 : (List DChange)) (p2 : (List DChange)) (r : Bool) (hF : annalkeep_ChangeJoins F p0 p1 p2 = some r) (w : World) (A1 : Option Addr) (c1 : Nat) (hs1 : SlOk (vw w) eChange A1 c1 p0) (A2 : Option Addr) (c2 : Nat) (hs2 : SlOk (vw w) eChange A2 c2 p1) (A3 : Option Addr) (c3 : Nat) (hs3 : SlOk (vw w) eChange A3 c3 p2) :
    Calls Try.prog 5 #[.slice A1 p0.length c1, .slice A2 p1.length c2, .slice A3 p2.length c3] w (Post (vSc eBool) r w) := by
  unfold annalkeep_ChangeJoins at hF
  refine T.start (l := [.slice A1 p0.length c1, .slice A2 p1.length c2, .slice A3 p2.length c3]) Try.func5 rfl rfl rfl ?_
  refine T.seq ?_
  refine T.region ?_
  refine T.pure (.bool false) (by kernel_rfl) (fun _ => by kernel_rfl) ?_
  refine T.nil ?_
  refine T.seq ?_
  refine T.region ?_
  refine T.pure (.agg #[.int .i64 0, .int .i64 0, .int .i64 0, .bool false, .bool true, .string (ByteArray.mk #[]), .string (ByteArray.mk #[98])]) (by kernel_rfl) (fun _ => by kernel_rfl) ?_
  refine T.step (W1.new 44 [.int .i64 0, .int .i64 0, .int .i64 0, .bool false, .bool true, .string (ByteArray.mk #[]), .string (ByteArray.mk #[98])] (fun b => .slice (some ⟨b, 0, none⟩) 1 1) (by kernel_rfl) (fun _ => by kernel_rfl) (fun b1 => ?_))
  refine T.pure (.slice (some ⟨b1, 0, none⟩) 1 1) (by kernel_rfl) (fun _ => by kernel_rfl) ?_
  refine T.nil ?_
  refine T.seq ?_
  refine T.seq ?_
  refine T.region ?_
  refine T.pure (.slice (some ⟨b1, 0, none⟩) 1 1) (by kernel_rfl) (fun _ => by kernel_rfl) ?_
  obtain ⟨r1, hb1, hF⟩ := Option.bind_eq_some_iff.1 hF
  refine T.step (W1.call (vT2 (vSc (eList eChange)) (vSc eInt)) r1 36 #[.slice (some ⟨b1, 0, none⟩) 1 1] (by kernel_rfl) (fun _ => by kernel_rfl) (fun w' hh => change_Back_l F [(DChange.mk (DKey.mk 0 0 0) false true (ByteArray.mk #[]) (ByteArray.mk #[98]))] r1 hb1 w' (some ⟨b1, 0, none⟩) 1 (slok_lit (E := eChange) (f := DChange.cells) [(DChange.mk (DKey.mk 0 0 0) false true (ByteArray.mk #[]) (ByteArray.mk #[98]))] (fun _ _ => rfl) (Nat.le_of_ble_eq_true (by rfl)) (fun j => hh.cellBox (i := 0) (by rfl) j))) ?_)
  intro u V1 hV1 hu
  obtain ⟨u1, u2, rfl, hu1, hu2⟩ := vT2_elim hu
  obtain ⟨A4, c4, rfl, hs4⟩ := vlist_elim hu1
  obtain rfl := sureInt _ _ _ hu2
  refine T.pure (.tuple #[.slice A4 r1.1.length c4, .int .i64 r1.2]) (by kernel_rfl) (fun _ => by kernel_rfl) ?_
  refine T.pure (.slice A4 r1.1.length c4) (by kernel_rfl) (fun _ => by kernel_rfl) ?_
  refine T.pure (.int .i64 r1.2) (by kernel_rfl) (fun _ => by kernel_rfl) ?_
  refine T.pure (.slice A4 r1.1.length c4) (by kernel_rfl) (fun _ => by kernel_rfl) ?_
  refine T.pure (.int .i64 r1.2) (by kernel_rfl) (fun _ => by kernel_rfl) ?_
  refine T.nil ?_
  obtain ⟨z1, hX1, hF⟩ := Option.bind_eq_some_iff.1 hF
  refine T.cut (fun a w' => ∃ (V2 : View), View.le V1 V2 ∧ Fr 96 [(0, .slice A1 p0.length c1), (1, .slice A2 p1.length c2), (2, .slice A3 p2.length c3), (34, .bool z1)] a ∧ Hp w V2 [] w') ?_ ?_
  ·
    refine T.region ?_
    refine T.pure (.int .i64 r1.2) (by kernel_rfl) (fun _ => by kernel_rfl) ?_
    refine T.pure (.bool (r1.2 != 0)) (by kernel_rfl) (fun _ => by kernel_rfl) ?_
    refine T.pure (.bool (r1.2 != 0)) (by kernel_rfl) (fun _ => by kernel_rfl) ?_
    cases hg1 : (r1.2 != 0)
    ·
      skip
      rw [hg1, cond_false] at hX1
      refine T.pure (.slice A4 r1.1.length c4) (by kernel_rfl) (fun _ => by kernel_rfl) ?_
      refine T.pure (.agg #[.int .i64 0, .int .i64 0, .int .i64 0, .bool true, .bool false, .string (ByteArray.mk #[98]), .string (ByteArray.mk #[])]) (by kernel_rfl) (fun _ => by kernel_rfl) ?_
      refine T.step (W1.new 44 [.int .i64 0, .int .i64 0, .int .i64 0, .bool true, .bool false, .string (ByteArray.mk #[98]), .string (ByteArray.mk #[])] (fun b => .slice (some ⟨b, 0, none⟩) 1 1) (by kernel_rfl) (fun _ => by kernel_rfl) (fun b2 => ?_))
      obtain ⟨r2, hb2, hX1⟩ := Option.bind_eq_some_iff.1 hX1
      refine T.step (W1.call (vSc eBool) r2 37 #[.slice A4 r1.1.length c4, .slice (some ⟨b2, 0, none⟩) 1 1] (by kernel_rfl) (fun _ => by kernel_rfl) (fun w' hh => slices_Equal_Change_l F r1.1 [(DChange.mk (DKey.mk 0 0 0) true false (ByteArray.mk #[98]) (ByteArray.mk #[]))] r2 hb2 w' A4 c4 (SlOk.mono (SlOk.mono hs4 (View.le_trans (made_le _ _) (View.le_refl _))) hh.view) (some ⟨b2, 0, none⟩) 1 (slok_lit (E := eChange) (f := DChange.cells) [(DChange.mk (DKey.mk 0 0 0) true false (ByteArray.mk #[98]) (ByteArray.mk #[]))] (fun _ _ => rfl) (Nat.le_of_ble_eq_true (by rfl)) (fun j => hh.cellBox (i := 0) (by rfl) j))) ?_)
      intro u V3 hV3 hu
      obtain rfl := sureBool _ _ _ hu
      refine T.pure (.bool (!r2)) (by kernel_rfl) (fun _ => by kernel_rfl) ?_
      refine T.pure (.bool (!r2)) (by kernel_rfl) (fun _ => by kernel_rfl) ?_
      refine T.nil ?_
      cases hX1
      exact fun a w' hf hh => Exists.intro V3 (And.intro hV3 (And.intro (((((Fr.nil hf).pick hf 34 rfl).pick hf 2 rfl).pick hf 1 rfl).pick hf 0 rfl) (hh.sub (.cons _ (.cons _ List.Sublist.slnil)))))
    ·
      skip
      rw [hg1, cond_true] at hX1
      refine T.pass (by kernel_rfl) (by kernel_rfl) ?_
      refine T.pass (by kernel_rfl) (by kernel_rfl) ?_
      refine T.pass (by kernel_rfl) (by kernel_rfl) ?_
      refine T.pass (by kernel_rfl) (by kernel_rfl) ?_
      refine T.pass (by kernel_rfl) (by kernel_rfl) ?_
      refine T.pure (.bool true) (by kernel_rfl) (fun _ => by kernel_rfl) ?_
      refine T.nil ?_
      cases hX1
      exact fun a w' hf hh => Exists.intro V1 (And.intro (View.le_refl _) (And.intro (((((Fr.nil hf).pick hf 34 rfl).pick hf 2 rfl).pick hf 1 rfl).pick hf 0 rfl) (hh.sub (.cons _ List.Sublist.slnil))))
  ·
    rintro a w' ⟨V2, hV2, hf, hh⟩
    refine (?_ : T 96 w V2 [] [(0, .slice A1 p0.length c1), (1, .slice A2 p1.length c2), (2, .slice A3 p2.length c3), (34, .bool z1)] _) a w' hf hh
    clear hf hh
    refine T.cond z1 (by kernel_rfl) (by kernel_rfl) (fun hc1 => ?_) (fun hc1 => ?_)
    ·
      rw [hc1, cond_true] at hF
      refine T.seq ?_
      refine T.region ?_
      refine T.pure (.bool false) (by kernel_rfl) (fun _ => by kernel_rfl) ?_
      refine T.nil ?_
      cases hF
      refine T.ret rfl ?_
      exact T.ret1 rfl (ResIs.tmp rfl) fun w' hh => ⟨_, rfl, hh.below, (show _ from rfl)⟩
    ·
      rw [hc1, cond_false] at hF
      refine T.skip_code ?_
      obtain ⟨q1, hX2, hF⟩ := Option.bind_eq_some_iff.1 hF
      refine T.cut (fun a w' => q1 = Sum.inl () ∧ ∃ (V4 : View), View.le V2 V4 ∧ Fr 96 [(0, .slice A1 p0.length c1), (1, .slice A2 p1.length c2), (2, .slice A3 p2.length c3)] a ∧ Hp w V4 [] w') ?_ ?_
      ·
        refine T.seq ?_
        refine T.region ?_
        refine T.pure (.slice A1 p0.length c1) (by kernel_rfl) (fun _ => by kernel_rfl) ?_
        obtain ⟨r3, hb3, hX2⟩ := Option.bind_eq_some_iff.1 hX2
        refine T.step (W1.call (vT2 (vSc (eList eChange)) (vSc eInt)) r3 36 #[.slice A1 p0.length c1] (by kernel_rfl) (fun _ => by kernel_rfl) (fun w' hh => change_Back_l F p0 r3 hb3 w' A1 c1 (SlOk.mono (SlOk.mono hs1 (View.le_trans hV1 hV2)) hh.view)) ?_)
        intro u V5 hV5 hu
        obtain ⟨u3, u4, rfl, hu3, hu4⟩ := vT2_elim hu
        obtain ⟨A5, c5, rfl, hs5⟩ := vlist_elim hu3
        obtain rfl := sureInt _ _ _ hu4
        refine T.pure (.tuple #[.slice A5 r3.1.length c5, .int .i64 r3.2]) (by kernel_rfl) (fun _ => by kernel_rfl) ?_
        refine T.pure (.slice A5 r3.1.length c5) (by kernel_rfl) (fun _ => by kernel_rfl) ?_
        refine T.pure (.int .i64 r3.2) (by kernel_rfl) (fun _ => by kernel_rfl) ?_
        refine T.pure (.slice A5 r3.1.length c5) (by kernel_rfl) (fun _ => by kernel_rfl) ?_
        refine T.pure (.int .i64 r3.2) (by kernel_rfl) (fun _ => by kernel_rfl) ?_
        refine T.nil ?_
        refine T.seq ?_
        refine T.region ?_
        refine T.pure (.int .i64 r3.2) (by kernel_rfl) (fun _ => by kernel_rfl) ?_
        refine T.pure (.bool (r3.2 == 0)) (by kernel_rfl) (fun _ => by kernel_rfl) ?_
        refine T.nil ?_
        refine T.cond (r3.2 == 0) (by kernel_rfl) (by kernel_rfl) (fun hc2 => ?_) (fun hc2 => ?_)
        ·
          rw [hc2, cond_true] at hX2
          refine T.seq ?_
          refine T.region ?_
          refine T.pure (.slice A1 p0.length c1) (by kernel_rfl) (fun _ => by kernel_rfl) ?_
          refine T.pure (.slice A5 r3.1.length c5) (by kernel_rfl) (fun _ => by kernel_rfl) ?_
          obtain ⟨r4, hb4, hX2⟩ := Option.bind_eq_some_iff.1 hX2
          refine T.step (W1.call (vT2 (vSc (eList eChange)) (vSc eInt)) r4 38 #[.slice A1 p0.length c1, .slice A5 r3.1.length c5] (by kernel_rfl) (fun _ => by kernel_rfl) (fun w' hh => change_Then_l F p0 r3.1 r4 hb4 w' A1 c1 (SlOk.mono (SlOk.mono hs1 (View.le_trans (View.le_trans hV1 hV2) hV5)) hh.view) A5 c5 (SlOk.mono (SlOk.mono hs5 (View.le_trans (made_le _ _) (View.le_refl _))) hh.view)) ?_)
          intro u V6 hV6 hu
          obtain ⟨u5, u6, rfl, hu5, hu6⟩ := vT2_elim hu
          obtain ⟨A6, c6, rfl, hs6⟩ := vlist_elim hu5
          obtain rfl := sureInt _ _ _ hu6
          refine T.pure (.tuple #[.slice A6 r4.1.length c6, .int .i64 r4.2]) (by kernel_rfl) (fun _ => by kernel_rfl) ?_
          refine T.pure (.slice A6 r4.1.length c6) (by kernel_rfl) (fun _ => by kernel_rfl) ?_
          refine T.pure (.int .i64 r4.2) (by kernel_rfl) (fun _ => by kernel_rfl) ?_
          refine T.pure (.slice A6 r4.1.length c6) (by kernel_rfl) (fun _ => by kernel_rfl) ?_
          refine T.pure (.int .i64 r4.2) (by kernel_rfl) (fun _ => by kernel_rfl) ?_
          refine T.nil ?_
          refine T.cut (fun a w' => Fr 96 [(0, .slice A1 p0.length c1), (1, .slice A2 p1.length c2), (2, .slice A3 p2.length c3), (54, .bool ((r4.2 != 0) || ((r4.1.length : Int) != 0)))] a ∧ Hp w V6 [] w') ?_ ?_
          ·
            refine T.region ?_
            refine T.pure (.int .i64 r4.2) (by kernel_rfl) (fun _ => by kernel_rfl) ?_
            refine T.pure (.bool (r4.2 != 0)) (by kernel_rfl) (fun _ => by kernel_rfl) ?_
            refine T.pure (.bool (r4.2 != 0)) (by kernel_rfl) (fun _ => by kernel_rfl) ?_
            cases hg2 : (r4.2 != 0)
            ·
              skip
              refine T.pure (.slice A6 r4.1.length c6) (by kernel_rfl) (fun _ => by kernel_rfl) ?_
              refine T.pure (.int .i64 (r4.1.length : Int)) (by kernel_rfl) (fun _ => by kernel_rfl) ?_
              refine T.pure (.bool ((r4.1.length : Int) != 0)) (by kernel_rfl) (fun _ => by kernel_rfl) ?_
              refine T.pure (.bool ((r4.1.length : Int) != 0)) (by kernel_rfl) (fun _ => by kernel_rfl) ?_
              refine T.nil ?_
              exact fun a w' hf hh => And.intro (((((Fr.nil hf).pick hf 54 rfl).pick hf 2 rfl).pick hf 1 rfl).pick hf 0 rfl) (hh.sub List.Sublist.slnil)
            ·
              skip
              refine T.pass (by kernel_rfl) (by kernel_rfl) ?_
              refine T.pass (by kernel_rfl) (by kernel_rfl) ?_
              refine T.pass (by kernel_rfl) (by kernel_rfl) ?_
              refine T.pure (.bool true) (by kernel_rfl) (fun _ => by kernel_rfl) ?_
              refine T.nil ?_
              exact fun a w' hf hh => And.intro (((((Fr.nil hf).pick hf 54 rfl).pick hf 2 rfl).pick hf 1 rfl).pick hf 0 rfl) (hh.sub List.Sublist.slnil)
          ·
            rintro a w' ⟨hf, hh⟩
            refine (?_ : T 96 w V6 [] [(0, .slice A1 p0.length c1), (1, .slice A2 p1.length c2), (2, .slice A3 p2.length c3), (54, .bool ((r4.2 != 0) || ((r4.1.length : Int) != 0)))] _) a w' hf hh
            clear hf hh
            refine T.cond ((r4.2 != 0) || ((r4.1.length : Int) != 0)) (by kernel_rfl) (by kernel_rfl) (fun hc3 => ?_) (fun hc3 => ?_)
            ·
              rw [hc3, cond_true] at hX2
              refine T.seq ?_
              refine T.region ?_
              refine T.pure (.bool false) (by kernel_rfl) (fun _ => by kernel_rfl) ?_
              refine T.nil ?_
              cases hX2
              try dsimp only at hF
              cases hF
              refine T.ret rfl ?_
              exact T.ret1 rfl (ResIs.tmp rfl) fun w' hh => ⟨_, rfl, hh.below, (show _ from rfl)⟩
            ·
              rw [hc3, cond_false] at hX2
              refine T.skip_code ?_
              cases hX2
              exact fun a w' hf hh => And.intro rfl (Exists.intro V6 (And.intro (View.le_trans hV5 hV6) (And.intro ((((Fr.nil hf).pick hf 2 rfl).pick hf 1 rfl).pick hf 0 rfl) (hh.sub List.Sublist.slnil))))
        ·
          rw [hc2, cond_false] at hX2
          refine T.skip_code ?_
          cases hX2
          exact fun a w' hf hh => And.intro rfl (Exists.intro V5 (And.intro hV5 (And.intro ((((Fr.nil hf).pick hf 2 rfl).pick hf 1 rfl).pick hf 0 rfl) (hh.sub List.Sublist.slnil))))
      ·
        rintro a w' ⟨rfl, V4, hV4, hf, hh⟩
        try dsimp only at hF
        refine (?_ : T 96 w V4 [] [(0, .slice A1 p0.length c1), (1, .slice A2 p1.length c2), (2, .slice A3 p2.length c3)] _) a w' hf hh
        clear hf hh
        refine T.seq ?_
        refine T.region ?_
        refine T.pure (.slice A1 p0.length c1) (by kernel_rfl) (fun _ => by kernel_rfl) ?_
        refine T.pure (.slice A2 p1.length c2) (by kernel_rfl) (fun _ => by kernel_rfl) ?_
        obtain ⟨r5, hb5, hF⟩ := Option.bind_eq_some_iff.1 hF
        refine T.step (W1.call (vT2 (vSc (eList eChange)) (vSc eInt)) r5 38 #[.slice A1 p0.length c1, .slice A2 p1.length c2] (by kernel_rfl) (fun _ => by kernel_rfl) (fun w' hh => change_Then_l F p0 p1 r5 hb5 w' A1 c1 (SlOk.mono (SlOk.mono hs1 (View.le_trans (View.le_trans hV1 hV2) hV4)) hh.view) A2 c2 (SlOk.mono (SlOk.mono hs2 (View.le_trans (View.le_trans hV1 hV2) hV4)) hh.view)) ?_)
        intro u V7 hV7 hu
        obtain ⟨u7, u8, rfl, hu7, hu8⟩ := vT2_elim hu
        obtain ⟨A7, c7, rfl, hs7⟩ := vlist_elim hu7
        obtain rfl := sureInt _ _ _ hu8
        refine T.pure (.tuple #[.slice A7 r5.1.length c7, .int .i64 r5.2]) (by kernel_rfl) (fun _ => by kernel_rfl) ?_
        refine T.pure (.slice A7 r5.1.length c7) (by kernel_rfl) (fun _ => by kernel_rfl) ?_
        refine T.pure (.int .i64 r5.2) (by kernel_rfl) (fun _ => by kernel_rfl) ?_
        refine T.pure (.slice A7 r5.1.length c7) (by kernel_rfl) (fun _ => by kernel_rfl) ?_
        refine T.pure (.int .i64 r5.2) (by kernel_rfl) (fun _ => by kernel_rfl) ?_
        refine T.nil ?_
        refine T.seq ?_
        refine T.region ?_
        refine T.pure (.slice A2 p1.length c2) (by kernel_rfl) (fun _ => by kernel_rfl) ?_
        refine T.pure (.slice A3 p2.length c3) (by kernel_rfl) (fun _ => by kernel_rfl) ?_
        obtain ⟨r6, hb6, hF⟩ := Option.bind_eq_some_iff.1 hF
        refine T.step (W1.call (vT2 (vSc (eList eChange)) (vSc eInt)) r6 38 #[.slice A2 p1.length c2, .slice A3 p2.length c3] (by kernel_rfl) (fun _ => by kernel_rfl) (fun w' hh => change_Then_l F p1 p2 r6 hb6 w' A2 c2 (SlOk.mono (SlOk.mono hs2 (View.le_trans (View.le_trans (View.le_trans hV1 hV2) hV4) hV7)) hh.view) A3 c3 (SlOk.mono (SlOk.mono hs3 (View.le_trans (View.le_trans (View.le_trans hV1 hV2) hV4) hV7)) hh.view)) ?_)
        intro u V8 hV8 hu
        obtain ⟨u9, u10, rfl, hu9, hu10⟩ := vT2_elim hu
        obtain ⟨A8, c8, rfl, hs8⟩ := vlist_elim hu9
        obtain rfl := sureInt _ _ _ hu10
        refine T.pure (.tuple #[.slice A8 r6.1.length c8, .int .i64 r6.2]) (by kernel_rfl) (fun _ => by kernel_rfl) ?_
        refine T.pure (.slice A8 r6.1.length c8) (by kernel_rfl) (fun _ => by kernel_rfl) ?_
        refine T.pure (.int .i64 r6.2) (by kernel_rfl) (fun _ => by kernel_rfl) ?_
        refine T.pure (.slice A8 r6.1.length c8) (by kernel_rfl) (fun _ => by kernel_rfl) ?_
        refine T.pure (.int .i64 r6.2) (by kernel_rfl) (fun _ => by kernel_rfl) ?_
        refine T.nil ?_
        refine T.seq ?_
        refine T.cut (fun a w' => Fr 96 [(0, .slice A1 p0.length c1), (2, .slice A3 p2.length c3), (7, .slice A7 r5.1.length c7), (15, .slice A8 r6.1.length c8), (72, .bool ((r5.2 != 0) || (r6.2 != 0)))] a ∧ Hp w V8 [] w') ?_ ?_
        ·
          refine T.region ?_
          refine T.pure (.int .i64 r5.2) (by kernel_rfl) (fun _ => by kernel_rfl) ?_
          refine T.pure (.bool (r5.2 != 0)) (by kernel_rfl) (fun _ => by kernel_rfl) ?_
          refine T.pure (.bool (r5.2 != 0)) (by kernel_rfl) (fun _ => by kernel_rfl) ?_
          cases hg3 : (r5.2 != 0)
          ·
            skip
            refine T.pure (.int .i64 r6.2) (by kernel_rfl) (fun _ => by kernel_rfl) ?_
            refine T.pure (.bool (r6.2 != 0)) (by kernel_rfl) (fun _ => by kernel_rfl) ?_
            refine T.pure (.bool (r6.2 != 0)) (by kernel_rfl) (fun _ => by kernel_rfl) ?_
            refine T.nil ?_
            exact fun a w' hf hh => And.intro ((((((Fr.nil hf).pick hf 72 rfl).pick hf 15 rfl).pick hf 7 rfl).pick hf 2 rfl).pick hf 0 rfl) (hh.sub List.Sublist.slnil)
          ·
            skip
            refine T.pass (by kernel_rfl) (by kernel_rfl) ?_
            refine T.pass (by kernel_rfl) (by kernel_rfl) ?_
            refine T.pure (.bool true) (by kernel_rfl) (fun _ => by kernel_rfl) ?_
            refine T.nil ?_
            exact fun a w' hf hh => And.intro ((((((Fr.nil hf).pick hf 72 rfl).pick hf 15 rfl).pick hf 7 rfl).pick hf 2 rfl).pick hf 0 rfl) (hh.sub List.Sublist.slnil)
        ·
          rintro a w' ⟨hf, hh⟩
          refine (?_ : T 96 w V8 [] [(0, .slice A1 p0.length c1), (2, .slice A3 p2.length c3), (7, .slice A7 r5.1.length c7), (15, .slice A8 r6.1.length c8), (72, .bool ((r5.2 != 0) || (r6.2 != 0)))] _) a w' hf hh
          clear hf hh
          refine T.cond ((r5.2 != 0) || (r6.2 != 0)) (by kernel_rfl) (by kernel_rfl) (fun hc4 => ?_) (fun hc4 => ?_)
          ·
            rw [hc4, cond_true] at hF
            refine T.seq ?_
            refine T.region ?_
            refine T.pure (.bool true) (by kernel_rfl) (fun _ => by kernel_rfl) ?_
            refine T.nil ?_
            cases hF
            refine T.ret rfl ?_
            exact T.ret1 rfl (ResIs.tmp rfl) fun w' hh => ⟨_, rfl, hh.below, (show _ from rfl)⟩
          ·
            rw [hc4, cond_false] at hF
            refine T.skip_code ?_
            refine T.seq ?_
            refine T.region ?_
            refine T.pure (.slice A7 r5.1.length c7) (by kernel_rfl) (fun _ => by kernel_rfl) ?_
            refine T.pure (.slice A3 p2.length c3) (by kernel_rfl) (fun _ => by kernel_rfl) ?_
            obtain ⟨r7, hb7, hF⟩ := Option.bind_eq_some_iff.1 hF
            refine T.step (W1.call (vT2 (vSc (eList eChange)) (vSc eInt)) r7 38 #[.slice A7 r5.1.length c7, .slice A3 p2.length c3] (by kernel_rfl) (fun _ => by kernel_rfl) (fun w' hh => change_Then_l F r5.1 p2 r7 hb7 w' A7 c7 (SlOk.mono (SlOk.mono hs7 (View.le_trans (made_le _ _) hV8)) hh.view) A3 c3 (SlOk.mono (SlOk.mono hs3 (View.le_trans (View.le_trans (View.le_trans (View.le_trans hV1 hV2) hV4) hV7) hV8)) hh.view)) ?_)
            intro u V9 hV9 hu
            obtain ⟨u11, u12, rfl, hu11, hu12⟩ := vT2_elim hu
            obtain ⟨A9, c9, rfl, hs9⟩ := vlist_elim hu11
            obtain rfl := sureInt _ _ _ hu12
            refine T.pure (.tuple #[.slice A9 r7.1.length c9, .int .i64 r7.2]) (by kernel_rfl) (fun _ => by kernel_rfl) ?_
            refine T.pure (.slice A9 r7.1.length c9) (by kernel_rfl) (fun _ => by kernel_rfl) ?_
            refine T.pure (.int .i64 r7.2) (by kernel_rfl) (fun _ => by kernel_rfl) ?_
            refine T.pure (.slice A9 r7.1.length c9) (by kernel_rfl) (fun _ => by kernel_rfl) ?_
            refine T.pure (.int .i64 r7.2) (by kernel_rfl) (fun _ => by kernel_rfl) ?_
            refine T.nil ?_
            refine T.seq ?_
            refine T.region ?_
            refine T.pure (.slice A1 p0.length c1) (by kernel_rfl) (fun _ => by kernel_rfl) ?_
            refine T.pure (.slice A8 r6.1.length c8) (by kernel_rfl) (fun _ => by kernel_rfl) ?_
            obtain ⟨r8, hb8, hF⟩ := Option.bind_eq_some_iff.1 hF
            refine T.step (W1.call (vT2 (vSc (eList eChange)) (vSc eInt)) r8 38 #[.slice A1 p0.length c1, .slice A8 r6.1.length c8] (by kernel_rfl) (fun _ => by kernel_rfl) (fun w' hh => change_Then_l F p0 r6.1 r8 hb8 w' A1 c1 (SlOk.mono (SlOk.mono hs1 (View.le_trans (View.le_trans (View.le_trans (View.le_trans (View.le_trans hV1 hV2) hV4) hV7) hV8) hV9)) hh.view) A8 c8 (SlOk.mono (SlOk.mono hs8 (View.le_trans (made_le _ _) hV9)) hh.view)) ?_)
            intro u V10 hV10 hu
            obtain ⟨u13, u14, rfl, hu13, hu14⟩ := vT2_elim hu
            obtain ⟨A10, c10, rfl, hs10⟩ := vlist_elim hu13
            obtain rfl := sureInt _ _ _ hu14
            refine T.pure (.tuple #[.slice A10 r8.1.length c10, .int .i64 r8.2]) (by kernel_rfl) (fun _ => by kernel_rfl) ?_
            refine T.pure (.slice A10 r8.1.length c10) (by kernel_rfl) (fun _ => by kernel_rfl) ?_
            refine T.pure (.int .i64 r8.2) (by kernel_rfl) (fun _ => by kernel_rfl) ?_
            refine T.pure (.slice A10 r8.1.length c10) (by kernel_rfl) (fun _ => by kernel_rfl) ?_
            refine T.pure (.int .i64 r8.2) (by kernel_rfl) (fun _ => by kernel_rfl) ?_
            refine T.nil ?_
            obtain ⟨z2, hX3, hF⟩ := Option.bind_eq_some_iff.1 hF
            refine T.cut (fun a w' => ∃ (V11 : View), View.le V10 V11 ∧ Fr 96 [(6, .bool z2)] a ∧ Hp w V11 [] w') ?_ ?_
            ·
              refine T.region ?_
              refine T.pure (.int .i64 r7.2) (by kernel_rfl) (fun _ => by kernel_rfl) ?_
              refine T.pure (.bool (r7.2 != 0)) (by kernel_rfl) (fun _ => by kernel_rfl) ?_
              refine T.pure (.bool (r7.2 != 0)) (by kernel_rfl) (fun _ => by kernel_rfl) ?_
              cases hg4 : (r7.2 != 0)
              ·
                skip
                rw [hg4, cond_false] at hX3
                refine T.pure (.int .i64 r8.2) (by kernel_rfl) (fun _ => by kernel_rfl) ?_
                refine T.pure (.bool (r8.2 != 0)) (by kernel_rfl) (fun _ => by kernel_rfl) ?_
                refine T.pure (.bool (r8.2 != 0)) (by kernel_rfl) (fun _ => by kernel_rfl) ?_
                refine T.pure (.bool (r8.2 != 0)) (by kernel_rfl) (fun _ => by kernel_rfl) ?_
                cases hg5 : (r8.2 != 0)
                ·
                  skip
                  rw [hg5, cond_false] at hX3
                  refine T.pure (.slice A9 r7.1.length c9) (by kernel_rfl) (fun _ => by kernel_rfl) ?_
                  refine T.pure (.slice A10 r8.1.length c10) (by kernel_rfl) (fun _ => by kernel_rfl) ?_
                  obtain ⟨r9, hb9, hX3⟩ := Option.bind_eq_some_iff.1 hX3
                  refine T.step (W1.call (vSc eBool) r9 37 #[.slice A9 r7.1.length c9, .slice A10 r8.1.length c10] (by kernel_rfl) (fun _ => by kernel_rfl) (fun w' hh => slices_Equal_Change_l F r7.1 r8.1 r9 hb9 w' A9 c9 (SlOk.mono (SlOk.mono hs9 (View.le_trans (made_le _ _) hV10)) hh.view) A10 c10 (SlOk.mono (SlOk.mono hs10 (View.le_trans (made_le _ _) (View.le_refl _))) hh.view)) ?_)
                  intro u V12 hV12 hu
                  obtain rfl := sureBool _ _ _ hu
                  refine T.pure (.bool r9) (by kernel_rfl) (fun _ => by kernel_rfl) ?_
                  refine T.pure (.bool r9) (by kernel_rfl) (fun _ => by kernel_rfl) ?_
                  refine T.nil ?_
                  cases hX3
                  exact fun a w' hf hh => Exists.intro V12 (And.intro hV12 (And.intro ((Fr.nil hf).pick hf 6 rfl) (hh.sub List.Sublist.slnil)))
                ·
                  skip
                  rw [hg5, cond_true] at hX3
                  refine T.pass (by kernel_rfl) (by kernel_rfl) ?_
                  refine T.pass (by kernel_rfl) (by kernel_rfl) ?_
                  refine T.pass (by kernel_rfl) (by kernel_rfl) ?_
                  refine T.pure (.bool true) (by kernel_rfl) (fun _ => by kernel_rfl) ?_
                  refine T.pure (.bool true) (by kernel_rfl) (fun _ => by kernel_rfl) ?_
                  refine T.nil ?_
                  cases hX3
                  exact fun a w' hf hh => Exists.intro V10 (And.intro (View.le_refl _) (And.intro ((Fr.nil hf).pick hf 6 rfl) (hh.sub List.Sublist.slnil)))
              ·
                skip
                rw [hg4, cond_true] at hX3
                refine T.pass (by kernel_rfl) (by kernel_rfl) ?_
                refine T.pass (by kernel_rfl) (by kernel_rfl) ?_
                refine T.pure (.bool true) (by kernel_rfl) (fun _ => by kernel_rfl) ?_
                refine T.pure (.bool true) (by kernel_rfl) (fun _ => by kernel_rfl) ?_
                refine T.pass (by kernel_rfl) (by kernel_rfl) ?_
                refine T.pass (by kernel_rfl) (by kernel_rfl) ?_
                refine T.pass (by kernel_rfl) (by kernel_rfl) ?_
                refine T.pure (.bool true) (by kernel_rfl) (fun _ => by kernel_rfl) ?_
                refine T.pure (.bool true) (by kernel_rfl) (fun _ => by kernel_rfl) ?_
                refine T.nil ?_
                cases hX3
                exact fun a w' hf hh => Exists.intro V10 (And.intro (View.le_refl _) (And.intro ((Fr.nil hf).pick hf 6 rfl) (hh.sub List.Sublist.slnil)))
            ·
              rintro a w' ⟨V11, hV11, hf, hh⟩
              refine (?_ : T 96 w V11 [] [(6, .bool z2)] _) a w' hf hh
              clear hf hh
              cases hF
              refine T.ret rfl ?_
              exact T.ret1 rfl (ResIs.tmp rfl) fun w' hh => ⟨_, rfl, hh.below, (show _ from rfl)⟩

end Go.Proofs.Ytiaoncjkfgebdaa
