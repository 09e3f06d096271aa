/- The Go functions of group WChangeUndone compute the pure functions of that group: written by walkgen.py. Condition of each: the pure function yields a result. -/
import Derived.Test.YtiaoncjkfgebdaaChangeL
import Derived.Test.YtiaoncjkfgebdaaEqsL
import Derived.Test.YtiaoncjkfgebdaaWChangeUndoneF
import Derived.Test.YtiaoncjkfgebdaaEqL
namespace Go.Proofs.Ytiaoncjkfgebdaa
set_option linter.unusedVariables false

set_option maxRecDepth 100000 in
set_option maxHeartbeats 4000000 in
theorem annalkeep_ChangeUndone_l (F : Nat) (p0 : (List DElem)) (p1 : (List DChange)) (p2 : Int) (r : Bool) (hF : annalkeep_ChangeUndone F p0 p1 p2 = some r) (w : World) (A1 : Option Addr) (c1 : Nat) (hs1 : SlOk (vw w) eElem A1 c1 p0) (A2 : Option Addr) (c2 : Nat) (hs2 : SlOk (vw w) eChange A2 c2 p1) :
    Calls Try.prog 24 #[.slice A1 p0.length c1, .slice A2 p1.length c2, .int .i64 p2] w (Post (vSc eBool) r w) := by
  unfold annalkeep_ChangeUndone at hF
  refine T.start (l := [.slice A1 p0.length c1, .slice A2 p1.length c2, .int .i64 p2]) Try.func24 rfl rfl rfl ?_
  refine T.seq ?_
  refine T.region ?_
  refine T.pure (.bool false) (by kernel_rfl) (fun _ => by kernel_rfl) ?_
  refine T.nil ?_
  refine T.seq ?_
  refine T.seq ?_
  refine T.region ?_
  refine T.pure (.agg #[.int .i64 0, .int .i64 0, .int .i64 0, .bool false, .bool true, .string (ByteArray.mk #[]), .string (ByteArray.mk #[98])]) (by kernel_rfl) (fun _ => by kernel_rfl) ?_
  refine T.step (W1.new 44 [.int .i64 0, .int .i64 0, .int .i64 0, .bool false, .bool true, .string (ByteArray.mk #[]), .string (ByteArray.mk #[98])] (fun b => .slice (some ⟨b, 0, none⟩) 1 1) (by kernel_rfl) (fun _ => by kernel_rfl) (fun b1 => ?_))
  obtain ⟨r1, hb1, hF⟩ := Option.bind_eq_some_iff.1 hF
  refine T.step (W1.call (vT2 (vSc (eList eElem)) (vSc eInt)) r1 66 #[.slice none 0 0, .slice (some ⟨b1, 0, none⟩) 1 1, .int .i64 1] (by kernel_rfl) (fun _ => by kernel_rfl) (fun w' hh => change_Do_l F ([] : List DElem) [(DChange.mk (DKey.mk 0 0 0) false true (ByteArray.mk #[]) (ByteArray.mk #[98]))] 1 r1 hb1 w' none 0 (SlOk.nil _ _) (some ⟨b1, 0, none⟩) 1 (slok_lit (E := eChange) (f := DChange.cells) [(DChange.mk (DKey.mk 0 0 0) false true (ByteArray.mk #[]) (ByteArray.mk #[98]))] (fun _ _ => rfl) (Nat.le_of_ble_eq_true (by rfl)) (fun j => hh.cellBox (i := 0) (by rfl) j))) ?_)
  intro u V1 hV1 hu
  obtain ⟨u1, u2, rfl, hu1, hu2⟩ := vT2_elim hu
  obtain ⟨A3, c3, rfl, hs3⟩ := vlist_elim hu1
  obtain rfl := sureInt _ _ _ hu2
  refine T.pure (.tuple #[.slice A3 r1.1.length c3, .int .i64 r1.2]) (by kernel_rfl) (fun _ => by kernel_rfl) ?_
  refine T.pure (.slice A3 r1.1.length c3) (by kernel_rfl) (fun _ => by kernel_rfl) ?_
  refine T.pure (.int .i64 r1.2) (by kernel_rfl) (fun _ => by kernel_rfl) ?_
  refine T.pure (.slice A3 r1.1.length c3) (by kernel_rfl) (fun _ => by kernel_rfl) ?_
  refine T.pure (.int .i64 r1.2) (by kernel_rfl) (fun _ => by kernel_rfl) ?_
  refine T.nil ?_
  refine T.cut (fun a w' => Fr 127 [(0, .slice A1 p0.length c1), (1, .slice A2 p1.length c2), (2, .int .i64 p2), (34, .bool ((r1.2 != 0) || ((r1.1.length : Int) != 1)))] a ∧ Hp w V1 [] w') ?_ ?_
  ·
    refine T.region ?_
    refine T.pure (.int .i64 r1.2) (by kernel_rfl) (fun _ => by kernel_rfl) ?_
    refine T.pure (.bool (r1.2 != 0)) (by kernel_rfl) (fun _ => by kernel_rfl) ?_
    refine T.pure (.bool (r1.2 != 0)) (by kernel_rfl) (fun _ => by kernel_rfl) ?_
    cases hg1 : (r1.2 != 0)
    ·
      skip
      refine T.pure (.slice A3 r1.1.length c3) (by kernel_rfl) (fun _ => by kernel_rfl) ?_
      refine T.pure (.int .i64 (r1.1.length : Int)) (by kernel_rfl) (fun _ => by kernel_rfl) ?_
      refine T.pure (.bool ((r1.1.length : Int) != 1)) (by kernel_rfl) (fun _ => by kernel_rfl) ?_
      refine T.pure (.bool ((r1.1.length : Int) != 1)) (by kernel_rfl) (fun _ => by kernel_rfl) ?_
      refine T.nil ?_
      exact fun a w' hf hh => And.intro (((((Fr.nil hf).pick hf 34 rfl).pick hf 2 rfl).pick hf 1 rfl).pick hf 0 rfl) (hh.sub (.cons _ List.Sublist.slnil))
    ·
      skip
      refine T.pass (by kernel_rfl) (by kernel_rfl) ?_
      refine T.pass (by kernel_rfl) (by kernel_rfl) ?_
      refine T.pass (by kernel_rfl) (by kernel_rfl) ?_
      refine T.pure (.bool true) (by kernel_rfl) (fun _ => by kernel_rfl) ?_
      refine T.nil ?_
      exact fun a w' hf hh => And.intro (((((Fr.nil hf).pick hf 34 rfl).pick hf 2 rfl).pick hf 1 rfl).pick hf 0 rfl) (hh.sub (.cons _ List.Sublist.slnil))
  ·
    rintro a w' ⟨hf, hh⟩
    refine (?_ : T 127 w V1 [] [(0, .slice A1 p0.length c1), (1, .slice A2 p1.length c2), (2, .int .i64 p2), (34, .bool ((r1.2 != 0) || ((r1.1.length : Int) != 1)))] _) a w' hf hh
    clear hf hh
    refine T.cond ((r1.2 != 0) || ((r1.1.length : Int) != 1)) (by kernel_rfl) (by kernel_rfl) (fun hc1 => ?_) (fun hc1 => ?_)
    ·
      rw [hc1, cond_true] at hF
      refine T.seq ?_
      refine T.region ?_
      refine T.pure (.bool false) (by kernel_rfl) (fun _ => by kernel_rfl) ?_
      refine T.nil ?_
      cases hF
      refine T.ret rfl ?_
      exact T.ret1 rfl (ResIs.tmp rfl) fun w' hh => ⟨_, rfl, hh.below, (show _ from rfl)⟩
    ·
      rw [hc1, cond_false] at hF
      refine T.skip_code ?_
      refine T.seq ?_
      refine T.region ?_
      refine T.pure (.slice A1 p0.length c1) (by kernel_rfl) (fun _ => by kernel_rfl) ?_
      refine T.pure (.slice A2 p1.length c2) (by kernel_rfl) (fun _ => by kernel_rfl) ?_
      refine T.pure (.int .i64 p2) (by kernel_rfl) (fun _ => by kernel_rfl) ?_
      obtain ⟨r2, hb2, hF⟩ := Option.bind_eq_some_iff.1 hF
      refine T.step (W1.call (vT2 (vSc (eList eElem)) (vSc eInt)) r2 66 #[.slice A1 p0.length c1, .slice A2 p1.length c2, .int .i64 p2] (by kernel_rfl) (fun _ => by kernel_rfl) (fun w' hh => change_Do_l F p0 p1 p2 r2 hb2 w' A1 c1 (SlOk.mono (SlOk.mono hs1 hV1) hh.view) A2 c2 (SlOk.mono (SlOk.mono hs2 hV1) hh.view)) ?_)
      intro u V2 hV2 hu
      obtain ⟨u3, u4, rfl, hu3, hu4⟩ := vT2_elim hu
      obtain ⟨A4, c4, rfl, hs4⟩ := vlist_elim hu3
      obtain rfl := sureInt _ _ _ hu4
      refine T.pure (.tuple #[.slice A4 r2.1.length c4, .int .i64 r2.2]) (by kernel_rfl) (fun _ => by kernel_rfl) ?_
      refine T.pure (.slice A4 r2.1.length c4) (by kernel_rfl) (fun _ => by kernel_rfl) ?_
      refine T.pure (.int .i64 r2.2) (by kernel_rfl) (fun _ => by kernel_rfl) ?_
      refine T.pure (.slice A4 r2.1.length c4) (by kernel_rfl) (fun _ => by kernel_rfl) ?_
      refine T.pure (.int .i64 r2.2) (by kernel_rfl) (fun _ => by kernel_rfl) ?_
      refine T.nil ?_
      refine T.seq ?_
      refine T.seq ?_
      refine T.region ?_
      refine T.pure (.int .i64 r2.2) (by kernel_rfl) (fun _ => by kernel_rfl) ?_
      refine T.pure (.bool (r2.2 != 0)) (by kernel_rfl) (fun _ => by kernel_rfl) ?_
      refine T.nil ?_
      refine T.cond (r2.2 != 0) (by kernel_rfl) (by kernel_rfl) (fun hc2 => ?_) (fun hc2 => ?_)
      ·
        rw [hc2, cond_true] at hF
        refine T.seq ?_
        refine T.region ?_
        refine T.pure (.slice A4 r2.1.length c4) (by kernel_rfl) (fun _ => by kernel_rfl) ?_
        refine T.pure (.int .i64 (r2.1.length : Int)) (by kernel_rfl) (fun _ => by kernel_rfl) ?_
        refine T.pure (.bool ((r2.1.length : Int) == 0)) (by kernel_rfl) (fun _ => by kernel_rfl) ?_
        refine T.pure (.bool ((r2.1.length : Int) == 0)) (by kernel_rfl) (fun _ => by kernel_rfl) ?_
        refine T.nil ?_
        cases hF
        refine T.ret rfl ?_
        exact T.ret1 rfl (ResIs.tmp rfl) fun w' hh => ⟨_, rfl, hh.below, (show _ from rfl)⟩
      ·
        rw [hc2, cond_false] at hF
        refine T.skip_code ?_
        refine T.seq ?_
        refine T.region ?_
        refine T.pure (.slice A4 r2.1.length c4) (by kernel_rfl) (fun _ => by kernel_rfl) ?_
        refine T.pure (.int .i64 p2) (by kernel_rfl) (fun _ => by kernel_rfl) ?_
        refine T.pure (.int .i64 (IntKind.i64.wrap (p2 - 1))) (by kernel_rfl) (fun _ => by kernel_rfl) ?_
        refine T.pure (.int .i64 p2) (by kernel_rfl) (fun _ => by kernel_rfl) ?_
        obtain ⟨r3, hb3, hF⟩ := Option.bind_eq_some_iff.1 hF
        refine T.step (W1.call (vT2 (vSc (eList eChange)) (vSc eInt)) r3 42 #[.slice A4 r2.1.length c4, .int .i64 (IntKind.i64.wrap (p2 - 1)), .int .i64 p2] (by kernel_rfl) (fun _ => by kernel_rfl) (fun w' hh => change_Between_l F r2.1 (IntKind.i64.wrap (p2 - 1)) p2 r3 hb3 w' A4 c4 (SlOk.mono (SlOk.mono hs4 (View.le_trans (made_le _ _) (View.le_refl _))) hh.view)) ?_)
        intro u V3 hV3 hu
        obtain ⟨u5, u6, rfl, hu5, hu6⟩ := vT2_elim hu
        obtain ⟨A5, c5, rfl, hs5⟩ := vlist_elim hu5
        obtain rfl := sureInt _ _ _ hu6
        refine T.pure (.tuple #[.slice A5 r3.1.length c5, .int .i64 r3.2]) (by kernel_rfl) (fun _ => by kernel_rfl) ?_
        refine T.pure (.slice A5 r3.1.length c5) (by kernel_rfl) (fun _ => by kernel_rfl) ?_
        refine T.pure (.int .i64 r3.2) (by kernel_rfl) (fun _ => by kernel_rfl) ?_
        refine T.pure (.slice A5 r3.1.length c5) (by kernel_rfl) (fun _ => by kernel_rfl) ?_
        refine T.pure (.int .i64 r3.2) (by kernel_rfl) (fun _ => by kernel_rfl) ?_
        refine T.nil ?_
        refine T.seq ?_
        refine T.region ?_
        refine T.pure (.slice A2 p1.length c2) (by kernel_rfl) (fun _ => by kernel_rfl) ?_
        obtain ⟨r4, hb4, hF⟩ := Option.bind_eq_some_iff.1 hF
        refine T.step (W1.call (vT2 (vSc (eList eChange)) (vSc eInt)) r4 36 #[.slice A2 p1.length c2] (by kernel_rfl) (fun _ => by kernel_rfl) (fun w' hh => change_Back_l F p1 r4 hb4 w' A2 c2 (SlOk.mono (SlOk.mono hs2 (View.le_trans (View.le_trans hV1 hV2) hV3)) hh.view)) ?_)
        intro u V4 hV4 hu
        obtain ⟨u7, u8, rfl, hu7, hu8⟩ := vT2_elim hu
        obtain ⟨A6, c6, rfl, hs6⟩ := vlist_elim hu7
        obtain rfl := sureInt _ _ _ hu8
        refine T.pure (.tuple #[.slice A6 r4.1.length c6, .int .i64 r4.2]) (by kernel_rfl) (fun _ => by kernel_rfl) ?_
        refine T.pure (.slice A6 r4.1.length c6) (by kernel_rfl) (fun _ => by kernel_rfl) ?_
        refine T.pure (.int .i64 r4.2) (by kernel_rfl) (fun _ => by kernel_rfl) ?_
        refine T.pure (.slice A6 r4.1.length c6) (by kernel_rfl) (fun _ => by kernel_rfl) ?_
        refine T.pure (.int .i64 r4.2) (by kernel_rfl) (fun _ => by kernel_rfl) ?_
        refine T.nil ?_
        refine T.seq ?_
        refine T.cut (fun a w' => Fr 127 [(0, .slice A1 p0.length c1), (1, .slice A2 p1.length c2), (2, .int .i64 p2), (9, .slice A4 r2.1.length c4), (11, .slice A5 r3.1.length c5), (12, .slice A6 r4.1.length c6), (65, .bool ((r3.2 != 0) || (r4.2 != 0)))] a ∧ Hp w V4 [] w') ?_ ?_
        ·
          refine T.region ?_
          refine T.pure (.int .i64 r3.2) (by kernel_rfl) (fun _ => by kernel_rfl) ?_
          refine T.pure (.bool (r3.2 != 0)) (by kernel_rfl) (fun _ => by kernel_rfl) ?_
          refine T.pure (.bool (r3.2 != 0)) (by kernel_rfl) (fun _ => by kernel_rfl) ?_
          cases hg2 : (r3.2 != 0)
          ·
            skip
            refine T.pure (.int .i64 r4.2) (by kernel_rfl) (fun _ => by kernel_rfl) ?_
            refine T.pure (.bool (r4.2 != 0)) (by kernel_rfl) (fun _ => by kernel_rfl) ?_
            refine T.pure (.bool (r4.2 != 0)) (by kernel_rfl) (fun _ => by kernel_rfl) ?_
            refine T.nil ?_
            exact fun a w' hf hh => And.intro ((((((((Fr.nil hf).pick hf 65 rfl).pick hf 12 rfl).pick hf 11 rfl).pick hf 9 rfl).pick hf 2 rfl).pick hf 1 rfl).pick hf 0 rfl) (hh.sub List.Sublist.slnil)
          ·
            skip
            refine T.pass (by kernel_rfl) (by kernel_rfl) ?_
            refine T.pass (by kernel_rfl) (by kernel_rfl) ?_
            refine T.pure (.bool true) (by kernel_rfl) (fun _ => by kernel_rfl) ?_
            refine T.nil ?_
            exact fun a w' hf hh => And.intro ((((((((Fr.nil hf).pick hf 65 rfl).pick hf 12 rfl).pick hf 11 rfl).pick hf 9 rfl).pick hf 2 rfl).pick hf 1 rfl).pick hf 0 rfl) (hh.sub List.Sublist.slnil)
        ·
          rintro a w' ⟨hf, hh⟩
          refine (?_ : T 127 w V4 [] [(0, .slice A1 p0.length c1), (1, .slice A2 p1.length c2), (2, .int .i64 p2), (9, .slice A4 r2.1.length c4), (11, .slice A5 r3.1.length c5), (12, .slice A6 r4.1.length c6), (65, .bool ((r3.2 != 0) || (r4.2 != 0)))] _) a w' hf hh
          clear hf hh
          refine T.cond ((r3.2 != 0) || (r4.2 != 0)) (by kernel_rfl) (by kernel_rfl) (fun hc3 => ?_) (fun hc3 => ?_)
          ·
            rw [hc3, cond_true] at hF
            refine T.seq ?_
            refine T.region ?_
            refine T.pure (.bool false) (by kernel_rfl) (fun _ => by kernel_rfl) ?_
            refine T.nil ?_
            cases hF
            refine T.ret rfl ?_
            exact T.ret1 rfl (ResIs.tmp rfl) fun w' hh => ⟨_, rfl, hh.below, (show _ from rfl)⟩
          ·
            rw [hc3, cond_false] at hF
            refine T.skip_code ?_
            refine T.seq ?_
            refine T.region ?_
            refine T.pure (.slice A4 r2.1.length c4) (by kernel_rfl) (fun _ => by kernel_rfl) ?_
            refine T.pure (.slice A6 r4.1.length c6) (by kernel_rfl) (fun _ => by kernel_rfl) ?_
            refine T.pure (.int .i64 p2) (by kernel_rfl) (fun _ => by kernel_rfl) ?_
            refine T.pure (.int .i64 (IntKind.i64.wrap (p2 + 1))) (by kernel_rfl) (fun _ => by kernel_rfl) ?_
            refine T.pure (.int .i64 (if (2147483647 : Int) < (IntKind.i64.wrap (p2 + 1)) then 2147483647 else IntKind.i64.wrap (p2 + 1))) (by kernel_rfl) (fun _ => by kernel_rfl) ?_
            obtain ⟨r5, hb5, hF⟩ := Option.bind_eq_some_iff.1 hF
            refine T.step (W1.call (vT2 (vSc (eList eElem)) (vSc eInt)) r5 66 #[.slice A4 r2.1.length c4, .slice A6 r4.1.length c6, .int .i64 (if (2147483647 : Int) < (IntKind.i64.wrap (p2 + 1)) then 2147483647 else IntKind.i64.wrap (p2 + 1))] (by kernel_rfl) (fun _ => by kernel_rfl) (fun w' hh => change_Do_l F r2.1 r4.1 (if (2147483647 : Int) < (IntKind.i64.wrap (p2 + 1)) then 2147483647 else IntKind.i64.wrap (p2 + 1)) r5 hb5 w' A4 c4 (SlOk.mono (SlOk.mono hs4 (View.le_trans (made_le _ _) (View.le_trans hV3 hV4))) hh.view) A6 c6 (SlOk.mono (SlOk.mono hs6 (View.le_trans (made_le _ _) (View.le_refl _))) hh.view)) ?_)
            intro u V5 hV5 hu
            obtain ⟨u9, u10, rfl, hu9, hu10⟩ := vT2_elim hu
            obtain ⟨A7, c7, rfl, hs7⟩ := vlist_elim hu9
            obtain rfl := sureInt _ _ _ hu10
            refine T.pure (.tuple #[.slice A7 r5.1.length c7, .int .i64 r5.2]) (by kernel_rfl) (fun _ => by kernel_rfl) ?_
            refine T.pure (.slice A7 r5.1.length c7) (by kernel_rfl) (fun _ => by kernel_rfl) ?_
            refine T.pure (.int .i64 r5.2) (by kernel_rfl) (fun _ => by kernel_rfl) ?_
            refine T.pure (.slice A7 r5.1.length c7) (by kernel_rfl) (fun _ => by kernel_rfl) ?_
            refine T.pure (.int .i64 r5.2) (by kernel_rfl) (fun _ => by kernel_rfl) ?_
            refine T.nil ?_
            refine T.seq ?_
            refine T.seq ?_
            refine T.region ?_
            refine T.pure (.int .i64 r5.2) (by kernel_rfl) (fun _ => by kernel_rfl) ?_
            refine T.pure (.bool (r5.2 != 0)) (by kernel_rfl) (fun _ => by kernel_rfl) ?_
            refine T.nil ?_
            refine T.cond (r5.2 != 0) (by kernel_rfl) (by kernel_rfl) (fun hc4 => ?_) (fun hc4 => ?_)
            ·
              rw [hc4, cond_true] at hF
              refine T.seq ?_
              refine T.region ?_
              refine T.pure (.int .i64 r5.2) (by kernel_rfl) (fun _ => by kernel_rfl) ?_
              refine T.pure (.bool (r5.2 == 8)) (by kernel_rfl) (fun _ => by kernel_rfl) ?_
              refine T.pure (.bool (r5.2 == 8)) (by kernel_rfl) (fun _ => by kernel_rfl) ?_
              refine T.nil ?_
              cases hF
              refine T.ret rfl ?_
              exact T.ret1 rfl (ResIs.tmp rfl) fun w' hh => ⟨_, rfl, hh.below, (show _ from rfl)⟩
            ·
              rw [hc4, cond_false] at hF
              refine T.skip_code ?_
              refine T.seq ?_
              refine T.seq ?_
              refine T.region ?_
              refine T.pure (.slice A2 p1.length c2) (by kernel_rfl) (fun _ => by kernel_rfl) ?_
              refine T.pure (.int .i64 (p1.length : Int)) (by kernel_rfl) (fun _ => by kernel_rfl) ?_
              refine T.pure (.int .i64 0) (by kernel_rfl) (fun _ => by kernel_rfl) ?_
              refine T.nil ?_
              obtain ⟨q1, hz1, hF⟩ := Option.bind_eq_some_iff.1 hF
              refine T.mid (fun a w' => q1 = Sum.inl () ∧ ∃ (V7 : View), View.le V5 V7 ∧ Fr 127 [(0, .slice A1 p0.length c1), (1, .slice A2 p1.length c2), (2, .int .i64 p2), (11, .slice A5 r3.1.length c5)] a ∧ Hp w V7 [] w') ?_ ?_
              ·
                refine T.block ?_
                refine T.iter (fun x1 a w' => ∃ (V6 : View), View.le V5 V6 ∧ Fr 127 [(0, .slice A1 p0.length c1), (1, .slice A2 p1.length c2), (2, .int .i64 p2), (11, .slice A5 r3.1.length c5), (14, .slice A7 r5.1.length c7), (79, .slice A2 p1.length c2), (80, .int .i64 (p1.length : Int)), (81, .int .i64 x1)] a ∧ Hp w V6 [] w') hz1 ?_ ?_
                ·
                  exact fun a w' hf hh => Exists.intro V5 (And.intro (View.le_refl _) (And.intro (((((((((Fr.nil hf).pick hf 81 rfl).pick hf 80 rfl).pick hf 79 rfl).pick hf 14 rfl).pick hf 11 rfl).pick hf 2 rfl).pick hf 1 rfl).pick hf 0 rfl) (hh.sub List.Sublist.slnil)))
                ·
                  rintro x1 y1 hY1 hr1 a w' ⟨V6, hV6, hf, hh⟩
                  refine (?_ : T 127 w V6 [] [(0, .slice A1 p0.length c1), (1, .slice A2 p1.length c2), (2, .int .i64 p2), (11, .slice A5 r3.1.length c5), (14, .slice A7 r5.1.length c7), (79, .slice A2 p1.length c2), (80, .int .i64 (p1.length : Int)), (81, .int .i64 x1)] _) a w' hf hh
                  clear hf hh
                  try dsimp only at hY1
                  refine T.seq ?_
                  refine T.region ?_
                  refine T.pure (.bool (decide (x1 < (p1.length : Int)))) (by kernel_rfl) (fun _ => by kernel_rfl) ?_
                  refine T.nil ?_
                  refine T.seq ?_
                  refine T.cond (decide (x1 < (p1.length : Int))) (by kernel_rfl) (by kernel_rfl) (fun hc5 => ?_) (fun hc5 => ?_)
                  ·
                    rw [hc5, cond_true] at hY1
                    refine T.skip_code ?_
                    refine T.seq ?_
                    refine T.block ?_
                    refine T.seq ?_
                    refine T.region ?_
                    obtain ⟨e1, hb6, hY1⟩ := Option.bind_eq_some_iff.1 hY1
                    obtain ⟨hi1, hi2, hi3⟩ := idx_some hb6
                    refine T.look (.pointer (some ((sadr A2).add (x1.toNat * 7)))) (by kernel_rfl) (fun w' hh => exec_indexAddr (e := 44) (s := 7) rfl rfl rfl (by kernel_rfl) (by kernel_rfl) hi1 hi2 ((SlOk.mono hs2 (View.le_trans (View.le_trans (View.le_trans (View.le_trans (View.le_trans hV1 hV2) hV3) hV4) hV5) hV6)).some_ hi3 (by decide))) ?_
                    refine T.look (.agg #[.int .i64 e1.key.pfs, .int .i64 e1.key.obj, .int .i64 e1.key.off, .bool e1.had, .bool e1.has, .string e1.was, .string e1.is_]) (by kernel_rfl) (fun w' hh => exec_loadN (cs := [.int .i64 e1.key.pfs, .int .i64 e1.key.obj, .int .i64 e1.key.off, .bool e1.had, .bool e1.has, .string e1.was, .string e1.is_]) rfl rfl (by kernel_rfl) (by kernel_rfl) (fun j u hj => (hh.cell_view (SlOk.cellF (E := eChange) (SlOk.mono hs2 (View.le_trans (View.le_trans (View.le_trans (View.le_trans (View.le_trans hV1 hV2) hV3) hV4) hV5) hV6)) hi3 j (fun _ _ _ h => h) hj)))) ?_
                    refine T.step (W1.new 44 [.int .i64 0, .int .i64 0, .int .i64 0, .bool false, .bool false, .string (ByteArray.mk #[]), .string (ByteArray.mk #[])] (fun b => .pointer (some ⟨b, 0, none⟩)) (by kernel_rfl) (fun _ => by kernel_rfl) (fun b2 => ?_))
                    refine T.step (W1.store 0 [.int .i64 e1.key.pfs, .int .i64 e1.key.obj, .int .i64 e1.key.off, .bool e1.had, .bool e1.has, .string e1.was, .string e1.is_] [box b2 44 [.int .i64 e1.key.pfs, .int .i64 e1.key.obj, .int .i64 e1.key.off, .bool e1.had, .bool e1.has, .string e1.was, .string e1.is_]] (by rfl) rfl (by kernel_rfl) (fun w' hw => exec_store (vs := [.int .i64 e1.key.pfs, .int .i64 e1.key.obj, .int .i64 e1.key.off, .bool e1.had, .bool e1.has, .string e1.was, .string e1.is_]) rfl rfl rfl rfl (by kernel_rfl) (one_of rfl) (by simp) rfl hw) ?_)
                    refine T.nil ?_
                    refine T.seq ?_
                    refine T.region ?_
                    refine T.pure (.slice A1 p0.length c1) (by kernel_rfl) (fun _ => by kernel_rfl) ?_
                    refine T.pure (.pointer (some ⟨b2, 0, none⟩)) (by kernel_rfl) (fun _ => by kernel_rfl) ?_
                    refine T.look (.agg #[.int .i64 e1.key.pfs, .int .i64 e1.key.obj, .int .i64 e1.key.off]) (by kernel_rfl) (fun w' hh => exec_loadN (cs := [.int .i64 e1.key.pfs, .int .i64 e1.key.obj, .int .i64 e1.key.off]) rfl rfl (by kernel_rfl) (by kernel_rfl) (fun j u hj => (hh.box_at (i := 0) (cs := [.int .i64 e1.key.pfs, .int .i64 e1.key.obj, .int .i64 e1.key.off, .bool e1.had, .bool e1.has, .string e1.was, .string e1.is_]) (by rfl) 0 j).trans (seg_at (n := 3) rfl hj))) ?_
                    obtain ⟨r6, hb7, hY1⟩ := Option.bind_eq_some_iff.1 hY1
                    refine T.step (W1.call (vT2 (vAg eElem) (vSc eInt)) r6 44 #[.slice A1 p0.length c1, .agg #[.int .i64 e1.key.pfs, .int .i64 e1.key.obj, .int .i64 e1.key.off], .int .i64 2147483647] (by kernel_rfl) (fun _ => by kernel_rfl) (fun w' hh => run_At_l F p0 e1.key 2147483647 r6 hb7 w' A1 c1 (SlOk.mono (SlOk.mono hs1 (View.le_trans (View.le_trans (View.le_trans (View.le_trans (View.le_trans hV1 hV2) hV3) hV4) hV5) hV6)) hh.view)) ?_)
                    intro u V8 hV8 hu
                    obtain rfl := (Sure.t2 sureElem sureInt) _ _ _ hu
                    refine T.pure (.tuple #[.agg #[.int .i64 r6.1.key.pfs, .int .i64 r6.1.key.obj, .int .i64 r6.1.key.off, .int .i64 r6.1.made, .int .i64 r6.1.gone, .string r6.1.val], .int .i64 r6.2]) (by kernel_rfl) (fun _ => by kernel_rfl) ?_
                    refine T.pure (.agg #[.int .i64 r6.1.key.pfs, .int .i64 r6.1.key.obj, .int .i64 r6.1.key.off, .int .i64 r6.1.made, .int .i64 r6.1.gone, .string r6.1.val]) (by kernel_rfl) (fun _ => by kernel_rfl) ?_
                    refine T.pure (.int .i64 r6.2) (by kernel_rfl) (fun _ => by kernel_rfl) ?_
                    refine T.step (W1.new 26 [.int .i64 0, .int .i64 0, .int .i64 0, .int .i64 0, .int .i64 0, .string (ByteArray.mk #[])] (fun b => .pointer (some ⟨b, 0, none⟩)) (by kernel_rfl) (fun _ => by kernel_rfl) (fun b3 => ?_))
                    refine T.step (W1.store 0 [.int .i64 r6.1.key.pfs, .int .i64 r6.1.key.obj, .int .i64 r6.1.key.off, .int .i64 r6.1.made, .int .i64 r6.1.gone, .string r6.1.val] [box b3 26 [.int .i64 r6.1.key.pfs, .int .i64 r6.1.key.obj, .int .i64 r6.1.key.off, .int .i64 r6.1.made, .int .i64 r6.1.gone, .string r6.1.val], box b2 44 [.int .i64 e1.key.pfs, .int .i64 e1.key.obj, .int .i64 e1.key.off, .bool e1.had, .bool e1.has, .string e1.was, .string e1.is_]] (by rfl) rfl (by kernel_rfl) (fun w' hw => exec_store (vs := [.int .i64 r6.1.key.pfs, .int .i64 r6.1.key.obj, .int .i64 r6.1.key.off, .int .i64 r6.1.made, .int .i64 r6.1.gone, .string r6.1.val]) rfl rfl rfl rfl (by kernel_rfl) (one_of rfl) (by simp) rfl hw) ?_)
                    refine T.pure (.int .i64 r6.2) (by kernel_rfl) (fun _ => by kernel_rfl) ?_
                    refine T.nil ?_
                    refine T.seq ?_
                    refine T.region ?_
                    refine T.pure (.slice A7 r5.1.length c7) (by kernel_rfl) (fun _ => by kernel_rfl) ?_
                    refine T.pure (.pointer (some ⟨b2, 0, none⟩)) (by kernel_rfl) (fun _ => by kernel_rfl) ?_
                    refine T.look (.agg #[.int .i64 e1.key.pfs, .int .i64 e1.key.obj, .int .i64 e1.key.off]) (by kernel_rfl) (fun w' hh => exec_loadN (cs := [.int .i64 e1.key.pfs, .int .i64 e1.key.obj, .int .i64 e1.key.off]) rfl rfl (by kernel_rfl) (by kernel_rfl) (fun j u hj => (hh.box_at (i := 1) (cs := [.int .i64 e1.key.pfs, .int .i64 e1.key.obj, .int .i64 e1.key.off, .bool e1.had, .bool e1.has, .string e1.was, .string e1.is_]) (by rfl) 0 j).trans (seg_at (n := 3) rfl hj))) ?_
                    obtain ⟨r7, hb8, hY1⟩ := Option.bind_eq_some_iff.1 hY1
                    refine T.step (W1.call (vT2 (vAg eElem) (vSc eInt)) r7 44 #[.slice A7 r5.1.length c7, .agg #[.int .i64 e1.key.pfs, .int .i64 e1.key.obj, .int .i64 e1.key.off], .int .i64 2147483647] (by kernel_rfl) (fun _ => by kernel_rfl) (fun w' hh => run_At_l F r5.1 e1.key 2147483647 r7 hb8 w' A7 c7 (SlOk.mono (SlOk.mono hs7 (View.le_trans (made_le _ _) (View.le_trans hV6 hV8))) hh.view)) ?_)
                    intro u V9 hV9 hu
                    obtain rfl := (Sure.t2 sureElem sureInt) _ _ _ hu
                    refine T.pure (.tuple #[.agg #[.int .i64 r7.1.key.pfs, .int .i64 r7.1.key.obj, .int .i64 r7.1.key.off, .int .i64 r7.1.made, .int .i64 r7.1.gone, .string r7.1.val], .int .i64 r7.2]) (by kernel_rfl) (fun _ => by kernel_rfl) ?_
                    refine T.pure (.agg #[.int .i64 r7.1.key.pfs, .int .i64 r7.1.key.obj, .int .i64 r7.1.key.off, .int .i64 r7.1.made, .int .i64 r7.1.gone, .string r7.1.val]) (by kernel_rfl) (fun _ => by kernel_rfl) ?_
                    refine T.pure (.int .i64 r7.2) (by kernel_rfl) (fun _ => by kernel_rfl) ?_
                    refine T.step (W1.new 26 [.int .i64 0, .int .i64 0, .int .i64 0, .int .i64 0, .int .i64 0, .string (ByteArray.mk #[])] (fun b => .pointer (some ⟨b, 0, none⟩)) (by kernel_rfl) (fun _ => by kernel_rfl) (fun b4 => ?_))
                    refine T.step (W1.store 0 [.int .i64 r7.1.key.pfs, .int .i64 r7.1.key.obj, .int .i64 r7.1.key.off, .int .i64 r7.1.made, .int .i64 r7.1.gone, .string r7.1.val] [box b4 26 [.int .i64 r7.1.key.pfs, .int .i64 r7.1.key.obj, .int .i64 r7.1.key.off, .int .i64 r7.1.made, .int .i64 r7.1.gone, .string r7.1.val], box b3 26 [.int .i64 r6.1.key.pfs, .int .i64 r6.1.key.obj, .int .i64 r6.1.key.off, .int .i64 r6.1.made, .int .i64 r6.1.gone, .string r6.1.val], box b2 44 [.int .i64 e1.key.pfs, .int .i64 e1.key.obj, .int .i64 e1.key.off, .bool e1.had, .bool e1.has, .string e1.was, .string e1.is_]] (by rfl) rfl (by kernel_rfl) (fun w' hw => exec_store (vs := [.int .i64 r7.1.key.pfs, .int .i64 r7.1.key.obj, .int .i64 r7.1.key.off, .int .i64 r7.1.made, .int .i64 r7.1.gone, .string r7.1.val]) rfl rfl rfl rfl (by kernel_rfl) (one_of rfl) (by simp) rfl hw) ?_)
                    refine T.pure (.int .i64 r7.2) (by kernel_rfl) (fun _ => by kernel_rfl) ?_
                    refine T.nil ?_
                    refine T.cut (fun a w' => Fr 127 [(0, .slice A1 p0.length c1), (1, .slice A2 p1.length c2), (2, .int .i64 p2), (11, .slice A5 r3.1.length c5), (14, .slice A7 r5.1.length c7), (79, .slice A2 p1.length c2), (80, .int .i64 (p1.length : Int)), (81, .int .i64 x1), (108, .bool ((r6.2 != r7.2) || (!(seq r6.1.val r7.1.val))))] a ∧ Hp w V9 [box b4 26 [.int .i64 r7.1.key.pfs, .int .i64 r7.1.key.obj, .int .i64 r7.1.key.off, .int .i64 r7.1.made, .int .i64 r7.1.gone, .string r7.1.val], box b3 26 [.int .i64 r6.1.key.pfs, .int .i64 r6.1.key.obj, .int .i64 r6.1.key.off, .int .i64 r6.1.made, .int .i64 r6.1.gone, .string r6.1.val]] w') ?_ ?_
                    ·
                      refine T.region ?_
                      refine T.pure (.int .i64 r6.2) (by kernel_rfl) (fun _ => by kernel_rfl) ?_
                      refine T.pure (.int .i64 r7.2) (by kernel_rfl) (fun _ => by kernel_rfl) ?_
                      refine T.pure (.bool (r6.2 != r7.2)) (by kernel_rfl) (fun _ => by kernel_rfl) ?_
                      refine T.pure (.bool (r6.2 != r7.2)) (by kernel_rfl) (fun _ => by kernel_rfl) ?_
                      cases hg3 : (r6.2 != r7.2)
                      ·
                        skip
                        refine T.pure (.pointer (some ⟨b3, 5, none⟩)) (by kernel_rfl) (fun _ => by kernel_rfl) ?_
                        refine T.look (.string r6.1.val) (by kernel_rfl) (fun w' hh => exec_load1 rfl rfl (by kernel_rfl) (hh.cellBox (i := 1) (by rfl) 5)) ?_
                        refine T.pure (.pointer (some ⟨b4, 5, none⟩)) (by kernel_rfl) (fun _ => by kernel_rfl) ?_
                        refine T.look (.string r7.1.val) (by kernel_rfl) (fun w' hh => exec_load1 rfl rfl (by kernel_rfl) (hh.cellBox (i := 0) (by rfl) 5)) ?_
                        refine T.pure (.bool (!(seq r6.1.val r7.1.val))) (by kernel_rfl) (fun _ => by kernel_rfl) ?_
                        refine T.pure (.bool (!(seq r6.1.val r7.1.val))) (by kernel_rfl) (fun _ => by kernel_rfl) ?_
                        refine T.nil ?_
                        exact fun a w' hf hh => And.intro ((((((((((Fr.nil hf).pick hf 108 rfl).pick hf 81 rfl).pick hf 80 rfl).pick hf 79 rfl).pick hf 14 rfl).pick hf 11 rfl).pick hf 2 rfl).pick hf 1 rfl).pick hf 0 rfl) (hh.sub (.cons_cons _ (.cons_cons _ (.cons _ List.Sublist.slnil))))
                      ·
                        skip
                        refine T.pass (by kernel_rfl) (by kernel_rfl) ?_
                        refine T.pass (by kernel_rfl) (by kernel_rfl) ?_
                        refine T.pass (by kernel_rfl) (by kernel_rfl) ?_
                        refine T.pass (by kernel_rfl) (by kernel_rfl) ?_
                        refine T.pass (by kernel_rfl) (by kernel_rfl) ?_
                        refine T.pure (.bool true) (by kernel_rfl) (fun _ => by kernel_rfl) ?_
                        refine T.nil ?_
                        exact fun a w' hf hh => And.intro ((((((((((Fr.nil hf).pick hf 108 rfl).pick hf 81 rfl).pick hf 80 rfl).pick hf 79 rfl).pick hf 14 rfl).pick hf 11 rfl).pick hf 2 rfl).pick hf 1 rfl).pick hf 0 rfl) (hh.sub (.cons_cons _ (.cons_cons _ (.cons _ List.Sublist.slnil))))
                    ·
                      rintro a w' ⟨hf, hh⟩
                      refine (?_ : T 127 w V9 [box b4 26 [.int .i64 r7.1.key.pfs, .int .i64 r7.1.key.obj, .int .i64 r7.1.key.off, .int .i64 r7.1.made, .int .i64 r7.1.gone, .string r7.1.val], box b3 26 [.int .i64 r6.1.key.pfs, .int .i64 r6.1.key.obj, .int .i64 r6.1.key.off, .int .i64 r6.1.made, .int .i64 r6.1.gone, .string r6.1.val]] [(0, .slice A1 p0.length c1), (1, .slice A2 p1.length c2), (2, .int .i64 p2), (11, .slice A5 r3.1.length c5), (14, .slice A7 r5.1.length c7), (79, .slice A2 p1.length c2), (80, .int .i64 (p1.length : Int)), (81, .int .i64 x1), (108, .bool ((r6.2 != r7.2) || (!(seq r6.1.val r7.1.val))))] _) a w' hf hh
                      clear hf hh
                      refine T.cond ((r6.2 != r7.2) || (!(seq r6.1.val r7.1.val))) (by kernel_rfl) (by kernel_rfl) (fun hc6 => ?_) (fun hc6 => ?_)
                      ·
                        rw [hc6, cond_true] at hY1
                        refine T.seq ?_
                        refine T.region ?_
                        refine T.pure (.bool false) (by kernel_rfl) (fun _ => by kernel_rfl) ?_
                        refine T.nil ?_
                        cases hY1
                        cases (hr1 _ rfl)
                        try dsimp only at hF
                        cases hF
                        refine T.ret rfl ?_
                        exact T.ret1 rfl (ResIs.tmp rfl) fun w' hh => ⟨_, rfl, hh.below, (show _ from rfl)⟩
                      ·
                        rw [hc6, cond_false] at hY1
                        refine T.skip_code ?_
                        refine T.region ?_
                        refine T.pure (.int .i64 (IntKind.i64.wrap (x1 + 1))) (by kernel_rfl) (fun _ => by kernel_rfl) ?_
                        refine T.pure (.int .i64 (IntKind.i64.wrap (x1 + 1))) (by kernel_rfl) (fun _ => by kernel_rfl) ?_
                        refine T.nil ?_
                        cases hY1
                        exact fun a w' hf hh => Exists.intro (IntKind.i64.wrap (x1 + 1)) (And.intro rfl (Exists.intro V9 (And.intro (View.le_trans (View.le_trans hV6 hV8) hV9) (And.intro (((((((((Fr.nil hf).pick hf 81 rfl).pick hf 80 rfl).pick hf 79 rfl).pick hf 14 rfl).pick hf 11 rfl).pick hf 2 rfl).pick hf 1 rfl).pick hf 0 rfl) (hh.sub (.cons _ (.cons _ List.Sublist.slnil)))))))
                  ·
                    rw [hc5, cond_false] at hY1
                    refine T.exit ?_
                    cases hY1
                    cases (hr1 _ rfl)
                    exact fun a w' hf hh => And.intro rfl (Exists.intro V6 (And.intro hV6 (And.intro (((((Fr.nil hf).pick hf 11 rfl).pick hf 2 rfl).pick hf 1 rfl).pick hf 0 rfl) (hh.sub List.Sublist.slnil))))
              ·
                rintro a w' ⟨rfl, V7, hV7, hf, hh⟩
                try dsimp only at hF
                refine (?_ : T 127 w V7 [] [(0, .slice A1 p0.length c1), (1, .slice A2 p1.length c2), (2, .int .i64 p2), (11, .slice A5 r3.1.length c5)] _) a w' hf hh
                clear hf hh
                refine T.seq ?_
                refine T.region ?_
                refine T.pure (.slice A1 p0.length c1) (by kernel_rfl) (fun _ => by kernel_rfl) ?_
                obtain ⟨r8, hb9, hF⟩ := Option.bind_eq_some_iff.1 hF
                refine T.step (W1.call (vT2 (vSc eInt) (vSc eInt)) r8 27 #[.slice A1 p0.length c1] (by kernel_rfl) (fun _ => by kernel_rfl) (fun w' hh => run_Last_l F p0 r8 hb9 w' A1 c1 (SlOk.mono (SlOk.mono hs1 (View.le_trans (View.le_trans (View.le_trans (View.le_trans (View.le_trans hV1 hV2) hV3) hV4) hV5) hV7)) hh.view)) ?_)
                intro u V10 hV10 hu
                obtain rfl := (Sure.t2 sureInt sureInt) _ _ _ hu
                refine T.pure (.tuple #[.int .i64 r8.1, .int .i64 r8.2]) (by kernel_rfl) (fun _ => by kernel_rfl) ?_
                refine T.pure (.int .i64 r8.1) (by kernel_rfl) (fun _ => by kernel_rfl) ?_
                refine T.pure (.int .i64 r8.2) (by kernel_rfl) (fun _ => by kernel_rfl) ?_
                refine T.pure (.int .i64 r8.1) (by kernel_rfl) (fun _ => by kernel_rfl) ?_
                refine T.pure (.int .i64 r8.2) (by kernel_rfl) (fun _ => by kernel_rfl) ?_
                refine T.nil ?_
                obtain ⟨z1, hX1, hF⟩ := Option.bind_eq_some_iff.1 hF
                refine T.cut (fun a w' => ∃ (V11 : View), View.le V10 V11 ∧ Fr 127 [(6, .bool z1)] a ∧ Hp w V11 [] w') ?_ ?_
                ·
                  refine T.region ?_
                  refine T.pure (.int .i64 r8.2) (by kernel_rfl) (fun _ => by kernel_rfl) ?_
                  refine T.pure (.bool (r8.2 == 0)) (by kernel_rfl) (fun _ => by kernel_rfl) ?_
                  refine T.pure (.bool (r8.2 == 0)) (by kernel_rfl) (fun _ => by kernel_rfl) ?_
                  cases hg4 : (r8.2 == 0)
                  ·
                    skip
                    rw [hg4, cond_false] at hX1
                    refine T.pass (by kernel_rfl) (by kernel_rfl) ?_
                    refine T.pass (by kernel_rfl) (by kernel_rfl) ?_
                    refine T.pass (by kernel_rfl) (by kernel_rfl) ?_
                    refine T.pass (by kernel_rfl) (by kernel_rfl) ?_
                    refine T.pass (by kernel_rfl) (by kernel_rfl) ?_
                    refine T.pass (by kernel_rfl) (by kernel_rfl) ?_
                    refine T.pass (by kernel_rfl) (by kernel_rfl) ?_
                    refine T.pass (by kernel_rfl) (by kernel_rfl) ?_
                    refine T.pure (.bool false) (by kernel_rfl) (fun _ => by kernel_rfl) ?_
                    refine T.pure (.bool false) (by kernel_rfl) (fun _ => by kernel_rfl) ?_
                    refine T.nil ?_
                    cases hX1
                    exact fun a w' hf hh => Exists.intro V10 (And.intro (View.le_refl _) (And.intro ((Fr.nil hf).pick hf 6 rfl) (hh.sub List.Sublist.slnil)))
                  ·
                    skip
                    rw [hg4, cond_true] at hX1
                    refine T.pure (.int .i64 r8.1) (by kernel_rfl) (fun _ => by kernel_rfl) ?_
                    refine T.pure (.int .i64 p2) (by kernel_rfl) (fun _ => by kernel_rfl) ?_
                    refine T.pure (.bool (r8.1 == p2)) (by kernel_rfl) (fun _ => by kernel_rfl) ?_
                    refine T.pure (.bool (r8.1 == p2)) (by kernel_rfl) (fun _ => by kernel_rfl) ?_
                    cases hg5 : (r8.1 == p2)
                    ·
                      skip
                      rw [hg5, cond_false] at hX1
                      refine T.pure (.slice A5 r3.1.length c5) (by kernel_rfl) (fun _ => by kernel_rfl) ?_
                      refine T.pure (.slice A2 p1.length c2) (by kernel_rfl) (fun _ => by kernel_rfl) ?_
                      obtain ⟨r9, hb10, hX1⟩ := Option.bind_eq_some_iff.1 hX1
                      refine T.step (W1.call (vSc eBool) r9 37 #[.slice A5 r3.1.length c5, .slice A2 p1.length c2] (by kernel_rfl) (fun _ => by kernel_rfl) (fun w' hh => slices_Equal_Change_l F r3.1 p1 r9 hb10 w' A5 c5 (SlOk.mono (SlOk.mono hs5 (View.le_trans (made_le _ _) (View.le_trans (View.le_trans (View.le_trans hV4 hV5) hV7) hV10))) hh.view) A2 c2 (SlOk.mono (SlOk.mono hs2 (View.le_trans (View.le_trans (View.le_trans (View.le_trans (View.le_trans (View.le_trans hV1 hV2) hV3) hV4) hV5) hV7) hV10)) hh.view)) ?_)
                      intro u V12 hV12 hu
                      obtain rfl := sureBool _ _ _ hu
                      refine T.pure (.bool r9) (by kernel_rfl) (fun _ => by kernel_rfl) ?_
                      refine T.pure (.bool r9) (by kernel_rfl) (fun _ => by kernel_rfl) ?_
                      refine T.pure (.bool r9) (by kernel_rfl) (fun _ => by kernel_rfl) ?_
                      refine T.nil ?_
                      cases hX1
                      exact fun a w' hf hh => Exists.intro V12 (And.intro hV12 (And.intro ((Fr.nil hf).pick hf 6 rfl) (hh.sub List.Sublist.slnil)))
                    ·
                      skip
                      rw [hg5, cond_true] at hX1
                      refine T.pass (by kernel_rfl) (by kernel_rfl) ?_
                      refine T.pass (by kernel_rfl) (by kernel_rfl) ?_
                      refine T.pass (by kernel_rfl) (by kernel_rfl) ?_
                      refine T.pure (.bool true) (by kernel_rfl) (fun _ => by kernel_rfl) ?_
                      refine T.pure (.bool true) (by kernel_rfl) (fun _ => by kernel_rfl) ?_
                      refine T.pure (.bool true) (by kernel_rfl) (fun _ => by kernel_rfl) ?_
                      refine T.nil ?_
                      cases hX1
                      exact fun a w' hf hh => Exists.intro V10 (And.intro (View.le_refl _) (And.intro ((Fr.nil hf).pick hf 6 rfl) (hh.sub List.Sublist.slnil)))
                ·
                  rintro a w' ⟨V11, hV11, hf, hh⟩
                  refine (?_ : T 127 w V11 [] [(6, .bool z1)] _) a w' hf hh
                  clear hf hh
                  cases hF
                  refine T.ret rfl ?_
                  exact T.ret1 rfl (ResIs.tmp rfl) fun w' hh => ⟨_, rfl, hh.below, (show _ from rfl)⟩

end Go.Proofs.Ytiaoncjkfgebdaa
