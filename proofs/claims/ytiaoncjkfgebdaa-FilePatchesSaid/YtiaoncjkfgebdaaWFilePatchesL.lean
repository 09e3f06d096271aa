/- The Go functions of group WFilePatches compute the pure functions of that group: written by walkgen.py. Condition of each: the pure function yields a result. -/
import Derived.Test.YtiaoncjkfgebdaaFileL
import Derived.Test.YtiaoncjkfgebdaaEqsL
import Derived.Test.YtiaoncjkfgebdaaWFilePatchesF
import Derived.Test.YtiaoncjkfgebdaaEqL
namespace Go.Proofs.Ytiaoncjkfgebdaa
set_option linter.unusedVariables false

set_option maxRecDepth 100000 in
set_option maxHeartbeats 4000000 in
theorem annalkeep_FilePatches_l (F : Nat) (p0 : (List DElem)) (p1 : Int) (p2 : Int) (p3 : Int) (p4 : ByteArray) (p5 : Int) (r : Bool) (hF : annalkeep_FilePatches F p0 p1 p2 p3 p4 p5 = some r) (w : World) (A1 : Option Addr) (c1 : Nat) (hs1 : SlOk (vw w) eElem A1 c1 p0) :
    Calls Try.prog 19 #[.slice A1 p0.length c1, .int .i64 p1, .int .i64 p2, .int .i64 p3, .string p4, .int .i64 p5] w (Post (vSc eBool) r w) := by
  unfold annalkeep_FilePatches at hF
  refine T.start (l := [.slice A1 p0.length c1, .int .i64 p1, .int .i64 p2, .int .i64 p3, .string p4, .int .i64 p5]) Try.func19 rfl rfl rfl ?_
  refine T.seq ?_
  refine T.region ?_
  refine T.pure (.bool false) (by kernel_rfl) (fun _ => by kernel_rfl) ?_
  refine T.nil ?_
  refine T.seq ?_
  refine T.region ?_
  obtain ⟨r1, hb1, hF⟩ := Option.bind_eq_some_iff.1 hF
  refine T.step (W1.call (vT2 (vSc (eList eElem)) (vSc eInt)) r1 54 #[.slice none 0 0, .int .i64 0, .int .i64 5, .string (ByteArray.mk #[97, 98, 99]), .int .i64 1] (by kernel_rfl) (fun _ => by kernel_rfl) (fun w' hh => file_Set_l F ([] : List DElem) 0 5 (ByteArray.mk #[97, 98, 99]) 1 r1 hb1 w' none 0 (SlOk.nil _ _)) ?_)
  intro u V1 hV1 hu
  obtain ⟨u1, u2, rfl, hu1, hu2⟩ := vT2_elim hu
  obtain ⟨A2, c2, rfl, hs2⟩ := vlist_elim hu1
  obtain rfl := sureInt _ _ _ hu2
  refine T.pure (.tuple #[.slice A2 r1.1.length c2, .int .i64 r1.2]) (by kernel_rfl) (fun _ => by kernel_rfl) ?_
  refine T.pure (.slice A2 r1.1.length c2) (by kernel_rfl) (fun _ => by kernel_rfl) ?_
  refine T.pure (.int .i64 r1.2) (by kernel_rfl) (fun _ => by kernel_rfl) ?_
  refine T.pure (.slice A2 r1.1.length c2) (by kernel_rfl) (fun _ => by kernel_rfl) ?_
  refine T.pure (.int .i64 r1.2) (by kernel_rfl) (fun _ => by kernel_rfl) ?_
  refine T.nil ?_
  refine T.seq ?_
  refine T.region ?_
  refine T.pure (.slice A2 r1.1.length c2) (by kernel_rfl) (fun _ => by kernel_rfl) ?_
  obtain ⟨r2, hb2, hF⟩ := Option.bind_eq_some_iff.1 hF
  refine T.step (W1.call (vT2 (vSc (eList eElem)) (vSc eInt)) r2 56 #[.slice A2 r1.1.length c2, .int .i64 0, .int .i64 5, .int .i64 1, .string (ByteArray.mk #[88, 89, 90]), .int .i64 2] (by kernel_rfl) (fun _ => by kernel_rfl) (fun w' hh => file_Patch_l F r1.1 0 5 1 (ByteArray.mk #[88, 89, 90]) 2 r2 hb2 w' A2 c2 (SlOk.mono (SlOk.mono hs2 (View.le_trans (made_le _ _) (View.le_refl _))) hh.view)) ?_)
  intro u V2 hV2 hu
  obtain ⟨u3, u4, rfl, hu3, hu4⟩ := vT2_elim hu
  obtain ⟨A3, c3, rfl, hs3⟩ := vlist_elim hu3
  obtain rfl := sureInt _ _ _ hu4
  refine T.pure (.tuple #[.slice A3 r2.1.length c3, .int .i64 r2.2]) (by kernel_rfl) (fun _ => by kernel_rfl) ?_
  refine T.pure (.slice A3 r2.1.length c3) (by kernel_rfl) (fun _ => by kernel_rfl) ?_
  refine T.pure (.int .i64 r2.2) (by kernel_rfl) (fun _ => by kernel_rfl) ?_
  refine T.pure (.slice A3 r2.1.length c3) (by kernel_rfl) (fun _ => by kernel_rfl) ?_
  refine T.pure (.int .i64 r2.2) (by kernel_rfl) (fun _ => by kernel_rfl) ?_
  refine T.nil ?_
  refine T.seq ?_
  refine T.seq ?_
  refine T.region ?_
  refine T.pure (.slice A3 r2.1.length c3) (by kernel_rfl) (fun _ => by kernel_rfl) ?_
  obtain ⟨r3, hb3, hF⟩ := Option.bind_eq_some_iff.1 hF
  refine T.step (W1.call (vT2 (vSc eStr) (vSc eInt)) r3 55 #[.slice A3 r2.1.length c3, .int .i64 0, .int .i64 5, .int .i64 2] (by kernel_rfl) (fun _ => by kernel_rfl) (fun w' hh => file_Get_l F r2.1 0 5 2 r3 hb3 w' A3 c3 (SlOk.mono (SlOk.mono hs3 (View.le_trans (made_le _ _) (View.le_refl _))) hh.view)) ?_)
  intro u V3 hV3 hu
  obtain rfl := (Sure.t2 sureStr sureInt) _ _ _ hu
  refine T.pure (.tuple #[.string r3.1, .int .i64 r3.2]) (by kernel_rfl) (fun _ => by kernel_rfl) ?_
  refine T.pure (.string r3.1) (by kernel_rfl) (fun _ => by kernel_rfl) ?_
  refine T.pure (.int .i64 r3.2) (by kernel_rfl) (fun _ => by kernel_rfl) ?_
  refine T.pure (.string r3.1) (by kernel_rfl) (fun _ => by kernel_rfl) ?_
  refine T.pure (.int .i64 r3.2) (by kernel_rfl) (fun _ => by kernel_rfl) ?_
  refine T.nil ?_
  refine T.cut (fun a w' => Fr 147 [(0, .slice A1 p0.length c1), (1, .int .i64 p1), (2, .int .i64 p2), (3, .int .i64 p3), (4, .string p4), (5, .int .i64 p5), (49, .bool ((r1.2 != 0) || ((r2.2 != 0) || ((r3.2 != 0) || (!(seq r3.1 (ByteArray.mk #[97, 88, 89, 90])))))))] a ∧ Hp w V3 [] w') ?_ ?_
  ·
    refine T.region ?_
    refine T.pure (.int .i64 r1.2) (by kernel_rfl) (fun _ => by kernel_rfl) ?_
    refine T.pure (.bool (r1.2 != 0)) (by kernel_rfl) (fun _ => by kernel_rfl) ?_
    refine T.pure (.bool (r1.2 != 0)) (by kernel_rfl) (fun _ => by kernel_rfl) ?_
    cases hg1 : (r1.2 != 0)
    ·
      skip
      refine T.pure (.int .i64 r2.2) (by kernel_rfl) (fun _ => by kernel_rfl) ?_
      refine T.pure (.bool (r2.2 != 0)) (by kernel_rfl) (fun _ => by kernel_rfl) ?_
      refine T.pure (.bool (r2.2 != 0)) (by kernel_rfl) (fun _ => by kernel_rfl) ?_
      refine T.pure (.bool (r2.2 != 0)) (by kernel_rfl) (fun _ => by kernel_rfl) ?_
      cases hg2 : (r2.2 != 0)
      ·
        skip
        refine T.pure (.int .i64 r3.2) (by kernel_rfl) (fun _ => by kernel_rfl) ?_
        refine T.pure (.bool (r3.2 != 0)) (by kernel_rfl) (fun _ => by kernel_rfl) ?_
        refine T.pure (.bool (r3.2 != 0)) (by kernel_rfl) (fun _ => by kernel_rfl) ?_
        refine T.pure (.bool (r3.2 != 0)) (by kernel_rfl) (fun _ => by kernel_rfl) ?_
        cases hg3 : (r3.2 != 0)
        ·
          skip
          refine T.pure (.string r3.1) (by kernel_rfl) (fun _ => by kernel_rfl) ?_
          refine T.pure (.bool (!(seq r3.1 (ByteArray.mk #[97, 88, 89, 90])))) (by kernel_rfl) (fun _ => by kernel_rfl) ?_
          refine T.pure (.bool (!(seq r3.1 (ByteArray.mk #[97, 88, 89, 90])))) (by kernel_rfl) (fun _ => by kernel_rfl) ?_
          refine T.nil ?_
          exact fun a w' hf hh => And.intro ((((((((Fr.nil hf).pick hf 49 rfl).pick hf 5 rfl).pick hf 4 rfl).pick hf 3 rfl).pick hf 2 rfl).pick hf 1 rfl).pick hf 0 rfl) (hh.sub List.Sublist.slnil)
        ·
          skip
          refine T.pass (by kernel_rfl) (by kernel_rfl) ?_
          refine T.pass (by kernel_rfl) (by kernel_rfl) ?_
          refine T.pure (.bool true) (by kernel_rfl) (fun _ => by kernel_rfl) ?_
          refine T.nil ?_
          exact fun a w' hf hh => And.intro ((((((((Fr.nil hf).pick hf 49 rfl).pick hf 5 rfl).pick hf 4 rfl).pick hf 3 rfl).pick hf 2 rfl).pick hf 1 rfl).pick hf 0 rfl) (hh.sub List.Sublist.slnil)
      ·
        skip
        refine T.pass (by kernel_rfl) (by kernel_rfl) ?_
        refine T.pass (by kernel_rfl) (by kernel_rfl) ?_
        refine T.pure (.bool true) (by kernel_rfl) (fun _ => by kernel_rfl) ?_
        refine T.pure (.bool true) (by kernel_rfl) (fun _ => by kernel_rfl) ?_
        refine T.pass (by kernel_rfl) (by kernel_rfl) ?_
        refine T.pass (by kernel_rfl) (by kernel_rfl) ?_
        refine T.pure (.bool true) (by kernel_rfl) (fun _ => by kernel_rfl) ?_
        refine T.nil ?_
        exact fun a w' hf hh => And.intro ((((((((Fr.nil hf).pick hf 49 rfl).pick hf 5 rfl).pick hf 4 rfl).pick hf 3 rfl).pick hf 2 rfl).pick hf 1 rfl).pick hf 0 rfl) (hh.sub List.Sublist.slnil)
    ·
      skip
      refine T.pass (by kernel_rfl) (by kernel_rfl) ?_
      refine T.pass (by kernel_rfl) (by kernel_rfl) ?_
      refine T.pure (.bool true) (by kernel_rfl) (fun _ => by kernel_rfl) ?_
      refine T.pure (.bool true) (by kernel_rfl) (fun _ => by kernel_rfl) ?_
      refine T.pass (by kernel_rfl) (by kernel_rfl) ?_
      refine T.pass (by kernel_rfl) (by kernel_rfl) ?_
      refine T.pure (.bool true) (by kernel_rfl) (fun _ => by kernel_rfl) ?_
      refine T.pure (.bool true) (by kernel_rfl) (fun _ => by kernel_rfl) ?_
      refine T.pass (by kernel_rfl) (by kernel_rfl) ?_
      refine T.pass (by kernel_rfl) (by kernel_rfl) ?_
      refine T.pure (.bool true) (by kernel_rfl) (fun _ => by kernel_rfl) ?_
      refine T.nil ?_
      exact fun a w' hf hh => And.intro ((((((((Fr.nil hf).pick hf 49 rfl).pick hf 5 rfl).pick hf 4 rfl).pick hf 3 rfl).pick hf 2 rfl).pick hf 1 rfl).pick hf 0 rfl) (hh.sub List.Sublist.slnil)
  ·
    rintro a w' ⟨hf, hh⟩
    refine (?_ : T 147 w V3 [] [(0, .slice A1 p0.length c1), (1, .int .i64 p1), (2, .int .i64 p2), (3, .int .i64 p3), (4, .string p4), (5, .int .i64 p5), (49, .bool ((r1.2 != 0) || ((r2.2 != 0) || ((r3.2 != 0) || (!(seq r3.1 (ByteArray.mk #[97, 88, 89, 90])))))))] _) a w' hf hh
    clear hf hh
    refine T.cond ((r1.2 != 0) || ((r2.2 != 0) || ((r3.2 != 0) || (!(seq r3.1 (ByteArray.mk #[97, 88, 89, 90])))))) (by kernel_rfl) (by kernel_rfl) (fun hc1 => ?_) (fun hc1 => ?_)
    ·
      rw [hc1, cond_true] at hF
      refine T.seq ?_
      refine T.region ?_
      refine T.pure (.bool false) (by kernel_rfl) (fun _ => by kernel_rfl) ?_
      refine T.nil ?_
      cases hF
      refine T.ret rfl ?_
      exact T.ret1 rfl (ResIs.tmp rfl) fun w' hh => ⟨_, rfl, hh.below, (show _ from rfl)⟩
    ·
      rw [hc1, cond_false] at hF
      refine T.skip_code ?_
      refine T.seq ?_
      refine T.region ?_
      refine T.pure (.slice A1 p0.length c1) (by kernel_rfl) (fun _ => by kernel_rfl) ?_
      refine T.pure (.int .i64 p1) (by kernel_rfl) (fun _ => by kernel_rfl) ?_
      refine T.pure (.int .i64 p2) (by kernel_rfl) (fun _ => by kernel_rfl) ?_
      obtain ⟨r4, hb4, hF⟩ := Option.bind_eq_some_iff.1 hF
      refine T.step (W1.call (vT2 (vSc eStr) (vSc eInt)) r4 55 #[.slice A1 p0.length c1, .int .i64 p1, .int .i64 p2, .int .i64 2147483647] (by kernel_rfl) (fun _ => by kernel_rfl) (fun w' hh => file_Get_l F p0 p1 p2 2147483647 r4 hb4 w' A1 c1 (SlOk.mono (SlOk.mono hs1 (View.le_trans (View.le_trans hV1 hV2) hV3)) hh.view)) ?_)
      intro u V4 hV4 hu
      obtain rfl := (Sure.t2 sureStr sureInt) _ _ _ hu
      refine T.pure (.tuple #[.string r4.1, .int .i64 r4.2]) (by kernel_rfl) (fun _ => by kernel_rfl) ?_
      refine T.pure (.string r4.1) (by kernel_rfl) (fun _ => by kernel_rfl) ?_
      refine T.pure (.int .i64 r4.2) (by kernel_rfl) (fun _ => by kernel_rfl) ?_
      refine T.pure (.string r4.1) (by kernel_rfl) (fun _ => by kernel_rfl) ?_
      refine T.pure (.int .i64 r4.2) (by kernel_rfl) (fun _ => by kernel_rfl) ?_
      refine T.nil ?_
      refine T.seq ?_
      refine T.region ?_
      refine T.pure (.slice A1 p0.length c1) (by kernel_rfl) (fun _ => by kernel_rfl) ?_
      refine T.pure (.int .i64 p1) (by kernel_rfl) (fun _ => by kernel_rfl) ?_
      refine T.pure (.int .i64 p2) (by kernel_rfl) (fun _ => by kernel_rfl) ?_
      refine T.pure (.int .i64 p3) (by kernel_rfl) (fun _ => by kernel_rfl) ?_
      refine T.pure (.string p4) (by kernel_rfl) (fun _ => by kernel_rfl) ?_
      refine T.pure (.int .i64 p5) (by kernel_rfl) (fun _ => by kernel_rfl) ?_
      obtain ⟨r5, hb5, hF⟩ := Option.bind_eq_some_iff.1 hF
      refine T.step (W1.call (vT2 (vSc (eList eElem)) (vSc eInt)) r5 56 #[.slice A1 p0.length c1, .int .i64 p1, .int .i64 p2, .int .i64 p3, .string p4, .int .i64 p5] (by kernel_rfl) (fun _ => by kernel_rfl) (fun w' hh => file_Patch_l F p0 p1 p2 p3 p4 p5 r5 hb5 w' A1 c1 (SlOk.mono (SlOk.mono hs1 (View.le_trans (View.le_trans (View.le_trans hV1 hV2) hV3) hV4)) hh.view)) ?_)
      intro u V5 hV5 hu
      obtain ⟨u5, u6, rfl, hu5, hu6⟩ := vT2_elim hu
      obtain ⟨A4, c4, rfl, hs4⟩ := vlist_elim hu5
      obtain rfl := sureInt _ _ _ hu6
      refine T.pure (.tuple #[.slice A4 r5.1.length c4, .int .i64 r5.2]) (by kernel_rfl) (fun _ => by kernel_rfl) ?_
      refine T.pure (.slice A4 r5.1.length c4) (by kernel_rfl) (fun _ => by kernel_rfl) ?_
      refine T.pure (.int .i64 r5.2) (by kernel_rfl) (fun _ => by kernel_rfl) ?_
      refine T.pure (.slice A4 r5.1.length c4) (by kernel_rfl) (fun _ => by kernel_rfl) ?_
      refine T.pure (.int .i64 r5.2) (by kernel_rfl) (fun _ => by kernel_rfl) ?_
      refine T.nil ?_
      refine T.seq ?_
      refine T.cut (fun a w' => Fr 147 [(1, .int .i64 p1), (2, .int .i64 p2), (3, .int .i64 p3), (4, .string p4), (5, .int .i64 p5), (19, .string r4.1), (20, .slice A4 r5.1.length c4), (72, .bool ((r4.2 != 0) || (r5.2 != 0)))] a ∧ Hp w V5 [] w') ?_ ?_
      ·
        refine T.region ?_
        refine T.pure (.int .i64 r4.2) (by kernel_rfl) (fun _ => by kernel_rfl) ?_
        refine T.pure (.bool (r4.2 != 0)) (by kernel_rfl) (fun _ => by kernel_rfl) ?_
        refine T.pure (.bool (r4.2 != 0)) (by kernel_rfl) (fun _ => by kernel_rfl) ?_
        cases hg4 : (r4.2 != 0)
        ·
          skip
          refine T.pure (.int .i64 r5.2) (by kernel_rfl) (fun _ => by kernel_rfl) ?_
          refine T.pure (.bool (r5.2 != 0)) (by kernel_rfl) (fun _ => by kernel_rfl) ?_
          refine T.pure (.bool (r5.2 != 0)) (by kernel_rfl) (fun _ => by kernel_rfl) ?_
          refine T.nil ?_
          exact fun a w' hf hh => And.intro (((((((((Fr.nil hf).pick hf 72 rfl).pick hf 20 rfl).pick hf 19 rfl).pick hf 5 rfl).pick hf 4 rfl).pick hf 3 rfl).pick hf 2 rfl).pick hf 1 rfl) (hh.sub List.Sublist.slnil)
        ·
          skip
          refine T.pass (by kernel_rfl) (by kernel_rfl) ?_
          refine T.pass (by kernel_rfl) (by kernel_rfl) ?_
          refine T.pure (.bool true) (by kernel_rfl) (fun _ => by kernel_rfl) ?_
          refine T.nil ?_
          exact fun a w' hf hh => And.intro (((((((((Fr.nil hf).pick hf 72 rfl).pick hf 20 rfl).pick hf 19 rfl).pick hf 5 rfl).pick hf 4 rfl).pick hf 3 rfl).pick hf 2 rfl).pick hf 1 rfl) (hh.sub List.Sublist.slnil)
      ·
        rintro a w' ⟨hf, hh⟩
        refine (?_ : T 147 w V5 [] [(1, .int .i64 p1), (2, .int .i64 p2), (3, .int .i64 p3), (4, .string p4), (5, .int .i64 p5), (19, .string r4.1), (20, .slice A4 r5.1.length c4), (72, .bool ((r4.2 != 0) || (r5.2 != 0)))] _) a w' hf hh
        clear hf hh
        refine T.cond ((r4.2 != 0) || (r5.2 != 0)) (by kernel_rfl) (by kernel_rfl) (fun hc2 => ?_) (fun hc2 => ?_)
        ·
          rw [hc2, cond_true] at hF
          refine T.seq ?_
          refine T.region ?_
          refine T.pure (.slice A4 r5.1.length c4) (by kernel_rfl) (fun _ => by kernel_rfl) ?_
          refine T.pure (.int .i64 (r5.1.length : Int)) (by kernel_rfl) (fun _ => by kernel_rfl) ?_
          refine T.pure (.bool ((r5.1.length : Int) == 0)) (by kernel_rfl) (fun _ => by kernel_rfl) ?_
          refine T.pure (.bool ((r5.1.length : Int) == 0)) (by kernel_rfl) (fun _ => by kernel_rfl) ?_
          refine T.nil ?_
          cases hF
          refine T.ret rfl ?_
          exact T.ret1 rfl (ResIs.tmp rfl) fun w' hh => ⟨_, rfl, hh.below, (show _ from rfl)⟩
        ·
          rw [hc2, cond_false] at hF
          refine T.skip_code ?_
          refine T.seq ?_
          refine T.region ?_
          refine T.pure (.slice A4 r5.1.length c4) (by kernel_rfl) (fun _ => by kernel_rfl) ?_
          refine T.pure (.int .i64 p1) (by kernel_rfl) (fun _ => by kernel_rfl) ?_
          refine T.pure (.int .i64 p2) (by kernel_rfl) (fun _ => by kernel_rfl) ?_
          refine T.pure (.int .i64 p5) (by kernel_rfl) (fun _ => by kernel_rfl) ?_
          obtain ⟨r6, hb6, hF⟩ := Option.bind_eq_some_iff.1 hF
          refine T.step (W1.call (vT2 (vSc eStr) (vSc eInt)) r6 55 #[.slice A4 r5.1.length c4, .int .i64 p1, .int .i64 p2, .int .i64 p5] (by kernel_rfl) (fun _ => by kernel_rfl) (fun w' hh => file_Get_l F r5.1 p1 p2 p5 r6 hb6 w' A4 c4 (SlOk.mono (SlOk.mono hs4 (View.le_trans (made_le _ _) (View.le_refl _))) hh.view)) ?_)
          intro u V6 hV6 hu
          obtain rfl := (Sure.t2 sureStr sureInt) _ _ _ hu
          refine T.pure (.tuple #[.string r6.1, .int .i64 r6.2]) (by kernel_rfl) (fun _ => by kernel_rfl) ?_
          refine T.pure (.string r6.1) (by kernel_rfl) (fun _ => by kernel_rfl) ?_
          refine T.pure (.int .i64 r6.2) (by kernel_rfl) (fun _ => by kernel_rfl) ?_
          refine T.pure (.string r6.1) (by kernel_rfl) (fun _ => by kernel_rfl) ?_
          refine T.pure (.int .i64 r6.2) (by kernel_rfl) (fun _ => by kernel_rfl) ?_
          refine T.nil ?_
          refine T.seq ?_
          refine T.cut (fun a w' => Fr 147 [(3, .int .i64 p3), (4, .string p4), (19, .string r4.1), (21, .string r6.1), (110, .bool ((r6.2 != 0) || ((decide (p3 < 0)) || ((decide ((r6.1.size : Int) < (IntKind.i64.wrap (p3 + (p4.size : Int))))) || ((r6.1.size : Int) != (if (r4.1.size : Int) < (IntKind.i64.wrap (p3 + (p4.size : Int))) then IntKind.i64.wrap (p3 + (p4.size : Int)) else (r4.1.size : Int)))))))] a ∧ Hp w V6 [] w') ?_ ?_
          ·
            refine T.region ?_
            refine T.pure (.int .i64 r6.2) (by kernel_rfl) (fun _ => by kernel_rfl) ?_
            refine T.pure (.bool (r6.2 != 0)) (by kernel_rfl) (fun _ => by kernel_rfl) ?_
            refine T.pure (.bool (r6.2 != 0)) (by kernel_rfl) (fun _ => by kernel_rfl) ?_
            cases hg5 : (r6.2 != 0)
            ·
              skip
              refine T.pure (.int .i64 p3) (by kernel_rfl) (fun _ => by kernel_rfl) ?_
              refine T.pure (.bool (decide (p3 < 0))) (by kernel_rfl) (fun _ => by kernel_rfl) ?_
              refine T.pure (.bool (decide (p3 < 0))) (by kernel_rfl) (fun _ => by kernel_rfl) ?_
              refine T.pure (.bool (decide (p3 < 0))) (by kernel_rfl) (fun _ => by kernel_rfl) ?_
              cases hg6 : decide (p3 < 0)
              ·
                skip
                refine T.pure (.int .i64 p3) (by kernel_rfl) (fun _ => by kernel_rfl) ?_
                refine T.pure (.string p4) (by kernel_rfl) (fun _ => by kernel_rfl) ?_
                refine T.pure (.int .i64 (p4.size : Int)) (by kernel_rfl) (fun _ => by kernel_rfl) ?_
                refine T.pure (.int .i64 (IntKind.i64.wrap (p3 + (p4.size : Int)))) (by kernel_rfl) (fun _ => by kernel_rfl) ?_
                refine T.pure (.string r6.1) (by kernel_rfl) (fun _ => by kernel_rfl) ?_
                refine T.pure (.int .i64 (r6.1.size : Int)) (by kernel_rfl) (fun _ => by kernel_rfl) ?_
                refine T.pure (.bool (decide ((r6.1.size : Int) < (IntKind.i64.wrap (p3 + (p4.size : Int)))))) (by kernel_rfl) (fun _ => by kernel_rfl) ?_
                refine T.pure (.bool (decide ((r6.1.size : Int) < (IntKind.i64.wrap (p3 + (p4.size : Int)))))) (by kernel_rfl) (fun _ => by kernel_rfl) ?_
                refine T.pure (.bool (decide ((r6.1.size : Int) < (IntKind.i64.wrap (p3 + (p4.size : Int)))))) (by kernel_rfl) (fun _ => by kernel_rfl) ?_
                cases hg7 : decide ((r6.1.size : Int) < (IntKind.i64.wrap (p3 + (p4.size : Int))))
                ·
                  skip
                  refine T.pure (.string r6.1) (by kernel_rfl) (fun _ => by kernel_rfl) ?_
                  refine T.pure (.int .i64 (r6.1.size : Int)) (by kernel_rfl) (fun _ => by kernel_rfl) ?_
                  refine T.pure (.string r4.1) (by kernel_rfl) (fun _ => by kernel_rfl) ?_
                  refine T.pure (.int .i64 (r4.1.size : Int)) (by kernel_rfl) (fun _ => by kernel_rfl) ?_
                  refine T.pure (.int .i64 p3) (by kernel_rfl) (fun _ => by kernel_rfl) ?_
                  refine T.pure (.string p4) (by kernel_rfl) (fun _ => by kernel_rfl) ?_
                  refine T.pure (.int .i64 (p4.size : Int)) (by kernel_rfl) (fun _ => by kernel_rfl) ?_
                  refine T.pure (.int .i64 (IntKind.i64.wrap (p3 + (p4.size : Int)))) (by kernel_rfl) (fun _ => by kernel_rfl) ?_
                  refine T.pure (.int .i64 (if (r4.1.size : Int) < (IntKind.i64.wrap (p3 + (p4.size : Int))) then IntKind.i64.wrap (p3 + (p4.size : Int)) else (r4.1.size : Int))) (by kernel_rfl) (fun _ => by kernel_rfl) ?_
                  refine T.pure (.bool ((r6.1.size : Int) != (if (r4.1.size : Int) < (IntKind.i64.wrap (p3 + (p4.size : Int))) then IntKind.i64.wrap (p3 + (p4.size : Int)) else (r4.1.size : Int)))) (by kernel_rfl) (fun _ => by kernel_rfl) ?_
                  refine T.pure (.bool ((r6.1.size : Int) != (if (r4.1.size : Int) < (IntKind.i64.wrap (p3 + (p4.size : Int))) then IntKind.i64.wrap (p3 + (p4.size : Int)) else (r4.1.size : Int)))) (by kernel_rfl) (fun _ => by kernel_rfl) ?_
                  refine T.nil ?_
                  exact fun a w' hf hh => And.intro ((((((Fr.nil hf).pick hf 110 rfl).pick hf 21 rfl).pick hf 19 rfl).pick hf 4 rfl).pick hf 3 rfl) (hh.sub List.Sublist.slnil)
                ·
                  skip
                  refine T.pass (by kernel_rfl) (by kernel_rfl) ?_
                  refine T.pass (by kernel_rfl) (by kernel_rfl) ?_
                  refine T.pass (by kernel_rfl) (by kernel_rfl) ?_
                  refine T.pass (by kernel_rfl) (by kernel_rfl) ?_
                  refine T.pass (by kernel_rfl) (by kernel_rfl) ?_
                  refine T.pass (by kernel_rfl) (by kernel_rfl) ?_
                  refine T.pass (by kernel_rfl) (by kernel_rfl) ?_
                  refine T.pass (by kernel_rfl) (by kernel_rfl) ?_
                  refine T.pass (by kernel_rfl) (by kernel_rfl) ?_
                  refine T.pass (by kernel_rfl) (by kernel_rfl) ?_
                  refine T.pure (.bool true) (by kernel_rfl) (fun _ => by kernel_rfl) ?_
                  refine T.nil ?_
                  exact fun a w' hf hh => And.intro ((((((Fr.nil hf).pick hf 110 rfl).pick hf 21 rfl).pick hf 19 rfl).pick hf 4 rfl).pick hf 3 rfl) (hh.sub List.Sublist.slnil)
              ·
                skip
                refine T.pass (by kernel_rfl) (by kernel_rfl) ?_
                refine T.pass (by kernel_rfl) (by kernel_rfl) ?_
                refine T.pass (by kernel_rfl) (by kernel_rfl) ?_
                refine T.pass (by kernel_rfl) (by kernel_rfl) ?_
                refine T.pass (by kernel_rfl) (by kernel_rfl) ?_
                refine T.pass (by kernel_rfl) (by kernel_rfl) ?_
                refine T.pass (by kernel_rfl) (by kernel_rfl) ?_
                refine T.pure (.bool true) (by kernel_rfl) (fun _ => by kernel_rfl) ?_
                refine T.pure (.bool true) (by kernel_rfl) (fun _ => by kernel_rfl) ?_
                refine T.pass (by kernel_rfl) (by kernel_rfl) ?_
                refine T.pass (by kernel_rfl) (by kernel_rfl) ?_
                refine T.pass (by kernel_rfl) (by kernel_rfl) ?_
                refine T.pass (by kernel_rfl) (by kernel_rfl) ?_
                refine T.pass (by kernel_rfl) (by kernel_rfl) ?_
                refine T.pass (by kernel_rfl) (by kernel_rfl) ?_
                refine T.pass (by kernel_rfl) (by kernel_rfl) ?_
                refine T.pass (by kernel_rfl) (by kernel_rfl) ?_
                refine T.pass (by kernel_rfl) (by kernel_rfl) ?_
                refine T.pass (by kernel_rfl) (by kernel_rfl) ?_
                refine T.pure (.bool true) (by kernel_rfl) (fun _ => by kernel_rfl) ?_
                refine T.nil ?_
                exact fun a w' hf hh => And.intro ((((((Fr.nil hf).pick hf 110 rfl).pick hf 21 rfl).pick hf 19 rfl).pick hf 4 rfl).pick hf 3 rfl) (hh.sub List.Sublist.slnil)
            ·
              skip
              refine T.pass (by kernel_rfl) (by kernel_rfl) ?_
              refine T.pass (by kernel_rfl) (by kernel_rfl) ?_
              refine T.pure (.bool true) (by kernel_rfl) (fun _ => by kernel_rfl) ?_
              refine T.pure (.bool true) (by kernel_rfl) (fun _ => by kernel_rfl) ?_
              refine T.pass (by kernel_rfl) (by kernel_rfl) ?_
              refine T.pass (by kernel_rfl) (by kernel_rfl) ?_
              refine T.pass (by kernel_rfl) (by kernel_rfl) ?_
              refine T.pass (by kernel_rfl) (by kernel_rfl) ?_
              refine T.pass (by kernel_rfl) (by kernel_rfl) ?_
              refine T.pass (by kernel_rfl) (by kernel_rfl) ?_
              refine T.pass (by kernel_rfl) (by kernel_rfl) ?_
              refine T.pure (.bool true) (by kernel_rfl) (fun _ => by kernel_rfl) ?_
              refine T.pure (.bool true) (by kernel_rfl) (fun _ => by kernel_rfl) ?_
              refine T.pass (by kernel_rfl) (by kernel_rfl) ?_
              refine T.pass (by kernel_rfl) (by kernel_rfl) ?_
              refine T.pass (by kernel_rfl) (by kernel_rfl) ?_
              refine T.pass (by kernel_rfl) (by kernel_rfl) ?_
              refine T.pass (by kernel_rfl) (by kernel_rfl) ?_
              refine T.pass (by kernel_rfl) (by kernel_rfl) ?_
              refine T.pass (by kernel_rfl) (by kernel_rfl) ?_
              refine T.pass (by kernel_rfl) (by kernel_rfl) ?_
              refine T.pass (by kernel_rfl) (by kernel_rfl) ?_
              refine T.pass (by kernel_rfl) (by kernel_rfl) ?_
              refine T.pure (.bool true) (by kernel_rfl) (fun _ => by kernel_rfl) ?_
              refine T.nil ?_
              exact fun a w' hf hh => And.intro ((((((Fr.nil hf).pick hf 110 rfl).pick hf 21 rfl).pick hf 19 rfl).pick hf 4 rfl).pick hf 3 rfl) (hh.sub List.Sublist.slnil)
          ·
            rintro a w' ⟨hf, hh⟩
            refine (?_ : T 147 w V6 [] [(3, .int .i64 p3), (4, .string p4), (19, .string r4.1), (21, .string r6.1), (110, .bool ((r6.2 != 0) || ((decide (p3 < 0)) || ((decide ((r6.1.size : Int) < (IntKind.i64.wrap (p3 + (p4.size : Int))))) || ((r6.1.size : Int) != (if (r4.1.size : Int) < (IntKind.i64.wrap (p3 + (p4.size : Int))) then IntKind.i64.wrap (p3 + (p4.size : Int)) else (r4.1.size : Int)))))))] _) a w' hf hh
            clear hf hh
            refine T.cond ((r6.2 != 0) || ((decide (p3 < 0)) || ((decide ((r6.1.size : Int) < (IntKind.i64.wrap (p3 + (p4.size : Int))))) || ((r6.1.size : Int) != (if (r4.1.size : Int) < (IntKind.i64.wrap (p3 + (p4.size : Int))) then IntKind.i64.wrap (p3 + (p4.size : Int)) else (r4.1.size : Int)))))) (by kernel_rfl) (by kernel_rfl) (fun hc3 => ?_) (fun hc3 => ?_)
            ·
              rw [hc3, cond_true] at hF
              refine T.seq ?_
              refine T.region ?_
              refine T.pure (.bool false) (by kernel_rfl) (fun _ => by kernel_rfl) ?_
              refine T.nil ?_
              cases hF
              refine T.ret rfl ?_
              exact T.ret1 rfl (ResIs.tmp rfl) fun w' hh => ⟨_, rfl, hh.below, (show _ from rfl)⟩
            ·
              rw [hc3, cond_false] at hF
              refine T.skip_code ?_
              obtain ⟨z1, hX1, hF⟩ := Option.bind_eq_some_iff.1 hF
              refine T.cut (fun a w' => Fr 147 [(12, .bool z1)] a ∧ Hp w V6 [] w') ?_ ?_
              ·
                refine T.quiet (by kernel_rfl) (by kernel_rfl) ?_
                refine TQ.pure (.string r6.1) (by kernel_rfl) (fun _ => by kernel_rfl) ?_
                refine TQ.pure (.int .i64 p3) (by kernel_rfl) (fun _ => by kernel_rfl) ?_
                obtain ⟨s1, hb7, hX1⟩ := Option.bind_eq_some_iff.1 hX1
                refine TQ.look (.string s1) (by kernel_rfl) (fun w' hh => exec_slice_str_hi rfl rfl rfl (by kernel_rfl) hb7) ?_
                refine TQ.pure (.string r4.1) (by kernel_rfl) (fun _ => by kernel_rfl) ?_
                refine TQ.pure (.int .i64 p3) (by kernel_rfl) (fun _ => by kernel_rfl) ?_
                obtain ⟨s2, hb8, hX1⟩ := Option.bind_eq_some_iff.1 hX1
                refine TQ.look (.string s2) (by kernel_rfl) (fun w' hh => exec_slice_str_hi rfl rfl rfl (by kernel_rfl) hb8) ?_
                refine TQ.pure (.bool (seq s1 s2)) (by kernel_rfl) (fun _ => by kernel_rfl) ?_
                refine TQ.pure (.bool (seq s1 s2)) (by kernel_rfl) (fun _ => by kernel_rfl) ?_
                cases hg8 : (seq s1 s2)
                ·
                  skip
                  rw [hg8, cond_false] at hX1
                  refine TQ.pass (by kernel_rfl) (by kernel_rfl) ?_
                  refine TQ.pass (by kernel_rfl) (by kernel_rfl) ?_
                  refine TQ.pass (by kernel_rfl) (by kernel_rfl) ?_
                  refine TQ.pass (by kernel_rfl) (by kernel_rfl) ?_
                  refine TQ.pass (by kernel_rfl) (by kernel_rfl) ?_
                  refine TQ.pass (by kernel_rfl) (by kernel_rfl) ?_
                  refine TQ.pass (by kernel_rfl) (by kernel_rfl) ?_
                  refine TQ.pass (by kernel_rfl) (by kernel_rfl) ?_
                  refine TQ.pass (by kernel_rfl) (by kernel_rfl) ?_
                  refine TQ.pure (.bool false) (by kernel_rfl) (fun _ => by kernel_rfl) ?_
                  refine TQ.pure (.bool false) (by kernel_rfl) (fun _ => by kernel_rfl) ?_
                  refine TQ.pass (by kernel_rfl) (by kernel_rfl) ?_
                  refine TQ.pass (by kernel_rfl) (by kernel_rfl) ?_
                  refine TQ.pass (by kernel_rfl) (by kernel_rfl) ?_
                  refine TQ.pass (by kernel_rfl) (by kernel_rfl) ?_
                  refine TQ.pass (by kernel_rfl) (by kernel_rfl) ?_
                  refine TQ.pass (by kernel_rfl) (by kernel_rfl) ?_
                  refine TQ.pass (by kernel_rfl) (by kernel_rfl) ?_
                  refine TQ.pass (by kernel_rfl) (by kernel_rfl) ?_
                  refine TQ.pass (by kernel_rfl) (by kernel_rfl) ?_
                  refine TQ.pass (by kernel_rfl) (by kernel_rfl) ?_
                  refine TQ.pass (by kernel_rfl) (by kernel_rfl) ?_
                  refine TQ.pass (by kernel_rfl) (by kernel_rfl) ?_
                  refine TQ.pass (by kernel_rfl) (by kernel_rfl) ?_
                  refine TQ.pass (by kernel_rfl) (by kernel_rfl) ?_
                  refine TQ.pass (by kernel_rfl) (by kernel_rfl) ?_
                  refine TQ.pass (by kernel_rfl) (by kernel_rfl) ?_
                  refine TQ.pure (.bool false) (by kernel_rfl) (fun _ => by kernel_rfl) ?_
                  refine TQ.pure (.bool false) (by kernel_rfl) (fun _ => by kernel_rfl) ?_
                  refine TQ.nil ?_
                  cases hX1
                  exact fun a w' hf hh => And.intro ((Fr.nil hf).pick hf 12 rfl) (hh.sub List.Sublist.slnil)
                ·
                  skip
                  rw [hg8, cond_true] at hX1
                  refine TQ.pure (.string r6.1) (by kernel_rfl) (fun _ => by kernel_rfl) ?_
                  refine TQ.pure (.int .i64 p3) (by kernel_rfl) (fun _ => by kernel_rfl) ?_
                  refine TQ.pure (.int .i64 p3) (by kernel_rfl) (fun _ => by kernel_rfl) ?_
                  refine TQ.pure (.string p4) (by kernel_rfl) (fun _ => by kernel_rfl) ?_
                  refine TQ.pure (.int .i64 (p4.size : Int)) (by kernel_rfl) (fun _ => by kernel_rfl) ?_
                  refine TQ.pure (.int .i64 (IntKind.i64.wrap (p3 + (p4.size : Int)))) (by kernel_rfl) (fun _ => by kernel_rfl) ?_
                  obtain ⟨s3, hb9, hX1⟩ := Option.bind_eq_some_iff.1 hX1
                  refine TQ.look (.string s3) (by kernel_rfl) (fun w' hh => exec_slice_str rfl rfl rfl rfl (by kernel_rfl) hb9) ?_
                  refine TQ.pure (.string p4) (by kernel_rfl) (fun _ => by kernel_rfl) ?_
                  refine TQ.pure (.bool (seq s3 p4)) (by kernel_rfl) (fun _ => by kernel_rfl) ?_
                  refine TQ.pure (.bool (seq s3 p4)) (by kernel_rfl) (fun _ => by kernel_rfl) ?_
                  refine TQ.pure (.bool (seq s3 p4)) (by kernel_rfl) (fun _ => by kernel_rfl) ?_
                  cases hg9 : (seq s3 p4)
                  ·
                    skip
                    rw [hg9, cond_false] at hX1
                    refine TQ.pass (by kernel_rfl) (by kernel_rfl) ?_
                    refine TQ.pass (by kernel_rfl) (by kernel_rfl) ?_
                    refine TQ.pass (by kernel_rfl) (by kernel_rfl) ?_
                    refine TQ.pass (by kernel_rfl) (by kernel_rfl) ?_
                    refine TQ.pass (by kernel_rfl) (by kernel_rfl) ?_
                    refine TQ.pass (by kernel_rfl) (by kernel_rfl) ?_
                    refine TQ.pass (by kernel_rfl) (by kernel_rfl) ?_
                    refine TQ.pass (by kernel_rfl) (by kernel_rfl) ?_
                    refine TQ.pass (by kernel_rfl) (by kernel_rfl) ?_
                    refine TQ.pass (by kernel_rfl) (by kernel_rfl) ?_
                    refine TQ.pass (by kernel_rfl) (by kernel_rfl) ?_
                    refine TQ.pass (by kernel_rfl) (by kernel_rfl) ?_
                    refine TQ.pass (by kernel_rfl) (by kernel_rfl) ?_
                    refine TQ.pass (by kernel_rfl) (by kernel_rfl) ?_
                    refine TQ.pass (by kernel_rfl) (by kernel_rfl) ?_
                    refine TQ.pass (by kernel_rfl) (by kernel_rfl) ?_
                    refine TQ.pure (.bool false) (by kernel_rfl) (fun _ => by kernel_rfl) ?_
                    refine TQ.pure (.bool false) (by kernel_rfl) (fun _ => by kernel_rfl) ?_
                    refine TQ.nil ?_
                    cases hX1
                    exact fun a w' hf hh => And.intro ((Fr.nil hf).pick hf 12 rfl) (hh.sub List.Sublist.slnil)
                  ·
                    skip
                    rw [hg9, cond_true] at hX1
                    refine TQ.pure (.string r6.1) (by kernel_rfl) (fun _ => by kernel_rfl) ?_
                    refine TQ.pure (.int .i64 p3) (by kernel_rfl) (fun _ => by kernel_rfl) ?_
                    refine TQ.pure (.string p4) (by kernel_rfl) (fun _ => by kernel_rfl) ?_
                    refine TQ.pure (.int .i64 (p4.size : Int)) (by kernel_rfl) (fun _ => by kernel_rfl) ?_
                    refine TQ.pure (.int .i64 (IntKind.i64.wrap (p3 + (p4.size : Int)))) (by kernel_rfl) (fun _ => by kernel_rfl) ?_
                    obtain ⟨s4, hb10, hX1⟩ := Option.bind_eq_some_iff.1 hX1
                    refine TQ.look (.string s4) (by kernel_rfl) (fun w' hh => exec_slice_str_lo rfl rfl rfl (by kernel_rfl) hb10) ?_
                    refine TQ.pure (.string r4.1) (by kernel_rfl) (fun _ => by kernel_rfl) ?_
                    refine TQ.pure (.string r4.1) (by kernel_rfl) (fun _ => by kernel_rfl) ?_
                    refine TQ.pure (.int .i64 (r4.1.size : Int)) (by kernel_rfl) (fun _ => by kernel_rfl) ?_
                    refine TQ.pure (.int .i64 p3) (by kernel_rfl) (fun _ => by kernel_rfl) ?_
                    refine TQ.pure (.string p4) (by kernel_rfl) (fun _ => by kernel_rfl) ?_
                    refine TQ.pure (.int .i64 (p4.size : Int)) (by kernel_rfl) (fun _ => by kernel_rfl) ?_
                    refine TQ.pure (.int .i64 (IntKind.i64.wrap (p3 + (p4.size : Int)))) (by kernel_rfl) (fun _ => by kernel_rfl) ?_
                    refine TQ.pure (.int .i64 (if (IntKind.i64.wrap (p3 + (p4.size : Int))) < (r4.1.size : Int) then IntKind.i64.wrap (p3 + (p4.size : Int)) else (r4.1.size : Int))) (by kernel_rfl) (fun _ => by kernel_rfl) ?_
                    obtain ⟨s5, hb11, hX1⟩ := Option.bind_eq_some_iff.1 hX1
                    refine TQ.look (.string s5) (by kernel_rfl) (fun w' hh => exec_slice_str_lo rfl rfl rfl (by kernel_rfl) hb11) ?_
                    refine TQ.pure (.bool (seq s4 s5)) (by kernel_rfl) (fun _ => by kernel_rfl) ?_
                    refine TQ.pure (.bool (seq s4 s5)) (by kernel_rfl) (fun _ => by kernel_rfl) ?_
                    refine TQ.pure (.bool (seq s4 s5)) (by kernel_rfl) (fun _ => by kernel_rfl) ?_
                    refine TQ.nil ?_
                    cases hX1
                    exact fun a w' hf hh => And.intro ((Fr.nil hf).pick hf 12 rfl) (hh.sub List.Sublist.slnil)
              ·
                rintro a w' ⟨hf, hh⟩
                refine (?_ : T 147 w V6 [] [(12, .bool z1)] _) a w' hf hh
                clear hf hh
                cases hF
                refine T.ret rfl ?_
                exact T.ret1 rfl (ResIs.tmp rfl) fun w' hh => ⟨_, rfl, hh.below, (show _ from rfl)⟩

end Go.Proofs.Ytiaoncjkfgebdaa
