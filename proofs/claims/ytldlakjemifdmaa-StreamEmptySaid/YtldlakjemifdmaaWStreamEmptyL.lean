/- The Go functions of group WStreamEmpty compute the pure functions of that group: written by walkgen.py. Condition of each: the pure function yields a result. -/
import Derived.Test.YtldlakjemifdmaaStreamL
import Derived.Test.YtldlakjemifdmaaEqsL
import Derived.Test.YtldlakjemifdmaaWStreamEmptyF
import Derived.Test.YtldlakjemifdmaaEqL
namespace Go.Proofs.Ytldlakjemifdmaa
set_option linter.unusedVariables false

set_option maxRecDepth 100000 in
set_option maxHeartbeats 4000000 in
theorem annalkeep_StreamEmpty_l (F : Nat) (p0 : (List DElem)) (p1 : (List DElem)) (p2 : Int) (p3 : Int) (r : Bool) (hF : annalkeep_StreamEmpty F p0 p1 p2 p3 = some r) (w : World) (A1 : Option Addr) (c1 : Nat) (hs1 : SlOk (vw w) eElem A1 c1 p0) (A2 : Option Addr) (c2 : Nat) (hs2 : SlOk (vw w) eElem A2 c2 p1) :
    Calls Try.prog 17 #[.slice A1 p0.length c1, .slice A2 p1.length c2, .int .i64 p2, .int .i64 p3] w (Post (vSc eBool) r w) := by
  unfold annalkeep_StreamEmpty at hF
  refine T.start (l := [.slice A1 p0.length c1, .slice A2 p1.length c2, .int .i64 p2, .int .i64 p3]) Try.func17 rfl rfl rfl ?_
  refine T.seq ?_
  refine T.region ?_
  refine T.pure (.bool false) (by kernel_rfl) (fun _ => by kernel_rfl) ?_
  refine T.nil ?_
  refine T.seq ?_
  refine T.region ?_
  obtain ⟨r1, hb1, hF⟩ := Option.bind_eq_some_iff.1 hF
  refine T.step (W1.call (vAg eElem) r1 52 #[.int .i64 1, .string (ByteArray.mk #[97])] (by kernel_rfl) (fun _ => by kernel_rfl) (fun w' hh => annalkeep_at1_l 1 (ByteArray.mk #[97]) r1 hb1 w' ) ?_)
  intro u V1 hV1 hu
  obtain rfl := sureElem _ _ _ hu
  refine T.step (W1.new 34 [.int .i64 r1.key.pfs, .int .i64 r1.key.obj, .int .i64 r1.key.off, .int .i64 r1.made, .int .i64 r1.gone, .string r1.val] (fun b => .slice (some ⟨b, 0, none⟩) 1 1) (by kernel_rfl) (fun _ => by kernel_rfl) (fun b1 => ?_))
  obtain ⟨r2, hb2, hF⟩ := Option.bind_eq_some_iff.1 hF
  refine T.step (W1.call (vT2 (vSc eStr) (vSc eInt)) r2 50 #[.slice (some ⟨b1, 0, none⟩) 1 1, .int .i64 0, .int .i64 1, .int .i64 1] (by kernel_rfl) (fun _ => by kernel_rfl) (fun w' hh => stream_Read_l F [r1] 0 1 1 r2 hb2 w' (some ⟨b1, 0, none⟩) 1 (slok_lit (E := eElem) (f := DElem.cells) [r1] (fun _ _ => rfl) (Nat.le_of_ble_eq_true (by rfl)) (fun j => hh.cellBox (i := 0) (by rfl) j))) ?_)
  intro u V2 hV2 hu
  obtain rfl := (Sure.t2 sureStr sureInt) _ _ _ hu
  refine T.pure (.tuple #[.string r2.1, .int .i64 r2.2]) (by kernel_rfl) (fun _ => by kernel_rfl) ?_
  refine T.pure (.string r2.1) (by kernel_rfl) (fun _ => by kernel_rfl) ?_
  refine T.pure (.int .i64 r2.2) (by kernel_rfl) (fun _ => by kernel_rfl) ?_
  refine T.pure (.string r2.1) (by kernel_rfl) (fun _ => by kernel_rfl) ?_
  refine T.pure (.int .i64 r2.2) (by kernel_rfl) (fun _ => by kernel_rfl) ?_
  refine T.nil ?_
  refine T.seq ?_
  refine T.seq ?_
  refine T.region ?_
  refine T.pure (.string r2.1) (by kernel_rfl) (fun _ => by kernel_rfl) ?_
  obtain ⟨r3, hb3, hF⟩ := Option.bind_eq_some_iff.1 hF
  refine T.step (W1.call (vT2 (vSc (eList eElem)) (vSc eInt)) r3 51 #[.slice none 0 0, .string r2.1] (by kernel_rfl) (fun _ => by kernel_rfl) (fun w' hh => stream_Feed_l F ([] : List DElem) r2.1 r3 hb3 w' none 0 (SlOk.nil _ _)) ?_)
  intro u V3 hV3 hu
  obtain ⟨u1, u2, rfl, hu1, hu2⟩ := vT2_elim hu
  obtain ⟨A3, c3, rfl, hs3⟩ := vlist_elim hu1
  obtain rfl := sureInt _ _ _ hu2
  refine T.pure (.tuple #[.slice A3 r3.1.length c3, .int .i64 r3.2]) (by kernel_rfl) (fun _ => by kernel_rfl) ?_
  refine T.pure (.slice A3 r3.1.length c3) (by kernel_rfl) (fun _ => by kernel_rfl) ?_
  refine T.pure (.int .i64 r3.2) (by kernel_rfl) (fun _ => by kernel_rfl) ?_
  refine T.pure (.slice A3 r3.1.length c3) (by kernel_rfl) (fun _ => by kernel_rfl) ?_
  refine T.pure (.int .i64 r3.2) (by kernel_rfl) (fun _ => by kernel_rfl) ?_
  refine T.nil ?_
  refine T.cut (fun a w' => Fr 76 [(0, .slice A1 p0.length c1), (1, .slice A2 p1.length c2), (2, .int .i64 p2), (3, .int .i64 p3), (40, .bool ((r2.2 != 0) || ((r3.2 != 0) || (((r2.1.size : Int) != 26) || ((r3.1.length : Int) != 0)))))] a ∧ Hp w V3 [] w') ?_ ?_
  ·
    refine T.region ?_
    refine T.pure (.int .i64 r2.2) (by kernel_rfl) (fun _ => by kernel_rfl) ?_
    refine T.pure (.bool (r2.2 != 0)) (by kernel_rfl) (fun _ => by kernel_rfl) ?_
    refine T.pure (.bool (r2.2 != 0)) (by kernel_rfl) (fun _ => by kernel_rfl) ?_
    cases hg1 : (r2.2 != 0)
    ·
      skip
      refine T.pure (.int .i64 r3.2) (by kernel_rfl) (fun _ => by kernel_rfl) ?_
      refine T.pure (.bool (r3.2 != 0)) (by kernel_rfl) (fun _ => by kernel_rfl) ?_
      refine T.pure (.bool (r3.2 != 0)) (by kernel_rfl) (fun _ => by kernel_rfl) ?_
      refine T.pure (.bool (r3.2 != 0)) (by kernel_rfl) (fun _ => by kernel_rfl) ?_
      cases hg2 : (r3.2 != 0)
      ·
        skip
        refine T.pure (.string r2.1) (by kernel_rfl) (fun _ => by kernel_rfl) ?_
        refine T.pure (.int .i64 (r2.1.size : Int)) (by kernel_rfl) (fun _ => by kernel_rfl) ?_
        refine T.pure (.bool ((r2.1.size : Int) != 26)) (by kernel_rfl) (fun _ => by kernel_rfl) ?_
        refine T.pure (.bool ((r2.1.size : Int) != 26)) (by kernel_rfl) (fun _ => by kernel_rfl) ?_
        refine T.pure (.bool ((r2.1.size : Int) != 26)) (by kernel_rfl) (fun _ => by kernel_rfl) ?_
        cases hg3 : ((r2.1.size : Int) != 26)
        ·
          skip
          refine T.pure (.slice A3 r3.1.length c3) (by kernel_rfl) (fun _ => by kernel_rfl) ?_
          refine T.pure (.int .i64 (r3.1.length : Int)) (by kernel_rfl) (fun _ => by kernel_rfl) ?_
          refine T.pure (.bool ((r3.1.length : Int) != 0)) (by kernel_rfl) (fun _ => by kernel_rfl) ?_
          refine T.pure (.bool ((r3.1.length : Int) != 0)) (by kernel_rfl) (fun _ => by kernel_rfl) ?_
          refine T.nil ?_
          exact fun a w' hf hh => And.intro ((((((Fr.nil hf).pick hf 40 rfl).pick hf 3 rfl).pick hf 2 rfl).pick hf 1 rfl).pick hf 0 rfl) (hh.sub (.cons _ List.Sublist.slnil))
        ·
          skip
          refine T.pass (by kernel_rfl) (by kernel_rfl) ?_
          refine T.pass (by kernel_rfl) (by kernel_rfl) ?_
          refine T.pass (by kernel_rfl) (by kernel_rfl) ?_
          refine T.pure (.bool true) (by kernel_rfl) (fun _ => by kernel_rfl) ?_
          refine T.nil ?_
          exact fun a w' hf hh => And.intro ((((((Fr.nil hf).pick hf 40 rfl).pick hf 3 rfl).pick hf 2 rfl).pick hf 1 rfl).pick hf 0 rfl) (hh.sub (.cons _ List.Sublist.slnil))
      ·
        skip
        refine T.pass (by kernel_rfl) (by kernel_rfl) ?_
        refine T.pass (by kernel_rfl) (by kernel_rfl) ?_
        refine T.pass (by kernel_rfl) (by kernel_rfl) ?_
        refine T.pure (.bool true) (by kernel_rfl) (fun _ => by kernel_rfl) ?_
        refine T.pure (.bool true) (by kernel_rfl) (fun _ => by kernel_rfl) ?_
        refine T.pass (by kernel_rfl) (by kernel_rfl) ?_
        refine T.pass (by kernel_rfl) (by kernel_rfl) ?_
        refine T.pass (by kernel_rfl) (by kernel_rfl) ?_
        refine T.pure (.bool true) (by kernel_rfl) (fun _ => by kernel_rfl) ?_
        refine T.nil ?_
        exact fun a w' hf hh => And.intro ((((((Fr.nil hf).pick hf 40 rfl).pick hf 3 rfl).pick hf 2 rfl).pick hf 1 rfl).pick hf 0 rfl) (hh.sub (.cons _ List.Sublist.slnil))
    ·
      skip
      refine T.pass (by kernel_rfl) (by kernel_rfl) ?_
      refine T.pass (by kernel_rfl) (by kernel_rfl) ?_
      refine T.pure (.bool true) (by kernel_rfl) (fun _ => by kernel_rfl) ?_
      refine T.pure (.bool true) (by kernel_rfl) (fun _ => by kernel_rfl) ?_
      refine T.pass (by kernel_rfl) (by kernel_rfl) ?_
      refine T.pass (by kernel_rfl) (by kernel_rfl) ?_
      refine T.pass (by kernel_rfl) (by kernel_rfl) ?_
      refine T.pure (.bool true) (by kernel_rfl) (fun _ => by kernel_rfl) ?_
      refine T.pure (.bool true) (by kernel_rfl) (fun _ => by kernel_rfl) ?_
      refine T.pass (by kernel_rfl) (by kernel_rfl) ?_
      refine T.pass (by kernel_rfl) (by kernel_rfl) ?_
      refine T.pass (by kernel_rfl) (by kernel_rfl) ?_
      refine T.pure (.bool true) (by kernel_rfl) (fun _ => by kernel_rfl) ?_
      refine T.nil ?_
      exact fun a w' hf hh => And.intro ((((((Fr.nil hf).pick hf 40 rfl).pick hf 3 rfl).pick hf 2 rfl).pick hf 1 rfl).pick hf 0 rfl) (hh.sub (.cons _ List.Sublist.slnil))
  ·
    rintro a w' ⟨hf, hh⟩
    refine (?_ : T 76 w V3 [] [(0, .slice A1 p0.length c1), (1, .slice A2 p1.length c2), (2, .int .i64 p2), (3, .int .i64 p3), (40, .bool ((r2.2 != 0) || ((r3.2 != 0) || (((r2.1.size : Int) != 26) || ((r3.1.length : Int) != 0)))))] _) a w' hf hh
    clear hf hh
    refine T.cond ((r2.2 != 0) || ((r3.2 != 0) || (((r2.1.size : Int) != 26) || ((r3.1.length : Int) != 0)))) (by kernel_rfl) (by kernel_rfl) (fun hc1 => ?_) (fun hc1 => ?_)
    ·
      rw [hc1, cond_true] at hF
      refine T.seq ?_
      refine T.region ?_
      refine T.pure (.bool false) (by kernel_rfl) (fun _ => by kernel_rfl) ?_
      refine T.nil ?_
      cases hF
      refine T.ret rfl ?_
      exact T.ret1 rfl (ResIs.tmp rfl) fun w' hh => ⟨_, rfl, hh.below, (show _ from rfl)⟩
    ·
      rw [hc1, cond_false] at hF
      refine T.skip_code ?_
      refine T.seq ?_
      refine T.region ?_
      refine T.pure (.slice A1 p0.length c1) (by kernel_rfl) (fun _ => by kernel_rfl) ?_
      refine T.pure (.int .i64 p2) (by kernel_rfl) (fun _ => by kernel_rfl) ?_
      refine T.pure (.int .i64 p3) (by kernel_rfl) (fun _ => by kernel_rfl) ?_
      refine T.pure (.int .i64 p3) (by kernel_rfl) (fun _ => by kernel_rfl) ?_
      obtain ⟨r4, hb4, hF⟩ := Option.bind_eq_some_iff.1 hF
      refine T.step (W1.call (vT2 (vSc eStr) (vSc eInt)) r4 50 #[.slice A1 p0.length c1, .int .i64 p2, .int .i64 p3, .int .i64 p3] (by kernel_rfl) (fun _ => by kernel_rfl) (fun w' hh => stream_Read_l F p0 p2 p3 p3 r4 hb4 w' A1 c1 (SlOk.mono (SlOk.mono hs1 (View.le_trans (View.le_trans hV1 hV2) hV3)) hh.view)) ?_)
      intro u V4 hV4 hu
      obtain rfl := (Sure.t2 sureStr sureInt) _ _ _ hu
      refine T.pure (.tuple #[.string r4.1, .int .i64 r4.2]) (by kernel_rfl) (fun _ => by kernel_rfl) ?_
      refine T.pure (.string r4.1) (by kernel_rfl) (fun _ => by kernel_rfl) ?_
      refine T.pure (.int .i64 r4.2) (by kernel_rfl) (fun _ => by kernel_rfl) ?_
      refine T.pure (.string r4.1) (by kernel_rfl) (fun _ => by kernel_rfl) ?_
      refine T.pure (.int .i64 r4.2) (by kernel_rfl) (fun _ => by kernel_rfl) ?_
      refine T.nil ?_
      refine T.seq ?_
      refine T.seq ?_
      refine T.region ?_
      refine T.pure (.int .i64 r4.2) (by kernel_rfl) (fun _ => by kernel_rfl) ?_
      refine T.pure (.bool (r4.2 != 0)) (by kernel_rfl) (fun _ => by kernel_rfl) ?_
      refine T.nil ?_
      refine T.cond (r4.2 != 0) (by kernel_rfl) (by kernel_rfl) (fun hc2 => ?_) (fun hc2 => ?_)
      ·
        rw [hc2, cond_true] at hF
        refine T.seq ?_
        refine T.region ?_
        refine T.pure (.string r4.1) (by kernel_rfl) (fun _ => by kernel_rfl) ?_
        refine T.pure (.bool (seq r4.1 (ByteArray.mk #[]))) (by kernel_rfl) (fun _ => by kernel_rfl) ?_
        refine T.pure (.bool (seq r4.1 (ByteArray.mk #[]))) (by kernel_rfl) (fun _ => by kernel_rfl) ?_
        refine T.nil ?_
        cases hF
        refine T.ret rfl ?_
        exact T.ret1 rfl (ResIs.tmp rfl) fun w' hh => ⟨_, rfl, hh.below, (show _ from rfl)⟩
      ·
        rw [hc2, cond_false] at hF
        refine T.skip_code ?_
        refine T.seq ?_
        refine T.region ?_
        refine T.pure (.slice A2 p1.length c2) (by kernel_rfl) (fun _ => by kernel_rfl) ?_
        refine T.pure (.string r4.1) (by kernel_rfl) (fun _ => by kernel_rfl) ?_
        obtain ⟨r5, hb5, hF⟩ := Option.bind_eq_some_iff.1 hF
        refine T.step (W1.call (vT2 (vSc (eList eElem)) (vSc eInt)) r5 51 #[.slice A2 p1.length c2, .string r4.1] (by kernel_rfl) (fun _ => by kernel_rfl) (fun w' hh => stream_Feed_l F p1 r4.1 r5 hb5 w' A2 c2 (SlOk.mono (SlOk.mono hs2 (View.le_trans (View.le_trans (View.le_trans hV1 hV2) hV3) hV4)) hh.view)) ?_)
        intro u V5 hV5 hu
        obtain ⟨u3, u4, rfl, hu3, hu4⟩ := vT2_elim hu
        obtain ⟨A4, c4, rfl, hs4⟩ := vlist_elim hu3
        obtain rfl := sureInt _ _ _ hu4
        refine T.pure (.tuple #[.slice A4 r5.1.length c4, .int .i64 r5.2]) (by kernel_rfl) (fun _ => by kernel_rfl) ?_
        refine T.pure (.slice A4 r5.1.length c4) (by kernel_rfl) (fun _ => by kernel_rfl) ?_
        refine T.pure (.int .i64 r5.2) (by kernel_rfl) (fun _ => by kernel_rfl) ?_
        refine T.pure (.slice A4 r5.1.length c4) (by kernel_rfl) (fun _ => by kernel_rfl) ?_
        refine T.pure (.int .i64 r5.2) (by kernel_rfl) (fun _ => by kernel_rfl) ?_
        refine T.nil ?_
        refine T.seq ?_
        refine T.seq ?_
        refine T.region ?_
        refine T.pure (.slice A2 p1.length c2) (by kernel_rfl) (fun _ => by kernel_rfl) ?_
        obtain ⟨r6, hb6, hF⟩ := Option.bind_eq_some_iff.1 hF
        refine T.step (W1.call (vSc eInt) r6 28 #[.slice A2 p1.length c2] (by kernel_rfl) (fun _ => by kernel_rfl) (fun w' hh => run_Check_l F p1 r6 hb6 w' A2 c2 (SlOk.mono (SlOk.mono hs2 (View.le_trans (View.le_trans (View.le_trans (View.le_trans hV1 hV2) hV3) hV4) hV5)) hh.view)) ?_)
        intro u V6 hV6 hu
        obtain rfl := sureInt _ _ _ hu
        refine T.pure (.bool (r6 != 0)) (by kernel_rfl) (fun _ => by kernel_rfl) ?_
        refine T.nil ?_
        refine T.cond (r6 != 0) (by kernel_rfl) (by kernel_rfl) (fun hc3 => ?_) (fun hc3 => ?_)
        ·
          rw [hc3, cond_true] at hF
          refine T.cut (fun a w' => Fr 76 [(8, .bool ((r5.2 != 0) && ((r5.1.length : Int) == 0)))] a ∧ Hp w V6 [] w') ?_ ?_
          ·
            refine T.region ?_
            refine T.pure (.int .i64 r5.2) (by kernel_rfl) (fun _ => by kernel_rfl) ?_
            refine T.pure (.bool (r5.2 != 0)) (by kernel_rfl) (fun _ => by kernel_rfl) ?_
            refine T.pure (.bool (r5.2 != 0)) (by kernel_rfl) (fun _ => by kernel_rfl) ?_
            cases hg4 : (r5.2 != 0)
            ·
              skip
              refine T.pass (by kernel_rfl) (by kernel_rfl) ?_
              refine T.pass (by kernel_rfl) (by kernel_rfl) ?_
              refine T.pass (by kernel_rfl) (by kernel_rfl) ?_
              refine T.pure (.bool false) (by kernel_rfl) (fun _ => by kernel_rfl) ?_
              refine T.pure (.bool false) (by kernel_rfl) (fun _ => by kernel_rfl) ?_
              refine T.nil ?_
              exact fun a w' hf hh => And.intro ((Fr.nil hf).pick hf 8 rfl) (hh.sub List.Sublist.slnil)
            ·
              skip
              refine T.pure (.slice A4 r5.1.length c4) (by kernel_rfl) (fun _ => by kernel_rfl) ?_
              refine T.pure (.int .i64 (r5.1.length : Int)) (by kernel_rfl) (fun _ => by kernel_rfl) ?_
              refine T.pure (.bool ((r5.1.length : Int) == 0)) (by kernel_rfl) (fun _ => by kernel_rfl) ?_
              refine T.pure (.bool ((r5.1.length : Int) == 0)) (by kernel_rfl) (fun _ => by kernel_rfl) ?_
              refine T.pure (.bool ((r5.1.length : Int) == 0)) (by kernel_rfl) (fun _ => by kernel_rfl) ?_
              refine T.nil ?_
              exact fun a w' hf hh => And.intro ((Fr.nil hf).pick hf 8 rfl) (hh.sub List.Sublist.slnil)
          ·
            rintro a w' ⟨hf, hh⟩
            refine (?_ : T 76 w V6 [] [(8, .bool ((r5.2 != 0) && ((r5.1.length : Int) == 0)))] _) a w' hf hh
            clear hf hh
            cases hF
            refine T.ret rfl ?_
            exact T.ret1 rfl (ResIs.tmp rfl) fun w' hh => ⟨_, rfl, hh.below, (show _ from rfl)⟩
        ·
          rw [hc3, cond_false] at hF
          refine T.skip_code ?_
          obtain ⟨z1, hX1, hF⟩ := Option.bind_eq_some_iff.1 hF
          refine T.cut (fun a w' => ∃ (V7 : View), View.le V6 V7 ∧ Fr 76 [(8, .bool z1)] a ∧ Hp w V7 [] w') ?_ ?_
          ·
            refine T.region ?_
            refine T.pure (.int .i64 r5.2) (by kernel_rfl) (fun _ => by kernel_rfl) ?_
            refine T.pure (.bool (r5.2 == 0)) (by kernel_rfl) (fun _ => by kernel_rfl) ?_
            refine T.pure (.bool (r5.2 == 0)) (by kernel_rfl) (fun _ => by kernel_rfl) ?_
            cases hg5 : (r5.2 == 0)
            ·
              skip
              rw [hg5, cond_false] at hX1
              refine T.pass (by kernel_rfl) (by kernel_rfl) ?_
              refine T.pass (by kernel_rfl) (by kernel_rfl) ?_
              refine T.pass (by kernel_rfl) (by kernel_rfl) ?_
              refine T.pure (.bool false) (by kernel_rfl) (fun _ => by kernel_rfl) ?_
              refine T.pure (.bool false) (by kernel_rfl) (fun _ => by kernel_rfl) ?_
              refine T.nil ?_
              cases hX1
              exact fun a w' hf hh => Exists.intro V6 (And.intro (View.le_refl _) (And.intro ((Fr.nil hf).pick hf 8 rfl) (hh.sub List.Sublist.slnil)))
            ·
              skip
              rw [hg5, cond_true] at hX1
              refine T.pure (.slice A4 r5.1.length c4) (by kernel_rfl) (fun _ => by kernel_rfl) ?_
              refine T.pure (.slice A2 p1.length c2) (by kernel_rfl) (fun _ => by kernel_rfl) ?_
              obtain ⟨r7, hb7, hX1⟩ := Option.bind_eq_some_iff.1 hX1
              refine T.step (W1.call (vSc eBool) r7 26 #[.slice A4 r5.1.length c4, .slice A2 p1.length c2] (by kernel_rfl) (fun _ => by kernel_rfl) (fun w' hh => slices_Equal_Elem_l F r5.1 p1 r7 hb7 w' A4 c4 (SlOk.mono (SlOk.mono hs4 (View.le_trans (made_le _ _) hV6)) hh.view) A2 c2 (SlOk.mono (SlOk.mono hs2 (View.le_trans (View.le_trans (View.le_trans (View.le_trans (View.le_trans hV1 hV2) hV3) hV4) hV5) hV6)) hh.view)) ?_)
              intro u V8 hV8 hu
              obtain rfl := sureBool _ _ _ hu
              refine T.pure (.bool r7) (by kernel_rfl) (fun _ => by kernel_rfl) ?_
              refine T.pure (.bool r7) (by kernel_rfl) (fun _ => by kernel_rfl) ?_
              refine T.nil ?_
              cases hX1
              exact fun a w' hf hh => Exists.intro V8 (And.intro hV8 (And.intro ((Fr.nil hf).pick hf 8 rfl) (hh.sub List.Sublist.slnil)))
          ·
            rintro a w' ⟨V7, hV7, hf, hh⟩
            refine (?_ : T 76 w V7 [] [(8, .bool z1)] _) a w' hf hh
            clear hf hh
            cases hF
            refine T.ret rfl ?_
            exact T.ret1 rfl (ResIs.tmp rfl) fun w' hh => ⟨_, rfl, hh.below, (show _ from rfl)⟩

end Go.Proofs.Ytldlakjemifdmaa
