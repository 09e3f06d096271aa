/- The Go functions of group WRunNow compute the pure functions of that group: written by walkgen.py. Condition of each: the pure function yields a result. -/
import Derived.Test.YtiaoncjkfgebdaaRunL
import Derived.Test.YtiaoncjkfgebdaaEqsL
import Derived.Test.YtiaoncjkfgebdaaWRunNowF
import Derived.Test.YtiaoncjkfgebdaaEqL
namespace Go.Proofs.Ytiaoncjkfgebdaa
set_option linter.unusedVariables false

set_option maxRecDepth 100000 in
set_option maxHeartbeats 4000000 in
theorem annalkeep_RunNow_l (F : Nat) (p0 : (List DElem)) (p1 : DKey) (p2 : ByteArray) (p3 : Int) (p4 : Int) (r : Bool) (hF : annalkeep_RunNow F p0 p1 p2 p3 p4 = some r) (w : World) (A1 : Option Addr) (c1 : Nat) (hs1 : SlOk (vw w) eElem A1 c1 p0) :
    Calls Try.prog 14 #[.slice A1 p0.length c1, .agg #[.int .i64 p1.pfs, .int .i64 p1.obj, .int .i64 p1.off], .string p2, .int .i64 p3, .int .i64 p4] w (Post (vSc eBool) r w) := by
  unfold annalkeep_RunNow at hF
  refine T.start (l := [.slice A1 p0.length c1, .agg #[.int .i64 p1.pfs, .int .i64 p1.obj, .int .i64 p1.off], .string p2, .int .i64 p3, .int .i64 p4]) Try.func14 rfl rfl rfl ?_
  refine T.seq ?_
  refine T.region ?_
  refine T.step (W1.new 24 [.int .i64 p1.pfs, .int .i64 p1.obj, .int .i64 p1.off] (fun b => .pointer (some ⟨b, 0, none⟩)) (by kernel_rfl) (fun _ => by kernel_rfl) (fun b1 => ?_))
  refine T.pure (.bool false) (by kernel_rfl) (fun _ => by kernel_rfl) ?_
  refine T.nil ?_
  refine T.seq ?_
  refine T.seq ?_
  refine T.region ?_
  obtain ⟨r1, hb1, hF⟩ := Option.bind_eq_some_iff.1 hF
  refine T.step (W1.call (vAg eElem) r1 31 #[.int .i64 1, .string (ByteArray.mk #[97])] (by kernel_rfl) (fun _ => by kernel_rfl) (fun w' hh => annalkeep_at1_l 1 (ByteArray.mk #[97]) r1 hb1 w' ) ?_)
  intro u V1 hV1 hu
  obtain rfl := sureElem _ _ _ hu
  refine T.step (W1.new 26 [.int .i64 r1.key.pfs, .int .i64 r1.key.obj, .int .i64 r1.key.off, .int .i64 r1.made, .int .i64 r1.gone, .string r1.val] (fun b => .slice (some ⟨b, 0, none⟩) 1 1) (by kernel_rfl) (fun _ => by kernel_rfl) (fun b2 => ?_))
  refine T.pure (.agg #[.int .i64 0, .int .i64 0, .int .i64 1]) (by kernel_rfl) (fun _ => by kernel_rfl) ?_
  obtain ⟨r2, hb2, hF⟩ := Option.bind_eq_some_iff.1 hF
  refine T.step (W1.call (vT2 (vSc (eList eElem)) (vSc eInt)) r2 50 #[.slice (some ⟨b2, 0, none⟩) 1 1, .agg #[.int .i64 0, .int .i64 0, .int .i64 1], .int .i64 1] (by kernel_rfl) (fun _ => by kernel_rfl) (fun w' hh => run_Cut_l F [r1] (DKey.mk 0 0 1) 1 r2 hb2 w' (some ⟨b2, 0, none⟩) 1 (slok_lit (E := eElem) (f := DElem.cells) [r1] (fun _ _ => rfl) (Nat.le_of_ble_eq_true (by rfl)) (fun j => hh.cellBox (i := 0) (by rfl) j))) ?_)
  intro u V2 hV2 hu
  obtain ⟨u1, u2, rfl, hu1, hu2⟩ := vT2_elim hu
  obtain ⟨A2, c2, rfl, hs2⟩ := vlist_elim hu1
  obtain rfl := sureInt _ _ _ hu2
  refine T.pure (.tuple #[.slice A2 r2.1.length c2, .int .i64 r2.2]) (by kernel_rfl) (fun _ => by kernel_rfl) ?_
  refine T.pure (.slice A2 r2.1.length c2) (by kernel_rfl) (fun _ => by kernel_rfl) ?_
  refine T.pure (.int .i64 r2.2) (by kernel_rfl) (fun _ => by kernel_rfl) ?_
  refine T.pure (.slice A2 r2.1.length c2) (by kernel_rfl) (fun _ => by kernel_rfl) ?_
  refine T.pure (.int .i64 r2.2) (by kernel_rfl) (fun _ => by kernel_rfl) ?_
  refine T.nil ?_
  refine T.cut (fun a w' => Fr 109 [(0, .slice A1 p0.length c1), (2, .string p2), (3, .int .i64 p3), (4, .int .i64 p4), (6, .pointer (some ⟨b1, 0, none⟩)), (35, .bool ((r2.2 != 0) || ((r2.1.length : Int) != 0)))] a ∧ Hp w V2 [box b1 24 [.int .i64 p1.pfs, .int .i64 p1.obj, .int .i64 p1.off]] w') ?_ ?_
  ·
    refine T.region ?_
    refine T.pure (.int .i64 r2.2) (by kernel_rfl) (fun _ => by kernel_rfl) ?_
    refine T.pure (.bool (r2.2 != 0)) (by kernel_rfl) (fun _ => by kernel_rfl) ?_
    refine T.pure (.bool (r2.2 != 0)) (by kernel_rfl) (fun _ => by kernel_rfl) ?_
    cases hg1 : (r2.2 != 0)
    ·
      skip
      refine T.pure (.slice A2 r2.1.length c2) (by kernel_rfl) (fun _ => by kernel_rfl) ?_
      refine T.pure (.int .i64 (r2.1.length : Int)) (by kernel_rfl) (fun _ => by kernel_rfl) ?_
      refine T.pure (.bool ((r2.1.length : Int) != 0)) (by kernel_rfl) (fun _ => by kernel_rfl) ?_
      refine T.pure (.bool ((r2.1.length : Int) != 0)) (by kernel_rfl) (fun _ => by kernel_rfl) ?_
      refine T.nil ?_
      exact fun a w' hf hh => And.intro (((((((Fr.nil hf).pick hf 35 rfl).pick hf 6 rfl).pick hf 4 rfl).pick hf 3 rfl).pick hf 2 rfl).pick hf 0 rfl) (hh.sub (.cons _ (.cons_cons _ List.Sublist.slnil)))
    ·
      skip
      refine T.pass (by kernel_rfl) (by kernel_rfl) ?_
      refine T.pass (by kernel_rfl) (by kernel_rfl) ?_
      refine T.pass (by kernel_rfl) (by kernel_rfl) ?_
      refine T.pure (.bool true) (by kernel_rfl) (fun _ => by kernel_rfl) ?_
      refine T.nil ?_
      exact fun a w' hf hh => And.intro (((((((Fr.nil hf).pick hf 35 rfl).pick hf 6 rfl).pick hf 4 rfl).pick hf 3 rfl).pick hf 2 rfl).pick hf 0 rfl) (hh.sub (.cons _ (.cons_cons _ List.Sublist.slnil)))
  ·
    rintro a w' ⟨hf, hh⟩
    refine (?_ : T 109 w V2 [box b1 24 [.int .i64 p1.pfs, .int .i64 p1.obj, .int .i64 p1.off]] [(0, .slice A1 p0.length c1), (2, .string p2), (3, .int .i64 p3), (4, .int .i64 p4), (6, .pointer (some ⟨b1, 0, none⟩)), (35, .bool ((r2.2 != 0) || ((r2.1.length : Int) != 0)))] _) a w' hf hh
    clear hf hh
    refine T.cond ((r2.2 != 0) || ((r2.1.length : Int) != 0)) (by kernel_rfl) (by kernel_rfl) (fun hc1 => ?_) (fun hc1 => ?_)
    ·
      rw [hc1, cond_true] at hF
      refine T.seq ?_
      refine T.region ?_
      refine T.pure (.bool false) (by kernel_rfl) (fun _ => by kernel_rfl) ?_
      refine T.nil ?_
      cases hF
      refine T.ret rfl ?_
      exact T.ret1 rfl (ResIs.tmp rfl) fun w' hh => ⟨_, rfl, hh.below, (show _ from rfl)⟩
    ·
      rw [hc1, cond_false] at hF
      refine T.skip_code ?_
      refine T.seq ?_
      refine T.seq ?_
      refine T.region ?_
      refine T.pure (.agg #[.int .i64 0, .int .i64 0, .int .i64 1]) (by kernel_rfl) (fun _ => by kernel_rfl) ?_
      obtain ⟨r3, hb3, hF⟩ := Option.bind_eq_some_iff.1 hF
      refine T.step (W1.call (vT2 (vSc (eList eElem)) (vSc eInt)) r3 48 #[.slice none 0 0, .agg #[.int .i64 0, .int .i64 0, .int .i64 1], .string (ByteArray.mk #[97]), .int .i64 1] (by kernel_rfl) (fun _ => by kernel_rfl) (fun w' hh => run_Put_l F ([] : List DElem) (DKey.mk 0 0 1) (ByteArray.mk #[97]) 1 r3 hb3 w' none 0 (SlOk.nil _ _)) ?_)
      intro u V3 hV3 hu
      obtain ⟨u3, u4, rfl, hu3, hu4⟩ := vT2_elim hu
      obtain ⟨A3, c3, rfl, hs3⟩ := vlist_elim hu3
      obtain rfl := sureInt _ _ _ hu4
      refine T.pure (.tuple #[.slice A3 r3.1.length c3, .int .i64 r3.2]) (by kernel_rfl) (fun _ => by kernel_rfl) ?_
      refine T.pure (.slice A3 r3.1.length c3) (by kernel_rfl) (fun _ => by kernel_rfl) ?_
      refine T.pure (.int .i64 r3.2) (by kernel_rfl) (fun _ => by kernel_rfl) ?_
      refine T.pure (.slice A3 r3.1.length c3) (by kernel_rfl) (fun _ => by kernel_rfl) ?_
      refine T.pure (.int .i64 r3.2) (by kernel_rfl) (fun _ => by kernel_rfl) ?_
      refine T.nil ?_
      obtain ⟨z1, hX1, hF⟩ := Option.bind_eq_some_iff.1 hF
      refine T.cut (fun a w' => ∃ (V4 : View), View.le V3 V4 ∧ Fr 109 [(0, .slice A1 p0.length c1), (2, .string p2), (3, .int .i64 p3), (4, .int .i64 p4), (6, .pointer (some ⟨b1, 0, none⟩)), (49, .bool z1)] a ∧ Hp w V4 [box b1 24 [.int .i64 p1.pfs, .int .i64 p1.obj, .int .i64 p1.off]] w') ?_ ?_
      ·
        refine T.region ?_
        refine T.pure (.int .i64 r3.2) (by kernel_rfl) (fun _ => by kernel_rfl) ?_
        refine T.pure (.bool (r3.2 != 0)) (by kernel_rfl) (fun _ => by kernel_rfl) ?_
        refine T.pure (.bool (r3.2 != 0)) (by kernel_rfl) (fun _ => by kernel_rfl) ?_
        cases hg2 : (r3.2 != 0)
        ·
          skip
          rw [hg2, cond_false] at hX1
          refine T.pure (.slice A3 r3.1.length c3) (by kernel_rfl) (fun _ => by kernel_rfl) ?_
          obtain ⟨r4, hb4, hX1⟩ := Option.bind_eq_some_iff.1 hX1
          refine T.step (W1.call (vAg eElem) r4 31 #[.int .i64 1, .string (ByteArray.mk #[97])] (by kernel_rfl) (fun _ => by kernel_rfl) (fun w' hh => annalkeep_at1_l 1 (ByteArray.mk #[97]) r4 hb4 w' ) ?_)
          intro u V5 hV5 hu
          obtain rfl := sureElem _ _ _ hu
          refine T.step (W1.new 26 [.int .i64 r4.key.pfs, .int .i64 r4.key.obj, .int .i64 r4.key.off, .int .i64 r4.made, .int .i64 r4.gone, .string r4.val] (fun b => .slice (some ⟨b, 0, none⟩) 1 1) (by kernel_rfl) (fun _ => by kernel_rfl) (fun b3 => ?_))
          obtain ⟨r5, hb5, hX1⟩ := Option.bind_eq_some_iff.1 hX1
          refine T.step (W1.call (vSc eBool) r5 29 #[.slice A3 r3.1.length c3, .slice (some ⟨b3, 0, none⟩) 1 1] (by kernel_rfl) (fun _ => by kernel_rfl) (fun w' hh => slices_Equal_Elem_l F r3.1 [r4] r5 hb5 w' A3 c3 (SlOk.mono (SlOk.mono hs3 (View.le_trans (made_le _ _) hV5)) hh.view) (some ⟨b3, 0, none⟩) 1 (slok_lit (E := eElem) (f := DElem.cells) [r4] (fun _ _ => rfl) (Nat.le_of_ble_eq_true (by rfl)) (fun j => hh.cellBox (i := 0) (by rfl) j))) ?_)
          intro u V6 hV6 hu
          obtain rfl := sureBool _ _ _ hu
          refine T.pure (.bool (!r5)) (by kernel_rfl) (fun _ => by kernel_rfl) ?_
          refine T.pure (.bool (!r5)) (by kernel_rfl) (fun _ => by kernel_rfl) ?_
          refine T.nil ?_
          cases hX1
          exact fun a w' hf hh => Exists.intro V6 (And.intro (View.le_trans hV5 hV6) (And.intro (((((((Fr.nil hf).pick hf 49 rfl).pick hf 6 rfl).pick hf 4 rfl).pick hf 3 rfl).pick hf 2 rfl).pick hf 0 rfl) (hh.sub (.cons _ (.cons_cons _ List.Sublist.slnil)))))
        ·
          skip
          rw [hg2, cond_true] at hX1
          refine T.pass (by kernel_rfl) (by kernel_rfl) ?_
          refine T.pass (by kernel_rfl) (by kernel_rfl) ?_
          refine T.pass (by kernel_rfl) (by kernel_rfl) ?_
          refine T.pass (by kernel_rfl) (by kernel_rfl) ?_
          refine T.pass (by kernel_rfl) (by kernel_rfl) ?_
          refine T.pure (.bool true) (by kernel_rfl) (fun _ => by kernel_rfl) ?_
          refine T.nil ?_
          cases hX1
          exact fun a w' hf hh => Exists.intro V3 (And.intro (View.le_refl _) (And.intro (((((((Fr.nil hf).pick hf 49 rfl).pick hf 6 rfl).pick hf 4 rfl).pick hf 3 rfl).pick hf 2 rfl).pick hf 0 rfl) (hh.sub (.cons_cons _ List.Sublist.slnil))))
      ·
        rintro a w' ⟨V4, hV4, hf, hh⟩
        refine (?_ : T 109 w V4 [box b1 24 [.int .i64 p1.pfs, .int .i64 p1.obj, .int .i64 p1.off]] [(0, .slice A1 p0.length c1), (2, .string p2), (3, .int .i64 p3), (4, .int .i64 p4), (6, .pointer (some ⟨b1, 0, none⟩)), (49, .bool z1)] _) a w' hf hh
        clear hf hh
        refine T.cond z1 (by kernel_rfl) (by kernel_rfl) (fun hc2 => ?_) (fun hc2 => ?_)
        ·
          rw [hc2, cond_true] at hF
          refine T.seq ?_
          refine T.region ?_
          refine T.pure (.bool false) (by kernel_rfl) (fun _ => by kernel_rfl) ?_
          refine T.nil ?_
          cases hF
          refine T.ret rfl ?_
          exact T.ret1 rfl (ResIs.tmp rfl) fun w' hh => ⟨_, rfl, hh.below, (show _ from rfl)⟩
        ·
          rw [hc2, cond_false] at hF
          refine T.skip_code ?_
          refine T.seq ?_
          refine T.region ?_
          refine T.pure (.int .i64 p4) (by kernel_rfl) (fun _ => by kernel_rfl) ?_
          refine T.pure (.int .i64 p3) (by kernel_rfl) (fun _ => by kernel_rfl) ?_
          refine T.pure (.int .i64 (if p4 < p3 then p3 else p4)) (by kernel_rfl) (fun _ => by kernel_rfl) ?_
          refine T.pure (.int .i64 (if p4 < p3 then p3 else p4)) (by kernel_rfl) (fun _ => by kernel_rfl) ?_
          refine T.nil ?_
          refine T.seq ?_
          refine T.region ?_
          refine T.pure (.slice A1 p0.length c1) (by kernel_rfl) (fun _ => by kernel_rfl) ?_
          refine T.look (.agg #[.int .i64 p1.pfs, .int .i64 p1.obj, .int .i64 p1.off]) (by kernel_rfl) (fun w' hh => exec_loadN (cs := [.int .i64 p1.pfs, .int .i64 p1.obj, .int .i64 p1.off]) rfl rfl (by kernel_rfl) (by kernel_rfl) (fun j u hj => (hh.box_at (i := 0) (cs := [.int .i64 p1.pfs, .int .i64 p1.obj, .int .i64 p1.off]) (by rfl) 0 j).trans (seg_at (n := 3) rfl hj))) ?_
          refine T.pure (.string p2) (by kernel_rfl) (fun _ => by kernel_rfl) ?_
          refine T.pure (.int .i64 p3) (by kernel_rfl) (fun _ => by kernel_rfl) ?_
          obtain ⟨r6, hb6, hF⟩ := Option.bind_eq_some_iff.1 hF
          refine T.step (W1.call (vT2 (vSc (eList eElem)) (vSc eInt)) r6 48 #[.slice A1 p0.length c1, .agg #[.int .i64 p1.pfs, .int .i64 p1.obj, .int .i64 p1.off], .string p2, .int .i64 p3] (by kernel_rfl) (fun _ => by kernel_rfl) (fun w' hh => run_Put_l F p0 p1 p2 p3 r6 hb6 w' A1 c1 (SlOk.mono (SlOk.mono hs1 (View.le_trans (View.le_trans (View.le_trans hV1 hV2) hV3) hV4)) hh.view)) ?_)
          intro u V7 hV7 hu
          obtain ⟨u5, u6, rfl, hu5, hu6⟩ := vT2_elim hu
          obtain ⟨A4, c4, rfl, hs4⟩ := vlist_elim hu5
          obtain rfl := sureInt _ _ _ hu6
          refine T.pure (.tuple #[.slice A4 r6.1.length c4, .int .i64 r6.2]) (by kernel_rfl) (fun _ => by kernel_rfl) ?_
          refine T.pure (.slice A4 r6.1.length c4) (by kernel_rfl) (fun _ => by kernel_rfl) ?_
          refine T.pure (.int .i64 r6.2) (by kernel_rfl) (fun _ => by kernel_rfl) ?_
          refine T.pure (.slice A4 r6.1.length c4) (by kernel_rfl) (fun _ => by kernel_rfl) ?_
          refine T.pure (.int .i64 r6.2) (by kernel_rfl) (fun _ => by kernel_rfl) ?_
          refine T.nil ?_
          obtain ⟨q1, hX2, hF⟩ := Option.bind_eq_some_iff.1 hF
          refine T.cut (fun a w' => q1 = Sum.inl () ∧ ∃ (V8 : View), View.le V7 V8 ∧ Fr 109 [(0, .slice A1 p0.length c1), (3, .int .i64 p3), (4, .int .i64 (if p4 < p3 then p3 else p4)), (6, .pointer (some ⟨b1, 0, none⟩))] a ∧ Hp w V8 [box b1 24 [.int .i64 p1.pfs, .int .i64 p1.obj, .int .i64 p1.off]] w') ?_ ?_
          ·
            refine T.seq ?_
            refine T.region ?_
            refine T.pure (.int .i64 r6.2) (by kernel_rfl) (fun _ => by kernel_rfl) ?_
            refine T.pure (.bool (r6.2 == 0)) (by kernel_rfl) (fun _ => by kernel_rfl) ?_
            refine T.nil ?_
            refine T.cond (r6.2 == 0) (by kernel_rfl) (by kernel_rfl) (fun hc3 => ?_) (fun hc3 => ?_)
            ·
              rw [hc3, cond_true] at hX2
              refine T.seq ?_
              refine T.region ?_
              refine T.pure (.slice A4 r6.1.length c4) (by kernel_rfl) (fun _ => by kernel_rfl) ?_
              refine T.look (.agg #[.int .i64 p1.pfs, .int .i64 p1.obj, .int .i64 p1.off]) (by kernel_rfl) (fun w' hh => exec_loadN (cs := [.int .i64 p1.pfs, .int .i64 p1.obj, .int .i64 p1.off]) rfl rfl (by kernel_rfl) (by kernel_rfl) (fun j u hj => (hh.box_at (i := 0) (cs := [.int .i64 p1.pfs, .int .i64 p1.obj, .int .i64 p1.off]) (by rfl) 0 j).trans (seg_at (n := 3) rfl hj))) ?_
              refine T.pure (.int .i64 (if p4 < p3 then p3 else p4)) (by kernel_rfl) (fun _ => by kernel_rfl) ?_
              obtain ⟨r7, hb7, hX2⟩ := Option.bind_eq_some_iff.1 hX2
              refine T.step (W1.call (vT2 (vAg eElem) (vSc eInt)) r7 44 #[.slice A4 r6.1.length c4, .agg #[.int .i64 p1.pfs, .int .i64 p1.obj, .int .i64 p1.off], .int .i64 (if p4 < p3 then p3 else p4)] (by kernel_rfl) (fun _ => by kernel_rfl) (fun w' hh => run_At_l F r6.1 p1 (if p4 < p3 then p3 else p4) r7 hb7 w' A4 c4 (SlOk.mono (SlOk.mono hs4 (View.le_trans (made_le _ _) (View.le_refl _))) hh.view)) ?_)
              intro u V9 hV9 hu
              obtain rfl := (Sure.t2 sureElem sureInt) _ _ _ hu
              refine T.pure (.tuple #[.agg #[.int .i64 r7.1.key.pfs, .int .i64 r7.1.key.obj, .int .i64 r7.1.key.off, .int .i64 r7.1.made, .int .i64 r7.1.gone, .string r7.1.val], .int .i64 r7.2]) (by kernel_rfl) (fun _ => by kernel_rfl) ?_
              refine T.pure (.agg #[.int .i64 r7.1.key.pfs, .int .i64 r7.1.key.obj, .int .i64 r7.1.key.off, .int .i64 r7.1.made, .int .i64 r7.1.gone, .string r7.1.val]) (by kernel_rfl) (fun _ => by kernel_rfl) ?_
              refine T.pure (.int .i64 r7.2) (by kernel_rfl) (fun _ => by kernel_rfl) ?_
              refine T.step (W1.new 26 [.int .i64 0, .int .i64 0, .int .i64 0, .int .i64 0, .int .i64 0, .string (ByteArray.mk #[])] (fun b => .pointer (some ⟨b, 0, none⟩)) (by kernel_rfl) (fun _ => by kernel_rfl) (fun b4 => ?_))
              refine T.step (W1.store 0 [.int .i64 r7.1.key.pfs, .int .i64 r7.1.key.obj, .int .i64 r7.1.key.off, .int .i64 r7.1.made, .int .i64 r7.1.gone, .string r7.1.val] [box b4 26 [.int .i64 r7.1.key.pfs, .int .i64 r7.1.key.obj, .int .i64 r7.1.key.off, .int .i64 r7.1.made, .int .i64 r7.1.gone, .string r7.1.val], box b1 24 [.int .i64 p1.pfs, .int .i64 p1.obj, .int .i64 p1.off]] (by rfl) rfl (by kernel_rfl) (fun w' hw => exec_store (vs := [.int .i64 r7.1.key.pfs, .int .i64 r7.1.key.obj, .int .i64 r7.1.key.off, .int .i64 r7.1.made, .int .i64 r7.1.gone, .string r7.1.val]) rfl rfl rfl rfl (by kernel_rfl) (one_of rfl) (by simp) rfl hw) ?_)
              refine T.pure (.int .i64 r7.2) (by kernel_rfl) (fun _ => by kernel_rfl) ?_
              refine T.nil ?_
              refine T.cut (fun a w' => Fr 109 [(0, .slice A1 p0.length c1), (3, .int .i64 p3), (4, .int .i64 (if p4 < p3 then p3 else p4)), (6, .pointer (some ⟨b1, 0, none⟩)), (82, .bool ((r7.2 != 0) || ((!(seq r7.1.val p2)) || (r7.1.gone != 0))))] a ∧ Hp w V9 [box b1 24 [.int .i64 p1.pfs, .int .i64 p1.obj, .int .i64 p1.off]] w') ?_ ?_
              ·
                refine T.region ?_
                refine T.pure (.int .i64 r7.2) (by kernel_rfl) (fun _ => by kernel_rfl) ?_
                refine T.pure (.bool (r7.2 != 0)) (by kernel_rfl) (fun _ => by kernel_rfl) ?_
                refine T.pure (.bool (r7.2 != 0)) (by kernel_rfl) (fun _ => by kernel_rfl) ?_
                cases hg3 : (r7.2 != 0)
                ·
                  skip
                  refine T.pure (.pointer (some ⟨b4, 5, none⟩)) (by kernel_rfl) (fun _ => by kernel_rfl) ?_
                  refine T.look (.string r7.1.val) (by kernel_rfl) (fun w' hh => exec_load1 rfl rfl (by kernel_rfl) (hh.cellBox (i := 0) (by rfl) 5)) ?_
                  refine T.pure (.string p2) (by kernel_rfl) (fun _ => by kernel_rfl) ?_
                  refine T.pure (.bool (!(seq r7.1.val p2))) (by kernel_rfl) (fun _ => by kernel_rfl) ?_
                  refine T.pure (.bool (!(seq r7.1.val p2))) (by kernel_rfl) (fun _ => by kernel_rfl) ?_
                  refine T.pure (.bool (!(seq r7.1.val p2))) (by kernel_rfl) (fun _ => by kernel_rfl) ?_
                  cases hg4 : (!(seq r7.1.val p2))
                  ·
                    skip
                    refine T.pure (.pointer (some ⟨b4, 4, none⟩)) (by kernel_rfl) (fun _ => by kernel_rfl) ?_
                    refine T.look (.int .i64 r7.1.gone) (by kernel_rfl) (fun w' hh => exec_load1 rfl rfl (by kernel_rfl) (hh.cellBox (i := 0) (by rfl) 4)) ?_
                    refine T.pure (.bool (r7.1.gone != 0)) (by kernel_rfl) (fun _ => by kernel_rfl) ?_
                    refine T.pure (.bool (r7.1.gone != 0)) (by kernel_rfl) (fun _ => by kernel_rfl) ?_
                    refine T.nil ?_
                    exact fun a w' hf hh => And.intro ((((((Fr.nil hf).pick hf 82 rfl).pick hf 6 rfl).pick hf 4 rfl).pick hf 3 rfl).pick hf 0 rfl) (hh.sub (.cons _ (.cons_cons _ List.Sublist.slnil)))
                  ·
                    skip
                    refine T.pass (by kernel_rfl) (by kernel_rfl) ?_
                    refine T.pass (by kernel_rfl) (by kernel_rfl) ?_
                    refine T.pass (by kernel_rfl) (by kernel_rfl) ?_
                    refine T.pure (.bool true) (by kernel_rfl) (fun _ => by kernel_rfl) ?_
                    refine T.nil ?_
                    exact fun a w' hf hh => And.intro ((((((Fr.nil hf).pick hf 82 rfl).pick hf 6 rfl).pick hf 4 rfl).pick hf 3 rfl).pick hf 0 rfl) (hh.sub (.cons _ (.cons_cons _ List.Sublist.slnil)))
                ·
                  skip
                  refine T.pass (by kernel_rfl) (by kernel_rfl) ?_
                  refine T.pass (by kernel_rfl) (by kernel_rfl) ?_
                  refine T.pass (by kernel_rfl) (by kernel_rfl) ?_
                  refine T.pass (by kernel_rfl) (by kernel_rfl) ?_
                  refine T.pure (.bool true) (by kernel_rfl) (fun _ => by kernel_rfl) ?_
                  refine T.pure (.bool true) (by kernel_rfl) (fun _ => by kernel_rfl) ?_
                  refine T.pass (by kernel_rfl) (by kernel_rfl) ?_
                  refine T.pass (by kernel_rfl) (by kernel_rfl) ?_
                  refine T.pass (by kernel_rfl) (by kernel_rfl) ?_
                  refine T.pure (.bool true) (by kernel_rfl) (fun _ => by kernel_rfl) ?_
                  refine T.nil ?_
                  exact fun a w' hf hh => And.intro ((((((Fr.nil hf).pick hf 82 rfl).pick hf 6 rfl).pick hf 4 rfl).pick hf 3 rfl).pick hf 0 rfl) (hh.sub (.cons _ (.cons_cons _ List.Sublist.slnil)))
              ·
                rintro a w' ⟨hf, hh⟩
                refine (?_ : T 109 w V9 [box b1 24 [.int .i64 p1.pfs, .int .i64 p1.obj, .int .i64 p1.off]] [(0, .slice A1 p0.length c1), (3, .int .i64 p3), (4, .int .i64 (if p4 < p3 then p3 else p4)), (6, .pointer (some ⟨b1, 0, none⟩)), (82, .bool ((r7.2 != 0) || ((!(seq r7.1.val p2)) || (r7.1.gone != 0))))] _) a w' hf hh
                clear hf hh
                refine T.cond ((r7.2 != 0) || ((!(seq r7.1.val p2)) || (r7.1.gone != 0))) (by kernel_rfl) (by kernel_rfl) (fun hc4 => ?_) (fun hc4 => ?_)
                ·
                  rw [hc4, cond_true] at hX2
                  refine T.seq ?_
                  refine T.region ?_
                  refine T.pure (.bool false) (by kernel_rfl) (fun _ => by kernel_rfl) ?_
                  refine T.nil ?_
                  cases hX2
                  try dsimp only at hF
                  cases hF
                  refine T.ret rfl ?_
                  exact T.ret1 rfl (ResIs.tmp rfl) fun w' hh => ⟨_, rfl, hh.below, (show _ from rfl)⟩
                ·
                  rw [hc4, cond_false] at hX2
                  refine T.skip_code ?_
                  cases hX2
                  exact fun a w' hf hh => And.intro rfl (Exists.intro V9 (And.intro hV9 (And.intro (((((Fr.nil hf).pick hf 6 rfl).pick hf 4 rfl).pick hf 3 rfl).pick hf 0 rfl) (hh.sub (.cons_cons _ List.Sublist.slnil)))))
            ·
              rw [hc3, cond_false] at hX2
              refine T.skip_code ?_
              cases hX2
              exact fun a w' hf hh => And.intro rfl (Exists.intro V7 (And.intro (View.le_refl _) (And.intro (((((Fr.nil hf).pick hf 6 rfl).pick hf 4 rfl).pick hf 3 rfl).pick hf 0 rfl) (hh.sub (.cons_cons _ List.Sublist.slnil)))))
          ·
            rintro a w' ⟨rfl, V8, hV8, hf, hh⟩
            try dsimp only at hF
            refine (?_ : T 109 w V8 [box b1 24 [.int .i64 p1.pfs, .int .i64 p1.obj, .int .i64 p1.off]] [(0, .slice A1 p0.length c1), (3, .int .i64 p3), (4, .int .i64 (if p4 < p3 then p3 else p4)), (6, .pointer (some ⟨b1, 0, none⟩))] _) a w' hf hh
            clear hf hh
            refine T.seq ?_
            refine T.region ?_
            refine T.pure (.slice A1 p0.length c1) (by kernel_rfl) (fun _ => by kernel_rfl) ?_
            refine T.look (.agg #[.int .i64 p1.pfs, .int .i64 p1.obj, .int .i64 p1.off]) (by kernel_rfl) (fun w' hh => exec_loadN (cs := [.int .i64 p1.pfs, .int .i64 p1.obj, .int .i64 p1.off]) rfl rfl (by kernel_rfl) (by kernel_rfl) (fun j u hj => (hh.box_at (i := 0) (cs := [.int .i64 p1.pfs, .int .i64 p1.obj, .int .i64 p1.off]) (by rfl) 0 j).trans (seg_at (n := 3) rfl hj))) ?_
            refine T.pure (.int .i64 p3) (by kernel_rfl) (fun _ => by kernel_rfl) ?_
            obtain ⟨r8, hb8, hF⟩ := Option.bind_eq_some_iff.1 hF
            refine T.step (W1.call (vT2 (vSc (eList eElem)) (vSc eInt)) r8 50 #[.slice A1 p0.length c1, .agg #[.int .i64 p1.pfs, .int .i64 p1.obj, .int .i64 p1.off], .int .i64 p3] (by kernel_rfl) (fun _ => by kernel_rfl) (fun w' hh => run_Cut_l F p0 p1 p3 r8 hb8 w' A1 c1 (SlOk.mono (SlOk.mono hs1 (View.le_trans (View.le_trans (View.le_trans (View.le_trans (View.le_trans hV1 hV2) hV3) hV4) hV7) hV8)) hh.view)) ?_)
            intro u V10 hV10 hu
            obtain ⟨u7, u8, rfl, hu7, hu8⟩ := vT2_elim hu
            obtain ⟨A5, c5, rfl, hs5⟩ := vlist_elim hu7
            obtain rfl := sureInt _ _ _ hu8
            refine T.pure (.tuple #[.slice A5 r8.1.length c5, .int .i64 r8.2]) (by kernel_rfl) (fun _ => by kernel_rfl) ?_
            refine T.pure (.slice A5 r8.1.length c5) (by kernel_rfl) (fun _ => by kernel_rfl) ?_
            refine T.pure (.int .i64 r8.2) (by kernel_rfl) (fun _ => by kernel_rfl) ?_
            refine T.pure (.slice A5 r8.1.length c5) (by kernel_rfl) (fun _ => by kernel_rfl) ?_
            refine T.pure (.int .i64 r8.2) (by kernel_rfl) (fun _ => by kernel_rfl) ?_
            refine T.nil ?_
            refine T.seq ?_
            refine T.seq ?_
            refine T.region ?_
            refine T.pure (.int .i64 r8.2) (by kernel_rfl) (fun _ => by kernel_rfl) ?_
            refine T.pure (.bool (r8.2 != 0)) (by kernel_rfl) (fun _ => by kernel_rfl) ?_
            refine T.nil ?_
            refine T.cond (r8.2 != 0) (by kernel_rfl) (by kernel_rfl) (fun hc5 => ?_) (fun hc5 => ?_)
            ·
              rw [hc5, cond_true] at hF
              refine T.seq ?_
              refine T.region ?_
              refine T.pure (.slice A5 r8.1.length c5) (by kernel_rfl) (fun _ => by kernel_rfl) ?_
              refine T.pure (.int .i64 (r8.1.length : Int)) (by kernel_rfl) (fun _ => by kernel_rfl) ?_
              refine T.pure (.bool ((r8.1.length : Int) == 0)) (by kernel_rfl) (fun _ => by kernel_rfl) ?_
              refine T.pure (.bool ((r8.1.length : Int) == 0)) (by kernel_rfl) (fun _ => by kernel_rfl) ?_
              refine T.nil ?_
              cases hF
              refine T.ret rfl ?_
              exact T.ret1 rfl (ResIs.tmp rfl) fun w' hh => ⟨_, rfl, hh.below, (show _ from rfl)⟩
            ·
              rw [hc5, cond_false] at hF
              refine T.skip_code ?_
              refine T.seq ?_
              refine T.region ?_
              refine T.pure (.slice A5 r8.1.length c5) (by kernel_rfl) (fun _ => by kernel_rfl) ?_
              refine T.look (.agg #[.int .i64 p1.pfs, .int .i64 p1.obj, .int .i64 p1.off]) (by kernel_rfl) (fun w' hh => exec_loadN (cs := [.int .i64 p1.pfs, .int .i64 p1.obj, .int .i64 p1.off]) rfl rfl (by kernel_rfl) (by kernel_rfl) (fun j u hj => (hh.box_at (i := 0) (cs := [.int .i64 p1.pfs, .int .i64 p1.obj, .int .i64 p1.off]) (by rfl) 0 j).trans (seg_at (n := 3) rfl hj))) ?_
              refine T.pure (.int .i64 (if p4 < p3 then p3 else p4)) (by kernel_rfl) (fun _ => by kernel_rfl) ?_
              obtain ⟨r9, hb9, hF⟩ := Option.bind_eq_some_iff.1 hF
              refine T.step (W1.call (vT2 (vAg eElem) (vSc eInt)) r9 44 #[.slice A5 r8.1.length c5, .agg #[.int .i64 p1.pfs, .int .i64 p1.obj, .int .i64 p1.off], .int .i64 (if p4 < p3 then p3 else p4)] (by kernel_rfl) (fun _ => by kernel_rfl) (fun w' hh => run_At_l F r8.1 p1 (if p4 < p3 then p3 else p4) r9 hb9 w' A5 c5 (SlOk.mono (SlOk.mono hs5 (View.le_trans (made_le _ _) (View.le_refl _))) hh.view)) ?_)
              intro u V11 hV11 hu
              obtain rfl := (Sure.t2 sureElem sureInt) _ _ _ hu
              refine T.pure (.tuple #[.agg #[.int .i64 r9.1.key.pfs, .int .i64 r9.1.key.obj, .int .i64 r9.1.key.off, .int .i64 r9.1.made, .int .i64 r9.1.gone, .string r9.1.val], .int .i64 r9.2]) (by kernel_rfl) (fun _ => by kernel_rfl) ?_
              refine T.pure (.agg #[.int .i64 r9.1.key.pfs, .int .i64 r9.1.key.obj, .int .i64 r9.1.key.off, .int .i64 r9.1.made, .int .i64 r9.1.gone, .string r9.1.val]) (by kernel_rfl) (fun _ => by kernel_rfl) ?_
              refine T.pure (.int .i64 r9.2) (by kernel_rfl) (fun _ => by kernel_rfl) ?_
              refine T.step (W1.new 26 [.int .i64 0, .int .i64 0, .int .i64 0, .int .i64 0, .int .i64 0, .string (ByteArray.mk #[])] (fun b => .pointer (some ⟨b, 0, none⟩)) (by kernel_rfl) (fun _ => by kernel_rfl) (fun b5 => ?_))
              refine T.step (W1.store 0 [.int .i64 r9.1.key.pfs, .int .i64 r9.1.key.obj, .int .i64 r9.1.key.off, .int .i64 r9.1.made, .int .i64 r9.1.gone, .string r9.1.val] [box b5 26 [.int .i64 r9.1.key.pfs, .int .i64 r9.1.key.obj, .int .i64 r9.1.key.off, .int .i64 r9.1.made, .int .i64 r9.1.gone, .string r9.1.val], box b1 24 [.int .i64 p1.pfs, .int .i64 p1.obj, .int .i64 p1.off]] (by rfl) rfl (by kernel_rfl) (fun w' hw => exec_store (vs := [.int .i64 r9.1.key.pfs, .int .i64 r9.1.key.obj, .int .i64 r9.1.key.off, .int .i64 r9.1.made, .int .i64 r9.1.gone, .string r9.1.val]) rfl rfl rfl rfl (by kernel_rfl) (one_of rfl) (by simp) rfl hw) ?_)
              refine T.pure (.int .i64 r9.2) (by kernel_rfl) (fun _ => by kernel_rfl) ?_
              refine T.nil ?_
              obtain ⟨z2, hX3, hF⟩ := Option.bind_eq_some_iff.1 hF
              refine T.cut (fun a w' => ∃ (V12 : View), View.le V11 V12 ∧ Fr 109 [(10, .bool z2)] a ∧ Hp w V12 [] w') ?_ ?_
              ·
                refine T.region ?_
                refine T.pure (.int .i64 r9.2) (by kernel_rfl) (fun _ => by kernel_rfl) ?_
                refine T.pure (.bool (r9.2 == 4)) (by kernel_rfl) (fun _ => by kernel_rfl) ?_
                refine T.pure (.bool (r9.2 == 4)) (by kernel_rfl) (fun _ => by kernel_rfl) ?_
                cases hg5 : (r9.2 == 4)
                ·
                  skip
                  rw [hg5, cond_false] at hX3
                  refine T.pass (by kernel_rfl) (by kernel_rfl) ?_
                  refine T.pass (by kernel_rfl) (by kernel_rfl) ?_
                  refine T.pass (by kernel_rfl) (by kernel_rfl) ?_
                  refine T.pure (.bool false) (by kernel_rfl) (fun _ => by kernel_rfl) ?_
                  refine T.pure (.bool false) (by kernel_rfl) (fun _ => by kernel_rfl) ?_
                  refine T.nil ?_
                  cases hX3
                  exact fun a w' hf hh => Exists.intro V11 (And.intro (View.le_refl _) (And.intro ((Fr.nil hf).pick hf 10 rfl) (hh.sub (.cons _ (.cons _ List.Sublist.slnil)))))
                ·
                  skip
                  rw [hg5, cond_true] at hX3
                  refine T.pure (.slice A5 r8.1.length c5) (by kernel_rfl) (fun _ => by kernel_rfl) ?_
                  obtain ⟨r10, hb10, hX3⟩ := Option.bind_eq_some_iff.1 hX3
                  refine T.step (W1.call (vSc eInt) r10 30 #[.slice A5 r8.1.length c5] (by kernel_rfl) (fun _ => by kernel_rfl) (fun w' hh => run_Check_l F r8.1 r10 hb10 w' A5 c5 (SlOk.mono (SlOk.mono hs5 (View.le_trans (made_le _ _) hV11)) hh.view)) ?_)
                  intro u V13 hV13 hu
                  obtain rfl := sureInt _ _ _ hu
                  refine T.pure (.bool (r10 == 0)) (by kernel_rfl) (fun _ => by kernel_rfl) ?_
                  refine T.pure (.bool (r10 == 0)) (by kernel_rfl) (fun _ => by kernel_rfl) ?_
                  refine T.pure (.bool (r10 == 0)) (by kernel_rfl) (fun _ => by kernel_rfl) ?_
                  refine T.nil ?_
                  cases hX3
                  exact fun a w' hf hh => Exists.intro V13 (And.intro hV13 (And.intro ((Fr.nil hf).pick hf 10 rfl) (hh.sub (.cons _ (.cons _ List.Sublist.slnil)))))
              ·
                rintro a w' ⟨V12, hV12, hf, hh⟩
                refine (?_ : T 109 w V12 [] [(10, .bool z2)] _) a w' hf hh
                clear hf hh
                cases hF
                refine T.ret rfl ?_
                exact T.ret1 rfl (ResIs.tmp rfl) fun w' hh => ⟨_, rfl, hh.below, (show _ from rfl)⟩

end Go.Proofs.Ytiaoncjkfgebdaa
