/- The Go functions of group WChangeRolls compute the pure functions of that group: written by walkgen.py. Condition of each: the pure function yields a result. -/
import Derived.Test.YtiaoncjkfgebdaaChangeL
import Derived.Test.YtiaoncjkfgebdaaEqsL
import Derived.Test.YtiaoncjkfgebdaaWChangeRollsF
import Derived.Test.YtiaoncjkfgebdaaEqL
namespace Go.Proofs.Ytiaoncjkfgebdaa
set_option linter.unusedVariables false

set_option maxRecDepth 100000 in
set_option maxHeartbeats 4000000 in
theorem annalkeep_ChangeRolls_l (F : Nat) (p0 : (List DElem)) (p1 : Int) (p2 : Int) (p3 : DKey) (r : Bool) (hF : annalkeep_ChangeRolls F p0 p1 p2 p3 = some r) (w : World) (A1 : Option Addr) (c1 : Nat) (hs1 : SlOk (vw w) eElem A1 c1 p0) :
    Calls Try.prog 23 #[.slice A1 p0.length c1, .int .i64 p1, .int .i64 p2, .agg #[.int .i64 p3.pfs, .int .i64 p3.obj, .int .i64 p3.off]] w (Post (vSc eBool) r w) := by
  unfold annalkeep_ChangeRolls at hF
  refine T.start (l := [.slice A1 p0.length c1, .int .i64 p1, .int .i64 p2, .agg #[.int .i64 p3.pfs, .int .i64 p3.obj, .int .i64 p3.off]]) Try.func23 rfl rfl rfl ?_
  refine T.seq ?_
  refine T.region ?_
  refine T.step (W1.new 24 [.int .i64 p3.pfs, .int .i64 p3.obj, .int .i64 p3.off] (fun b => .pointer (some ⟨b, 0, none⟩)) (by kernel_rfl) (fun _ => by kernel_rfl) (fun b1 => ?_))
  refine T.pure (.bool false) (by kernel_rfl) (fun _ => by kernel_rfl) ?_
  refine T.nil ?_
  refine T.seq ?_
  refine T.region ?_
  obtain ⟨r1, hb1, hF⟩ := Option.bind_eq_some_iff.1 hF
  refine T.step (W1.call (vSc (eList eElem)) r1 43 #[] (by kernel_rfl) (fun _ => by kernel_rfl) (fun w' hh => annalkeep_two_l  r1 hb1 w' ) ?_)
  intro u V1 hV1 hu
  obtain ⟨A2, c2, rfl, hs2⟩ := vlist_elim hu
  obtain ⟨r2, hb2, hF⟩ := Option.bind_eq_some_iff.1 hF
  refine T.step (W1.call (vT2 (vSc (eList eChange)) (vSc eInt)) r2 42 #[.slice A2 r1.length c2, .int .i64 9, .int .i64 2] (by kernel_rfl) (fun _ => by kernel_rfl) (fun w' hh => change_Between_l F r1 9 2 r2 hb2 w' A2 c2 (SlOk.mono (SlOk.mono hs2 (View.le_trans (made_le _ _) (View.le_refl _))) hh.view)) ?_)
  intro u V2 hV2 hu
  obtain ⟨u1, u2, rfl, hu1, hu2⟩ := vT2_elim hu
  obtain ⟨A3, c3, rfl, hs3⟩ := vlist_elim hu1
  obtain rfl := sureInt _ _ _ hu2
  refine T.pure (.tuple #[.slice A3 r2.1.length c3, .int .i64 r2.2]) (by kernel_rfl) (fun _ => by kernel_rfl) ?_
  refine T.pure (.slice A3 r2.1.length c3) (by kernel_rfl) (fun _ => by kernel_rfl) ?_
  refine T.pure (.int .i64 r2.2) (by kernel_rfl) (fun _ => by kernel_rfl) ?_
  refine T.pure (.slice A3 r2.1.length c3) (by kernel_rfl) (fun _ => by kernel_rfl) ?_
  refine T.pure (.int .i64 r2.2) (by kernel_rfl) (fun _ => by kernel_rfl) ?_
  refine T.nil ?_
  refine T.seq ?_
  refine T.seq ?_
  refine T.region ?_
  obtain ⟨r3, hb3, hF⟩ := Option.bind_eq_some_iff.1 hF
  refine T.step (W1.call (vSc (eList eElem)) r3 43 #[] (by kernel_rfl) (fun _ => by kernel_rfl) (fun w' hh => annalkeep_two_l  r3 hb3 w' ) ?_)
  intro u V3 hV3 hu
  obtain ⟨A4, c4, rfl, hs4⟩ := vlist_elim hu
  refine T.pure (.slice A3 r2.1.length c3) (by kernel_rfl) (fun _ => by kernel_rfl) ?_
  obtain ⟨r4, hb4, hF⟩ := Option.bind_eq_some_iff.1 hF
  refine T.step (W1.call (vT2 (vSc (eList eElem)) (vSc eInt)) r4 66 #[.slice A4 r3.length c4, .slice A3 r2.1.length c3, .int .i64 5] (by kernel_rfl) (fun _ => by kernel_rfl) (fun w' hh => change_Do_l F r3 r2.1 5 r4 hb4 w' A4 c4 (SlOk.mono (SlOk.mono hs4 (View.le_trans (made_le _ _) (View.le_refl _))) hh.view) A3 c3 (SlOk.mono (SlOk.mono hs3 (View.le_trans (made_le _ _) hV3)) hh.view)) ?_)
  intro u V4 hV4 hu
  obtain ⟨u3, u4, rfl, hu3, hu4⟩ := vT2_elim hu
  obtain ⟨A5, c5, rfl, hs5⟩ := vlist_elim hu3
  obtain rfl := sureInt _ _ _ hu4
  refine T.pure (.tuple #[.slice A5 r4.1.length c5, .int .i64 r4.2]) (by kernel_rfl) (fun _ => by kernel_rfl) ?_
  refine T.pure (.slice A5 r4.1.length c5) (by kernel_rfl) (fun _ => by kernel_rfl) ?_
  refine T.pure (.int .i64 r4.2) (by kernel_rfl) (fun _ => by kernel_rfl) ?_
  refine T.pure (.slice A5 r4.1.length c5) (by kernel_rfl) (fun _ => by kernel_rfl) ?_
  refine T.pure (.int .i64 r4.2) (by kernel_rfl) (fun _ => by kernel_rfl) ?_
  refine T.nil ?_
  obtain ⟨z1, hX1, hF⟩ := Option.bind_eq_some_iff.1 hF
  refine T.cut (fun a w' => Fr 131 [(0, .slice A1 p0.length c1), (1, .int .i64 p1), (2, .int .i64 p2), (7, .pointer (some ⟨b1, 0, none⟩)), (53, .bool z1)] a ∧ Hp w V4 [box b1 24 [.int .i64 p3.pfs, .int .i64 p3.obj, .int .i64 p3.off]] w') ?_ ?_
  ·
    refine T.region ?_
    refine T.pure (.int .i64 r2.2) (by kernel_rfl) (fun _ => by kernel_rfl) ?_
    refine T.pure (.bool (r2.2 != 0)) (by kernel_rfl) (fun _ => by kernel_rfl) ?_
    refine T.pure (.bool (r2.2 != 0)) (by kernel_rfl) (fun _ => by kernel_rfl) ?_
    cases hg1 : (r2.2 != 0)
    ·
      skip
      rw [hg1, cond_false] at hX1
      refine T.pure (.int .i64 r4.2) (by kernel_rfl) (fun _ => by kernel_rfl) ?_
      refine T.pure (.bool (r4.2 != 0)) (by kernel_rfl) (fun _ => by kernel_rfl) ?_
      refine T.pure (.bool (r4.2 != 0)) (by kernel_rfl) (fun _ => by kernel_rfl) ?_
      refine T.pure (.bool (r4.2 != 0)) (by kernel_rfl) (fun _ => by kernel_rfl) ?_
      cases hg2 : (r4.2 != 0)
      ·
        skip
        rw [hg2, cond_false] at hX1
        refine T.pure (.slice A5 r4.1.length c5) (by kernel_rfl) (fun _ => by kernel_rfl) ?_
        refine T.pure (.int .i64 (r4.1.length : Int)) (by kernel_rfl) (fun _ => by kernel_rfl) ?_
        refine T.pure (.bool ((r4.1.length : Int) != 3)) (by kernel_rfl) (fun _ => by kernel_rfl) ?_
        refine T.pure (.bool ((r4.1.length : Int) != 3)) (by kernel_rfl) (fun _ => by kernel_rfl) ?_
        refine T.pure (.bool ((r4.1.length : Int) != 3)) (by kernel_rfl) (fun _ => by kernel_rfl) ?_
        cases hg3 : ((r4.1.length : Int) != 3)
        ·
          skip
          rw [hg3, cond_false] at hX1
          refine T.pure (.slice A5 r4.1.length c5) (by kernel_rfl) (fun _ => by kernel_rfl) ?_
          obtain ⟨e1, hb5, hX1⟩ := Option.bind_eq_some_iff.1 hX1
          obtain ⟨hi1, hi2, hi3⟩ := idx_some hb5
          refine T.look (.pointer (some ((sadr A5).add (((2 : Int).toNat) * 6)))) (by kernel_rfl) (fun w' hh => exec_indexAddr (e := 26) (s := 6) rfl rfl rfl (by kernel_rfl) (by kernel_rfl) hi1 hi2 ((SlOk.mono hs5 (View.le_trans (made_le _ _) (View.le_refl _))).some_ hi3 (by decide))) ?_
          refine T.pure (.pointer (some (((sadr A5).add (((2 : Int).toNat) * 6)).add 5))) (by kernel_rfl) (fun _ => by kernel_rfl) ?_
          refine T.look (.string e1.val) (by kernel_rfl) (fun w' hh => exec_load1 rfl rfl (by kernel_rfl) (hh.cell_view (SlOk.cellF (E := eElem) (SlOk.mono hs5 (View.le_trans (made_le _ _) (View.le_refl _))) hi3 5 (fun _ _ _ h => h) rfl))) ?_
          refine T.pure (.bool (!(seq e1.val (ByteArray.mk #[97])))) (by kernel_rfl) (fun _ => by kernel_rfl) ?_
          refine T.pure (.bool (!(seq e1.val (ByteArray.mk #[97])))) (by kernel_rfl) (fun _ => by kernel_rfl) ?_
          refine T.pure (.bool (!(seq e1.val (ByteArray.mk #[97])))) (by kernel_rfl) (fun _ => by kernel_rfl) ?_
          cases hg4 : (!(seq e1.val (ByteArray.mk #[97])))
          ·
            skip
            rw [hg4, cond_false] at hX1
            refine T.pure (.slice A5 r4.1.length c5) (by kernel_rfl) (fun _ => by kernel_rfl) ?_
            obtain ⟨e2, hb6, hX1⟩ := Option.bind_eq_some_iff.1 hX1
            obtain ⟨hi4, hi5, hi6⟩ := idx_some hb6
            refine T.look (.pointer (some ((sadr A5).add (((2 : Int).toNat) * 6)))) (by kernel_rfl) (fun w' hh => exec_indexAddr (e := 26) (s := 6) rfl rfl rfl (by kernel_rfl) (by kernel_rfl) hi4 hi5 ((SlOk.mono hs5 (View.le_trans (made_le _ _) (View.le_refl _))).some_ hi6 (by decide))) ?_
            refine T.pure (.pointer (some (((sadr A5).add (((2 : Int).toNat) * 6)).add 3))) (by kernel_rfl) (fun _ => by kernel_rfl) ?_
            refine T.look (.int .i64 e2.made) (by kernel_rfl) (fun w' hh => exec_load1 rfl rfl (by kernel_rfl) (hh.cell_view (SlOk.cellF (E := eElem) (SlOk.mono hs5 (View.le_trans (made_le _ _) (View.le_refl _))) hi6 3 (fun _ _ _ h => h) rfl))) ?_
            refine T.pure (.bool (e2.made != 5)) (by kernel_rfl) (fun _ => by kernel_rfl) ?_
            refine T.pure (.bool (e2.made != 5)) (by kernel_rfl) (fun _ => by kernel_rfl) ?_
            refine T.nil ?_
            cases hX1
            exact fun a w' hf hh => And.intro ((((((Fr.nil hf).pick hf 53 rfl).pick hf 7 rfl).pick hf 2 rfl).pick hf 1 rfl).pick hf 0 rfl) (hh.sub (.cons_cons _ List.Sublist.slnil))
          ·
            skip
            rw [hg4, cond_true] at hX1
            refine T.pass (by kernel_rfl) (by kernel_rfl) ?_
            refine T.pass (by kernel_rfl) (by kernel_rfl) ?_
            refine T.pass (by kernel_rfl) (by kernel_rfl) ?_
            refine T.pass (by kernel_rfl) (by kernel_rfl) ?_
            refine T.pass (by kernel_rfl) (by kernel_rfl) ?_
            refine T.pure (.bool true) (by kernel_rfl) (fun _ => by kernel_rfl) ?_
            refine T.nil ?_
            cases hX1
            exact fun a w' hf hh => And.intro ((((((Fr.nil hf).pick hf 53 rfl).pick hf 7 rfl).pick hf 2 rfl).pick hf 1 rfl).pick hf 0 rfl) (hh.sub (.cons_cons _ List.Sublist.slnil))
        ·
          skip
          rw [hg3, cond_true] at hX1
          refine T.pass (by kernel_rfl) (by kernel_rfl) ?_
          refine T.pass (by kernel_rfl) (by kernel_rfl) ?_
          refine T.pass (by kernel_rfl) (by kernel_rfl) ?_
          refine T.pass (by kernel_rfl) (by kernel_rfl) ?_
          refine T.pass (by kernel_rfl) (by kernel_rfl) ?_
          refine T.pure (.bool true) (by kernel_rfl) (fun _ => by kernel_rfl) ?_
          refine T.pure (.bool true) (by kernel_rfl) (fun _ => by kernel_rfl) ?_
          refine T.pass (by kernel_rfl) (by kernel_rfl) ?_
          refine T.pass (by kernel_rfl) (by kernel_rfl) ?_
          refine T.pass (by kernel_rfl) (by kernel_rfl) ?_
          refine T.pass (by kernel_rfl) (by kernel_rfl) ?_
          refine T.pass (by kernel_rfl) (by kernel_rfl) ?_
          refine T.pure (.bool true) (by kernel_rfl) (fun _ => by kernel_rfl) ?_
          refine T.nil ?_
          cases hX1
          exact fun a w' hf hh => And.intro ((((((Fr.nil hf).pick hf 53 rfl).pick hf 7 rfl).pick hf 2 rfl).pick hf 1 rfl).pick hf 0 rfl) (hh.sub (.cons_cons _ List.Sublist.slnil))
      ·
        skip
        rw [hg2, cond_true] at hX1
        refine T.pass (by kernel_rfl) (by kernel_rfl) ?_
        refine T.pass (by kernel_rfl) (by kernel_rfl) ?_
        refine T.pass (by kernel_rfl) (by kernel_rfl) ?_
        refine T.pure (.bool true) (by kernel_rfl) (fun _ => by kernel_rfl) ?_
        refine T.pure (.bool true) (by kernel_rfl) (fun _ => by kernel_rfl) ?_
        refine T.pass (by kernel_rfl) (by kernel_rfl) ?_
        refine T.pass (by kernel_rfl) (by kernel_rfl) ?_
        refine T.pass (by kernel_rfl) (by kernel_rfl) ?_
        refine T.pass (by kernel_rfl) (by kernel_rfl) ?_
        refine T.pass (by kernel_rfl) (by kernel_rfl) ?_
        refine T.pure (.bool true) (by kernel_rfl) (fun _ => by kernel_rfl) ?_
        refine T.pure (.bool true) (by kernel_rfl) (fun _ => by kernel_rfl) ?_
        refine T.pass (by kernel_rfl) (by kernel_rfl) ?_
        refine T.pass (by kernel_rfl) (by kernel_rfl) ?_
        refine T.pass (by kernel_rfl) (by kernel_rfl) ?_
        refine T.pass (by kernel_rfl) (by kernel_rfl) ?_
        refine T.pass (by kernel_rfl) (by kernel_rfl) ?_
        refine T.pure (.bool true) (by kernel_rfl) (fun _ => by kernel_rfl) ?_
        refine T.nil ?_
        cases hX1
        exact fun a w' hf hh => And.intro ((((((Fr.nil hf).pick hf 53 rfl).pick hf 7 rfl).pick hf 2 rfl).pick hf 1 rfl).pick hf 0 rfl) (hh.sub (.cons_cons _ List.Sublist.slnil))
    ·
      skip
      rw [hg1, cond_true] at hX1
      refine T.pass (by kernel_rfl) (by kernel_rfl) ?_
      refine T.pass (by kernel_rfl) (by kernel_rfl) ?_
      refine T.pure (.bool true) (by kernel_rfl) (fun _ => by kernel_rfl) ?_
      refine T.pure (.bool true) (by kernel_rfl) (fun _ => by kernel_rfl) ?_
      refine T.pass (by kernel_rfl) (by kernel_rfl) ?_
      refine T.pass (by kernel_rfl) (by kernel_rfl) ?_
      refine T.pass (by kernel_rfl) (by kernel_rfl) ?_
      refine T.pure (.bool true) (by kernel_rfl) (fun _ => by kernel_rfl) ?_
      refine T.pure (.bool true) (by kernel_rfl) (fun _ => by kernel_rfl) ?_
      refine T.pass (by kernel_rfl) (by kernel_rfl) ?_
      refine T.pass (by kernel_rfl) (by kernel_rfl) ?_
      refine T.pass (by kernel_rfl) (by kernel_rfl) ?_
      refine T.pass (by kernel_rfl) (by kernel_rfl) ?_
      refine T.pass (by kernel_rfl) (by kernel_rfl) ?_
      refine T.pure (.bool true) (by kernel_rfl) (fun _ => by kernel_rfl) ?_
      refine T.pure (.bool true) (by kernel_rfl) (fun _ => by kernel_rfl) ?_
      refine T.pass (by kernel_rfl) (by kernel_rfl) ?_
      refine T.pass (by kernel_rfl) (by kernel_rfl) ?_
      refine T.pass (by kernel_rfl) (by kernel_rfl) ?_
      refine T.pass (by kernel_rfl) (by kernel_rfl) ?_
      refine T.pass (by kernel_rfl) (by kernel_rfl) ?_
      refine T.pure (.bool true) (by kernel_rfl) (fun _ => by kernel_rfl) ?_
      refine T.nil ?_
      cases hX1
      exact fun a w' hf hh => And.intro ((((((Fr.nil hf).pick hf 53 rfl).pick hf 7 rfl).pick hf 2 rfl).pick hf 1 rfl).pick hf 0 rfl) (hh.sub (.cons_cons _ List.Sublist.slnil))
  ·
    rintro a w' ⟨hf, hh⟩
    refine (?_ : T 131 w V4 [box b1 24 [.int .i64 p3.pfs, .int .i64 p3.obj, .int .i64 p3.off]] [(0, .slice A1 p0.length c1), (1, .int .i64 p1), (2, .int .i64 p2), (7, .pointer (some ⟨b1, 0, none⟩)), (53, .bool z1)] _) a w' hf hh
    clear hf hh
    refine T.cond z1 (by kernel_rfl) (by kernel_rfl) (fun hc1 => ?_) (fun hc1 => ?_)
    ·
      rw [hc1, cond_true] at hF
      refine T.seq ?_
      refine T.region ?_
      refine T.pure (.bool false) (by kernel_rfl) (fun _ => by kernel_rfl) ?_
      refine T.nil ?_
      cases hF
      refine T.ret rfl ?_
      exact T.ret1 rfl (ResIs.tmp rfl) fun w' hh => ⟨_, rfl, hh.below, (show _ from rfl)⟩
    ·
      rw [hc1, cond_false] at hF
      refine T.skip_code ?_
      refine T.seq ?_
      refine T.region ?_
      refine T.pure (.slice A1 p0.length c1) (by kernel_rfl) (fun _ => by kernel_rfl) ?_
      refine T.pure (.int .i64 p1) (by kernel_rfl) (fun _ => by kernel_rfl) ?_
      obtain ⟨r5, hb7, hF⟩ := Option.bind_eq_some_iff.1 hF
      refine T.step (W1.call (vT2 (vSc (eList eChange)) (vSc eInt)) r5 42 #[.slice A1 p0.length c1, .int .i64 2147483647, .int .i64 p1] (by kernel_rfl) (fun _ => by kernel_rfl) (fun w' hh => change_Between_l F p0 2147483647 p1 r5 hb7 w' A1 c1 (SlOk.mono (SlOk.mono hs1 (View.le_trans (View.le_trans (View.le_trans hV1 hV2) hV3) hV4)) hh.view)) ?_)
      intro u V5 hV5 hu
      obtain ⟨u5, u6, rfl, hu5, hu6⟩ := vT2_elim hu
      obtain ⟨A6, c6, rfl, hs6⟩ := vlist_elim hu5
      obtain rfl := sureInt _ _ _ hu6
      refine T.pure (.tuple #[.slice A6 r5.1.length c6, .int .i64 r5.2]) (by kernel_rfl) (fun _ => by kernel_rfl) ?_
      refine T.pure (.slice A6 r5.1.length c6) (by kernel_rfl) (fun _ => by kernel_rfl) ?_
      refine T.pure (.int .i64 r5.2) (by kernel_rfl) (fun _ => by kernel_rfl) ?_
      refine T.pure (.slice A6 r5.1.length c6) (by kernel_rfl) (fun _ => by kernel_rfl) ?_
      refine T.pure (.int .i64 r5.2) (by kernel_rfl) (fun _ => by kernel_rfl) ?_
      refine T.nil ?_
      refine T.seq ?_
      refine T.seq ?_
      refine T.region ?_
      refine T.pure (.int .i64 r5.2) (by kernel_rfl) (fun _ => by kernel_rfl) ?_
      refine T.pure (.bool (r5.2 != 0)) (by kernel_rfl) (fun _ => by kernel_rfl) ?_
      refine T.nil ?_
      refine T.cond (r5.2 != 0) (by kernel_rfl) (by kernel_rfl) (fun hc2 => ?_) (fun hc2 => ?_)
      ·
        rw [hc2, cond_true] at hF
        refine T.seq ?_
        refine T.region ?_
        refine T.pure (.slice A6 r5.1.length c6) (by kernel_rfl) (fun _ => by kernel_rfl) ?_
        refine T.pure (.int .i64 (r5.1.length : Int)) (by kernel_rfl) (fun _ => by kernel_rfl) ?_
        refine T.pure (.bool ((r5.1.length : Int) == 0)) (by kernel_rfl) (fun _ => by kernel_rfl) ?_
        refine T.pure (.bool ((r5.1.length : Int) == 0)) (by kernel_rfl) (fun _ => by kernel_rfl) ?_
        refine T.nil ?_
        cases hF
        refine T.ret rfl ?_
        exact T.ret1 rfl (ResIs.tmp rfl) fun w' hh => ⟨_, rfl, hh.below, (show _ from rfl)⟩
      ·
        rw [hc2, cond_false] at hF
        refine T.skip_code ?_
        refine T.seq ?_
        refine T.region ?_
        refine T.pure (.slice A1 p0.length c1) (by kernel_rfl) (fun _ => by kernel_rfl) ?_
        refine T.pure (.slice A6 r5.1.length c6) (by kernel_rfl) (fun _ => by kernel_rfl) ?_
        refine T.pure (.int .i64 p2) (by kernel_rfl) (fun _ => by kernel_rfl) ?_
        obtain ⟨r6, hb8, hF⟩ := Option.bind_eq_some_iff.1 hF
        refine T.step (W1.call (vT2 (vSc (eList eElem)) (vSc eInt)) r6 66 #[.slice A1 p0.length c1, .slice A6 r5.1.length c6, .int .i64 p2] (by kernel_rfl) (fun _ => by kernel_rfl) (fun w' hh => change_Do_l F p0 r5.1 p2 r6 hb8 w' A1 c1 (SlOk.mono (SlOk.mono hs1 (View.le_trans (View.le_trans (View.le_trans (View.le_trans hV1 hV2) hV3) hV4) hV5)) hh.view) A6 c6 (SlOk.mono (SlOk.mono hs6 (View.le_trans (made_le _ _) (View.le_refl _))) hh.view)) ?_)
        intro u V6 hV6 hu
        obtain ⟨u7, u8, rfl, hu7, hu8⟩ := vT2_elim hu
        obtain ⟨A7, c7, rfl, hs7⟩ := vlist_elim hu7
        obtain rfl := sureInt _ _ _ hu8
        refine T.pure (.tuple #[.slice A7 r6.1.length c7, .int .i64 r6.2]) (by kernel_rfl) (fun _ => by kernel_rfl) ?_
        refine T.pure (.slice A7 r6.1.length c7) (by kernel_rfl) (fun _ => by kernel_rfl) ?_
        refine T.pure (.int .i64 r6.2) (by kernel_rfl) (fun _ => by kernel_rfl) ?_
        refine T.pure (.slice A7 r6.1.length c7) (by kernel_rfl) (fun _ => by kernel_rfl) ?_
        refine T.pure (.int .i64 r6.2) (by kernel_rfl) (fun _ => by kernel_rfl) ?_
        refine T.nil ?_
        refine T.seq ?_
        refine T.seq ?_
        refine T.region ?_
        refine T.pure (.int .i64 r6.2) (by kernel_rfl) (fun _ => by kernel_rfl) ?_
        refine T.pure (.bool (r6.2 != 0)) (by kernel_rfl) (fun _ => by kernel_rfl) ?_
        refine T.nil ?_
        refine T.cond (r6.2 != 0) (by kernel_rfl) (by kernel_rfl) (fun hc3 => ?_) (fun hc3 => ?_)
        ·
          rw [hc3, cond_true] at hF
          refine T.cut (fun a w' => Fr 131 [(8, .bool ((r6.2 == 9) || (r6.2 == 8)))] a ∧ Hp w V6 [] w') ?_ ?_
          ·
            refine T.region ?_
            refine T.pure (.int .i64 r6.2) (by kernel_rfl) (fun _ => by kernel_rfl) ?_
            refine T.pure (.bool (r6.2 == 9)) (by kernel_rfl) (fun _ => by kernel_rfl) ?_
            refine T.pure (.bool (r6.2 == 9)) (by kernel_rfl) (fun _ => by kernel_rfl) ?_
            cases hg5 : (r6.2 == 9)
            ·
              skip
              refine T.pure (.int .i64 r6.2) (by kernel_rfl) (fun _ => by kernel_rfl) ?_
              refine T.pure (.bool (r6.2 == 8)) (by kernel_rfl) (fun _ => by kernel_rfl) ?_
              refine T.pure (.bool (r6.2 == 8)) (by kernel_rfl) (fun _ => by kernel_rfl) ?_
              refine T.pure (.bool (r6.2 == 8)) (by kernel_rfl) (fun _ => by kernel_rfl) ?_
              refine T.nil ?_
              exact fun a w' hf hh => And.intro ((Fr.nil hf).pick hf 8 rfl) (hh.sub (.cons _ List.Sublist.slnil))
            ·
              skip
              refine T.pass (by kernel_rfl) (by kernel_rfl) ?_
              refine T.pass (by kernel_rfl) (by kernel_rfl) ?_
              refine T.pure (.bool true) (by kernel_rfl) (fun _ => by kernel_rfl) ?_
              refine T.pure (.bool true) (by kernel_rfl) (fun _ => by kernel_rfl) ?_
              refine T.nil ?_
              exact fun a w' hf hh => And.intro ((Fr.nil hf).pick hf 8 rfl) (hh.sub (.cons _ List.Sublist.slnil))
          ·
            rintro a w' ⟨hf, hh⟩
            refine (?_ : T 131 w V6 [] [(8, .bool ((r6.2 == 9) || (r6.2 == 8)))] _) a w' hf hh
            clear hf hh
            cases hF
            refine T.ret rfl ?_
            exact T.ret1 rfl (ResIs.tmp rfl) fun w' hh => ⟨_, rfl, hh.below, (show _ from rfl)⟩
        ·
          rw [hc3, cond_false] at hF
          refine T.skip_code ?_
          refine T.seq ?_
          refine T.region ?_
          refine T.pure (.slice A1 p0.length c1) (by kernel_rfl) (fun _ => by kernel_rfl) ?_
          refine T.look (.agg #[.int .i64 p3.pfs, .int .i64 p3.obj, .int .i64 p3.off]) (by kernel_rfl) (fun w' hh => exec_loadN (cs := [.int .i64 p3.pfs, .int .i64 p3.obj, .int .i64 p3.off]) rfl rfl (by kernel_rfl) (by kernel_rfl) (fun j u hj => (hh.box_at (i := 0) (cs := [.int .i64 p3.pfs, .int .i64 p3.obj, .int .i64 p3.off]) (by rfl) 0 j).trans (seg_at (n := 3) rfl hj))) ?_
          refine T.pure (.int .i64 p1) (by kernel_rfl) (fun _ => by kernel_rfl) ?_
          obtain ⟨r7, hb9, hF⟩ := Option.bind_eq_some_iff.1 hF
          refine T.step (W1.call (vT2 (vAg eElem) (vSc eInt)) r7 44 #[.slice A1 p0.length c1, .agg #[.int .i64 p3.pfs, .int .i64 p3.obj, .int .i64 p3.off], .int .i64 p1] (by kernel_rfl) (fun _ => by kernel_rfl) (fun w' hh => run_At_l F p0 p3 p1 r7 hb9 w' A1 c1 (SlOk.mono (SlOk.mono hs1 (View.le_trans (View.le_trans (View.le_trans (View.le_trans (View.le_trans hV1 hV2) hV3) hV4) hV5) hV6)) hh.view)) ?_)
          intro u V7 hV7 hu
          obtain rfl := (Sure.t2 sureElem sureInt) _ _ _ hu
          refine T.pure (.tuple #[.agg #[.int .i64 r7.1.key.pfs, .int .i64 r7.1.key.obj, .int .i64 r7.1.key.off, .int .i64 r7.1.made, .int .i64 r7.1.gone, .string r7.1.val], .int .i64 r7.2]) (by kernel_rfl) (fun _ => by kernel_rfl) ?_
          refine T.pure (.agg #[.int .i64 r7.1.key.pfs, .int .i64 r7.1.key.obj, .int .i64 r7.1.key.off, .int .i64 r7.1.made, .int .i64 r7.1.gone, .string r7.1.val]) (by kernel_rfl) (fun _ => by kernel_rfl) ?_
          refine T.pure (.int .i64 r7.2) (by kernel_rfl) (fun _ => by kernel_rfl) ?_
          refine T.step (W1.new 26 [.int .i64 0, .int .i64 0, .int .i64 0, .int .i64 0, .int .i64 0, .string (ByteArray.mk #[])] (fun b => .pointer (some ⟨b, 0, none⟩)) (by kernel_rfl) (fun _ => by kernel_rfl) (fun b2 => ?_))
          refine T.step (W1.store 0 [.int .i64 r7.1.key.pfs, .int .i64 r7.1.key.obj, .int .i64 r7.1.key.off, .int .i64 r7.1.made, .int .i64 r7.1.gone, .string r7.1.val] [box b2 26 [.int .i64 r7.1.key.pfs, .int .i64 r7.1.key.obj, .int .i64 r7.1.key.off, .int .i64 r7.1.made, .int .i64 r7.1.gone, .string r7.1.val], box b1 24 [.int .i64 p3.pfs, .int .i64 p3.obj, .int .i64 p3.off]] (by rfl) rfl (by kernel_rfl) (fun w' hw => exec_store (vs := [.int .i64 r7.1.key.pfs, .int .i64 r7.1.key.obj, .int .i64 r7.1.key.off, .int .i64 r7.1.made, .int .i64 r7.1.gone, .string r7.1.val]) rfl rfl rfl rfl (by kernel_rfl) (one_of rfl) (by simp) rfl hw) ?_)
          refine T.pure (.int .i64 r7.2) (by kernel_rfl) (fun _ => by kernel_rfl) ?_
          refine T.nil ?_
          refine T.seq ?_
          refine T.region ?_
          refine T.pure (.slice A7 r6.1.length c7) (by kernel_rfl) (fun _ => by kernel_rfl) ?_
          refine T.look (.agg #[.int .i64 p3.pfs, .int .i64 p3.obj, .int .i64 p3.off]) (by kernel_rfl) (fun w' hh => exec_loadN (cs := [.int .i64 p3.pfs, .int .i64 p3.obj, .int .i64 p3.off]) rfl rfl (by kernel_rfl) (by kernel_rfl) (fun j u hj => (hh.box_at (i := 1) (cs := [.int .i64 p3.pfs, .int .i64 p3.obj, .int .i64 p3.off]) (by rfl) 0 j).trans (seg_at (n := 3) rfl hj))) ?_
          refine T.pure (.int .i64 p2) (by kernel_rfl) (fun _ => by kernel_rfl) ?_
          obtain ⟨r8, hb10, hF⟩ := Option.bind_eq_some_iff.1 hF
          refine T.step (W1.call (vT2 (vAg eElem) (vSc eInt)) r8 44 #[.slice A7 r6.1.length c7, .agg #[.int .i64 p3.pfs, .int .i64 p3.obj, .int .i64 p3.off], .int .i64 p2] (by kernel_rfl) (fun _ => by kernel_rfl) (fun w' hh => run_At_l F r6.1 p3 p2 r8 hb10 w' A7 c7 (SlOk.mono (SlOk.mono hs7 (View.le_trans (made_le _ _) hV7)) hh.view)) ?_)
          intro u V8 hV8 hu
          obtain rfl := (Sure.t2 sureElem sureInt) _ _ _ hu
          refine T.pure (.tuple #[.agg #[.int .i64 r8.1.key.pfs, .int .i64 r8.1.key.obj, .int .i64 r8.1.key.off, .int .i64 r8.1.made, .int .i64 r8.1.gone, .string r8.1.val], .int .i64 r8.2]) (by kernel_rfl) (fun _ => by kernel_rfl) ?_
          refine T.pure (.agg #[.int .i64 r8.1.key.pfs, .int .i64 r8.1.key.obj, .int .i64 r8.1.key.off, .int .i64 r8.1.made, .int .i64 r8.1.gone, .string r8.1.val]) (by kernel_rfl) (fun _ => by kernel_rfl) ?_
          refine T.pure (.int .i64 r8.2) (by kernel_rfl) (fun _ => by kernel_rfl) ?_
          refine T.step (W1.new 26 [.int .i64 0, .int .i64 0, .int .i64 0, .int .i64 0, .int .i64 0, .string (ByteArray.mk #[])] (fun b => .pointer (some ⟨b, 0, none⟩)) (by kernel_rfl) (fun _ => by kernel_rfl) (fun b3 => ?_))
          refine T.step (W1.store 0 [.int .i64 r8.1.key.pfs, .int .i64 r8.1.key.obj, .int .i64 r8.1.key.off, .int .i64 r8.1.made, .int .i64 r8.1.gone, .string r8.1.val] [box b3 26 [.int .i64 r8.1.key.pfs, .int .i64 r8.1.key.obj, .int .i64 r8.1.key.off, .int .i64 r8.1.made, .int .i64 r8.1.gone, .string r8.1.val], box b2 26 [.int .i64 r7.1.key.pfs, .int .i64 r7.1.key.obj, .int .i64 r7.1.key.off, .int .i64 r7.1.made, .int .i64 r7.1.gone, .string r7.1.val], box b1 24 [.int .i64 p3.pfs, .int .i64 p3.obj, .int .i64 p3.off]] (by rfl) rfl (by kernel_rfl) (fun w' hw => exec_store (vs := [.int .i64 r8.1.key.pfs, .int .i64 r8.1.key.obj, .int .i64 r8.1.key.off, .int .i64 r8.1.made, .int .i64 r8.1.gone, .string r8.1.val]) rfl rfl rfl rfl (by kernel_rfl) (one_of rfl) (by simp) rfl hw) ?_)
          refine T.pure (.int .i64 r8.2) (by kernel_rfl) (fun _ => by kernel_rfl) ?_
          refine T.nil ?_
          refine T.seq ?_
          obtain ⟨z2, hX2, hF⟩ := Option.bind_eq_some_iff.1 hF
          refine T.cut (fun a w' => ∃ (V9 : View), View.le V8 V9 ∧ Fr 131 [(1, .int .i64 p1), (2, .int .i64 p2), (13, .slice A7 r6.1.length c7), (108, .bool z2)] a ∧ Hp w V9 [] w') ?_ ?_
          ·
            refine T.region ?_
            refine T.pure (.int .i64 r7.2) (by kernel_rfl) (fun _ => by kernel_rfl) ?_
            refine T.pure (.int .i64 r8.2) (by kernel_rfl) (fun _ => by kernel_rfl) ?_
            refine T.pure (.bool (r7.2 != r8.2)) (by kernel_rfl) (fun _ => by kernel_rfl) ?_
            refine T.pure (.bool (r7.2 != r8.2)) (by kernel_rfl) (fun _ => by kernel_rfl) ?_
            cases hg6 : (r7.2 != r8.2)
            ·
              skip
              rw [hg6, cond_false] at hX2
              refine T.pure (.pointer (some ⟨b2, 5, none⟩)) (by kernel_rfl) (fun _ => by kernel_rfl) ?_
              refine T.look (.string r7.1.val) (by kernel_rfl) (fun w' hh => exec_load1 rfl rfl (by kernel_rfl) (hh.cellBox (i := 1) (by rfl) 5)) ?_
              refine T.pure (.pointer (some ⟨b3, 5, none⟩)) (by kernel_rfl) (fun _ => by kernel_rfl) ?_
              refine T.look (.string r8.1.val) (by kernel_rfl) (fun w' hh => exec_load1 rfl rfl (by kernel_rfl) (hh.cellBox (i := 0) (by rfl) 5)) ?_
              refine T.pure (.bool (!(seq r7.1.val r8.1.val))) (by kernel_rfl) (fun _ => by kernel_rfl) ?_
              refine T.pure (.bool (!(seq r7.1.val r8.1.val))) (by kernel_rfl) (fun _ => by kernel_rfl) ?_
              refine T.pure (.bool (!(seq r7.1.val r8.1.val))) (by kernel_rfl) (fun _ => by kernel_rfl) ?_
              cases hg7 : (!(seq r7.1.val r8.1.val))
              ·
                skip
                rw [hg7, cond_false] at hX2
                refine T.pure (.slice A7 r6.1.length c7) (by kernel_rfl) (fun _ => by kernel_rfl) ?_
                obtain ⟨r9, hb11, hX2⟩ := Option.bind_eq_some_iff.1 hX2
                refine T.step (W1.call (vSc eInt) r9 30 #[.slice A7 r6.1.length c7] (by kernel_rfl) (fun _ => by kernel_rfl) (fun w' hh => run_Check_l F r6.1 r9 hb11 w' A7 c7 (SlOk.mono (SlOk.mono hs7 (View.le_trans (made_le _ _) (View.le_trans hV7 hV8))) hh.view)) ?_)
                intro u V10 hV10 hu
                obtain rfl := sureInt _ _ _ hu
                refine T.pure (.bool (r9 != 0)) (by kernel_rfl) (fun _ => by kernel_rfl) ?_
                refine T.pure (.bool (r9 != 0)) (by kernel_rfl) (fun _ => by kernel_rfl) ?_
                refine T.nil ?_
                cases hX2
                exact fun a w' hf hh => Exists.intro V10 (And.intro hV10 (And.intro (((((Fr.nil hf).pick hf 108 rfl).pick hf 13 rfl).pick hf 2 rfl).pick hf 1 rfl) (hh.sub (.cons _ (.cons _ (.cons _ List.Sublist.slnil))))))
              ·
                skip
                rw [hg7, cond_true] at hX2
                refine T.pass (by kernel_rfl) (by kernel_rfl) ?_
                refine T.pass (by kernel_rfl) (by kernel_rfl) ?_
                refine T.pass (by kernel_rfl) (by kernel_rfl) ?_
                refine T.pure (.bool true) (by kernel_rfl) (fun _ => by kernel_rfl) ?_
                refine T.nil ?_
                cases hX2
                exact fun a w' hf hh => Exists.intro V8 (And.intro (View.le_refl _) (And.intro (((((Fr.nil hf).pick hf 108 rfl).pick hf 13 rfl).pick hf 2 rfl).pick hf 1 rfl) (hh.sub (.cons _ (.cons _ (.cons _ List.Sublist.slnil))))))
            ·
              skip
              rw [hg6, cond_true] at hX2
              refine T.pass (by kernel_rfl) (by kernel_rfl) ?_
              refine T.pass (by kernel_rfl) (by kernel_rfl) ?_
              refine T.pass (by kernel_rfl) (by kernel_rfl) ?_
              refine T.pass (by kernel_rfl) (by kernel_rfl) ?_
              refine T.pass (by kernel_rfl) (by kernel_rfl) ?_
              refine T.pure (.bool true) (by kernel_rfl) (fun _ => by kernel_rfl) ?_
              refine T.pure (.bool true) (by kernel_rfl) (fun _ => by kernel_rfl) ?_
              refine T.pass (by kernel_rfl) (by kernel_rfl) ?_
              refine T.pass (by kernel_rfl) (by kernel_rfl) ?_
              refine T.pass (by kernel_rfl) (by kernel_rfl) ?_
              refine T.pure (.bool true) (by kernel_rfl) (fun _ => by kernel_rfl) ?_
              refine T.nil ?_
              cases hX2
              exact fun a w' hf hh => Exists.intro V8 (And.intro (View.le_refl _) (And.intro (((((Fr.nil hf).pick hf 108 rfl).pick hf 13 rfl).pick hf 2 rfl).pick hf 1 rfl) (hh.sub (.cons _ (.cons _ (.cons _ List.Sublist.slnil))))))
          ·
            rintro a w' ⟨V9, hV9, hf, hh⟩
            refine (?_ : T 131 w V9 [] [(1, .int .i64 p1), (2, .int .i64 p2), (13, .slice A7 r6.1.length c7), (108, .bool z2)] _) a w' hf hh
            clear hf hh
            refine T.cond z2 (by kernel_rfl) (by kernel_rfl) (fun hc4 => ?_) (fun hc4 => ?_)
            ·
              rw [hc4, cond_true] at hF
              refine T.seq ?_
              refine T.region ?_
              refine T.pure (.bool false) (by kernel_rfl) (fun _ => by kernel_rfl) ?_
              refine T.nil ?_
              cases hF
              refine T.ret rfl ?_
              exact T.ret1 rfl (ResIs.tmp rfl) fun w' hh => ⟨_, rfl, hh.below, (show _ from rfl)⟩
            ·
              rw [hc4, cond_false] at hF
              refine T.skip_code ?_
              refine T.seq ?_
              refine T.region ?_
              refine T.pure (.slice A7 r6.1.length c7) (by kernel_rfl) (fun _ => by kernel_rfl) ?_
              refine T.pure (.int .i64 p1) (by kernel_rfl) (fun _ => by kernel_rfl) ?_
              refine T.pure (.int .i64 p2) (by kernel_rfl) (fun _ => by kernel_rfl) ?_
              refine T.pure (.int .i64 (IntKind.i64.wrap (p2 - 1))) (by kernel_rfl) (fun _ => by kernel_rfl) ?_
              refine T.pure (.int .i64 (if (IntKind.i64.wrap (p2 - 1)) < p1 then IntKind.i64.wrap (p2 - 1) else p1)) (by kernel_rfl) (fun _ => by kernel_rfl) ?_
              refine T.pure (.int .i64 p2) (by kernel_rfl) (fun _ => by kernel_rfl) ?_
              obtain ⟨r10, hb12, hF⟩ := Option.bind_eq_some_iff.1 hF
              refine T.step (W1.call (vT2 (vSc (eList eChange)) (vSc eInt)) r10 42 #[.slice A7 r6.1.length c7, .int .i64 (if (IntKind.i64.wrap (p2 - 1)) < p1 then IntKind.i64.wrap (p2 - 1) else p1), .int .i64 p2] (by kernel_rfl) (fun _ => by kernel_rfl) (fun w' hh => change_Between_l F r6.1 (if (IntKind.i64.wrap (p2 - 1)) < p1 then IntKind.i64.wrap (p2 - 1) else p1) p2 r10 hb12 w' A7 c7 (SlOk.mono (SlOk.mono hs7 (View.le_trans (made_le _ _) (View.le_trans (View.le_trans hV7 hV8) hV9))) hh.view)) ?_)
              intro u V11 hV11 hu
              obtain ⟨u9, u10, rfl, hu9, hu10⟩ := vT2_elim hu
              obtain ⟨A8, c8, rfl, hs8⟩ := vlist_elim hu9
              obtain rfl := sureInt _ _ _ hu10
              refine T.pure (.tuple #[.slice A8 r10.1.length c8, .int .i64 r10.2]) (by kernel_rfl) (fun _ => by kernel_rfl) ?_
              refine T.pure (.slice A8 r10.1.length c8) (by kernel_rfl) (fun _ => by kernel_rfl) ?_
              refine T.pure (.int .i64 r10.2) (by kernel_rfl) (fun _ => by kernel_rfl) ?_
              refine T.pure (.slice A8 r10.1.length c8) (by kernel_rfl) (fun _ => by kernel_rfl) ?_
              refine T.pure (.int .i64 r10.2) (by kernel_rfl) (fun _ => by kernel_rfl) ?_
              refine T.nil ?_
              refine T.seq ?_
              refine T.seq ?_
              refine T.region ?_
              refine T.pure (.int .i64 p1) (by kernel_rfl) (fun _ => by kernel_rfl) ?_
              refine T.pure (.int .i64 p2) (by kernel_rfl) (fun _ => by kernel_rfl) ?_
              refine T.pure (.bool (decide (p2 ≤ p1))) (by kernel_rfl) (fun _ => by kernel_rfl) ?_
              refine T.nil ?_
              refine T.cond (decide (p2 ≤ p1)) (by kernel_rfl) (by kernel_rfl) (fun hc5 => ?_) (fun hc5 => ?_)
              ·
                rw [hc5, cond_true] at hF
                refine T.seq ?_
                refine T.region ?_
                refine T.pure (.int .i64 r10.2) (by kernel_rfl) (fun _ => by kernel_rfl) ?_
                refine T.pure (.bool (r10.2 == 0)) (by kernel_rfl) (fun _ => by kernel_rfl) ?_
                refine T.pure (.bool (r10.2 == 0)) (by kernel_rfl) (fun _ => by kernel_rfl) ?_
                refine T.nil ?_
                cases hF
                refine T.ret rfl ?_
                exact T.ret1 rfl (ResIs.tmp rfl) fun w' hh => ⟨_, rfl, hh.below, (show _ from rfl)⟩
              ·
                rw [hc5, cond_false] at hF
                refine T.skip_code ?_
                refine T.cut (fun a w' => Fr 131 [(8, .bool ((r10.2 == 0) && ((r10.1.length : Int) == 0)))] a ∧ Hp w V11 [] w') ?_ ?_
                ·
                  refine T.region ?_
                  refine T.pure (.int .i64 r10.2) (by kernel_rfl) (fun _ => by kernel_rfl) ?_
                  refine T.pure (.bool (r10.2 == 0)) (by kernel_rfl) (fun _ => by kernel_rfl) ?_
                  refine T.pure (.bool (r10.2 == 0)) (by kernel_rfl) (fun _ => by kernel_rfl) ?_
                  cases hg8 : (r10.2 == 0)
                  ·
                    skip
                    refine T.pass (by kernel_rfl) (by kernel_rfl) ?_
                    refine T.pass (by kernel_rfl) (by kernel_rfl) ?_
                    refine T.pass (by kernel_rfl) (by kernel_rfl) ?_
                    refine T.pure (.bool false) (by kernel_rfl) (fun _ => by kernel_rfl) ?_
                    refine T.pure (.bool false) (by kernel_rfl) (fun _ => by kernel_rfl) ?_
                    refine T.nil ?_
                    exact fun a w' hf hh => And.intro ((Fr.nil hf).pick hf 8 rfl) (hh.sub List.Sublist.slnil)
                  ·
                    skip
                    refine T.pure (.slice A8 r10.1.length c8) (by kernel_rfl) (fun _ => by kernel_rfl) ?_
                    refine T.pure (.int .i64 (r10.1.length : Int)) (by kernel_rfl) (fun _ => by kernel_rfl) ?_
                    refine T.pure (.bool ((r10.1.length : Int) == 0)) (by kernel_rfl) (fun _ => by kernel_rfl) ?_
                    refine T.pure (.bool ((r10.1.length : Int) == 0)) (by kernel_rfl) (fun _ => by kernel_rfl) ?_
                    refine T.pure (.bool ((r10.1.length : Int) == 0)) (by kernel_rfl) (fun _ => by kernel_rfl) ?_
                    refine T.nil ?_
                    exact fun a w' hf hh => And.intro ((Fr.nil hf).pick hf 8 rfl) (hh.sub List.Sublist.slnil)
                ·
                  rintro a w' ⟨hf, hh⟩
                  refine (?_ : T 131 w V11 [] [(8, .bool ((r10.2 == 0) && ((r10.1.length : Int) == 0)))] _) a w' hf hh
                  clear hf hh
                  cases hF
                  refine T.ret rfl ?_
                  exact T.ret1 rfl (ResIs.tmp rfl) fun w' hh => ⟨_, rfl, hh.below, (show _ from rfl)⟩

end Go.Proofs.Ytiaoncjkfgebdaa
