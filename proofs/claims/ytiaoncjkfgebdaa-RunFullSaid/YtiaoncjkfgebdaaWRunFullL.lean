/- The Go functions of group WRunFull compute the pure functions of that group: written by walkgen.py. Condition of each: the pure function yields a result. -/
import Derived.Test.YtiaoncjkfgebdaaRunL
import Derived.Test.YtiaoncjkfgebdaaEqsL
import Derived.Test.YtiaoncjkfgebdaaWRunFullF
import Derived.Test.YtiaoncjkfgebdaaEqL
namespace Go.Proofs.Ytiaoncjkfgebdaa
set_option linter.unusedVariables false

set_option maxRecDepth 100000 in
set_option maxHeartbeats 4000000 in
theorem annalkeep_RunFull_l (F : Nat) (p0 : Int) (p1 : ByteArray) (p2 : Int) (r : Bool) (hF : annalkeep_RunFull F p0 p1 p2 = some r) (w : World)  :
    Calls Try.prog 9 #[.int .i64 p0, .string p1, .int .i64 p2] w (Post (vSc eBool) r w) := by
  unfold annalkeep_RunFull at hF
  refine T.start (l := [.int .i64 p0, .string p1, .int .i64 p2]) Try.func9 rfl rfl rfl ?_
  refine T.seq ?_
  refine T.region ?_
  refine T.pure (.bool false) (by kernel_rfl) (fun _ => by kernel_rfl) ?_
  refine T.nil ?_
  refine T.seq ?_
  refine T.region ?_
  refine T.pure (.int .i64 p0) (by kernel_rfl) (fun _ => by kernel_rfl) ?_
  obtain ⟨r1, hb1, hF⟩ := Option.bind_eq_some_iff.1 hF
  refine T.step (W1.call (vSc eInt) r1 32 #[.int .i64 p0, .int .i64 400] (by kernel_rfl) (fun _ => by kernel_rfl) (fun w' hh => annalkeep_Within_l p0 400 r1 hb1 w' ) ?_)
  intro u V1 hV1 hu
  obtain rfl := sureInt _ _ _ hu
  refine T.pure (.int .i64 r1) (by kernel_rfl) (fun _ => by kernel_rfl) ?_
  refine T.nil ?_
  refine T.seq ?_
  refine T.region ?_
  refine T.pure (.int .i64 p2) (by kernel_rfl) (fun _ => by kernel_rfl) ?_
  obtain ⟨r2, hb2, hF⟩ := Option.bind_eq_some_iff.1 hF
  refine T.step (W1.call (vSc eInt) r2 32 #[.int .i64 p2, .int .i64 9] (by kernel_rfl) (fun _ => by kernel_rfl) (fun w' hh => annalkeep_Within_l p2 9 r2 hb2 w' ) ?_)
  intro u V2 hV2 hu
  obtain rfl := sureInt _ _ _ hu
  refine T.pure (.int .i64 (IntKind.i64.wrap (1 + r2))) (by kernel_rfl) (fun _ => by kernel_rfl) ?_
  refine T.pure (.int .i64 (IntKind.i64.wrap (1 + r2))) (by kernel_rfl) (fun _ => by kernel_rfl) ?_
  refine T.nil ?_
  refine T.seq ?_
  refine T.region ?_
  obtain ⟨r3, hb3, hF⟩ := Option.bind_eq_some_iff.1 hF
  refine T.step (W1.call (vSc (eList eElem)) r3 49 #[] (by kernel_rfl) (fun _ => by kernel_rfl) (fun w' hh => annalkeep_full_l F r3 hb3 w' ) ?_)
  intro u V3 hV3 hu
  obtain ⟨A1, c1, rfl, hs1⟩ := vlist_elim hu
  refine T.pure (.agg #[.int .i64 0, .int .i64 0, .int .i64 1000]) (by kernel_rfl) (fun _ => by kernel_rfl) ?_
  refine T.pure (.int .i64 (IntKind.i64.wrap (1 + r2))) (by kernel_rfl) (fun _ => by kernel_rfl) ?_
  obtain ⟨r4, hb4, hF⟩ := Option.bind_eq_some_iff.1 hF
  refine T.step (W1.call (vT2 (vSc (eList eElem)) (vSc eInt)) r4 48 #[.slice A1 r3.length c1, .agg #[.int .i64 0, .int .i64 0, .int .i64 1000], .string (ByteArray.mk #[]), .int .i64 (IntKind.i64.wrap (1 + r2))] (by kernel_rfl) (fun _ => by kernel_rfl) (fun w' hh => run_Put_l F r3 (DKey.mk 0 0 1000) (ByteArray.mk #[]) (IntKind.i64.wrap (1 + r2)) r4 hb4 w' A1 c1 (SlOk.mono (SlOk.mono hs1 (View.le_trans (made_le _ _) (View.le_refl _))) hh.view)) ?_)
  intro u V4 hV4 hu
  obtain ⟨u1, u2, rfl, hu1, hu2⟩ := vT2_elim hu
  obtain ⟨A2, c2, rfl, hs2⟩ := vlist_elim hu1
  obtain rfl := sureInt _ _ _ hu2
  refine T.pure (.tuple #[.slice A2 r4.1.length c2, .int .i64 r4.2]) (by kernel_rfl) (fun _ => by kernel_rfl) ?_
  refine T.pure (.slice A2 r4.1.length c2) (by kernel_rfl) (fun _ => by kernel_rfl) ?_
  refine T.pure (.int .i64 r4.2) (by kernel_rfl) (fun _ => by kernel_rfl) ?_
  refine T.pure (.slice A2 r4.1.length c2) (by kernel_rfl) (fun _ => by kernel_rfl) ?_
  refine T.pure (.int .i64 r4.2) (by kernel_rfl) (fun _ => by kernel_rfl) ?_
  refine T.nil ?_
  refine T.seq ?_
  refine T.region ?_
  obtain ⟨r5, hb5, hF⟩ := Option.bind_eq_some_iff.1 hF
  refine T.step (W1.call (vSc (eList eElem)) r5 49 #[] (by kernel_rfl) (fun _ => by kernel_rfl) (fun w' hh => annalkeep_full_l F r5 hb5 w' ) ?_)
  intro u V5 hV5 hu
  obtain ⟨A3, c3, rfl, hs3⟩ := vlist_elim hu
  refine T.pure (.int .i64 r1) (by kernel_rfl) (fun _ => by kernel_rfl) ?_
  refine T.pure (.agg #[.int .i64 0, .int .i64 0, .int .i64 r1]) (by kernel_rfl) (fun _ => by kernel_rfl) ?_
  refine T.pure (.string p1) (by kernel_rfl) (fun _ => by kernel_rfl) ?_
  obtain ⟨r6, hb6, hF⟩ := Option.bind_eq_some_iff.1 hF
  refine T.step (W1.call (vT2 (vSc (eList eElem)) (vSc eInt)) r6 48 #[.slice A3 r5.length c3, .agg #[.int .i64 0, .int .i64 0, .int .i64 r1], .string p1, .int .i64 1] (by kernel_rfl) (fun _ => by kernel_rfl) (fun w' hh => run_Put_l F r5 (DKey.mk 0 0 r1) p1 1 r6 hb6 w' A3 c3 (SlOk.mono (SlOk.mono hs3 (View.le_trans (made_le _ _) (View.le_refl _))) hh.view)) ?_)
  intro u V6 hV6 hu
  obtain ⟨u3, u4, rfl, hu3, hu4⟩ := vT2_elim hu
  obtain ⟨A4, c4, rfl, hs4⟩ := vlist_elim hu3
  obtain rfl := sureInt _ _ _ hu4
  refine T.pure (.tuple #[.slice A4 r6.1.length c4, .int .i64 r6.2]) (by kernel_rfl) (fun _ => by kernel_rfl) ?_
  refine T.pure (.slice A4 r6.1.length c4) (by kernel_rfl) (fun _ => by kernel_rfl) ?_
  refine T.pure (.int .i64 r6.2) (by kernel_rfl) (fun _ => by kernel_rfl) ?_
  refine T.pure (.slice A4 r6.1.length c4) (by kernel_rfl) (fun _ => by kernel_rfl) ?_
  refine T.pure (.int .i64 r6.2) (by kernel_rfl) (fun _ => by kernel_rfl) ?_
  refine T.nil ?_
  refine T.seq ?_
  refine T.region ?_
  obtain ⟨r7, hb7, hF⟩ := Option.bind_eq_some_iff.1 hF
  refine T.step (W1.call (vSc (eList eElem)) r7 49 #[] (by kernel_rfl) (fun _ => by kernel_rfl) (fun w' hh => annalkeep_full_l F r7 hb7 w' ) ?_)
  intro u V7 hV7 hu
  obtain ⟨A5, c5, rfl, hs5⟩ := vlist_elim hu
  refine T.pure (.int .i64 r1) (by kernel_rfl) (fun _ => by kernel_rfl) ?_
  refine T.pure (.agg #[.int .i64 0, .int .i64 0, .int .i64 r1]) (by kernel_rfl) (fun _ => by kernel_rfl) ?_
  refine T.pure (.int .i64 (IntKind.i64.wrap (1 + r2))) (by kernel_rfl) (fun _ => by kernel_rfl) ?_
  obtain ⟨r8, hb8, hF⟩ := Option.bind_eq_some_iff.1 hF
  refine T.step (W1.call (vT2 (vSc (eList eElem)) (vSc eInt)) r8 50 #[.slice A5 r7.length c5, .agg #[.int .i64 0, .int .i64 0, .int .i64 r1], .int .i64 (IntKind.i64.wrap (1 + r2))] (by kernel_rfl) (fun _ => by kernel_rfl) (fun w' hh => run_Cut_l F r7 (DKey.mk 0 0 r1) (IntKind.i64.wrap (1 + r2)) r8 hb8 w' A5 c5 (SlOk.mono (SlOk.mono hs5 (View.le_trans (made_le _ _) (View.le_refl _))) hh.view)) ?_)
  intro u V8 hV8 hu
  obtain ⟨u5, u6, rfl, hu5, hu6⟩ := vT2_elim hu
  obtain ⟨A6, c6, rfl, hs6⟩ := vlist_elim hu5
  obtain rfl := sureInt _ _ _ hu6
  refine T.pure (.tuple #[.slice A6 r8.1.length c6, .int .i64 r8.2]) (by kernel_rfl) (fun _ => by kernel_rfl) ?_
  refine T.pure (.slice A6 r8.1.length c6) (by kernel_rfl) (fun _ => by kernel_rfl) ?_
  refine T.pure (.int .i64 r8.2) (by kernel_rfl) (fun _ => by kernel_rfl) ?_
  refine T.pure (.slice A6 r8.1.length c6) (by kernel_rfl) (fun _ => by kernel_rfl) ?_
  refine T.pure (.int .i64 r8.2) (by kernel_rfl) (fun _ => by kernel_rfl) ?_
  refine T.nil ?_
  refine T.seq ?_
  refine T.cut (fun a w' => Fr 84 [(0, .int .i64 r1), (1, .string p1), (2, .int .i64 (IntKind.i64.wrap (1 + r2))), (9, .slice A4 r6.1.length c4), (10, .int .i64 r6.2), (11, .slice A6 r8.1.length c6), (48, .bool ((r4.2 != 8) || (r8.2 != 0)))] a ∧ Hp w V8 [] w') ?_ ?_
  ·
    refine T.region ?_
    refine T.pure (.int .i64 r4.2) (by kernel_rfl) (fun _ => by kernel_rfl) ?_
    refine T.pure (.bool (r4.2 != 8)) (by kernel_rfl) (fun _ => by kernel_rfl) ?_
    refine T.pure (.bool (r4.2 != 8)) (by kernel_rfl) (fun _ => by kernel_rfl) ?_
    cases hg1 : (r4.2 != 8)
    ·
      skip
      refine T.pure (.int .i64 r8.2) (by kernel_rfl) (fun _ => by kernel_rfl) ?_
      refine T.pure (.bool (r8.2 != 0)) (by kernel_rfl) (fun _ => by kernel_rfl) ?_
      refine T.pure (.bool (r8.2 != 0)) (by kernel_rfl) (fun _ => by kernel_rfl) ?_
      refine T.nil ?_
      exact fun a w' hf hh => And.intro ((((((((Fr.nil hf).pick hf 48 rfl).pick hf 11 rfl).pick hf 10 rfl).pick hf 9 rfl).pick hf 2 rfl).pick hf 1 rfl).pick hf 0 rfl) (hh.sub List.Sublist.slnil)
    ·
      skip
      refine T.pass (by kernel_rfl) (by kernel_rfl) ?_
      refine T.pass (by kernel_rfl) (by kernel_rfl) ?_
      refine T.pure (.bool true) (by kernel_rfl) (fun _ => by kernel_rfl) ?_
      refine T.nil ?_
      exact fun a w' hf hh => And.intro ((((((((Fr.nil hf).pick hf 48 rfl).pick hf 11 rfl).pick hf 10 rfl).pick hf 9 rfl).pick hf 2 rfl).pick hf 1 rfl).pick hf 0 rfl) (hh.sub List.Sublist.slnil)
  ·
    rintro a w' ⟨hf, hh⟩
    refine (?_ : T 84 w V8 [] [(0, .int .i64 r1), (1, .string p1), (2, .int .i64 (IntKind.i64.wrap (1 + r2))), (9, .slice A4 r6.1.length c4), (10, .int .i64 r6.2), (11, .slice A6 r8.1.length c6), (48, .bool ((r4.2 != 8) || (r8.2 != 0)))] _) a w' hf hh
    clear hf hh
    refine T.cond ((r4.2 != 8) || (r8.2 != 0)) (by kernel_rfl) (by kernel_rfl) (fun hc1 => ?_) (fun hc1 => ?_)
    ·
      rw [hc1, cond_true] at hF
      refine T.seq ?_
      refine T.region ?_
      refine T.pure (.bool false) (by kernel_rfl) (fun _ => by kernel_rfl) ?_
      refine T.nil ?_
      cases hF
      refine T.ret rfl ?_
      exact T.ret1 rfl (ResIs.tmp rfl) fun w' hh => ⟨_, rfl, hh.below, (show _ from rfl)⟩
    ·
      rw [hc1, cond_false] at hF
      refine T.skip_code ?_
      refine T.seq ?_
      refine T.seq ?_
      refine T.region ?_
      refine T.pure (.string p1) (by kernel_rfl) (fun _ => by kernel_rfl) ?_
      refine T.pure (.int .i64 (p1.size : Int)) (by kernel_rfl) (fun _ => by kernel_rfl) ?_
      refine T.pure (.bool (decide ((40 : Int) < (p1.size : Int)))) (by kernel_rfl) (fun _ => by kernel_rfl) ?_
      refine T.nil ?_
      refine T.cond (decide ((40 : Int) < (p1.size : Int))) (by kernel_rfl) (by kernel_rfl) (fun hc2 => ?_) (fun hc2 => ?_)
      ·
        rw [hc2, cond_true] at hF
        refine T.seq ?_
        refine T.region ?_
        refine T.pure (.int .i64 r6.2) (by kernel_rfl) (fun _ => by kernel_rfl) ?_
        refine T.pure (.bool (r6.2 == 2)) (by kernel_rfl) (fun _ => by kernel_rfl) ?_
        refine T.pure (.bool (r6.2 == 2)) (by kernel_rfl) (fun _ => by kernel_rfl) ?_
        refine T.nil ?_
        cases hF
        refine T.ret rfl ?_
        exact T.ret1 rfl (ResIs.tmp rfl) fun w' hh => ⟨_, rfl, hh.below, (show _ from rfl)⟩
      ·
        rw [hc2, cond_false] at hF
        refine T.skip_code ?_
        refine T.seq ?_
        refine T.region ?_
        refine T.pure (.slice A6 r8.1.length c6) (by kernel_rfl) (fun _ => by kernel_rfl) ?_
        refine T.pure (.agg #[.int .i64 0, .int .i64 0, .int .i64 1000]) (by kernel_rfl) (fun _ => by kernel_rfl) ?_
        refine T.pure (.int .i64 (IntKind.i64.wrap (1 + r2))) (by kernel_rfl) (fun _ => by kernel_rfl) ?_
        obtain ⟨r9, hb9, hF⟩ := Option.bind_eq_some_iff.1 hF
        refine T.step (W1.call (vT2 (vSc (eList eElem)) (vSc eInt)) r9 48 #[.slice A6 r8.1.length c6, .agg #[.int .i64 0, .int .i64 0, .int .i64 1000], .string (ByteArray.mk #[]), .int .i64 (IntKind.i64.wrap (1 + r2))] (by kernel_rfl) (fun _ => by kernel_rfl) (fun w' hh => run_Put_l F r8.1 (DKey.mk 0 0 1000) (ByteArray.mk #[]) (IntKind.i64.wrap (1 + r2)) r9 hb9 w' A6 c6 (SlOk.mono (SlOk.mono hs6 (View.le_trans (made_le _ _) (View.le_refl _))) hh.view)) ?_)
        intro u V9 hV9 hu
        obtain ⟨u7, u8, rfl, hu7, hu8⟩ := vT2_elim hu
        obtain ⟨A7, c7, rfl, hs7⟩ := vlist_elim hu7
        obtain rfl := sureInt _ _ _ hu8
        refine T.pure (.tuple #[.slice A7 r9.1.length c7, .int .i64 r9.2]) (by kernel_rfl) (fun _ => by kernel_rfl) ?_
        refine T.pure (.slice A7 r9.1.length c7) (by kernel_rfl) (fun _ => by kernel_rfl) ?_
        refine T.pure (.int .i64 r9.2) (by kernel_rfl) (fun _ => by kernel_rfl) ?_
        refine T.pure (.slice A7 r9.1.length c7) (by kernel_rfl) (fun _ => by kernel_rfl) ?_
        refine T.pure (.int .i64 r9.2) (by kernel_rfl) (fun _ => by kernel_rfl) ?_
        refine T.nil ?_
        obtain ⟨z1, hX1, hF⟩ := Option.bind_eq_some_iff.1 hF
        refine T.cut (fun a w' => Fr 84 [(6, .bool z1)] a ∧ Hp w V9 [] w') ?_ ?_
        ·
          refine T.region ?_
          refine T.pure (.int .i64 r6.2) (by kernel_rfl) (fun _ => by kernel_rfl) ?_
          refine T.pure (.bool (r6.2 == 0)) (by kernel_rfl) (fun _ => by kernel_rfl) ?_
          refine T.pure (.bool (r6.2 == 0)) (by kernel_rfl) (fun _ => by kernel_rfl) ?_
          cases hg2 : (r6.2 == 0)
          ·
            skip
            rw [hg2, cond_false] at hX1
            refine T.pass (by kernel_rfl) (by kernel_rfl) ?_
            refine T.pass (by kernel_rfl) (by kernel_rfl) ?_
            refine T.pass (by kernel_rfl) (by kernel_rfl) ?_
            refine T.pure (.bool false) (by kernel_rfl) (fun _ => by kernel_rfl) ?_
            refine T.pure (.bool false) (by kernel_rfl) (fun _ => by kernel_rfl) ?_
            refine T.pass (by kernel_rfl) (by kernel_rfl) ?_
            refine T.pass (by kernel_rfl) (by kernel_rfl) ?_
            refine T.pass (by kernel_rfl) (by kernel_rfl) ?_
            refine T.pass (by kernel_rfl) (by kernel_rfl) ?_
            refine T.pass (by kernel_rfl) (by kernel_rfl) ?_
            refine T.pass (by kernel_rfl) (by kernel_rfl) ?_
            refine T.pass (by kernel_rfl) (by kernel_rfl) ?_
            refine T.pure (.bool false) (by kernel_rfl) (fun _ => by kernel_rfl) ?_
            refine T.pure (.bool false) (by kernel_rfl) (fun _ => by kernel_rfl) ?_
            refine T.pass (by kernel_rfl) (by kernel_rfl) ?_
            refine T.pass (by kernel_rfl) (by kernel_rfl) ?_
            refine T.pass (by kernel_rfl) (by kernel_rfl) ?_
            refine T.pass (by kernel_rfl) (by kernel_rfl) ?_
            refine T.pass (by kernel_rfl) (by kernel_rfl) ?_
            refine T.pure (.bool false) (by kernel_rfl) (fun _ => by kernel_rfl) ?_
            refine T.pure (.bool false) (by kernel_rfl) (fun _ => by kernel_rfl) ?_
            refine T.nil ?_
            cases hX1
            exact fun a w' hf hh => And.intro ((Fr.nil hf).pick hf 6 rfl) (hh.sub List.Sublist.slnil)
          ·
            skip
            rw [hg2, cond_true] at hX1
            refine T.pure (.slice A4 r6.1.length c4) (by kernel_rfl) (fun _ => by kernel_rfl) ?_
            refine T.pure (.int .i64 (r6.1.length : Int)) (by kernel_rfl) (fun _ => by kernel_rfl) ?_
            refine T.pure (.bool ((r6.1.length : Int) == 400)) (by kernel_rfl) (fun _ => by kernel_rfl) ?_
            refine T.pure (.bool ((r6.1.length : Int) == 400)) (by kernel_rfl) (fun _ => by kernel_rfl) ?_
            refine T.pure (.bool ((r6.1.length : Int) == 400)) (by kernel_rfl) (fun _ => by kernel_rfl) ?_
            cases hg3 : ((r6.1.length : Int) == 400)
            ·
              skip
              rw [hg3, cond_false] at hX1
              refine T.pass (by kernel_rfl) (by kernel_rfl) ?_
              refine T.pass (by kernel_rfl) (by kernel_rfl) ?_
              refine T.pass (by kernel_rfl) (by kernel_rfl) ?_
              refine T.pass (by kernel_rfl) (by kernel_rfl) ?_
              refine T.pass (by kernel_rfl) (by kernel_rfl) ?_
              refine T.pass (by kernel_rfl) (by kernel_rfl) ?_
              refine T.pass (by kernel_rfl) (by kernel_rfl) ?_
              refine T.pure (.bool false) (by kernel_rfl) (fun _ => by kernel_rfl) ?_
              refine T.pure (.bool false) (by kernel_rfl) (fun _ => by kernel_rfl) ?_
              refine T.pass (by kernel_rfl) (by kernel_rfl) ?_
              refine T.pass (by kernel_rfl) (by kernel_rfl) ?_
              refine T.pass (by kernel_rfl) (by kernel_rfl) ?_
              refine T.pass (by kernel_rfl) (by kernel_rfl) ?_
              refine T.pass (by kernel_rfl) (by kernel_rfl) ?_
              refine T.pure (.bool false) (by kernel_rfl) (fun _ => by kernel_rfl) ?_
              refine T.pure (.bool false) (by kernel_rfl) (fun _ => by kernel_rfl) ?_
              refine T.nil ?_
              cases hX1
              exact fun a w' hf hh => And.intro ((Fr.nil hf).pick hf 6 rfl) (hh.sub List.Sublist.slnil)
            ·
              skip
              rw [hg3, cond_true] at hX1
              refine T.pure (.slice A4 r6.1.length c4) (by kernel_rfl) (fun _ => by kernel_rfl) ?_
              refine T.pure (.int .i64 r1) (by kernel_rfl) (fun _ => by kernel_rfl) ?_
              obtain ⟨e1, hb10, hX1⟩ := Option.bind_eq_some_iff.1 hX1
              obtain ⟨hi1, hi2, hi3⟩ := idx_some hb10
              refine T.look (.pointer (some ((sadr A4).add (r1.toNat * 6)))) (by kernel_rfl) (fun w' hh => exec_indexAddr (e := 26) (s := 6) rfl rfl rfl (by kernel_rfl) (by kernel_rfl) hi1 hi2 ((SlOk.mono hs4 (View.le_trans (made_le _ _) (View.le_trans (View.le_trans hV7 hV8) hV9))).some_ hi3 (by decide))) ?_
              refine T.pure (.pointer (some (((sadr A4).add (r1.toNat * 6)).add 5))) (by kernel_rfl) (fun _ => by kernel_rfl) ?_
              refine T.look (.string e1.val) (by kernel_rfl) (fun w' hh => exec_load1 rfl rfl (by kernel_rfl) (hh.cell_view (SlOk.cellF (E := eElem) (SlOk.mono hs4 (View.le_trans (made_le _ _) (View.le_trans (View.le_trans hV7 hV8) hV9))) hi3 5 (fun _ _ _ h => h) rfl))) ?_
              refine T.pure (.string p1) (by kernel_rfl) (fun _ => by kernel_rfl) ?_
              refine T.pure (.bool (seq e1.val p1)) (by kernel_rfl) (fun _ => by kernel_rfl) ?_
              refine T.pure (.bool (seq e1.val p1)) (by kernel_rfl) (fun _ => by kernel_rfl) ?_
              refine T.pure (.bool (seq e1.val p1)) (by kernel_rfl) (fun _ => by kernel_rfl) ?_
              cases hg4 : (seq e1.val p1)
              ·
                skip
                rw [hg4, cond_false] at hX1
                refine T.pass (by kernel_rfl) (by kernel_rfl) ?_
                refine T.pass (by kernel_rfl) (by kernel_rfl) ?_
                refine T.pass (by kernel_rfl) (by kernel_rfl) ?_
                refine T.pass (by kernel_rfl) (by kernel_rfl) ?_
                refine T.pass (by kernel_rfl) (by kernel_rfl) ?_
                refine T.pure (.bool false) (by kernel_rfl) (fun _ => by kernel_rfl) ?_
                refine T.pure (.bool false) (by kernel_rfl) (fun _ => by kernel_rfl) ?_
                refine T.nil ?_
                cases hX1
                exact fun a w' hf hh => And.intro ((Fr.nil hf).pick hf 6 rfl) (hh.sub List.Sublist.slnil)
              ·
                skip
                rw [hg4, cond_true] at hX1
                refine T.pure (.int .i64 r9.2) (by kernel_rfl) (fun _ => by kernel_rfl) ?_
                refine T.pure (.bool (r9.2 == 0)) (by kernel_rfl) (fun _ => by kernel_rfl) ?_
                refine T.pure (.int .i64 (IntKind.i64.wrap (1 + r2))) (by kernel_rfl) (fun _ => by kernel_rfl) ?_
                refine T.pure (.bool ((IntKind.i64.wrap (1 + r2)) == 1)) (by kernel_rfl) (fun _ => by kernel_rfl) ?_
                refine T.pure (.bool ((r9.2 == 0) == ((IntKind.i64.wrap (1 + r2)) == 1))) (by kernel_rfl) (fun _ => by kernel_rfl) ?_
                refine T.pure (.bool ((r9.2 == 0) == ((IntKind.i64.wrap (1 + r2)) == 1))) (by kernel_rfl) (fun _ => by kernel_rfl) ?_
                refine T.pure (.bool ((r9.2 == 0) == ((IntKind.i64.wrap (1 + r2)) == 1))) (by kernel_rfl) (fun _ => by kernel_rfl) ?_
                refine T.nil ?_
                cases hX1
                exact fun a w' hf hh => And.intro ((Fr.nil hf).pick hf 6 rfl) (hh.sub List.Sublist.slnil)
        ·
          rintro a w' ⟨hf, hh⟩
          refine (?_ : T 84 w V9 [] [(6, .bool z1)] _) a w' hf hh
          clear hf hh
          cases hF
          refine T.ret rfl ?_
          exact T.ret1 rfl (ResIs.tmp rfl) fun w' hh => ⟨_, rfl, hh.below, (show _ from rfl)⟩

end Go.Proofs.Ytiaoncjkfgebdaa
