/- The Go functions of group WRunLate compute the pure functions of that group: written by walkgen.py. Condition of each: the pure function yields a result. -/
import Derived.Test.YtiaoncjkfgebdaaRunL
import Derived.Test.YtiaoncjkfgebdaaEqsL
import Derived.Test.YtiaoncjkfgebdaaWRunLateF
import Derived.Test.YtiaoncjkfgebdaaEqL
namespace Go.Proofs.Ytiaoncjkfgebdaa
set_option linter.unusedVariables false

set_option maxRecDepth 100000 in
set_option maxHeartbeats 4000000 in
theorem annalkeep_RunLate_l (F : Nat) (p0 : (List DElem)) (p1 : DKey) (p2 : ByteArray) (p3 : Int) (r : Bool) (hF : annalkeep_RunLate F p0 p1 p2 p3 = some r) (w : World) (A1 : Option Addr) (c1 : Nat) (hs1 : SlOk (vw w) eElem A1 c1 p0) :
    Calls Try.prog 11 #[.slice A1 p0.length c1, .agg #[.int .i64 p1.pfs, .int .i64 p1.obj, .int .i64 p1.off], .string p2, .int .i64 p3] w (Post (vSc eBool) r w) := by
  unfold annalkeep_RunLate at hF
  refine T.start (l := [.slice A1 p0.length c1, .agg #[.int .i64 p1.pfs, .int .i64 p1.obj, .int .i64 p1.off], .string p2, .int .i64 p3]) Try.func11 rfl rfl rfl ?_
  refine T.seq ?_
  refine T.region ?_
  refine T.step (W1.new 24 [.int .i64 p1.pfs, .int .i64 p1.obj, .int .i64 p1.off] (fun b => .pointer (some ⟨b, 0, none⟩)) (by kernel_rfl) (fun _ => by kernel_rfl) (fun b1 => ?_))
  refine T.pure (.bool false) (by kernel_rfl) (fun _ => by kernel_rfl) ?_
  refine T.nil ?_
  refine T.seq ?_
  refine T.seq ?_
  refine T.region ?_
  obtain ⟨r1, hb1, hF⟩ := Option.bind_eq_some_iff.1 hF
  refine T.step (W1.call (vSc (eList eElem)) r1 43 #[] (by kernel_rfl) (fun _ => by kernel_rfl) (fun w' hh => annalkeep_two_l  r1 hb1 w' ) ?_)
  intro u V1 hV1 hu
  obtain ⟨A2, c2, rfl, hs2⟩ := vlist_elim hu
  refine T.pure (.agg #[.int .i64 0, .int .i64 0, .int .i64 0]) (by kernel_rfl) (fun _ => by kernel_rfl) ?_
  obtain ⟨r2, hb2, hF⟩ := Option.bind_eq_some_iff.1 hF
  refine T.step (W1.call (vT2 (vSc (eList eElem)) (vSc eInt)) r2 48 #[.slice A2 r1.length c2, .agg #[.int .i64 0, .int .i64 0, .int .i64 0], .string (ByteArray.mk #[99]), .int .i64 2] (by kernel_rfl) (fun _ => by kernel_rfl) (fun w' hh => run_Put_l F r1 (DKey.mk 0 0 0) (ByteArray.mk #[99]) 2 r2 hb2 w' A2 c2 (SlOk.mono (SlOk.mono hs2 (View.le_trans (made_le _ _) (View.le_refl _))) hh.view)) ?_)
  intro u V2 hV2 hu
  obtain ⟨u1, u2, rfl, hu1, hu2⟩ := vT2_elim hu
  obtain ⟨A3, c3, rfl, hs3⟩ := vlist_elim hu1
  obtain rfl := sureInt _ _ _ hu2
  refine T.pure (.tuple #[.slice A3 r2.1.length c3, .int .i64 r2.2]) (by kernel_rfl) (fun _ => by kernel_rfl) ?_
  refine T.pure (.slice A3 r2.1.length c3) (by kernel_rfl) (fun _ => by kernel_rfl) ?_
  refine T.pure (.int .i64 r2.2) (by kernel_rfl) (fun _ => by kernel_rfl) ?_
  refine T.pure (.slice A3 r2.1.length c3) (by kernel_rfl) (fun _ => by kernel_rfl) ?_
  refine T.pure (.int .i64 r2.2) (by kernel_rfl) (fun _ => by kernel_rfl) ?_
  refine T.nil ?_
  refine T.seq ?_
  refine T.region ?_
  refine T.pure (.int .i64 r2.2) (by kernel_rfl) (fun _ => by kernel_rfl) ?_
  refine T.pure (.bool (r2.2 != 9)) (by kernel_rfl) (fun _ => by kernel_rfl) ?_
  refine T.nil ?_
  refine T.cond (r2.2 != 9) (by kernel_rfl) (by kernel_rfl) (fun hc1 => ?_) (fun hc1 => ?_)
  ·
    rw [hc1, cond_true] at hF
    refine T.seq ?_
    refine T.region ?_
    refine T.pure (.bool false) (by kernel_rfl) (fun _ => by kernel_rfl) ?_
    refine T.nil ?_
    cases hF
    refine T.ret rfl ?_
    exact T.ret1 rfl (ResIs.tmp rfl) fun w' hh => ⟨_, rfl, hh.below, (show _ from rfl)⟩
  ·
    rw [hc1, cond_false] at hF
    refine T.skip_code ?_
    refine T.seq ?_
    refine T.seq ?_
    refine T.region ?_
    obtain ⟨r3, hb3, hF⟩ := Option.bind_eq_some_iff.1 hF
    refine T.step (W1.call (vSc (eList eElem)) r3 43 #[] (by kernel_rfl) (fun _ => by kernel_rfl) (fun w' hh => annalkeep_two_l  r3 hb3 w' ) ?_)
    intro u V3 hV3 hu
    obtain ⟨A4, c4, rfl, hs4⟩ := vlist_elim hu
    refine T.pure (.agg #[.int .i64 0, .int .i64 0, .int .i64 0]) (by kernel_rfl) (fun _ => by kernel_rfl) ?_
    obtain ⟨r4, hb4, hF⟩ := Option.bind_eq_some_iff.1 hF
    refine T.step (W1.call (vT2 (vSc (eList eElem)) (vSc eInt)) r4 48 #[.slice A4 r3.length c4, .agg #[.int .i64 0, .int .i64 0, .int .i64 0], .string (ByteArray.mk #[99]), .int .i64 3] (by kernel_rfl) (fun _ => by kernel_rfl) (fun w' hh => run_Put_l F r3 (DKey.mk 0 0 0) (ByteArray.mk #[99]) 3 r4 hb4 w' A4 c4 (SlOk.mono (SlOk.mono hs4 (View.le_trans (made_le _ _) (View.le_refl _))) hh.view)) ?_)
    intro u V4 hV4 hu
    obtain ⟨u3, u4, rfl, hu3, hu4⟩ := vT2_elim hu
    obtain ⟨A5, c5, rfl, hs5⟩ := vlist_elim hu3
    obtain rfl := sureInt _ _ _ hu4
    refine T.pure (.tuple #[.slice A5 r4.1.length c5, .int .i64 r4.2]) (by kernel_rfl) (fun _ => by kernel_rfl) ?_
    refine T.pure (.slice A5 r4.1.length c5) (by kernel_rfl) (fun _ => by kernel_rfl) ?_
    refine T.pure (.int .i64 r4.2) (by kernel_rfl) (fun _ => by kernel_rfl) ?_
    refine T.pure (.slice A5 r4.1.length c5) (by kernel_rfl) (fun _ => by kernel_rfl) ?_
    refine T.pure (.int .i64 r4.2) (by kernel_rfl) (fun _ => by kernel_rfl) ?_
    refine T.nil ?_
    obtain ⟨z1, hX1, hF⟩ := Option.bind_eq_some_iff.1 hF
    refine T.cut (fun a w' => Fr 136 [(0, .slice A1 p0.length c1), (2, .string p2), (3, .int .i64 p3), (5, .pointer (some ⟨b1, 0, none⟩)), (51, .bool z1)] a ∧ Hp w V4 [box b1 24 [.int .i64 p1.pfs, .int .i64 p1.obj, .int .i64 p1.off]] w') ?_ ?_
    ·
      refine T.region ?_
      refine T.pure (.int .i64 r4.2) (by kernel_rfl) (fun _ => by kernel_rfl) ?_
      refine T.pure (.bool (r4.2 != 0)) (by kernel_rfl) (fun _ => by kernel_rfl) ?_
      refine T.pure (.bool (r4.2 != 0)) (by kernel_rfl) (fun _ => by kernel_rfl) ?_
      cases hg1 : (r4.2 != 0)
      ·
        skip
        rw [hg1, cond_false] at hX1
        refine T.pure (.slice A5 r4.1.length c5) (by kernel_rfl) (fun _ => by kernel_rfl) ?_
        refine T.pure (.int .i64 (r4.1.length : Int)) (by kernel_rfl) (fun _ => by kernel_rfl) ?_
        refine T.pure (.bool ((r4.1.length : Int) != 2)) (by kernel_rfl) (fun _ => by kernel_rfl) ?_
        refine T.pure (.bool ((r4.1.length : Int) != 2)) (by kernel_rfl) (fun _ => by kernel_rfl) ?_
        refine T.pure (.bool ((r4.1.length : Int) != 2)) (by kernel_rfl) (fun _ => by kernel_rfl) ?_
        cases hg2 : ((r4.1.length : Int) != 2)
        ·
          skip
          rw [hg2, cond_false] at hX1
          refine T.pure (.slice A5 r4.1.length c5) (by kernel_rfl) (fun _ => by kernel_rfl) ?_
          obtain ⟨e1, hb5, hX1⟩ := Option.bind_eq_some_iff.1 hX1
          obtain ⟨hi1, hi2, hi3⟩ := idx_some hb5
          refine T.look (.pointer (some ((sadr A5).add (((1 : Int).toNat) * 6)))) (by kernel_rfl) (fun w' hh => exec_indexAddr (e := 26) (s := 6) rfl rfl rfl (by kernel_rfl) (by kernel_rfl) hi1 hi2 ((SlOk.mono hs5 (View.le_trans (made_le _ _) (View.le_refl _))).some_ hi3 (by decide))) ?_
          refine T.pure (.pointer (some (((sadr A5).add (((1 : Int).toNat) * 6)).add 5))) (by kernel_rfl) (fun _ => by kernel_rfl) ?_
          refine T.look (.string e1.val) (by kernel_rfl) (fun w' hh => exec_load1 rfl rfl (by kernel_rfl) (hh.cell_view (SlOk.cellF (E := eElem) (SlOk.mono hs5 (View.le_trans (made_le _ _) (View.le_refl _))) hi3 5 (fun _ _ _ h => h) rfl))) ?_
          refine T.pure (.bool (!(seq e1.val (ByteArray.mk #[99])))) (by kernel_rfl) (fun _ => by kernel_rfl) ?_
          refine T.pure (.bool (!(seq e1.val (ByteArray.mk #[99])))) (by kernel_rfl) (fun _ => by kernel_rfl) ?_
          refine T.nil ?_
          cases hX1
          exact fun a w' hf hh => And.intro ((((((Fr.nil hf).pick hf 51 rfl).pick hf 5 rfl).pick hf 3 rfl).pick hf 2 rfl).pick hf 0 rfl) (hh.sub (.cons_cons _ List.Sublist.slnil))
        ·
          skip
          rw [hg2, cond_true] at hX1
          refine T.pass (by kernel_rfl) (by kernel_rfl) ?_
          refine T.pass (by kernel_rfl) (by kernel_rfl) ?_
          refine T.pass (by kernel_rfl) (by kernel_rfl) ?_
          refine T.pass (by kernel_rfl) (by kernel_rfl) ?_
          refine T.pass (by kernel_rfl) (by kernel_rfl) ?_
          refine T.pure (.bool true) (by kernel_rfl) (fun _ => by kernel_rfl) ?_
          refine T.nil ?_
          cases hX1
          exact fun a w' hf hh => And.intro ((((((Fr.nil hf).pick hf 51 rfl).pick hf 5 rfl).pick hf 3 rfl).pick hf 2 rfl).pick hf 0 rfl) (hh.sub (.cons_cons _ List.Sublist.slnil))
      ·
        skip
        rw [hg1, cond_true] at hX1
        refine T.pass (by kernel_rfl) (by kernel_rfl) ?_
        refine T.pass (by kernel_rfl) (by kernel_rfl) ?_
        refine T.pass (by kernel_rfl) (by kernel_rfl) ?_
        refine T.pure (.bool true) (by kernel_rfl) (fun _ => by kernel_rfl) ?_
        refine T.pure (.bool true) (by kernel_rfl) (fun _ => by kernel_rfl) ?_
        refine T.pass (by kernel_rfl) (by kernel_rfl) ?_
        refine T.pass (by kernel_rfl) (by kernel_rfl) ?_
        refine T.pass (by kernel_rfl) (by kernel_rfl) ?_
        refine T.pass (by kernel_rfl) (by kernel_rfl) ?_
        refine T.pass (by kernel_rfl) (by kernel_rfl) ?_
        refine T.pure (.bool true) (by kernel_rfl) (fun _ => by kernel_rfl) ?_
        refine T.nil ?_
        cases hX1
        exact fun a w' hf hh => And.intro ((((((Fr.nil hf).pick hf 51 rfl).pick hf 5 rfl).pick hf 3 rfl).pick hf 2 rfl).pick hf 0 rfl) (hh.sub (.cons_cons _ List.Sublist.slnil))
    ·
      rintro a w' ⟨hf, hh⟩
      refine (?_ : T 136 w V4 [box b1 24 [.int .i64 p1.pfs, .int .i64 p1.obj, .int .i64 p1.off]] [(0, .slice A1 p0.length c1), (2, .string p2), (3, .int .i64 p3), (5, .pointer (some ⟨b1, 0, none⟩)), (51, .bool z1)] _) a w' hf hh
      clear hf hh
      refine T.cond z1 (by kernel_rfl) (by kernel_rfl) (fun hc2 => ?_) (fun hc2 => ?_)
      ·
        rw [hc2, cond_true] at hF
        refine T.seq ?_
        refine T.region ?_
        refine T.pure (.bool false) (by kernel_rfl) (fun _ => by kernel_rfl) ?_
        refine T.nil ?_
        cases hF
        refine T.ret rfl ?_
        exact T.ret1 rfl (ResIs.tmp rfl) fun w' hh => ⟨_, rfl, hh.below, (show _ from rfl)⟩
      ·
        rw [hc2, cond_false] at hF
        refine T.skip_code ?_
        refine T.seq ?_
        refine T.region ?_
        refine T.pure (.slice A1 p0.length c1) (by kernel_rfl) (fun _ => by kernel_rfl) ?_
        obtain ⟨r5, hb6, hF⟩ := Option.bind_eq_some_iff.1 hF
        refine T.step (W1.call (vT2 (vSc eInt) (vSc eInt)) r5 27 #[.slice A1 p0.length c1] (by kernel_rfl) (fun _ => by kernel_rfl) (fun w' hh => run_Last_l F p0 r5 hb6 w' A1 c1 (SlOk.mono (SlOk.mono hs1 (View.le_trans (View.le_trans (View.le_trans hV1 hV2) hV3) hV4)) hh.view)) ?_)
        intro u V5 hV5 hu
        obtain rfl := (Sure.t2 sureInt sureInt) _ _ _ hu
        refine T.pure (.tuple #[.int .i64 r5.1, .int .i64 r5.2]) (by kernel_rfl) (fun _ => by kernel_rfl) ?_
        refine T.pure (.int .i64 r5.1) (by kernel_rfl) (fun _ => by kernel_rfl) ?_
        refine T.pure (.int .i64 r5.2) (by kernel_rfl) (fun _ => by kernel_rfl) ?_
        refine T.pure (.int .i64 r5.1) (by kernel_rfl) (fun _ => by kernel_rfl) ?_
        refine T.pure (.int .i64 r5.2) (by kernel_rfl) (fun _ => by kernel_rfl) ?_
        refine T.nil ?_
        refine T.seq ?_
        refine T.seq ?_
        refine T.region ?_
        refine T.pure (.int .i64 r5.2) (by kernel_rfl) (fun _ => by kernel_rfl) ?_
        refine T.pure (.bool (r5.2 != 0)) (by kernel_rfl) (fun _ => by kernel_rfl) ?_
        refine T.nil ?_
        refine T.cond (r5.2 != 0) (by kernel_rfl) (by kernel_rfl) (fun hc3 => ?_) (fun hc3 => ?_)
        ·
          rw [hc3, cond_true] at hF
          refine T.seq ?_
          refine T.region ?_
          refine T.pure (.int .i64 r5.1) (by kernel_rfl) (fun _ => by kernel_rfl) ?_
          refine T.pure (.bool (r5.1 == 0)) (by kernel_rfl) (fun _ => by kernel_rfl) ?_
          refine T.pure (.bool (r5.1 == 0)) (by kernel_rfl) (fun _ => by kernel_rfl) ?_
          refine T.nil ?_
          cases hF
          refine T.ret rfl ?_
          exact T.ret1 rfl (ResIs.tmp rfl) fun w' hh => ⟨_, rfl, hh.below, (show _ from rfl)⟩
        ·
          rw [hc3, cond_false] at hF
          refine T.skip_code ?_
          refine T.seq ?_
          refine T.region ?_
          refine T.pure (.slice A1 p0.length c1) (by kernel_rfl) (fun _ => by kernel_rfl) ?_
          refine T.look (.agg #[.int .i64 p1.pfs, .int .i64 p1.obj, .int .i64 p1.off]) (by kernel_rfl) (fun w' hh => exec_loadN (cs := [.int .i64 p1.pfs, .int .i64 p1.obj, .int .i64 p1.off]) rfl rfl (by kernel_rfl) (by kernel_rfl) (fun j u hj => (hh.box_at (i := 0) (cs := [.int .i64 p1.pfs, .int .i64 p1.obj, .int .i64 p1.off]) (by rfl) 0 j).trans (seg_at (n := 3) rfl hj))) ?_
          refine T.pure (.string p2) (by kernel_rfl) (fun _ => by kernel_rfl) ?_
          refine T.pure (.int .i64 p3) (by kernel_rfl) (fun _ => by kernel_rfl) ?_
          obtain ⟨r6, hb7, hF⟩ := Option.bind_eq_some_iff.1 hF
          refine T.step (W1.call (vT2 (vSc (eList eElem)) (vSc eInt)) r6 48 #[.slice A1 p0.length c1, .agg #[.int .i64 p1.pfs, .int .i64 p1.obj, .int .i64 p1.off], .string p2, .int .i64 p3] (by kernel_rfl) (fun _ => by kernel_rfl) (fun w' hh => run_Put_l F p0 p1 p2 p3 r6 hb7 w' A1 c1 (SlOk.mono (SlOk.mono hs1 (View.le_trans (View.le_trans (View.le_trans (View.le_trans hV1 hV2) hV3) hV4) hV5)) hh.view)) ?_)
          intro u V6 hV6 hu
          obtain ⟨u5, u6, rfl, hu5, hu6⟩ := vT2_elim hu
          obtain ⟨A6, c6, rfl, hs6⟩ := vlist_elim hu5
          obtain rfl := sureInt _ _ _ hu6
          refine T.pure (.tuple #[.slice A6 r6.1.length c6, .int .i64 r6.2]) (by kernel_rfl) (fun _ => by kernel_rfl) ?_
          refine T.pure (.slice A6 r6.1.length c6) (by kernel_rfl) (fun _ => by kernel_rfl) ?_
          refine T.pure (.int .i64 r6.2) (by kernel_rfl) (fun _ => by kernel_rfl) ?_
          refine T.pure (.slice A6 r6.1.length c6) (by kernel_rfl) (fun _ => by kernel_rfl) ?_
          refine T.pure (.int .i64 r6.2) (by kernel_rfl) (fun _ => by kernel_rfl) ?_
          refine T.nil ?_
          obtain ⟨q1, hX2, hF⟩ := Option.bind_eq_some_iff.1 hF
          refine T.cut (fun a w' => q1 = Sum.inl () ∧ ∃ (V7 : View), View.le V6 V7 ∧ Fr 136 [(0, .slice A1 p0.length c1), (3, .int .i64 p3), (5, .pointer (some ⟨b1, 0, none⟩))] a ∧ Hp w V7 [box b1 24 [.int .i64 p1.pfs, .int .i64 p1.obj, .int .i64 p1.off]] w') ?_ ?_
          ·
            refine T.seq ?_
            refine T.region ?_
            refine T.pure (.int .i64 r6.2) (by kernel_rfl) (fun _ => by kernel_rfl) ?_
            refine T.pure (.bool (r6.2 == 0)) (by kernel_rfl) (fun _ => by kernel_rfl) ?_
            refine T.nil ?_
            refine T.cond (r6.2 == 0) (by kernel_rfl) (by kernel_rfl) (fun hc4 => ?_) (fun hc4 => ?_)
            ·
              rw [hc4, cond_true] at hX2
              refine T.seq ?_
              refine T.region ?_
              refine T.pure (.slice A6 r6.1.length c6) (by kernel_rfl) (fun _ => by kernel_rfl) ?_
              obtain ⟨r7, hb8, hX2⟩ := Option.bind_eq_some_iff.1 hX2
              refine T.step (W1.call (vT2 (vSc eInt) (vSc eInt)) r7 27 #[.slice A6 r6.1.length c6] (by kernel_rfl) (fun _ => by kernel_rfl) (fun w' hh => run_Last_l F r6.1 r7 hb8 w' A6 c6 (SlOk.mono (SlOk.mono hs6 (View.le_trans (made_le _ _) (View.le_refl _))) hh.view)) ?_)
              intro u V8 hV8 hu
              obtain rfl := (Sure.t2 sureInt sureInt) _ _ _ hu
              refine T.pure (.tuple #[.int .i64 r7.1, .int .i64 r7.2]) (by kernel_rfl) (fun _ => by kernel_rfl) ?_
              refine T.pure (.int .i64 r7.1) (by kernel_rfl) (fun _ => by kernel_rfl) ?_
              refine T.pure (.int .i64 r7.2) (by kernel_rfl) (fun _ => by kernel_rfl) ?_
              refine T.pure (.int .i64 r7.1) (by kernel_rfl) (fun _ => by kernel_rfl) ?_
              refine T.pure (.int .i64 r7.2) (by kernel_rfl) (fun _ => by kernel_rfl) ?_
              refine T.nil ?_
              refine T.seq ?_
              refine T.region ?_
              refine T.pure (.slice A6 r6.1.length c6) (by kernel_rfl) (fun _ => by kernel_rfl) ?_
              refine T.look (.agg #[.int .i64 p1.pfs, .int .i64 p1.obj, .int .i64 p1.off]) (by kernel_rfl) (fun w' hh => exec_loadN (cs := [.int .i64 p1.pfs, .int .i64 p1.obj, .int .i64 p1.off]) rfl rfl (by kernel_rfl) (by kernel_rfl) (fun j u hj => (hh.box_at (i := 0) (cs := [.int .i64 p1.pfs, .int .i64 p1.obj, .int .i64 p1.off]) (by rfl) 0 j).trans (seg_at (n := 3) rfl hj))) ?_
              refine T.pure (.string p2) (by kernel_rfl) (fun _ => by kernel_rfl) ?_
              refine T.pure (.int .i64 p3) (by kernel_rfl) (fun _ => by kernel_rfl) ?_
              refine T.pure (.int .i64 (IntKind.i64.wrap (p3 - 1))) (by kernel_rfl) (fun _ => by kernel_rfl) ?_
              obtain ⟨r8, hb9, hX2⟩ := Option.bind_eq_some_iff.1 hX2
              refine T.step (W1.call (vT2 (vSc (eList eElem)) (vSc eInt)) r8 48 #[.slice A6 r6.1.length c6, .agg #[.int .i64 p1.pfs, .int .i64 p1.obj, .int .i64 p1.off], .string p2, .int .i64 (IntKind.i64.wrap (p3 - 1))] (by kernel_rfl) (fun _ => by kernel_rfl) (fun w' hh => run_Put_l F r6.1 p1 p2 (IntKind.i64.wrap (p3 - 1)) r8 hb9 w' A6 c6 (SlOk.mono (SlOk.mono hs6 (View.le_trans (made_le _ _) hV8)) hh.view)) ?_)
              intro u V9 hV9 hu
              obtain ⟨u7, u8, rfl, hu7, hu8⟩ := vT2_elim hu
              obtain ⟨A7, c7, rfl, hs7⟩ := vlist_elim hu7
              obtain rfl := sureInt _ _ _ hu8
              refine T.pure (.tuple #[.slice A7 r8.1.length c7, .int .i64 r8.2]) (by kernel_rfl) (fun _ => by kernel_rfl) ?_
              refine T.pure (.slice A7 r8.1.length c7) (by kernel_rfl) (fun _ => by kernel_rfl) ?_
              refine T.pure (.int .i64 r8.2) (by kernel_rfl) (fun _ => by kernel_rfl) ?_
              refine T.pure (.slice A7 r8.1.length c7) (by kernel_rfl) (fun _ => by kernel_rfl) ?_
              refine T.pure (.int .i64 r8.2) (by kernel_rfl) (fun _ => by kernel_rfl) ?_
              refine T.nil ?_
              refine T.cut (fun a w' => Fr 136 [(0, .slice A1 p0.length c1), (3, .int .i64 p3), (5, .pointer (some ⟨b1, 0, none⟩)), (100, .bool ((r7.2 != 0) || ((r7.1 != p3) || ((decide (p3 < r5.1)) || (r8.2 != 9)))))] a ∧ Hp w V9 [box b1 24 [.int .i64 p1.pfs, .int .i64 p1.obj, .int .i64 p1.off]] w') ?_ ?_
              ·
                refine T.region ?_
                refine T.pure (.int .i64 r7.2) (by kernel_rfl) (fun _ => by kernel_rfl) ?_
                refine T.pure (.bool (r7.2 != 0)) (by kernel_rfl) (fun _ => by kernel_rfl) ?_
                refine T.pure (.bool (r7.2 != 0)) (by kernel_rfl) (fun _ => by kernel_rfl) ?_
                cases hg3 : (r7.2 != 0)
                ·
                  skip
                  refine T.pure (.int .i64 r7.1) (by kernel_rfl) (fun _ => by kernel_rfl) ?_
                  refine T.pure (.int .i64 p3) (by kernel_rfl) (fun _ => by kernel_rfl) ?_
                  refine T.pure (.bool (r7.1 != p3)) (by kernel_rfl) (fun _ => by kernel_rfl) ?_
                  refine T.pure (.bool (r7.1 != p3)) (by kernel_rfl) (fun _ => by kernel_rfl) ?_
                  refine T.pure (.bool (r7.1 != p3)) (by kernel_rfl) (fun _ => by kernel_rfl) ?_
                  cases hg4 : (r7.1 != p3)
                  ·
                    skip
                    refine T.pure (.int .i64 p3) (by kernel_rfl) (fun _ => by kernel_rfl) ?_
                    refine T.pure (.int .i64 r5.1) (by kernel_rfl) (fun _ => by kernel_rfl) ?_
                    refine T.pure (.bool (decide (p3 < r5.1))) (by kernel_rfl) (fun _ => by kernel_rfl) ?_
                    refine T.pure (.bool (decide (p3 < r5.1))) (by kernel_rfl) (fun _ => by kernel_rfl) ?_
                    refine T.pure (.bool (decide (p3 < r5.1))) (by kernel_rfl) (fun _ => by kernel_rfl) ?_
                    cases hg5 : decide (p3 < r5.1)
                    ·
                      skip
                      refine T.pure (.int .i64 r8.2) (by kernel_rfl) (fun _ => by kernel_rfl) ?_
                      refine T.pure (.bool (r8.2 != 9)) (by kernel_rfl) (fun _ => by kernel_rfl) ?_
                      refine T.pure (.bool (r8.2 != 9)) (by kernel_rfl) (fun _ => by kernel_rfl) ?_
                      refine T.nil ?_
                      exact fun a w' hf hh => And.intro (((((Fr.nil hf).pick hf 100 rfl).pick hf 5 rfl).pick hf 3 rfl).pick hf 0 rfl) (hh.sub (.cons_cons _ List.Sublist.slnil))
                    ·
                      skip
                      refine T.pass (by kernel_rfl) (by kernel_rfl) ?_
                      refine T.pass (by kernel_rfl) (by kernel_rfl) ?_
                      refine T.pure (.bool true) (by kernel_rfl) (fun _ => by kernel_rfl) ?_
                      refine T.nil ?_
                      exact fun a w' hf hh => And.intro (((((Fr.nil hf).pick hf 100 rfl).pick hf 5 rfl).pick hf 3 rfl).pick hf 0 rfl) (hh.sub (.cons_cons _ List.Sublist.slnil))
                  ·
                    skip
                    refine T.pass (by kernel_rfl) (by kernel_rfl) ?_
                    refine T.pass (by kernel_rfl) (by kernel_rfl) ?_
                    refine T.pass (by kernel_rfl) (by kernel_rfl) ?_
                    refine T.pure (.bool true) (by kernel_rfl) (fun _ => by kernel_rfl) ?_
                    refine T.pure (.bool true) (by kernel_rfl) (fun _ => by kernel_rfl) ?_
                    refine T.pass (by kernel_rfl) (by kernel_rfl) ?_
                    refine T.pass (by kernel_rfl) (by kernel_rfl) ?_
                    refine T.pure (.bool true) (by kernel_rfl) (fun _ => by kernel_rfl) ?_
                    refine T.nil ?_
                    exact fun a w' hf hh => And.intro (((((Fr.nil hf).pick hf 100 rfl).pick hf 5 rfl).pick hf 3 rfl).pick hf 0 rfl) (hh.sub (.cons_cons _ List.Sublist.slnil))
                ·
                  skip
                  refine T.pass (by kernel_rfl) (by kernel_rfl) ?_
                  refine T.pass (by kernel_rfl) (by kernel_rfl) ?_
                  refine T.pass (by kernel_rfl) (by kernel_rfl) ?_
                  refine T.pure (.bool true) (by kernel_rfl) (fun _ => by kernel_rfl) ?_
                  refine T.pure (.bool true) (by kernel_rfl) (fun _ => by kernel_rfl) ?_
                  refine T.pass (by kernel_rfl) (by kernel_rfl) ?_
                  refine T.pass (by kernel_rfl) (by kernel_rfl) ?_
                  refine T.pass (by kernel_rfl) (by kernel_rfl) ?_
                  refine T.pure (.bool true) (by kernel_rfl) (fun _ => by kernel_rfl) ?_
                  refine T.pure (.bool true) (by kernel_rfl) (fun _ => by kernel_rfl) ?_
                  refine T.pass (by kernel_rfl) (by kernel_rfl) ?_
                  refine T.pass (by kernel_rfl) (by kernel_rfl) ?_
                  refine T.pure (.bool true) (by kernel_rfl) (fun _ => by kernel_rfl) ?_
                  refine T.nil ?_
                  exact fun a w' hf hh => And.intro (((((Fr.nil hf).pick hf 100 rfl).pick hf 5 rfl).pick hf 3 rfl).pick hf 0 rfl) (hh.sub (.cons_cons _ List.Sublist.slnil))
              ·
                rintro a w' ⟨hf, hh⟩
                refine (?_ : T 136 w V9 [box b1 24 [.int .i64 p1.pfs, .int .i64 p1.obj, .int .i64 p1.off]] [(0, .slice A1 p0.length c1), (3, .int .i64 p3), (5, .pointer (some ⟨b1, 0, none⟩)), (100, .bool ((r7.2 != 0) || ((r7.1 != p3) || ((decide (p3 < r5.1)) || (r8.2 != 9)))))] _) a w' hf hh
                clear hf hh
                refine T.cond ((r7.2 != 0) || ((r7.1 != p3) || ((decide (p3 < r5.1)) || (r8.2 != 9)))) (by kernel_rfl) (by kernel_rfl) (fun hc5 => ?_) (fun hc5 => ?_)
                ·
                  rw [hc5, cond_true] at hX2
                  refine T.seq ?_
                  refine T.region ?_
                  refine T.pure (.bool false) (by kernel_rfl) (fun _ => by kernel_rfl) ?_
                  refine T.nil ?_
                  cases hX2
                  try dsimp only at hF
                  cases hF
                  refine T.ret rfl ?_
                  exact T.ret1 rfl (ResIs.tmp rfl) fun w' hh => ⟨_, rfl, hh.below, (show _ from rfl)⟩
                ·
                  rw [hc5, cond_false] at hX2
                  refine T.skip_code ?_
                  cases hX2
                  exact fun a w' hf hh => And.intro rfl (Exists.intro V9 (And.intro (View.le_trans hV8 hV9) (And.intro ((((Fr.nil hf).pick hf 5 rfl).pick hf 3 rfl).pick hf 0 rfl) (hh.sub (.cons_cons _ List.Sublist.slnil)))))
            ·
              rw [hc4, cond_false] at hX2
              refine T.skip_code ?_
              cases hX2
              exact fun a w' hf hh => And.intro rfl (Exists.intro V6 (And.intro (View.le_refl _) (And.intro ((((Fr.nil hf).pick hf 5 rfl).pick hf 3 rfl).pick hf 0 rfl) (hh.sub (.cons_cons _ List.Sublist.slnil)))))
          ·
            rintro a w' ⟨rfl, V7, hV7, hf, hh⟩
            try dsimp only at hF
            refine (?_ : T 136 w V7 [box b1 24 [.int .i64 p1.pfs, .int .i64 p1.obj, .int .i64 p1.off]] [(0, .slice A1 p0.length c1), (3, .int .i64 p3), (5, .pointer (some ⟨b1, 0, none⟩))] _) a w' hf hh
            clear hf hh
            refine T.seq ?_
            refine T.region ?_
            refine T.pure (.slice A1 p0.length c1) (by kernel_rfl) (fun _ => by kernel_rfl) ?_
            refine T.look (.agg #[.int .i64 p1.pfs, .int .i64 p1.obj, .int .i64 p1.off]) (by kernel_rfl) (fun w' hh => exec_loadN (cs := [.int .i64 p1.pfs, .int .i64 p1.obj, .int .i64 p1.off]) rfl rfl (by kernel_rfl) (by kernel_rfl) (fun j u hj => (hh.box_at (i := 0) (cs := [.int .i64 p1.pfs, .int .i64 p1.obj, .int .i64 p1.off]) (by rfl) 0 j).trans (seg_at (n := 3) rfl hj))) ?_
            refine T.pure (.int .i64 p3) (by kernel_rfl) (fun _ => by kernel_rfl) ?_
            obtain ⟨r9, hb10, hF⟩ := Option.bind_eq_some_iff.1 hF
            refine T.step (W1.call (vT2 (vSc (eList eElem)) (vSc eInt)) r9 50 #[.slice A1 p0.length c1, .agg #[.int .i64 p1.pfs, .int .i64 p1.obj, .int .i64 p1.off], .int .i64 p3] (by kernel_rfl) (fun _ => by kernel_rfl) (fun w' hh => run_Cut_l F p0 p1 p3 r9 hb10 w' A1 c1 (SlOk.mono (SlOk.mono hs1 (View.le_trans (View.le_trans (View.le_trans (View.le_trans (View.le_trans (View.le_trans hV1 hV2) hV3) hV4) hV5) hV6) hV7)) hh.view)) ?_)
            intro u V10 hV10 hu
            obtain ⟨u9, u10, rfl, hu9, hu10⟩ := vT2_elim hu
            obtain ⟨A8, c8, rfl, hs8⟩ := vlist_elim hu9
            obtain rfl := sureInt _ _ _ hu10
            refine T.pure (.tuple #[.slice A8 r9.1.length c8, .int .i64 r9.2]) (by kernel_rfl) (fun _ => by kernel_rfl) ?_
            refine T.pure (.slice A8 r9.1.length c8) (by kernel_rfl) (fun _ => by kernel_rfl) ?_
            refine T.pure (.int .i64 r9.2) (by kernel_rfl) (fun _ => by kernel_rfl) ?_
            refine T.pure (.slice A8 r9.1.length c8) (by kernel_rfl) (fun _ => by kernel_rfl) ?_
            refine T.pure (.int .i64 r9.2) (by kernel_rfl) (fun _ => by kernel_rfl) ?_
            refine T.nil ?_
            refine T.seq ?_
            refine T.seq ?_
            refine T.region ?_
            refine T.pure (.int .i64 r9.2) (by kernel_rfl) (fun _ => by kernel_rfl) ?_
            refine T.pure (.bool (r9.2 != 0)) (by kernel_rfl) (fun _ => by kernel_rfl) ?_
            refine T.nil ?_
            refine T.cond (r9.2 != 0) (by kernel_rfl) (by kernel_rfl) (fun hc6 => ?_) (fun hc6 => ?_)
            ·
              rw [hc6, cond_true] at hF
              refine T.seq ?_
              refine T.region ?_
              refine T.pure (.slice A8 r9.1.length c8) (by kernel_rfl) (fun _ => by kernel_rfl) ?_
              refine T.pure (.int .i64 (r9.1.length : Int)) (by kernel_rfl) (fun _ => by kernel_rfl) ?_
              refine T.pure (.bool ((r9.1.length : Int) == 0)) (by kernel_rfl) (fun _ => by kernel_rfl) ?_
              refine T.pure (.bool ((r9.1.length : Int) == 0)) (by kernel_rfl) (fun _ => by kernel_rfl) ?_
              refine T.nil ?_
              cases hF
              refine T.ret rfl ?_
              exact T.ret1 rfl (ResIs.tmp rfl) fun w' hh => ⟨_, rfl, hh.below, (show _ from rfl)⟩
            ·
              rw [hc6, cond_false] at hF
              refine T.skip_code ?_
              refine T.seq ?_
              refine T.region ?_
              refine T.pure (.slice A8 r9.1.length c8) (by kernel_rfl) (fun _ => by kernel_rfl) ?_
              obtain ⟨r10, hb11, hF⟩ := Option.bind_eq_some_iff.1 hF
              refine T.step (W1.call (vT2 (vSc eInt) (vSc eInt)) r10 27 #[.slice A8 r9.1.length c8] (by kernel_rfl) (fun _ => by kernel_rfl) (fun w' hh => run_Last_l F r9.1 r10 hb11 w' A8 c8 (SlOk.mono (SlOk.mono hs8 (View.le_trans (made_le _ _) (View.le_refl _))) hh.view)) ?_)
              intro u V11 hV11 hu
              obtain rfl := (Sure.t2 sureInt sureInt) _ _ _ hu
              refine T.pure (.tuple #[.int .i64 r10.1, .int .i64 r10.2]) (by kernel_rfl) (fun _ => by kernel_rfl) ?_
              refine T.pure (.int .i64 r10.1) (by kernel_rfl) (fun _ => by kernel_rfl) ?_
              refine T.pure (.int .i64 r10.2) (by kernel_rfl) (fun _ => by kernel_rfl) ?_
              refine T.pure (.int .i64 r10.1) (by kernel_rfl) (fun _ => by kernel_rfl) ?_
              refine T.pure (.int .i64 r10.2) (by kernel_rfl) (fun _ => by kernel_rfl) ?_
              refine T.nil ?_
              refine T.seq ?_
              refine T.region ?_
              refine T.pure (.slice A8 r9.1.length c8) (by kernel_rfl) (fun _ => by kernel_rfl) ?_
              refine T.look (.agg #[.int .i64 p1.pfs, .int .i64 p1.obj, .int .i64 p1.off]) (by kernel_rfl) (fun w' hh => exec_loadN (cs := [.int .i64 p1.pfs, .int .i64 p1.obj, .int .i64 p1.off]) rfl rfl (by kernel_rfl) (by kernel_rfl) (fun j u hj => (hh.box_at (i := 0) (cs := [.int .i64 p1.pfs, .int .i64 p1.obj, .int .i64 p1.off]) (by rfl) 0 j).trans (seg_at (n := 3) rfl hj))) ?_
              refine T.pure (.int .i64 p3) (by kernel_rfl) (fun _ => by kernel_rfl) ?_
              obtain ⟨r11, hb12, hF⟩ := Option.bind_eq_some_iff.1 hF
              refine T.step (W1.call (vT2 (vSc (eList eElem)) (vSc eInt)) r11 50 #[.slice A8 r9.1.length c8, .agg #[.int .i64 p1.pfs, .int .i64 p1.obj, .int .i64 p1.off], .int .i64 p3] (by kernel_rfl) (fun _ => by kernel_rfl) (fun w' hh => run_Cut_l F r9.1 p1 p3 r11 hb12 w' A8 c8 (SlOk.mono (SlOk.mono hs8 (View.le_trans (made_le _ _) hV11)) hh.view)) ?_)
              intro u V12 hV12 hu
              obtain ⟨u11, u12, rfl, hu11, hu12⟩ := vT2_elim hu
              obtain ⟨A9, c9, rfl, hs9⟩ := vlist_elim hu11
              obtain rfl := sureInt _ _ _ hu12
              refine T.pure (.tuple #[.slice A9 r11.1.length c9, .int .i64 r11.2]) (by kernel_rfl) (fun _ => by kernel_rfl) ?_
              refine T.pure (.slice A9 r11.1.length c9) (by kernel_rfl) (fun _ => by kernel_rfl) ?_
              refine T.pure (.int .i64 r11.2) (by kernel_rfl) (fun _ => by kernel_rfl) ?_
              refine T.pure (.slice A9 r11.1.length c9) (by kernel_rfl) (fun _ => by kernel_rfl) ?_
              refine T.pure (.int .i64 r11.2) (by kernel_rfl) (fun _ => by kernel_rfl) ?_
              refine T.nil ?_
              refine T.cut (fun a w' => Fr 136 [(8, .bool ((r10.2 == 0) && ((decide (r10.1 ≤ p3)) && (r11.2 == 4))))] a ∧ Hp w V12 [] w') ?_ ?_
              ·
                refine T.region ?_
                refine T.pure (.int .i64 r10.2) (by kernel_rfl) (fun _ => by kernel_rfl) ?_
                refine T.pure (.bool (r10.2 == 0)) (by kernel_rfl) (fun _ => by kernel_rfl) ?_
                refine T.pure (.bool (r10.2 == 0)) (by kernel_rfl) (fun _ => by kernel_rfl) ?_
                cases hg6 : (r10.2 == 0)
                ·
                  skip
                  refine T.pass (by kernel_rfl) (by kernel_rfl) ?_
                  refine T.pass (by kernel_rfl) (by kernel_rfl) ?_
                  refine T.pass (by kernel_rfl) (by kernel_rfl) ?_
                  refine T.pure (.bool false) (by kernel_rfl) (fun _ => by kernel_rfl) ?_
                  refine T.pure (.bool false) (by kernel_rfl) (fun _ => by kernel_rfl) ?_
                  refine T.pass (by kernel_rfl) (by kernel_rfl) ?_
                  refine T.pass (by kernel_rfl) (by kernel_rfl) ?_
                  refine T.pure (.bool false) (by kernel_rfl) (fun _ => by kernel_rfl) ?_
                  refine T.pure (.bool false) (by kernel_rfl) (fun _ => by kernel_rfl) ?_
                  refine T.nil ?_
                  exact fun a w' hf hh => And.intro ((Fr.nil hf).pick hf 8 rfl) (hh.sub (.cons _ List.Sublist.slnil))
                ·
                  skip
                  refine T.pure (.int .i64 r10.1) (by kernel_rfl) (fun _ => by kernel_rfl) ?_
                  refine T.pure (.int .i64 p3) (by kernel_rfl) (fun _ => by kernel_rfl) ?_
                  refine T.pure (.bool (decide (r10.1 ≤ p3))) (by kernel_rfl) (fun _ => by kernel_rfl) ?_
                  refine T.pure (.bool (decide (r10.1 ≤ p3))) (by kernel_rfl) (fun _ => by kernel_rfl) ?_
                  refine T.pure (.bool (decide (r10.1 ≤ p3))) (by kernel_rfl) (fun _ => by kernel_rfl) ?_
                  cases hg7 : decide (r10.1 ≤ p3)
                  ·
                    skip
                    refine T.pass (by kernel_rfl) (by kernel_rfl) ?_
                    refine T.pass (by kernel_rfl) (by kernel_rfl) ?_
                    refine T.pure (.bool false) (by kernel_rfl) (fun _ => by kernel_rfl) ?_
                    refine T.pure (.bool false) (by kernel_rfl) (fun _ => by kernel_rfl) ?_
                    refine T.nil ?_
                    exact fun a w' hf hh => And.intro ((Fr.nil hf).pick hf 8 rfl) (hh.sub (.cons _ List.Sublist.slnil))
                  ·
                    skip
                    refine T.pure (.int .i64 r11.2) (by kernel_rfl) (fun _ => by kernel_rfl) ?_
                    refine T.pure (.bool (r11.2 == 4)) (by kernel_rfl) (fun _ => by kernel_rfl) ?_
                    refine T.pure (.bool (r11.2 == 4)) (by kernel_rfl) (fun _ => by kernel_rfl) ?_
                    refine T.pure (.bool (r11.2 == 4)) (by kernel_rfl) (fun _ => by kernel_rfl) ?_
                    refine T.nil ?_
                    exact fun a w' hf hh => And.intro ((Fr.nil hf).pick hf 8 rfl) (hh.sub (.cons _ List.Sublist.slnil))
              ·
                rintro a w' ⟨hf, hh⟩
                refine (?_ : T 136 w V12 [] [(8, .bool ((r10.2 == 0) && ((decide (r10.1 ≤ p3)) && (r11.2 == 4))))] _) a w' hf hh
                clear hf hh
                cases hF
                refine T.ret rfl ?_
                exact T.ret1 rfl (ResIs.tmp rfl) fun w' hh => ⟨_, rfl, hh.below, (show _ from rfl)⟩

end Go.Proofs.Ytiaoncjkfgebdaa
