/- The Go functions of group WRunSame compute the pure functions of that group: written by walkgen.py. Condition of each: the pure function yields a result. -/
import Derived.Test.YtiaoncjkfgebdaaRunL
import Derived.Test.YtiaoncjkfgebdaaEqsL
import Derived.Test.YtiaoncjkfgebdaaWRunSameF
import Derived.Test.YtiaoncjkfgebdaaEqL
namespace Go.Proofs.Ytiaoncjkfgebdaa
set_option linter.unusedVariables false

set_option maxRecDepth 100000 in
set_option maxHeartbeats 4000000 in
theorem annalkeep_RunSame_l (F : Nat) (p0 : (List DElem)) (p1 : DKey) (p2 : DKey) (p3 : ByteArray) (p4 : ByteArray) (p5 : Int) (r : Bool) (hF : annalkeep_RunSame F p0 p1 p2 p3 p4 p5 = some r) (w : World) (A1 : Option Addr) (c1 : Nat) (hs1 : SlOk (vw w) eElem A1 c1 p0) :
    Calls Try.prog 12 #[.slice A1 p0.length c1, .agg #[.int .i64 p1.pfs, .int .i64 p1.obj, .int .i64 p1.off], .agg #[.int .i64 p2.pfs, .int .i64 p2.obj, .int .i64 p2.off], .string p3, .string p4, .int .i64 p5] w (Post (vSc eBool) r w) := by
  unfold annalkeep_RunSame at hF
  refine T.start (l := [.slice A1 p0.length c1, .agg #[.int .i64 p1.pfs, .int .i64 p1.obj, .int .i64 p1.off], .agg #[.int .i64 p2.pfs, .int .i64 p2.obj, .int .i64 p2.off], .string p3, .string p4, .int .i64 p5]) Try.func12 rfl rfl rfl ?_
  refine T.seq ?_
  refine T.region ?_
  refine T.step (W1.new 24 [.int .i64 p1.pfs, .int .i64 p1.obj, .int .i64 p1.off] (fun b => .pointer (some ⟨b, 0, none⟩)) (by kernel_rfl) (fun _ => by kernel_rfl) (fun b1 => ?_))
  refine T.step (W1.new 24 [.int .i64 p2.pfs, .int .i64 p2.obj, .int .i64 p2.off] (fun b => .pointer (some ⟨b, 0, none⟩)) (by kernel_rfl) (fun _ => by kernel_rfl) (fun b2 => ?_))
  refine T.pure (.bool false) (by kernel_rfl) (fun _ => by kernel_rfl) ?_
  refine T.nil ?_
  refine T.seq ?_
  refine T.seq ?_
  refine T.region ?_
  obtain ⟨r1, hb1, hF⟩ := Option.bind_eq_some_iff.1 hF
  refine T.step (W1.call (vAg eElem) r1 31 #[.int .i64 1, .string (ByteArray.mk #[97])] (by kernel_rfl) (fun _ => by kernel_rfl) (fun w' hh => annalkeep_at1_l 1 (ByteArray.mk #[97]) r1 hb1 w' ) ?_)
  intro u V1 hV1 hu
  obtain rfl := sureElem _ _ _ hu
  refine T.step (W1.new 26 [.int .i64 r1.key.pfs, .int .i64 r1.key.obj, .int .i64 r1.key.off, .int .i64 r1.made, .int .i64 r1.gone, .string r1.val] (fun b => .slice (some ⟨b, 0, none⟩) 1 1) (by kernel_rfl) (fun _ => by kernel_rfl) (fun b3 => ?_))
  refine T.pure (.agg #[.int .i64 0, .int .i64 0, .int .i64 1]) (by kernel_rfl) (fun _ => by kernel_rfl) ?_
  obtain ⟨r2, hb2, hF⟩ := Option.bind_eq_some_iff.1 hF
  refine T.step (W1.call (vT2 (vSc (eList eElem)) (vSc eInt)) r2 50 #[.slice (some ⟨b3, 0, none⟩) 1 1, .agg #[.int .i64 0, .int .i64 0, .int .i64 1], .int .i64 5] (by kernel_rfl) (fun _ => by kernel_rfl) (fun w' hh => run_Cut_l F [r1] (DKey.mk 0 0 1) 5 r2 hb2 w' (some ⟨b3, 0, none⟩) 1 (slok_lit (E := eElem) (f := DElem.cells) [r1] (fun _ _ => rfl) (Nat.le_of_ble_eq_true (by rfl)) (fun j => hh.cellBox (i := 0) (by rfl) j))) ?_)
  intro u V2 hV2 hu
  obtain ⟨u1, u2, rfl, hu1, hu2⟩ := vT2_elim hu
  obtain ⟨A2, c2, rfl, hs2⟩ := vlist_elim hu1
  obtain rfl := sureInt _ _ _ hu2
  refine T.pure (.tuple #[.slice A2 r2.1.length c2, .int .i64 r2.2]) (by kernel_rfl) (fun _ => by kernel_rfl) ?_
  refine T.pure (.slice A2 r2.1.length c2) (by kernel_rfl) (fun _ => by kernel_rfl) ?_
  refine T.pure (.int .i64 r2.2) (by kernel_rfl) (fun _ => by kernel_rfl) ?_
  refine T.pure (.slice A2 r2.1.length c2) (by kernel_rfl) (fun _ => by kernel_rfl) ?_
  refine T.pure (.int .i64 r2.2) (by kernel_rfl) (fun _ => by kernel_rfl) ?_
  refine T.nil ?_
  obtain ⟨z1, hX1, hF⟩ := Option.bind_eq_some_iff.1 hF
  refine T.cut (fun a w' => Fr 157 [(0, .slice A1 p0.length c1), (3, .string p3), (4, .string p4), (5, .int .i64 p5), (7, .pointer (some ⟨b1, 0, none⟩)), (8, .pointer (some ⟨b2, 0, none⟩)), (44, .bool z1)] a ∧ Hp w V2 [box b2 24 [.int .i64 p2.pfs, .int .i64 p2.obj, .int .i64 p2.off], box b1 24 [.int .i64 p1.pfs, .int .i64 p1.obj, .int .i64 p1.off]] w') ?_ ?_
  ·
    refine T.region ?_
    refine T.pure (.int .i64 r2.2) (by kernel_rfl) (fun _ => by kernel_rfl) ?_
    refine T.pure (.bool (r2.2 != 0)) (by kernel_rfl) (fun _ => by kernel_rfl) ?_
    refine T.pure (.bool (r2.2 != 0)) (by kernel_rfl) (fun _ => by kernel_rfl) ?_
    cases hg1 : (r2.2 != 0)
    ·
      skip
      rw [hg1, cond_false] at hX1
      refine T.pure (.slice A2 r2.1.length c2) (by kernel_rfl) (fun _ => by kernel_rfl) ?_
      refine T.pure (.int .i64 (r2.1.length : Int)) (by kernel_rfl) (fun _ => by kernel_rfl) ?_
      refine T.pure (.bool ((r2.1.length : Int) != 1)) (by kernel_rfl) (fun _ => by kernel_rfl) ?_
      refine T.pure (.bool ((r2.1.length : Int) != 1)) (by kernel_rfl) (fun _ => by kernel_rfl) ?_
      refine T.pure (.bool ((r2.1.length : Int) != 1)) (by kernel_rfl) (fun _ => by kernel_rfl) ?_
      cases hg2 : ((r2.1.length : Int) != 1)
      ·
        skip
        rw [hg2, cond_false] at hX1
        refine T.pure (.slice A2 r2.1.length c2) (by kernel_rfl) (fun _ => by kernel_rfl) ?_
        obtain ⟨e1, hb3, hX1⟩ := Option.bind_eq_some_iff.1 hX1
        obtain ⟨hi1, hi2, hi3⟩ := idx_some hb3
        refine T.look (.pointer (some ((sadr A2).add (((0 : Int).toNat) * 6)))) (by kernel_rfl) (fun w' hh => exec_indexAddr (e := 26) (s := 6) rfl rfl rfl (by kernel_rfl) (by kernel_rfl) hi1 hi2 ((SlOk.mono hs2 (View.le_trans (made_le _ _) (View.le_refl _))).some_ hi3 (by decide))) ?_
        refine T.pure (.pointer (some (((sadr A2).add (((0 : Int).toNat) * 6)).add 4))) (by kernel_rfl) (fun _ => by kernel_rfl) ?_
        refine T.look (.int .i64 e1.gone) (by kernel_rfl) (fun w' hh => exec_load1 rfl rfl (by kernel_rfl) (hh.cell_view (SlOk.cellF (E := eElem) (SlOk.mono hs2 (View.le_trans (made_le _ _) (View.le_refl _))) hi3 4 (fun _ _ _ h => h) rfl))) ?_
        refine T.pure (.bool (e1.gone != 5)) (by kernel_rfl) (fun _ => by kernel_rfl) ?_
        refine T.pure (.bool (e1.gone != 5)) (by kernel_rfl) (fun _ => by kernel_rfl) ?_
        refine T.nil ?_
        cases hX1
        exact fun a w' hf hh => And.intro ((((((((Fr.nil hf).pick hf 44 rfl).pick hf 8 rfl).pick hf 7 rfl).pick hf 5 rfl).pick hf 4 rfl).pick hf 3 rfl).pick hf 0 rfl) (hh.sub (.cons _ (.cons_cons _ (.cons_cons _ List.Sublist.slnil))))
      ·
        skip
        rw [hg2, cond_true] at hX1
        refine T.pass (by kernel_rfl) (by kernel_rfl) ?_
        refine T.pass (by kernel_rfl) (by kernel_rfl) ?_
        refine T.pass (by kernel_rfl) (by kernel_rfl) ?_
        refine T.pass (by kernel_rfl) (by kernel_rfl) ?_
        refine T.pass (by kernel_rfl) (by kernel_rfl) ?_
        refine T.pure (.bool true) (by kernel_rfl) (fun _ => by kernel_rfl) ?_
        refine T.nil ?_
        cases hX1
        exact fun a w' hf hh => And.intro ((((((((Fr.nil hf).pick hf 44 rfl).pick hf 8 rfl).pick hf 7 rfl).pick hf 5 rfl).pick hf 4 rfl).pick hf 3 rfl).pick hf 0 rfl) (hh.sub (.cons _ (.cons_cons _ (.cons_cons _ List.Sublist.slnil))))
    ·
      skip
      rw [hg1, cond_true] at hX1
      refine T.pass (by kernel_rfl) (by kernel_rfl) ?_
      refine T.pass (by kernel_rfl) (by kernel_rfl) ?_
      refine T.pass (by kernel_rfl) (by kernel_rfl) ?_
      refine T.pure (.bool true) (by kernel_rfl) (fun _ => by kernel_rfl) ?_
      refine T.pure (.bool true) (by kernel_rfl) (fun _ => by kernel_rfl) ?_
      refine T.pass (by kernel_rfl) (by kernel_rfl) ?_
      refine T.pass (by kernel_rfl) (by kernel_rfl) ?_
      refine T.pass (by kernel_rfl) (by kernel_rfl) ?_
      refine T.pass (by kernel_rfl) (by kernel_rfl) ?_
      refine T.pass (by kernel_rfl) (by kernel_rfl) ?_
      refine T.pure (.bool true) (by kernel_rfl) (fun _ => by kernel_rfl) ?_
      refine T.nil ?_
      cases hX1
      exact fun a w' hf hh => And.intro ((((((((Fr.nil hf).pick hf 44 rfl).pick hf 8 rfl).pick hf 7 rfl).pick hf 5 rfl).pick hf 4 rfl).pick hf 3 rfl).pick hf 0 rfl) (hh.sub (.cons _ (.cons_cons _ (.cons_cons _ List.Sublist.slnil))))
  ·
    rintro a w' ⟨hf, hh⟩
    refine (?_ : T 157 w V2 [box b2 24 [.int .i64 p2.pfs, .int .i64 p2.obj, .int .i64 p2.off], box b1 24 [.int .i64 p1.pfs, .int .i64 p1.obj, .int .i64 p1.off]] [(0, .slice A1 p0.length c1), (3, .string p3), (4, .string p4), (5, .int .i64 p5), (7, .pointer (some ⟨b1, 0, none⟩)), (8, .pointer (some ⟨b2, 0, none⟩)), (44, .bool z1)] _) a w' hf hh
    clear hf hh
    refine T.cond z1 (by kernel_rfl) (by kernel_rfl) (fun hc1 => ?_) (fun hc1 => ?_)
    ·
      rw [hc1, cond_true] at hF
      refine T.seq ?_
      refine T.region ?_
      refine T.pure (.bool false) (by kernel_rfl) (fun _ => by kernel_rfl) ?_
      refine T.nil ?_
      cases hF
      refine T.ret rfl ?_
      exact T.ret1 rfl (ResIs.tmp rfl) fun w' hh => ⟨_, rfl, hh.below, (show _ from rfl)⟩
    ·
      rw [hc1, cond_false] at hF
      refine T.skip_code ?_
      refine T.seq ?_
      refine T.region ?_
      refine T.pure (.slice A1 p0.length c1) (by kernel_rfl) (fun _ => by kernel_rfl) ?_
      refine T.look (.agg #[.int .i64 p1.pfs, .int .i64 p1.obj, .int .i64 p1.off]) (by kernel_rfl) (fun w' hh => exec_loadN (cs := [.int .i64 p1.pfs, .int .i64 p1.obj, .int .i64 p1.off]) rfl rfl (by kernel_rfl) (by kernel_rfl) (fun j u hj => (hh.box_at (i := 1) (cs := [.int .i64 p1.pfs, .int .i64 p1.obj, .int .i64 p1.off]) (by rfl) 0 j).trans (seg_at (n := 3) rfl hj))) ?_
      refine T.pure (.string p3) (by kernel_rfl) (fun _ => by kernel_rfl) ?_
      refine T.pure (.int .i64 p5) (by kernel_rfl) (fun _ => by kernel_rfl) ?_
      obtain ⟨r3, hb4, hF⟩ := Option.bind_eq_some_iff.1 hF
      refine T.step (W1.call (vT2 (vSc (eList eElem)) (vSc eInt)) r3 48 #[.slice A1 p0.length c1, .agg #[.int .i64 p1.pfs, .int .i64 p1.obj, .int .i64 p1.off], .string p3, .int .i64 p5] (by kernel_rfl) (fun _ => by kernel_rfl) (fun w' hh => run_Put_l F p0 p1 p3 p5 r3 hb4 w' A1 c1 (SlOk.mono (SlOk.mono hs1 (View.le_trans hV1 hV2)) hh.view)) ?_)
      intro u V3 hV3 hu
      obtain ⟨u3, u4, rfl, hu3, hu4⟩ := vT2_elim hu
      obtain ⟨A3, c3, rfl, hs3⟩ := vlist_elim hu3
      obtain rfl := sureInt _ _ _ hu4
      refine T.pure (.tuple #[.slice A3 r3.1.length c3, .int .i64 r3.2]) (by kernel_rfl) (fun _ => by kernel_rfl) ?_
      refine T.pure (.slice A3 r3.1.length c3) (by kernel_rfl) (fun _ => by kernel_rfl) ?_
      refine T.pure (.int .i64 r3.2) (by kernel_rfl) (fun _ => by kernel_rfl) ?_
      refine T.pure (.slice A3 r3.1.length c3) (by kernel_rfl) (fun _ => by kernel_rfl) ?_
      refine T.pure (.int .i64 r3.2) (by kernel_rfl) (fun _ => by kernel_rfl) ?_
      refine T.nil ?_
      refine T.seq ?_
      refine T.region ?_
      refine T.pure (.slice A1 p0.length c1) (by kernel_rfl) (fun _ => by kernel_rfl) ?_
      refine T.look (.agg #[.int .i64 p2.pfs, .int .i64 p2.obj, .int .i64 p2.off]) (by kernel_rfl) (fun w' hh => exec_loadN (cs := [.int .i64 p2.pfs, .int .i64 p2.obj, .int .i64 p2.off]) rfl rfl (by kernel_rfl) (by kernel_rfl) (fun j u hj => (hh.box_at (i := 0) (cs := [.int .i64 p2.pfs, .int .i64 p2.obj, .int .i64 p2.off]) (by rfl) 0 j).trans (seg_at (n := 3) rfl hj))) ?_
      refine T.pure (.string p4) (by kernel_rfl) (fun _ => by kernel_rfl) ?_
      refine T.pure (.int .i64 p5) (by kernel_rfl) (fun _ => by kernel_rfl) ?_
      obtain ⟨r4, hb5, hF⟩ := Option.bind_eq_some_iff.1 hF
      refine T.step (W1.call (vT2 (vSc (eList eElem)) (vSc eInt)) r4 48 #[.slice A1 p0.length c1, .agg #[.int .i64 p2.pfs, .int .i64 p2.obj, .int .i64 p2.off], .string p4, .int .i64 p5] (by kernel_rfl) (fun _ => by kernel_rfl) (fun w' hh => run_Put_l F p0 p2 p4 p5 r4 hb5 w' A1 c1 (SlOk.mono (SlOk.mono hs1 (View.le_trans (View.le_trans hV1 hV2) hV3)) hh.view)) ?_)
      intro u V4 hV4 hu
      obtain ⟨u5, u6, rfl, hu5, hu6⟩ := vT2_elim hu
      obtain ⟨A4, c4, rfl, hs4⟩ := vlist_elim hu5
      obtain rfl := sureInt _ _ _ hu6
      refine T.pure (.tuple #[.slice A4 r4.1.length c4, .int .i64 r4.2]) (by kernel_rfl) (fun _ => by kernel_rfl) ?_
      refine T.pure (.slice A4 r4.1.length c4) (by kernel_rfl) (fun _ => by kernel_rfl) ?_
      refine T.pure (.int .i64 r4.2) (by kernel_rfl) (fun _ => by kernel_rfl) ?_
      refine T.pure (.slice A4 r4.1.length c4) (by kernel_rfl) (fun _ => by kernel_rfl) ?_
      refine T.pure (.int .i64 r4.2) (by kernel_rfl) (fun _ => by kernel_rfl) ?_
      refine T.nil ?_
      refine T.seq ?_
      refine T.cut (fun a w' => Fr 157 [(0, .slice A1 p0.length c1), (3, .string p3), (4, .string p4), (5, .int .i64 p5), (7, .pointer (some ⟨b1, 0, none⟩)), (8, .pointer (some ⟨b2, 0, none⟩)), (15, .slice A3 r3.1.length c3), (16, .int .i64 r3.2), (17, .slice A4 r4.1.length c4), (66, .bool ((r3.2 != 0) || (r4.2 != 0)))] a ∧ Hp w V4 [box b2 24 [.int .i64 p2.pfs, .int .i64 p2.obj, .int .i64 p2.off], box b1 24 [.int .i64 p1.pfs, .int .i64 p1.obj, .int .i64 p1.off]] w') ?_ ?_
      ·
        refine T.region ?_
        refine T.pure (.int .i64 r3.2) (by kernel_rfl) (fun _ => by kernel_rfl) ?_
        refine T.pure (.bool (r3.2 != 0)) (by kernel_rfl) (fun _ => by kernel_rfl) ?_
        refine T.pure (.bool (r3.2 != 0)) (by kernel_rfl) (fun _ => by kernel_rfl) ?_
        cases hg3 : (r3.2 != 0)
        ·
          skip
          refine T.pure (.int .i64 r4.2) (by kernel_rfl) (fun _ => by kernel_rfl) ?_
          refine T.pure (.bool (r4.2 != 0)) (by kernel_rfl) (fun _ => by kernel_rfl) ?_
          refine T.pure (.bool (r4.2 != 0)) (by kernel_rfl) (fun _ => by kernel_rfl) ?_
          refine T.nil ?_
          exact fun a w' hf hh => And.intro (((((((((((Fr.nil hf).pick hf 66 rfl).pick hf 17 rfl).pick hf 16 rfl).pick hf 15 rfl).pick hf 8 rfl).pick hf 7 rfl).pick hf 5 rfl).pick hf 4 rfl).pick hf 3 rfl).pick hf 0 rfl) (hh.sub (.cons_cons _ (.cons_cons _ List.Sublist.slnil)))
        ·
          skip
          refine T.pass (by kernel_rfl) (by kernel_rfl) ?_
          refine T.pass (by kernel_rfl) (by kernel_rfl) ?_
          refine T.pure (.bool true) (by kernel_rfl) (fun _ => by kernel_rfl) ?_
          refine T.nil ?_
          exact fun a w' hf hh => And.intro (((((((((((Fr.nil hf).pick hf 66 rfl).pick hf 17 rfl).pick hf 16 rfl).pick hf 15 rfl).pick hf 8 rfl).pick hf 7 rfl).pick hf 5 rfl).pick hf 4 rfl).pick hf 3 rfl).pick hf 0 rfl) (hh.sub (.cons_cons _ (.cons_cons _ List.Sublist.slnil)))
      ·
        rintro a w' ⟨hf, hh⟩
        refine (?_ : T 157 w V4 [box b2 24 [.int .i64 p2.pfs, .int .i64 p2.obj, .int .i64 p2.off], box b1 24 [.int .i64 p1.pfs, .int .i64 p1.obj, .int .i64 p1.off]] [(0, .slice A1 p0.length c1), (3, .string p3), (4, .string p4), (5, .int .i64 p5), (7, .pointer (some ⟨b1, 0, none⟩)), (8, .pointer (some ⟨b2, 0, none⟩)), (15, .slice A3 r3.1.length c3), (16, .int .i64 r3.2), (17, .slice A4 r4.1.length c4), (66, .bool ((r3.2 != 0) || (r4.2 != 0)))] _) a w' hf hh
        clear hf hh
        refine T.cond ((r3.2 != 0) || (r4.2 != 0)) (by kernel_rfl) (by kernel_rfl) (fun hc2 => ?_) (fun hc2 => ?_)
        ·
          rw [hc2, cond_true] at hF
          refine T.cut (fun a w' => Fr 157 [(12, .bool ((r3.2 == 0) || ((r3.1.length : Int) == 0)))] a ∧ Hp w V4 [] w') ?_ ?_
          ·
            refine T.region ?_
            refine T.pure (.int .i64 r3.2) (by kernel_rfl) (fun _ => by kernel_rfl) ?_
            refine T.pure (.bool (r3.2 == 0)) (by kernel_rfl) (fun _ => by kernel_rfl) ?_
            refine T.pure (.bool (r3.2 == 0)) (by kernel_rfl) (fun _ => by kernel_rfl) ?_
            cases hg4 : (r3.2 == 0)
            ·
              skip
              refine T.pure (.slice A3 r3.1.length c3) (by kernel_rfl) (fun _ => by kernel_rfl) ?_
              refine T.pure (.int .i64 (r3.1.length : Int)) (by kernel_rfl) (fun _ => by kernel_rfl) ?_
              refine T.pure (.bool ((r3.1.length : Int) == 0)) (by kernel_rfl) (fun _ => by kernel_rfl) ?_
              refine T.pure (.bool ((r3.1.length : Int) == 0)) (by kernel_rfl) (fun _ => by kernel_rfl) ?_
              refine T.pure (.bool ((r3.1.length : Int) == 0)) (by kernel_rfl) (fun _ => by kernel_rfl) ?_
              refine T.nil ?_
              exact fun a w' hf hh => And.intro ((Fr.nil hf).pick hf 12 rfl) (hh.sub (.cons _ (.cons _ List.Sublist.slnil)))
            ·
              skip
              refine T.pass (by kernel_rfl) (by kernel_rfl) ?_
              refine T.pass (by kernel_rfl) (by kernel_rfl) ?_
              refine T.pass (by kernel_rfl) (by kernel_rfl) ?_
              refine T.pure (.bool true) (by kernel_rfl) (fun _ => by kernel_rfl) ?_
              refine T.pure (.bool true) (by kernel_rfl) (fun _ => by kernel_rfl) ?_
              refine T.nil ?_
              exact fun a w' hf hh => And.intro ((Fr.nil hf).pick hf 12 rfl) (hh.sub (.cons _ (.cons _ List.Sublist.slnil)))
          ·
            rintro a w' ⟨hf, hh⟩
            refine (?_ : T 157 w V4 [] [(12, .bool ((r3.2 == 0) || ((r3.1.length : Int) == 0)))] _) a w' hf hh
            clear hf hh
            cases hF
            refine T.ret rfl ?_
            exact T.ret1 rfl (ResIs.tmp rfl) fun w' hh => ⟨_, rfl, hh.below, (show _ from rfl)⟩
        ·
          rw [hc2, cond_false] at hF
          refine T.skip_code ?_
          refine T.seq ?_
          refine T.region ?_
          refine T.pure (.slice A3 r3.1.length c3) (by kernel_rfl) (fun _ => by kernel_rfl) ?_
          refine T.look (.agg #[.int .i64 p2.pfs, .int .i64 p2.obj, .int .i64 p2.off]) (by kernel_rfl) (fun w' hh => exec_loadN (cs := [.int .i64 p2.pfs, .int .i64 p2.obj, .int .i64 p2.off]) rfl rfl (by kernel_rfl) (by kernel_rfl) (fun j u hj => (hh.box_at (i := 0) (cs := [.int .i64 p2.pfs, .int .i64 p2.obj, .int .i64 p2.off]) (by rfl) 0 j).trans (seg_at (n := 3) rfl hj))) ?_
          refine T.pure (.string p4) (by kernel_rfl) (fun _ => by kernel_rfl) ?_
          refine T.pure (.int .i64 p5) (by kernel_rfl) (fun _ => by kernel_rfl) ?_
          obtain ⟨r5, hb6, hF⟩ := Option.bind_eq_some_iff.1 hF
          refine T.step (W1.call (vT2 (vSc (eList eElem)) (vSc eInt)) r5 48 #[.slice A3 r3.1.length c3, .agg #[.int .i64 p2.pfs, .int .i64 p2.obj, .int .i64 p2.off], .string p4, .int .i64 p5] (by kernel_rfl) (fun _ => by kernel_rfl) (fun w' hh => run_Put_l F r3.1 p2 p4 p5 r5 hb6 w' A3 c3 (SlOk.mono (SlOk.mono hs3 (View.le_trans (made_le _ _) hV4)) hh.view)) ?_)
          intro u V5 hV5 hu
          obtain ⟨u7, u8, rfl, hu7, hu8⟩ := vT2_elim hu
          obtain ⟨A5, c5, rfl, hs5⟩ := vlist_elim hu7
          obtain rfl := sureInt _ _ _ hu8
          refine T.pure (.tuple #[.slice A5 r5.1.length c5, .int .i64 r5.2]) (by kernel_rfl) (fun _ => by kernel_rfl) ?_
          refine T.pure (.slice A5 r5.1.length c5) (by kernel_rfl) (fun _ => by kernel_rfl) ?_
          refine T.pure (.int .i64 r5.2) (by kernel_rfl) (fun _ => by kernel_rfl) ?_
          refine T.pure (.slice A5 r5.1.length c5) (by kernel_rfl) (fun _ => by kernel_rfl) ?_
          refine T.pure (.int .i64 r5.2) (by kernel_rfl) (fun _ => by kernel_rfl) ?_
          refine T.nil ?_
          refine T.seq ?_
          refine T.region ?_
          refine T.pure (.slice A4 r4.1.length c4) (by kernel_rfl) (fun _ => by kernel_rfl) ?_
          refine T.look (.agg #[.int .i64 p1.pfs, .int .i64 p1.obj, .int .i64 p1.off]) (by kernel_rfl) (fun w' hh => exec_loadN (cs := [.int .i64 p1.pfs, .int .i64 p1.obj, .int .i64 p1.off]) rfl rfl (by kernel_rfl) (by kernel_rfl) (fun j u hj => (hh.box_at (i := 1) (cs := [.int .i64 p1.pfs, .int .i64 p1.obj, .int .i64 p1.off]) (by rfl) 0 j).trans (seg_at (n := 3) rfl hj))) ?_
          refine T.pure (.string p3) (by kernel_rfl) (fun _ => by kernel_rfl) ?_
          refine T.pure (.int .i64 p5) (by kernel_rfl) (fun _ => by kernel_rfl) ?_
          obtain ⟨r6, hb7, hF⟩ := Option.bind_eq_some_iff.1 hF
          refine T.step (W1.call (vT2 (vSc (eList eElem)) (vSc eInt)) r6 48 #[.slice A4 r4.1.length c4, .agg #[.int .i64 p1.pfs, .int .i64 p1.obj, .int .i64 p1.off], .string p3, .int .i64 p5] (by kernel_rfl) (fun _ => by kernel_rfl) (fun w' hh => run_Put_l F r4.1 p1 p3 p5 r6 hb7 w' A4 c4 (SlOk.mono (SlOk.mono hs4 (View.le_trans (made_le _ _) hV5)) hh.view)) ?_)
          intro u V6 hV6 hu
          obtain ⟨u9, u10, rfl, hu9, hu10⟩ := vT2_elim hu
          obtain ⟨A6, c6, rfl, hs6⟩ := vlist_elim hu9
          obtain rfl := sureInt _ _ _ hu10
          refine T.pure (.tuple #[.slice A6 r6.1.length c6, .int .i64 r6.2]) (by kernel_rfl) (fun _ => by kernel_rfl) ?_
          refine T.pure (.slice A6 r6.1.length c6) (by kernel_rfl) (fun _ => by kernel_rfl) ?_
          refine T.pure (.int .i64 r6.2) (by kernel_rfl) (fun _ => by kernel_rfl) ?_
          refine T.pure (.slice A6 r6.1.length c6) (by kernel_rfl) (fun _ => by kernel_rfl) ?_
          refine T.pure (.int .i64 r6.2) (by kernel_rfl) (fun _ => by kernel_rfl) ?_
          refine T.nil ?_
          refine T.seq ?_
          obtain ⟨z2, hX2, hF⟩ := Option.bind_eq_some_iff.1 hF
          refine T.cut (fun a w' => ∃ (V7 : View), View.le V6 V7 ∧ Fr 157 [(0, .slice A1 p0.length c1), (3, .string p3), (5, .int .i64 p5), (7, .pointer (some ⟨b1, 0, none⟩)), (15, .slice A3 r3.1.length c3), (106, .bool z2)] a ∧ Hp w V7 [box b1 24 [.int .i64 p1.pfs, .int .i64 p1.obj, .int .i64 p1.off]] w') ?_ ?_
          ·
            refine T.region ?_
            refine T.look (.agg #[.int .i64 p1.pfs, .int .i64 p1.obj, .int .i64 p1.off]) (by kernel_rfl) (fun w' hh => exec_loadN (cs := [.int .i64 p1.pfs, .int .i64 p1.obj, .int .i64 p1.off]) rfl rfl (by kernel_rfl) (by kernel_rfl) (fun j u hj => (hh.box_at (i := 1) (cs := [.int .i64 p1.pfs, .int .i64 p1.obj, .int .i64 p1.off]) (by rfl) 0 j).trans (seg_at (n := 3) rfl hj))) ?_
            refine T.look (.agg #[.int .i64 p2.pfs, .int .i64 p2.obj, .int .i64 p2.off]) (by kernel_rfl) (fun w' hh => exec_loadN (cs := [.int .i64 p2.pfs, .int .i64 p2.obj, .int .i64 p2.off]) rfl rfl (by kernel_rfl) (by kernel_rfl) (fun j u hj => (hh.box_at (i := 0) (cs := [.int .i64 p2.pfs, .int .i64 p2.obj, .int .i64 p2.off]) (by rfl) 0 j).trans (seg_at (n := 3) rfl hj))) ?_
            refine T.look (.bool (!(p1 == p2))) (by kernel_rfl) (fun w' hh => exec_neq_DKey p1 p2 w' rfl rfl rfl) ?_
            refine T.pure (.bool (!(p1 == p2))) (by kernel_rfl) (fun _ => by kernel_rfl) ?_
            cases hg5 : (!(p1 == p2))
            ·
              skip
              rw [hg5, cond_false] at hX2
              refine T.pass (by kernel_rfl) (by kernel_rfl) ?_
              refine T.pass (by kernel_rfl) (by kernel_rfl) ?_
              refine T.pure (.bool false) (by kernel_rfl) (fun _ => by kernel_rfl) ?_
              refine T.pure (.bool false) (by kernel_rfl) (fun _ => by kernel_rfl) ?_
              refine T.pass (by kernel_rfl) (by kernel_rfl) ?_
              refine T.pass (by kernel_rfl) (by kernel_rfl) ?_
              refine T.pass (by kernel_rfl) (by kernel_rfl) ?_
              refine T.pass (by kernel_rfl) (by kernel_rfl) ?_
              refine T.pass (by kernel_rfl) (by kernel_rfl) ?_
              refine T.pass (by kernel_rfl) (by kernel_rfl) ?_
              refine T.pass (by kernel_rfl) (by kernel_rfl) ?_
              refine T.pass (by kernel_rfl) (by kernel_rfl) ?_
              refine T.pure (.bool false) (by kernel_rfl) (fun _ => by kernel_rfl) ?_
              refine T.nil ?_
              cases hX2
              exact fun a w' hf hh => Exists.intro V6 (And.intro (View.le_refl _) (And.intro (((((((Fr.nil hf).pick hf 106 rfl).pick hf 15 rfl).pick hf 7 rfl).pick hf 5 rfl).pick hf 3 rfl).pick hf 0 rfl) (hh.sub (.cons _ (.cons_cons _ List.Sublist.slnil)))))
            ·
              skip
              rw [hg5, cond_true] at hX2
              refine T.pure (.int .i64 r5.2) (by kernel_rfl) (fun _ => by kernel_rfl) ?_
              refine T.pure (.bool (r5.2 == 0)) (by kernel_rfl) (fun _ => by kernel_rfl) ?_
              refine T.pure (.bool (r5.2 == 0)) (by kernel_rfl) (fun _ => by kernel_rfl) ?_
              refine T.pure (.bool (r5.2 == 0)) (by kernel_rfl) (fun _ => by kernel_rfl) ?_
              cases hg6 : (r5.2 == 0)
              ·
                skip
                rw [hg6, cond_false] at hX2
                refine T.pass (by kernel_rfl) (by kernel_rfl) ?_
                refine T.pass (by kernel_rfl) (by kernel_rfl) ?_
                refine T.pass (by kernel_rfl) (by kernel_rfl) ?_
                refine T.pass (by kernel_rfl) (by kernel_rfl) ?_
                refine T.pass (by kernel_rfl) (by kernel_rfl) ?_
                refine T.pass (by kernel_rfl) (by kernel_rfl) ?_
                refine T.pass (by kernel_rfl) (by kernel_rfl) ?_
                refine T.pass (by kernel_rfl) (by kernel_rfl) ?_
                refine T.pure (.bool false) (by kernel_rfl) (fun _ => by kernel_rfl) ?_
                refine T.nil ?_
                cases hX2
                exact fun a w' hf hh => Exists.intro V6 (And.intro (View.le_refl _) (And.intro (((((((Fr.nil hf).pick hf 106 rfl).pick hf 15 rfl).pick hf 7 rfl).pick hf 5 rfl).pick hf 3 rfl).pick hf 0 rfl) (hh.sub (.cons _ (.cons_cons _ List.Sublist.slnil)))))
              ·
                skip
                rw [hg6, cond_true] at hX2
                refine T.pure (.int .i64 r6.2) (by kernel_rfl) (fun _ => by kernel_rfl) ?_
                refine T.pure (.bool (r6.2 != 0)) (by kernel_rfl) (fun _ => by kernel_rfl) ?_
                refine T.pure (.bool (r6.2 != 0)) (by kernel_rfl) (fun _ => by kernel_rfl) ?_
                cases hg7 : (r6.2 != 0)
                ·
                  skip
                  rw [hg7, cond_false] at hX2
                  refine T.pure (.slice A5 r5.1.length c5) (by kernel_rfl) (fun _ => by kernel_rfl) ?_
                  refine T.pure (.slice A6 r6.1.length c6) (by kernel_rfl) (fun _ => by kernel_rfl) ?_
                  obtain ⟨r7, hb8, hX2⟩ := Option.bind_eq_some_iff.1 hX2
                  refine T.step (W1.call (vSc eBool) r7 29 #[.slice A5 r5.1.length c5, .slice A6 r6.1.length c6] (by kernel_rfl) (fun _ => by kernel_rfl) (fun w' hh => slices_Equal_Elem_l F r5.1 r6.1 r7 hb8 w' A5 c5 (SlOk.mono (SlOk.mono hs5 (View.le_trans (made_le _ _) hV6)) hh.view) A6 c6 (SlOk.mono (SlOk.mono hs6 (View.le_trans (made_le _ _) (View.le_refl _))) hh.view)) ?_)
                  intro u V8 hV8 hu
                  obtain rfl := sureBool _ _ _ hu
                  refine T.pure (.bool (!r7)) (by kernel_rfl) (fun _ => by kernel_rfl) ?_
                  refine T.pure (.bool (!r7)) (by kernel_rfl) (fun _ => by kernel_rfl) ?_
                  refine T.pure (.bool (!r7)) (by kernel_rfl) (fun _ => by kernel_rfl) ?_
                  refine T.nil ?_
                  cases hX2
                  exact fun a w' hf hh => Exists.intro V8 (And.intro hV8 (And.intro (((((((Fr.nil hf).pick hf 106 rfl).pick hf 15 rfl).pick hf 7 rfl).pick hf 5 rfl).pick hf 3 rfl).pick hf 0 rfl) (hh.sub (.cons _ (.cons_cons _ List.Sublist.slnil)))))
                ·
                  skip
                  rw [hg7, cond_true] at hX2
                  refine T.pass (by kernel_rfl) (by kernel_rfl) ?_
                  refine T.pass (by kernel_rfl) (by kernel_rfl) ?_
                  refine T.pass (by kernel_rfl) (by kernel_rfl) ?_
                  refine T.pass (by kernel_rfl) (by kernel_rfl) ?_
                  refine T.pure (.bool true) (by kernel_rfl) (fun _ => by kernel_rfl) ?_
                  refine T.pure (.bool true) (by kernel_rfl) (fun _ => by kernel_rfl) ?_
                  refine T.nil ?_
                  cases hX2
                  exact fun a w' hf hh => Exists.intro V6 (And.intro (View.le_refl _) (And.intro (((((((Fr.nil hf).pick hf 106 rfl).pick hf 15 rfl).pick hf 7 rfl).pick hf 5 rfl).pick hf 3 rfl).pick hf 0 rfl) (hh.sub (.cons _ (.cons_cons _ List.Sublist.slnil)))))
          ·
            rintro a w' ⟨V7, hV7, hf, hh⟩
            refine (?_ : T 157 w V7 [box b1 24 [.int .i64 p1.pfs, .int .i64 p1.obj, .int .i64 p1.off]] [(0, .slice A1 p0.length c1), (3, .string p3), (5, .int .i64 p5), (7, .pointer (some ⟨b1, 0, none⟩)), (15, .slice A3 r3.1.length c3), (106, .bool z2)] _) a w' hf hh
            clear hf hh
            refine T.cond z2 (by kernel_rfl) (by kernel_rfl) (fun hc3 => ?_) (fun hc3 => ?_)
            ·
              rw [hc3, cond_true] at hF
              refine T.seq ?_
              refine T.region ?_
              refine T.pure (.bool false) (by kernel_rfl) (fun _ => by kernel_rfl) ?_
              refine T.nil ?_
              cases hF
              refine T.ret rfl ?_
              exact T.ret1 rfl (ResIs.tmp rfl) fun w' hh => ⟨_, rfl, hh.below, (show _ from rfl)⟩
            ·
              rw [hc3, cond_false] at hF
              refine T.skip_code ?_
              refine T.seq ?_
              refine T.region ?_
              refine T.pure (.slice A3 r3.1.length c3) (by kernel_rfl) (fun _ => by kernel_rfl) ?_
              refine T.look (.agg #[.int .i64 p1.pfs, .int .i64 p1.obj, .int .i64 p1.off]) (by kernel_rfl) (fun w' hh => exec_loadN (cs := [.int .i64 p1.pfs, .int .i64 p1.obj, .int .i64 p1.off]) rfl rfl (by kernel_rfl) (by kernel_rfl) (fun j u hj => (hh.box_at (i := 0) (cs := [.int .i64 p1.pfs, .int .i64 p1.obj, .int .i64 p1.off]) (by rfl) 0 j).trans (seg_at (n := 3) rfl hj))) ?_
              refine T.pure (.string p3) (by kernel_rfl) (fun _ => by kernel_rfl) ?_
              refine T.pure (.int .i64 p5) (by kernel_rfl) (fun _ => by kernel_rfl) ?_
              obtain ⟨r8, hb9, hF⟩ := Option.bind_eq_some_iff.1 hF
              refine T.step (W1.call (vT2 (vSc (eList eElem)) (vSc eInt)) r8 48 #[.slice A3 r3.1.length c3, .agg #[.int .i64 p1.pfs, .int .i64 p1.obj, .int .i64 p1.off], .string p3, .int .i64 p5] (by kernel_rfl) (fun _ => by kernel_rfl) (fun w' hh => run_Put_l F r3.1 p1 p3 p5 r8 hb9 w' A3 c3 (SlOk.mono (SlOk.mono hs3 (View.le_trans (made_le _ _) (View.le_trans (View.le_trans (View.le_trans hV4 hV5) hV6) hV7))) hh.view)) ?_)
              intro u V9 hV9 hu
              obtain ⟨u11, u12, rfl, hu11, hu12⟩ := vT2_elim hu
              obtain ⟨A7, c7, rfl, hs7⟩ := vlist_elim hu11
              obtain rfl := sureInt _ _ _ hu12
              refine T.pure (.tuple #[.slice A7 r8.1.length c7, .int .i64 r8.2]) (by kernel_rfl) (fun _ => by kernel_rfl) ?_
              refine T.pure (.slice A7 r8.1.length c7) (by kernel_rfl) (fun _ => by kernel_rfl) ?_
              refine T.pure (.int .i64 r8.2) (by kernel_rfl) (fun _ => by kernel_rfl) ?_
              refine T.pure (.slice A7 r8.1.length c7) (by kernel_rfl) (fun _ => by kernel_rfl) ?_
              refine T.pure (.int .i64 r8.2) (by kernel_rfl) (fun _ => by kernel_rfl) ?_
              refine T.nil ?_
              refine T.seq ?_
              obtain ⟨z3, hX3, hF⟩ := Option.bind_eq_some_iff.1 hF
              refine T.cut (fun a w' => ∃ (V10 : View), View.le V9 V10 ∧ Fr 157 [(0, .slice A1 p0.length c1), (5, .int .i64 p5), (7, .pointer (some ⟨b1, 0, none⟩)), (15, .slice A3 r3.1.length c3), (122, .bool z3)] a ∧ Hp w V10 [box b1 24 [.int .i64 p1.pfs, .int .i64 p1.obj, .int .i64 p1.off]] w') ?_ ?_
              ·
                refine T.region ?_
                refine T.pure (.int .i64 r8.2) (by kernel_rfl) (fun _ => by kernel_rfl) ?_
                refine T.pure (.bool (r8.2 != 0)) (by kernel_rfl) (fun _ => by kernel_rfl) ?_
                refine T.pure (.bool (r8.2 != 0)) (by kernel_rfl) (fun _ => by kernel_rfl) ?_
                cases hg8 : (r8.2 != 0)
                ·
                  skip
                  rw [hg8, cond_false] at hX3
                  refine T.pure (.slice A7 r8.1.length c7) (by kernel_rfl) (fun _ => by kernel_rfl) ?_
                  refine T.pure (.slice A3 r3.1.length c3) (by kernel_rfl) (fun _ => by kernel_rfl) ?_
                  obtain ⟨r9, hb10, hX3⟩ := Option.bind_eq_some_iff.1 hX3
                  refine T.step (W1.call (vSc eBool) r9 29 #[.slice A7 r8.1.length c7, .slice A3 r3.1.length c3] (by kernel_rfl) (fun _ => by kernel_rfl) (fun w' hh => slices_Equal_Elem_l F r8.1 r3.1 r9 hb10 w' A7 c7 (SlOk.mono (SlOk.mono hs7 (View.le_trans (made_le _ _) (View.le_refl _))) hh.view) A3 c3 (SlOk.mono (SlOk.mono hs3 (View.le_trans (made_le _ _) (View.le_trans (View.le_trans (View.le_trans (View.le_trans hV4 hV5) hV6) hV7) hV9))) hh.view)) ?_)
                  intro u V11 hV11 hu
                  obtain rfl := sureBool _ _ _ hu
                  refine T.pure (.bool (!r9)) (by kernel_rfl) (fun _ => by kernel_rfl) ?_
                  refine T.pure (.bool (!r9)) (by kernel_rfl) (fun _ => by kernel_rfl) ?_
                  refine T.nil ?_
                  cases hX3
                  exact fun a w' hf hh => Exists.intro V11 (And.intro hV11 (And.intro ((((((Fr.nil hf).pick hf 122 rfl).pick hf 15 rfl).pick hf 7 rfl).pick hf 5 rfl).pick hf 0 rfl) (hh.sub (.cons_cons _ List.Sublist.slnil))))
                ·
                  skip
                  rw [hg8, cond_true] at hX3
                  refine T.pass (by kernel_rfl) (by kernel_rfl) ?_
                  refine T.pass (by kernel_rfl) (by kernel_rfl) ?_
                  refine T.pass (by kernel_rfl) (by kernel_rfl) ?_
                  refine T.pass (by kernel_rfl) (by kernel_rfl) ?_
                  refine T.pure (.bool true) (by kernel_rfl) (fun _ => by kernel_rfl) ?_
                  refine T.nil ?_
                  cases hX3
                  exact fun a w' hf hh => Exists.intro V9 (And.intro (View.le_refl _) (And.intro ((((((Fr.nil hf).pick hf 122 rfl).pick hf 15 rfl).pick hf 7 rfl).pick hf 5 rfl).pick hf 0 rfl) (hh.sub (.cons_cons _ List.Sublist.slnil))))
              ·
                rintro a w' ⟨V10, hV10, hf, hh⟩
                refine (?_ : T 157 w V10 [box b1 24 [.int .i64 p1.pfs, .int .i64 p1.obj, .int .i64 p1.off]] [(0, .slice A1 p0.length c1), (5, .int .i64 p5), (7, .pointer (some ⟨b1, 0, none⟩)), (15, .slice A3 r3.1.length c3), (122, .bool z3)] _) a w' hf hh
                clear hf hh
                refine T.cond z3 (by kernel_rfl) (by kernel_rfl) (fun hc4 => ?_) (fun hc4 => ?_)
                ·
                  rw [hc4, cond_true] at hF
                  refine T.seq ?_
                  refine T.region ?_
                  refine T.pure (.bool false) (by kernel_rfl) (fun _ => by kernel_rfl) ?_
                  refine T.nil ?_
                  cases hF
                  refine T.ret rfl ?_
                  exact T.ret1 rfl (ResIs.tmp rfl) fun w' hh => ⟨_, rfl, hh.below, (show _ from rfl)⟩
                ·
                  rw [hc4, cond_false] at hF
                  refine T.skip_code ?_
                  refine T.seq ?_
                  refine T.region ?_
                  refine T.pure (.slice A3 r3.1.length c3) (by kernel_rfl) (fun _ => by kernel_rfl) ?_
                  refine T.look (.agg #[.int .i64 p1.pfs, .int .i64 p1.obj, .int .i64 p1.off]) (by kernel_rfl) (fun w' hh => exec_loadN (cs := [.int .i64 p1.pfs, .int .i64 p1.obj, .int .i64 p1.off]) rfl rfl (by kernel_rfl) (by kernel_rfl) (fun j u hj => (hh.box_at (i := 0) (cs := [.int .i64 p1.pfs, .int .i64 p1.obj, .int .i64 p1.off]) (by rfl) 0 j).trans (seg_at (n := 3) rfl hj))) ?_
                  refine T.pure (.int .i64 p5) (by kernel_rfl) (fun _ => by kernel_rfl) ?_
                  obtain ⟨r10, hb11, hF⟩ := Option.bind_eq_some_iff.1 hF
                  refine T.step (W1.call (vT2 (vSc (eList eElem)) (vSc eInt)) r10 50 #[.slice A3 r3.1.length c3, .agg #[.int .i64 p1.pfs, .int .i64 p1.obj, .int .i64 p1.off], .int .i64 p5] (by kernel_rfl) (fun _ => by kernel_rfl) (fun w' hh => run_Cut_l F r3.1 p1 p5 r10 hb11 w' A3 c3 (SlOk.mono (SlOk.mono hs3 (View.le_trans (made_le _ _) (View.le_trans (View.le_trans (View.le_trans (View.le_trans (View.le_trans hV4 hV5) hV6) hV7) hV9) hV10))) hh.view)) ?_)
                  intro u V12 hV12 hu
                  obtain ⟨u13, u14, rfl, hu13, hu14⟩ := vT2_elim hu
                  obtain ⟨A8, c8, rfl, hs8⟩ := vlist_elim hu13
                  obtain rfl := sureInt _ _ _ hu14
                  refine T.pure (.tuple #[.slice A8 r10.1.length c8, .int .i64 r10.2]) (by kernel_rfl) (fun _ => by kernel_rfl) ?_
                  refine T.pure (.slice A8 r10.1.length c8) (by kernel_rfl) (fun _ => by kernel_rfl) ?_
                  refine T.pure (.int .i64 r10.2) (by kernel_rfl) (fun _ => by kernel_rfl) ?_
                  refine T.pure (.slice A8 r10.1.length c8) (by kernel_rfl) (fun _ => by kernel_rfl) ?_
                  refine T.pure (.int .i64 r10.2) (by kernel_rfl) (fun _ => by kernel_rfl) ?_
                  refine T.nil ?_
                  refine T.seq ?_
                  refine T.region ?_
                  refine T.pure (.slice A1 p0.length c1) (by kernel_rfl) (fun _ => by kernel_rfl) ?_
                  refine T.look (.agg #[.int .i64 p1.pfs, .int .i64 p1.obj, .int .i64 p1.off]) (by kernel_rfl) (fun w' hh => exec_loadN (cs := [.int .i64 p1.pfs, .int .i64 p1.obj, .int .i64 p1.off]) rfl rfl (by kernel_rfl) (by kernel_rfl) (fun j u hj => (hh.box_at (i := 0) (cs := [.int .i64 p1.pfs, .int .i64 p1.obj, .int .i64 p1.off]) (by rfl) 0 j).trans (seg_at (n := 3) rfl hj))) ?_
                  refine T.pure (.int .i64 p5) (by kernel_rfl) (fun _ => by kernel_rfl) ?_
                  obtain ⟨r11, hb12, hF⟩ := Option.bind_eq_some_iff.1 hF
                  refine T.step (W1.call (vT2 (vSc (eList eElem)) (vSc eInt)) r11 50 #[.slice A1 p0.length c1, .agg #[.int .i64 p1.pfs, .int .i64 p1.obj, .int .i64 p1.off], .int .i64 p5] (by kernel_rfl) (fun _ => by kernel_rfl) (fun w' hh => run_Cut_l F p0 p1 p5 r11 hb12 w' A1 c1 (SlOk.mono (SlOk.mono hs1 (View.le_trans (View.le_trans (View.le_trans (View.le_trans (View.le_trans (View.le_trans (View.le_trans (View.le_trans (View.le_trans hV1 hV2) hV3) hV4) hV5) hV6) hV7) hV9) hV10) hV12)) hh.view)) ?_)
                  intro u V13 hV13 hu
                  obtain ⟨u15, u16, rfl, hu15, hu16⟩ := vT2_elim hu
                  obtain ⟨A9, c9, rfl, hs9⟩ := vlist_elim hu15
                  obtain rfl := sureInt _ _ _ hu16
                  refine T.pure (.tuple #[.slice A9 r11.1.length c9, .int .i64 r11.2]) (by kernel_rfl) (fun _ => by kernel_rfl) ?_
                  refine T.pure (.slice A9 r11.1.length c9) (by kernel_rfl) (fun _ => by kernel_rfl) ?_
                  refine T.pure (.int .i64 r11.2) (by kernel_rfl) (fun _ => by kernel_rfl) ?_
                  refine T.pure (.slice A9 r11.1.length c9) (by kernel_rfl) (fun _ => by kernel_rfl) ?_
                  refine T.pure (.int .i64 r11.2) (by kernel_rfl) (fun _ => by kernel_rfl) ?_
                  refine T.nil ?_
                  refine T.seq ?_
                  refine T.seq ?_
                  refine T.region ?_
                  refine T.pure (.int .i64 r11.2) (by kernel_rfl) (fun _ => by kernel_rfl) ?_
                  refine T.pure (.bool (r11.2 == 4)) (by kernel_rfl) (fun _ => by kernel_rfl) ?_
                  refine T.nil ?_
                  refine T.cond (r11.2 == 4) (by kernel_rfl) (by kernel_rfl) (fun hc5 => ?_) (fun hc5 => ?_)
                  ·
                    rw [hc5, cond_true] at hF
                    obtain ⟨z4, hX4, hF⟩ := Option.bind_eq_some_iff.1 hF
                    refine T.cut (fun a w' => ∃ (V14 : View), View.le V13 V14 ∧ Fr 157 [(12, .bool z4)] a ∧ Hp w V14 [] w') ?_ ?_
                    ·
                      refine T.region ?_
                      refine T.pure (.int .i64 r10.2) (by kernel_rfl) (fun _ => by kernel_rfl) ?_
                      refine T.pure (.bool (r10.2 == 0)) (by kernel_rfl) (fun _ => by kernel_rfl) ?_
                      refine T.pure (.bool (r10.2 == 0)) (by kernel_rfl) (fun _ => by kernel_rfl) ?_
                      cases hg9 : (r10.2 == 0)
                      ·
                        skip
                        rw [hg9, cond_false] at hX4
                        refine T.pass (by kernel_rfl) (by kernel_rfl) ?_
                        refine T.pass (by kernel_rfl) (by kernel_rfl) ?_
                        refine T.pass (by kernel_rfl) (by kernel_rfl) ?_
                        refine T.pure (.bool false) (by kernel_rfl) (fun _ => by kernel_rfl) ?_
                        refine T.pure (.bool false) (by kernel_rfl) (fun _ => by kernel_rfl) ?_
                        refine T.nil ?_
                        cases hX4
                        exact fun a w' hf hh => Exists.intro V13 (And.intro (View.le_refl _) (And.intro ((Fr.nil hf).pick hf 12 rfl) (hh.sub (.cons _ List.Sublist.slnil))))
                      ·
                        skip
                        rw [hg9, cond_true] at hX4
                        refine T.pure (.slice A8 r10.1.length c8) (by kernel_rfl) (fun _ => by kernel_rfl) ?_
                        refine T.pure (.slice A1 p0.length c1) (by kernel_rfl) (fun _ => by kernel_rfl) ?_
                        obtain ⟨r12, hb13, hX4⟩ := Option.bind_eq_some_iff.1 hX4
                        refine T.step (W1.call (vSc eBool) r12 29 #[.slice A8 r10.1.length c8, .slice A1 p0.length c1] (by kernel_rfl) (fun _ => by kernel_rfl) (fun w' hh => slices_Equal_Elem_l F r10.1 p0 r12 hb13 w' A8 c8 (SlOk.mono (SlOk.mono hs8 (View.le_trans (made_le _ _) hV13)) hh.view) A1 c1 (SlOk.mono (SlOk.mono hs1 (View.le_trans (View.le_trans (View.le_trans (View.le_trans (View.le_trans (View.le_trans (View.le_trans (View.le_trans (View.le_trans (View.le_trans hV1 hV2) hV3) hV4) hV5) hV6) hV7) hV9) hV10) hV12) hV13)) hh.view)) ?_)
                        intro u V15 hV15 hu
                        obtain rfl := sureBool _ _ _ hu
                        refine T.pure (.bool r12) (by kernel_rfl) (fun _ => by kernel_rfl) ?_
                        refine T.pure (.bool r12) (by kernel_rfl) (fun _ => by kernel_rfl) ?_
                        refine T.nil ?_
                        cases hX4
                        exact fun a w' hf hh => Exists.intro V15 (And.intro hV15 (And.intro ((Fr.nil hf).pick hf 12 rfl) (hh.sub (.cons _ List.Sublist.slnil))))
                    ·
                      rintro a w' ⟨V14, hV14, hf, hh⟩
                      refine (?_ : T 157 w V14 [] [(12, .bool z4)] _) a w' hf hh
                      clear hf hh
                      cases hF
                      refine T.ret rfl ?_
                      exact T.ret1 rfl (ResIs.tmp rfl) fun w' hh => ⟨_, rfl, hh.below, (show _ from rfl)⟩
                  ·
                    rw [hc5, cond_false] at hF
                    refine T.skip_code ?_
                    obtain ⟨z5, hX5, hF⟩ := Option.bind_eq_some_iff.1 hF
                    refine T.cut (fun a w' => ∃ (V16 : View), View.le V13 V16 ∧ Fr 157 [(12, .bool z5)] a ∧ Hp w V16 [] w') ?_ ?_
                    ·
                      refine T.region ?_
                      refine T.pure (.int .i64 r10.2) (by kernel_rfl) (fun _ => by kernel_rfl) ?_
                      refine T.pure (.bool (r10.2 == 0)) (by kernel_rfl) (fun _ => by kernel_rfl) ?_
                      refine T.pure (.bool (r10.2 == 0)) (by kernel_rfl) (fun _ => by kernel_rfl) ?_
                      cases hg10 : (r10.2 == 0)
                      ·
                        skip
                        rw [hg10, cond_false] at hX5
                        refine T.pass (by kernel_rfl) (by kernel_rfl) ?_
                        refine T.pass (by kernel_rfl) (by kernel_rfl) ?_
                        refine T.pure (.bool false) (by kernel_rfl) (fun _ => by kernel_rfl) ?_
                        refine T.pure (.bool false) (by kernel_rfl) (fun _ => by kernel_rfl) ?_
                        refine T.pass (by kernel_rfl) (by kernel_rfl) ?_
                        refine T.pass (by kernel_rfl) (by kernel_rfl) ?_
                        refine T.pass (by kernel_rfl) (by kernel_rfl) ?_
                        refine T.pure (.bool false) (by kernel_rfl) (fun _ => by kernel_rfl) ?_
                        refine T.pure (.bool false) (by kernel_rfl) (fun _ => by kernel_rfl) ?_
                        refine T.nil ?_
                        cases hX5
                        exact fun a w' hf hh => Exists.intro V13 (And.intro (View.le_refl _) (And.intro ((Fr.nil hf).pick hf 12 rfl) (hh.sub (.cons _ List.Sublist.slnil))))
                      ·
                        skip
                        rw [hg10, cond_true] at hX5
                        refine T.pure (.int .i64 r11.2) (by kernel_rfl) (fun _ => by kernel_rfl) ?_
                        refine T.pure (.bool (r11.2 == 0)) (by kernel_rfl) (fun _ => by kernel_rfl) ?_
                        refine T.pure (.bool (r11.2 == 0)) (by kernel_rfl) (fun _ => by kernel_rfl) ?_
                        refine T.pure (.bool (r11.2 == 0)) (by kernel_rfl) (fun _ => by kernel_rfl) ?_
                        cases hg11 : (r11.2 == 0)
                        ·
                          skip
                          rw [hg11, cond_false] at hX5
                          refine T.pass (by kernel_rfl) (by kernel_rfl) ?_
                          refine T.pass (by kernel_rfl) (by kernel_rfl) ?_
                          refine T.pass (by kernel_rfl) (by kernel_rfl) ?_
                          refine T.pure (.bool false) (by kernel_rfl) (fun _ => by kernel_rfl) ?_
                          refine T.pure (.bool false) (by kernel_rfl) (fun _ => by kernel_rfl) ?_
                          refine T.nil ?_
                          cases hX5
                          exact fun a w' hf hh => Exists.intro V13 (And.intro (View.le_refl _) (And.intro ((Fr.nil hf).pick hf 12 rfl) (hh.sub (.cons _ List.Sublist.slnil))))
                        ·
                          skip
                          rw [hg11, cond_true] at hX5
                          refine T.pure (.slice A8 r10.1.length c8) (by kernel_rfl) (fun _ => by kernel_rfl) ?_
                          refine T.pure (.slice A9 r11.1.length c9) (by kernel_rfl) (fun _ => by kernel_rfl) ?_
                          obtain ⟨r13, hb14, hX5⟩ := Option.bind_eq_some_iff.1 hX5
                          refine T.step (W1.call (vSc eBool) r13 29 #[.slice A8 r10.1.length c8, .slice A9 r11.1.length c9] (by kernel_rfl) (fun _ => by kernel_rfl) (fun w' hh => slices_Equal_Elem_l F r10.1 r11.1 r13 hb14 w' A8 c8 (SlOk.mono (SlOk.mono hs8 (View.le_trans (made_le _ _) hV13)) hh.view) A9 c9 (SlOk.mono (SlOk.mono hs9 (View.le_trans (made_le _ _) (View.le_refl _))) hh.view)) ?_)
                          intro u V17 hV17 hu
                          obtain rfl := sureBool _ _ _ hu
                          refine T.pure (.bool r13) (by kernel_rfl) (fun _ => by kernel_rfl) ?_
                          refine T.pure (.bool r13) (by kernel_rfl) (fun _ => by kernel_rfl) ?_
                          refine T.nil ?_
                          cases hX5
                          exact fun a w' hf hh => Exists.intro V17 (And.intro hV17 (And.intro ((Fr.nil hf).pick hf 12 rfl) (hh.sub (.cons _ List.Sublist.slnil))))
                    ·
                      rintro a w' ⟨V16, hV16, hf, hh⟩
                      refine (?_ : T 157 w V16 [] [(12, .bool z5)] _) a w' hf hh
                      clear hf hh
                      cases hF
                      refine T.ret rfl ?_
                      exact T.ret1 rfl (ResIs.tmp rfl) fun w' hh => ⟨_, rfl, hh.below, (show _ from rfl)⟩

end Go.Proofs.Ytiaoncjkfgebdaa
