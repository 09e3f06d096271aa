/- The Go functions of group WFileBlocks compute the pure functions of that group: written by walkgen.py. Condition of each: the pure function yields a result. -/
import Derived.Test.YtiaoncjkfgebdaaFileL
import Derived.Test.YtiaoncjkfgebdaaEqsL
import Derived.Test.YtiaoncjkfgebdaaWFileBlocksF
import Derived.Test.YtiaoncjkfgebdaaEqL
namespace Go.Proofs.Ytiaoncjkfgebdaa
set_option linter.unusedVariables false

set_option maxRecDepth 100000 in
set_option maxHeartbeats 4000000 in
theorem annalkeep_FileBlocks_l (F : Nat) (p0 : (List DElem)) (p1 : Int) (p2 : Int) (p3 : ByteArray) (p4 : Int) (p5 : Int) (r : Bool) (hF : annalkeep_FileBlocks F p0 p1 p2 p3 p4 p5 = some r) (w : World) (A1 : Option Addr) (c1 : Nat) (hs1 : SlOk (vw w) eElem A1 c1 p0) :
    Calls Try.prog 18 #[.slice A1 p0.length c1, .int .i64 p1, .int .i64 p2, .string p3, .int .i64 p4, .int .i64 p5] w (Post (vSc eBool) r w) := by
  unfold annalkeep_FileBlocks at hF
  refine T.start (l := [.slice A1 p0.length c1, .int .i64 p1, .int .i64 p2, .string p3, .int .i64 p4, .int .i64 p5]) Try.func18 rfl rfl rfl ?_
  refine T.seq ?_
  refine T.region ?_
  refine T.pure (.bool false) (by kernel_rfl) (fun _ => by kernel_rfl) ?_
  refine T.nil ?_
  refine T.seq ?_
  refine T.region ?_
  obtain ⟨r1, hb1, hF⟩ := Option.bind_eq_some_iff.1 hF
  refine T.step (W1.call (vT2 (vSc (eList eElem)) (vSc eInt)) r1 54 #[.slice none 0 0, .int .i64 0, .int .i64 5, .string (ByteArray.mk #[48, 49, 50, 51, 52, 53, 54, 55, 56, 57, 97, 98, 99, 100, 101, 102, 88]), .int .i64 1] (by kernel_rfl) (fun _ => by kernel_rfl) (fun w' hh => file_Set_l F ([] : List DElem) 0 5 (ByteArray.mk #[48, 49, 50, 51, 52, 53, 54, 55, 56, 57, 97, 98, 99, 100, 101, 102, 88]) 1 r1 hb1 w' none 0 (SlOk.nil _ _)) ?_)
  intro u V1 hV1 hu
  obtain ⟨u1, u2, rfl, hu1, hu2⟩ := vT2_elim hu
  obtain ⟨A2, c2, rfl, hs2⟩ := vlist_elim hu1
  obtain rfl := sureInt _ _ _ hu2
  refine T.pure (.tuple #[.slice A2 r1.1.length c2, .int .i64 r1.2]) (by kernel_rfl) (fun _ => by kernel_rfl) ?_
  refine T.pure (.slice A2 r1.1.length c2) (by kernel_rfl) (fun _ => by kernel_rfl) ?_
  refine T.pure (.int .i64 r1.2) (by kernel_rfl) (fun _ => by kernel_rfl) ?_
  refine T.pure (.slice A2 r1.1.length c2) (by kernel_rfl) (fun _ => by kernel_rfl) ?_
  refine T.pure (.int .i64 r1.2) (by kernel_rfl) (fun _ => by kernel_rfl) ?_
  refine T.nil ?_
  refine T.seq ?_
  refine T.region ?_
  refine T.pure (.slice A2 r1.1.length c2) (by kernel_rfl) (fun _ => by kernel_rfl) ?_
  obtain ⟨r2, hb2, hF⟩ := Option.bind_eq_some_iff.1 hF
  refine T.step (W1.call (vT2 (vSc (eList eElem)) (vSc eInt)) r2 54 #[.slice A2 r1.1.length c2, .int .i64 0, .int .i64 5, .string (ByteArray.mk #[48, 49, 50, 51, 52, 53, 54, 55, 56, 57, 97, 98, 99, 100, 101, 102, 89]), .int .i64 2] (by kernel_rfl) (fun _ => by kernel_rfl) (fun w' hh => file_Set_l F r1.1 0 5 (ByteArray.mk #[48, 49, 50, 51, 52, 53, 54, 55, 56, 57, 97, 98, 99, 100, 101, 102, 89]) 2 r2 hb2 w' A2 c2 (SlOk.mono (SlOk.mono hs2 (View.le_trans (made_le _ _) (View.le_refl _))) hh.view)) ?_)
  intro u V2 hV2 hu
  obtain ⟨u3, u4, rfl, hu3, hu4⟩ := vT2_elim hu
  obtain ⟨A3, c3, rfl, hs3⟩ := vlist_elim hu3
  obtain rfl := sureInt _ _ _ hu4
  refine T.pure (.tuple #[.slice A3 r2.1.length c3, .int .i64 r2.2]) (by kernel_rfl) (fun _ => by kernel_rfl) ?_
  refine T.pure (.slice A3 r2.1.length c3) (by kernel_rfl) (fun _ => by kernel_rfl) ?_
  refine T.pure (.int .i64 r2.2) (by kernel_rfl) (fun _ => by kernel_rfl) ?_
  refine T.pure (.slice A3 r2.1.length c3) (by kernel_rfl) (fun _ => by kernel_rfl) ?_
  refine T.pure (.int .i64 r2.2) (by kernel_rfl) (fun _ => by kernel_rfl) ?_
  refine T.nil ?_
  refine T.seq ?_
  obtain ⟨z1, hX1, hF⟩ := Option.bind_eq_some_iff.1 hF
  refine T.cut (fun a w' => Fr 148 [(0, .slice A1 p0.length c1), (1, .int .i64 p1), (2, .int .i64 p2), (3, .string p3), (4, .int .i64 p4), (5, .int .i64 p5), (54, .bool z1)] a ∧ Hp w V2 [] w') ?_ ?_
  ·
    refine T.quiet (by kernel_rfl) (by kernel_rfl) ?_
    refine TQ.pure (.int .i64 r1.2) (by kernel_rfl) (fun _ => by kernel_rfl) ?_
    refine TQ.pure (.bool (r1.2 != 0)) (by kernel_rfl) (fun _ => by kernel_rfl) ?_
    refine TQ.pure (.bool (r1.2 != 0)) (by kernel_rfl) (fun _ => by kernel_rfl) ?_
    cases hg1 : (r1.2 != 0)
    ·
      skip
      rw [hg1, cond_false] at hX1
      refine TQ.pure (.int .i64 r2.2) (by kernel_rfl) (fun _ => by kernel_rfl) ?_
      refine TQ.pure (.bool (r2.2 != 0)) (by kernel_rfl) (fun _ => by kernel_rfl) ?_
      refine TQ.pure (.bool (r2.2 != 0)) (by kernel_rfl) (fun _ => by kernel_rfl) ?_
      refine TQ.pure (.bool (r2.2 != 0)) (by kernel_rfl) (fun _ => by kernel_rfl) ?_
      cases hg2 : (r2.2 != 0)
      ·
        skip
        rw [hg2, cond_false] at hX1
        refine TQ.pure (.slice A3 r2.1.length c3) (by kernel_rfl) (fun _ => by kernel_rfl) ?_
        refine TQ.pure (.int .i64 (r2.1.length : Int)) (by kernel_rfl) (fun _ => by kernel_rfl) ?_
        refine TQ.pure (.bool ((r2.1.length : Int) != 3)) (by kernel_rfl) (fun _ => by kernel_rfl) ?_
        refine TQ.pure (.bool ((r2.1.length : Int) != 3)) (by kernel_rfl) (fun _ => by kernel_rfl) ?_
        refine TQ.pure (.bool ((r2.1.length : Int) != 3)) (by kernel_rfl) (fun _ => by kernel_rfl) ?_
        cases hg3 : ((r2.1.length : Int) != 3)
        ·
          skip
          rw [hg3, cond_false] at hX1
          refine TQ.pure (.slice A3 r2.1.length c3) (by kernel_rfl) (fun _ => by kernel_rfl) ?_
          obtain ⟨e1, hb3, hX1⟩ := Option.bind_eq_some_iff.1 hX1
          obtain ⟨hi1, hi2, hi3⟩ := idx_some hb3
          refine TQ.look (.pointer (some ((sadr A3).add (((0 : Int).toNat) * 6)))) (by kernel_rfl) (fun w' hh => exec_indexAddr (e := 26) (s := 6) rfl rfl rfl (by kernel_rfl) (by kernel_rfl) hi1 hi2 ((SlOk.mono hs3 (View.le_trans (made_le _ _) (View.le_refl _))).some_ hi3 (by decide))) ?_
          refine TQ.look (.agg #[.int .i64 e1.key.pfs, .int .i64 e1.key.obj, .int .i64 e1.key.off, .int .i64 e1.made, .int .i64 e1.gone, .string e1.val]) (by kernel_rfl) (fun w' hh => exec_loadN (cs := [.int .i64 e1.key.pfs, .int .i64 e1.key.obj, .int .i64 e1.key.off, .int .i64 e1.made, .int .i64 e1.gone, .string e1.val]) rfl rfl (by kernel_rfl) (by kernel_rfl) (fun j u hj => (hh.cell_view (SlOk.cellF (E := eElem) (SlOk.mono hs3 (View.le_trans (made_le _ _) (View.le_refl _))) hi3 j (fun _ _ _ h => h) hj)))) ?_
          refine TQ.pure (.slice A2 r1.1.length c2) (by kernel_rfl) (fun _ => by kernel_rfl) ?_
          obtain ⟨e2, hb4, hX1⟩ := Option.bind_eq_some_iff.1 hX1
          obtain ⟨hi4, hi5, hi6⟩ := idx_some hb4
          refine TQ.look (.pointer (some ((sadr A2).add (((0 : Int).toNat) * 6)))) (by kernel_rfl) (fun w' hh => exec_indexAddr (e := 26) (s := 6) rfl rfl rfl (by kernel_rfl) (by kernel_rfl) hi4 hi5 ((SlOk.mono hs2 (View.le_trans (made_le _ _) hV2)).some_ hi6 (by decide))) ?_
          refine TQ.look (.agg #[.int .i64 e2.key.pfs, .int .i64 e2.key.obj, .int .i64 e2.key.off, .int .i64 e2.made, .int .i64 e2.gone, .string e2.val]) (by kernel_rfl) (fun w' hh => exec_loadN (cs := [.int .i64 e2.key.pfs, .int .i64 e2.key.obj, .int .i64 e2.key.off, .int .i64 e2.made, .int .i64 e2.gone, .string e2.val]) rfl rfl (by kernel_rfl) (by kernel_rfl) (fun j u hj => (hh.cell_view (SlOk.cellF (E := eElem) (SlOk.mono hs2 (View.le_trans (made_le _ _) hV2)) hi6 j (fun _ _ _ h => h) hj)))) ?_
          refine TQ.look (.bool (!(e1 == e2))) (by kernel_rfl) (fun w' hh => exec_neq_DElem e1 e2 w' rfl rfl rfl) ?_
          refine TQ.pure (.bool (!(e1 == e2))) (by kernel_rfl) (fun _ => by kernel_rfl) ?_
          refine TQ.nil ?_
          cases hX1
          exact fun a w' hf hh => And.intro ((((((((Fr.nil hf).pick hf 54 rfl).pick hf 5 rfl).pick hf 4 rfl).pick hf 3 rfl).pick hf 2 rfl).pick hf 1 rfl).pick hf 0 rfl) (hh.sub List.Sublist.slnil)
        ·
          skip
          rw [hg3, cond_true] at hX1
          refine TQ.pass (by kernel_rfl) (by kernel_rfl) ?_
          refine TQ.pass (by kernel_rfl) (by kernel_rfl) ?_
          refine TQ.pass (by kernel_rfl) (by kernel_rfl) ?_
          refine TQ.pass (by kernel_rfl) (by kernel_rfl) ?_
          refine TQ.pass (by kernel_rfl) (by kernel_rfl) ?_
          refine TQ.pass (by kernel_rfl) (by kernel_rfl) ?_
          refine TQ.pass (by kernel_rfl) (by kernel_rfl) ?_
          refine TQ.pure (.bool true) (by kernel_rfl) (fun _ => by kernel_rfl) ?_
          refine TQ.nil ?_
          cases hX1
          exact fun a w' hf hh => And.intro ((((((((Fr.nil hf).pick hf 54 rfl).pick hf 5 rfl).pick hf 4 rfl).pick hf 3 rfl).pick hf 2 rfl).pick hf 1 rfl).pick hf 0 rfl) (hh.sub List.Sublist.slnil)
      ·
        skip
        rw [hg2, cond_true] at hX1
        refine TQ.pass (by kernel_rfl) (by kernel_rfl) ?_
        refine TQ.pass (by kernel_rfl) (by kernel_rfl) ?_
        refine TQ.pass (by kernel_rfl) (by kernel_rfl) ?_
        refine TQ.pure (.bool true) (by kernel_rfl) (fun _ => by kernel_rfl) ?_
        refine TQ.pure (.bool true) (by kernel_rfl) (fun _ => by kernel_rfl) ?_
        refine TQ.pass (by kernel_rfl) (by kernel_rfl) ?_
        refine TQ.pass (by kernel_rfl) (by kernel_rfl) ?_
        refine TQ.pass (by kernel_rfl) (by kernel_rfl) ?_
        refine TQ.pass (by kernel_rfl) (by kernel_rfl) ?_
        refine TQ.pass (by kernel_rfl) (by kernel_rfl) ?_
        refine TQ.pass (by kernel_rfl) (by kernel_rfl) ?_
        refine TQ.pass (by kernel_rfl) (by kernel_rfl) ?_
        refine TQ.pure (.bool true) (by kernel_rfl) (fun _ => by kernel_rfl) ?_
        refine TQ.nil ?_
        cases hX1
        exact fun a w' hf hh => And.intro ((((((((Fr.nil hf).pick hf 54 rfl).pick hf 5 rfl).pick hf 4 rfl).pick hf 3 rfl).pick hf 2 rfl).pick hf 1 rfl).pick hf 0 rfl) (hh.sub List.Sublist.slnil)
    ·
      skip
      rw [hg1, cond_true] at hX1
      refine TQ.pass (by kernel_rfl) (by kernel_rfl) ?_
      refine TQ.pass (by kernel_rfl) (by kernel_rfl) ?_
      refine TQ.pure (.bool true) (by kernel_rfl) (fun _ => by kernel_rfl) ?_
      refine TQ.pure (.bool true) (by kernel_rfl) (fun _ => by kernel_rfl) ?_
      refine TQ.pass (by kernel_rfl) (by kernel_rfl) ?_
      refine TQ.pass (by kernel_rfl) (by kernel_rfl) ?_
      refine TQ.pass (by kernel_rfl) (by kernel_rfl) ?_
      refine TQ.pure (.bool true) (by kernel_rfl) (fun _ => by kernel_rfl) ?_
      refine TQ.pure (.bool true) (by kernel_rfl) (fun _ => by kernel_rfl) ?_
      refine TQ.pass (by kernel_rfl) (by kernel_rfl) ?_
      refine TQ.pass (by kernel_rfl) (by kernel_rfl) ?_
      refine TQ.pass (by kernel_rfl) (by kernel_rfl) ?_
      refine TQ.pass (by kernel_rfl) (by kernel_rfl) ?_
      refine TQ.pass (by kernel_rfl) (by kernel_rfl) ?_
      refine TQ.pass (by kernel_rfl) (by kernel_rfl) ?_
      refine TQ.pass (by kernel_rfl) (by kernel_rfl) ?_
      refine TQ.pure (.bool true) (by kernel_rfl) (fun _ => by kernel_rfl) ?_
      refine TQ.nil ?_
      cases hX1
      exact fun a w' hf hh => And.intro ((((((((Fr.nil hf).pick hf 54 rfl).pick hf 5 rfl).pick hf 4 rfl).pick hf 3 rfl).pick hf 2 rfl).pick hf 1 rfl).pick hf 0 rfl) (hh.sub List.Sublist.slnil)
  ·
    rintro a w' ⟨hf, hh⟩
    refine (?_ : T 148 w V2 [] [(0, .slice A1 p0.length c1), (1, .int .i64 p1), (2, .int .i64 p2), (3, .string p3), (4, .int .i64 p4), (5, .int .i64 p5), (54, .bool z1)] _) a w' hf hh
    clear hf hh
    refine T.cond z1 (by kernel_rfl) (by kernel_rfl) (fun hc1 => ?_) (fun hc1 => ?_)
    ·
      rw [hc1, cond_true] at hF
      refine T.seq ?_
      refine T.region ?_
      refine T.pure (.bool false) (by kernel_rfl) (fun _ => by kernel_rfl) ?_
      refine T.nil ?_
      cases hF
      refine T.ret rfl ?_
      exact T.ret1 rfl (ResIs.tmp rfl) fun w' hh => ⟨_, rfl, hh.below, (show _ from rfl)⟩
    ·
      rw [hc1, cond_false] at hF
      refine T.skip_code ?_
      refine T.seq ?_
      refine T.region ?_
      refine T.pure (.slice A1 p0.length c1) (by kernel_rfl) (fun _ => by kernel_rfl) ?_
      refine T.pure (.int .i64 p1) (by kernel_rfl) (fun _ => by kernel_rfl) ?_
      refine T.pure (.int .i64 p2) (by kernel_rfl) (fun _ => by kernel_rfl) ?_
      refine T.pure (.string p3) (by kernel_rfl) (fun _ => by kernel_rfl) ?_
      refine T.pure (.int .i64 p5) (by kernel_rfl) (fun _ => by kernel_rfl) ?_
      obtain ⟨r3, hb5, hF⟩ := Option.bind_eq_some_iff.1 hF
      refine T.step (W1.call (vT2 (vSc (eList eElem)) (vSc eInt)) r3 54 #[.slice A1 p0.length c1, .int .i64 p1, .int .i64 p2, .string p3, .int .i64 p5] (by kernel_rfl) (fun _ => by kernel_rfl) (fun w' hh => file_Set_l F p0 p1 p2 p3 p5 r3 hb5 w' A1 c1 (SlOk.mono (SlOk.mono hs1 (View.le_trans hV1 hV2)) hh.view)) ?_)
      intro u V3 hV3 hu
      obtain ⟨u5, u6, rfl, hu5, hu6⟩ := vT2_elim hu
      obtain ⟨A4, c4, rfl, hs4⟩ := vlist_elim hu5
      obtain rfl := sureInt _ _ _ hu6
      refine T.pure (.tuple #[.slice A4 r3.1.length c4, .int .i64 r3.2]) (by kernel_rfl) (fun _ => by kernel_rfl) ?_
      refine T.pure (.slice A4 r3.1.length c4) (by kernel_rfl) (fun _ => by kernel_rfl) ?_
      refine T.pure (.int .i64 r3.2) (by kernel_rfl) (fun _ => by kernel_rfl) ?_
      refine T.pure (.slice A4 r3.1.length c4) (by kernel_rfl) (fun _ => by kernel_rfl) ?_
      refine T.pure (.int .i64 r3.2) (by kernel_rfl) (fun _ => by kernel_rfl) ?_
      refine T.nil ?_
      refine T.seq ?_
      refine T.cut (fun a w' => Fr 148 [(1, .int .i64 p1), (2, .int .i64 p2), (3, .string p3), (4, .int .i64 p4), (5, .int .i64 p5), (14, .int .i64 r3.2), (17, .slice A4 r3.1.length c4), (69, .bool ((r3.2 != 0) || (seq p3 (ByteArray.mk #[]))))] a ∧ Hp w V3 [] w') ?_ ?_
      ·
        refine T.region ?_
        refine T.pure (.int .i64 r3.2) (by kernel_rfl) (fun _ => by kernel_rfl) ?_
        refine T.pure (.bool (r3.2 != 0)) (by kernel_rfl) (fun _ => by kernel_rfl) ?_
        refine T.pure (.bool (r3.2 != 0)) (by kernel_rfl) (fun _ => by kernel_rfl) ?_
        cases hg4 : (r3.2 != 0)
        ·
          skip
          refine T.pure (.string p3) (by kernel_rfl) (fun _ => by kernel_rfl) ?_
          refine T.pure (.bool (seq p3 (ByteArray.mk #[]))) (by kernel_rfl) (fun _ => by kernel_rfl) ?_
          refine T.pure (.bool (seq p3 (ByteArray.mk #[]))) (by kernel_rfl) (fun _ => by kernel_rfl) ?_
          refine T.nil ?_
          exact fun a w' hf hh => And.intro (((((((((Fr.nil hf).pick hf 69 rfl).pick hf 17 rfl).pick hf 14 rfl).pick hf 5 rfl).pick hf 4 rfl).pick hf 3 rfl).pick hf 2 rfl).pick hf 1 rfl) (hh.sub List.Sublist.slnil)
        ·
          skip
          refine T.pass (by kernel_rfl) (by kernel_rfl) ?_
          refine T.pass (by kernel_rfl) (by kernel_rfl) ?_
          refine T.pure (.bool true) (by kernel_rfl) (fun _ => by kernel_rfl) ?_
          refine T.nil ?_
          exact fun a w' hf hh => And.intro (((((((((Fr.nil hf).pick hf 69 rfl).pick hf 17 rfl).pick hf 14 rfl).pick hf 5 rfl).pick hf 4 rfl).pick hf 3 rfl).pick hf 2 rfl).pick hf 1 rfl) (hh.sub List.Sublist.slnil)
      ·
        rintro a w' ⟨hf, hh⟩
        refine (?_ : T 148 w V3 [] [(1, .int .i64 p1), (2, .int .i64 p2), (3, .string p3), (4, .int .i64 p4), (5, .int .i64 p5), (14, .int .i64 r3.2), (17, .slice A4 r3.1.length c4), (69, .bool ((r3.2 != 0) || (seq p3 (ByteArray.mk #[]))))] _) a w' hf hh
        clear hf hh
        refine T.cond ((r3.2 != 0) || (seq p3 (ByteArray.mk #[]))) (by kernel_rfl) (by kernel_rfl) (fun hc2 => ?_) (fun hc2 => ?_)
        ·
          rw [hc2, cond_true] at hF
          refine T.cut (fun a w' => Fr 148 [(12, .bool ((r3.2 == 0) || ((r3.1.length : Int) == 0)))] a ∧ Hp w V3 [] w') ?_ ?_
          ·
            refine T.region ?_
            refine T.pure (.int .i64 r3.2) (by kernel_rfl) (fun _ => by kernel_rfl) ?_
            refine T.pure (.bool (r3.2 == 0)) (by kernel_rfl) (fun _ => by kernel_rfl) ?_
            refine T.pure (.bool (r3.2 == 0)) (by kernel_rfl) (fun _ => by kernel_rfl) ?_
            cases hg5 : (r3.2 == 0)
            ·
              skip
              refine T.pure (.slice A4 r3.1.length c4) (by kernel_rfl) (fun _ => by kernel_rfl) ?_
              refine T.pure (.int .i64 (r3.1.length : Int)) (by kernel_rfl) (fun _ => by kernel_rfl) ?_
              refine T.pure (.bool ((r3.1.length : Int) == 0)) (by kernel_rfl) (fun _ => by kernel_rfl) ?_
              refine T.pure (.bool ((r3.1.length : Int) == 0)) (by kernel_rfl) (fun _ => by kernel_rfl) ?_
              refine T.pure (.bool ((r3.1.length : Int) == 0)) (by kernel_rfl) (fun _ => by kernel_rfl) ?_
              refine T.nil ?_
              exact fun a w' hf hh => And.intro ((Fr.nil hf).pick hf 12 rfl) (hh.sub List.Sublist.slnil)
            ·
              skip
              refine T.pass (by kernel_rfl) (by kernel_rfl) ?_
              refine T.pass (by kernel_rfl) (by kernel_rfl) ?_
              refine T.pass (by kernel_rfl) (by kernel_rfl) ?_
              refine T.pure (.bool true) (by kernel_rfl) (fun _ => by kernel_rfl) ?_
              refine T.pure (.bool true) (by kernel_rfl) (fun _ => by kernel_rfl) ?_
              refine T.nil ?_
              exact fun a w' hf hh => And.intro ((Fr.nil hf).pick hf 12 rfl) (hh.sub List.Sublist.slnil)
          ·
            rintro a w' ⟨hf, hh⟩
            refine (?_ : T 148 w V3 [] [(12, .bool ((r3.2 == 0) || ((r3.1.length : Int) == 0)))] _) a w' hf hh
            clear hf hh
            cases hF
            refine T.ret rfl ?_
            exact T.ret1 rfl (ResIs.tmp rfl) fun w' hh => ⟨_, rfl, hh.below, (show _ from rfl)⟩
        ·
          rw [hc2, cond_false] at hF
          refine T.skip_code ?_
          refine T.seq ?_
          refine T.region ?_
          refine T.pure (.int .i64 p4) (by kernel_rfl) (fun _ => by kernel_rfl) ?_
          refine T.pure (.string p3) (by kernel_rfl) (fun _ => by kernel_rfl) ?_
          refine T.pure (.int .i64 (p3.size : Int)) (by kernel_rfl) (fun _ => by kernel_rfl) ?_
          obtain ⟨r4, hb6, hF⟩ := Option.bind_eq_some_iff.1 hF
          refine T.step (W1.call (vSc eInt) r4 32 #[.int .i64 p4, .int .i64 (p3.size : Int)] (by kernel_rfl) (fun _ => by kernel_rfl) (fun w' hh => annalkeep_Within_l p4 (p3.size : Int) r4 hb6 w' ) ?_)
          intro u V4 hV4 hu
          obtain rfl := sureInt _ _ _ hu
          refine T.pure (.int .i64 r4) (by kernel_rfl) (fun _ => by kernel_rfl) ?_
          refine T.nil ?_
          refine T.seq ?_
          refine T.region ?_
          refine T.pure (.string p3) (by kernel_rfl) (fun _ => by kernel_rfl) ?_
          obtain ⟨u7, hb8, hF⟩ := Option.bind_eq_some_iff.1 hF
          refine T.step (W1.bytes (e := 5) p3 _ (by kernel_rfl) rfl rfl (by kernel_rfl) (by kernel_rfl) (by kernel_rfl) (fits_some hb8).1 (fun A5 c5 => ?_))
          refine T.pure (.slice A5 ((listOf p3).length) c5) (by kernel_rfl) (fun _ => by kernel_rfl) ?_
          refine T.nil ?_
          refine T.seq ?_
          refine T.region ?_
          refine T.pure (.slice A5 ((listOf p3).length) c5) (by kernel_rfl) (fun _ => by kernel_rfl) ?_
          refine T.pure (.int .i64 r4) (by kernel_rfl) (fun _ => by kernel_rfl) ?_
          obtain ⟨e3, hb9, hF⟩ := Option.bind_eq_some_iff.1 hF
          obtain ⟨hi7, hi8, hi9⟩ := idx_some hb9
          refine T.look (.pointer (some ((sadr A5).add (r4.toNat * 1)))) (by kernel_rfl) (fun w' hh => exec_indexAddr (e := 5) (s := 1) rfl rfl rfl (by kernel_rfl) (by kernel_rfl) hi7 hi8 ((hh.row_slOk (i := 0) (by rfl)).some_ hi9 (by decide))) ?_
          refine T.look (.int .u8 e3) (by kernel_rfl) (fun w' hh => exec_load1 rfl rfl (by kernel_rfl) (SlOk.wcellF0 (E := (eK .u8)) (hh.row_slOk (i := 0) (by rfl)) hi9 (fun _ _ _ h => h) rfl)) ?_
          refine T.pure (.int .u8 (IntKind.u8.wrap (e3 + 1))) (by kernel_rfl) (fun _ => by kernel_rfl) ?_
          obtain ⟨e4, hb10, hF⟩ := Option.bind_eq_some_iff.1 hF
          obtain ⟨hi10, hi11, hi12⟩ := idx_some hb10
          refine T.look (.pointer (some ((sadr A5).add (r4.toNat * 1)))) (by kernel_rfl) (fun w' hh => exec_indexAddr (e := 5) (s := 1) rfl rfl rfl (by kernel_rfl) (by kernel_rfl) hi10 hi11 ((hh.row_slOk (i := 0) (by rfl)).some_ hi12 (by decide))) ?_
          refine T.step (W1.storeRow (E := (eK .u8)) 0 (r4.toNat) 0 e4 (IntKind.u8.wrap (e3 + 1)) _ (vs := [.int .u8 (IntKind.u8.wrap (e3 + 1))]) (by rfl) (by kernel_rfl) rfl rfl (addr_add0 _).symm rfl rfl (fun _ => by kernel_rfl) (one_of rfl) hi12 (Nat.le_of_ble_eq_true (by kernel_rfl)) (fun _ _ h => by cases h; rfl) ?_)
          refine T.reslot 18 (.slice A5 (((listOf p3).set r4.toNat (IntKind.u8.wrap (e3 + 1))).length) c5) rfl (by simp only [List.length_set]) ?_
          refine T.reslot 82 (.slice A5 (((listOf p3).set r4.toNat (IntKind.u8.wrap (e3 + 1))).length) c5) rfl (by simp only [List.length_set]) ?_
          refine T.reslot 83 (.slice A5 (((listOf p3).set r4.toNat (IntKind.u8.wrap (e3 + 1))).length) c5) rfl (by simp only [List.length_set]) ?_
          refine T.nil ?_
          refine T.seq ?_
          refine T.region ?_
          refine T.pure (.slice A4 r3.1.length c4) (by kernel_rfl) (fun _ => by kernel_rfl) ?_
          refine T.pure (.int .i64 p1) (by kernel_rfl) (fun _ => by kernel_rfl) ?_
          refine T.pure (.int .i64 p2) (by kernel_rfl) (fun _ => by kernel_rfl) ?_
          refine T.pure (.slice A5 (((listOf p3).set r4.toNat (IntKind.u8.wrap (e3 + 1))).length) c5) (by kernel_rfl) (fun _ => by kernel_rfl) ?_
          refine T.look (.string (bytesOf ((listOf p3).set r4.toNat (IntKind.u8.wrap (e3 + 1))))) (by kernel_rfl) (fun w' hh => exec_bytes_str (e := 5) rfl rfl (by kernel_rfl) (by kernel_rfl) (by kernel_rfl) (hh.row_slOk (i := 0) (by rfl))) ?_
          refine T.pure (.int .i64 p5) (by kernel_rfl) (fun _ => by kernel_rfl) ?_
          refine T.pure (.int .i64 (IntKind.i64.wrap (p5 + 1))) (by kernel_rfl) (fun _ => by kernel_rfl) ?_
          refine T.pure (.int .i64 (if (2147483647 : Int) < (IntKind.i64.wrap (p5 + 1)) then 2147483647 else IntKind.i64.wrap (p5 + 1))) (by kernel_rfl) (fun _ => by kernel_rfl) ?_
          obtain ⟨r6, hb11, hF⟩ := Option.bind_eq_some_iff.1 hF
          refine T.step (W1.call (vT2 (vSc (eList eElem)) (vSc eInt)) r6 54 #[.slice A4 r3.1.length c4, .int .i64 p1, .int .i64 p2, .string (bytesOf ((listOf p3).set r4.toNat (IntKind.u8.wrap (e3 + 1)))), .int .i64 (if (2147483647 : Int) < (IntKind.i64.wrap (p5 + 1)) then 2147483647 else IntKind.i64.wrap (p5 + 1))] (by kernel_rfl) (fun _ => by kernel_rfl) (fun w' hh => file_Set_l F r3.1 p1 p2 (bytesOf ((listOf p3).set r4.toNat (IntKind.u8.wrap (e3 + 1)))) (if (2147483647 : Int) < (IntKind.i64.wrap (p5 + 1)) then 2147483647 else IntKind.i64.wrap (p5 + 1)) r6 hb11 w' A4 c4 (SlOk.mono (SlOk.mono hs4 (View.le_trans (made_le _ _) hV4)) hh.view)) ?_)
          intro u V5 hV5 hu
          obtain ⟨u8, u9, rfl, hu7, hu8⟩ := vT2_elim hu
          obtain ⟨A6, c6, rfl, hs5⟩ := vlist_elim hu7
          obtain rfl := sureInt _ _ _ hu8
          refine T.pure (.tuple #[.slice A6 r6.1.length c6, .int .i64 r6.2]) (by kernel_rfl) (fun _ => by kernel_rfl) ?_
          refine T.pure (.slice A6 r6.1.length c6) (by kernel_rfl) (fun _ => by kernel_rfl) ?_
          refine T.pure (.int .i64 r6.2) (by kernel_rfl) (fun _ => by kernel_rfl) ?_
          refine T.pure (.slice A6 r6.1.length c6) (by kernel_rfl) (fun _ => by kernel_rfl) ?_
          refine T.pure (.int .i64 r6.2) (by kernel_rfl) (fun _ => by kernel_rfl) ?_
          refine T.nil ?_
          refine T.seq ?_
          refine T.seq ?_
          refine T.region ?_
          refine T.pure (.int .i64 r6.2) (by kernel_rfl) (fun _ => by kernel_rfl) ?_
          refine T.pure (.bool (r6.2 != 0)) (by kernel_rfl) (fun _ => by kernel_rfl) ?_
          refine T.nil ?_
          refine T.cond (r6.2 != 0) (by kernel_rfl) (by kernel_rfl) (fun hc3 => ?_) (fun hc3 => ?_)
          ·
            rw [hc3, cond_true] at hF
            refine T.seq ?_
            refine T.region ?_
            refine T.pure (.int .i64 r6.2) (by kernel_rfl) (fun _ => by kernel_rfl) ?_
            refine T.pure (.bool (r6.2 == 8)) (by kernel_rfl) (fun _ => by kernel_rfl) ?_
            refine T.pure (.bool (r6.2 == 8)) (by kernel_rfl) (fun _ => by kernel_rfl) ?_
            refine T.nil ?_
            cases hF
            refine T.ret rfl ?_
            exact T.ret1 rfl (ResIs.tmp rfl) fun w' hh => ⟨_, rfl, hh.below, (show _ from rfl)⟩
          ·
            rw [hc3, cond_false] at hF
            refine T.skip_code ?_
            refine T.seq ?_
            refine T.seq ?_
            refine T.region ?_
            refine T.pure (.int .i64 1) (by kernel_rfl) (fun _ => by kernel_rfl) ?_
            refine T.nil ?_
            obtain ⟨q1, hz1, hF⟩ := Option.bind_eq_some_iff.1 hF
            refine T.mid (fun a w' => q1 = Sum.inl () ∧ ∃ (V7 : View), View.le V5 V7 ∧ Fr 148 [] a ∧ Hp w V7 [] w') ?_ ?_
            ·
              refine T.block ?_
              refine T.iter (fun x1 a w' => ∃ (V6 : View), View.le V5 V6 ∧ Fr 148 [(1, .int .i64 p1), (2, .int .i64 p2), (4, .int .i64 r4), (17, .slice A4 r3.1.length c4), (19, .slice A6 r6.1.length c6), (20, .int .i64 x1)] a ∧ Hp w V6 [] w') hz1 ?_ ?_
              ·
                exact fun a w' hf hh => Exists.intro V5 (And.intro (View.le_refl _) (And.intro (((((((Fr.nil hf).pick hf 20 rfl).pick hf 19 rfl).pick hf 17 rfl).pick hf 4 rfl).pick hf 2 rfl).pick hf 1 rfl) (hh.sub (.cons _ List.Sublist.slnil))))
              ·
                rintro x1 y1 hY1 hr1 a w' ⟨V6, hV6, hf, hh⟩
                refine (?_ : T 148 w V6 [] [(1, .int .i64 p1), (2, .int .i64 p2), (4, .int .i64 r4), (17, .slice A4 r3.1.length c4), (19, .slice A6 r6.1.length c6), (20, .int .i64 x1)] _) a w' hf hh
                clear hf hh
                try dsimp only at hY1
                refine T.seq ?_
                refine T.seq ?_
                refine T.region ?_
                refine T.pure (.int .i64 x1) (by kernel_rfl) (fun _ => by kernel_rfl) ?_
                refine T.pure (.bool (decide (x1 ≤ 20))) (by kernel_rfl) (fun _ => by kernel_rfl) ?_
                refine T.nil ?_
                refine T.cond (decide (x1 ≤ 20)) (by kernel_rfl) (by kernel_rfl) (fun hc4 => ?_) (fun hc4 => ?_)
                ·
                  rw [hc4, cond_true] at hY1
                  refine T.skip_code ?_
                  refine T.seq ?_
                  refine T.block ?_
                  refine T.seq ?_
                  refine T.region ?_
                  refine T.pure (.int .i64 p1) (by kernel_rfl) (fun _ => by kernel_rfl) ?_
                  refine T.pure (.int .i64 p2) (by kernel_rfl) (fun _ => by kernel_rfl) ?_
                  refine T.pure (.int .i64 x1) (by kernel_rfl) (fun _ => by kernel_rfl) ?_
                  refine T.pure (.agg #[.int .i64 p1, .int .i64 p2, .int .i64 x1]) (by kernel_rfl) (fun _ => by kernel_rfl) ?_
                  refine T.step (W1.new 24 [.int .i64 0, .int .i64 0, .int .i64 0] (fun b => .pointer (some ⟨b, 0, none⟩)) (by kernel_rfl) (fun _ => by kernel_rfl) (fun b1 => ?_))
                  refine T.step (W1.store 0 [.int .i64 p1, .int .i64 p2, .int .i64 x1] [box b1 24 [.int .i64 p1, .int .i64 p2, .int .i64 x1]] (by rfl) rfl (by kernel_rfl) (fun w' hw => exec_store (vs := [.int .i64 p1, .int .i64 p2, .int .i64 x1]) rfl rfl rfl rfl (by kernel_rfl) (one_of rfl) (by simp) rfl hw) ?_)
                  refine T.nil ?_
                  refine T.seq ?_
                  refine T.region ?_
                  refine T.pure (.slice A4 r3.1.length c4) (by kernel_rfl) (fun _ => by kernel_rfl) ?_
                  refine T.look (.agg #[.int .i64 p1, .int .i64 p2, .int .i64 x1]) (by kernel_rfl) (fun w' hh => exec_loadN (cs := [.int .i64 p1, .int .i64 p2, .int .i64 x1]) rfl rfl (by kernel_rfl) (by kernel_rfl) (fun j u hj => (hh.box_at (i := 0) (cs := [.int .i64 p1, .int .i64 p2, .int .i64 x1]) (by rfl) 0 j).trans (seg_at (n := 3) rfl hj))) ?_
                  obtain ⟨r7, hb12, hY1⟩ := Option.bind_eq_some_iff.1 hY1
                  refine T.step (W1.call (vT2 (vAg eElem) (vSc eInt)) r7 44 #[.slice A4 r3.1.length c4, .agg #[.int .i64 p1, .int .i64 p2, .int .i64 x1], .int .i64 2147483647] (by kernel_rfl) (fun _ => by kernel_rfl) (fun w' hh => run_At_l F r3.1 (DKey.mk p1 p2 x1) 2147483647 r7 hb12 w' A4 c4 (SlOk.mono (SlOk.mono hs4 (View.le_trans (made_le _ _) (View.le_trans (View.le_trans hV4 hV5) hV6))) hh.view)) ?_)
                  intro u V8 hV8 hu
                  obtain rfl := (Sure.t2 sureElem sureInt) _ _ _ hu
                  refine T.pure (.tuple #[.agg #[.int .i64 r7.1.key.pfs, .int .i64 r7.1.key.obj, .int .i64 r7.1.key.off, .int .i64 r7.1.made, .int .i64 r7.1.gone, .string r7.1.val], .int .i64 r7.2]) (by kernel_rfl) (fun _ => by kernel_rfl) ?_
                  refine T.pure (.agg #[.int .i64 r7.1.key.pfs, .int .i64 r7.1.key.obj, .int .i64 r7.1.key.off, .int .i64 r7.1.made, .int .i64 r7.1.gone, .string r7.1.val]) (by kernel_rfl) (fun _ => by kernel_rfl) ?_
                  refine T.pure (.int .i64 r7.2) (by kernel_rfl) (fun _ => by kernel_rfl) ?_
                  refine T.step (W1.new 26 [.int .i64 0, .int .i64 0, .int .i64 0, .int .i64 0, .int .i64 0, .string (ByteArray.mk #[])] (fun b => .pointer (some ⟨b, 0, none⟩)) (by kernel_rfl) (fun _ => by kernel_rfl) (fun b2 => ?_))
                  refine T.step (W1.store 0 [.int .i64 r7.1.key.pfs, .int .i64 r7.1.key.obj, .int .i64 r7.1.key.off, .int .i64 r7.1.made, .int .i64 r7.1.gone, .string r7.1.val] [box b2 26 [.int .i64 r7.1.key.pfs, .int .i64 r7.1.key.obj, .int .i64 r7.1.key.off, .int .i64 r7.1.made, .int .i64 r7.1.gone, .string r7.1.val], box b1 24 [.int .i64 p1, .int .i64 p2, .int .i64 x1]] (by rfl) rfl (by kernel_rfl) (fun w' hw => exec_store (vs := [.int .i64 r7.1.key.pfs, .int .i64 r7.1.key.obj, .int .i64 r7.1.key.off, .int .i64 r7.1.made, .int .i64 r7.1.gone, .string r7.1.val]) rfl rfl rfl rfl (by kernel_rfl) (one_of rfl) (by simp) rfl hw) ?_)
                  refine T.pure (.int .i64 r7.2) (by kernel_rfl) (fun _ => by kernel_rfl) ?_
                  refine T.nil ?_
                  refine T.seq ?_
                  refine T.region ?_
                  refine T.pure (.slice A6 r6.1.length c6) (by kernel_rfl) (fun _ => by kernel_rfl) ?_
                  refine T.look (.agg #[.int .i64 p1, .int .i64 p2, .int .i64 x1]) (by kernel_rfl) (fun w' hh => exec_loadN (cs := [.int .i64 p1, .int .i64 p2, .int .i64 x1]) rfl rfl (by kernel_rfl) (by kernel_rfl) (fun j u hj => (hh.box_at (i := 1) (cs := [.int .i64 p1, .int .i64 p2, .int .i64 x1]) (by rfl) 0 j).trans (seg_at (n := 3) rfl hj))) ?_
                  obtain ⟨r8, hb13, hY1⟩ := Option.bind_eq_some_iff.1 hY1
                  refine T.step (W1.call (vT2 (vAg eElem) (vSc eInt)) r8 44 #[.slice A6 r6.1.length c6, .agg #[.int .i64 p1, .int .i64 p2, .int .i64 x1], .int .i64 2147483647] (by kernel_rfl) (fun _ => by kernel_rfl) (fun w' hh => run_At_l F r6.1 (DKey.mk p1 p2 x1) 2147483647 r8 hb13 w' A6 c6 (SlOk.mono (SlOk.mono hs5 (View.le_trans (made_le _ _) (View.le_trans hV6 hV8))) hh.view)) ?_)
                  intro u V9 hV9 hu
                  obtain rfl := (Sure.t2 sureElem sureInt) _ _ _ hu
                  refine T.pure (.tuple #[.agg #[.int .i64 r8.1.key.pfs, .int .i64 r8.1.key.obj, .int .i64 r8.1.key.off, .int .i64 r8.1.made, .int .i64 r8.1.gone, .string r8.1.val], .int .i64 r8.2]) (by kernel_rfl) (fun _ => by kernel_rfl) ?_
                  refine T.pure (.agg #[.int .i64 r8.1.key.pfs, .int .i64 r8.1.key.obj, .int .i64 r8.1.key.off, .int .i64 r8.1.made, .int .i64 r8.1.gone, .string r8.1.val]) (by kernel_rfl) (fun _ => by kernel_rfl) ?_
                  refine T.pure (.int .i64 r8.2) (by kernel_rfl) (fun _ => by kernel_rfl) ?_
                  refine T.step (W1.new 26 [.int .i64 0, .int .i64 0, .int .i64 0, .int .i64 0, .int .i64 0, .string (ByteArray.mk #[])] (fun b => .pointer (some ⟨b, 0, none⟩)) (by kernel_rfl) (fun _ => by kernel_rfl) (fun b3 => ?_))
                  refine T.step (W1.store 0 [.int .i64 r8.1.key.pfs, .int .i64 r8.1.key.obj, .int .i64 r8.1.key.off, .int .i64 r8.1.made, .int .i64 r8.1.gone, .string r8.1.val] [box b3 26 [.int .i64 r8.1.key.pfs, .int .i64 r8.1.key.obj, .int .i64 r8.1.key.off, .int .i64 r8.1.made, .int .i64 r8.1.gone, .string r8.1.val], box b2 26 [.int .i64 r7.1.key.pfs, .int .i64 r7.1.key.obj, .int .i64 r7.1.key.off, .int .i64 r7.1.made, .int .i64 r7.1.gone, .string r7.1.val], box b1 24 [.int .i64 p1, .int .i64 p2, .int .i64 x1]] (by rfl) rfl (by kernel_rfl) (fun w' hw => exec_store (vs := [.int .i64 r8.1.key.pfs, .int .i64 r8.1.key.obj, .int .i64 r8.1.key.off, .int .i64 r8.1.made, .int .i64 r8.1.gone, .string r8.1.val]) rfl rfl rfl rfl (by kernel_rfl) (one_of rfl) (by simp) rfl hw) ?_)
                  refine T.pure (.int .i64 r8.2) (by kernel_rfl) (fun _ => by kernel_rfl) ?_
                  refine T.nil ?_
                  refine T.cut (fun a w' => Fr 148 [(1, .int .i64 p1), (2, .int .i64 p2), (4, .int .i64 r4), (17, .slice A4 r3.1.length c4), (19, .slice A6 r6.1.length c6), (20, .int .i64 x1), (147, .bool (bif (seq r7.1.val r8.1.val) then (bif (r7.1.made == r8.1.made) then (((IntKind.i64.wrap ((r4 : Int).tdiv 16)) == (IntKind.i64.wrap (x1 - 1))) == (r7.2 == r8.2)) else (((IntKind.i64.wrap ((r4 : Int).tdiv 16)) == (IntKind.i64.wrap (x1 - 1))) == false)) else (((IntKind.i64.wrap ((r4 : Int).tdiv 16)) == (IntKind.i64.wrap (x1 - 1))) == false)))] a ∧ Hp w V9 [box b3 26 [.int .i64 r8.1.key.pfs, .int .i64 r8.1.key.obj, .int .i64 r8.1.key.off, .int .i64 r8.1.made, .int .i64 r8.1.gone, .string r8.1.val], box b2 26 [.int .i64 r7.1.key.pfs, .int .i64 r7.1.key.obj, .int .i64 r7.1.key.off, .int .i64 r7.1.made, .int .i64 r7.1.gone, .string r7.1.val]] w') ?_ ?_
                  ·
                    refine T.region ?_
                    refine T.pure (.int .i64 r4) (by kernel_rfl) (fun _ => by kernel_rfl) ?_
                    refine T.pure (.int .i64 (IntKind.i64.wrap ((r4 : Int).tdiv 16))) (by kernel_rfl) (fun _ => by kernel_rfl) ?_
                    refine T.pure (.int .i64 x1) (by kernel_rfl) (fun _ => by kernel_rfl) ?_
                    refine T.pure (.int .i64 (IntKind.i64.wrap (x1 - 1))) (by kernel_rfl) (fun _ => by kernel_rfl) ?_
                    refine T.pure (.bool ((IntKind.i64.wrap ((r4 : Int).tdiv 16)) == (IntKind.i64.wrap (x1 - 1)))) (by kernel_rfl) (fun _ => by kernel_rfl) ?_
                    refine T.pure (.pointer (some ⟨b2, 5, none⟩)) (by kernel_rfl) (fun _ => by kernel_rfl) ?_
                    refine T.look (.string r7.1.val) (by kernel_rfl) (fun w' hh => exec_load1 rfl rfl (by kernel_rfl) (hh.cellBox (i := 1) (by rfl) 5)) ?_
                    refine T.pure (.pointer (some ⟨b3, 5, none⟩)) (by kernel_rfl) (fun _ => by kernel_rfl) ?_
                    refine T.look (.string r8.1.val) (by kernel_rfl) (fun w' hh => exec_load1 rfl rfl (by kernel_rfl) (hh.cellBox (i := 0) (by rfl) 5)) ?_
                    refine T.pure (.bool (seq r7.1.val r8.1.val)) (by kernel_rfl) (fun _ => by kernel_rfl) ?_
                    refine T.pure (.bool (seq r7.1.val r8.1.val)) (by kernel_rfl) (fun _ => by kernel_rfl) ?_
                    cases hg6 : (seq r7.1.val r8.1.val)
                    ·
                      skip
                      refine T.pass (by kernel_rfl) (by kernel_rfl) ?_
                      refine T.pass (by kernel_rfl) (by kernel_rfl) ?_
                      refine T.pass (by kernel_rfl) (by kernel_rfl) ?_
                      refine T.pass (by kernel_rfl) (by kernel_rfl) ?_
                      refine T.pass (by kernel_rfl) (by kernel_rfl) ?_
                      refine T.pure (.bool false) (by kernel_rfl) (fun _ => by kernel_rfl) ?_
                      refine T.pure (.bool false) (by kernel_rfl) (fun _ => by kernel_rfl) ?_
                      refine T.pass (by kernel_rfl) (by kernel_rfl) ?_
                      refine T.pass (by kernel_rfl) (by kernel_rfl) ?_
                      refine T.pass (by kernel_rfl) (by kernel_rfl) ?_
                      refine T.pure (.bool false) (by kernel_rfl) (fun _ => by kernel_rfl) ?_
                      refine T.pure (.bool (((IntKind.i64.wrap ((r4 : Int).tdiv 16)) == (IntKind.i64.wrap (x1 - 1))) == false)) (by kernel_rfl) (fun _ => by kernel_rfl) ?_
                      refine T.nil ?_
                      exact fun a w' hf hh => And.intro ((((((((Fr.nil hf).pick hf 147 rfl).pick hf 20 rfl).pick hf 19 rfl).pick hf 17 rfl).pick hf 4 rfl).pick hf 2 rfl).pick hf 1 rfl) (hh.sub (.cons_cons _ (.cons_cons _ (.cons _ List.Sublist.slnil))))
                    ·
                      skip
                      refine T.pure (.pointer (some ⟨b2, 3, none⟩)) (by kernel_rfl) (fun _ => by kernel_rfl) ?_
                      refine T.look (.int .i64 r7.1.made) (by kernel_rfl) (fun w' hh => exec_load1 rfl rfl (by kernel_rfl) (hh.cellBox (i := 1) (by rfl) 3)) ?_
                      refine T.pure (.pointer (some ⟨b3, 3, none⟩)) (by kernel_rfl) (fun _ => by kernel_rfl) ?_
                      refine T.look (.int .i64 r8.1.made) (by kernel_rfl) (fun w' hh => exec_load1 rfl rfl (by kernel_rfl) (hh.cellBox (i := 0) (by rfl) 3)) ?_
                      refine T.pure (.bool (r7.1.made == r8.1.made)) (by kernel_rfl) (fun _ => by kernel_rfl) ?_
                      refine T.pure (.bool (r7.1.made == r8.1.made)) (by kernel_rfl) (fun _ => by kernel_rfl) ?_
                      refine T.pure (.bool (r7.1.made == r8.1.made)) (by kernel_rfl) (fun _ => by kernel_rfl) ?_
                      cases hg7 : (r7.1.made == r8.1.made)
                      ·
                        skip
                        refine T.pass (by kernel_rfl) (by kernel_rfl) ?_
                        refine T.pass (by kernel_rfl) (by kernel_rfl) ?_
                        refine T.pass (by kernel_rfl) (by kernel_rfl) ?_
                        refine T.pure (.bool false) (by kernel_rfl) (fun _ => by kernel_rfl) ?_
                        refine T.pure (.bool (((IntKind.i64.wrap ((r4 : Int).tdiv 16)) == (IntKind.i64.wrap (x1 - 1))) == false)) (by kernel_rfl) (fun _ => by kernel_rfl) ?_
                        refine T.nil ?_
                        exact fun a w' hf hh => And.intro ((((((((Fr.nil hf).pick hf 147 rfl).pick hf 20 rfl).pick hf 19 rfl).pick hf 17 rfl).pick hf 4 rfl).pick hf 2 rfl).pick hf 1 rfl) (hh.sub (.cons_cons _ (.cons_cons _ (.cons _ List.Sublist.slnil))))
                      ·
                        skip
                        refine T.pure (.int .i64 r7.2) (by kernel_rfl) (fun _ => by kernel_rfl) ?_
                        refine T.pure (.int .i64 r8.2) (by kernel_rfl) (fun _ => by kernel_rfl) ?_
                        refine T.pure (.bool (r7.2 == r8.2)) (by kernel_rfl) (fun _ => by kernel_rfl) ?_
                        refine T.pure (.bool (r7.2 == r8.2)) (by kernel_rfl) (fun _ => by kernel_rfl) ?_
                        refine T.pure (.bool (((IntKind.i64.wrap ((r4 : Int).tdiv 16)) == (IntKind.i64.wrap (x1 - 1))) == (r7.2 == r8.2))) (by kernel_rfl) (fun _ => by kernel_rfl) ?_
                        refine T.nil ?_
                        exact fun a w' hf hh => And.intro ((((((((Fr.nil hf).pick hf 147 rfl).pick hf 20 rfl).pick hf 19 rfl).pick hf 17 rfl).pick hf 4 rfl).pick hf 2 rfl).pick hf 1 rfl) (hh.sub (.cons_cons _ (.cons_cons _ (.cons _ List.Sublist.slnil))))
                  ·
                    rintro a w' ⟨hf, hh⟩
                    refine (?_ : T 148 w V9 [box b3 26 [.int .i64 r8.1.key.pfs, .int .i64 r8.1.key.obj, .int .i64 r8.1.key.off, .int .i64 r8.1.made, .int .i64 r8.1.gone, .string r8.1.val], box b2 26 [.int .i64 r7.1.key.pfs, .int .i64 r7.1.key.obj, .int .i64 r7.1.key.off, .int .i64 r7.1.made, .int .i64 r7.1.gone, .string r7.1.val]] [(1, .int .i64 p1), (2, .int .i64 p2), (4, .int .i64 r4), (17, .slice A4 r3.1.length c4), (19, .slice A6 r6.1.length c6), (20, .int .i64 x1), (147, .bool (bif (seq r7.1.val r8.1.val) then (bif (r7.1.made == r8.1.made) then (((IntKind.i64.wrap ((r4 : Int).tdiv 16)) == (IntKind.i64.wrap (x1 - 1))) == (r7.2 == r8.2)) else (((IntKind.i64.wrap ((r4 : Int).tdiv 16)) == (IntKind.i64.wrap (x1 - 1))) == false)) else (((IntKind.i64.wrap ((r4 : Int).tdiv 16)) == (IntKind.i64.wrap (x1 - 1))) == false)))] _) a w' hf hh
                    clear hf hh
                    refine T.cond (bif (seq r7.1.val r8.1.val) then (bif (r7.1.made == r8.1.made) then (((IntKind.i64.wrap ((r4 : Int).tdiv 16)) == (IntKind.i64.wrap (x1 - 1))) == (r7.2 == r8.2)) else (((IntKind.i64.wrap ((r4 : Int).tdiv 16)) == (IntKind.i64.wrap (x1 - 1))) == false)) else (((IntKind.i64.wrap ((r4 : Int).tdiv 16)) == (IntKind.i64.wrap (x1 - 1))) == false)) (by kernel_rfl) (by kernel_rfl) (fun hc5 => ?_) (fun hc5 => ?_)
                    ·
                      rw [hc5, cond_true] at hY1
                      refine T.seq ?_
                      refine T.region ?_
                      refine T.pure (.bool false) (by kernel_rfl) (fun _ => by kernel_rfl) ?_
                      refine T.nil ?_
                      cases hY1
                      cases (hr1 _ rfl)
                      try dsimp only at hF
                      cases hF
                      refine T.ret rfl ?_
                      exact T.ret1 rfl (ResIs.tmp rfl) fun w' hh => ⟨_, rfl, hh.below, (show _ from rfl)⟩
                    ·
                      rw [hc5, cond_false] at hY1
                      refine T.skip_code ?_
                      refine T.region ?_
                      refine T.pure (.int .i64 x1) (by kernel_rfl) (fun _ => by kernel_rfl) ?_
                      refine T.pure (.int .i64 (IntKind.i64.wrap (x1 + 1))) (by kernel_rfl) (fun _ => by kernel_rfl) ?_
                      refine T.pure (.int .i64 (IntKind.i64.wrap (x1 + 1))) (by kernel_rfl) (fun _ => by kernel_rfl) ?_
                      refine T.nil ?_
                      cases hY1
                      exact fun a w' hf hh => Exists.intro (IntKind.i64.wrap (x1 + 1)) (And.intro rfl (Exists.intro V9 (And.intro (View.le_trans (View.le_trans hV6 hV8) hV9) (And.intro (((((((Fr.nil hf).pick hf 20 rfl).pick hf 19 rfl).pick hf 17 rfl).pick hf 4 rfl).pick hf 2 rfl).pick hf 1 rfl) (hh.sub (.cons _ (.cons _ List.Sublist.slnil)))))))
                ·
                  rw [hc4, cond_false] at hY1
                  refine T.exit ?_
                  cases hY1
                  cases (hr1 _ rfl)
                  exact fun a w' hf hh => And.intro rfl (Exists.intro V6 (And.intro hV6 (And.intro (Fr.nil hf) (hh.sub List.Sublist.slnil))))
            ·
              rintro a w' ⟨rfl, V7, hV7, hf, hh⟩
              try dsimp only at hF
              refine (?_ : T 148 w V7 [] [] _) a w' hf hh
              clear hf hh
              refine T.seq ?_
              refine T.region ?_
              refine T.pure (.bool true) (by kernel_rfl) (fun _ => by kernel_rfl) ?_
              refine T.nil ?_
              cases hF
              refine T.ret rfl ?_
              exact T.ret1 rfl (ResIs.tmp rfl) fun w' hh => ⟨_, rfl, hh.below, (show _ from rfl)⟩

end Go.Proofs.Ytiaoncjkfgebdaa
