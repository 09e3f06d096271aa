/- The Go functions of group WRunBetween compute the pure functions of that group: written by walkgen.py. Condition of each: the pure function yields a result. -/
import Derived.Test.YtiaoncjkfgebdaaRunL
import Derived.Test.YtiaoncjkfgebdaaEqsL
import Derived.Test.YtiaoncjkfgebdaaWRunBetweenF
import Derived.Test.YtiaoncjkfgebdaaEqL
namespace Go.Proofs.Ytiaoncjkfgebdaa
set_option linter.unusedVariables false

set_option maxRecDepth 100000 in
set_option maxHeartbeats 4000000 in
theorem annalkeep_RunBetween_l (F : Nat) (p0 : (List DElem)) (p1 : DKey) (p2 : DKey) (p3 : Int) (r : Bool) (hF : annalkeep_RunBetween F p0 p1 p2 p3 = some r) (w : World) (A1 : Option Addr) (c1 : Nat) (hs1 : SlOk (vw w) eElem A1 c1 p0) :
    Calls Try.prog 3 #[.slice A1 p0.length c1, .agg #[.int .i64 p1.pfs, .int .i64 p1.obj, .int .i64 p1.off], .agg #[.int .i64 p2.pfs, .int .i64 p2.obj, .int .i64 p2.off], .int .i64 p3] w (Post (vSc eBool) r w) := by
  unfold annalkeep_RunBetween at hF
  refine T.start (l := [.slice A1 p0.length c1, .agg #[.int .i64 p1.pfs, .int .i64 p1.obj, .int .i64 p1.off], .agg #[.int .i64 p2.pfs, .int .i64 p2.obj, .int .i64 p2.off], .int .i64 p3]) Try.func3 rfl rfl rfl ?_
  refine T.seq ?_
  refine T.region ?_
  refine T.step (W1.new 24 [.int .i64 p1.pfs, .int .i64 p1.obj, .int .i64 p1.off] (fun b => .pointer (some ⟨b, 0, none⟩)) (by kernel_rfl) (fun _ => by kernel_rfl) (fun b1 => ?_))
  refine T.step (W1.new 24 [.int .i64 p2.pfs, .int .i64 p2.obj, .int .i64 p2.off] (fun b => .pointer (some ⟨b, 0, none⟩)) (by kernel_rfl) (fun _ => by kernel_rfl) (fun b2 => ?_))
  refine T.pure (.bool false) (by kernel_rfl) (fun _ => by kernel_rfl) ?_
  refine T.nil ?_
  refine T.seq ?_
  refine T.region ?_
  refine T.pure (.agg #[.int .i64 0, .int .i64 0, .int .i64 0, .int .i64 2, .int .i64 5, .string (ByteArray.mk #[])]) (by kernel_rfl) (fun _ => by kernel_rfl) ?_
  refine T.step (W1.new 26 [.int .i64 0, .int .i64 0, .int .i64 0, .int .i64 2, .int .i64 5, .string (ByteArray.mk #[])] (fun b => .slice (some ⟨b, 0, none⟩) 1 1) (by kernel_rfl) (fun _ => by kernel_rfl) (fun b3 => ?_))
  refine T.pure (.slice (some ⟨b3, 0, none⟩) 1 1) (by kernel_rfl) (fun _ => by kernel_rfl) ?_
  refine T.nil ?_
  refine T.seq ?_
  refine T.seq ?_
  refine T.region ?_
  refine T.pure (.slice (some ⟨b3, 0, none⟩) 1 1) (by kernel_rfl) (fun _ => by kernel_rfl) ?_
  obtain ⟨r1, hb1, hF⟩ := Option.bind_eq_some_iff.1 hF
  refine T.step (W1.call (vT2 (vSc eInt) (vSc eInt)) r1 27 #[.slice (some ⟨b3, 0, none⟩) 1 1] (by kernel_rfl) (fun _ => by kernel_rfl) (fun w' hh => run_Last_l F [(DElem.mk (DKey.mk 0 0 0) 2 5 (ByteArray.mk #[]))] r1 hb1 w' (some ⟨b3, 0, none⟩) 1 (slok_lit (E := eElem) (f := DElem.cells) [(DElem.mk (DKey.mk 0 0 0) 2 5 (ByteArray.mk #[]))] (fun _ _ => rfl) (Nat.le_of_ble_eq_true (by rfl)) (fun j => hh.cellBox (i := 0) (by rfl) j))) ?_)
  intro u V1 hV1 hu
  obtain rfl := (Sure.t2 sureInt sureInt) _ _ _ hu
  refine T.pure (.tuple #[.int .i64 r1.1, .int .i64 r1.2]) (by kernel_rfl) (fun _ => by kernel_rfl) ?_
  refine T.pure (.int .i64 r1.1) (by kernel_rfl) (fun _ => by kernel_rfl) ?_
  refine T.pure (.int .i64 r1.2) (by kernel_rfl) (fun _ => by kernel_rfl) ?_
  refine T.pure (.int .i64 r1.1) (by kernel_rfl) (fun _ => by kernel_rfl) ?_
  refine T.pure (.int .i64 r1.2) (by kernel_rfl) (fun _ => by kernel_rfl) ?_
  refine T.nil ?_
  refine T.cut (fun a w' => Fr 148 [(0, .slice A1 p0.length c1), (3, .int .i64 p3), (5, .pointer (some ⟨b1, 0, none⟩)), (6, .pointer (some ⟨b2, 0, none⟩)), (9, .slice (some ⟨b3, 0, none⟩) 1 1), (40, .bool ((r1.1 != 5) || (r1.2 != 0)))] a ∧ Hp w V1 [box b3 26 [.int .i64 0, .int .i64 0, .int .i64 0, .int .i64 2, .int .i64 5, .string (ByteArray.mk #[])], box b2 24 [.int .i64 p2.pfs, .int .i64 p2.obj, .int .i64 p2.off], box b1 24 [.int .i64 p1.pfs, .int .i64 p1.obj, .int .i64 p1.off]] w') ?_ ?_
  ·
    refine T.region ?_
    refine T.pure (.int .i64 r1.1) (by kernel_rfl) (fun _ => by kernel_rfl) ?_
    refine T.pure (.bool (r1.1 != 5)) (by kernel_rfl) (fun _ => by kernel_rfl) ?_
    refine T.pure (.bool (r1.1 != 5)) (by kernel_rfl) (fun _ => by kernel_rfl) ?_
    cases hg1 : (r1.1 != 5)
    ·
      skip
      refine T.pure (.int .i64 r1.2) (by kernel_rfl) (fun _ => by kernel_rfl) ?_
      refine T.pure (.bool (r1.2 != 0)) (by kernel_rfl) (fun _ => by kernel_rfl) ?_
      refine T.pure (.bool (r1.2 != 0)) (by kernel_rfl) (fun _ => by kernel_rfl) ?_
      refine T.nil ?_
      exact fun a w' hf hh => And.intro (((((((Fr.nil hf).pick hf 40 rfl).pick hf 9 rfl).pick hf 6 rfl).pick hf 5 rfl).pick hf 3 rfl).pick hf 0 rfl) (hh.sub (.cons_cons _ (.cons_cons _ (.cons_cons _ List.Sublist.slnil))))
    ·
      skip
      refine T.pass (by kernel_rfl) (by kernel_rfl) ?_
      refine T.pass (by kernel_rfl) (by kernel_rfl) ?_
      refine T.pure (.bool true) (by kernel_rfl) (fun _ => by kernel_rfl) ?_
      refine T.nil ?_
      exact fun a w' hf hh => And.intro (((((((Fr.nil hf).pick hf 40 rfl).pick hf 9 rfl).pick hf 6 rfl).pick hf 5 rfl).pick hf 3 rfl).pick hf 0 rfl) (hh.sub (.cons_cons _ (.cons_cons _ (.cons_cons _ List.Sublist.slnil))))
  ·
    rintro a w' ⟨hf, hh⟩
    refine (?_ : T 148 w V1 [box b3 26 [.int .i64 0, .int .i64 0, .int .i64 0, .int .i64 2, .int .i64 5, .string (ByteArray.mk #[])], box b2 24 [.int .i64 p2.pfs, .int .i64 p2.obj, .int .i64 p2.off], box b1 24 [.int .i64 p1.pfs, .int .i64 p1.obj, .int .i64 p1.off]] [(0, .slice A1 p0.length c1), (3, .int .i64 p3), (5, .pointer (some ⟨b1, 0, none⟩)), (6, .pointer (some ⟨b2, 0, none⟩)), (9, .slice (some ⟨b3, 0, none⟩) 1 1), (40, .bool ((r1.1 != 5) || (r1.2 != 0)))] _) a w' hf hh
    clear hf hh
    refine T.cond ((r1.1 != 5) || (r1.2 != 0)) (by kernel_rfl) (by kernel_rfl) (fun hc1 => ?_) (fun hc1 => ?_)
    ·
      rw [hc1, cond_true] at hF
      refine T.seq ?_
      refine T.region ?_
      refine T.pure (.bool false) (by kernel_rfl) (fun _ => by kernel_rfl) ?_
      refine T.nil ?_
      cases hF
      refine T.ret rfl ?_
      exact T.ret1 rfl (ResIs.tmp rfl) fun w' hh => ⟨_, rfl, hh.below, (show _ from rfl)⟩
    ·
      rw [hc1, cond_false] at hF
      refine T.skip_code ?_
      refine T.seq ?_
      refine T.seq ?_
      refine T.region ?_
      refine T.pure (.slice (some ⟨b3, 0, none⟩) 1 1) (by kernel_rfl) (fun _ => by kernel_rfl) ?_
      refine T.pure (.agg #[.int .i64 0, .int .i64 0, .int .i64 0]) (by kernel_rfl) (fun _ => by kernel_rfl) ?_
      refine T.pure (.agg #[.int .i64 0, .int .i64 0, .int .i64 0]) (by kernel_rfl) (fun _ => by kernel_rfl) ?_
      obtain ⟨r2, hb2, hF⟩ := Option.bind_eq_some_iff.1 hF
      refine T.step (W1.call (vT2 (vSc (eList eElem)) (vSc eInt)) r2 28 #[.slice (some ⟨b3, 0, none⟩) 1 1, .agg #[.int .i64 0, .int .i64 0, .int .i64 0], .agg #[.int .i64 0, .int .i64 0, .int .i64 0], .int .i64 4] (by kernel_rfl) (fun _ => by kernel_rfl) (fun w' hh => run_Range_l F [(DElem.mk (DKey.mk 0 0 0) 2 5 (ByteArray.mk #[]))] (DKey.mk 0 0 0) (DKey.mk 0 0 0) 4 r2 hb2 w' (some ⟨b3, 0, none⟩) 1 (slok_lit (E := eElem) (f := DElem.cells) [(DElem.mk (DKey.mk 0 0 0) 2 5 (ByteArray.mk #[]))] (fun _ _ => rfl) (Nat.le_of_ble_eq_true (by rfl)) (fun j => hh.cellBox (i := 0) (by rfl) j))) ?_)
      intro u V2 hV2 hu
      obtain ⟨u1, u2, rfl, hu1, hu2⟩ := vT2_elim hu
      obtain ⟨A2, c2, rfl, hs2⟩ := vlist_elim hu1
      obtain rfl := sureInt _ _ _ hu2
      refine T.pure (.tuple #[.slice A2 r2.1.length c2, .int .i64 r2.2]) (by kernel_rfl) (fun _ => by kernel_rfl) ?_
      refine T.pure (.slice A2 r2.1.length c2) (by kernel_rfl) (fun _ => by kernel_rfl) ?_
      refine T.pure (.int .i64 r2.2) (by kernel_rfl) (fun _ => by kernel_rfl) ?_
      refine T.pure (.slice A2 r2.1.length c2) (by kernel_rfl) (fun _ => by kernel_rfl) ?_
      refine T.pure (.int .i64 r2.2) (by kernel_rfl) (fun _ => by kernel_rfl) ?_
      refine T.nil ?_
      refine T.cut (fun a w' => Fr 148 [(0, .slice A1 p0.length c1), (3, .int .i64 p3), (5, .pointer (some ⟨b1, 0, none⟩)), (6, .pointer (some ⟨b2, 0, none⟩)), (54, .bool ((r2.2 != 0) || ((r2.1.length : Int) != 1)))] a ∧ Hp w V2 [box b2 24 [.int .i64 p2.pfs, .int .i64 p2.obj, .int .i64 p2.off], box b1 24 [.int .i64 p1.pfs, .int .i64 p1.obj, .int .i64 p1.off]] w') ?_ ?_
      ·
        refine T.region ?_
        refine T.pure (.int .i64 r2.2) (by kernel_rfl) (fun _ => by kernel_rfl) ?_
        refine T.pure (.bool (r2.2 != 0)) (by kernel_rfl) (fun _ => by kernel_rfl) ?_
        refine T.pure (.bool (r2.2 != 0)) (by kernel_rfl) (fun _ => by kernel_rfl) ?_
        cases hg2 : (r2.2 != 0)
        ·
          skip
          refine T.pure (.slice A2 r2.1.length c2) (by kernel_rfl) (fun _ => by kernel_rfl) ?_
          refine T.pure (.int .i64 (r2.1.length : Int)) (by kernel_rfl) (fun _ => by kernel_rfl) ?_
          refine T.pure (.bool ((r2.1.length : Int) != 1)) (by kernel_rfl) (fun _ => by kernel_rfl) ?_
          refine T.pure (.bool ((r2.1.length : Int) != 1)) (by kernel_rfl) (fun _ => by kernel_rfl) ?_
          refine T.nil ?_
          exact fun a w' hf hh => And.intro ((((((Fr.nil hf).pick hf 54 rfl).pick hf 6 rfl).pick hf 5 rfl).pick hf 3 rfl).pick hf 0 rfl) (hh.sub (.cons _ (.cons_cons _ (.cons_cons _ List.Sublist.slnil))))
        ·
          skip
          refine T.pass (by kernel_rfl) (by kernel_rfl) ?_
          refine T.pass (by kernel_rfl) (by kernel_rfl) ?_
          refine T.pass (by kernel_rfl) (by kernel_rfl) ?_
          refine T.pure (.bool true) (by kernel_rfl) (fun _ => by kernel_rfl) ?_
          refine T.nil ?_
          exact fun a w' hf hh => And.intro ((((((Fr.nil hf).pick hf 54 rfl).pick hf 6 rfl).pick hf 5 rfl).pick hf 3 rfl).pick hf 0 rfl) (hh.sub (.cons _ (.cons_cons _ (.cons_cons _ List.Sublist.slnil))))
      ·
        rintro a w' ⟨hf, hh⟩
        refine (?_ : T 148 w V2 [box b2 24 [.int .i64 p2.pfs, .int .i64 p2.obj, .int .i64 p2.off], box b1 24 [.int .i64 p1.pfs, .int .i64 p1.obj, .int .i64 p1.off]] [(0, .slice A1 p0.length c1), (3, .int .i64 p3), (5, .pointer (some ⟨b1, 0, none⟩)), (6, .pointer (some ⟨b2, 0, none⟩)), (54, .bool ((r2.2 != 0) || ((r2.1.length : Int) != 1)))] _) a w' hf hh
        clear hf hh
        refine T.cond ((r2.2 != 0) || ((r2.1.length : Int) != 1)) (by kernel_rfl) (by kernel_rfl) (fun hc2 => ?_) (fun hc2 => ?_)
        ·
          rw [hc2, cond_true] at hF
          refine T.seq ?_
          refine T.region ?_
          refine T.pure (.bool false) (by kernel_rfl) (fun _ => by kernel_rfl) ?_
          refine T.nil ?_
          cases hF
          refine T.ret rfl ?_
          exact T.ret1 rfl (ResIs.tmp rfl) fun w' hh => ⟨_, rfl, hh.below, (show _ from rfl)⟩
        ·
          rw [hc2, cond_false] at hF
          refine T.skip_code ?_
          refine T.seq ?_
          refine T.region ?_
          refine T.pure (.slice A1 p0.length c1) (by kernel_rfl) (fun _ => by kernel_rfl) ?_
          refine T.look (.agg #[.int .i64 p1.pfs, .int .i64 p1.obj, .int .i64 p1.off]) (by kernel_rfl) (fun w' hh => exec_loadN (cs := [.int .i64 p1.pfs, .int .i64 p1.obj, .int .i64 p1.off]) rfl rfl (by kernel_rfl) (by kernel_rfl) (fun j u hj => (hh.box_at (i := 1) (cs := [.int .i64 p1.pfs, .int .i64 p1.obj, .int .i64 p1.off]) (by rfl) 0 j).trans (seg_at (n := 3) rfl hj))) ?_
          refine T.look (.agg #[.int .i64 p2.pfs, .int .i64 p2.obj, .int .i64 p2.off]) (by kernel_rfl) (fun w' hh => exec_loadN (cs := [.int .i64 p2.pfs, .int .i64 p2.obj, .int .i64 p2.off]) rfl rfl (by kernel_rfl) (by kernel_rfl) (fun j u hj => (hh.box_at (i := 0) (cs := [.int .i64 p2.pfs, .int .i64 p2.obj, .int .i64 p2.off]) (by rfl) 0 j).trans (seg_at (n := 3) rfl hj))) ?_
          refine T.pure (.int .i64 p3) (by kernel_rfl) (fun _ => by kernel_rfl) ?_
          obtain ⟨r3, hb3, hF⟩ := Option.bind_eq_some_iff.1 hF
          refine T.step (W1.call (vT2 (vSc (eList eElem)) (vSc eInt)) r3 28 #[.slice A1 p0.length c1, .agg #[.int .i64 p1.pfs, .int .i64 p1.obj, .int .i64 p1.off], .agg #[.int .i64 p2.pfs, .int .i64 p2.obj, .int .i64 p2.off], .int .i64 p3] (by kernel_rfl) (fun _ => by kernel_rfl) (fun w' hh => run_Range_l F p0 p1 p2 p3 r3 hb3 w' A1 c1 (SlOk.mono (SlOk.mono hs1 (View.le_trans hV1 hV2)) hh.view)) ?_)
          intro u V3 hV3 hu
          obtain ⟨u3, u4, rfl, hu3, hu4⟩ := vT2_elim hu
          obtain ⟨A3, c3, rfl, hs3⟩ := vlist_elim hu3
          obtain rfl := sureInt _ _ _ hu4
          refine T.pure (.tuple #[.slice A3 r3.1.length c3, .int .i64 r3.2]) (by kernel_rfl) (fun _ => by kernel_rfl) ?_
          refine T.pure (.slice A3 r3.1.length c3) (by kernel_rfl) (fun _ => by kernel_rfl) ?_
          refine T.pure (.int .i64 r3.2) (by kernel_rfl) (fun _ => by kernel_rfl) ?_
          refine T.pure (.slice A3 r3.1.length c3) (by kernel_rfl) (fun _ => by kernel_rfl) ?_
          refine T.pure (.int .i64 r3.2) (by kernel_rfl) (fun _ => by kernel_rfl) ?_
          refine T.nil ?_
          refine T.seq ?_
          refine T.seq ?_
          refine T.region ?_
          refine T.pure (.int .i64 r3.2) (by kernel_rfl) (fun _ => by kernel_rfl) ?_
          refine T.pure (.bool (r3.2 != 0)) (by kernel_rfl) (fun _ => by kernel_rfl) ?_
          refine T.nil ?_
          refine T.cond (r3.2 != 0) (by kernel_rfl) (by kernel_rfl) (fun hc3 => ?_) (fun hc3 => ?_)
          ·
            rw [hc3, cond_true] at hF
            refine T.seq ?_
            refine T.region ?_
            refine T.pure (.slice A3 r3.1.length c3) (by kernel_rfl) (fun _ => by kernel_rfl) ?_
            refine T.pure (.int .i64 (r3.1.length : Int)) (by kernel_rfl) (fun _ => by kernel_rfl) ?_
            refine T.pure (.bool ((r3.1.length : Int) == 0)) (by kernel_rfl) (fun _ => by kernel_rfl) ?_
            refine T.pure (.bool ((r3.1.length : Int) == 0)) (by kernel_rfl) (fun _ => by kernel_rfl) ?_
            refine T.nil ?_
            cases hF
            refine T.ret rfl ?_
            exact T.ret1 rfl (ResIs.tmp rfl) fun w' hh => ⟨_, rfl, hh.below, (show _ from rfl)⟩
          ·
            rw [hc3, cond_false] at hF
            refine T.skip_code ?_
            refine T.seq ?_
            refine T.region ?_
            refine T.pure (.int .i64 2147483647) (by kernel_rfl) (fun _ => by kernel_rfl) ?_
            refine T.nil ?_
            refine T.seq ?_
            refine T.seq ?_
            refine T.region ?_
            refine T.pure (.slice A1 p0.length c1) (by kernel_rfl) (fun _ => by kernel_rfl) ?_
            refine T.pure (.int .i64 (p0.length : Int)) (by kernel_rfl) (fun _ => by kernel_rfl) ?_
            refine T.pure (.int .i64 0) (by kernel_rfl) (fun _ => by kernel_rfl) ?_
            refine T.nil ?_
            obtain ⟨z1, hz1, hF⟩ := Option.bind_eq_some_iff.1 hF
            refine T.mid (fun a w' => Fr 148 [(0, .slice A1 p0.length c1), (3, .int .i64 p3), (5, .pointer (some ⟨b1, 0, none⟩)), (6, .pointer (some ⟨b2, 0, none⟩)), (14, .slice A3 r3.1.length c3), (16, .int .i64 z1)] a ∧ Hp w V3 [box b2 24 [.int .i64 p2.pfs, .int .i64 p2.obj, .int .i64 p2.off], box b1 24 [.int .i64 p1.pfs, .int .i64 p1.obj, .int .i64 p1.off]] w') ?_ ?_
            ·
              refine T.block ?_
              refine T.iter (fun s1 a w' => ∃ (x1 : Int) (x2 : Int), s1 = (x1, x2) ∧ Fr 148 [(0, .slice A1 p0.length c1), (3, .int .i64 p3), (5, .pointer (some ⟨b1, 0, none⟩)), (6, .pointer (some ⟨b2, 0, none⟩)), (14, .slice A3 r3.1.length c3), (16, .int .i64 x1), (68, .slice A1 p0.length c1), (69, .int .i64 (p0.length : Int)), (70, .int .i64 x2)] a ∧ Hp w V3 [box b2 24 [.int .i64 p2.pfs, .int .i64 p2.obj, .int .i64 p2.off], box b1 24 [.int .i64 p1.pfs, .int .i64 p1.obj, .int .i64 p1.off]] w') hz1 ?_ ?_
              ·
                exact fun a w' hf hh => Exists.intro 2147483647 (Exists.intro 0 (And.intro rfl (And.intro ((((((((((Fr.nil hf).pick hf 70 rfl).pick hf 69 rfl).pick hf 68 rfl).pick hf 16 rfl).pick hf 14 rfl).pick hf 6 rfl).pick hf 5 rfl).pick hf 3 rfl).pick hf 0 rfl) (hh.sub (.cons_cons _ (.cons_cons _ List.Sublist.slnil))))))
              ·
                rintro s1 y1 hY1 hr1 a w' ⟨x1, x2, rfl, hf, hh⟩
                refine (?_ : T 148 w V3 [box b2 24 [.int .i64 p2.pfs, .int .i64 p2.obj, .int .i64 p2.off], box b1 24 [.int .i64 p1.pfs, .int .i64 p1.obj, .int .i64 p1.off]] [(0, .slice A1 p0.length c1), (3, .int .i64 p3), (5, .pointer (some ⟨b1, 0, none⟩)), (6, .pointer (some ⟨b2, 0, none⟩)), (14, .slice A3 r3.1.length c3), (16, .int .i64 x1), (68, .slice A1 p0.length c1), (69, .int .i64 (p0.length : Int)), (70, .int .i64 x2)] _) a w' hf hh
                clear hf hh
                try dsimp only at hY1
                refine T.seq ?_
                refine T.region ?_
                refine T.pure (.bool (decide (x2 < (p0.length : Int)))) (by kernel_rfl) (fun _ => by kernel_rfl) ?_
                refine T.nil ?_
                refine T.seq ?_
                refine T.cond (decide (x2 < (p0.length : Int))) (by kernel_rfl) (by kernel_rfl) (fun hc4 => ?_) (fun hc4 => ?_)
                ·
                  rw [hc4, cond_true] at hY1
                  refine T.skip_code ?_
                  refine T.seq ?_
                  refine T.block ?_
                  refine T.seq ?_
                  refine T.region ?_
                  obtain ⟨e1, hb4, hY1⟩ := Option.bind_eq_some_iff.1 hY1
                  obtain ⟨hi1, hi2, hi3⟩ := idx_some hb4
                  refine T.look (.pointer (some ((sadr A1).add (x2.toNat * 6)))) (by kernel_rfl) (fun w' hh => exec_indexAddr (e := 26) (s := 6) rfl rfl rfl (by kernel_rfl) (by kernel_rfl) hi1 hi2 ((SlOk.mono hs1 (View.le_trans (View.le_trans hV1 hV2) hV3)).some_ hi3 (by decide))) ?_
                  refine T.look (.agg #[.int .i64 e1.key.pfs, .int .i64 e1.key.obj, .int .i64 e1.key.off, .int .i64 e1.made, .int .i64 e1.gone, .string e1.val]) (by kernel_rfl) (fun w' hh => exec_loadN (cs := [.int .i64 e1.key.pfs, .int .i64 e1.key.obj, .int .i64 e1.key.off, .int .i64 e1.made, .int .i64 e1.gone, .string e1.val]) rfl rfl (by kernel_rfl) (by kernel_rfl) (fun j u hj => (hh.cell_view (SlOk.cellF (E := eElem) (SlOk.mono hs1 (View.le_trans (View.le_trans hV1 hV2) hV3)) hi3 j (fun _ _ _ h => h) hj)))) ?_
                  refine T.step (W1.new 26 [.int .i64 0, .int .i64 0, .int .i64 0, .int .i64 0, .int .i64 0, .string (ByteArray.mk #[])] (fun b => .pointer (some ⟨b, 0, none⟩)) (by kernel_rfl) (fun _ => by kernel_rfl) (fun b4 => ?_))
                  refine T.step (W1.store 0 [.int .i64 e1.key.pfs, .int .i64 e1.key.obj, .int .i64 e1.key.off, .int .i64 e1.made, .int .i64 e1.gone, .string e1.val] [box b4 26 [.int .i64 e1.key.pfs, .int .i64 e1.key.obj, .int .i64 e1.key.off, .int .i64 e1.made, .int .i64 e1.gone, .string e1.val], box b2 24 [.int .i64 p2.pfs, .int .i64 p2.obj, .int .i64 p2.off], box b1 24 [.int .i64 p1.pfs, .int .i64 p1.obj, .int .i64 p1.off]] (by rfl) rfl (by kernel_rfl) (fun w' hw => exec_store (vs := [.int .i64 e1.key.pfs, .int .i64 e1.key.obj, .int .i64 e1.key.off, .int .i64 e1.made, .int .i64 e1.gone, .string e1.val]) rfl rfl rfl rfl (by kernel_rfl) (one_of rfl) (by simp) rfl hw) ?_)
                  refine T.nil ?_
                  refine T.seq ?_
                  refine T.region ?_
                  refine T.pure (.pointer (some ⟨b4, 3, none⟩)) (by kernel_rfl) (fun _ => by kernel_rfl) ?_
                  refine T.look (.int .i64 e1.made) (by kernel_rfl) (fun w' hh => exec_load1 rfl rfl (by kernel_rfl) (hh.cellBox (i := 0) (by rfl) 3)) ?_
                  refine T.pure (.pointer (some ⟨b4, 4, none⟩)) (by kernel_rfl) (fun _ => by kernel_rfl) ?_
                  refine T.look (.int .i64 e1.gone) (by kernel_rfl) (fun w' hh => exec_load1 rfl rfl (by kernel_rfl) (hh.cellBox (i := 0) (by rfl) 4)) ?_
                  refine T.pure (.agg #[.int .i64 e1.made, .int .i64 e1.gone]) (by kernel_rfl) (fun _ => by kernel_rfl) ?_
                  refine T.pure (.int .i64 0) (by kernel_rfl) (fun _ => by kernel_rfl) ?_
                  refine T.nil ?_
                  refine T.block ?_
                  refine T.rounds 3 ?_
                  refine T.round ?_
                  refine T.seq ?_
                  refine T.region ?_
                  refine T.pure (.bool true) (by kernel_rfl) (fun _ => by kernel_rfl) ?_
                  refine T.nil ?_
                  refine T.seq ?_
                  refine T.cond true (by kernel_rfl) (by kernel_rfl) (fun _ => ?_) (fun h => Bool.noConfusion h)
                  refine T.skip_code ?_
                  obtain ⟨z2, hX1, hY1⟩ := Option.bind_eq_some_iff.1 hY1
                  refine T.cut (fun a w' => Fr 148 [(0, .slice A1 p0.length c1), (3, .int .i64 p3), (5, .pointer (some ⟨b1, 0, none⟩)), (6, .pointer (some ⟨b2, 0, none⟩)), (14, .slice A3 r3.1.length c3), (16, .int .i64 z2), (68, .slice A1 p0.length c1), (69, .int .i64 (p0.length : Int)), (70, .int .i64 x2), (78, .agg #[.int .i64 e1.made, .int .i64 e1.gone]), (79, .int .i64 0)] a ∧ Hp w V3 [box b2 24 [.int .i64 p2.pfs, .int .i64 p2.obj, .int .i64 p2.off], box b1 24 [.int .i64 p1.pfs, .int .i64 p1.obj, .int .i64 p1.off]] w') ?_ ?_
                  ·
                    refine T.block ?_
                    refine T.seq ?_
                    refine T.region ?_
                    refine T.pure (.int .i64 e1.made) (by kernel_rfl) (fun _ => by kernel_rfl) ?_
                    refine T.pure (.int .i64 e1.made) (by kernel_rfl) (fun _ => by kernel_rfl) ?_
                    refine T.nil ?_
                    refine T.cut (fun a w' => Fr 148 [(0, .slice A1 p0.length c1), (3, .int .i64 p3), (5, .pointer (some ⟨b1, 0, none⟩)), (6, .pointer (some ⟨b2, 0, none⟩)), (14, .slice A3 r3.1.length c3), (16, .int .i64 x1), (20, .int .i64 e1.made), (68, .slice A1 p0.length c1), (69, .int .i64 (p0.length : Int)), (70, .int .i64 x2), (78, .agg #[.int .i64 e1.made, .int .i64 e1.gone]), (79, .int .i64 0), (89, .bool ((decide (p3 < e1.made)) && (decide (e1.made < x1))))] a ∧ Hp w V3 [box b2 24 [.int .i64 p2.pfs, .int .i64 p2.obj, .int .i64 p2.off], box b1 24 [.int .i64 p1.pfs, .int .i64 p1.obj, .int .i64 p1.off]] w') ?_ ?_
                    ·
                      refine T.region ?_
                      refine T.pure (.int .i64 e1.made) (by kernel_rfl) (fun _ => by kernel_rfl) ?_
                      refine T.pure (.int .i64 p3) (by kernel_rfl) (fun _ => by kernel_rfl) ?_
                      refine T.pure (.bool (decide (p3 < e1.made))) (by kernel_rfl) (fun _ => by kernel_rfl) ?_
                      refine T.pure (.bool (decide (p3 < e1.made))) (by kernel_rfl) (fun _ => by kernel_rfl) ?_
                      cases hg3 : decide (p3 < e1.made)
                      ·
                        skip
                        refine T.pass (by kernel_rfl) (by kernel_rfl) ?_
                        refine T.pass (by kernel_rfl) (by kernel_rfl) ?_
                        refine T.pass (by kernel_rfl) (by kernel_rfl) ?_
                        refine T.pure (.bool false) (by kernel_rfl) (fun _ => by kernel_rfl) ?_
                        refine T.nil ?_
                        exact fun a w' hf hh => And.intro ((((((((((((((Fr.nil hf).pick hf 89 rfl).pick hf 79 rfl).pick hf 78 rfl).pick hf 70 rfl).pick hf 69 rfl).pick hf 68 rfl).pick hf 20 rfl).pick hf 16 rfl).pick hf 14 rfl).pick hf 6 rfl).pick hf 5 rfl).pick hf 3 rfl).pick hf 0 rfl) (hh.sub (.cons _ (.cons_cons _ (.cons_cons _ List.Sublist.slnil))))
                      ·
                        skip
                        refine T.pure (.int .i64 e1.made) (by kernel_rfl) (fun _ => by kernel_rfl) ?_
                        refine T.pure (.int .i64 x1) (by kernel_rfl) (fun _ => by kernel_rfl) ?_
                        refine T.pure (.bool (decide (e1.made < x1))) (by kernel_rfl) (fun _ => by kernel_rfl) ?_
                        refine T.pure (.bool (decide (e1.made < x1))) (by kernel_rfl) (fun _ => by kernel_rfl) ?_
                        refine T.nil ?_
                        exact fun a w' hf hh => And.intro ((((((((((((((Fr.nil hf).pick hf 89 rfl).pick hf 79 rfl).pick hf 78 rfl).pick hf 70 rfl).pick hf 69 rfl).pick hf 68 rfl).pick hf 20 rfl).pick hf 16 rfl).pick hf 14 rfl).pick hf 6 rfl).pick hf 5 rfl).pick hf 3 rfl).pick hf 0 rfl) (hh.sub (.cons _ (.cons_cons _ (.cons_cons _ List.Sublist.slnil))))
                    ·
                      rintro a w' ⟨hf, hh⟩
                      refine (?_ : T 148 w V3 [box b2 24 [.int .i64 p2.pfs, .int .i64 p2.obj, .int .i64 p2.off], box b1 24 [.int .i64 p1.pfs, .int .i64 p1.obj, .int .i64 p1.off]] [(0, .slice A1 p0.length c1), (3, .int .i64 p3), (5, .pointer (some ⟨b1, 0, none⟩)), (6, .pointer (some ⟨b2, 0, none⟩)), (14, .slice A3 r3.1.length c3), (16, .int .i64 x1), (20, .int .i64 e1.made), (68, .slice A1 p0.length c1), (69, .int .i64 (p0.length : Int)), (70, .int .i64 x2), (78, .agg #[.int .i64 e1.made, .int .i64 e1.gone]), (79, .int .i64 0), (89, .bool ((decide (p3 < e1.made)) && (decide (e1.made < x1))))] _) a w' hf hh
                      clear hf hh
                      refine T.cond ((decide (p3 < e1.made)) && (decide (e1.made < x1))) (by kernel_rfl) (by kernel_rfl) (fun hc5 => ?_) (fun hc5 => ?_)
                      ·
                        rw [hc5, cond_true] at hX1
                        refine T.region ?_
                        refine T.pure (.int .i64 e1.made) (by kernel_rfl) (fun _ => by kernel_rfl) ?_
                        refine T.pure (.int .i64 e1.made) (by kernel_rfl) (fun _ => by kernel_rfl) ?_
                        refine T.nil ?_
                        cases hX1
                        exact fun a w' hf hh => And.intro ((((((((((((Fr.nil hf).pick hf 79 rfl).pick hf 78 rfl).pick hf 70 rfl).pick hf 69 rfl).pick hf 68 rfl).pick hf 16 rfl).pick hf 14 rfl).pick hf 6 rfl).pick hf 5 rfl).pick hf 3 rfl).pick hf 0 rfl) (hh.sub (.cons_cons _ (.cons_cons _ List.Sublist.slnil)))
                      ·
                        rw [hc5, cond_false] at hX1
                        refine T.skip_code ?_
                        cases hX1
                        exact fun a w' hf hh => And.intro ((((((((((((Fr.nil hf).pick hf 79 rfl).pick hf 78 rfl).pick hf 70 rfl).pick hf 69 rfl).pick hf 68 rfl).pick hf 16 rfl).pick hf 14 rfl).pick hf 6 rfl).pick hf 5 rfl).pick hf 3 rfl).pick hf 0 rfl) (hh.sub (.cons_cons _ (.cons_cons _ List.Sublist.slnil)))
                  ·
                    rintro a w' ⟨hf, hh⟩
                    refine (?_ : T 148 w V3 [box b2 24 [.int .i64 p2.pfs, .int .i64 p2.obj, .int .i64 p2.off], box b1 24 [.int .i64 p1.pfs, .int .i64 p1.obj, .int .i64 p1.off]] [(0, .slice A1 p0.length c1), (3, .int .i64 p3), (5, .pointer (some ⟨b1, 0, none⟩)), (6, .pointer (some ⟨b2, 0, none⟩)), (14, .slice A3 r3.1.length c3), (16, .int .i64 z2), (68, .slice A1 p0.length c1), (69, .int .i64 (p0.length : Int)), (70, .int .i64 x2), (78, .agg #[.int .i64 e1.made, .int .i64 e1.gone]), (79, .int .i64 0)] _) a w' hf hh
                    clear hf hh
                    refine T.region ?_
                    refine T.pure (.int .i64 1) (by kernel_rfl) (fun _ => by kernel_rfl) ?_
                    refine T.pure (.int .i64 1) (by kernel_rfl) (fun _ => by kernel_rfl) ?_
                    refine T.nil ?_
                    refine T.round ?_
                    refine T.seq ?_
                    refine T.region ?_
                    refine T.pure (.bool true) (by kernel_rfl) (fun _ => by kernel_rfl) ?_
                    refine T.nil ?_
                    refine T.seq ?_
                    refine T.cond true (by kernel_rfl) (by kernel_rfl) (fun _ => ?_) (fun h => Bool.noConfusion h)
                    refine T.skip_code ?_
                    obtain ⟨z3, hX2, hY1⟩ := Option.bind_eq_some_iff.1 hY1
                    refine T.cut (fun a w' => Fr 148 [(0, .slice A1 p0.length c1), (3, .int .i64 p3), (5, .pointer (some ⟨b1, 0, none⟩)), (6, .pointer (some ⟨b2, 0, none⟩)), (14, .slice A3 r3.1.length c3), (16, .int .i64 z3), (68, .slice A1 p0.length c1), (69, .int .i64 (p0.length : Int)), (70, .int .i64 x2), (78, .agg #[.int .i64 e1.made, .int .i64 e1.gone]), (79, .int .i64 1)] a ∧ Hp w V3 [box b2 24 [.int .i64 p2.pfs, .int .i64 p2.obj, .int .i64 p2.off], box b1 24 [.int .i64 p1.pfs, .int .i64 p1.obj, .int .i64 p1.off]] w') ?_ ?_
                    ·
                      refine T.block ?_
                      refine T.seq ?_
                      refine T.region ?_
                      refine T.pure (.int .i64 e1.gone) (by kernel_rfl) (fun _ => by kernel_rfl) ?_
                      refine T.pure (.int .i64 e1.gone) (by kernel_rfl) (fun _ => by kernel_rfl) ?_
                      refine T.nil ?_
                      refine T.cut (fun a w' => Fr 148 [(0, .slice A1 p0.length c1), (3, .int .i64 p3), (5, .pointer (some ⟨b1, 0, none⟩)), (6, .pointer (some ⟨b2, 0, none⟩)), (14, .slice A3 r3.1.length c3), (16, .int .i64 z2), (20, .int .i64 e1.gone), (68, .slice A1 p0.length c1), (69, .int .i64 (p0.length : Int)), (70, .int .i64 x2), (78, .agg #[.int .i64 e1.made, .int .i64 e1.gone]), (79, .int .i64 1), (89, .bool ((decide (p3 < e1.gone)) && (decide (e1.gone < z2))))] a ∧ Hp w V3 [box b2 24 [.int .i64 p2.pfs, .int .i64 p2.obj, .int .i64 p2.off], box b1 24 [.int .i64 p1.pfs, .int .i64 p1.obj, .int .i64 p1.off]] w') ?_ ?_
                      ·
                        refine T.region ?_
                        refine T.pure (.int .i64 e1.gone) (by kernel_rfl) (fun _ => by kernel_rfl) ?_
                        refine T.pure (.int .i64 p3) (by kernel_rfl) (fun _ => by kernel_rfl) ?_
                        refine T.pure (.bool (decide (p3 < e1.gone))) (by kernel_rfl) (fun _ => by kernel_rfl) ?_
                        refine T.pure (.bool (decide (p3 < e1.gone))) (by kernel_rfl) (fun _ => by kernel_rfl) ?_
                        cases hg4 : decide (p3 < e1.gone)
                        ·
                          skip
                          refine T.pass (by kernel_rfl) (by kernel_rfl) ?_
                          refine T.pass (by kernel_rfl) (by kernel_rfl) ?_
                          refine T.pass (by kernel_rfl) (by kernel_rfl) ?_
                          refine T.pure (.bool false) (by kernel_rfl) (fun _ => by kernel_rfl) ?_
                          refine T.nil ?_
                          exact fun a w' hf hh => And.intro ((((((((((((((Fr.nil hf).pick hf 89 rfl).pick hf 79 rfl).pick hf 78 rfl).pick hf 70 rfl).pick hf 69 rfl).pick hf 68 rfl).pick hf 20 rfl).pick hf 16 rfl).pick hf 14 rfl).pick hf 6 rfl).pick hf 5 rfl).pick hf 3 rfl).pick hf 0 rfl) (hh.sub (.cons_cons _ (.cons_cons _ List.Sublist.slnil)))
                        ·
                          skip
                          refine T.pure (.int .i64 e1.gone) (by kernel_rfl) (fun _ => by kernel_rfl) ?_
                          refine T.pure (.int .i64 z2) (by kernel_rfl) (fun _ => by kernel_rfl) ?_
                          refine T.pure (.bool (decide (e1.gone < z2))) (by kernel_rfl) (fun _ => by kernel_rfl) ?_
                          refine T.pure (.bool (decide (e1.gone < z2))) (by kernel_rfl) (fun _ => by kernel_rfl) ?_
                          refine T.nil ?_
                          exact fun a w' hf hh => And.intro ((((((((((((((Fr.nil hf).pick hf 89 rfl).pick hf 79 rfl).pick hf 78 rfl).pick hf 70 rfl).pick hf 69 rfl).pick hf 68 rfl).pick hf 20 rfl).pick hf 16 rfl).pick hf 14 rfl).pick hf 6 rfl).pick hf 5 rfl).pick hf 3 rfl).pick hf 0 rfl) (hh.sub (.cons_cons _ (.cons_cons _ List.Sublist.slnil)))
                      ·
                        rintro a w' ⟨hf, hh⟩
                        refine (?_ : T 148 w V3 [box b2 24 [.int .i64 p2.pfs, .int .i64 p2.obj, .int .i64 p2.off], box b1 24 [.int .i64 p1.pfs, .int .i64 p1.obj, .int .i64 p1.off]] [(0, .slice A1 p0.length c1), (3, .int .i64 p3), (5, .pointer (some ⟨b1, 0, none⟩)), (6, .pointer (some ⟨b2, 0, none⟩)), (14, .slice A3 r3.1.length c3), (16, .int .i64 z2), (20, .int .i64 e1.gone), (68, .slice A1 p0.length c1), (69, .int .i64 (p0.length : Int)), (70, .int .i64 x2), (78, .agg #[.int .i64 e1.made, .int .i64 e1.gone]), (79, .int .i64 1), (89, .bool ((decide (p3 < e1.gone)) && (decide (e1.gone < z2))))] _) a w' hf hh
                        clear hf hh
                        refine T.cond ((decide (p3 < e1.gone)) && (decide (e1.gone < z2))) (by kernel_rfl) (by kernel_rfl) (fun hc6 => ?_) (fun hc6 => ?_)
                        ·
                          rw [hc6, cond_true] at hX2
                          refine T.region ?_
                          refine T.pure (.int .i64 e1.gone) (by kernel_rfl) (fun _ => by kernel_rfl) ?_
                          refine T.pure (.int .i64 e1.gone) (by kernel_rfl) (fun _ => by kernel_rfl) ?_
                          refine T.nil ?_
                          cases hX2
                          exact fun a w' hf hh => And.intro ((((((((((((Fr.nil hf).pick hf 79 rfl).pick hf 78 rfl).pick hf 70 rfl).pick hf 69 rfl).pick hf 68 rfl).pick hf 16 rfl).pick hf 14 rfl).pick hf 6 rfl).pick hf 5 rfl).pick hf 3 rfl).pick hf 0 rfl) (hh.sub (.cons_cons _ (.cons_cons _ List.Sublist.slnil)))
                        ·
                          rw [hc6, cond_false] at hX2
                          refine T.skip_code ?_
                          cases hX2
                          exact fun a w' hf hh => And.intro ((((((((((((Fr.nil hf).pick hf 79 rfl).pick hf 78 rfl).pick hf 70 rfl).pick hf 69 rfl).pick hf 68 rfl).pick hf 16 rfl).pick hf 14 rfl).pick hf 6 rfl).pick hf 5 rfl).pick hf 3 rfl).pick hf 0 rfl) (hh.sub (.cons_cons _ (.cons_cons _ List.Sublist.slnil)))
                    ·
                      rintro a w' ⟨hf, hh⟩
                      refine (?_ : T 148 w V3 [box b2 24 [.int .i64 p2.pfs, .int .i64 p2.obj, .int .i64 p2.off], box b1 24 [.int .i64 p1.pfs, .int .i64 p1.obj, .int .i64 p1.off]] [(0, .slice A1 p0.length c1), (3, .int .i64 p3), (5, .pointer (some ⟨b1, 0, none⟩)), (6, .pointer (some ⟨b2, 0, none⟩)), (14, .slice A3 r3.1.length c3), (16, .int .i64 z3), (68, .slice A1 p0.length c1), (69, .int .i64 (p0.length : Int)), (70, .int .i64 x2), (78, .agg #[.int .i64 e1.made, .int .i64 e1.gone]), (79, .int .i64 1)] _) a w' hf hh
                      clear hf hh
                      refine T.region ?_
                      refine T.pure (.int .i64 2) (by kernel_rfl) (fun _ => by kernel_rfl) ?_
                      refine T.pure (.int .i64 2) (by kernel_rfl) (fun _ => by kernel_rfl) ?_
                      refine T.nil ?_
                      refine T.round ?_
                      refine T.seq ?_
                      refine T.region ?_
                      refine T.pure (.bool false) (by kernel_rfl) (fun _ => by kernel_rfl) ?_
                      refine T.nil ?_
                      refine T.seq ?_
                      refine T.cond false (by kernel_rfl) (by kernel_rfl) (fun h => Bool.noConfusion h) (fun _ => ?_)
                      refine T.exit ?_
                      refine T.region ?_
                      refine T.pure (.int .i64 (IntKind.i64.wrap (x2 + 1))) (by kernel_rfl) (fun _ => by kernel_rfl) ?_
                      refine T.pure (.int .i64 (IntKind.i64.wrap (x2 + 1))) (by kernel_rfl) (fun _ => by kernel_rfl) ?_
                      refine T.nil ?_
                      cases hY1
                      exact fun a w' hf hh => Exists.intro (z3, IntKind.i64.wrap (x2 + 1)) (And.intro rfl (Exists.intro z3 (Exists.intro (IntKind.i64.wrap (x2 + 1)) (And.intro rfl (And.intro ((((((((((Fr.nil hf).pick hf 70 rfl).pick hf 69 rfl).pick hf 68 rfl).pick hf 16 rfl).pick hf 14 rfl).pick hf 6 rfl).pick hf 5 rfl).pick hf 3 rfl).pick hf 0 rfl) (hh.sub (.cons_cons _ (.cons_cons _ List.Sublist.slnil))))))))
                ·
                  rw [hc4, cond_false] at hY1
                  refine T.exit ?_
                  cases hY1
                  cases (hr1 _ rfl)
                  exact fun a w' hf hh => And.intro (((((((Fr.nil hf).pick hf 16 rfl).pick hf 14 rfl).pick hf 6 rfl).pick hf 5 rfl).pick hf 3 rfl).pick hf 0 rfl) (hh.sub (.cons_cons _ (.cons_cons _ List.Sublist.slnil)))
            ·
              rintro a w' ⟨hf, hh⟩
              refine (?_ : T 148 w V3 [box b2 24 [.int .i64 p2.pfs, .int .i64 p2.obj, .int .i64 p2.off], box b1 24 [.int .i64 p1.pfs, .int .i64 p1.obj, .int .i64 p1.off]] [(0, .slice A1 p0.length c1), (3, .int .i64 p3), (5, .pointer (some ⟨b1, 0, none⟩)), (6, .pointer (some ⟨b2, 0, none⟩)), (14, .slice A3 r3.1.length c3), (16, .int .i64 z1)] _) a w' hf hh
              clear hf hh
              refine T.seq ?_
              refine T.region ?_
              refine T.pure (.slice A1 p0.length c1) (by kernel_rfl) (fun _ => by kernel_rfl) ?_
              refine T.look (.agg #[.int .i64 p1.pfs, .int .i64 p1.obj, .int .i64 p1.off]) (by kernel_rfl) (fun w' hh => exec_loadN (cs := [.int .i64 p1.pfs, .int .i64 p1.obj, .int .i64 p1.off]) rfl rfl (by kernel_rfl) (by kernel_rfl) (fun j u hj => (hh.box_at (i := 1) (cs := [.int .i64 p1.pfs, .int .i64 p1.obj, .int .i64 p1.off]) (by rfl) 0 j).trans (seg_at (n := 3) rfl hj))) ?_
              refine T.look (.agg #[.int .i64 p2.pfs, .int .i64 p2.obj, .int .i64 p2.off]) (by kernel_rfl) (fun w' hh => exec_loadN (cs := [.int .i64 p2.pfs, .int .i64 p2.obj, .int .i64 p2.off]) rfl rfl (by kernel_rfl) (by kernel_rfl) (fun j u hj => (hh.box_at (i := 0) (cs := [.int .i64 p2.pfs, .int .i64 p2.obj, .int .i64 p2.off]) (by rfl) 0 j).trans (seg_at (n := 3) rfl hj))) ?_
              refine T.pure (.int .i64 p3) (by kernel_rfl) (fun _ => by kernel_rfl) ?_
              refine T.pure (.int .i64 z1) (by kernel_rfl) (fun _ => by kernel_rfl) ?_
              refine T.pure (.int .i64 (IntKind.i64.wrap (z1 - 1))) (by kernel_rfl) (fun _ => by kernel_rfl) ?_
              refine T.pure (.int .i64 (if p3 < (IntKind.i64.wrap (z1 - 1)) then IntKind.i64.wrap (z1 - 1) else p3)) (by kernel_rfl) (fun _ => by kernel_rfl) ?_
              obtain ⟨r4, hb5, hF⟩ := Option.bind_eq_some_iff.1 hF
              refine T.step (W1.call (vT2 (vSc (eList eElem)) (vSc eInt)) r4 28 #[.slice A1 p0.length c1, .agg #[.int .i64 p1.pfs, .int .i64 p1.obj, .int .i64 p1.off], .agg #[.int .i64 p2.pfs, .int .i64 p2.obj, .int .i64 p2.off], .int .i64 (if p3 < (IntKind.i64.wrap (z1 - 1)) then IntKind.i64.wrap (z1 - 1) else p3)] (by kernel_rfl) (fun _ => by kernel_rfl) (fun w' hh => run_Range_l F p0 p1 p2 (if p3 < (IntKind.i64.wrap (z1 - 1)) then IntKind.i64.wrap (z1 - 1) else p3) r4 hb5 w' A1 c1 (SlOk.mono (SlOk.mono hs1 (View.le_trans (View.le_trans hV1 hV2) hV3)) hh.view)) ?_)
              intro u V4 hV4 hu
              obtain ⟨u5, u6, rfl, hu5, hu6⟩ := vT2_elim hu
              obtain ⟨A4, c4, rfl, hs4⟩ := vlist_elim hu5
              obtain rfl := sureInt _ _ _ hu6
              refine T.pure (.tuple #[.slice A4 r4.1.length c4, .int .i64 r4.2]) (by kernel_rfl) (fun _ => by kernel_rfl) ?_
              refine T.pure (.slice A4 r4.1.length c4) (by kernel_rfl) (fun _ => by kernel_rfl) ?_
              refine T.pure (.int .i64 r4.2) (by kernel_rfl) (fun _ => by kernel_rfl) ?_
              refine T.pure (.slice A4 r4.1.length c4) (by kernel_rfl) (fun _ => by kernel_rfl) ?_
              refine T.pure (.int .i64 r4.2) (by kernel_rfl) (fun _ => by kernel_rfl) ?_
              refine T.nil ?_
              refine T.seq ?_
              refine T.region ?_
              refine T.pure (.slice A1 p0.length c1) (by kernel_rfl) (fun _ => by kernel_rfl) ?_
              obtain ⟨r5, hb6, hF⟩ := Option.bind_eq_some_iff.1 hF
              refine T.step (W1.call (vT2 (vSc eInt) (vSc eInt)) r5 27 #[.slice A1 p0.length c1] (by kernel_rfl) (fun _ => by kernel_rfl) (fun w' hh => run_Last_l F p0 r5 hb6 w' A1 c1 (SlOk.mono (SlOk.mono hs1 (View.le_trans (View.le_trans (View.le_trans hV1 hV2) hV3) hV4)) hh.view)) ?_)
              intro u V5 hV5 hu
              obtain rfl := (Sure.t2 sureInt sureInt) _ _ _ hu
              refine T.pure (.tuple #[.int .i64 r5.1, .int .i64 r5.2]) (by kernel_rfl) (fun _ => by kernel_rfl) ?_
              refine T.pure (.int .i64 r5.1) (by kernel_rfl) (fun _ => by kernel_rfl) ?_
              refine T.pure (.int .i64 r5.2) (by kernel_rfl) (fun _ => by kernel_rfl) ?_
              refine T.pure (.int .i64 r5.1) (by kernel_rfl) (fun _ => by kernel_rfl) ?_
              refine T.pure (.int .i64 r5.2) (by kernel_rfl) (fun _ => by kernel_rfl) ?_
              refine T.nil ?_
              refine T.seq ?_
              refine T.region ?_
              refine T.pure (.slice A1 p0.length c1) (by kernel_rfl) (fun _ => by kernel_rfl) ?_
              refine T.look (.agg #[.int .i64 p1.pfs, .int .i64 p1.obj, .int .i64 p1.off]) (by kernel_rfl) (fun w' hh => exec_loadN (cs := [.int .i64 p1.pfs, .int .i64 p1.obj, .int .i64 p1.off]) rfl rfl (by kernel_rfl) (by kernel_rfl) (fun j u hj => (hh.box_at (i := 1) (cs := [.int .i64 p1.pfs, .int .i64 p1.obj, .int .i64 p1.off]) (by rfl) 0 j).trans (seg_at (n := 3) rfl hj))) ?_
              refine T.look (.agg #[.int .i64 p2.pfs, .int .i64 p2.obj, .int .i64 p2.off]) (by kernel_rfl) (fun w' hh => exec_loadN (cs := [.int .i64 p2.pfs, .int .i64 p2.obj, .int .i64 p2.off]) rfl rfl (by kernel_rfl) (by kernel_rfl) (fun j u hj => (hh.box_at (i := 0) (cs := [.int .i64 p2.pfs, .int .i64 p2.obj, .int .i64 p2.off]) (by rfl) 0 j).trans (seg_at (n := 3) rfl hj))) ?_
              refine T.pure (.int .i64 r5.1) (by kernel_rfl) (fun _ => by kernel_rfl) ?_
              obtain ⟨r6, hb7, hF⟩ := Option.bind_eq_some_iff.1 hF
              refine T.step (W1.call (vT2 (vSc (eList eElem)) (vSc eInt)) r6 28 #[.slice A1 p0.length c1, .agg #[.int .i64 p1.pfs, .int .i64 p1.obj, .int .i64 p1.off], .agg #[.int .i64 p2.pfs, .int .i64 p2.obj, .int .i64 p2.off], .int .i64 r5.1] (by kernel_rfl) (fun _ => by kernel_rfl) (fun w' hh => run_Range_l F p0 p1 p2 r5.1 r6 hb7 w' A1 c1 (SlOk.mono (SlOk.mono hs1 (View.le_trans (View.le_trans (View.le_trans (View.le_trans hV1 hV2) hV3) hV4) hV5)) hh.view)) ?_)
              intro u V6 hV6 hu
              obtain ⟨u7, u8, rfl, hu7, hu8⟩ := vT2_elim hu
              obtain ⟨A5, c5, rfl, hs5⟩ := vlist_elim hu7
              obtain rfl := sureInt _ _ _ hu8
              refine T.pure (.tuple #[.slice A5 r6.1.length c5, .int .i64 r6.2]) (by kernel_rfl) (fun _ => by kernel_rfl) ?_
              refine T.pure (.slice A5 r6.1.length c5) (by kernel_rfl) (fun _ => by kernel_rfl) ?_
              refine T.pure (.int .i64 r6.2) (by kernel_rfl) (fun _ => by kernel_rfl) ?_
              refine T.pure (.slice A5 r6.1.length c5) (by kernel_rfl) (fun _ => by kernel_rfl) ?_
              refine T.pure (.int .i64 r6.2) (by kernel_rfl) (fun _ => by kernel_rfl) ?_
              refine T.nil ?_
              refine T.seq ?_
              refine T.region ?_
              refine T.pure (.slice A1 p0.length c1) (by kernel_rfl) (fun _ => by kernel_rfl) ?_
              refine T.look (.agg #[.int .i64 p1.pfs, .int .i64 p1.obj, .int .i64 p1.off]) (by kernel_rfl) (fun w' hh => exec_loadN (cs := [.int .i64 p1.pfs, .int .i64 p1.obj, .int .i64 p1.off]) rfl rfl (by kernel_rfl) (by kernel_rfl) (fun j u hj => (hh.box_at (i := 1) (cs := [.int .i64 p1.pfs, .int .i64 p1.obj, .int .i64 p1.off]) (by rfl) 0 j).trans (seg_at (n := 3) rfl hj))) ?_
              refine T.look (.agg #[.int .i64 p2.pfs, .int .i64 p2.obj, .int .i64 p2.off]) (by kernel_rfl) (fun w' hh => exec_loadN (cs := [.int .i64 p2.pfs, .int .i64 p2.obj, .int .i64 p2.off]) rfl rfl (by kernel_rfl) (by kernel_rfl) (fun j u hj => (hh.box_at (i := 0) (cs := [.int .i64 p2.pfs, .int .i64 p2.obj, .int .i64 p2.off]) (by rfl) 0 j).trans (seg_at (n := 3) rfl hj))) ?_
              obtain ⟨r7, hb8, hF⟩ := Option.bind_eq_some_iff.1 hF
              refine T.step (W1.call (vT2 (vSc (eList eElem)) (vSc eInt)) r7 28 #[.slice A1 p0.length c1, .agg #[.int .i64 p1.pfs, .int .i64 p1.obj, .int .i64 p1.off], .agg #[.int .i64 p2.pfs, .int .i64 p2.obj, .int .i64 p2.off], .int .i64 2147483647] (by kernel_rfl) (fun _ => by kernel_rfl) (fun w' hh => run_Range_l F p0 p1 p2 2147483647 r7 hb8 w' A1 c1 (SlOk.mono (SlOk.mono hs1 (View.le_trans (View.le_trans (View.le_trans (View.le_trans (View.le_trans hV1 hV2) hV3) hV4) hV5) hV6)) hh.view)) ?_)
              intro u V7 hV7 hu
              obtain ⟨u9, u10, rfl, hu9, hu10⟩ := vT2_elim hu
              obtain ⟨A6, c6, rfl, hs6⟩ := vlist_elim hu9
              obtain rfl := sureInt _ _ _ hu10
              refine T.pure (.tuple #[.slice A6 r7.1.length c6, .int .i64 r7.2]) (by kernel_rfl) (fun _ => by kernel_rfl) ?_
              refine T.pure (.slice A6 r7.1.length c6) (by kernel_rfl) (fun _ => by kernel_rfl) ?_
              refine T.pure (.int .i64 r7.2) (by kernel_rfl) (fun _ => by kernel_rfl) ?_
              refine T.pure (.slice A6 r7.1.length c6) (by kernel_rfl) (fun _ => by kernel_rfl) ?_
              refine T.pure (.int .i64 r7.2) (by kernel_rfl) (fun _ => by kernel_rfl) ?_
              refine T.nil ?_
              obtain ⟨z4, hX3, hF⟩ := Option.bind_eq_some_iff.1 hF
              refine T.cut (fun a w' => ∃ (V8 : View), View.le V7 V8 ∧ Fr 148 [(8, .bool z4)] a ∧ Hp w V8 [] w') ?_ ?_
              ·
                refine T.region ?_
                refine T.pure (.int .i64 r4.2) (by kernel_rfl) (fun _ => by kernel_rfl) ?_
                refine T.pure (.bool (r4.2 == 0)) (by kernel_rfl) (fun _ => by kernel_rfl) ?_
                refine T.pure (.bool (r4.2 == 0)) (by kernel_rfl) (fun _ => by kernel_rfl) ?_
                cases hg5 : (r4.2 == 0)
                ·
                  skip
                  rw [hg5, cond_false] at hX3
                  refine T.pass (by kernel_rfl) (by kernel_rfl) ?_
                  refine T.pass (by kernel_rfl) (by kernel_rfl) ?_
                  refine T.pure (.bool false) (by kernel_rfl) (fun _ => by kernel_rfl) ?_
                  refine T.pure (.bool false) (by kernel_rfl) (fun _ => by kernel_rfl) ?_
                  refine T.pass (by kernel_rfl) (by kernel_rfl) ?_
                  refine T.pass (by kernel_rfl) (by kernel_rfl) ?_
                  refine T.pure (.bool false) (by kernel_rfl) (fun _ => by kernel_rfl) ?_
                  refine T.pure (.bool false) (by kernel_rfl) (fun _ => by kernel_rfl) ?_
                  refine T.pass (by kernel_rfl) (by kernel_rfl) ?_
                  refine T.pass (by kernel_rfl) (by kernel_rfl) ?_
                  refine T.pure (.bool false) (by kernel_rfl) (fun _ => by kernel_rfl) ?_
                  refine T.pure (.bool false) (by kernel_rfl) (fun _ => by kernel_rfl) ?_
                  refine T.pass (by kernel_rfl) (by kernel_rfl) ?_
                  refine T.pass (by kernel_rfl) (by kernel_rfl) ?_
                  refine T.pass (by kernel_rfl) (by kernel_rfl) ?_
                  refine T.pure (.bool false) (by kernel_rfl) (fun _ => by kernel_rfl) ?_
                  refine T.pure (.bool false) (by kernel_rfl) (fun _ => by kernel_rfl) ?_
                  refine T.pass (by kernel_rfl) (by kernel_rfl) ?_
                  refine T.pass (by kernel_rfl) (by kernel_rfl) ?_
                  refine T.pass (by kernel_rfl) (by kernel_rfl) ?_
                  refine T.pure (.bool false) (by kernel_rfl) (fun _ => by kernel_rfl) ?_
                  refine T.pure (.bool false) (by kernel_rfl) (fun _ => by kernel_rfl) ?_
                  refine T.nil ?_
                  cases hX3
                  exact fun a w' hf hh => Exists.intro V7 (And.intro (View.le_refl _) (And.intro ((Fr.nil hf).pick hf 8 rfl) (hh.sub (.cons _ (.cons _ List.Sublist.slnil)))))
                ·
                  skip
                  rw [hg5, cond_true] at hX3
                  refine T.pure (.int .i64 r5.2) (by kernel_rfl) (fun _ => by kernel_rfl) ?_
                  refine T.pure (.bool (r5.2 == 0)) (by kernel_rfl) (fun _ => by kernel_rfl) ?_
                  refine T.pure (.bool (r5.2 == 0)) (by kernel_rfl) (fun _ => by kernel_rfl) ?_
                  refine T.pure (.bool (r5.2 == 0)) (by kernel_rfl) (fun _ => by kernel_rfl) ?_
                  cases hg6 : (r5.2 == 0)
                  ·
                    skip
                    rw [hg6, cond_false] at hX3
                    refine T.pass (by kernel_rfl) (by kernel_rfl) ?_
                    refine T.pass (by kernel_rfl) (by kernel_rfl) ?_
                    refine T.pure (.bool false) (by kernel_rfl) (fun _ => by kernel_rfl) ?_
                    refine T.pure (.bool false) (by kernel_rfl) (fun _ => by kernel_rfl) ?_
                    refine T.pass (by kernel_rfl) (by kernel_rfl) ?_
                    refine T.pass (by kernel_rfl) (by kernel_rfl) ?_
                    refine T.pure (.bool false) (by kernel_rfl) (fun _ => by kernel_rfl) ?_
                    refine T.pure (.bool false) (by kernel_rfl) (fun _ => by kernel_rfl) ?_
                    refine T.pass (by kernel_rfl) (by kernel_rfl) ?_
                    refine T.pass (by kernel_rfl) (by kernel_rfl) ?_
                    refine T.pass (by kernel_rfl) (by kernel_rfl) ?_
                    refine T.pure (.bool false) (by kernel_rfl) (fun _ => by kernel_rfl) ?_
                    refine T.pure (.bool false) (by kernel_rfl) (fun _ => by kernel_rfl) ?_
                    refine T.pass (by kernel_rfl) (by kernel_rfl) ?_
                    refine T.pass (by kernel_rfl) (by kernel_rfl) ?_
                    refine T.pass (by kernel_rfl) (by kernel_rfl) ?_
                    refine T.pure (.bool false) (by kernel_rfl) (fun _ => by kernel_rfl) ?_
                    refine T.pure (.bool false) (by kernel_rfl) (fun _ => by kernel_rfl) ?_
                    refine T.nil ?_
                    cases hX3
                    exact fun a w' hf hh => Exists.intro V7 (And.intro (View.le_refl _) (And.intro ((Fr.nil hf).pick hf 8 rfl) (hh.sub (.cons _ (.cons _ List.Sublist.slnil)))))
                  ·
                    skip
                    rw [hg6, cond_true] at hX3
                    refine T.pure (.int .i64 r6.2) (by kernel_rfl) (fun _ => by kernel_rfl) ?_
                    refine T.pure (.bool (r6.2 == 0)) (by kernel_rfl) (fun _ => by kernel_rfl) ?_
                    refine T.pure (.bool (r6.2 == 0)) (by kernel_rfl) (fun _ => by kernel_rfl) ?_
                    refine T.pure (.bool (r6.2 == 0)) (by kernel_rfl) (fun _ => by kernel_rfl) ?_
                    cases hg7 : (r6.2 == 0)
                    ·
                      skip
                      rw [hg7, cond_false] at hX3
                      refine T.pass (by kernel_rfl) (by kernel_rfl) ?_
                      refine T.pass (by kernel_rfl) (by kernel_rfl) ?_
                      refine T.pure (.bool false) (by kernel_rfl) (fun _ => by kernel_rfl) ?_
                      refine T.pure (.bool false) (by kernel_rfl) (fun _ => by kernel_rfl) ?_
                      refine T.pass (by kernel_rfl) (by kernel_rfl) ?_
                      refine T.pass (by kernel_rfl) (by kernel_rfl) ?_
                      refine T.pass (by kernel_rfl) (by kernel_rfl) ?_
                      refine T.pure (.bool false) (by kernel_rfl) (fun _ => by kernel_rfl) ?_
                      refine T.pure (.bool false) (by kernel_rfl) (fun _ => by kernel_rfl) ?_
                      refine T.pass (by kernel_rfl) (by kernel_rfl) ?_
                      refine T.pass (by kernel_rfl) (by kernel_rfl) ?_
                      refine T.pass (by kernel_rfl) (by kernel_rfl) ?_
                      refine T.pure (.bool false) (by kernel_rfl) (fun _ => by kernel_rfl) ?_
                      refine T.pure (.bool false) (by kernel_rfl) (fun _ => by kernel_rfl) ?_
                      refine T.nil ?_
                      cases hX3
                      exact fun a w' hf hh => Exists.intro V7 (And.intro (View.le_refl _) (And.intro ((Fr.nil hf).pick hf 8 rfl) (hh.sub (.cons _ (.cons _ List.Sublist.slnil)))))
                    ·
                      skip
                      rw [hg7, cond_true] at hX3
                      refine T.pure (.int .i64 r7.2) (by kernel_rfl) (fun _ => by kernel_rfl) ?_
                      refine T.pure (.bool (r7.2 == 0)) (by kernel_rfl) (fun _ => by kernel_rfl) ?_
                      refine T.pure (.bool (r7.2 == 0)) (by kernel_rfl) (fun _ => by kernel_rfl) ?_
                      refine T.pure (.bool (r7.2 == 0)) (by kernel_rfl) (fun _ => by kernel_rfl) ?_
                      cases hg8 : (r7.2 == 0)
                      ·
                        skip
                        rw [hg8, cond_false] at hX3
                        refine T.pass (by kernel_rfl) (by kernel_rfl) ?_
                        refine T.pass (by kernel_rfl) (by kernel_rfl) ?_
                        refine T.pass (by kernel_rfl) (by kernel_rfl) ?_
                        refine T.pure (.bool false) (by kernel_rfl) (fun _ => by kernel_rfl) ?_
                        refine T.pure (.bool false) (by kernel_rfl) (fun _ => by kernel_rfl) ?_
                        refine T.pass (by kernel_rfl) (by kernel_rfl) ?_
                        refine T.pass (by kernel_rfl) (by kernel_rfl) ?_
                        refine T.pass (by kernel_rfl) (by kernel_rfl) ?_
                        refine T.pure (.bool false) (by kernel_rfl) (fun _ => by kernel_rfl) ?_
                        refine T.pure (.bool false) (by kernel_rfl) (fun _ => by kernel_rfl) ?_
                        refine T.nil ?_
                        cases hX3
                        exact fun a w' hf hh => Exists.intro V7 (And.intro (View.le_refl _) (And.intro ((Fr.nil hf).pick hf 8 rfl) (hh.sub (.cons _ (.cons _ List.Sublist.slnil)))))
                      ·
                        skip
                        rw [hg8, cond_true] at hX3
                        refine T.pure (.slice A3 r3.1.length c3) (by kernel_rfl) (fun _ => by kernel_rfl) ?_
                        refine T.pure (.slice A4 r4.1.length c4) (by kernel_rfl) (fun _ => by kernel_rfl) ?_
                        obtain ⟨r8, hb9, hX3⟩ := Option.bind_eq_some_iff.1 hX3
                        refine T.step (W1.call (vSc eBool) r8 29 #[.slice A3 r3.1.length c3, .slice A4 r4.1.length c4] (by kernel_rfl) (fun _ => by kernel_rfl) (fun w' hh => slices_Equal_Elem_l F r3.1 r4.1 r8 hb9 w' A3 c3 (SlOk.mono (SlOk.mono hs3 (View.le_trans (made_le _ _) (View.le_trans (View.le_trans (View.le_trans hV4 hV5) hV6) hV7))) hh.view) A4 c4 (SlOk.mono (SlOk.mono hs4 (View.le_trans (made_le _ _) (View.le_trans (View.le_trans hV5 hV6) hV7))) hh.view)) ?_)
                        intro u V9 hV9 hu
                        obtain rfl := sureBool _ _ _ hu
                        refine T.pure (.bool r8) (by kernel_rfl) (fun _ => by kernel_rfl) ?_
                        refine T.pure (.bool r8) (by kernel_rfl) (fun _ => by kernel_rfl) ?_
                        cases hg9 : r8
                        ·
                          skip
                          rw [hg9, cond_false] at hX3
                          refine T.pass (by kernel_rfl) (by kernel_rfl) ?_
                          refine T.pass (by kernel_rfl) (by kernel_rfl) ?_
                          refine T.pass (by kernel_rfl) (by kernel_rfl) ?_
                          refine T.pure (.bool false) (by kernel_rfl) (fun _ => by kernel_rfl) ?_
                          refine T.pure (.bool false) (by kernel_rfl) (fun _ => by kernel_rfl) ?_
                          refine T.nil ?_
                          cases hX3
                          exact fun a w' hf hh => Exists.intro V9 (And.intro hV9 (And.intro ((Fr.nil hf).pick hf 8 rfl) (hh.sub (.cons _ (.cons _ List.Sublist.slnil)))))
                        ·
                          skip
                          rw [hg9, cond_true] at hX3
                          refine T.pure (.slice A5 r6.1.length c5) (by kernel_rfl) (fun _ => by kernel_rfl) ?_
                          refine T.pure (.slice A6 r7.1.length c6) (by kernel_rfl) (fun _ => by kernel_rfl) ?_
                          obtain ⟨r9, hb10, hX3⟩ := Option.bind_eq_some_iff.1 hX3
                          refine T.step (W1.call (vSc eBool) r9 29 #[.slice A5 r6.1.length c5, .slice A6 r7.1.length c6] (by kernel_rfl) (fun _ => by kernel_rfl) (fun w' hh => slices_Equal_Elem_l F r6.1 r7.1 r9 hb10 w' A5 c5 (SlOk.mono (SlOk.mono hs5 (View.le_trans (made_le _ _) (View.le_trans hV7 hV9))) hh.view) A6 c6 (SlOk.mono (SlOk.mono hs6 (View.le_trans (made_le _ _) hV9)) hh.view)) ?_)
                          intro u V10 hV10 hu
                          obtain rfl := sureBool _ _ _ hu
                          refine T.pure (.bool r9) (by kernel_rfl) (fun _ => by kernel_rfl) ?_
                          refine T.pure (.bool r9) (by kernel_rfl) (fun _ => by kernel_rfl) ?_
                          refine T.nil ?_
                          cases hX3
                          exact fun a w' hf hh => Exists.intro V10 (And.intro (View.le_trans hV9 hV10) (And.intro ((Fr.nil hf).pick hf 8 rfl) (hh.sub (.cons _ (.cons _ List.Sublist.slnil)))))
              ·
                rintro a w' ⟨V8, hV8, hf, hh⟩
                refine (?_ : T 148 w V8 [] [(8, .bool z4)] _) a w' hf hh
                clear hf hh
                cases hF
                refine T.ret rfl ?_
                exact T.ret1 rfl (ResIs.tmp rfl) fun w' hh => ⟨_, rfl, hh.below, (show _ from rfl)⟩

end Go.Proofs.Ytiaoncjkfgebdaa
