/- The Go functions of group WPruneReads compute the pure functions of that group: written by walkgen.py. Condition of each: the pure function yields a result. -/
import Derived.Test.YtiaoncjkfgebdaaPruneL
import Derived.Test.YtiaoncjkfgebdaaEqsL
import Derived.Test.YtiaoncjkfgebdaaClear
import Derived.Test.YtiaoncjkfgebdaaWPruneReadsF
import Derived.Test.YtiaoncjkfgebdaaEqL
namespace Go.Proofs.Ytiaoncjkfgebdaa
set_option linter.unusedVariables false

set_option maxRecDepth 100000 in
set_option maxHeartbeats 4000000 in
theorem annalkeep_PruneReads_l (F : Nat) (p0 : (List DElem)) (p1 : (List Int)) (p2 : Int) (p3 : DKey) (p4 : DKey) (p5 : DKey) (r : Bool) (hF : annalkeep_PruneReads F p0 p1 p2 p3 p4 p5 = some r) (w : World) (A1 : Option Addr) (c1 : Nat) (hs1 : SlOk (vw w) eElem A1 c1 p0) (A2 : Option Addr) (c2 : Nat) (hs2 : SlOk (vw w) eInt A2 c2 p1) :
    Calls Try.prog 15 #[.slice A1 p0.length c1, .slice A2 p1.length c2, .int .i64 p2, .agg #[.int .i64 p3.pfs, .int .i64 p3.obj, .int .i64 p3.off], .agg #[.int .i64 p4.pfs, .int .i64 p4.obj, .int .i64 p4.off], .agg #[.int .i64 p5.pfs, .int .i64 p5.obj, .int .i64 p5.off]] w (Post (vSc eBool) r w) := by
  unfold annalkeep_PruneReads at hF
  refine T.start (l := [.slice A1 p0.length c1, .slice A2 p1.length c2, .int .i64 p2, .agg #[.int .i64 p3.pfs, .int .i64 p3.obj, .int .i64 p3.off], .agg #[.int .i64 p4.pfs, .int .i64 p4.obj, .int .i64 p4.off], .agg #[.int .i64 p5.pfs, .int .i64 p5.obj, .int .i64 p5.off]]) Try.func15 rfl rfl rfl ?_
  refine T.seq ?_
  refine T.region ?_
  refine T.step (W1.new 24 [.int .i64 p3.pfs, .int .i64 p3.obj, .int .i64 p3.off] (fun b => .pointer (some ⟨b, 0, none⟩)) (by kernel_rfl) (fun _ => by kernel_rfl) (fun b1 => ?_))
  refine T.step (W1.new 24 [.int .i64 p4.pfs, .int .i64 p4.obj, .int .i64 p4.off] (fun b => .pointer (some ⟨b, 0, none⟩)) (by kernel_rfl) (fun _ => by kernel_rfl) (fun b2 => ?_))
  refine T.step (W1.new 24 [.int .i64 p5.pfs, .int .i64 p5.obj, .int .i64 p5.off] (fun b => .pointer (some ⟨b, 0, none⟩)) (by kernel_rfl) (fun _ => by kernel_rfl) (fun b3 => ?_))
  refine T.pure (.bool false) (by kernel_rfl) (fun _ => by kernel_rfl) ?_
  refine T.nil ?_
  refine T.seq ?_
  refine T.region ?_
  refine T.pure (.agg #[.int .i64 0, .int .i64 0, .int .i64 1]) (by kernel_rfl) (fun _ => by kernel_rfl) ?_
  refine T.pure (.agg #[.int .i64 0, .int .i64 0, .int .i64 1, .int .i64 1, .int .i64 3, .string (ByteArray.mk #[])]) (by kernel_rfl) (fun _ => by kernel_rfl) ?_
  refine T.step (W1.new 26 [.int .i64 0, .int .i64 0, .int .i64 0, .int .i64 0, .int .i64 0, .string (ByteArray.mk #[])] (fun b => .pointer (some ⟨b, 0, none⟩)) (by kernel_rfl) (fun _ => by kernel_rfl) (fun b4 => ?_))
  refine T.step (W1.store 0 [.int .i64 0, .int .i64 0, .int .i64 1, .int .i64 1, .int .i64 3, .string (ByteArray.mk #[])] [box b4 26 [.int .i64 0, .int .i64 0, .int .i64 1, .int .i64 1, .int .i64 3, .string (ByteArray.mk #[])], box b3 24 [.int .i64 p5.pfs, .int .i64 p5.obj, .int .i64 p5.off], box b2 24 [.int .i64 p4.pfs, .int .i64 p4.obj, .int .i64 p4.off], box b1 24 [.int .i64 p3.pfs, .int .i64 p3.obj, .int .i64 p3.off]] (by rfl) rfl (by kernel_rfl) (fun w' hw => exec_store (vs := [.int .i64 0, .int .i64 0, .int .i64 1, .int .i64 1, .int .i64 3, .string (ByteArray.mk #[])]) rfl rfl rfl rfl (by kernel_rfl) (one_of rfl) (by simp) rfl hw) ?_)
  refine T.nil ?_
  refine T.seq ?_
  refine T.seq ?_
  refine T.region ?_
  refine T.look (.agg #[.int .i64 0, .int .i64 0, .int .i64 1, .int .i64 1, .int .i64 3, .string (ByteArray.mk #[])]) (by kernel_rfl) (fun w' hh => exec_loadN (cs := [.int .i64 0, .int .i64 0, .int .i64 1, .int .i64 1, .int .i64 3, .string (ByteArray.mk #[])]) rfl rfl (by kernel_rfl) (by kernel_rfl) (fun j u hj => (hh.box_at (i := 0) (cs := [.int .i64 0, .int .i64 0, .int .i64 1, .int .i64 1, .int .i64 3, .string (ByteArray.mk #[])]) (by rfl) 0 j).trans (seg_at (n := 6) rfl hj))) ?_
  refine T.step (W1.new 26 [.int .i64 0, .int .i64 0, .int .i64 1, .int .i64 1, .int .i64 3, .string (ByteArray.mk #[])] (fun b => .slice (some ⟨b, 0, none⟩) 1 1) (by kernel_rfl) (fun _ => by kernel_rfl) (fun b5 => ?_))
  refine T.step (W1.new 3 [.int .i64 2] (fun b => .slice (some ⟨b, 0, none⟩) 1 1) (by kernel_rfl) (fun _ => by kernel_rfl) (fun b6 => ?_))
  obtain ⟨r1, hb1, hF⟩ := Option.bind_eq_some_iff.1 hF
  refine T.step (W1.call (vT2 (vSc (eList eElem)) (vSc eInt)) r1 39 #[.slice (some ⟨b5, 0, none⟩) 1 1, .slice (some ⟨b6, 0, none⟩) 1 1] (by kernel_rfl) (fun _ => by kernel_rfl) (fun w' hh => prune_Kept_l F [(DElem.mk (DKey.mk 0 0 1) 1 3 (ByteArray.mk #[]))] [2] r1 hb1 w' (some ⟨b5, 0, none⟩) 1 (slok_lit (E := eElem) (f := DElem.cells) [(DElem.mk (DKey.mk 0 0 1) 1 3 (ByteArray.mk #[]))] (fun _ _ => rfl) (Nat.le_of_ble_eq_true (by rfl)) (fun j => hh.cellBox (i := 1) (by rfl) j)) (some ⟨b6, 0, none⟩) 1 (slok_lit (E := eInt) (f := (fun x => [.int .i64 x])) [2] (fun _ _ => rfl) (Nat.le_of_ble_eq_true (by rfl)) (fun j => hh.cellBox (i := 0) (by rfl) j))) ?_)
  intro u V1 hV1 hu
  obtain ⟨u1, u2, rfl, hu1, hu2⟩ := vT2_elim hu
  obtain ⟨A3, c3, rfl, hs3⟩ := vlist_elim hu1
  obtain rfl := sureInt _ _ _ hu2
  refine T.pure (.tuple #[.slice A3 r1.1.length c3, .int .i64 r1.2]) (by kernel_rfl) (fun _ => by kernel_rfl) ?_
  refine T.pure (.slice A3 r1.1.length c3) (by kernel_rfl) (fun _ => by kernel_rfl) ?_
  refine T.pure (.int .i64 r1.2) (by kernel_rfl) (fun _ => by kernel_rfl) ?_
  refine T.pure (.slice A3 r1.1.length c3) (by kernel_rfl) (fun _ => by kernel_rfl) ?_
  refine T.pure (.int .i64 r1.2) (by kernel_rfl) (fun _ => by kernel_rfl) ?_
  refine T.nil ?_
  refine T.cut (fun a w' => Fr 168 [(0, .slice A1 p0.length c1), (1, .slice A2 p1.length c2), (2, .int .i64 p2), (9, .pointer (some ⟨b1, 0, none⟩)), (10, .pointer (some ⟨b2, 0, none⟩)), (11, .pointer (some ⟨b3, 0, none⟩)), (13, .pointer (some ⟨b4, 0, none⟩)), (47, .bool ((r1.2 != 0) || ((r1.1.length : Int) != 1)))] a ∧ Hp w V1 [box b4 26 [.int .i64 0, .int .i64 0, .int .i64 1, .int .i64 1, .int .i64 3, .string (ByteArray.mk #[])], box b3 24 [.int .i64 p5.pfs, .int .i64 p5.obj, .int .i64 p5.off], box b2 24 [.int .i64 p4.pfs, .int .i64 p4.obj, .int .i64 p4.off], box b1 24 [.int .i64 p3.pfs, .int .i64 p3.obj, .int .i64 p3.off]] w') ?_ ?_
  ·
    refine T.region ?_
    refine T.pure (.int .i64 r1.2) (by kernel_rfl) (fun _ => by kernel_rfl) ?_
    refine T.pure (.bool (r1.2 != 0)) (by kernel_rfl) (fun _ => by kernel_rfl) ?_
    refine T.pure (.bool (r1.2 != 0)) (by kernel_rfl) (fun _ => by kernel_rfl) ?_
    cases hg1 : (r1.2 != 0)
    ·
      skip
      refine T.pure (.slice A3 r1.1.length c3) (by kernel_rfl) (fun _ => by kernel_rfl) ?_
      refine T.pure (.int .i64 (r1.1.length : Int)) (by kernel_rfl) (fun _ => by kernel_rfl) ?_
      refine T.pure (.bool ((r1.1.length : Int) != 1)) (by kernel_rfl) (fun _ => by kernel_rfl) ?_
      refine T.pure (.bool ((r1.1.length : Int) != 1)) (by kernel_rfl) (fun _ => by kernel_rfl) ?_
      refine T.nil ?_
      exact fun a w' hf hh => And.intro (((((((((Fr.nil hf).pick hf 47 rfl).pick hf 13 rfl).pick hf 11 rfl).pick hf 10 rfl).pick hf 9 rfl).pick hf 2 rfl).pick hf 1 rfl).pick hf 0 rfl) (hh.sub (.cons _ (.cons _ (.cons_cons _ (.cons_cons _ (.cons_cons _ (.cons_cons _ List.Sublist.slnil)))))))
    ·
      skip
      refine T.pass (by kernel_rfl) (by kernel_rfl) ?_
      refine T.pass (by kernel_rfl) (by kernel_rfl) ?_
      refine T.pass (by kernel_rfl) (by kernel_rfl) ?_
      refine T.pure (.bool true) (by kernel_rfl) (fun _ => by kernel_rfl) ?_
      refine T.nil ?_
      exact fun a w' hf hh => And.intro (((((((((Fr.nil hf).pick hf 47 rfl).pick hf 13 rfl).pick hf 11 rfl).pick hf 10 rfl).pick hf 9 rfl).pick hf 2 rfl).pick hf 1 rfl).pick hf 0 rfl) (hh.sub (.cons _ (.cons _ (.cons_cons _ (.cons_cons _ (.cons_cons _ (.cons_cons _ List.Sublist.slnil)))))))
  ·
    rintro a w' ⟨hf, hh⟩
    refine (?_ : T 168 w V1 [box b4 26 [.int .i64 0, .int .i64 0, .int .i64 1, .int .i64 1, .int .i64 3, .string (ByteArray.mk #[])], box b3 24 [.int .i64 p5.pfs, .int .i64 p5.obj, .int .i64 p5.off], box b2 24 [.int .i64 p4.pfs, .int .i64 p4.obj, .int .i64 p4.off], box b1 24 [.int .i64 p3.pfs, .int .i64 p3.obj, .int .i64 p3.off]] [(0, .slice A1 p0.length c1), (1, .slice A2 p1.length c2), (2, .int .i64 p2), (9, .pointer (some ⟨b1, 0, none⟩)), (10, .pointer (some ⟨b2, 0, none⟩)), (11, .pointer (some ⟨b3, 0, none⟩)), (13, .pointer (some ⟨b4, 0, none⟩)), (47, .bool ((r1.2 != 0) || ((r1.1.length : Int) != 1)))] _) a w' hf hh
    clear hf hh
    refine T.cond ((r1.2 != 0) || ((r1.1.length : Int) != 1)) (by kernel_rfl) (by kernel_rfl) (fun hc1 => ?_) (fun hc1 => ?_)
    ·
      rw [hc1, cond_true] at hF
      refine T.seq ?_
      refine T.region ?_
      refine T.pure (.bool false) (by kernel_rfl) (fun _ => by kernel_rfl) ?_
      refine T.nil ?_
      cases hF
      refine T.ret rfl ?_
      exact T.ret1 rfl (ResIs.tmp rfl) fun w' hh => ⟨_, rfl, hh.below, (show _ from rfl)⟩
    ·
      rw [hc1, cond_false] at hF
      refine T.skip_code ?_
      refine T.seq ?_
      refine T.seq ?_
      refine T.region ?_
      refine T.look (.agg #[.int .i64 0, .int .i64 0, .int .i64 1, .int .i64 1, .int .i64 3, .string (ByteArray.mk #[])]) (by kernel_rfl) (fun w' hh => exec_loadN (cs := [.int .i64 0, .int .i64 0, .int .i64 1, .int .i64 1, .int .i64 3, .string (ByteArray.mk #[])]) rfl rfl (by kernel_rfl) (by kernel_rfl) (fun j u hj => (hh.box_at (i := 0) (cs := [.int .i64 0, .int .i64 0, .int .i64 1, .int .i64 1, .int .i64 3, .string (ByteArray.mk #[])]) (by rfl) 0 j).trans (seg_at (n := 6) rfl hj))) ?_
      refine T.step (W1.new 26 [.int .i64 0, .int .i64 0, .int .i64 1, .int .i64 1, .int .i64 3, .string (ByteArray.mk #[])] (fun b => .slice (some ⟨b, 0, none⟩) 1 1) (by kernel_rfl) (fun _ => by kernel_rfl) (fun b7 => ?_))
      refine T.step (W1.new 3 [.int .i64 3] (fun b => .slice (some ⟨b, 0, none⟩) 1 1) (by kernel_rfl) (fun _ => by kernel_rfl) (fun b8 => ?_))
      obtain ⟨r2, hb2, hF⟩ := Option.bind_eq_some_iff.1 hF
      refine T.step (W1.call (vT2 (vSc (eList eElem)) (vSc eInt)) r2 39 #[.slice (some ⟨b7, 0, none⟩) 1 1, .slice (some ⟨b8, 0, none⟩) 1 1] (by kernel_rfl) (fun _ => by kernel_rfl) (fun w' hh => prune_Kept_l F [(DElem.mk (DKey.mk 0 0 1) 1 3 (ByteArray.mk #[]))] [3] r2 hb2 w' (some ⟨b7, 0, none⟩) 1 (slok_lit (E := eElem) (f := DElem.cells) [(DElem.mk (DKey.mk 0 0 1) 1 3 (ByteArray.mk #[]))] (fun _ _ => rfl) (Nat.le_of_ble_eq_true (by rfl)) (fun j => hh.cellBox (i := 1) (by rfl) j)) (some ⟨b8, 0, none⟩) 1 (slok_lit (E := eInt) (f := (fun x => [.int .i64 x])) [3] (fun _ _ => rfl) (Nat.le_of_ble_eq_true (by rfl)) (fun j => hh.cellBox (i := 0) (by rfl) j))) ?_)
      intro u V2 hV2 hu
      obtain ⟨u3, u4, rfl, hu3, hu4⟩ := vT2_elim hu
      obtain ⟨A4, c4, rfl, hs4⟩ := vlist_elim hu3
      obtain rfl := sureInt _ _ _ hu4
      refine T.pure (.tuple #[.slice A4 r2.1.length c4, .int .i64 r2.2]) (by kernel_rfl) (fun _ => by kernel_rfl) ?_
      refine T.pure (.slice A4 r2.1.length c4) (by kernel_rfl) (fun _ => by kernel_rfl) ?_
      refine T.pure (.int .i64 r2.2) (by kernel_rfl) (fun _ => by kernel_rfl) ?_
      refine T.pure (.slice A4 r2.1.length c4) (by kernel_rfl) (fun _ => by kernel_rfl) ?_
      refine T.pure (.int .i64 r2.2) (by kernel_rfl) (fun _ => by kernel_rfl) ?_
      refine T.nil ?_
      refine T.cut (fun a w' => Fr 168 [(0, .slice A1 p0.length c1), (1, .slice A2 p1.length c2), (2, .int .i64 p2), (9, .pointer (some ⟨b1, 0, none⟩)), (10, .pointer (some ⟨b2, 0, none⟩)), (11, .pointer (some ⟨b3, 0, none⟩)), (61, .bool ((r2.2 != 0) || ((r2.1.length : Int) != 0)))] a ∧ Hp w V2 [box b3 24 [.int .i64 p5.pfs, .int .i64 p5.obj, .int .i64 p5.off], box b2 24 [.int .i64 p4.pfs, .int .i64 p4.obj, .int .i64 p4.off], box b1 24 [.int .i64 p3.pfs, .int .i64 p3.obj, .int .i64 p3.off]] w') ?_ ?_
      ·
        refine T.region ?_
        refine T.pure (.int .i64 r2.2) (by kernel_rfl) (fun _ => by kernel_rfl) ?_
        refine T.pure (.bool (r2.2 != 0)) (by kernel_rfl) (fun _ => by kernel_rfl) ?_
        refine T.pure (.bool (r2.2 != 0)) (by kernel_rfl) (fun _ => by kernel_rfl) ?_
        cases hg2 : (r2.2 != 0)
        ·
          skip
          refine T.pure (.slice A4 r2.1.length c4) (by kernel_rfl) (fun _ => by kernel_rfl) ?_
          refine T.pure (.int .i64 (r2.1.length : Int)) (by kernel_rfl) (fun _ => by kernel_rfl) ?_
          refine T.pure (.bool ((r2.1.length : Int) != 0)) (by kernel_rfl) (fun _ => by kernel_rfl) ?_
          refine T.pure (.bool ((r2.1.length : Int) != 0)) (by kernel_rfl) (fun _ => by kernel_rfl) ?_
          refine T.nil ?_
          exact fun a w' hf hh => And.intro ((((((((Fr.nil hf).pick hf 61 rfl).pick hf 11 rfl).pick hf 10 rfl).pick hf 9 rfl).pick hf 2 rfl).pick hf 1 rfl).pick hf 0 rfl) (hh.sub (.cons _ (.cons _ (.cons _ (.cons_cons _ (.cons_cons _ (.cons_cons _ List.Sublist.slnil)))))))
        ·
          skip
          refine T.pass (by kernel_rfl) (by kernel_rfl) ?_
          refine T.pass (by kernel_rfl) (by kernel_rfl) ?_
          refine T.pass (by kernel_rfl) (by kernel_rfl) ?_
          refine T.pure (.bool true) (by kernel_rfl) (fun _ => by kernel_rfl) ?_
          refine T.nil ?_
          exact fun a w' hf hh => And.intro ((((((((Fr.nil hf).pick hf 61 rfl).pick hf 11 rfl).pick hf 10 rfl).pick hf 9 rfl).pick hf 2 rfl).pick hf 1 rfl).pick hf 0 rfl) (hh.sub (.cons _ (.cons _ (.cons _ (.cons_cons _ (.cons_cons _ (.cons_cons _ List.Sublist.slnil)))))))
      ·
        rintro a w' ⟨hf, hh⟩
        refine (?_ : T 168 w V2 [box b3 24 [.int .i64 p5.pfs, .int .i64 p5.obj, .int .i64 p5.off], box b2 24 [.int .i64 p4.pfs, .int .i64 p4.obj, .int .i64 p4.off], box b1 24 [.int .i64 p3.pfs, .int .i64 p3.obj, .int .i64 p3.off]] [(0, .slice A1 p0.length c1), (1, .slice A2 p1.length c2), (2, .int .i64 p2), (9, .pointer (some ⟨b1, 0, none⟩)), (10, .pointer (some ⟨b2, 0, none⟩)), (11, .pointer (some ⟨b3, 0, none⟩)), (61, .bool ((r2.2 != 0) || ((r2.1.length : Int) != 0)))] _) a w' hf hh
        clear hf hh
        refine T.cond ((r2.2 != 0) || ((r2.1.length : Int) != 0)) (by kernel_rfl) (by kernel_rfl) (fun hc2 => ?_) (fun hc2 => ?_)
        ·
          rw [hc2, cond_true] at hF
          refine T.seq ?_
          refine T.region ?_
          refine T.pure (.bool false) (by kernel_rfl) (fun _ => by kernel_rfl) ?_
          refine T.nil ?_
          cases hF
          refine T.ret rfl ?_
          exact T.ret1 rfl (ResIs.tmp rfl) fun w' hh => ⟨_, rfl, hh.below, (show _ from rfl)⟩
        ·
          rw [hc2, cond_false] at hF
          refine T.skip_code ?_
          refine T.seq ?_
          refine T.region ?_
          refine T.pure (.slice A1 p0.length c1) (by kernel_rfl) (fun _ => by kernel_rfl) ?_
          refine T.pure (.slice A2 p1.length c2) (by kernel_rfl) (fun _ => by kernel_rfl) ?_
          obtain ⟨r3, hb3, hF⟩ := Option.bind_eq_some_iff.1 hF
          refine T.step (W1.call (vT2 (vSc (eList eElem)) (vSc eInt)) r3 39 #[.slice A1 p0.length c1, .slice A2 p1.length c2] (by kernel_rfl) (fun _ => by kernel_rfl) (fun w' hh => prune_Kept_l F p0 p1 r3 hb3 w' A1 c1 (SlOk.mono (SlOk.mono hs1 (View.le_trans hV1 hV2)) hh.view) A2 c2 (SlOk.mono (SlOk.mono hs2 (View.le_trans hV1 hV2)) hh.view)) ?_)
          intro u V3 hV3 hu
          obtain ⟨u5, u6, rfl, hu5, hu6⟩ := vT2_elim hu
          obtain ⟨A5, c5, rfl, hs5⟩ := vlist_elim hu5
          obtain rfl := sureInt _ _ _ hu6
          refine T.pure (.tuple #[.slice A5 r3.1.length c5, .int .i64 r3.2]) (by kernel_rfl) (fun _ => by kernel_rfl) ?_
          refine T.pure (.slice A5 r3.1.length c5) (by kernel_rfl) (fun _ => by kernel_rfl) ?_
          refine T.pure (.int .i64 r3.2) (by kernel_rfl) (fun _ => by kernel_rfl) ?_
          refine T.pure (.slice A5 r3.1.length c5) (by kernel_rfl) (fun _ => by kernel_rfl) ?_
          refine T.pure (.int .i64 r3.2) (by kernel_rfl) (fun _ => by kernel_rfl) ?_
          refine T.nil ?_
          refine T.seq ?_
          refine T.seq ?_
          refine T.region ?_
          refine T.pure (.int .i64 r3.2) (by kernel_rfl) (fun _ => by kernel_rfl) ?_
          refine T.pure (.bool (r3.2 != 0)) (by kernel_rfl) (fun _ => by kernel_rfl) ?_
          refine T.nil ?_
          refine T.cond (r3.2 != 0) (by kernel_rfl) (by kernel_rfl) (fun hc3 => ?_) (fun hc3 => ?_)
          ·
            rw [hc3, cond_true] at hF
            refine T.seq ?_
            refine T.region ?_
            refine T.pure (.slice A5 r3.1.length c5) (by kernel_rfl) (fun _ => by kernel_rfl) ?_
            refine T.pure (.int .i64 (r3.1.length : Int)) (by kernel_rfl) (fun _ => by kernel_rfl) ?_
            refine T.pure (.bool ((r3.1.length : Int) == 0)) (by kernel_rfl) (fun _ => by kernel_rfl) ?_
            refine T.pure (.bool ((r3.1.length : Int) == 0)) (by kernel_rfl) (fun _ => by kernel_rfl) ?_
            refine T.nil ?_
            cases hF
            refine T.ret rfl ?_
            exact T.ret1 rfl (ResIs.tmp rfl) fun w' hh => ⟨_, rfl, hh.below, (show _ from rfl)⟩
          ·
            rw [hc3, cond_false] at hF
            refine T.skip_code ?_
            refine T.seq ?_
            refine T.seq ?_
            refine T.region ?_
            refine T.pure (.slice A2 p1.length c2) (by kernel_rfl) (fun _ => by kernel_rfl) ?_
            obtain ⟨z1, hX1, hF⟩ := Option.bind_eq_some_iff.1 hF
            refine T.step (W1.within 51 [.slice A2 p1.length c2] (fun v w' => ∃ (A6 : Option Addr) (c6 : Nat), v = .slice A6 z1.length c6 ∧ Hp w V3 [row 3 eInt A6 c6 z1, box b3 24 [.int .i64 p5.pfs, .int .i64 p5.obj, .int .i64 p5.off], box b2 24 [.int .i64 p4.pfs, .int .i64 p4.obj, .int .i64 p4.off], box b1 24 [.int .i64 p3.pfs, .int .i64 p3.obj, .int .i64 p3.off]] w') Try.func51 rfl rfl (by kernel_rfl) (fun _ => by kernel_rfl) rfl ?_ ?_)
            ·
              rcases A2 with _ | a1
              ·
                have hn1 : p1 = [] := by
                  cases hc : p1 with
                  | nil => rfl
                  | cons q _ => exact absurd (SlOk.some_ (SlOk.mono hs2 (View.le_trans (View.le_trans hV1 hV2) hV3)) (k := 0) (x := q) (by rw [hc]; rfl) (by decide)) (by decide)
                obtain ⟨_, _, hq1⟩ := Option.bind_eq_some_iff.1 hX1
                rw [hn1] at hq1
                refine T.seq ?_
                refine T.region ?_
                refine T.pure (.slice none 0 0) (by kernel_rfl) (fun _ => by kernel_rfl) ?_
                refine T.nil ?_
                refine T.seq ?_
                refine T.seq ?_
                refine T.region ?_
                refine T.pure (.slice none p1.length c2) (by kernel_rfl) (fun _ => by kernel_rfl) ?_
                refine T.pure (.bool true) (by kernel_rfl) (fun _ => by kernel_rfl) ?_
                refine T.nil ?_
                refine T.cond true (by kernel_rfl) (by kernel_rfl) (fun _ => ?_) (fun h => Bool.noConfusion h)
                refine T.seq ?_
                refine T.region ?_
                refine T.pure (.slice none 0 0) (by kernel_rfl) (fun _ => by kernel_rfl) ?_
                refine T.nil ?_
                refine T.rownil 3 eInt ?_
                cases hq1
                refine T.ret rfl ?_
                repeat first | refine T.unthen ?_ | refine T.unblock ?_
                exact T.ret1 rfl (ResIs.tmp rfl) fun w' hh => ⟨_, rfl, Exists.intro none (Exists.intro 0 (And.intro rfl (hh.sub (.cons_cons _ (.cons_cons _ (.cons_cons _ (.cons_cons _ List.Sublist.slnil)))))))⟩
              ·
                refine T.seq ?_
                refine T.region ?_
                refine T.pure (.slice none 0 0) (by kernel_rfl) (fun _ => by kernel_rfl) ?_
                refine T.nil ?_
                refine T.seq ?_
                refine T.seq ?_
                refine T.region ?_
                refine T.pure (.slice (some a1) p1.length c2) (by kernel_rfl) (fun _ => by kernel_rfl) ?_
                refine T.pure (.bool false) (by kernel_rfl) (fun _ => by kernel_rfl) ?_
                refine T.nil ?_
                refine T.cond false (by kernel_rfl) (by kernel_rfl) (fun h => Bool.noConfusion h) (fun _ => ?_)
                refine T.skip_code ?_
                refine T.seq ?_
                refine T.region ?_
                refine T.step (W1.new 3 [] (fun b => .slice (some ⟨b, 0, none⟩) 0 0) (by kernel_rfl) (fun _ => by kernel_rfl) (fun b9 => ?_))
                refine T.pure (.slice (some a1) p1.length c2) (by kernel_rfl) (fun _ => by kernel_rfl) ?_
                refine (fun (h : T _ _ _ ((row 3 eInt (some ⟨b9, 0, none⟩) 0 ([] : List Int)) :: _) _ _) => (fun a w' hf hh => h a w' hf (hh.fresh_obj (row 3 eInt (some ⟨b9, 0, none⟩) 0 ([] : List Int)) ⟨rfl, rfl, rfl, Nat.le_refl _, fun _ _ _ => rfl⟩ ⟨Nat.le_refl _, by decide, .inl rfl⟩ (fun b hb => by cases hb)) : T _ _ _ _ _ _)) ?_
                obtain ⟨y1, hb4, hX1⟩ := Option.bind_eq_some_iff.1 hX1
                obtain ⟨hb4_r, hb4_m, rfl⟩ := grow_some hb4
                obtain ⟨ti, hti, hz1, hz2, hz3⟩ := info_parts (P := Try.prog) (e := 3) (z := .int .i64 0) (size := 1) (bytes := 8) (by kernel_rfl)
                refine T.step (W1.append (E := eInt) (l := ([] : List Int)) (m := p1) 0 _ _ 8 ti _ (by rfl) (by kernel_rfl) rfl (by kernel_rfl) hti hz1 hz2 hz3 rfl (by decide) rfl rfl (fun w' hh => (SlOk.srcF (SlOk.mono (SlOk.mono hs2 (View.le_trans (View.le_trans hV1 hV2) hV3)) hh.view) (fun _ _ _ _ h => h))) hb4_r hb4_m (fun A7 c7 => ?_))
                refine T.pure (.slice A7 ((([] : List Int) ++ p1).length) c7) (by kernel_rfl) (fun _ => by kernel_rfl) ?_
                refine T.nil ?_
                cases hX1
                refine T.ret rfl ?_
                repeat first | refine T.unthen ?_ | refine T.unblock ?_
                exact T.ret1 rfl (ResIs.tmp rfl) fun w' hh => ⟨_, rfl, Exists.intro A7 (Exists.intro c7 (And.intro rfl (hh.sub (.cons_cons _ (.cons _ (.cons_cons _ (.cons_cons _ (.cons_cons _ List.Sublist.slnil))))))))⟩
            ·
              rintro v w' ⟨A6, c6, rfl, hh⟩
              refine ⟨V3, [row 3 eInt A6 c6 z1, box b3 24 [.int .i64 p5.pfs, .int .i64 p5.obj, .int .i64 p5.off], box b2 24 [.int .i64 p4.pfs, .int .i64 p4.obj, .int .i64 p4.off], box b1 24 [.int .i64 p3.pfs, .int .i64 p3.obj, .int .i64 p3.off]], hh, ?_⟩
              clear hh
              refine T.step (W1.new 3 [.int .i64 2147483647] (fun b => .slice (some ⟨b, 0, none⟩) 1 1) (by kernel_rfl) (fun _ => by kernel_rfl) (fun b10 => ?_))
              obtain ⟨y2, hb5, hF⟩ := Option.bind_eq_some_iff.1 hF
              obtain ⟨hb5_r, hb5_m, rfl⟩ := grow_some hb5
              obtain ⟨ti, hti, hz1, hz2, hz3⟩ := info_parts (P := Try.prog) (e := 3) (z := .int .i64 0) (size := 1) (bytes := 8) (by kernel_rfl)
              refine T.step (W1.append (E := eInt) (l := z1) (m := [2147483647]) 1 _ _ 8 ti _ (by rfl) (by kernel_rfl) rfl (by kernel_rfl) hti hz1 hz2 hz3 rfl (by decide) rfl rfl (fun w' hh => (SlOk.srcF (slok_lit (E := eInt) (f := (fun x => [.int .i64 x])) [2147483647] (fun _ _ => rfl) (Nat.le_of_ble_eq_true (by rfl)) (fun j => hh.cellBox (i := 0) (by rfl) j)) (fun _ _ _ _ h => h))) hb5_r hb5_m (fun A8 c8 => ?_))
              refine T.pure (.int .i64 ((z1 ++ [2147483647]).length : Int)) (by kernel_rfl) (fun _ => by kernel_rfl) ?_
              refine T.pure (.int .i64 0) (by kernel_rfl) (fun _ => by kernel_rfl) ?_
              refine T.nil ?_
              obtain ⟨q1, hz1, hF⟩ := Option.bind_eq_some_iff.1 hF
              refine T.mid (fun a w' => q1 = Sum.inl () ∧ ∃ (V5 : View), View.le V3 V5 ∧ Fr 168 [(0, .slice A1 p0.length c1), (1, .slice A2 p1.length c2), (2, .int .i64 p2), (18, .slice A5 r3.1.length c5)] a ∧ Hp w V5 [] w') ?_ ?_
              ·
                refine T.block ?_
                refine T.iter (fun x1 a w' => ∃ (V4 : View), View.le V3 V4 ∧ Fr 168 [(0, .slice A1 p0.length c1), (1, .slice A2 p1.length c2), (2, .int .i64 p2), (9, .pointer (some ⟨b1, 0, none⟩)), (10, .pointer (some ⟨b2, 0, none⟩)), (11, .pointer (some ⟨b3, 0, none⟩)), (18, .slice A5 r3.1.length c5), (76, .slice A8 ((z1 ++ [2147483647]).length) c8), (77, .int .i64 ((z1 ++ [2147483647]).length : Int)), (78, .int .i64 x1)] a ∧ Hp w V4 [row 3 eInt A8 c8 (z1 ++ [2147483647]), box b3 24 [.int .i64 p5.pfs, .int .i64 p5.obj, .int .i64 p5.off], box b2 24 [.int .i64 p4.pfs, .int .i64 p4.obj, .int .i64 p4.off], box b1 24 [.int .i64 p3.pfs, .int .i64 p3.obj, .int .i64 p3.off]] w') hz1 ?_ ?_
                ·
                  exact fun a w' hf hh => Exists.intro V3 (And.intro (View.le_refl _) (And.intro (((((((((((Fr.nil hf).pick hf 78 rfl).pick hf 77 rfl).pick hf 76 rfl).pick hf 18 rfl).pick hf 11 rfl).pick hf 10 rfl).pick hf 9 rfl).pick hf 2 rfl).pick hf 1 rfl).pick hf 0 rfl) (hh.sub (.cons _ (.cons_cons _ (.cons_cons _ (.cons_cons _ (.cons_cons _ List.Sublist.slnil))))))))
                ·
                  rintro x1 y3 hY1 hr1 a w' ⟨V4, hV4, hf, hh⟩
                  refine (?_ : T 168 w V4 [row 3 eInt A8 c8 (z1 ++ [2147483647]), box b3 24 [.int .i64 p5.pfs, .int .i64 p5.obj, .int .i64 p5.off], box b2 24 [.int .i64 p4.pfs, .int .i64 p4.obj, .int .i64 p4.off], box b1 24 [.int .i64 p3.pfs, .int .i64 p3.obj, .int .i64 p3.off]] [(0, .slice A1 p0.length c1), (1, .slice A2 p1.length c2), (2, .int .i64 p2), (9, .pointer (some ⟨b1, 0, none⟩)), (10, .pointer (some ⟨b2, 0, none⟩)), (11, .pointer (some ⟨b3, 0, none⟩)), (18, .slice A5 r3.1.length c5), (76, .slice A8 ((z1 ++ [2147483647]).length) c8), (77, .int .i64 ((z1 ++ [2147483647]).length : Int)), (78, .int .i64 x1)] _) a w' hf hh
                  clear hf hh
                  try dsimp only at hY1
                  refine T.seq ?_
                  refine T.region ?_
                  refine T.pure (.bool (decide (x1 < ((z1 ++ [2147483647]).length : Int)))) (by kernel_rfl) (fun _ => by kernel_rfl) ?_
                  refine T.nil ?_
                  refine T.seq ?_
                  refine T.cond (decide (x1 < ((z1 ++ [2147483647]).length : Int))) (by kernel_rfl) (by kernel_rfl) (fun hc4 => ?_) (fun hc4 => ?_)
                  ·
                    rw [hc4, cond_true] at hY1
                    refine T.skip_code ?_
                    refine T.seq ?_
                    refine T.block ?_
                    refine T.seq ?_
                    refine T.region ?_
                    obtain ⟨e1, hb6, hY1⟩ := Option.bind_eq_some_iff.1 hY1
                    obtain ⟨hi1, hi2, hi3⟩ := idx_some hb6
                    refine T.look (.pointer (some ((sadr A8).add (x1.toNat * 1)))) (by kernel_rfl) (fun w' hh => exec_indexAddr (e := 3) (s := 1) rfl rfl rfl (by kernel_rfl) (by kernel_rfl) hi1 hi2 ((hh.row_slOk (i := 0) (by rfl)).some_ hi3 (by decide))) ?_
                    refine T.look (.int .i64 e1) (by kernel_rfl) (fun w' hh => exec_load1 rfl rfl (by kernel_rfl) (SlOk.wcellF0 (E := eInt) (hh.row_slOk (i := 0) (by rfl)) hi3 (fun _ _ _ h => h) rfl)) ?_
                    refine T.pure (.int .i64 e1) (by kernel_rfl) (fun _ => by kernel_rfl) ?_
                    refine T.nil ?_
                    refine T.seq ?_
                    refine T.region ?_
                    refine T.pure (.slice A1 p0.length c1) (by kernel_rfl) (fun _ => by kernel_rfl) ?_
                    refine T.look (.agg #[.int .i64 p3.pfs, .int .i64 p3.obj, .int .i64 p3.off]) (by kernel_rfl) (fun w' hh => exec_loadN (cs := [.int .i64 p3.pfs, .int .i64 p3.obj, .int .i64 p3.off]) rfl rfl (by kernel_rfl) (by kernel_rfl) (fun j u hj => (hh.box_at (i := 3) (cs := [.int .i64 p3.pfs, .int .i64 p3.obj, .int .i64 p3.off]) (by rfl) 0 j).trans (seg_at (n := 3) rfl hj))) ?_
                    refine T.pure (.int .i64 e1) (by kernel_rfl) (fun _ => by kernel_rfl) ?_
                    obtain ⟨r6, hb7, hY1⟩ := Option.bind_eq_some_iff.1 hY1
                    refine T.step (W1.call (vT2 (vAg eElem) (vSc eInt)) r6 44 #[.slice A1 p0.length c1, .agg #[.int .i64 p3.pfs, .int .i64 p3.obj, .int .i64 p3.off], .int .i64 e1] (by kernel_rfl) (fun _ => by kernel_rfl) (fun w' hh => run_At_l F p0 p3 e1 r6 hb7 w' A1 c1 (SlOk.mono (SlOk.mono hs1 (View.le_trans (View.le_trans (View.le_trans hV1 hV2) hV3) hV4)) hh.view)) ?_)
                    intro u V6 hV6 hu
                    obtain rfl := (Sure.t2 sureElem sureInt) _ _ _ hu
                    refine T.pure (.tuple #[.agg #[.int .i64 r6.1.key.pfs, .int .i64 r6.1.key.obj, .int .i64 r6.1.key.off, .int .i64 r6.1.made, .int .i64 r6.1.gone, .string r6.1.val], .int .i64 r6.2]) (by kernel_rfl) (fun _ => by kernel_rfl) ?_
                    refine T.pure (.agg #[.int .i64 r6.1.key.pfs, .int .i64 r6.1.key.obj, .int .i64 r6.1.key.off, .int .i64 r6.1.made, .int .i64 r6.1.gone, .string r6.1.val]) (by kernel_rfl) (fun _ => by kernel_rfl) ?_
                    refine T.pure (.int .i64 r6.2) (by kernel_rfl) (fun _ => by kernel_rfl) ?_
                    refine T.step (W1.new 26 [.int .i64 0, .int .i64 0, .int .i64 0, .int .i64 0, .int .i64 0, .string (ByteArray.mk #[])] (fun b => .pointer (some ⟨b, 0, none⟩)) (by kernel_rfl) (fun _ => by kernel_rfl) (fun b11 => ?_))
                    refine T.step (W1.store 0 [.int .i64 r6.1.key.pfs, .int .i64 r6.1.key.obj, .int .i64 r6.1.key.off, .int .i64 r6.1.made, .int .i64 r6.1.gone, .string r6.1.val] [box b11 26 [.int .i64 r6.1.key.pfs, .int .i64 r6.1.key.obj, .int .i64 r6.1.key.off, .int .i64 r6.1.made, .int .i64 r6.1.gone, .string r6.1.val], row 3 eInt A8 c8 (z1 ++ [2147483647]), box b3 24 [.int .i64 p5.pfs, .int .i64 p5.obj, .int .i64 p5.off], box b2 24 [.int .i64 p4.pfs, .int .i64 p4.obj, .int .i64 p4.off], box b1 24 [.int .i64 p3.pfs, .int .i64 p3.obj, .int .i64 p3.off]] (by rfl) rfl (by kernel_rfl) (fun w' hw => exec_store (vs := [.int .i64 r6.1.key.pfs, .int .i64 r6.1.key.obj, .int .i64 r6.1.key.off, .int .i64 r6.1.made, .int .i64 r6.1.gone, .string r6.1.val]) rfl rfl rfl rfl (by kernel_rfl) (one_of rfl) (by simp) rfl hw) ?_)
                    refine T.pure (.int .i64 r6.2) (by kernel_rfl) (fun _ => by kernel_rfl) ?_
                    refine T.nil ?_
                    refine T.seq ?_
                    refine T.region ?_
                    refine T.pure (.slice A5 r3.1.length c5) (by kernel_rfl) (fun _ => by kernel_rfl) ?_
                    refine T.look (.agg #[.int .i64 p3.pfs, .int .i64 p3.obj, .int .i64 p3.off]) (by kernel_rfl) (fun w' hh => exec_loadN (cs := [.int .i64 p3.pfs, .int .i64 p3.obj, .int .i64 p3.off]) rfl rfl (by kernel_rfl) (by kernel_rfl) (fun j u hj => (hh.box_at (i := 4) (cs := [.int .i64 p3.pfs, .int .i64 p3.obj, .int .i64 p3.off]) (by rfl) 0 j).trans (seg_at (n := 3) rfl hj))) ?_
                    refine T.pure (.int .i64 e1) (by kernel_rfl) (fun _ => by kernel_rfl) ?_
                    obtain ⟨r7, hb8, hY1⟩ := Option.bind_eq_some_iff.1 hY1
                    refine T.step (W1.call (vT2 (vAg eElem) (vSc eInt)) r7 44 #[.slice A5 r3.1.length c5, .agg #[.int .i64 p3.pfs, .int .i64 p3.obj, .int .i64 p3.off], .int .i64 e1] (by kernel_rfl) (fun _ => by kernel_rfl) (fun w' hh => run_At_l F r3.1 p3 e1 r7 hb8 w' A5 c5 (SlOk.mono (SlOk.mono hs5 (View.le_trans (made_le _ _) (View.le_trans hV4 hV6))) hh.view)) ?_)
                    intro u V7 hV7 hu
                    obtain rfl := (Sure.t2 sureElem sureInt) _ _ _ hu
                    refine T.pure (.tuple #[.agg #[.int .i64 r7.1.key.pfs, .int .i64 r7.1.key.obj, .int .i64 r7.1.key.off, .int .i64 r7.1.made, .int .i64 r7.1.gone, .string r7.1.val], .int .i64 r7.2]) (by kernel_rfl) (fun _ => by kernel_rfl) ?_
                    refine T.pure (.agg #[.int .i64 r7.1.key.pfs, .int .i64 r7.1.key.obj, .int .i64 r7.1.key.off, .int .i64 r7.1.made, .int .i64 r7.1.gone, .string r7.1.val]) (by kernel_rfl) (fun _ => by kernel_rfl) ?_
                    refine T.pure (.int .i64 r7.2) (by kernel_rfl) (fun _ => by kernel_rfl) ?_
                    refine T.step (W1.new 26 [.int .i64 0, .int .i64 0, .int .i64 0, .int .i64 0, .int .i64 0, .string (ByteArray.mk #[])] (fun b => .pointer (some ⟨b, 0, none⟩)) (by kernel_rfl) (fun _ => by kernel_rfl) (fun b12 => ?_))
                    refine T.step (W1.store 0 [.int .i64 r7.1.key.pfs, .int .i64 r7.1.key.obj, .int .i64 r7.1.key.off, .int .i64 r7.1.made, .int .i64 r7.1.gone, .string r7.1.val] [box b12 26 [.int .i64 r7.1.key.pfs, .int .i64 r7.1.key.obj, .int .i64 r7.1.key.off, .int .i64 r7.1.made, .int .i64 r7.1.gone, .string r7.1.val], box b11 26 [.int .i64 r6.1.key.pfs, .int .i64 r6.1.key.obj, .int .i64 r6.1.key.off, .int .i64 r6.1.made, .int .i64 r6.1.gone, .string r6.1.val], row 3 eInt A8 c8 (z1 ++ [2147483647]), box b3 24 [.int .i64 p5.pfs, .int .i64 p5.obj, .int .i64 p5.off], box b2 24 [.int .i64 p4.pfs, .int .i64 p4.obj, .int .i64 p4.off], box b1 24 [.int .i64 p3.pfs, .int .i64 p3.obj, .int .i64 p3.off]] (by rfl) rfl (by kernel_rfl) (fun w' hw => exec_store (vs := [.int .i64 r7.1.key.pfs, .int .i64 r7.1.key.obj, .int .i64 r7.1.key.off, .int .i64 r7.1.made, .int .i64 r7.1.gone, .string r7.1.val]) rfl rfl rfl rfl (by kernel_rfl) (one_of rfl) (by simp) rfl hw) ?_)
                    refine T.pure (.int .i64 r7.2) (by kernel_rfl) (fun _ => by kernel_rfl) ?_
                    refine T.nil ?_
                    refine T.seq ?_
                    refine T.region ?_
                    refine T.pure (.slice A1 p0.length c1) (by kernel_rfl) (fun _ => by kernel_rfl) ?_
                    refine T.look (.agg #[.int .i64 p4.pfs, .int .i64 p4.obj, .int .i64 p4.off]) (by kernel_rfl) (fun w' hh => exec_loadN (cs := [.int .i64 p4.pfs, .int .i64 p4.obj, .int .i64 p4.off]) rfl rfl (by kernel_rfl) (by kernel_rfl) (fun j u hj => (hh.box_at (i := 4) (cs := [.int .i64 p4.pfs, .int .i64 p4.obj, .int .i64 p4.off]) (by rfl) 0 j).trans (seg_at (n := 3) rfl hj))) ?_
                    refine T.look (.agg #[.int .i64 p5.pfs, .int .i64 p5.obj, .int .i64 p5.off]) (by kernel_rfl) (fun w' hh => exec_loadN (cs := [.int .i64 p5.pfs, .int .i64 p5.obj, .int .i64 p5.off]) rfl rfl (by kernel_rfl) (by kernel_rfl) (fun j u hj => (hh.box_at (i := 3) (cs := [.int .i64 p5.pfs, .int .i64 p5.obj, .int .i64 p5.off]) (by rfl) 0 j).trans (seg_at (n := 3) rfl hj))) ?_
                    refine T.pure (.int .i64 e1) (by kernel_rfl) (fun _ => by kernel_rfl) ?_
                    obtain ⟨r8, hb9, hY1⟩ := Option.bind_eq_some_iff.1 hY1
                    refine T.step (W1.call (vT2 (vSc (eList eElem)) (vSc eInt)) r8 28 #[.slice A1 p0.length c1, .agg #[.int .i64 p4.pfs, .int .i64 p4.obj, .int .i64 p4.off], .agg #[.int .i64 p5.pfs, .int .i64 p5.obj, .int .i64 p5.off], .int .i64 e1] (by kernel_rfl) (fun _ => by kernel_rfl) (fun w' hh => run_Range_l F p0 p4 p5 e1 r8 hb9 w' A1 c1 (SlOk.mono (SlOk.mono hs1 (View.le_trans (View.le_trans (View.le_trans (View.le_trans (View.le_trans hV1 hV2) hV3) hV4) hV6) hV7)) hh.view)) ?_)
                    intro u V8 hV8 hu
                    obtain ⟨u7, u8, rfl, hu7, hu8⟩ := vT2_elim hu
                    obtain ⟨A9, c9, rfl, hs6⟩ := vlist_elim hu7
                    obtain rfl := sureInt _ _ _ hu8
                    refine T.pure (.tuple #[.slice A9 r8.1.length c9, .int .i64 r8.2]) (by kernel_rfl) (fun _ => by kernel_rfl) ?_
                    refine T.pure (.slice A9 r8.1.length c9) (by kernel_rfl) (fun _ => by kernel_rfl) ?_
                    refine T.pure (.int .i64 r8.2) (by kernel_rfl) (fun _ => by kernel_rfl) ?_
                    refine T.pure (.slice A9 r8.1.length c9) (by kernel_rfl) (fun _ => by kernel_rfl) ?_
                    refine T.pure (.int .i64 r8.2) (by kernel_rfl) (fun _ => by kernel_rfl) ?_
                    refine T.nil ?_
                    refine T.seq ?_
                    refine T.region ?_
                    refine T.pure (.slice A5 r3.1.length c5) (by kernel_rfl) (fun _ => by kernel_rfl) ?_
                    refine T.look (.agg #[.int .i64 p4.pfs, .int .i64 p4.obj, .int .i64 p4.off]) (by kernel_rfl) (fun w' hh => exec_loadN (cs := [.int .i64 p4.pfs, .int .i64 p4.obj, .int .i64 p4.off]) rfl rfl (by kernel_rfl) (by kernel_rfl) (fun j u hj => (hh.box_at (i := 4) (cs := [.int .i64 p4.pfs, .int .i64 p4.obj, .int .i64 p4.off]) (by rfl) 0 j).trans (seg_at (n := 3) rfl hj))) ?_
                    refine T.look (.agg #[.int .i64 p5.pfs, .int .i64 p5.obj, .int .i64 p5.off]) (by kernel_rfl) (fun w' hh => exec_loadN (cs := [.int .i64 p5.pfs, .int .i64 p5.obj, .int .i64 p5.off]) rfl rfl (by kernel_rfl) (by kernel_rfl) (fun j u hj => (hh.box_at (i := 3) (cs := [.int .i64 p5.pfs, .int .i64 p5.obj, .int .i64 p5.off]) (by rfl) 0 j).trans (seg_at (n := 3) rfl hj))) ?_
                    refine T.pure (.int .i64 e1) (by kernel_rfl) (fun _ => by kernel_rfl) ?_
                    obtain ⟨r9, hb10, hY1⟩ := Option.bind_eq_some_iff.1 hY1
                    refine T.step (W1.call (vT2 (vSc (eList eElem)) (vSc eInt)) r9 28 #[.slice A5 r3.1.length c5, .agg #[.int .i64 p4.pfs, .int .i64 p4.obj, .int .i64 p4.off], .agg #[.int .i64 p5.pfs, .int .i64 p5.obj, .int .i64 p5.off], .int .i64 e1] (by kernel_rfl) (fun _ => by kernel_rfl) (fun w' hh => run_Range_l F r3.1 p4 p5 e1 r9 hb10 w' A5 c5 (SlOk.mono (SlOk.mono hs5 (View.le_trans (made_le _ _) (View.le_trans (View.le_trans (View.le_trans hV4 hV6) hV7) hV8))) hh.view)) ?_)
                    intro u V9 hV9 hu
                    obtain ⟨u9, u10, rfl, hu9, hu10⟩ := vT2_elim hu
                    obtain ⟨A10, c10, rfl, hs7⟩ := vlist_elim hu9
                    obtain rfl := sureInt _ _ _ hu10
                    refine T.pure (.tuple #[.slice A10 r9.1.length c10, .int .i64 r9.2]) (by kernel_rfl) (fun _ => by kernel_rfl) ?_
                    refine T.pure (.slice A10 r9.1.length c10) (by kernel_rfl) (fun _ => by kernel_rfl) ?_
                    refine T.pure (.int .i64 r9.2) (by kernel_rfl) (fun _ => by kernel_rfl) ?_
                    refine T.pure (.slice A10 r9.1.length c10) (by kernel_rfl) (fun _ => by kernel_rfl) ?_
                    refine T.pure (.int .i64 r9.2) (by kernel_rfl) (fun _ => by kernel_rfl) ?_
                    refine T.nil ?_
                    obtain ⟨z2, hX2, hY1⟩ := Option.bind_eq_some_iff.1 hY1
                    refine T.cut (fun a w' => ∃ (V10 : View), View.le V9 V10 ∧ Fr 168 [(0, .slice A1 p0.length c1), (1, .slice A2 p1.length c2), (2, .int .i64 p2), (9, .pointer (some ⟨b1, 0, none⟩)), (10, .pointer (some ⟨b2, 0, none⟩)), (11, .pointer (some ⟨b3, 0, none⟩)), (18, .slice A5 r3.1.length c5), (76, .slice A8 ((z1 ++ [2147483647]).length) c8), (77, .int .i64 ((z1 ++ [2147483647]).length : Int)), (78, .int .i64 x1), (130, .bool z2)] a ∧ Hp w V10 [row 3 eInt A8 c8 (z1 ++ [2147483647]), box b3 24 [.int .i64 p5.pfs, .int .i64 p5.obj, .int .i64 p5.off], box b2 24 [.int .i64 p4.pfs, .int .i64 p4.obj, .int .i64 p4.off], box b1 24 [.int .i64 p3.pfs, .int .i64 p3.obj, .int .i64 p3.off]] w') ?_ ?_
                    ·
                      refine T.region ?_
                      refine T.look (.agg #[.int .i64 r6.1.key.pfs, .int .i64 r6.1.key.obj, .int .i64 r6.1.key.off, .int .i64 r6.1.made, .int .i64 r6.1.gone, .string r6.1.val]) (by kernel_rfl) (fun w' hh => exec_loadN (cs := [.int .i64 r6.1.key.pfs, .int .i64 r6.1.key.obj, .int .i64 r6.1.key.off, .int .i64 r6.1.made, .int .i64 r6.1.gone, .string r6.1.val]) rfl rfl (by kernel_rfl) (by kernel_rfl) (fun j u hj => (hh.box_at (i := 1) (cs := [.int .i64 r6.1.key.pfs, .int .i64 r6.1.key.obj, .int .i64 r6.1.key.off, .int .i64 r6.1.made, .int .i64 r6.1.gone, .string r6.1.val]) (by rfl) 0 j).trans (seg_at (n := 6) rfl hj))) ?_
                      refine T.look (.agg #[.int .i64 r7.1.key.pfs, .int .i64 r7.1.key.obj, .int .i64 r7.1.key.off, .int .i64 r7.1.made, .int .i64 r7.1.gone, .string r7.1.val]) (by kernel_rfl) (fun w' hh => exec_loadN (cs := [.int .i64 r7.1.key.pfs, .int .i64 r7.1.key.obj, .int .i64 r7.1.key.off, .int .i64 r7.1.made, .int .i64 r7.1.gone, .string r7.1.val]) rfl rfl (by kernel_rfl) (by kernel_rfl) (fun j u hj => (hh.box_at (i := 0) (cs := [.int .i64 r7.1.key.pfs, .int .i64 r7.1.key.obj, .int .i64 r7.1.key.off, .int .i64 r7.1.made, .int .i64 r7.1.gone, .string r7.1.val]) (by rfl) 0 j).trans (seg_at (n := 6) rfl hj))) ?_
                      refine T.look (.bool (!(r6.1 == r7.1))) (by kernel_rfl) (fun w' hh => exec_neq_DElem r6.1 r7.1 w' rfl rfl rfl) ?_
                      refine T.pure (.bool (!(r6.1 == r7.1))) (by kernel_rfl) (fun _ => by kernel_rfl) ?_
                      cases hg3 : (!(r6.1 == r7.1))
                      ·
                        skip
                        rw [hg3, cond_false] at hX2
                        refine T.pure (.int .i64 r6.2) (by kernel_rfl) (fun _ => by kernel_rfl) ?_
                        refine T.pure (.int .i64 r7.2) (by kernel_rfl) (fun _ => by kernel_rfl) ?_
                        refine T.pure (.bool (r6.2 != r7.2)) (by kernel_rfl) (fun _ => by kernel_rfl) ?_
                        refine T.pure (.bool (r6.2 != r7.2)) (by kernel_rfl) (fun _ => by kernel_rfl) ?_
                        refine T.pure (.bool (r6.2 != r7.2)) (by kernel_rfl) (fun _ => by kernel_rfl) ?_
                        cases hg4 : (r6.2 != r7.2)
                        ·
                          skip
                          rw [hg4, cond_false] at hX2
                          refine T.pure (.slice A9 r8.1.length c9) (by kernel_rfl) (fun _ => by kernel_rfl) ?_
                          refine T.pure (.slice A10 r9.1.length c10) (by kernel_rfl) (fun _ => by kernel_rfl) ?_
                          obtain ⟨r10, hb11, hX2⟩ := Option.bind_eq_some_iff.1 hX2
                          refine T.step (W1.call (vSc eBool) r10 29 #[.slice A9 r8.1.length c9, .slice A10 r9.1.length c10] (by kernel_rfl) (fun _ => by kernel_rfl) (fun w' hh => slices_Equal_Elem_l F r8.1 r9.1 r10 hb11 w' A9 c9 (SlOk.mono (SlOk.mono hs6 (View.le_trans (made_le _ _) hV9)) hh.view) A10 c10 (SlOk.mono (SlOk.mono hs7 (View.le_trans (made_le _ _) (View.le_refl _))) hh.view)) ?_)
                          intro u V11 hV11 hu
                          obtain rfl := sureBool _ _ _ hu
                          refine T.pure (.bool (!r10)) (by kernel_rfl) (fun _ => by kernel_rfl) ?_
                          refine T.pure (.bool (!r10)) (by kernel_rfl) (fun _ => by kernel_rfl) ?_
                          refine T.pure (.bool (!r10)) (by kernel_rfl) (fun _ => by kernel_rfl) ?_
                          cases hg5 : (!r10)
                          ·
                            skip
                            rw [hg5, cond_false] at hX2
                            refine T.pure (.int .i64 r8.2) (by kernel_rfl) (fun _ => by kernel_rfl) ?_
                            refine T.pure (.int .i64 r9.2) (by kernel_rfl) (fun _ => by kernel_rfl) ?_
                            refine T.pure (.bool (r8.2 != r9.2)) (by kernel_rfl) (fun _ => by kernel_rfl) ?_
                            refine T.pure (.bool (r8.2 != r9.2)) (by kernel_rfl) (fun _ => by kernel_rfl) ?_
                            refine T.nil ?_
                            cases hX2
                            exact fun a w' hf hh => Exists.intro V11 (And.intro hV11 (And.intro ((((((((((((Fr.nil hf).pick hf 130 rfl).pick hf 78 rfl).pick hf 77 rfl).pick hf 76 rfl).pick hf 18 rfl).pick hf 11 rfl).pick hf 10 rfl).pick hf 9 rfl).pick hf 2 rfl).pick hf 1 rfl).pick hf 0 rfl) (hh.sub (.cons _ (.cons _ (.cons_cons _ (.cons_cons _ (.cons_cons _ (.cons_cons _ List.Sublist.slnil)))))))))
                          ·
                            skip
                            rw [hg5, cond_true] at hX2
                            refine T.pass (by kernel_rfl) (by kernel_rfl) ?_
                            refine T.pass (by kernel_rfl) (by kernel_rfl) ?_
                            refine T.pass (by kernel_rfl) (by kernel_rfl) ?_
                            refine T.pure (.bool true) (by kernel_rfl) (fun _ => by kernel_rfl) ?_
                            refine T.nil ?_
                            cases hX2
                            exact fun a w' hf hh => Exists.intro V11 (And.intro hV11 (And.intro ((((((((((((Fr.nil hf).pick hf 130 rfl).pick hf 78 rfl).pick hf 77 rfl).pick hf 76 rfl).pick hf 18 rfl).pick hf 11 rfl).pick hf 10 rfl).pick hf 9 rfl).pick hf 2 rfl).pick hf 1 rfl).pick hf 0 rfl) (hh.sub (.cons _ (.cons _ (.cons_cons _ (.cons_cons _ (.cons_cons _ (.cons_cons _ List.Sublist.slnil)))))))))
                        ·
                          skip
                          rw [hg4, cond_true] at hX2
                          refine T.pass (by kernel_rfl) (by kernel_rfl) ?_
                          refine T.pass (by kernel_rfl) (by kernel_rfl) ?_
                          refine T.pass (by kernel_rfl) (by kernel_rfl) ?_
                          refine T.pass (by kernel_rfl) (by kernel_rfl) ?_
                          refine T.pure (.bool true) (by kernel_rfl) (fun _ => by kernel_rfl) ?_
                          refine T.pure (.bool true) (by kernel_rfl) (fun _ => by kernel_rfl) ?_
                          refine T.pass (by kernel_rfl) (by kernel_rfl) ?_
                          refine T.pass (by kernel_rfl) (by kernel_rfl) ?_
                          refine T.pass (by kernel_rfl) (by kernel_rfl) ?_
                          refine T.pure (.bool true) (by kernel_rfl) (fun _ => by kernel_rfl) ?_
                          refine T.nil ?_
                          cases hX2
                          exact fun a w' hf hh => Exists.intro V9 (And.intro (View.le_refl _) (And.intro ((((((((((((Fr.nil hf).pick hf 130 rfl).pick hf 78 rfl).pick hf 77 rfl).pick hf 76 rfl).pick hf 18 rfl).pick hf 11 rfl).pick hf 10 rfl).pick hf 9 rfl).pick hf 2 rfl).pick hf 1 rfl).pick hf 0 rfl) (hh.sub (.cons _ (.cons _ (.cons_cons _ (.cons_cons _ (.cons_cons _ (.cons_cons _ List.Sublist.slnil)))))))))
                      ·
                        skip
                        rw [hg3, cond_true] at hX2
                        refine T.pass (by kernel_rfl) (by kernel_rfl) ?_
                        refine T.pass (by kernel_rfl) (by kernel_rfl) ?_
                        refine T.pass (by kernel_rfl) (by kernel_rfl) ?_
                        refine T.pure (.bool true) (by kernel_rfl) (fun _ => by kernel_rfl) ?_
                        refine T.pure (.bool true) (by kernel_rfl) (fun _ => by kernel_rfl) ?_
                        refine T.pass (by kernel_rfl) (by kernel_rfl) ?_
                        refine T.pass (by kernel_rfl) (by kernel_rfl) ?_
                        refine T.pass (by kernel_rfl) (by kernel_rfl) ?_
                        refine T.pass (by kernel_rfl) (by kernel_rfl) ?_
                        refine T.pure (.bool true) (by kernel_rfl) (fun _ => by kernel_rfl) ?_
                        refine T.pure (.bool true) (by kernel_rfl) (fun _ => by kernel_rfl) ?_
                        refine T.pass (by kernel_rfl) (by kernel_rfl) ?_
                        refine T.pass (by kernel_rfl) (by kernel_rfl) ?_
                        refine T.pass (by kernel_rfl) (by kernel_rfl) ?_
                        refine T.pure (.bool true) (by kernel_rfl) (fun _ => by kernel_rfl) ?_
                        refine T.nil ?_
                        cases hX2
                        exact fun a w' hf hh => Exists.intro V9 (And.intro (View.le_refl _) (And.intro ((((((((((((Fr.nil hf).pick hf 130 rfl).pick hf 78 rfl).pick hf 77 rfl).pick hf 76 rfl).pick hf 18 rfl).pick hf 11 rfl).pick hf 10 rfl).pick hf 9 rfl).pick hf 2 rfl).pick hf 1 rfl).pick hf 0 rfl) (hh.sub (.cons _ (.cons _ (.cons_cons _ (.cons_cons _ (.cons_cons _ (.cons_cons _ List.Sublist.slnil)))))))))
                    ·
                      rintro a w' ⟨V10, hV10, hf, hh⟩
                      refine (?_ : T 168 w V10 [row 3 eInt A8 c8 (z1 ++ [2147483647]), box b3 24 [.int .i64 p5.pfs, .int .i64 p5.obj, .int .i64 p5.off], box b2 24 [.int .i64 p4.pfs, .int .i64 p4.obj, .int .i64 p4.off], box b1 24 [.int .i64 p3.pfs, .int .i64 p3.obj, .int .i64 p3.off]] [(0, .slice A1 p0.length c1), (1, .slice A2 p1.length c2), (2, .int .i64 p2), (9, .pointer (some ⟨b1, 0, none⟩)), (10, .pointer (some ⟨b2, 0, none⟩)), (11, .pointer (some ⟨b3, 0, none⟩)), (18, .slice A5 r3.1.length c5), (76, .slice A8 ((z1 ++ [2147483647]).length) c8), (77, .int .i64 ((z1 ++ [2147483647]).length : Int)), (78, .int .i64 x1), (130, .bool z2)] _) a w' hf hh
                      clear hf hh
                      refine T.cond z2 (by kernel_rfl) (by kernel_rfl) (fun hc5 => ?_) (fun hc5 => ?_)
                      ·
                        rw [hc5, cond_true] at hY1
                        refine T.seq ?_
                        refine T.region ?_
                        refine T.pure (.bool false) (by kernel_rfl) (fun _ => by kernel_rfl) ?_
                        refine T.nil ?_
                        cases hY1
                        cases (hr1 _ rfl)
                        try dsimp only at hF
                        cases hF
                        refine T.ret rfl ?_
                        exact T.ret1 rfl (ResIs.tmp rfl) fun w' hh => ⟨_, rfl, hh.below, (show _ from rfl)⟩
                      ·
                        rw [hc5, cond_false] at hY1
                        refine T.skip_code ?_
                        refine T.region ?_
                        refine T.pure (.int .i64 (IntKind.i64.wrap (x1 + 1))) (by kernel_rfl) (fun _ => by kernel_rfl) ?_
                        refine T.pure (.int .i64 (IntKind.i64.wrap (x1 + 1))) (by kernel_rfl) (fun _ => by kernel_rfl) ?_
                        refine T.nil ?_
                        cases hY1
                        exact fun a w' hf hh => Exists.intro (IntKind.i64.wrap (x1 + 1)) (And.intro rfl (Exists.intro V10 (And.intro (View.le_trans (View.le_trans (View.le_trans (View.le_trans (View.le_trans hV4 hV6) hV7) hV8) hV9) hV10) (And.intro (((((((((((Fr.nil hf).pick hf 78 rfl).pick hf 77 rfl).pick hf 76 rfl).pick hf 18 rfl).pick hf 11 rfl).pick hf 10 rfl).pick hf 9 rfl).pick hf 2 rfl).pick hf 1 rfl).pick hf 0 rfl) (hh.sub (.cons_cons _ (.cons_cons _ (.cons_cons _ (.cons_cons _ List.Sublist.slnil)))))))))
                  ·
                    rw [hc4, cond_false] at hY1
                    refine T.exit ?_
                    cases hY1
                    cases (hr1 _ rfl)
                    exact fun a w' hf hh => And.intro rfl (Exists.intro V4 (And.intro hV4 (And.intro (((((Fr.nil hf).pick hf 18 rfl).pick hf 2 rfl).pick hf 1 rfl).pick hf 0 rfl) (hh.sub (.cons _ (.cons _ (.cons _ (.cons _ List.Sublist.slnil))))))))
              ·
                rintro a w' ⟨rfl, V5, hV5, hf, hh⟩
                try dsimp only at hF
                refine (?_ : T 168 w V5 [] [(0, .slice A1 p0.length c1), (1, .slice A2 p1.length c2), (2, .int .i64 p2), (18, .slice A5 r3.1.length c5)] _) a w' hf hh
                clear hf hh
                refine T.seq ?_
                refine T.region ?_
                refine T.pure (.slice A5 r3.1.length c5) (by kernel_rfl) (fun _ => by kernel_rfl) ?_
                refine T.pure (.slice A2 p1.length c2) (by kernel_rfl) (fun _ => by kernel_rfl) ?_
                obtain ⟨r11, hb12, hF⟩ := Option.bind_eq_some_iff.1 hF
                refine T.step (W1.call (vT2 (vSc (eList eElem)) (vSc eInt)) r11 39 #[.slice A5 r3.1.length c5, .slice A2 p1.length c2] (by kernel_rfl) (fun _ => by kernel_rfl) (fun w' hh => prune_Kept_l F r3.1 p1 r11 hb12 w' A5 c5 (SlOk.mono (SlOk.mono hs5 (View.le_trans (made_le _ _) hV5)) hh.view) A2 c2 (SlOk.mono (SlOk.mono hs2 (View.le_trans (View.le_trans (View.le_trans hV1 hV2) hV3) hV5)) hh.view)) ?_)
                intro u V12 hV12 hu
                obtain ⟨u11, u12, rfl, hu11, hu12⟩ := vT2_elim hu
                obtain ⟨A11, c11, rfl, hs8⟩ := vlist_elim hu11
                obtain rfl := sureInt _ _ _ hu12
                refine T.pure (.tuple #[.slice A11 r11.1.length c11, .int .i64 r11.2]) (by kernel_rfl) (fun _ => by kernel_rfl) ?_
                refine T.pure (.slice A11 r11.1.length c11) (by kernel_rfl) (fun _ => by kernel_rfl) ?_
                refine T.pure (.int .i64 r11.2) (by kernel_rfl) (fun _ => by kernel_rfl) ?_
                refine T.pure (.slice A11 r11.1.length c11) (by kernel_rfl) (fun _ => by kernel_rfl) ?_
                refine T.pure (.int .i64 r11.2) (by kernel_rfl) (fun _ => by kernel_rfl) ?_
                refine T.nil ?_
                refine T.seq ?_
                obtain ⟨z3, hX3, hF⟩ := Option.bind_eq_some_iff.1 hF
                refine T.cut (fun a w' => ∃ (V13 : View), View.le V12 V13 ∧ Fr 168 [(0, .slice A1 p0.length c1), (1, .slice A2 p1.length c2), (2, .int .i64 p2), (18, .slice A5 r3.1.length c5), (145, .bool z3)] a ∧ Hp w V13 [] w') ?_ ?_
                ·
                  refine T.region ?_
                  refine T.pure (.int .i64 r11.2) (by kernel_rfl) (fun _ => by kernel_rfl) ?_
                  refine T.pure (.bool (r11.2 != 0)) (by kernel_rfl) (fun _ => by kernel_rfl) ?_
                  refine T.pure (.bool (r11.2 != 0)) (by kernel_rfl) (fun _ => by kernel_rfl) ?_
                  cases hg6 : (r11.2 != 0)
                  ·
                    skip
                    rw [hg6, cond_false] at hX3
                    refine T.pure (.slice A5 r3.1.length c5) (by kernel_rfl) (fun _ => by kernel_rfl) ?_
                    refine T.pure (.slice A11 r11.1.length c11) (by kernel_rfl) (fun _ => by kernel_rfl) ?_
                    obtain ⟨r12, hb13, hX3⟩ := Option.bind_eq_some_iff.1 hX3
                    refine T.step (W1.call (vSc eBool) r12 29 #[.slice A5 r3.1.length c5, .slice A11 r11.1.length c11] (by kernel_rfl) (fun _ => by kernel_rfl) (fun w' hh => slices_Equal_Elem_l F r3.1 r11.1 r12 hb13 w' A5 c5 (SlOk.mono (SlOk.mono hs5 (View.le_trans (made_le _ _) (View.le_trans hV5 hV12))) hh.view) A11 c11 (SlOk.mono (SlOk.mono hs8 (View.le_trans (made_le _ _) (View.le_refl _))) hh.view)) ?_)
                    intro u V14 hV14 hu
                    obtain rfl := sureBool _ _ _ hu
                    refine T.pure (.bool (!r12)) (by kernel_rfl) (fun _ => by kernel_rfl) ?_
                    refine T.pure (.bool (!r12)) (by kernel_rfl) (fun _ => by kernel_rfl) ?_
                    refine T.nil ?_
                    cases hX3
                    exact fun a w' hf hh => Exists.intro V14 (And.intro hV14 (And.intro ((((((Fr.nil hf).pick hf 145 rfl).pick hf 18 rfl).pick hf 2 rfl).pick hf 1 rfl).pick hf 0 rfl) (hh.sub List.Sublist.slnil)))
                  ·
                    skip
                    rw [hg6, cond_true] at hX3
                    refine T.pass (by kernel_rfl) (by kernel_rfl) ?_
                    refine T.pass (by kernel_rfl) (by kernel_rfl) ?_
                    refine T.pass (by kernel_rfl) (by kernel_rfl) ?_
                    refine T.pass (by kernel_rfl) (by kernel_rfl) ?_
                    refine T.pure (.bool true) (by kernel_rfl) (fun _ => by kernel_rfl) ?_
                    refine T.nil ?_
                    cases hX3
                    exact fun a w' hf hh => Exists.intro V12 (And.intro (View.le_refl _) (And.intro ((((((Fr.nil hf).pick hf 145 rfl).pick hf 18 rfl).pick hf 2 rfl).pick hf 1 rfl).pick hf 0 rfl) (hh.sub List.Sublist.slnil)))
                ·
                  rintro a w' ⟨V13, hV13, hf, hh⟩
                  refine (?_ : T 168 w V13 [] [(0, .slice A1 p0.length c1), (1, .slice A2 p1.length c2), (2, .int .i64 p2), (18, .slice A5 r3.1.length c5), (145, .bool z3)] _) a w' hf hh
                  clear hf hh
                  refine T.cond z3 (by kernel_rfl) (by kernel_rfl) (fun hc6 => ?_) (fun hc6 => ?_)
                  ·
                    rw [hc6, cond_true] at hF
                    refine T.seq ?_
                    refine T.region ?_
                    refine T.pure (.bool false) (by kernel_rfl) (fun _ => by kernel_rfl) ?_
                    refine T.nil ?_
                    cases hF
                    refine T.ret rfl ?_
                    exact T.ret1 rfl (ResIs.tmp rfl) fun w' hh => ⟨_, rfl, hh.below, (show _ from rfl)⟩
                  ·
                    rw [hc6, cond_false] at hF
                    refine T.skip_code ?_
                    refine T.seq ?_
                    refine T.seq ?_
                    refine T.region ?_
                    refine T.pure (.slice A2 p1.length c2) (by kernel_rfl) (fun _ => by kernel_rfl) ?_
                    refine T.pure (.int .i64 (p1.length : Int)) (by kernel_rfl) (fun _ => by kernel_rfl) ?_
                    refine T.pure (.bool (decide ((20 : Int) ≤ (p1.length : Int)))) (by kernel_rfl) (fun _ => by kernel_rfl) ?_
                    refine T.nil ?_
                    refine T.cond (decide ((20 : Int) ≤ (p1.length : Int))) (by kernel_rfl) (by kernel_rfl) (fun hc7 => ?_) (fun hc7 => ?_)
                    ·
                      rw [hc7, cond_true] at hF
                      refine T.seq ?_
                      refine T.region ?_
                      refine T.pure (.bool true) (by kernel_rfl) (fun _ => by kernel_rfl) ?_
                      refine T.nil ?_
                      cases hF
                      refine T.ret rfl ?_
                      exact T.ret1 rfl (ResIs.tmp rfl) fun w' hh => ⟨_, rfl, hh.below, (show _ from rfl)⟩
                    ·
                      rw [hc7, cond_false] at hF
                      refine T.skip_code ?_
                      refine T.seq ?_
                      refine T.region ?_
                      refine T.pure (.slice A1 p0.length c1) (by kernel_rfl) (fun _ => by kernel_rfl) ?_
                      refine T.pure (.slice A2 p1.length c2) (by kernel_rfl) (fun _ => by kernel_rfl) ?_
                      obtain ⟨z4, hX4, hF⟩ := Option.bind_eq_some_iff.1 hF
                      refine T.step (W1.within 51 [.slice A2 p1.length c2] (fun v w' => ∃ (A12 : Option Addr) (c12 : Nat), v = .slice A12 z4.length c12 ∧ Hp w V13 [row 3 eInt A12 c12 z4] w') Try.func51 rfl rfl (by kernel_rfl) (fun _ => by kernel_rfl) rfl ?_ ?_)
                      ·
                        rcases A2 with _ | a2
                        ·
                          have hn2 : p1 = [] := by
                            cases hc : p1 with
                            | nil => rfl
                            | cons q _ => exact absurd (SlOk.some_ (SlOk.mono hs2 (View.le_trans (View.le_trans (View.le_trans (View.le_trans (View.le_trans hV1 hV2) hV3) hV5) hV12) hV13)) (k := 0) (x := q) (by rw [hc]; rfl) (by decide)) (by decide)
                          obtain ⟨_, _, hq2⟩ := Option.bind_eq_some_iff.1 hX4
                          rw [hn2] at hq2
                          refine T.seq ?_
                          refine T.region ?_
                          refine T.pure (.slice none 0 0) (by kernel_rfl) (fun _ => by kernel_rfl) ?_
                          refine T.nil ?_
                          refine T.seq ?_
                          refine T.seq ?_
                          refine T.region ?_
                          refine T.pure (.slice none p1.length c2) (by kernel_rfl) (fun _ => by kernel_rfl) ?_
                          refine T.pure (.bool true) (by kernel_rfl) (fun _ => by kernel_rfl) ?_
                          refine T.nil ?_
                          refine T.cond true (by kernel_rfl) (by kernel_rfl) (fun _ => ?_) (fun h => Bool.noConfusion h)
                          refine T.seq ?_
                          refine T.region ?_
                          refine T.pure (.slice none 0 0) (by kernel_rfl) (fun _ => by kernel_rfl) ?_
                          refine T.nil ?_
                          refine T.rownil 3 eInt ?_
                          cases hq2
                          refine T.ret rfl ?_
                          repeat first | refine T.unthen ?_ | refine T.unblock ?_
                          exact T.ret1 rfl (ResIs.tmp rfl) fun w' hh => ⟨_, rfl, Exists.intro none (Exists.intro 0 (And.intro rfl (hh.sub (.cons_cons _ List.Sublist.slnil))))⟩
                        ·
                          refine T.seq ?_
                          refine T.region ?_
                          refine T.pure (.slice none 0 0) (by kernel_rfl) (fun _ => by kernel_rfl) ?_
                          refine T.nil ?_
                          refine T.seq ?_
                          refine T.seq ?_
                          refine T.region ?_
                          refine T.pure (.slice (some a2) p1.length c2) (by kernel_rfl) (fun _ => by kernel_rfl) ?_
                          refine T.pure (.bool false) (by kernel_rfl) (fun _ => by kernel_rfl) ?_
                          refine T.nil ?_
                          refine T.cond false (by kernel_rfl) (by kernel_rfl) (fun h => Bool.noConfusion h) (fun _ => ?_)
                          refine T.skip_code ?_
                          refine T.seq ?_
                          refine T.region ?_
                          refine T.step (W1.new 3 [] (fun b => .slice (some ⟨b, 0, none⟩) 0 0) (by kernel_rfl) (fun _ => by kernel_rfl) (fun b13 => ?_))
                          refine T.pure (.slice (some a2) p1.length c2) (by kernel_rfl) (fun _ => by kernel_rfl) ?_
                          refine (fun (h : T _ _ _ ((row 3 eInt (some ⟨b13, 0, none⟩) 0 ([] : List Int)) :: _) _ _) => (fun a w' hf hh => h a w' hf (hh.fresh_obj (row 3 eInt (some ⟨b13, 0, none⟩) 0 ([] : List Int)) ⟨rfl, rfl, rfl, Nat.le_refl _, fun _ _ _ => rfl⟩ ⟨Nat.le_refl _, by decide, .inl rfl⟩ (fun b hb => by cases hb)) : T _ _ _ _ _ _)) ?_
                          obtain ⟨y4, hb14, hX4⟩ := Option.bind_eq_some_iff.1 hX4
                          obtain ⟨hb14_r, hb14_m, rfl⟩ := grow_some hb14
                          obtain ⟨ti, hti, hz1, hz2, hz3⟩ := info_parts (P := Try.prog) (e := 3) (z := .int .i64 0) (size := 1) (bytes := 8) (by kernel_rfl)
                          refine T.step (W1.append (E := eInt) (l := ([] : List Int)) (m := p1) 0 _ _ 8 ti _ (by rfl) (by kernel_rfl) rfl (by kernel_rfl) hti hz1 hz2 hz3 rfl (by decide) rfl rfl (fun w' hh => (SlOk.srcF (SlOk.mono (SlOk.mono hs2 (View.le_trans (View.le_trans (View.le_trans (View.le_trans (View.le_trans hV1 hV2) hV3) hV5) hV12) hV13)) hh.view) (fun _ _ _ _ h => h))) hb14_r hb14_m (fun A13 c13 => ?_))
                          refine T.pure (.slice A13 ((([] : List Int) ++ p1).length) c13) (by kernel_rfl) (fun _ => by kernel_rfl) ?_
                          refine T.nil ?_
                          cases hX4
                          refine T.ret rfl ?_
                          repeat first | refine T.unthen ?_ | refine T.unblock ?_
                          exact T.ret1 rfl (ResIs.tmp rfl) fun w' hh => ⟨_, rfl, Exists.intro A13 (Exists.intro c13 (And.intro rfl (hh.sub (.cons_cons _ (.cons _ List.Sublist.slnil)))))⟩
                      ·
                        rintro v w' ⟨A12, c12, rfl, hh⟩
                        refine ⟨V13, [row 3 eInt A12 c12 z4], hh, ?_⟩
                        clear hh
                        refine T.pure (.int .i64 p2) (by kernel_rfl) (fun _ => by kernel_rfl) ?_
                        obtain ⟨r15, hb15, hF⟩ := Option.bind_eq_some_iff.1 hF
                        refine T.step (W1.call (vSc eInt) r15 32 #[.int .i64 p2, .int .i64 100] (by kernel_rfl) (fun _ => by kernel_rfl) (fun w' hh => annalkeep_Within_l p2 100 r15 hb15 w' ) ?_)
                        intro u V15 hV15 hu
                        obtain rfl := sureInt _ _ _ hu
                        refine T.step (W1.new 3 [.int .i64 r15] (fun b => .slice (some ⟨b, 0, none⟩) 1 1) (by kernel_rfl) (fun _ => by kernel_rfl) (fun b14 => ?_))
                        obtain ⟨y5, hb16, hF⟩ := Option.bind_eq_some_iff.1 hF
                        obtain ⟨hb16_r, hb16_m, rfl⟩ := grow_some hb16
                        obtain ⟨ti, hti, hz1, hz2, hz3⟩ := info_parts (P := Try.prog) (e := 3) (z := .int .i64 0) (size := 1) (bytes := 8) (by kernel_rfl)
                        refine T.step (W1.append (E := eInt) (l := z4) (m := [r15]) 1 _ _ 8 ti _ (by rfl) (by kernel_rfl) rfl (by kernel_rfl) hti hz1 hz2 hz3 rfl (by decide) rfl rfl (fun w' hh => (SlOk.srcF (slok_lit (E := eInt) (f := (fun x => [.int .i64 x])) [r15] (fun _ _ => rfl) (Nat.le_of_ble_eq_true (by rfl)) (fun j => hh.cellBox (i := 0) (by rfl) j)) (fun _ _ _ _ h => h))) hb16_r hb16_m (fun A14 c14 => ?_))
                        obtain ⟨r16, hb17, hF⟩ := Option.bind_eq_some_iff.1 hF
                        refine T.step (W1.call (vT2 (vSc (eList eElem)) (vSc eInt)) r16 39 #[.slice A1 p0.length c1, .slice A14 ((z4 ++ [r15]).length) c14] (by kernel_rfl) (fun _ => by kernel_rfl) (fun w' hh => prune_Kept_l F p0 (z4 ++ [r15]) r16 hb17 w' A1 c1 (SlOk.mono (SlOk.mono hs1 (View.le_trans (View.le_trans (View.le_trans (View.le_trans (View.le_trans (View.le_trans hV1 hV2) hV3) hV5) hV12) hV13) hV15)) hh.view) A14 c14 (hh.row_slOk (i := 1) (by rfl))) ?_)
                        intro u V16 hV16 hu
                        obtain ⟨u13, u14, rfl, hu13, hu14⟩ := vT2_elim hu
                        obtain ⟨A15, c15, rfl, hs9⟩ := vlist_elim hu13
                        obtain rfl := sureInt _ _ _ hu14
                        refine T.pure (.tuple #[.slice A15 r16.1.length c15, .int .i64 r16.2]) (by kernel_rfl) (fun _ => by kernel_rfl) ?_
                        refine T.pure (.slice A15 r16.1.length c15) (by kernel_rfl) (fun _ => by kernel_rfl) ?_
                        refine T.pure (.int .i64 r16.2) (by kernel_rfl) (fun _ => by kernel_rfl) ?_
                        refine T.step (W1.new 22 [.slice none 0 0] (fun b => .pointer (some ⟨b, 0, none⟩)) (by kernel_rfl) (fun _ => by kernel_rfl) (fun b15 => ?_))
                        refine T.step (W1.store 0 [.slice A15 r16.1.length c15] [box b15 22 [.slice A15 r16.1.length c15], box b14 3 [.int .i64 r15], row 3 eInt A14 c14 (z4 ++ [r15])] (by rfl) rfl (by kernel_rfl) (fun w' hw => exec_store (vs := [.slice A15 r16.1.length c15]) rfl rfl rfl rfl (by kernel_rfl) (one_of rfl) (by simp) rfl hw) ?_)
                        refine T.pure (.int .i64 r16.2) (by kernel_rfl) (fun _ => by kernel_rfl) ?_
                        refine T.nil ?_
                        obtain ⟨z5, hX5, hF⟩ := Option.bind_eq_some_iff.1 hF
                        refine T.cut (fun a w' => ∃ (V17 : View), View.le V16 V17 ∧ Fr 168 [(12, .bool z5)] a ∧ Hp w V17 [] w') ?_ ?_
                        ·
                          refine T.region ?_
                          refine T.pure (.int .i64 r16.2) (by kernel_rfl) (fun _ => by kernel_rfl) ?_
                          refine T.pure (.bool (r16.2 == 0)) (by kernel_rfl) (fun _ => by kernel_rfl) ?_
                          refine T.pure (.bool (r16.2 == 0)) (by kernel_rfl) (fun _ => by kernel_rfl) ?_
                          cases hg7 : (r16.2 == 0)
                          ·
                            skip
                            rw [hg7, cond_false] at hX5
                            refine T.pass (by kernel_rfl) (by kernel_rfl) ?_
                            refine T.pass (by kernel_rfl) (by kernel_rfl) ?_
                            refine T.pass (by kernel_rfl) (by kernel_rfl) ?_
                            refine T.pass (by kernel_rfl) (by kernel_rfl) ?_
                            refine T.pure (.bool false) (by kernel_rfl) (fun _ => by kernel_rfl) ?_
                            refine T.pure (.bool false) (by kernel_rfl) (fun _ => by kernel_rfl) ?_
                            refine T.nil ?_
                            cases hX5
                            exact fun a w' hf hh => Exists.intro V16 (And.intro (View.le_refl _) (And.intro ((Fr.nil hf).pick hf 12 rfl) (hh.sub (.cons _ (.cons _ (.cons _ List.Sublist.slnil))))))
                          ·
                            skip
                            rw [hg7, cond_true] at hX5
                            refine T.pure (.slice A5 r3.1.length c5) (by kernel_rfl) (fun _ => by kernel_rfl) ?_
                            refine T.pure (.func (.func 53) #[] #[.pointer (some ⟨b15, 0, none⟩)]) (by kernel_rfl) (fun _ => by kernel_rfl) ?_
                            obtain ⟨z6, hX6, hX5⟩ := Option.bind_eq_some_iff.1 hX5
                            refine T.step (W1.within 52 [.slice A5 r3.1.length c5, .func (.func 53) #[] #[.pointer (some ⟨b15, 0, none⟩)]] (fun v w' => ∃ (V18 : View), View.le V16 V18 ∧ v = .bool z6 ∧ Hp w V18 [box b15 22 [.slice A15 r16.1.length c15]] w') Try.func52 rfl rfl (by kernel_rfl) (fun _ => by kernel_rfl) rfl ?_ ?_)
                            ·
                              refine T.seq ?_
                              refine T.region ?_
                              refine T.pure (.bool false) (by kernel_rfl) (fun _ => by kernel_rfl) ?_
                              refine T.nil ?_
                              refine T.seq ?_
                              refine T.region ?_
                              refine T.pure (.slice A5 r3.1.length c5) (by kernel_rfl) (fun _ => by kernel_rfl) ?_
                              refine T.pure (.func (.func 53) #[] #[.pointer (some ⟨b15, 0, none⟩)]) (by kernel_rfl) (fun _ => by kernel_rfl) ?_
                              obtain ⟨z7, hX7, hX6⟩ := Option.bind_eq_some_iff.1 hX6
                              refine T.step (W1.within 75 [.slice A5 r3.1.length c5, .func (.func 53) #[] #[.pointer (some ⟨b15, 0, none⟩)]] (fun v w' => ∃ (V19 : View), View.le V16 V19 ∧ v = .int .i64 z7 ∧ Hp w V19 [box b15 22 [.slice A15 r16.1.length c15]] w') Try.func75 rfl rfl (by kernel_rfl) (fun _ => by kernel_rfl) rfl ?_ ?_)
                              ·
                                refine T.seq ?_
                                refine T.region ?_
                                refine T.pure (.int .i64 0) (by kernel_rfl) (fun _ => by kernel_rfl) ?_
                                refine T.nil ?_
                                refine T.seq ?_
                                refine T.seq ?_
                                refine T.region ?_
                                refine T.pure (.slice A5 r3.1.length c5) (by kernel_rfl) (fun _ => by kernel_rfl) ?_
                                refine T.pure (.int .i64 (r3.1.length : Int)) (by kernel_rfl) (fun _ => by kernel_rfl) ?_
                                refine T.pure (.int .i64 0) (by kernel_rfl) (fun _ => by kernel_rfl) ?_
                                refine T.nil ?_
                                obtain ⟨q2, hz2, hX7⟩ := Option.bind_eq_some_iff.1 hX7
                                refine T.mid (fun a w' => q2 = Sum.inl () ∧ ∃ (V21 : View), View.le V16 V21 ∧ Fr 19 [] a ∧ Hp w V21 [box b15 22 [.slice A15 r16.1.length c15]] w') ?_ ?_
                                ·
                                  refine T.block ?_
                                  refine T.iter (fun x2 a w' => ∃ (V20 : View), View.le V16 V20 ∧ Fr 19 [(0, .slice A5 r3.1.length c5), (1, .func (.func 53) #[] #[.pointer (some ⟨b15, 0, none⟩)]), (7, .int .i64 (r3.1.length : Int)), (8, .int .i64 x2)] a ∧ Hp w V20 [box b15 22 [.slice A15 r16.1.length c15]] w') hz2 ?_ ?_
                                  ·
                                    exact fun a w' hf hh => Exists.intro V16 (And.intro (View.le_refl _) (And.intro (((((Fr.nil hf).pick hf 8 rfl).pick hf 7 rfl).pick hf 1 rfl).pick hf 0 rfl) (hh.sub (.cons_cons _ (.cons _ (.cons _ List.Sublist.slnil))))))
                                  ·
                                    rintro x2 y6 hY2 hr2 a w' ⟨V20, hV20, hf, hh⟩
                                    refine (?_ : T 19 w V20 [box b15 22 [.slice A15 r16.1.length c15]] [(0, .slice A5 r3.1.length c5), (1, .func (.func 53) #[] #[.pointer (some ⟨b15, 0, none⟩)]), (7, .int .i64 (r3.1.length : Int)), (8, .int .i64 x2)] _) a w' hf hh
                                    clear hf hh
                                    try dsimp only at hY2
                                    refine T.seq ?_
                                    refine T.region ?_
                                    refine T.pure (.bool (decide (x2 < (r3.1.length : Int)))) (by kernel_rfl) (fun _ => by kernel_rfl) ?_
                                    refine T.nil ?_
                                    refine T.seq ?_
                                    refine T.cond (decide (x2 < (r3.1.length : Int))) (by kernel_rfl) (by kernel_rfl) (fun hc8 => ?_) (fun hc8 => ?_)
                                    ·
                                      rw [hc8, cond_true] at hY2
                                      refine T.skip_code ?_
                                      refine T.seq ?_
                                      refine T.block ?_
                                      refine T.seq ?_
                                      refine T.region ?_
                                      refine T.pure (.int .i64 x2) (by kernel_rfl) (fun _ => by kernel_rfl) ?_
                                      refine T.pure (.int .i64 x2) (by kernel_rfl) (fun _ => by kernel_rfl) ?_
                                      refine T.nil ?_
                                      refine T.seq ?_
                                      refine T.region ?_
                                      refine T.pure (.func (.func 53) #[] #[.pointer (some ⟨b15, 0, none⟩)]) (by kernel_rfl) (fun _ => by kernel_rfl) ?_
                                      refine T.pure (.slice A5 r3.1.length c5) (by kernel_rfl) (fun _ => by kernel_rfl) ?_
                                      refine T.pure (.int .i64 x2) (by kernel_rfl) (fun _ => by kernel_rfl) ?_
                                      obtain ⟨e2, hb18, hY2⟩ := Option.bind_eq_some_iff.1 hY2
                                      obtain ⟨hi4, hi5, hi6⟩ := idx_some hb18
                                      refine T.look (.pointer (some ((sadr A5).add (x2.toNat * 6)))) (by kernel_rfl) (fun w' hh => exec_indexAddr (e := 26) (s := 6) rfl rfl rfl (by kernel_rfl) (by kernel_rfl) hi4 hi5 ((SlOk.mono hs5 (View.le_trans (made_le _ _) (View.le_trans (View.le_trans (View.le_trans (View.le_trans (View.le_trans hV5 hV12) hV13) hV15) hV16) hV20))).some_ hi6 (by decide))) ?_
                                      refine T.look (.agg #[.int .i64 e2.key.pfs, .int .i64 e2.key.obj, .int .i64 e2.key.off, .int .i64 e2.made, .int .i64 e2.gone, .string e2.val]) (by kernel_rfl) (fun w' hh => exec_loadN (cs := [.int .i64 e2.key.pfs, .int .i64 e2.key.obj, .int .i64 e2.key.off, .int .i64 e2.made, .int .i64 e2.gone, .string e2.val]) rfl rfl (by kernel_rfl) (by kernel_rfl) (fun j u hj => (hh.cell_view (SlOk.cellF (E := eElem) (SlOk.mono hs5 (View.le_trans (made_le _ _) (View.le_trans (View.le_trans (View.le_trans (View.le_trans (View.le_trans hV5 hV12) hV13) hV15) hV16) hV20))) hi6 j (fun _ _ _ h => h) hj)))) ?_
                                      obtain ⟨z8, hX8, hY2⟩ := Option.bind_eq_some_iff.1 hY2
                                      refine T.step (W1.within 53 [.agg #[.int .i64 e2.key.pfs, .int .i64 e2.key.obj, .int .i64 e2.key.off, .int .i64 e2.made, .int .i64 e2.gone, .string e2.val], .pointer (some ⟨b15, 0, none⟩)] (fun v w' => ∃ (V22 : View), View.le V20 V22 ∧ v = .bool z8 ∧ Hp w V22 [box b15 22 [.slice A15 r16.1.length c15]] w') Try.func53 rfl rfl (by kernel_rfl) (fun _ => by kernel_rfl) rfl ?_ ?_)
                                      ·
                                        refine T.seq ?_
                                        refine T.region ?_
                                        refine T.step (W1.new 26 [.int .i64 e2.key.pfs, .int .i64 e2.key.obj, .int .i64 e2.key.off, .int .i64 e2.made, .int .i64 e2.gone, .string e2.val] (fun b => .pointer (some ⟨b, 0, none⟩)) (by kernel_rfl) (fun _ => by kernel_rfl) (fun b16 => ?_))
                                        refine T.pure (.bool false) (by kernel_rfl) (fun _ => by kernel_rfl) ?_
                                        refine T.nil ?_
                                        refine T.seq ?_
                                        refine T.region ?_
                                        refine T.look (.slice A15 r16.1.length c15) (by kernel_rfl) (fun w' hh => exec_load1 rfl rfl (by kernel_rfl) (hh.cellBox (i := 1) (by rfl) 0)) ?_
                                        refine T.look (.agg #[.int .i64 e2.key.pfs, .int .i64 e2.key.obj, .int .i64 e2.key.off, .int .i64 e2.made, .int .i64 e2.gone, .string e2.val]) (by kernel_rfl) (fun w' hh => exec_loadN (cs := [.int .i64 e2.key.pfs, .int .i64 e2.key.obj, .int .i64 e2.key.off, .int .i64 e2.made, .int .i64 e2.gone, .string e2.val]) rfl rfl (by kernel_rfl) (by kernel_rfl) (fun j u hj => (hh.box_at (i := 0) (cs := [.int .i64 e2.key.pfs, .int .i64 e2.key.obj, .int .i64 e2.key.off, .int .i64 e2.made, .int .i64 e2.gone, .string e2.val]) (by rfl) 0 j).trans (seg_at (n := 6) rfl hj))) ?_
                                        obtain ⟨r17, hb19, hX8⟩ := Option.bind_eq_some_iff.1 hX8
                                        refine T.step (W1.call (vSc eBool) r17 40 #[.slice A15 r16.1.length c15, .agg #[.int .i64 e2.key.pfs, .int .i64 e2.key.obj, .int .i64 e2.key.off, .int .i64 e2.made, .int .i64 e2.gone, .string e2.val]] (by kernel_rfl) (fun _ => by kernel_rfl) (fun w' hh => slices_Contains_Elem_l F r16.1 e2 r17 hb19 w' A15 c15 (SlOk.mono (SlOk.mono hs9 (View.le_trans (made_le _ _) hV20)) hh.view)) ?_)
                                        intro u V23 hV23 hu
                                        obtain rfl := sureBool _ _ _ hu
                                        refine T.pure (.bool (!r17)) (by kernel_rfl) (fun _ => by kernel_rfl) ?_
                                        refine T.pure (.bool (!r17)) (by kernel_rfl) (fun _ => by kernel_rfl) ?_
                                        refine T.nil ?_
                                        cases hX8
                                        refine T.ret rfl ?_
                                        exact T.ret1 rfl (ResIs.tmp rfl) fun w' hh => ⟨_, rfl, Exists.intro V23 (And.intro hV23 (And.intro rfl (hh.sub (.cons _ (.cons_cons _ List.Sublist.slnil)))))⟩
                                      ·
                                        rintro v w' ⟨V22, hV22, rfl, hh⟩
                                        refine ⟨V22, [box b15 22 [.slice A15 r16.1.length c15]], hh, ?_⟩
                                        clear hh
                                        refine T.nil ?_
                                        refine T.cond z8 (by kernel_rfl) (by kernel_rfl) (fun hc9 => ?_) (fun hc9 => ?_)
                                        ·
                                          rw [hc9, cond_true] at hY2
                                          refine T.seq ?_
                                          refine T.region ?_
                                          refine T.pure (.int .i64 x2) (by kernel_rfl) (fun _ => by kernel_rfl) ?_
                                          refine T.pure (.int .i64 x2) (by kernel_rfl) (fun _ => by kernel_rfl) ?_
                                          refine T.nil ?_
                                          cases hY2
                                          cases (hr2 _ rfl)
                                          try dsimp only at hX7
                                          cases hX7
                                          refine T.ret rfl ?_
                                          repeat first | refine T.unthen ?_ | refine T.unblock ?_
                                          exact T.ret1 rfl (ResIs.tmp rfl) fun w' hh => ⟨_, rfl, Exists.intro V22 (And.intro (View.le_trans hV20 hV22) (And.intro rfl (hh.sub (.cons_cons _ List.Sublist.slnil))))⟩
                                        ·
                                          rw [hc9, cond_false] at hY2
                                          refine T.skip_code ?_
                                          refine T.region ?_
                                          refine T.pure (.int .i64 (IntKind.i64.wrap (x2 + 1))) (by kernel_rfl) (fun _ => by kernel_rfl) ?_
                                          refine T.pure (.int .i64 (IntKind.i64.wrap (x2 + 1))) (by kernel_rfl) (fun _ => by kernel_rfl) ?_
                                          refine T.nil ?_
                                          cases hY2
                                          exact fun a w' hf hh => Exists.intro (IntKind.i64.wrap (x2 + 1)) (And.intro rfl (Exists.intro V22 (And.intro (View.le_trans hV20 hV22) (And.intro (((((Fr.nil hf).pick hf 8 rfl).pick hf 7 rfl).pick hf 1 rfl).pick hf 0 rfl) (hh.sub (.cons_cons _ List.Sublist.slnil))))))
                                    ·
                                      rw [hc8, cond_false] at hY2
                                      refine T.exit ?_
                                      cases hY2
                                      cases (hr2 _ rfl)
                                      exact fun a w' hf hh => And.intro rfl (Exists.intro V20 (And.intro hV20 (And.intro (Fr.nil hf) (hh.sub (.cons_cons _ List.Sublist.slnil)))))
                                ·
                                  rintro a w' ⟨rfl, V21, hV21, hf, hh⟩
                                  try dsimp only at hX7
                                  refine (?_ : T 19 w V21 [box b15 22 [.slice A15 r16.1.length c15]] [] _) a w' hf hh
                                  clear hf hh
                                  refine T.seq ?_
                                  refine T.region ?_
                                  refine T.pure (.int .i64 (-1)) (by kernel_rfl) (fun _ => by kernel_rfl) ?_
                                  refine T.nil ?_
                                  cases hX7
                                  refine T.ret rfl ?_
                                  repeat first | refine T.unthen ?_ | refine T.unblock ?_
                                  exact T.ret1 rfl (ResIs.tmp rfl) fun w' hh => ⟨_, rfl, Exists.intro V21 (And.intro hV21 (And.intro rfl (hh.sub (.cons_cons _ List.Sublist.slnil))))⟩
                              ·
                                rintro v w' ⟨V19, hV19, rfl, hh⟩
                                refine ⟨V19, [box b15 22 [.slice A15 r16.1.length c15]], hh, ?_⟩
                                clear hh
                                refine T.pure (.bool (decide ((0 : Int) ≤ z7))) (by kernel_rfl) (fun _ => by kernel_rfl) ?_
                                refine T.pure (.bool (decide ((0 : Int) ≤ z7))) (by kernel_rfl) (fun _ => by kernel_rfl) ?_
                                refine T.nil ?_
                                cases hX6
                                refine T.ret rfl ?_
                                exact T.ret1 rfl (ResIs.tmp rfl) fun w' hh => ⟨_, rfl, Exists.intro V19 (And.intro hV19 (And.intro rfl (hh.sub (.cons_cons _ List.Sublist.slnil))))⟩
                            ·
                              rintro v w' ⟨V18, hV18, rfl, hh⟩
                              refine ⟨V18, [box b15 22 [.slice A15 r16.1.length c15]], hh, ?_⟩
                              clear hh
                              refine T.pure (.bool (!z6)) (by kernel_rfl) (fun _ => by kernel_rfl) ?_
                              refine T.pure (.bool (!z6)) (by kernel_rfl) (fun _ => by kernel_rfl) ?_
                              refine T.pure (.bool (!z6)) (by kernel_rfl) (fun _ => by kernel_rfl) ?_
                              refine T.nil ?_
                              cases hX5
                              exact fun a w' hf hh => Exists.intro V18 (And.intro hV18 (And.intro ((Fr.nil hf).pick hf 12 rfl) (hh.sub (.cons _ List.Sublist.slnil))))
                        ·
                          rintro a w' ⟨V17, hV17, hf, hh⟩
                          refine (?_ : T 168 w V17 [] [(12, .bool z5)] _) a w' hf hh
                          clear hf hh
                          cases hF
                          refine T.ret rfl ?_
                          exact T.ret1 rfl (ResIs.tmp rfl) fun w' hh => ⟨_, rfl, hh.below, (show _ from rfl)⟩

end Go.Proofs.Ytiaoncjkfgebdaa
