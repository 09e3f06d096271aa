/- The Go functions of group WPageApart compute the pure functions of that group: written by walkgen.py. Condition of each: the pure function yields a result. -/
import Derived.Test.YtldlakjemifdmaaPageL
import Derived.Test.YtldlakjemifdmaaWPageApartF
import Derived.Test.YtldlakjemifdmaaEqL
namespace Go.Proofs.Ytldlakjemifdmaa
set_option linter.unusedVariables false

set_option maxRecDepth 100000 in
set_option maxHeartbeats 4000000 in
theorem annalkeep_PageApart_l (F : Nat) (p0 : DNode) (p1 : DNode) (r : Bool) (hF : annalkeep_PageApart F p0 p1 = some r) (w : World) (A1 : Option Addr) (c1 : Nat) (hs1 : SlOk (vw w) eElem A1 c1 p0.elems) (A2 : Option Addr) (c2 : Nat) (hs2 : SlOk (vw w) eInt A2 c2 p0.kids) (A3 : Option Addr) (c3 : Nat) (hs3 : SlOk (vw w) eSpot A3 c3 p0.seps) (A4 : Option Addr) (c4 : Nat) (hs4 : SlOk (vw w) eInt A4 c4 p0.tids) (A5 : Option Addr) (c5 : Nat) (hs5 : SlOk (vw w) eElem A5 c5 p1.elems) (A6 : Option Addr) (c6 : Nat) (hs6 : SlOk (vw w) eInt A6 c6 p1.kids) (A7 : Option Addr) (c7 : Nat) (hs7 : SlOk (vw w) eSpot A7 c7 p1.seps) (A8 : Option Addr) (c8 : Nat) (hs8 : SlOk (vw w) eInt A8 c8 p1.tids) :
    Calls Try.prog 7 #[.agg #[.int .i64 p0.kind, .slice A1 p0.elems.length c1, .slice A2 p0.kids.length c2, .slice A3 p0.seps.length c3, .slice A4 p0.tids.length c4], .agg #[.int .i64 p1.kind, .slice A5 p1.elems.length c5, .slice A6 p1.kids.length c6, .slice A7 p1.seps.length c7, .slice A8 p1.tids.length c8]] w (Post (vSc eBool) r w) := by
  unfold annalkeep_PageApart at hF
  refine T.start (l := [.agg #[.int .i64 p0.kind, .slice A1 p0.elems.length c1, .slice A2 p0.kids.length c2, .slice A3 p0.seps.length c3, .slice A4 p0.tids.length c4], .agg #[.int .i64 p1.kind, .slice A5 p1.elems.length c5, .slice A6 p1.kids.length c6, .slice A7 p1.seps.length c7, .slice A8 p1.tids.length c8]]) Try.func7 rfl rfl rfl ?_
  refine T.seq ?_
  refine T.region ?_
  refine T.step (W1.new 26 [.int .i64 p0.kind, .slice A1 p0.elems.length c1, .slice A2 p0.kids.length c2, .slice A3 p0.seps.length c3, .slice A4 p0.tids.length c4] (fun b => .pointer (some ⟨b, 0, none⟩)) (by kernel_rfl) (fun _ => by kernel_rfl) (fun b1 => ?_))
  refine T.step (W1.new 26 [.int .i64 p1.kind, .slice A5 p1.elems.length c5, .slice A6 p1.kids.length c6, .slice A7 p1.seps.length c7, .slice A8 p1.tids.length c8] (fun b => .pointer (some ⟨b, 0, none⟩)) (by kernel_rfl) (fun _ => by kernel_rfl) (fun b2 => ?_))
  refine T.pure (.bool false) (by kernel_rfl) (fun _ => by kernel_rfl) ?_
  refine T.nil ?_
  refine T.seq ?_
  refine T.seq ?_
  refine T.region ?_
  refine T.pure (.agg #[.int .i64 0, .slice none 0 0, .slice none 0 0, .slice none 0 0, .slice none 0 0]) (by kernel_rfl) (fun _ => by kernel_rfl) ?_
  obtain ⟨r1, hb1, hF⟩ := Option.bind_eq_some_iff.1 hF
  refine T.step (W1.call (vT2 (vSc eStr) (vSc eInt)) r1 34 #[.agg #[.int .i64 0, .slice none 0 0, .slice none 0 0, .slice none 0 0, .slice none 0 0]] (by kernel_rfl) (fun _ => by kernel_rfl) (fun w' hh => page_Write_l F (DNode.mk 0 [] [] [] []) r1 hb1 w' none 0 (SlOk.nil _ _) none 0 (SlOk.nil _ _) none 0 (SlOk.nil _ _) none 0 (SlOk.nil _ _)) ?_)
  intro u V1 hV1 hu
  obtain rfl := (Sure.t2 sureStr sureInt) _ _ _ hu
  refine T.pure (.tuple #[.string r1.1, .int .i64 r1.2]) (by kernel_rfl) (fun _ => by kernel_rfl) ?_
  refine T.pure (.string r1.1) (by kernel_rfl) (fun _ => by kernel_rfl) ?_
  refine T.pure (.int .i64 r1.2) (by kernel_rfl) (fun _ => by kernel_rfl) ?_
  refine T.pure (.string r1.1) (by kernel_rfl) (fun _ => by kernel_rfl) ?_
  refine T.pure (.int .i64 r1.2) (by kernel_rfl) (fun _ => by kernel_rfl) ?_
  refine T.nil ?_
  obtain ⟨z1, hX1, hF⟩ := Option.bind_eq_some_iff.1 hF
  refine T.cut (fun a w' => Fr 57 [(2, .pointer (some ⟨b1, 0, none⟩)), (3, .pointer (some ⟨b2, 0, none⟩)), (27, .bool z1)] a ∧ Hp w V1 [box b2 26 [.int .i64 p1.kind, .slice A5 p1.elems.length c5, .slice A6 p1.kids.length c6, .slice A7 p1.seps.length c7, .slice A8 p1.tids.length c8], box b1 26 [.int .i64 p0.kind, .slice A1 p0.elems.length c1, .slice A2 p0.kids.length c2, .slice A3 p0.seps.length c3, .slice A4 p0.tids.length c4]] w') ?_ ?_
  ·
    refine T.region ?_
    refine T.pure (.int .i64 r1.2) (by kernel_rfl) (fun _ => by kernel_rfl) ?_
    refine T.pure (.bool (r1.2 != 0)) (by kernel_rfl) (fun _ => by kernel_rfl) ?_
    refine T.pure (.bool (r1.2 != 0)) (by kernel_rfl) (fun _ => by kernel_rfl) ?_
    cases hg1 : (r1.2 != 0)
    ·
      skip
      rw [hg1, cond_false] at hX1
      refine T.pure (.string r1.1) (by kernel_rfl) (fun _ => by kernel_rfl) ?_
      refine T.pure (.int .i64 (r1.1.size : Int)) (by kernel_rfl) (fun _ => by kernel_rfl) ?_
      refine T.pure (.bool (decide ((r1.1.size : Int) < 3))) (by kernel_rfl) (fun _ => by kernel_rfl) ?_
      refine T.pure (.bool (decide ((r1.1.size : Int) < 3))) (by kernel_rfl) (fun _ => by kernel_rfl) ?_
      refine T.pure (.bool (decide ((r1.1.size : Int) < 3))) (by kernel_rfl) (fun _ => by kernel_rfl) ?_
      cases hg2 : decide ((r1.1.size : Int) < 3)
      ·
        skip
        rw [hg2, cond_false] at hX1
        refine T.pure (.string r1.1) (by kernel_rfl) (fun _ => by kernel_rfl) ?_
        obtain ⟨s1, hb2, hX1⟩ := Option.bind_eq_some_iff.1 hX1
        refine T.look (.string s1) (by kernel_rfl) (fun w' hh => exec_slice_str_hi rfl rfl rfl (by kernel_rfl) hb2) ?_
        refine T.pure (.bool (!(seq s1 (ByteArray.mk #[1, 0, 0])))) (by kernel_rfl) (fun _ => by kernel_rfl) ?_
        refine T.pure (.bool (!(seq s1 (ByteArray.mk #[1, 0, 0])))) (by kernel_rfl) (fun _ => by kernel_rfl) ?_
        refine T.nil ?_
        cases hX1
        exact fun a w' hf hh => And.intro ((((Fr.nil hf).pick hf 27 rfl).pick hf 3 rfl).pick hf 2 rfl) (hh.sub (.cons_cons _ (.cons_cons _ List.Sublist.slnil)))
      ·
        skip
        rw [hg2, cond_true] at hX1
        refine T.pass (by kernel_rfl) (by kernel_rfl) ?_
        refine T.pass (by kernel_rfl) (by kernel_rfl) ?_
        refine T.pass (by kernel_rfl) (by kernel_rfl) ?_
        refine T.pure (.bool true) (by kernel_rfl) (fun _ => by kernel_rfl) ?_
        refine T.nil ?_
        cases hX1
        exact fun a w' hf hh => And.intro ((((Fr.nil hf).pick hf 27 rfl).pick hf 3 rfl).pick hf 2 rfl) (hh.sub (.cons_cons _ (.cons_cons _ List.Sublist.slnil)))
    ·
      skip
      rw [hg1, cond_true] at hX1
      refine T.pass (by kernel_rfl) (by kernel_rfl) ?_
      refine T.pass (by kernel_rfl) (by kernel_rfl) ?_
      refine T.pass (by kernel_rfl) (by kernel_rfl) ?_
      refine T.pure (.bool true) (by kernel_rfl) (fun _ => by kernel_rfl) ?_
      refine T.pure (.bool true) (by kernel_rfl) (fun _ => by kernel_rfl) ?_
      refine T.pass (by kernel_rfl) (by kernel_rfl) ?_
      refine T.pass (by kernel_rfl) (by kernel_rfl) ?_
      refine T.pass (by kernel_rfl) (by kernel_rfl) ?_
      refine T.pure (.bool true) (by kernel_rfl) (fun _ => by kernel_rfl) ?_
      refine T.nil ?_
      cases hX1
      exact fun a w' hf hh => And.intro ((((Fr.nil hf).pick hf 27 rfl).pick hf 3 rfl).pick hf 2 rfl) (hh.sub (.cons_cons _ (.cons_cons _ List.Sublist.slnil)))
  ·
    rintro a w' ⟨hf, hh⟩
    refine (?_ : T 57 w V1 [box b2 26 [.int .i64 p1.kind, .slice A5 p1.elems.length c5, .slice A6 p1.kids.length c6, .slice A7 p1.seps.length c7, .slice A8 p1.tids.length c8], box b1 26 [.int .i64 p0.kind, .slice A1 p0.elems.length c1, .slice A2 p0.kids.length c2, .slice A3 p0.seps.length c3, .slice A4 p0.tids.length c4]] [(2, .pointer (some ⟨b1, 0, none⟩)), (3, .pointer (some ⟨b2, 0, none⟩)), (27, .bool z1)] _) a w' hf hh
    clear hf hh
    refine T.cond z1 (by kernel_rfl) (by kernel_rfl) (fun hc1 => ?_) (fun hc1 => ?_)
    ·
      rw [hc1, cond_true] at hF
      refine T.seq ?_
      refine T.region ?_
      refine T.pure (.bool false) (by kernel_rfl) (fun _ => by kernel_rfl) ?_
      refine T.nil ?_
      cases hF
      refine T.ret rfl ?_
      exact T.ret1 rfl (ResIs.tmp rfl) fun w' hh => ⟨_, rfl, hh.below, (show _ from rfl)⟩
    ·
      rw [hc1, cond_false] at hF
      refine T.skip_code ?_
      refine T.seq ?_
      refine T.region ?_
      refine T.look (.agg #[.int .i64 p0.kind, .slice A1 p0.elems.length c1, .slice A2 p0.kids.length c2, .slice A3 p0.seps.length c3, .slice A4 p0.tids.length c4]) (by kernel_rfl) (fun w' hh => exec_loadN (cs := [.int .i64 p0.kind, .slice A1 p0.elems.length c1, .slice A2 p0.kids.length c2, .slice A3 p0.seps.length c3, .slice A4 p0.tids.length c4]) rfl rfl (by kernel_rfl) (by kernel_rfl) (fun j u hj => (hh.box_at (i := 1) (cs := [.int .i64 p0.kind, .slice A1 p0.elems.length c1, .slice A2 p0.kids.length c2, .slice A3 p0.seps.length c3, .slice A4 p0.tids.length c4]) (by rfl) 0 j).trans (seg_at (n := 5) rfl hj))) ?_
      obtain ⟨r2, hb3, hF⟩ := Option.bind_eq_some_iff.1 hF
      refine T.step (W1.call (vT2 (vSc eStr) (vSc eInt)) r2 34 #[.agg #[.int .i64 p0.kind, .slice A1 p0.elems.length c1, .slice A2 p0.kids.length c2, .slice A3 p0.seps.length c3, .slice A4 p0.tids.length c4]] (by kernel_rfl) (fun _ => by kernel_rfl) (fun w' hh => page_Write_l F p0 r2 hb3 w' A1 c1 (SlOk.mono (SlOk.mono hs1 hV1) hh.view) A2 c2 (SlOk.mono (SlOk.mono hs2 hV1) hh.view) A3 c3 (SlOk.mono (SlOk.mono hs3 hV1) hh.view) A4 c4 (SlOk.mono (SlOk.mono hs4 hV1) hh.view)) ?_)
      intro u V2 hV2 hu
      obtain rfl := (Sure.t2 sureStr sureInt) _ _ _ hu
      refine T.pure (.tuple #[.string r2.1, .int .i64 r2.2]) (by kernel_rfl) (fun _ => by kernel_rfl) ?_
      refine T.pure (.string r2.1) (by kernel_rfl) (fun _ => by kernel_rfl) ?_
      refine T.pure (.int .i64 r2.2) (by kernel_rfl) (fun _ => by kernel_rfl) ?_
      refine T.pure (.string r2.1) (by kernel_rfl) (fun _ => by kernel_rfl) ?_
      refine T.pure (.int .i64 r2.2) (by kernel_rfl) (fun _ => by kernel_rfl) ?_
      refine T.nil ?_
      refine T.seq ?_
      refine T.region ?_
      refine T.look (.agg #[.int .i64 p1.kind, .slice A5 p1.elems.length c5, .slice A6 p1.kids.length c6, .slice A7 p1.seps.length c7, .slice A8 p1.tids.length c8]) (by kernel_rfl) (fun w' hh => exec_loadN (cs := [.int .i64 p1.kind, .slice A5 p1.elems.length c5, .slice A6 p1.kids.length c6, .slice A7 p1.seps.length c7, .slice A8 p1.tids.length c8]) rfl rfl (by kernel_rfl) (by kernel_rfl) (fun j u hj => (hh.box_at (i := 0) (cs := [.int .i64 p1.kind, .slice A5 p1.elems.length c5, .slice A6 p1.kids.length c6, .slice A7 p1.seps.length c7, .slice A8 p1.tids.length c8]) (by rfl) 0 j).trans (seg_at (n := 5) rfl hj))) ?_
      obtain ⟨r3, hb4, hF⟩ := Option.bind_eq_some_iff.1 hF
      refine T.step (W1.call (vT2 (vSc eStr) (vSc eInt)) r3 34 #[.agg #[.int .i64 p1.kind, .slice A5 p1.elems.length c5, .slice A6 p1.kids.length c6, .slice A7 p1.seps.length c7, .slice A8 p1.tids.length c8]] (by kernel_rfl) (fun _ => by kernel_rfl) (fun w' hh => page_Write_l F p1 r3 hb4 w' A5 c5 (SlOk.mono (SlOk.mono hs5 (View.le_trans hV1 hV2)) hh.view) A6 c6 (SlOk.mono (SlOk.mono hs6 (View.le_trans hV1 hV2)) hh.view) A7 c7 (SlOk.mono (SlOk.mono hs7 (View.le_trans hV1 hV2)) hh.view) A8 c8 (SlOk.mono (SlOk.mono hs8 (View.le_trans hV1 hV2)) hh.view)) ?_)
      intro u V3 hV3 hu
      obtain rfl := (Sure.t2 sureStr sureInt) _ _ _ hu
      refine T.pure (.tuple #[.string r3.1, .int .i64 r3.2]) (by kernel_rfl) (fun _ => by kernel_rfl) ?_
      refine T.pure (.string r3.1) (by kernel_rfl) (fun _ => by kernel_rfl) ?_
      refine T.pure (.int .i64 r3.2) (by kernel_rfl) (fun _ => by kernel_rfl) ?_
      refine T.pure (.string r3.1) (by kernel_rfl) (fun _ => by kernel_rfl) ?_
      refine T.pure (.int .i64 r3.2) (by kernel_rfl) (fun _ => by kernel_rfl) ?_
      refine T.nil ?_
      refine T.seq ?_
      refine T.cut (fun a w' => Fr 57 [(2, .pointer (some ⟨b1, 0, none⟩)), (3, .pointer (some ⟨b2, 0, none⟩)), (7, .string r2.1), (8, .int .i64 r2.2), (9, .string r3.1), (43, .bool ((r2.2 != 0) || (r3.2 != 0)))] a ∧ Hp w V3 [box b2 26 [.int .i64 p1.kind, .slice A5 p1.elems.length c5, .slice A6 p1.kids.length c6, .slice A7 p1.seps.length c7, .slice A8 p1.tids.length c8], box b1 26 [.int .i64 p0.kind, .slice A1 p0.elems.length c1, .slice A2 p0.kids.length c2, .slice A3 p0.seps.length c3, .slice A4 p0.tids.length c4]] w') ?_ ?_
      ·
        refine T.region ?_
        refine T.pure (.int .i64 r2.2) (by kernel_rfl) (fun _ => by kernel_rfl) ?_
        refine T.pure (.bool (r2.2 != 0)) (by kernel_rfl) (fun _ => by kernel_rfl) ?_
        refine T.pure (.bool (r2.2 != 0)) (by kernel_rfl) (fun _ => by kernel_rfl) ?_
        cases hg3 : (r2.2 != 0)
        ·
          skip
          refine T.pure (.int .i64 r3.2) (by kernel_rfl) (fun _ => by kernel_rfl) ?_
          refine T.pure (.bool (r3.2 != 0)) (by kernel_rfl) (fun _ => by kernel_rfl) ?_
          refine T.pure (.bool (r3.2 != 0)) (by kernel_rfl) (fun _ => by kernel_rfl) ?_
          refine T.nil ?_
          exact fun a w' hf hh => And.intro (((((((Fr.nil hf).pick hf 43 rfl).pick hf 9 rfl).pick hf 8 rfl).pick hf 7 rfl).pick hf 3 rfl).pick hf 2 rfl) (hh.sub (.cons_cons _ (.cons_cons _ List.Sublist.slnil)))
        ·
          skip
          refine T.pass (by kernel_rfl) (by kernel_rfl) ?_
          refine T.pass (by kernel_rfl) (by kernel_rfl) ?_
          refine T.pure (.bool true) (by kernel_rfl) (fun _ => by kernel_rfl) ?_
          refine T.nil ?_
          exact fun a w' hf hh => And.intro (((((((Fr.nil hf).pick hf 43 rfl).pick hf 9 rfl).pick hf 8 rfl).pick hf 7 rfl).pick hf 3 rfl).pick hf 2 rfl) (hh.sub (.cons_cons _ (.cons_cons _ List.Sublist.slnil)))
      ·
        rintro a w' ⟨hf, hh⟩
        refine (?_ : T 57 w V3 [box b2 26 [.int .i64 p1.kind, .slice A5 p1.elems.length c5, .slice A6 p1.kids.length c6, .slice A7 p1.seps.length c7, .slice A8 p1.tids.length c8], box b1 26 [.int .i64 p0.kind, .slice A1 p0.elems.length c1, .slice A2 p0.kids.length c2, .slice A3 p0.seps.length c3, .slice A4 p0.tids.length c4]] [(2, .pointer (some ⟨b1, 0, none⟩)), (3, .pointer (some ⟨b2, 0, none⟩)), (7, .string r2.1), (8, .int .i64 r2.2), (9, .string r3.1), (43, .bool ((r2.2 != 0) || (r3.2 != 0)))] _) a w' hf hh
        clear hf hh
        refine T.cond ((r2.2 != 0) || (r3.2 != 0)) (by kernel_rfl) (by kernel_rfl) (fun hc2 => ?_) (fun hc2 => ?_)
        ·
          rw [hc2, cond_true] at hF
          refine T.cut (fun a w' => Fr 57 [(4, .bool ((r2.2 == 0) || (seq r2.1 (ByteArray.mk #[]))))] a ∧ Hp w V3 [] w') ?_ ?_
          ·
            refine T.region ?_
            refine T.pure (.int .i64 r2.2) (by kernel_rfl) (fun _ => by kernel_rfl) ?_
            refine T.pure (.bool (r2.2 == 0)) (by kernel_rfl) (fun _ => by kernel_rfl) ?_
            refine T.pure (.bool (r2.2 == 0)) (by kernel_rfl) (fun _ => by kernel_rfl) ?_
            cases hg4 : (r2.2 == 0)
            ·
              skip
              refine T.pure (.string r2.1) (by kernel_rfl) (fun _ => by kernel_rfl) ?_
              refine T.pure (.bool (seq r2.1 (ByteArray.mk #[]))) (by kernel_rfl) (fun _ => by kernel_rfl) ?_
              refine T.pure (.bool (seq r2.1 (ByteArray.mk #[]))) (by kernel_rfl) (fun _ => by kernel_rfl) ?_
              refine T.pure (.bool (seq r2.1 (ByteArray.mk #[]))) (by kernel_rfl) (fun _ => by kernel_rfl) ?_
              refine T.nil ?_
              exact fun a w' hf hh => And.intro ((Fr.nil hf).pick hf 4 rfl) (hh.sub (.cons _ (.cons _ List.Sublist.slnil)))
            ·
              skip
              refine T.pass (by kernel_rfl) (by kernel_rfl) ?_
              refine T.pass (by kernel_rfl) (by kernel_rfl) ?_
              refine T.pure (.bool true) (by kernel_rfl) (fun _ => by kernel_rfl) ?_
              refine T.pure (.bool true) (by kernel_rfl) (fun _ => by kernel_rfl) ?_
              refine T.nil ?_
              exact fun a w' hf hh => And.intro ((Fr.nil hf).pick hf 4 rfl) (hh.sub (.cons _ (.cons _ List.Sublist.slnil)))
          ·
            rintro a w' ⟨hf, hh⟩
            refine (?_ : T 57 w V3 [] [(4, .bool ((r2.2 == 0) || (seq r2.1 (ByteArray.mk #[]))))] _) a w' hf hh
            clear hf hh
            cases hF
            refine T.ret rfl ?_
            exact T.ret1 rfl (ResIs.tmp rfl) fun w' hh => ⟨_, rfl, hh.below, (show _ from rfl)⟩
        ·
          rw [hc2, cond_false] at hF
          refine T.skip_code ?_
          refine T.seq ?_
          refine T.region ?_
          refine T.pure (.string r2.1) (by kernel_rfl) (fun _ => by kernel_rfl) ?_
          refine T.pure (.string r3.1) (by kernel_rfl) (fun _ => by kernel_rfl) ?_
          refine T.pure (.bool (seq r2.1 r3.1)) (by kernel_rfl) (fun _ => by kernel_rfl) ?_
          refine T.look (.agg #[.int .i64 p0.kind, .slice A1 p0.elems.length c1, .slice A2 p0.kids.length c2, .slice A3 p0.seps.length c3, .slice A4 p0.tids.length c4]) (by kernel_rfl) (fun w' hh => exec_loadN (cs := [.int .i64 p0.kind, .slice A1 p0.elems.length c1, .slice A2 p0.kids.length c2, .slice A3 p0.seps.length c3, .slice A4 p0.tids.length c4]) rfl rfl (by kernel_rfl) (by kernel_rfl) (fun j u hj => (hh.box_at (i := 1) (cs := [.int .i64 p0.kind, .slice A1 p0.elems.length c1, .slice A2 p0.kids.length c2, .slice A3 p0.seps.length c3, .slice A4 p0.tids.length c4]) (by rfl) 0 j).trans (seg_at (n := 5) rfl hj))) ?_
          refine T.look (.agg #[.int .i64 p1.kind, .slice A5 p1.elems.length c5, .slice A6 p1.kids.length c6, .slice A7 p1.seps.length c7, .slice A8 p1.tids.length c8]) (by kernel_rfl) (fun w' hh => exec_loadN (cs := [.int .i64 p1.kind, .slice A5 p1.elems.length c5, .slice A6 p1.kids.length c6, .slice A7 p1.seps.length c7, .slice A8 p1.tids.length c8]) rfl rfl (by kernel_rfl) (by kernel_rfl) (fun j u hj => (hh.box_at (i := 0) (cs := [.int .i64 p1.kind, .slice A5 p1.elems.length c5, .slice A6 p1.kids.length c6, .slice A7 p1.seps.length c7, .slice A8 p1.tids.length c8]) (by rfl) 0 j).trans (seg_at (n := 5) rfl hj))) ?_
          obtain ⟨r4, hb5, hF⟩ := Option.bind_eq_some_iff.1 hF
          refine T.step (W1.call (vSc eBool) r4 35 #[.agg #[.int .i64 p0.kind, .slice A1 p0.elems.length c1, .slice A2 p0.kids.length c2, .slice A3 p0.seps.length c3, .slice A4 p0.tids.length c4], .agg #[.int .i64 p1.kind, .slice A5 p1.elems.length c5, .slice A6 p1.kids.length c6, .slice A7 p1.seps.length c7, .slice A8 p1.tids.length c8]] (by kernel_rfl) (fun _ => by kernel_rfl) (fun w' hh => annalref_SameNode_l F p0 p1 r4 hb5 w' A1 c1 (SlOk.mono (SlOk.mono hs1 (View.le_trans (View.le_trans hV1 hV2) hV3)) hh.view) A2 c2 (SlOk.mono (SlOk.mono hs2 (View.le_trans (View.le_trans hV1 hV2) hV3)) hh.view) A3 c3 (SlOk.mono (SlOk.mono hs3 (View.le_trans (View.le_trans hV1 hV2) hV3)) hh.view) A4 c4 (SlOk.mono (SlOk.mono hs4 (View.le_trans (View.le_trans hV1 hV2) hV3)) hh.view) A5 c5 (SlOk.mono (SlOk.mono hs5 (View.le_trans (View.le_trans hV1 hV2) hV3)) hh.view) A6 c6 (SlOk.mono (SlOk.mono hs6 (View.le_trans (View.le_trans hV1 hV2) hV3)) hh.view) A7 c7 (SlOk.mono (SlOk.mono hs7 (View.le_trans (View.le_trans hV1 hV2) hV3)) hh.view) A8 c8 (SlOk.mono (SlOk.mono hs8 (View.le_trans (View.le_trans hV1 hV2) hV3)) hh.view)) ?_)
          intro u V4 hV4 hu
          obtain rfl := sureBool _ _ _ hu
          refine T.pure (.bool ((seq r2.1 r3.1) == r4)) (by kernel_rfl) (fun _ => by kernel_rfl) ?_
          refine T.pure (.bool ((seq r2.1 r3.1) == r4)) (by kernel_rfl) (fun _ => by kernel_rfl) ?_
          refine T.nil ?_
          cases hF
          refine T.ret rfl ?_
          exact T.ret1 rfl (ResIs.tmp rfl) fun w' hh => ⟨_, rfl, hh.below, (show _ from rfl)⟩

end Go.Proofs.Ytldlakjemifdmaa
