/- The Go functions of group WNodeGreat compute the pure functions of that group: written by walkgen.py. Condition of each: the pure function yields a result. -/
import Derived.Test.YtldlakjemifdmaaNodeL
import Derived.Test.YtldlakjemifdmaaWNodeGreatF
import Derived.Test.YtldlakjemifdmaaEqL
namespace Go.Proofs.Ytldlakjemifdmaa
set_option linter.unusedVariables false

set_option maxRecDepth 100000 in
set_option maxHeartbeats 4000000 in
theorem annalkeep_NodeGreat_l (F : Nat) (p0 : DNode) (r : Bool) (hF : annalkeep_NodeGreat F p0 = some r) (w : World) (A1 : Option Addr) (c1 : Nat) (hs1 : SlOk (vw w) eElem A1 c1 p0.elems) (A2 : Option Addr) (c2 : Nat) (hs2 : SlOk (vw w) eInt A2 c2 p0.kids) (A3 : Option Addr) (c3 : Nat) (hs3 : SlOk (vw w) eSpot A3 c3 p0.seps) (A4 : Option Addr) (c4 : Nat) (hs4 : SlOk (vw w) eInt A4 c4 p0.tids) :
    Calls Try.prog 3 #[.agg #[.int .i64 p0.kind, .slice A1 p0.elems.length c1, .slice A2 p0.kids.length c2, .slice A3 p0.seps.length c3, .slice A4 p0.tids.length c4]] w (Post (vSc eBool) r w) := by
  unfold annalkeep_NodeGreat at hF
  refine T.start (l := [.agg #[.int .i64 p0.kind, .slice A1 p0.elems.length c1, .slice A2 p0.kids.length c2, .slice A3 p0.seps.length c3, .slice A4 p0.tids.length c4]]) Try.func3 rfl rfl rfl ?_
  refine T.seq ?_
  refine T.region ?_
  refine T.step (W1.new 26 [.int .i64 p0.kind, .slice A1 p0.elems.length c1, .slice A2 p0.kids.length c2, .slice A3 p0.seps.length c3, .slice A4 p0.tids.length c4] (fun b => .pointer (some ⟨b, 0, none⟩)) (by kernel_rfl) (fun _ => by kernel_rfl) (fun b1 => ?_))
  refine T.pure (.bool false) (by kernel_rfl) (fun _ => by kernel_rfl) ?_
  refine T.nil ?_
  refine T.seq ?_
  refine T.seq ?_
  refine T.region ?_
  refine T.pure (.agg #[.int .i64 0, .int .i64 0, .int .i64 0, .int .i64 2, .int .i64 7, .string (ByteArray.mk #[])]) (by kernel_rfl) (fun _ => by kernel_rfl) ?_
  refine T.step (W1.new 34 [.int .i64 0, .int .i64 0, .int .i64 0, .int .i64 2, .int .i64 7, .string (ByteArray.mk #[])] (fun b => .slice (some ⟨b, 0, none⟩) 1 1) (by kernel_rfl) (fun _ => by kernel_rfl) (fun b2 => ?_))
  refine T.step (W1.within 22 [.slice (some ⟨b2, 0, none⟩) 1 1] (fun v w' => v = .agg #[.int .i64 1, .slice (some ⟨b2, 0, none⟩) 1 1, .slice none 0 0, .slice none 0 0, .slice none 0 0] ∧ Hp w (vw w) [box b2 34 [.int .i64 0, .int .i64 0, .int .i64 0, .int .i64 2, .int .i64 7, .string (ByteArray.mk #[])], box b1 26 [.int .i64 p0.kind, .slice A1 p0.elems.length c1, .slice A2 p0.kids.length c2, .slice A3 p0.seps.length c3, .slice A4 p0.tids.length c4]] w') Try.func22 rfl rfl (by kernel_rfl) (fun _ => by kernel_rfl) rfl ?_ ?_)
  ·
    refine T.seq ?_
    refine T.region ?_
    refine T.step (W1.new 26 [.int .i64 0, .slice none 0 0, .slice none 0 0, .slice none 0 0, .slice none 0 0] (fun b => .pointer (some ⟨b, 0, none⟩)) (by kernel_rfl) (fun _ => by kernel_rfl) (fun b3 => ?_))
    refine T.nil ?_
    refine T.seq ?_
    refine T.region ?_
    refine T.pure (.slice (some ⟨b2, 0, none⟩) 1 1) (by kernel_rfl) (fun _ => by kernel_rfl) ?_
    refine T.pure (.agg #[.int .i64 1, .slice (some ⟨b2, 0, none⟩) 1 1, .slice none 0 0, .slice none 0 0, .slice none 0 0]) (by kernel_rfl) (fun _ => by kernel_rfl) ?_
    refine T.step (W1.store 0 [.int .i64 1, .slice (some ⟨b2, 0, none⟩) 1 1, .slice none 0 0, .slice none 0 0, .slice none 0 0] [box b3 26 [.int .i64 1, .slice (some ⟨b2, 0, none⟩) 1 1, .slice none 0 0, .slice none 0 0, .slice none 0 0], box b2 34 [.int .i64 0, .int .i64 0, .int .i64 0, .int .i64 2, .int .i64 7, .string (ByteArray.mk #[])], box b1 26 [.int .i64 p0.kind, .slice A1 p0.elems.length c1, .slice A2 p0.kids.length c2, .slice A3 p0.seps.length c3, .slice A4 p0.tids.length c4]] (by rfl) rfl (by kernel_rfl) (fun w' hw => exec_store (vs := [.int .i64 1, .slice (some ⟨b2, 0, none⟩) 1 1, .slice none 0 0, .slice none 0 0, .slice none 0 0]) rfl rfl rfl rfl (by kernel_rfl) (one_of rfl) (by simp) rfl hw) ?_)
    refine T.nil ?_
    refine T.ret rfl ?_
    exact T.ret1 rfl (ResIs.cellN 0 rfl (by rfl) (fun _ => by kernel_rfl) (fun _ => by kernel_rfl)) fun w' hh => ⟨_, rfl, And.intro rfl (hh.sub (.cons _ (.cons_cons _ (.cons_cons _ List.Sublist.slnil))))⟩
  ·
    rintro v w' ⟨rfl, hh⟩
    refine ⟨(vw w), [box b2 34 [.int .i64 0, .int .i64 0, .int .i64 0, .int .i64 2, .int .i64 7, .string (ByteArray.mk #[])], box b1 26 [.int .i64 p0.kind, .slice A1 p0.elems.length c1, .slice A2 p0.kids.length c2, .slice A3 p0.seps.length c3, .slice A4 p0.tids.length c4]], hh, ?_⟩
    clear hh
    obtain ⟨r1, hb1, hF⟩ := Option.bind_eq_some_iff.1 hF
    refine T.step (W1.call (vT2 (vSc eInt) (vSc eInt)) r1 21 #[.agg #[.int .i64 1, .slice (some ⟨b2, 0, none⟩) 1 1, .slice none 0 0, .slice none 0 0, .slice none 0 0]] (by kernel_rfl) (fun _ => by kernel_rfl) (fun w' hh => node_Tid_l F (DNode.mk 1 [(DElem.mk (DKey.mk 0 0 0) 2 7 (ByteArray.mk #[]))] [] [] []) r1 hb1 w' (some ⟨b2, 0, none⟩) 1 (slok_lit (E := eElem) (f := DElem.cells) [(DElem.mk (DKey.mk 0 0 0) 2 7 (ByteArray.mk #[]))] (fun _ _ => rfl) (Nat.le_of_ble_eq_true (by rfl)) (fun j => hh.cellBox (i := 0) (by rfl) j)) none 0 (SlOk.nil _ _) none 0 (SlOk.nil _ _) none 0 (SlOk.nil _ _)) ?_)
    intro u V1 hV1 hu
    obtain rfl := (Sure.t2 sureInt sureInt) _ _ _ hu
    refine T.pure (.tuple #[.int .i64 r1.1, .int .i64 r1.2]) (by kernel_rfl) (fun _ => by kernel_rfl) ?_
    refine T.pure (.int .i64 r1.1) (by kernel_rfl) (fun _ => by kernel_rfl) ?_
    refine T.pure (.int .i64 r1.2) (by kernel_rfl) (fun _ => by kernel_rfl) ?_
    refine T.pure (.int .i64 r1.1) (by kernel_rfl) (fun _ => by kernel_rfl) ?_
    refine T.pure (.int .i64 r1.2) (by kernel_rfl) (fun _ => by kernel_rfl) ?_
    refine T.nil ?_
    refine T.cut (fun a w' => Fr 79 [(1, .pointer (some ⟨b1, 0, none⟩)), (24, .bool ((r1.1 != 7) || (r1.2 != 0)))] a ∧ Hp w V1 [box b1 26 [.int .i64 p0.kind, .slice A1 p0.elems.length c1, .slice A2 p0.kids.length c2, .slice A3 p0.seps.length c3, .slice A4 p0.tids.length c4]] w') ?_ ?_
    ·
      refine T.region ?_
      refine T.pure (.int .i64 r1.1) (by kernel_rfl) (fun _ => by kernel_rfl) ?_
      refine T.pure (.bool (r1.1 != 7)) (by kernel_rfl) (fun _ => by kernel_rfl) ?_
      refine T.pure (.bool (r1.1 != 7)) (by kernel_rfl) (fun _ => by kernel_rfl) ?_
      cases hg1 : (r1.1 != 7)
      ·
        skip
        refine T.pure (.int .i64 r1.2) (by kernel_rfl) (fun _ => by kernel_rfl) ?_
        refine T.pure (.bool (r1.2 != 0)) (by kernel_rfl) (fun _ => by kernel_rfl) ?_
        refine T.pure (.bool (r1.2 != 0)) (by kernel_rfl) (fun _ => by kernel_rfl) ?_
        refine T.nil ?_
        exact fun a w' hf hh => And.intro (((Fr.nil hf).pick hf 24 rfl).pick hf 1 rfl) (hh.sub (.cons _ (.cons_cons _ List.Sublist.slnil)))
      ·
        skip
        refine T.pass (by kernel_rfl) (by kernel_rfl) ?_
        refine T.pass (by kernel_rfl) (by kernel_rfl) ?_
        refine T.pure (.bool true) (by kernel_rfl) (fun _ => by kernel_rfl) ?_
        refine T.nil ?_
        exact fun a w' hf hh => And.intro (((Fr.nil hf).pick hf 24 rfl).pick hf 1 rfl) (hh.sub (.cons _ (.cons_cons _ List.Sublist.slnil)))
    ·
      rintro a w' ⟨hf, hh⟩
      refine (?_ : T 79 w V1 [box b1 26 [.int .i64 p0.kind, .slice A1 p0.elems.length c1, .slice A2 p0.kids.length c2, .slice A3 p0.seps.length c3, .slice A4 p0.tids.length c4]] [(1, .pointer (some ⟨b1, 0, none⟩)), (24, .bool ((r1.1 != 7) || (r1.2 != 0)))] _) a w' hf hh
      clear hf hh
      refine T.cond ((r1.1 != 7) || (r1.2 != 0)) (by kernel_rfl) (by kernel_rfl) (fun hc1 => ?_) (fun hc1 => ?_)
      ·
        rw [hc1, cond_true] at hF
        refine T.seq ?_
        refine T.region ?_
        refine T.pure (.bool false) (by kernel_rfl) (fun _ => by kernel_rfl) ?_
        refine T.nil ?_
        cases hF
        refine T.ret rfl ?_
        exact T.ret1 rfl (ResIs.tmp rfl) fun w' hh => ⟨_, rfl, hh.below, (show _ from rfl)⟩
      ·
        rw [hc1, cond_false] at hF
        refine T.skip_code ?_
        refine T.seq ?_
        refine T.region ?_
        refine T.look (.agg #[.int .i64 p0.kind, .slice A1 p0.elems.length c1, .slice A2 p0.kids.length c2, .slice A3 p0.seps.length c3, .slice A4 p0.tids.length c4]) (by kernel_rfl) (fun w' hh => exec_loadN (cs := [.int .i64 p0.kind, .slice A1 p0.elems.length c1, .slice A2 p0.kids.length c2, .slice A3 p0.seps.length c3, .slice A4 p0.tids.length c4]) rfl rfl (by kernel_rfl) (by kernel_rfl) (fun j u hj => (hh.box_at (i := 0) (cs := [.int .i64 p0.kind, .slice A1 p0.elems.length c1, .slice A2 p0.kids.length c2, .slice A3 p0.seps.length c3, .slice A4 p0.tids.length c4]) (by rfl) 0 j).trans (seg_at (n := 5) rfl hj))) ?_
        obtain ⟨r2, hb2, hF⟩ := Option.bind_eq_some_iff.1 hF
        refine T.step (W1.call (vT2 (vSc eInt) (vSc eInt)) r2 21 #[.agg #[.int .i64 p0.kind, .slice A1 p0.elems.length c1, .slice A2 p0.kids.length c2, .slice A3 p0.seps.length c3, .slice A4 p0.tids.length c4]] (by kernel_rfl) (fun _ => by kernel_rfl) (fun w' hh => node_Tid_l F p0 r2 hb2 w' A1 c1 (SlOk.mono (SlOk.mono hs1 hV1) hh.view) A2 c2 (SlOk.mono (SlOk.mono hs2 hV1) hh.view) A3 c3 (SlOk.mono (SlOk.mono hs3 hV1) hh.view) A4 c4 (SlOk.mono (SlOk.mono hs4 hV1) hh.view)) ?_)
        intro u V2 hV2 hu
        obtain rfl := (Sure.t2 sureInt sureInt) _ _ _ hu
        refine T.pure (.tuple #[.int .i64 r2.1, .int .i64 r2.2]) (by kernel_rfl) (fun _ => by kernel_rfl) ?_
        refine T.pure (.int .i64 r2.1) (by kernel_rfl) (fun _ => by kernel_rfl) ?_
        refine T.pure (.int .i64 r2.2) (by kernel_rfl) (fun _ => by kernel_rfl) ?_
        refine T.pure (.int .i64 r2.1) (by kernel_rfl) (fun _ => by kernel_rfl) ?_
        refine T.pure (.int .i64 r2.2) (by kernel_rfl) (fun _ => by kernel_rfl) ?_
        refine T.nil ?_
        refine T.seq ?_
        refine T.seq ?_
        refine T.region ?_
        refine T.pure (.int .i64 r2.2) (by kernel_rfl) (fun _ => by kernel_rfl) ?_
        refine T.pure (.bool (r2.2 != 0)) (by kernel_rfl) (fun _ => by kernel_rfl) ?_
        refine T.nil ?_
        refine T.cond (r2.2 != 0) (by kernel_rfl) (by kernel_rfl) (fun hc2 => ?_) (fun hc2 => ?_)
        ·
          rw [hc2, cond_true] at hF
          obtain ⟨z1, hX1, hF⟩ := Option.bind_eq_some_iff.1 hF
          refine T.cut (fun a w' => ∃ (V3 : View), View.le V2 V3 ∧ Fr 79 [(2, .bool z1)] a ∧ Hp w V3 [] w') ?_ ?_
          ·
            refine T.region ?_
            refine T.pure (.int .i64 r2.1) (by kernel_rfl) (fun _ => by kernel_rfl) ?_
            refine T.pure (.bool (r2.1 == 0)) (by kernel_rfl) (fun _ => by kernel_rfl) ?_
            refine T.pure (.bool (r2.1 == 0)) (by kernel_rfl) (fun _ => by kernel_rfl) ?_
            cases hg2 : (r2.1 == 0)
            ·
              skip
              rw [hg2, cond_false] at hX1
              refine T.pass (by kernel_rfl) (by kernel_rfl) ?_
              refine T.pass (by kernel_rfl) (by kernel_rfl) ?_
              refine T.pass (by kernel_rfl) (by kernel_rfl) ?_
              refine T.pass (by kernel_rfl) (by kernel_rfl) ?_
              refine T.pure (.bool false) (by kernel_rfl) (fun _ => by kernel_rfl) ?_
              refine T.pure (.bool false) (by kernel_rfl) (fun _ => by kernel_rfl) ?_
              refine T.nil ?_
              cases hX1
              exact fun a w' hf hh => Exists.intro V2 (And.intro (View.le_refl _) (And.intro ((Fr.nil hf).pick hf 2 rfl) (hh.sub (.cons _ List.Sublist.slnil))))
            ·
              skip
              rw [hg2, cond_true] at hX1
              refine T.pure (.int .i64 r2.2) (by kernel_rfl) (fun _ => by kernel_rfl) ?_
              refine T.look (.agg #[.int .i64 p0.kind, .slice A1 p0.elems.length c1, .slice A2 p0.kids.length c2, .slice A3 p0.seps.length c3, .slice A4 p0.tids.length c4]) (by kernel_rfl) (fun w' hh => exec_loadN (cs := [.int .i64 p0.kind, .slice A1 p0.elems.length c1, .slice A2 p0.kids.length c2, .slice A3 p0.seps.length c3, .slice A4 p0.tids.length c4]) rfl rfl (by kernel_rfl) (by kernel_rfl) (fun j u hj => (hh.box_at (i := 0) (cs := [.int .i64 p0.kind, .slice A1 p0.elems.length c1, .slice A2 p0.kids.length c2, .slice A3 p0.seps.length c3, .slice A4 p0.tids.length c4]) (by rfl) 0 j).trans (seg_at (n := 5) rfl hj))) ?_
              obtain ⟨r3, hb3, hX1⟩ := Option.bind_eq_some_iff.1 hX1
              refine T.step (W1.call (vSc eInt) r3 23 #[.agg #[.int .i64 p0.kind, .slice A1 p0.elems.length c1, .slice A2 p0.kids.length c2, .slice A3 p0.seps.length c3, .slice A4 p0.tids.length c4]] (by kernel_rfl) (fun _ => by kernel_rfl) (fun w' hh => node_Check_l F p0 r3 hb3 w' A1 c1 (SlOk.mono (SlOk.mono hs1 (View.le_trans hV1 hV2)) hh.view) A2 c2 (SlOk.mono (SlOk.mono hs2 (View.le_trans hV1 hV2)) hh.view) A3 c3 (SlOk.mono (SlOk.mono hs3 (View.le_trans hV1 hV2)) hh.view) A4 c4 (SlOk.mono (SlOk.mono hs4 (View.le_trans hV1 hV2)) hh.view)) ?_)
              intro u V4 hV4 hu
              obtain rfl := sureInt _ _ _ hu
              refine T.pure (.bool (r2.2 == r3)) (by kernel_rfl) (fun _ => by kernel_rfl) ?_
              refine T.pure (.bool (r2.2 == r3)) (by kernel_rfl) (fun _ => by kernel_rfl) ?_
              refine T.pure (.bool (r2.2 == r3)) (by kernel_rfl) (fun _ => by kernel_rfl) ?_
              refine T.nil ?_
              cases hX1
              exact fun a w' hf hh => Exists.intro V4 (And.intro hV4 (And.intro ((Fr.nil hf).pick hf 2 rfl) (hh.sub (.cons _ List.Sublist.slnil))))
          ·
            rintro a w' ⟨V3, hV3, hf, hh⟩
            refine (?_ : T 79 w V3 [] [(2, .bool z1)] _) a w' hf hh
            clear hf hh
            cases hF
            refine T.ret rfl ?_
            exact T.ret1 rfl (ResIs.tmp rfl) fun w' hh => ⟨_, rfl, hh.below, (show _ from rfl)⟩
        ·
          rw [hc2, cond_false] at hF
          refine T.skip_code ?_
          refine T.seq ?_
          refine T.region ?_
          refine T.pure (.int .i64 r2.1) (by kernel_rfl) (fun _ => by kernel_rfl) ?_
          refine T.pure (.bool (r2.1 == 0)) (by kernel_rfl) (fun _ => by kernel_rfl) ?_
          refine T.pure (.bool (r2.1 == 0)) (by kernel_rfl) (fun _ => by kernel_rfl) ?_
          refine T.nil ?_
          refine T.seq ?_
          refine T.seq ?_
          refine T.region ?_
          refine T.pure (.pointer (some ⟨b1, 1, none⟩)) (by kernel_rfl) (fun _ => by kernel_rfl) ?_
          refine T.look (.slice A1 p0.elems.length c1) (by kernel_rfl) (fun w' hh => exec_load1 rfl rfl (by kernel_rfl) (hh.cellBox (i := 0) (by rfl) 1)) ?_
          refine T.pure (.int .i64 (p0.elems.length : Int)) (by kernel_rfl) (fun _ => by kernel_rfl) ?_
          refine T.pure (.int .i64 0) (by kernel_rfl) (fun _ => by kernel_rfl) ?_
          refine T.nil ?_
          obtain ⟨q1, hz1, hF⟩ := Option.bind_eq_some_iff.1 hF
          refine T.mid (fun a w' => ∃ (z2 : Bool), q1 = Sum.inl z2 ∧ ∃ (V6 : View), View.le V2 V6 ∧ Fr 79 [(1, .pointer (some ⟨b1, 0, none⟩)), (5, .int .i64 r2.1), (7, .bool z2)] a ∧ Hp w V6 [box b1 26 [.int .i64 p0.kind, .slice A1 p0.elems.length c1, .slice A2 p0.kids.length c2, .slice A3 p0.seps.length c3, .slice A4 p0.tids.length c4]] w') ?_ ?_
          ·
            refine T.block ?_
            refine T.iter (fun s1 a w' => ∃ (x1 : Bool) (x2 : Int), s1 = (x1, x2) ∧ ∃ (V5 : View), View.le V2 V5 ∧ Fr 79 [(1, .pointer (some ⟨b1, 0, none⟩)), (5, .int .i64 r2.1), (7, .bool x1), (43, .slice A1 p0.elems.length c1), (44, .int .i64 (p0.elems.length : Int)), (45, .int .i64 x2)] a ∧ Hp w V5 [box b1 26 [.int .i64 p0.kind, .slice A1 p0.elems.length c1, .slice A2 p0.kids.length c2, .slice A3 p0.seps.length c3, .slice A4 p0.tids.length c4]] w') hz1 ?_ ?_
            ·
              exact fun a w' hf hh => Exists.intro (r2.1 == 0) (Exists.intro 0 (And.intro rfl (Exists.intro V2 (And.intro (View.le_refl _) (And.intro (((((((Fr.nil hf).pick hf 45 rfl).pick hf 44 rfl).pick hf 43 rfl).pick hf 7 rfl).pick hf 5 rfl).pick hf 1 rfl) (hh.sub (.cons_cons _ List.Sublist.slnil)))))))
            ·
              rintro s1 y1 hY1 hr1 a w' ⟨x1, x2, rfl, V5, hV5, hf, hh⟩
              refine (?_ : T 79 w V5 [box b1 26 [.int .i64 p0.kind, .slice A1 p0.elems.length c1, .slice A2 p0.kids.length c2, .slice A3 p0.seps.length c3, .slice A4 p0.tids.length c4]] [(1, .pointer (some ⟨b1, 0, none⟩)), (5, .int .i64 r2.1), (7, .bool x1), (43, .slice A1 p0.elems.length c1), (44, .int .i64 (p0.elems.length : Int)), (45, .int .i64 x2)] _) a w' hf hh
              clear hf hh
              try dsimp only at hY1
              refine T.seq ?_
              refine T.region ?_
              refine T.pure (.bool (decide (x2 < (p0.elems.length : Int)))) (by kernel_rfl) (fun _ => by kernel_rfl) ?_
              refine T.nil ?_
              refine T.seq ?_
              refine T.cond (decide (x2 < (p0.elems.length : Int))) (by kernel_rfl) (by kernel_rfl) (fun hc3 => ?_) (fun hc3 => ?_)
              ·
                rw [hc3, cond_true] at hY1
                refine T.skip_code ?_
                refine T.seq ?_
                refine T.block ?_
                refine T.seq ?_
                refine T.region ?_
                obtain ⟨e1, hb4, hY1⟩ := Option.bind_eq_some_iff.1 hY1
                obtain ⟨hi1, hi2, hi3⟩ := idx_some hb4
                refine T.look (.pointer (some ((sadr A1).add (x2.toNat * 6)))) (by kernel_rfl) (fun w' hh => exec_indexAddr (e := 34) (s := 6) rfl rfl rfl (by kernel_rfl) (by kernel_rfl) hi1 hi2 ((SlOk.mono hs1 (View.le_trans (View.le_trans hV1 hV2) hV5)).some_ hi3 (by decide))) ?_
                refine T.look (.agg #[.int .i64 e1.key.pfs, .int .i64 e1.key.obj, .int .i64 e1.key.off, .int .i64 e1.made, .int .i64 e1.gone, .string e1.val]) (by kernel_rfl) (fun w' hh => exec_loadN (cs := [.int .i64 e1.key.pfs, .int .i64 e1.key.obj, .int .i64 e1.key.off, .int .i64 e1.made, .int .i64 e1.gone, .string e1.val]) rfl rfl (by kernel_rfl) (by kernel_rfl) (fun j u hj => (hh.cell_view (SlOk.cellF (E := eElem) (SlOk.mono hs1 (View.le_trans (View.le_trans hV1 hV2) hV5)) hi3 j (fun _ _ _ h => h) hj)))) ?_
                refine T.step (W1.new 34 [.int .i64 0, .int .i64 0, .int .i64 0, .int .i64 0, .int .i64 0, .string (ByteArray.mk #[])] (fun b => .pointer (some ⟨b, 0, none⟩)) (by kernel_rfl) (fun _ => by kernel_rfl) (fun b4 => ?_))
                refine T.step (W1.store 0 [.int .i64 e1.key.pfs, .int .i64 e1.key.obj, .int .i64 e1.key.off, .int .i64 e1.made, .int .i64 e1.gone, .string e1.val] [box b4 34 [.int .i64 e1.key.pfs, .int .i64 e1.key.obj, .int .i64 e1.key.off, .int .i64 e1.made, .int .i64 e1.gone, .string e1.val], box b1 26 [.int .i64 p0.kind, .slice A1 p0.elems.length c1, .slice A2 p0.kids.length c2, .slice A3 p0.seps.length c3, .slice A4 p0.tids.length c4]] (by rfl) rfl (by kernel_rfl) (fun w' hw => exec_store (vs := [.int .i64 e1.key.pfs, .int .i64 e1.key.obj, .int .i64 e1.key.off, .int .i64 e1.made, .int .i64 e1.gone, .string e1.val]) rfl rfl rfl rfl (by kernel_rfl) (one_of rfl) (by simp) rfl hw) ?_)
                refine T.nil ?_
                obtain ⟨z3, hX2, hY1⟩ := Option.bind_eq_some_iff.1 hY1
                refine T.cut (fun a w' => ∃ (V7 : View), View.le V5 V7 ∧ Fr 79 [(1, .pointer (some ⟨b1, 0, none⟩)), (5, .int .i64 r2.1), (7, .bool z3), (9, .pointer (some ⟨b4, 0, none⟩)), (43, .slice A1 p0.elems.length c1), (44, .int .i64 (p0.elems.length : Int)), (45, .int .i64 x2)] a ∧ Hp w V7 [box b4 34 [.int .i64 e1.key.pfs, .int .i64 e1.key.obj, .int .i64 e1.key.off, .int .i64 e1.made, .int .i64 e1.gone, .string e1.val], box b1 26 [.int .i64 p0.kind, .slice A1 p0.elems.length c1, .slice A2 p0.kids.length c2, .slice A3 p0.seps.length c3, .slice A4 p0.tids.length c4]] w') ?_ ?_
                ·
                  refine T.region ?_
                  refine T.pure (.bool x1) (by kernel_rfl) (fun _ => by kernel_rfl) ?_
                  refine T.pure (.bool x1) (by kernel_rfl) (fun _ => by kernel_rfl) ?_
                  cases hg3 : x1
                  ·
                    skip
                    rw [hg3, cond_false] at hX2
                    refine T.look (.agg #[.int .i64 e1.key.pfs, .int .i64 e1.key.obj, .int .i64 e1.key.off, .int .i64 e1.made, .int .i64 e1.gone, .string e1.val]) (by kernel_rfl) (fun w' hh => exec_loadN (cs := [.int .i64 e1.key.pfs, .int .i64 e1.key.obj, .int .i64 e1.key.off, .int .i64 e1.made, .int .i64 e1.gone, .string e1.val]) rfl rfl (by kernel_rfl) (by kernel_rfl) (fun j u hj => (hh.box_at (i := 0) (cs := [.int .i64 e1.key.pfs, .int .i64 e1.key.obj, .int .i64 e1.key.off, .int .i64 e1.made, .int .i64 e1.gone, .string e1.val]) (by rfl) 0 j).trans (seg_at (n := 6) rfl hj))) ?_
                    obtain ⟨r4, hb5, hX2⟩ := Option.bind_eq_some_iff.1 hX2
                    refine T.step (W1.call (vSc eInt) r4 24 #[.agg #[.int .i64 e1.key.pfs, .int .i64 e1.key.obj, .int .i64 e1.key.off, .int .i64 e1.made, .int .i64 e1.gone, .string e1.val]] (by kernel_rfl) (fun _ => by kernel_rfl) (fun w' hh => elem_Last_l e1 r4 hb5 w' ) ?_)
                    intro u V8 hV8 hu
                    obtain rfl := sureInt _ _ _ hu
                    refine T.pure (.int .i64 r2.1) (by kernel_rfl) (fun _ => by kernel_rfl) ?_
                    refine T.pure (.bool (r4 == r2.1)) (by kernel_rfl) (fun _ => by kernel_rfl) ?_
                    refine T.pure (.bool (r4 == r2.1)) (by kernel_rfl) (fun _ => by kernel_rfl) ?_
                    refine T.pure (.bool (r4 == r2.1)) (by kernel_rfl) (fun _ => by kernel_rfl) ?_
                    refine T.nil ?_
                    cases hX2
                    exact fun a w' hf hh => Exists.intro V8 (And.intro hV8 (And.intro ((((((((Fr.nil hf).pick hf 45 rfl).pick hf 44 rfl).pick hf 43 rfl).pick hf 9 rfl).pick hf 7 rfl).pick hf 5 rfl).pick hf 1 rfl) (hh.sub (.cons_cons _ (.cons_cons _ List.Sublist.slnil)))))
                  ·
                    skip
                    rw [hg3, cond_true] at hX2
                    refine T.pass (by kernel_rfl) (by kernel_rfl) ?_
                    refine T.pass (by kernel_rfl) (by kernel_rfl) ?_
                    refine T.pass (by kernel_rfl) (by kernel_rfl) ?_
                    refine T.pass (by kernel_rfl) (by kernel_rfl) ?_
                    refine T.pure (.bool true) (by kernel_rfl) (fun _ => by kernel_rfl) ?_
                    refine T.pure (.bool true) (by kernel_rfl) (fun _ => by kernel_rfl) ?_
                    refine T.nil ?_
                    cases hX2
                    exact fun a w' hf hh => Exists.intro V5 (And.intro (View.le_refl _) (And.intro ((((((((Fr.nil hf).pick hf 45 rfl).pick hf 44 rfl).pick hf 43 rfl).pick hf 9 rfl).pick hf 7 rfl).pick hf 5 rfl).pick hf 1 rfl) (hh.sub (.cons_cons _ (.cons_cons _ List.Sublist.slnil)))))
                ·
                  rintro a w' ⟨V7, hV7, hf, hh⟩
                  refine (?_ : T 79 w V7 [box b4 34 [.int .i64 e1.key.pfs, .int .i64 e1.key.obj, .int .i64 e1.key.off, .int .i64 e1.made, .int .i64 e1.gone, .string e1.val], box b1 26 [.int .i64 p0.kind, .slice A1 p0.elems.length c1, .slice A2 p0.kids.length c2, .slice A3 p0.seps.length c3, .slice A4 p0.tids.length c4]] [(1, .pointer (some ⟨b1, 0, none⟩)), (5, .int .i64 r2.1), (7, .bool z3), (9, .pointer (some ⟨b4, 0, none⟩)), (43, .slice A1 p0.elems.length c1), (44, .int .i64 (p0.elems.length : Int)), (45, .int .i64 x2)] _) a w' hf hh
                  clear hf hh
                  refine T.seq ?_
                  refine T.region ?_
                  refine T.look (.agg #[.int .i64 e1.key.pfs, .int .i64 e1.key.obj, .int .i64 e1.key.off, .int .i64 e1.made, .int .i64 e1.gone, .string e1.val]) (by kernel_rfl) (fun w' hh => exec_loadN (cs := [.int .i64 e1.key.pfs, .int .i64 e1.key.obj, .int .i64 e1.key.off, .int .i64 e1.made, .int .i64 e1.gone, .string e1.val]) rfl rfl (by kernel_rfl) (by kernel_rfl) (fun j u hj => (hh.box_at (i := 0) (cs := [.int .i64 e1.key.pfs, .int .i64 e1.key.obj, .int .i64 e1.key.off, .int .i64 e1.made, .int .i64 e1.gone, .string e1.val]) (by rfl) 0 j).trans (seg_at (n := 6) rfl hj))) ?_
                  obtain ⟨r5, hb6, hY1⟩ := Option.bind_eq_some_iff.1 hY1
                  refine T.step (W1.call (vSc eInt) r5 24 #[.agg #[.int .i64 e1.key.pfs, .int .i64 e1.key.obj, .int .i64 e1.key.off, .int .i64 e1.made, .int .i64 e1.gone, .string e1.val]] (by kernel_rfl) (fun _ => by kernel_rfl) (fun w' hh => elem_Last_l e1 r5 hb6 w' ) ?_)
                  intro u V9 hV9 hu
                  obtain rfl := sureInt _ _ _ hu
                  refine T.pure (.int .i64 r2.1) (by kernel_rfl) (fun _ => by kernel_rfl) ?_
                  refine T.pure (.bool (decide (r2.1 < r5))) (by kernel_rfl) (fun _ => by kernel_rfl) ?_
                  refine T.nil ?_
                  refine T.cond (decide (r2.1 < r5)) (by kernel_rfl) (by kernel_rfl) (fun hc4 => ?_) (fun hc4 => ?_)
                  ·
                    rw [hc4, cond_true] at hY1
                    refine T.seq ?_
                    refine T.region ?_
                    refine T.pure (.bool false) (by kernel_rfl) (fun _ => by kernel_rfl) ?_
                    refine T.nil ?_
                    cases hY1
                    cases (hr1 _ rfl)
                    try dsimp only at hF
                    cases hF
                    refine T.ret rfl ?_
                    exact T.ret1 rfl (ResIs.tmp rfl) fun w' hh => ⟨_, rfl, hh.below, (show _ from rfl)⟩
                  ·
                    rw [hc4, cond_false] at hY1
                    refine T.skip_code ?_
                    refine T.region ?_
                    refine T.pure (.int .i64 (IntKind.i64.wrap (x2 + 1))) (by kernel_rfl) (fun _ => by kernel_rfl) ?_
                    refine T.pure (.int .i64 (IntKind.i64.wrap (x2 + 1))) (by kernel_rfl) (fun _ => by kernel_rfl) ?_
                    refine T.nil ?_
                    cases hY1
                    exact fun a w' hf hh => Exists.intro (z3, IntKind.i64.wrap (x2 + 1)) (And.intro rfl (Exists.intro z3 (Exists.intro (IntKind.i64.wrap (x2 + 1)) (And.intro rfl (Exists.intro V9 (And.intro (View.le_trans (View.le_trans hV5 hV7) hV9) (And.intro (((((((Fr.nil hf).pick hf 45 rfl).pick hf 44 rfl).pick hf 43 rfl).pick hf 7 rfl).pick hf 5 rfl).pick hf 1 rfl) (hh.sub (.cons _ (.cons_cons _ List.Sublist.slnil))))))))))
              ·
                rw [hc3, cond_false] at hY1
                refine T.exit ?_
                cases hY1
                cases (hr1 _ rfl)
                exact fun a w' hf hh => Exists.intro x1 (And.intro rfl (Exists.intro V5 (And.intro hV5 (And.intro ((((Fr.nil hf).pick hf 7 rfl).pick hf 5 rfl).pick hf 1 rfl) (hh.sub (.cons_cons _ List.Sublist.slnil))))))
          ·
            rintro a w' ⟨z2, rfl, V6, hV6, hf, hh⟩
            try dsimp only at hF
            refine (?_ : T 79 w V6 [box b1 26 [.int .i64 p0.kind, .slice A1 p0.elems.length c1, .slice A2 p0.kids.length c2, .slice A3 p0.seps.length c3, .slice A4 p0.tids.length c4]] [(1, .pointer (some ⟨b1, 0, none⟩)), (5, .int .i64 r2.1), (7, .bool z2)] _) a w' hf hh
            clear hf hh
            refine T.seq ?_
            refine T.seq ?_
            refine T.region ?_
            refine T.pure (.pointer (some ⟨b1, 4, none⟩)) (by kernel_rfl) (fun _ => by kernel_rfl) ?_
            refine T.look (.slice A4 p0.tids.length c4) (by kernel_rfl) (fun w' hh => exec_load1 rfl rfl (by kernel_rfl) (hh.cellBox (i := 0) (by rfl) 4)) ?_
            refine T.pure (.int .i64 (p0.tids.length : Int)) (by kernel_rfl) (fun _ => by kernel_rfl) ?_
            refine T.pure (.int .i64 0) (by kernel_rfl) (fun _ => by kernel_rfl) ?_
            refine T.nil ?_
            obtain ⟨q2, hz2, hF⟩ := Option.bind_eq_some_iff.1 hF
            refine T.mid (fun a w' => ∃ (z4 : Bool), q2 = Sum.inl z4 ∧ Fr 79 [(7, .bool z4)] a ∧ Hp w V6 [] w') ?_ ?_
            ·
              refine T.block ?_
              refine T.iter (fun s2 a w' => ∃ (x3 : Bool) (x4 : Int), s2 = (x3, x4) ∧ Fr 79 [(5, .int .i64 r2.1), (7, .bool x3), (62, .slice A4 p0.tids.length c4), (63, .int .i64 (p0.tids.length : Int)), (64, .int .i64 x4)] a ∧ Hp w V6 [] w') hz2 ?_ ?_
              ·
                exact fun a w' hf hh => Exists.intro z2 (Exists.intro 0 (And.intro rfl (And.intro ((((((Fr.nil hf).pick hf 64 rfl).pick hf 63 rfl).pick hf 62 rfl).pick hf 7 rfl).pick hf 5 rfl) (hh.sub (.cons _ List.Sublist.slnil)))))
              ·
                rintro s2 y2 hY2 hr2 a w' ⟨x3, x4, rfl, hf, hh⟩
                refine (?_ : T 79 w V6 [] [(5, .int .i64 r2.1), (7, .bool x3), (62, .slice A4 p0.tids.length c4), (63, .int .i64 (p0.tids.length : Int)), (64, .int .i64 x4)] _) a w' hf hh
                clear hf hh
                try dsimp only at hY2
                refine T.seq ?_
                refine T.region ?_
                refine T.pure (.bool (decide (x4 < (p0.tids.length : Int)))) (by kernel_rfl) (fun _ => by kernel_rfl) ?_
                refine T.nil ?_
                refine T.seq ?_
                refine T.cond (decide (x4 < (p0.tids.length : Int))) (by kernel_rfl) (by kernel_rfl) (fun hc5 => ?_) (fun hc5 => ?_)
                ·
                  rw [hc5, cond_true] at hY2
                  refine T.skip_code ?_
                  refine T.seq ?_
                  refine T.block ?_
                  refine T.seq ?_
                  refine T.region ?_
                  obtain ⟨e2, hb7, hY2⟩ := Option.bind_eq_some_iff.1 hY2
                  obtain ⟨hi4, hi5, hi6⟩ := idx_some hb7
                  refine T.look (.pointer (some ((sadr A4).add (x4.toNat * 1)))) (by kernel_rfl) (fun w' hh => exec_indexAddr (e := 3) (s := 1) rfl rfl rfl (by kernel_rfl) (by kernel_rfl) hi4 hi5 ((SlOk.mono hs4 (View.le_trans (View.le_trans hV1 hV2) hV6)).some_ hi6 (by decide))) ?_
                  refine T.look (.int .i64 e2) (by kernel_rfl) (fun w' hh => exec_load1 rfl rfl (by kernel_rfl) (hh.cell_view (SlOk.cellF0 (E := eInt) (SlOk.mono hs4 (View.le_trans (View.le_trans hV1 hV2) hV6)) hi6 (fun _ _ _ h => h) rfl))) ?_
                  refine T.pure (.int .i64 e2) (by kernel_rfl) (fun _ => by kernel_rfl) ?_
                  refine T.nil ?_
                  refine T.cut (fun a w' => Fr 79 [(5, .int .i64 r2.1), (7, .bool (x3 || (e2 == r2.1))), (11, .int .i64 e2), (62, .slice A4 p0.tids.length c4), (63, .int .i64 (p0.tids.length : Int)), (64, .int .i64 x4)] a ∧ Hp w V6 [] w') ?_ ?_
                  ·
                    refine T.region ?_
                    refine T.pure (.bool x3) (by kernel_rfl) (fun _ => by kernel_rfl) ?_
                    refine T.pure (.bool x3) (by kernel_rfl) (fun _ => by kernel_rfl) ?_
                    cases hg4 : x3
                    ·
                      skip
                      refine T.pure (.int .i64 e2) (by kernel_rfl) (fun _ => by kernel_rfl) ?_
                      refine T.pure (.int .i64 r2.1) (by kernel_rfl) (fun _ => by kernel_rfl) ?_
                      refine T.pure (.bool (e2 == r2.1)) (by kernel_rfl) (fun _ => by kernel_rfl) ?_
                      refine T.pure (.bool (e2 == r2.1)) (by kernel_rfl) (fun _ => by kernel_rfl) ?_
                      refine T.pure (.bool (e2 == r2.1)) (by kernel_rfl) (fun _ => by kernel_rfl) ?_
                      refine T.nil ?_
                      exact fun a w' hf hh => And.intro (((((((Fr.nil hf).pick hf 64 rfl).pick hf 63 rfl).pick hf 62 rfl).pick hf 11 rfl).pick hf 7 rfl).pick hf 5 rfl) (hh.sub List.Sublist.slnil)
                    ·
                      skip
                      refine T.pass (by kernel_rfl) (by kernel_rfl) ?_
                      refine T.pass (by kernel_rfl) (by kernel_rfl) ?_
                      refine T.pass (by kernel_rfl) (by kernel_rfl) ?_
                      refine T.pure (.bool true) (by kernel_rfl) (fun _ => by kernel_rfl) ?_
                      refine T.pure (.bool true) (by kernel_rfl) (fun _ => by kernel_rfl) ?_
                      refine T.nil ?_
                      exact fun a w' hf hh => And.intro (((((((Fr.nil hf).pick hf 64 rfl).pick hf 63 rfl).pick hf 62 rfl).pick hf 11 rfl).pick hf 7 rfl).pick hf 5 rfl) (hh.sub List.Sublist.slnil)
                  ·
                    rintro a w' ⟨hf, hh⟩
                    refine (?_ : T 79 w V6 [] [(5, .int .i64 r2.1), (7, .bool (x3 || (e2 == r2.1))), (11, .int .i64 e2), (62, .slice A4 p0.tids.length c4), (63, .int .i64 (p0.tids.length : Int)), (64, .int .i64 x4)] _) a w' hf hh
                    clear hf hh
                    refine T.seq ?_
                    refine T.region ?_
                    refine T.pure (.int .i64 e2) (by kernel_rfl) (fun _ => by kernel_rfl) ?_
                    refine T.pure (.int .i64 r2.1) (by kernel_rfl) (fun _ => by kernel_rfl) ?_
                    refine T.pure (.bool (decide (r2.1 < e2))) (by kernel_rfl) (fun _ => by kernel_rfl) ?_
                    refine T.nil ?_
                    refine T.cond (decide (r2.1 < e2)) (by kernel_rfl) (by kernel_rfl) (fun hc6 => ?_) (fun hc6 => ?_)
                    ·
                      rw [hc6, cond_true] at hY2
                      refine T.seq ?_
                      refine T.region ?_
                      refine T.pure (.bool false) (by kernel_rfl) (fun _ => by kernel_rfl) ?_
                      refine T.nil ?_
                      cases hY2
                      cases (hr2 _ rfl)
                      try dsimp only at hF
                      cases hF
                      refine T.ret rfl ?_
                      exact T.ret1 rfl (ResIs.tmp rfl) fun w' hh => ⟨_, rfl, hh.below, (show _ from rfl)⟩
                    ·
                      rw [hc6, cond_false] at hY2
                      refine T.skip_code ?_
                      refine T.region ?_
                      refine T.pure (.int .i64 (IntKind.i64.wrap (x4 + 1))) (by kernel_rfl) (fun _ => by kernel_rfl) ?_
                      refine T.pure (.int .i64 (IntKind.i64.wrap (x4 + 1))) (by kernel_rfl) (fun _ => by kernel_rfl) ?_
                      refine T.nil ?_
                      cases hY2
                      exact fun a w' hf hh => Exists.intro ((x3 || (e2 == r2.1)), IntKind.i64.wrap (x4 + 1)) (And.intro rfl (Exists.intro (x3 || (e2 == r2.1)) (Exists.intro (IntKind.i64.wrap (x4 + 1)) (And.intro rfl (And.intro ((((((Fr.nil hf).pick hf 64 rfl).pick hf 63 rfl).pick hf 62 rfl).pick hf 7 rfl).pick hf 5 rfl) (hh.sub List.Sublist.slnil))))))
                ·
                  rw [hc5, cond_false] at hY2
                  refine T.exit ?_
                  cases hY2
                  cases (hr2 _ rfl)
                  exact fun a w' hf hh => Exists.intro x3 (And.intro rfl (And.intro ((Fr.nil hf).pick hf 7 rfl) (hh.sub List.Sublist.slnil)))
            ·
              rintro a w' ⟨z4, rfl, hf, hh⟩
              try dsimp only at hF
              refine (?_ : T 79 w V6 [] [(7, .bool z4)] _) a w' hf hh
              clear hf hh
              refine T.seq ?_
              refine T.region ?_
              refine T.pure (.bool z4) (by kernel_rfl) (fun _ => by kernel_rfl) ?_
              refine T.pure (.bool z4) (by kernel_rfl) (fun _ => by kernel_rfl) ?_
              refine T.nil ?_
              cases hF
              refine T.ret rfl ?_
              exact T.ret1 rfl (ResIs.tmp rfl) fun w' hh => ⟨_, rfl, hh.below, (show _ from rfl)⟩

end Go.Proofs.Ytldlakjemifdmaa
