/- The Go functions of group WPruneEnds compute the pure functions of that group: written by walkgen.py. Condition of each: the pure function yields a result. -/
import Derived.Test.YtiaoncjkfgebdaaPruneL
import Derived.Test.YtiaoncjkfgebdaaEqsL
import Derived.Test.YtiaoncjkfgebdaaWPruneEndsF
import Derived.Test.YtiaoncjkfgebdaaEqL
namespace Go.Proofs.Ytiaoncjkfgebdaa
set_option linter.unusedVariables false

set_option maxRecDepth 100000 in
set_option maxHeartbeats 4000000 in
theorem annalkeep_PruneEnds_l (F : Nat) (p0 : (List DElem)) (r : Bool) (hF : annalkeep_PruneEnds F p0 = some r) (w : World) (A1 : Option Addr) (c1 : Nat) (hs1 : SlOk (vw w) eElem A1 c1 p0) :
    Calls Try.prog 6 #[.slice A1 p0.length c1] w (Post (vSc eBool) r w) := by
  unfold annalkeep_PruneEnds at hF
  refine T.start (l := [.slice A1 p0.length c1]) Try.func6 rfl rfl rfl ?_
  refine T.seq ?_
  refine T.region ?_
  refine T.pure (.bool false) (by kernel_rfl) (fun _ => by kernel_rfl) ?_
  refine T.nil ?_
  refine T.seq ?_
  refine T.seq ?_
  refine T.region ?_
  refine T.pure (.agg #[.int .i64 0, .int .i64 0, .int .i64 0, .int .i64 1, .int .i64 2, .string (ByteArray.mk #[])]) (by kernel_rfl) (fun _ => by kernel_rfl) ?_
  refine T.step (W1.new 26 [.int .i64 0, .int .i64 0, .int .i64 0, .int .i64 1, .int .i64 2, .string (ByteArray.mk #[])] (fun b => .slice (some ⟨b, 0, none⟩) 1 1) (by kernel_rfl) (fun _ => by kernel_rfl) (fun b1 => ?_))
  obtain ⟨r1, hb1, hF⟩ := Option.bind_eq_some_iff.1 hF
  refine T.step (W1.call (vT2 (vSc (eList eElem)) (vSc eInt)) r1 39 #[.slice (some ⟨b1, 0, none⟩) 1 1, .slice none 0 0] (by kernel_rfl) (fun _ => by kernel_rfl) (fun w' hh => prune_Kept_l F [(DElem.mk (DKey.mk 0 0 0) 1 2 (ByteArray.mk #[]))] ([] : List Int) r1 hb1 w' (some ⟨b1, 0, none⟩) 1 (slok_lit (E := eElem) (f := DElem.cells) [(DElem.mk (DKey.mk 0 0 0) 1 2 (ByteArray.mk #[]))] (fun _ _ => rfl) (Nat.le_of_ble_eq_true (by rfl)) (fun j => hh.cellBox (i := 0) (by rfl) j)) none 0 (SlOk.nil _ _)) ?_)
  intro u V1 hV1 hu
  obtain ⟨u1, u2, rfl, hu1, hu2⟩ := vT2_elim hu
  obtain ⟨A2, c2, rfl, hs2⟩ := vlist_elim hu1
  obtain rfl := sureInt _ _ _ hu2
  refine T.pure (.tuple #[.slice A2 r1.1.length c2, .int .i64 r1.2]) (by kernel_rfl) (fun _ => by kernel_rfl) ?_
  refine T.pure (.slice A2 r1.1.length c2) (by kernel_rfl) (fun _ => by kernel_rfl) ?_
  refine T.pure (.int .i64 r1.2) (by kernel_rfl) (fun _ => by kernel_rfl) ?_
  refine T.pure (.slice A2 r1.1.length c2) (by kernel_rfl) (fun _ => by kernel_rfl) ?_
  refine T.pure (.int .i64 r1.2) (by kernel_rfl) (fun _ => by kernel_rfl) ?_
  refine T.nil ?_
  refine T.cut (fun a w' => Fr 105 [(0, .slice A1 p0.length c1), (27, .bool ((r1.2 != 0) || ((r1.1.length : Int) != 0)))] a ∧ Hp w V1 [] w') ?_ ?_
  ·
    refine T.region ?_
    refine T.pure (.int .i64 r1.2) (by kernel_rfl) (fun _ => by kernel_rfl) ?_
    refine T.pure (.bool (r1.2 != 0)) (by kernel_rfl) (fun _ => by kernel_rfl) ?_
    refine T.pure (.bool (r1.2 != 0)) (by kernel_rfl) (fun _ => by kernel_rfl) ?_
    cases hg1 : (r1.2 != 0)
    ·
      skip
      refine T.pure (.slice A2 r1.1.length c2) (by kernel_rfl) (fun _ => by kernel_rfl) ?_
      refine T.pure (.int .i64 (r1.1.length : Int)) (by kernel_rfl) (fun _ => by kernel_rfl) ?_
      refine T.pure (.bool ((r1.1.length : Int) != 0)) (by kernel_rfl) (fun _ => by kernel_rfl) ?_
      refine T.pure (.bool ((r1.1.length : Int) != 0)) (by kernel_rfl) (fun _ => by kernel_rfl) ?_
      refine T.nil ?_
      exact fun a w' hf hh => And.intro (((Fr.nil hf).pick hf 27 rfl).pick hf 0 rfl) (hh.sub (.cons _ List.Sublist.slnil))
    ·
      skip
      refine T.pass (by kernel_rfl) (by kernel_rfl) ?_
      refine T.pass (by kernel_rfl) (by kernel_rfl) ?_
      refine T.pass (by kernel_rfl) (by kernel_rfl) ?_
      refine T.pure (.bool true) (by kernel_rfl) (fun _ => by kernel_rfl) ?_
      refine T.nil ?_
      exact fun a w' hf hh => And.intro (((Fr.nil hf).pick hf 27 rfl).pick hf 0 rfl) (hh.sub (.cons _ List.Sublist.slnil))
  ·
    rintro a w' ⟨hf, hh⟩
    refine (?_ : T 105 w V1 [] [(0, .slice A1 p0.length c1), (27, .bool ((r1.2 != 0) || ((r1.1.length : Int) != 0)))] _) a w' hf hh
    clear hf hh
    refine T.cond ((r1.2 != 0) || ((r1.1.length : Int) != 0)) (by kernel_rfl) (by kernel_rfl) (fun hc1 => ?_) (fun hc1 => ?_)
    ·
      rw [hc1, cond_true] at hF
      refine T.seq ?_
      refine T.region ?_
      refine T.pure (.bool false) (by kernel_rfl) (fun _ => by kernel_rfl) ?_
      refine T.nil ?_
      cases hF
      refine T.ret rfl ?_
      exact T.ret1 rfl (ResIs.tmp rfl) fun w' hh => ⟨_, rfl, hh.below, (show _ from rfl)⟩
    ·
      rw [hc1, cond_false] at hF
      refine T.skip_code ?_
      refine T.seq ?_
      refine T.seq ?_
      refine T.region ?_
      refine T.pure (.agg #[.int .i64 0, .int .i64 0, .int .i64 0, .int .i64 1, .int .i64 2, .string (ByteArray.mk #[])]) (by kernel_rfl) (fun _ => by kernel_rfl) ?_
      refine T.step (W1.new 26 [.int .i64 0, .int .i64 0, .int .i64 0, .int .i64 1, .int .i64 2, .string (ByteArray.mk #[])] (fun b => .slice (some ⟨b, 0, none⟩) 1 1) (by kernel_rfl) (fun _ => by kernel_rfl) (fun b2 => ?_))
      refine T.step (W1.new 3 [.int .i64 1] (fun b => .slice (some ⟨b, 0, none⟩) 1 1) (by kernel_rfl) (fun _ => by kernel_rfl) (fun b3 => ?_))
      obtain ⟨r2, hb2, hF⟩ := Option.bind_eq_some_iff.1 hF
      refine T.step (W1.call (vT2 (vSc (eList eElem)) (vSc eInt)) r2 39 #[.slice (some ⟨b2, 0, none⟩) 1 1, .slice (some ⟨b3, 0, none⟩) 1 1] (by kernel_rfl) (fun _ => by kernel_rfl) (fun w' hh => prune_Kept_l F [(DElem.mk (DKey.mk 0 0 0) 1 2 (ByteArray.mk #[]))] [1] r2 hb2 w' (some ⟨b2, 0, none⟩) 1 (slok_lit (E := eElem) (f := DElem.cells) [(DElem.mk (DKey.mk 0 0 0) 1 2 (ByteArray.mk #[]))] (fun _ _ => rfl) (Nat.le_of_ble_eq_true (by rfl)) (fun j => hh.cellBox (i := 1) (by rfl) j)) (some ⟨b3, 0, none⟩) 1 (slok_lit (E := eInt) (f := (fun x => [.int .i64 x])) [1] (fun _ _ => rfl) (Nat.le_of_ble_eq_true (by rfl)) (fun j => hh.cellBox (i := 0) (by rfl) j))) ?_)
      intro u V2 hV2 hu
      obtain ⟨u3, u4, rfl, hu3, hu4⟩ := vT2_elim hu
      obtain ⟨A3, c3, rfl, hs3⟩ := vlist_elim hu3
      obtain rfl := sureInt _ _ _ hu4
      refine T.pure (.tuple #[.slice A3 r2.1.length c3, .int .i64 r2.2]) (by kernel_rfl) (fun _ => by kernel_rfl) ?_
      refine T.pure (.slice A3 r2.1.length c3) (by kernel_rfl) (fun _ => by kernel_rfl) ?_
      refine T.pure (.int .i64 r2.2) (by kernel_rfl) (fun _ => by kernel_rfl) ?_
      refine T.pure (.slice A3 r2.1.length c3) (by kernel_rfl) (fun _ => by kernel_rfl) ?_
      refine T.pure (.int .i64 r2.2) (by kernel_rfl) (fun _ => by kernel_rfl) ?_
      refine T.nil ?_
      refine T.cut (fun a w' => Fr 105 [(0, .slice A1 p0.length c1), (41, .bool ((r2.2 != 0) || ((r2.1.length : Int) != 1)))] a ∧ Hp w V2 [] w') ?_ ?_
      ·
        refine T.region ?_
        refine T.pure (.int .i64 r2.2) (by kernel_rfl) (fun _ => by kernel_rfl) ?_
        refine T.pure (.bool (r2.2 != 0)) (by kernel_rfl) (fun _ => by kernel_rfl) ?_
        refine T.pure (.bool (r2.2 != 0)) (by kernel_rfl) (fun _ => by kernel_rfl) ?_
        cases hg2 : (r2.2 != 0)
        ·
          skip
          refine T.pure (.slice A3 r2.1.length c3) (by kernel_rfl) (fun _ => by kernel_rfl) ?_
          refine T.pure (.int .i64 (r2.1.length : Int)) (by kernel_rfl) (fun _ => by kernel_rfl) ?_
          refine T.pure (.bool ((r2.1.length : Int) != 1)) (by kernel_rfl) (fun _ => by kernel_rfl) ?_
          refine T.pure (.bool ((r2.1.length : Int) != 1)) (by kernel_rfl) (fun _ => by kernel_rfl) ?_
          refine T.nil ?_
          exact fun a w' hf hh => And.intro (((Fr.nil hf).pick hf 41 rfl).pick hf 0 rfl) (hh.sub (.cons _ (.cons _ List.Sublist.slnil)))
        ·
          skip
          refine T.pass (by kernel_rfl) (by kernel_rfl) ?_
          refine T.pass (by kernel_rfl) (by kernel_rfl) ?_
          refine T.pass (by kernel_rfl) (by kernel_rfl) ?_
          refine T.pure (.bool true) (by kernel_rfl) (fun _ => by kernel_rfl) ?_
          refine T.nil ?_
          exact fun a w' hf hh => And.intro (((Fr.nil hf).pick hf 41 rfl).pick hf 0 rfl) (hh.sub (.cons _ (.cons _ List.Sublist.slnil)))
      ·
        rintro a w' ⟨hf, hh⟩
        refine (?_ : T 105 w V2 [] [(0, .slice A1 p0.length c1), (41, .bool ((r2.2 != 0) || ((r2.1.length : Int) != 1)))] _) a w' hf hh
        clear hf hh
        refine T.cond ((r2.2 != 0) || ((r2.1.length : Int) != 1)) (by kernel_rfl) (by kernel_rfl) (fun hc2 => ?_) (fun hc2 => ?_)
        ·
          rw [hc2, cond_true] at hF
          refine T.seq ?_
          refine T.region ?_
          refine T.pure (.bool false) (by kernel_rfl) (fun _ => by kernel_rfl) ?_
          refine T.nil ?_
          cases hF
          refine T.ret rfl ?_
          exact T.ret1 rfl (ResIs.tmp rfl) fun w' hh => ⟨_, rfl, hh.below, (show _ from rfl)⟩
        ·
          rw [hc2, cond_false] at hF
          refine T.skip_code ?_
          refine T.seq ?_
          refine T.region ?_
          refine T.pure (.slice A1 p0.length c1) (by kernel_rfl) (fun _ => by kernel_rfl) ?_
          obtain ⟨r3, hb3, hF⟩ := Option.bind_eq_some_iff.1 hF
          refine T.step (W1.call (vT2 (vSc (eList eElem)) (vSc eInt)) r3 39 #[.slice A1 p0.length c1, .slice none 0 0] (by kernel_rfl) (fun _ => by kernel_rfl) (fun w' hh => prune_Kept_l F p0 ([] : List Int) r3 hb3 w' A1 c1 (SlOk.mono (SlOk.mono hs1 (View.le_trans hV1 hV2)) hh.view) none 0 (SlOk.nil _ _)) ?_)
          intro u V3 hV3 hu
          obtain ⟨u5, u6, rfl, hu5, hu6⟩ := vT2_elim hu
          obtain ⟨A4, c4, rfl, hs4⟩ := vlist_elim hu5
          obtain rfl := sureInt _ _ _ hu6
          refine T.pure (.tuple #[.slice A4 r3.1.length c4, .int .i64 r3.2]) (by kernel_rfl) (fun _ => by kernel_rfl) ?_
          refine T.pure (.slice A4 r3.1.length c4) (by kernel_rfl) (fun _ => by kernel_rfl) ?_
          refine T.pure (.int .i64 r3.2) (by kernel_rfl) (fun _ => by kernel_rfl) ?_
          refine T.pure (.slice A4 r3.1.length c4) (by kernel_rfl) (fun _ => by kernel_rfl) ?_
          refine T.pure (.int .i64 r3.2) (by kernel_rfl) (fun _ => by kernel_rfl) ?_
          refine T.nil ?_
          refine T.seq ?_
          refine T.seq ?_
          refine T.region ?_
          refine T.pure (.int .i64 r3.2) (by kernel_rfl) (fun _ => by kernel_rfl) ?_
          refine T.pure (.bool (r3.2 != 0)) (by kernel_rfl) (fun _ => by kernel_rfl) ?_
          refine T.nil ?_
          refine T.cond (r3.2 != 0) (by kernel_rfl) (by kernel_rfl) (fun hc3 => ?_) (fun hc3 => ?_)
          ·
            rw [hc3, cond_true] at hF
            obtain ⟨z1, hX1, hF⟩ := Option.bind_eq_some_iff.1 hF
            refine T.cut (fun a w' => ∃ (V4 : View), View.le V3 V4 ∧ Fr 105 [(2, .bool z1)] a ∧ Hp w V4 [] w') ?_ ?_
            ·
              refine T.region ?_
              refine T.pure (.int .i64 r3.2) (by kernel_rfl) (fun _ => by kernel_rfl) ?_
              refine T.pure (.slice A1 p0.length c1) (by kernel_rfl) (fun _ => by kernel_rfl) ?_
              obtain ⟨r4, hb4, hX1⟩ := Option.bind_eq_some_iff.1 hX1
              refine T.step (W1.call (vSc eInt) r4 30 #[.slice A1 p0.length c1] (by kernel_rfl) (fun _ => by kernel_rfl) (fun w' hh => run_Check_l F p0 r4 hb4 w' A1 c1 (SlOk.mono (SlOk.mono hs1 (View.le_trans (View.le_trans hV1 hV2) hV3)) hh.view)) ?_)
              intro u V5 hV5 hu
              obtain rfl := sureInt _ _ _ hu
              refine T.pure (.bool (r3.2 == r4)) (by kernel_rfl) (fun _ => by kernel_rfl) ?_
              refine T.pure (.bool (r3.2 == r4)) (by kernel_rfl) (fun _ => by kernel_rfl) ?_
              cases hg3 : (r3.2 == r4)
              ·
                skip
                rw [hg3, cond_false] at hX1
                refine T.pass (by kernel_rfl) (by kernel_rfl) ?_
                refine T.pass (by kernel_rfl) (by kernel_rfl) ?_
                refine T.pass (by kernel_rfl) (by kernel_rfl) ?_
                refine T.pure (.bool false) (by kernel_rfl) (fun _ => by kernel_rfl) ?_
                refine T.pure (.bool false) (by kernel_rfl) (fun _ => by kernel_rfl) ?_
                refine T.nil ?_
                cases hX1
                exact fun a w' hf hh => Exists.intro V5 (And.intro hV5 (And.intro ((Fr.nil hf).pick hf 2 rfl) (hh.sub List.Sublist.slnil)))
              ·
                skip
                rw [hg3, cond_true] at hX1
                refine T.pure (.slice A4 r3.1.length c4) (by kernel_rfl) (fun _ => by kernel_rfl) ?_
                refine T.pure (.int .i64 (r3.1.length : Int)) (by kernel_rfl) (fun _ => by kernel_rfl) ?_
                refine T.pure (.bool ((r3.1.length : Int) == 0)) (by kernel_rfl) (fun _ => by kernel_rfl) ?_
                refine T.pure (.bool ((r3.1.length : Int) == 0)) (by kernel_rfl) (fun _ => by kernel_rfl) ?_
                refine T.pure (.bool ((r3.1.length : Int) == 0)) (by kernel_rfl) (fun _ => by kernel_rfl) ?_
                refine T.nil ?_
                cases hX1
                exact fun a w' hf hh => Exists.intro V5 (And.intro hV5 (And.intro ((Fr.nil hf).pick hf 2 rfl) (hh.sub List.Sublist.slnil)))
            ·
              rintro a w' ⟨V4, hV4, hf, hh⟩
              refine (?_ : T 105 w V4 [] [(2, .bool z1)] _) a w' hf hh
              clear hf hh
              cases hF
              refine T.ret rfl ?_
              exact T.ret1 rfl (ResIs.tmp rfl) fun w' hh => ⟨_, rfl, hh.below, (show _ from rfl)⟩
          ·
            rw [hc3, cond_false] at hF
            refine T.skip_code ?_
            refine T.seq ?_
            refine T.seq ?_
            refine T.region ?_
            refine T.pure (.slice A1 p0.length c1) (by kernel_rfl) (fun _ => by kernel_rfl) ?_
            refine T.pure (.int .i64 (p0.length : Int)) (by kernel_rfl) (fun _ => by kernel_rfl) ?_
            refine T.pure (.int .i64 0) (by kernel_rfl) (fun _ => by kernel_rfl) ?_
            refine T.nil ?_
            obtain ⟨q1, hz1, hF⟩ := Option.bind_eq_some_iff.1 hF
            refine T.mid (fun a w' => q1 = Sum.inl () ∧ Fr 105 [(0, .slice A1 p0.length c1)] a ∧ Hp w V3 [] w') ?_ ?_
            ·
              refine T.block ?_
              refine T.iter (fun x1 a w' => Fr 105 [(0, .slice A1 p0.length c1), (7, .slice A4 r3.1.length c4), (58, .slice A1 p0.length c1), (59, .int .i64 (p0.length : Int)), (60, .int .i64 x1)] a ∧ Hp w V3 [] w') hz1 ?_ ?_
              ·
                exact fun a w' hf hh => And.intro ((((((Fr.nil hf).pick hf 60 rfl).pick hf 59 rfl).pick hf 58 rfl).pick hf 7 rfl).pick hf 0 rfl) (hh.sub List.Sublist.slnil)
              ·
                rintro x1 y1 hY1 hr1 a w' ⟨hf, hh⟩
                refine (?_ : T 105 w V3 [] [(0, .slice A1 p0.length c1), (7, .slice A4 r3.1.length c4), (58, .slice A1 p0.length c1), (59, .int .i64 (p0.length : Int)), (60, .int .i64 x1)] _) a w' hf hh
                clear hf hh
                try dsimp only at hY1
                refine T.seq ?_
                refine T.region ?_
                refine T.pure (.bool (decide (x1 < (p0.length : Int)))) (by kernel_rfl) (fun _ => by kernel_rfl) ?_
                refine T.nil ?_
                refine T.seq ?_
                refine T.cond (decide (x1 < (p0.length : Int))) (by kernel_rfl) (by kernel_rfl) (fun hc4 => ?_) (fun hc4 => ?_)
                ·
                  rw [hc4, cond_true] at hY1
                  refine T.skip_code ?_
                  refine T.seq ?_
                  refine T.block ?_
                  refine T.seq ?_
                  refine T.region ?_
                  obtain ⟨e1, hb5, hY1⟩ := Option.bind_eq_some_iff.1 hY1
                  obtain ⟨hi1, hi2, hi3⟩ := idx_some hb5
                  refine T.look (.pointer (some ((sadr A1).add (x1.toNat * 6)))) (by kernel_rfl) (fun w' hh => exec_indexAddr (e := 26) (s := 6) rfl rfl rfl (by kernel_rfl) (by kernel_rfl) hi1 hi2 ((SlOk.mono hs1 (View.le_trans (View.le_trans hV1 hV2) hV3)).some_ hi3 (by decide))) ?_
                  refine T.look (.agg #[.int .i64 e1.key.pfs, .int .i64 e1.key.obj, .int .i64 e1.key.off, .int .i64 e1.made, .int .i64 e1.gone, .string e1.val]) (by kernel_rfl) (fun w' hh => exec_loadN (cs := [.int .i64 e1.key.pfs, .int .i64 e1.key.obj, .int .i64 e1.key.off, .int .i64 e1.made, .int .i64 e1.gone, .string e1.val]) rfl rfl (by kernel_rfl) (by kernel_rfl) (fun j u hj => (hh.cell_view (SlOk.cellF (E := eElem) (SlOk.mono hs1 (View.le_trans (View.le_trans hV1 hV2) hV3)) hi3 j (fun _ _ _ h => h) hj)))) ?_
                  refine T.step (W1.new 26 [.int .i64 0, .int .i64 0, .int .i64 0, .int .i64 0, .int .i64 0, .string (ByteArray.mk #[])] (fun b => .pointer (some ⟨b, 0, none⟩)) (by kernel_rfl) (fun _ => by kernel_rfl) (fun b4 => ?_))
                  refine T.step (W1.store 0 [.int .i64 e1.key.pfs, .int .i64 e1.key.obj, .int .i64 e1.key.off, .int .i64 e1.made, .int .i64 e1.gone, .string e1.val] [box b4 26 [.int .i64 e1.key.pfs, .int .i64 e1.key.obj, .int .i64 e1.key.off, .int .i64 e1.made, .int .i64 e1.gone, .string e1.val]] (by rfl) rfl (by kernel_rfl) (fun w' hw => exec_store (vs := [.int .i64 e1.key.pfs, .int .i64 e1.key.obj, .int .i64 e1.key.off, .int .i64 e1.made, .int .i64 e1.gone, .string e1.val]) rfl rfl rfl rfl (by kernel_rfl) (one_of rfl) (by simp) rfl hw) ?_)
                  refine T.nil ?_
                  refine T.seq ?_
                  refine T.quiet (by kernel_rfl) (by kernel_rfl) ?_
                  refine TQ.pure (.slice A4 r3.1.length c4) (by kernel_rfl) (fun _ => by kernel_rfl) ?_
                  refine TQ.look (.agg #[.int .i64 e1.key.pfs, .int .i64 e1.key.obj, .int .i64 e1.key.off, .int .i64 e1.made, .int .i64 e1.gone, .string e1.val]) (by kernel_rfl) (fun w' hh => exec_loadN (cs := [.int .i64 e1.key.pfs, .int .i64 e1.key.obj, .int .i64 e1.key.off, .int .i64 e1.made, .int .i64 e1.gone, .string e1.val]) rfl rfl (by kernel_rfl) (by kernel_rfl) (fun j u hj => (hh.box_at (i := 0) (cs := [.int .i64 e1.key.pfs, .int .i64 e1.key.obj, .int .i64 e1.key.off, .int .i64 e1.made, .int .i64 e1.gone, .string e1.val]) (by rfl) 0 j).trans (seg_at (n := 6) rfl hj))) ?_
                  obtain ⟨r5, hb6, hY1⟩ := Option.bind_eq_some_iff.1 hY1
                  refine TQ.call (vSc eBool) r5 40 #[.slice A4 r3.1.length c4, .agg #[.int .i64 e1.key.pfs, .int .i64 e1.key.obj, .int .i64 e1.key.off, .int .i64 e1.made, .int .i64 e1.gone, .string e1.val]] (.bool r5) (fun V u hu => sureBool V u _ hu) (by kernel_rfl) (fun _ => by kernel_rfl) (fun w' hh => slices_Contains_Elem_l F r3.1 e1 r5 hb6 w' A4 c4 (SlOk.mono (SlOk.mono hs4 (View.le_trans (made_le _ _) (View.le_refl _))) hh.view)) ?_
                  refine TQ.pure (.pointer (some ⟨b4, 4, none⟩)) (by kernel_rfl) (fun _ => by kernel_rfl) ?_
                  refine TQ.look (.int .i64 e1.gone) (by kernel_rfl) (fun w' hh => exec_load1 rfl rfl (by kernel_rfl) (hh.cellBox (i := 0) (by rfl) 4)) ?_
                  refine TQ.pure (.bool (e1.gone == 0)) (by kernel_rfl) (fun _ => by kernel_rfl) ?_
                  refine TQ.pure (.bool (!(r5 == (e1.gone == 0)))) (by kernel_rfl) (fun _ => by kernel_rfl) ?_
                  refine TQ.nil ?_
                  refine T.cond (!(r5 == (e1.gone == 0))) (by kernel_rfl) (by kernel_rfl) (fun hc5 => ?_) (fun hc5 => ?_)
                  ·
                    rw [hc5, cond_true] at hY1
                    refine T.seq ?_
                    refine T.region ?_
                    refine T.pure (.bool false) (by kernel_rfl) (fun _ => by kernel_rfl) ?_
                    refine T.nil ?_
                    cases hY1
                    cases (hr1 _ rfl)
                    try dsimp only at hF
                    cases hF
                    refine T.ret rfl ?_
                    exact T.ret1 rfl (ResIs.tmp rfl) fun w' hh => ⟨_, rfl, hh.below, (show _ from rfl)⟩
                  ·
                    rw [hc5, cond_false] at hY1
                    refine T.skip_code ?_
                    refine T.region ?_
                    refine T.pure (.int .i64 (IntKind.i64.wrap (x1 + 1))) (by kernel_rfl) (fun _ => by kernel_rfl) ?_
                    refine T.pure (.int .i64 (IntKind.i64.wrap (x1 + 1))) (by kernel_rfl) (fun _ => by kernel_rfl) ?_
                    refine T.nil ?_
                    cases hY1
                    exact fun a w' hf hh => Exists.intro (IntKind.i64.wrap (x1 + 1)) (And.intro rfl (And.intro ((((((Fr.nil hf).pick hf 60 rfl).pick hf 59 rfl).pick hf 58 rfl).pick hf 7 rfl).pick hf 0 rfl) (hh.sub (.cons _ List.Sublist.slnil))))
                ·
                  rw [hc4, cond_false] at hY1
                  refine T.exit ?_
                  cases hY1
                  cases (hr1 _ rfl)
                  exact fun a w' hf hh => And.intro rfl (And.intro ((Fr.nil hf).pick hf 0 rfl) (hh.sub List.Sublist.slnil))
            ·
              rintro a w' ⟨rfl, hf, hh⟩
              try dsimp only at hF
              refine (?_ : T 105 w V3 [] [(0, .slice A1 p0.length c1)] _) a w' hf hh
              clear hf hh
              refine T.seq ?_
              refine T.region ?_
              refine T.pure (.slice none 0 0) (by kernel_rfl) (fun _ => by kernel_rfl) ?_
              refine T.nil ?_
              refine T.seq ?_
              refine T.seq ?_
              refine T.region ?_
              refine T.pure (.slice A1 p0.length c1) (by kernel_rfl) (fun _ => by kernel_rfl) ?_
              refine T.pure (.int .i64 (p0.length : Int)) (by kernel_rfl) (fun _ => by kernel_rfl) ?_
              refine T.pure (.int .i64 0) (by kernel_rfl) (fun _ => by kernel_rfl) ?_
              refine T.nil ?_
              refine T.rownil 3 eInt ?_
              obtain ⟨z2, hz2, hF⟩ := Option.bind_eq_some_iff.1 hF
              refine T.mid (fun a w' => ∃ (A6 : Option Addr) (c6 : Nat) (V7 : View), View.le V3 V7 ∧ Fr 105 [(0, .slice A1 p0.length c1), (11, .slice A6 z2.length c6)] a ∧ Hp w V7 [row 3 eInt A6 c6 z2] w') ?_ ?_
              ·
                refine T.block ?_
                refine T.iter (fun s1 a w' => ∃ (x2 : List Int) (x3 : Int), s1 = (x2, x3) ∧ ∃ (A5 : Option Addr) (c5 : Nat) (V6 : View), View.le V3 V6 ∧ Fr 105 [(0, .slice A1 p0.length c1), (11, .slice A5 x2.length c5), (72, .slice A1 p0.length c1), (73, .int .i64 (p0.length : Int)), (74, .int .i64 x3)] a ∧ Hp w V6 [row 3 eInt A5 c5 x2] w') hz2 ?_ ?_
                ·
                  exact fun a w' hf hh => Exists.intro [] (Exists.intro 0 (And.intro rfl (Exists.intro none (Exists.intro 0 (Exists.intro V3 (And.intro (View.le_refl _) (And.intro ((((((Fr.nil hf).pick hf 74 rfl).pick hf 73 rfl).pick hf 72 rfl).pick hf 11 rfl).pick hf 0 rfl) (hh.sub (.cons_cons _ List.Sublist.slnil)))))))))
                ·
                  rintro s1 y2 hY2 hr2 a w' ⟨x2, x3, rfl, A5, c5, V6, hV6, hf, hh⟩
                  refine (?_ : T 105 w V6 [row 3 eInt A5 c5 x2] [(0, .slice A1 p0.length c1), (11, .slice A5 x2.length c5), (72, .slice A1 p0.length c1), (73, .int .i64 (p0.length : Int)), (74, .int .i64 x3)] _) a w' hf hh
                  clear hf hh
                  try dsimp only at hY2
                  refine T.seq ?_
                  refine T.region ?_
                  refine T.pure (.bool (decide (x3 < (p0.length : Int)))) (by kernel_rfl) (fun _ => by kernel_rfl) ?_
                  refine T.nil ?_
                  refine T.seq ?_
                  refine T.cond (decide (x3 < (p0.length : Int))) (by kernel_rfl) (by kernel_rfl) (fun hc6 => ?_) (fun hc6 => ?_)
                  ·
                    rw [hc6, cond_true] at hY2
                    refine T.skip_code ?_
                    obtain ⟨z3, hX2, hY2⟩ := Option.bind_eq_some_iff.1 hY2
                    refine T.cut (fun a w' => ∃ (A7 : Option Addr) (c7 : Nat) (V8 : View), View.le V6 V8 ∧ Fr 105 [(0, .slice A1 p0.length c1), (11, .slice A7 z3.length c7), (72, .slice A1 p0.length c1), (73, .int .i64 (p0.length : Int)), (74, .int .i64 x3)] a ∧ Hp w V8 [row 3 eInt A7 c7 z3] w') ?_ ?_
                    ·
                      refine T.block ?_
                      refine T.seq ?_
                      refine T.region ?_
                      obtain ⟨e2, hb7, hX2⟩ := Option.bind_eq_some_iff.1 hX2
                      obtain ⟨hi4, hi5, hi6⟩ := idx_some hb7
                      refine T.look (.pointer (some ((sadr A1).add (x3.toNat * 6)))) (by kernel_rfl) (fun w' hh => exec_indexAddr (e := 26) (s := 6) rfl rfl rfl (by kernel_rfl) (by kernel_rfl) hi4 hi5 ((SlOk.mono hs1 (View.le_trans (View.le_trans (View.le_trans hV1 hV2) hV3) hV6)).some_ hi6 (by decide))) ?_
                      refine T.look (.agg #[.int .i64 e2.key.pfs, .int .i64 e2.key.obj, .int .i64 e2.key.off, .int .i64 e2.made, .int .i64 e2.gone, .string e2.val]) (by kernel_rfl) (fun w' hh => exec_loadN (cs := [.int .i64 e2.key.pfs, .int .i64 e2.key.obj, .int .i64 e2.key.off, .int .i64 e2.made, .int .i64 e2.gone, .string e2.val]) rfl rfl (by kernel_rfl) (by kernel_rfl) (fun j u hj => (hh.cell_view (SlOk.cellF (E := eElem) (SlOk.mono hs1 (View.le_trans (View.le_trans (View.le_trans hV1 hV2) hV3) hV6)) hi6 j (fun _ _ _ h => h) hj)))) ?_
                      refine T.step (W1.new 26 [.int .i64 0, .int .i64 0, .int .i64 0, .int .i64 0, .int .i64 0, .string (ByteArray.mk #[])] (fun b => .pointer (some ⟨b, 0, none⟩)) (by kernel_rfl) (fun _ => by kernel_rfl) (fun b5 => ?_))
                      refine T.step (W1.store 0 [.int .i64 e2.key.pfs, .int .i64 e2.key.obj, .int .i64 e2.key.off, .int .i64 e2.made, .int .i64 e2.gone, .string e2.val] [box b5 26 [.int .i64 e2.key.pfs, .int .i64 e2.key.obj, .int .i64 e2.key.off, .int .i64 e2.made, .int .i64 e2.gone, .string e2.val], row 3 eInt A5 c5 x2] (by rfl) rfl (by kernel_rfl) (fun w' hw => exec_store (vs := [.int .i64 e2.key.pfs, .int .i64 e2.key.obj, .int .i64 e2.key.off, .int .i64 e2.made, .int .i64 e2.gone, .string e2.val]) rfl rfl rfl rfl (by kernel_rfl) (one_of rfl) (by simp) rfl hw) ?_)
                      refine T.nil ?_
                      refine T.seq ?_
                      refine T.region ?_
                      refine T.pure (.slice A5 x2.length c5) (by kernel_rfl) (fun _ => by kernel_rfl) ?_
                      refine T.pure (.pointer (some ⟨b5, 3, none⟩)) (by kernel_rfl) (fun _ => by kernel_rfl) ?_
                      refine T.look (.int .i64 e2.made) (by kernel_rfl) (fun w' hh => exec_load1 rfl rfl (by kernel_rfl) (hh.cellBox (i := 0) (by rfl) 3)) ?_
                      obtain ⟨r7, hb8, hX2⟩ := Option.bind_eq_some_iff.1 hX2
                      refine T.step (W1.call (vSc eBool) r7 41 #[.slice A5 x2.length c5, .int .i64 e2.made] (by kernel_rfl) (fun _ => by kernel_rfl) (fun w' hh => slices_Contains_int_l F x2 e2.made r7 hb8 w' A5 c5 (hh.row_slOk (i := 1) (by rfl))) ?_)
                      intro u V9 hV9 hu
                      obtain rfl := sureBool _ _ _ hu
                      refine T.pure (.bool (!r7)) (by kernel_rfl) (fun _ => by kernel_rfl) ?_
                      refine T.nil ?_
                      refine T.cond (!r7) (by kernel_rfl) (by kernel_rfl) (fun hc7 => ?_) (fun hc7 => ?_)
                      ·
                        rw [hc7, cond_true] at hX2
                        refine T.region ?_
                        refine T.pure (.slice A5 x2.length c5) (by kernel_rfl) (fun _ => by kernel_rfl) ?_
                        refine T.pure (.pointer (some ⟨b5, 3, none⟩)) (by kernel_rfl) (fun _ => by kernel_rfl) ?_
                        refine T.look (.int .i64 e2.made) (by kernel_rfl) (fun w' hh => exec_load1 rfl rfl (by kernel_rfl) (hh.cellBox (i := 0) (by rfl) 3)) ?_
                        refine T.step (W1.new 3 [.int .i64 e2.made] (fun b => .slice (some ⟨b, 0, none⟩) 1 1) (by kernel_rfl) (fun _ => by kernel_rfl) (fun b6 => ?_))
                        obtain ⟨y3, hb9, hX2⟩ := Option.bind_eq_some_iff.1 hX2
                        obtain ⟨hb9_r, hb9_m, rfl⟩ := grow_some hb9
                        obtain ⟨ti, hti, hz1, hz2, hz3⟩ := info_parts (P := Try.prog) (e := 3) (z := .int .i64 0) (size := 1) (bytes := 8) (by kernel_rfl)
                        refine T.step (W1.append (E := eInt) (l := x2) (m := [e2.made]) 2 _ _ 8 ti _ (by rfl) (by kernel_rfl) rfl (by kernel_rfl) hti hz1 hz2 hz3 rfl (by decide) rfl rfl (fun w' hh => (SlOk.srcF (slok_lit (E := eInt) (f := (fun x => [.int .i64 x])) [e2.made] (fun _ _ => rfl) (Nat.le_of_ble_eq_true (by rfl)) (fun j => hh.cellBox (i := 0) (by rfl) j)) (fun _ _ _ _ h => h))) hb9_r hb9_m (fun A8 c8 => ?_))
                        refine T.pure (.slice A8 ((x2 ++ [e2.made]).length) c8) (by kernel_rfl) (fun _ => by kernel_rfl) ?_
                        refine T.nil ?_
                        cases hX2
                        exact fun a w' hf hh => Exists.intro A8 (Exists.intro c8 (Exists.intro V9 (And.intro hV9 (And.intro ((((((Fr.nil hf).pick hf 74 rfl).pick hf 73 rfl).pick hf 72 rfl).pick hf 11 rfl).pick hf 0 rfl) (hh.sub (.cons _ (.cons _ (.cons_cons _ List.Sublist.slnil))))))))
                      ·
                        rw [hc7, cond_false] at hX2
                        refine T.skip_code ?_
                        cases hX2
                        exact fun a w' hf hh => Exists.intro A5 (Exists.intro c5 (Exists.intro V9 (And.intro hV9 (And.intro ((((((Fr.nil hf).pick hf 74 rfl).pick hf 73 rfl).pick hf 72 rfl).pick hf 11 rfl).pick hf 0 rfl) (hh.sub (.cons _ (.cons_cons _ List.Sublist.slnil)))))))
                    ·
                      rintro a w' ⟨A7, c7, V8, hV8, hf, hh⟩
                      refine (?_ : T 105 w V8 [row 3 eInt A7 c7 z3] [(0, .slice A1 p0.length c1), (11, .slice A7 z3.length c7), (72, .slice A1 p0.length c1), (73, .int .i64 (p0.length : Int)), (74, .int .i64 x3)] _) a w' hf hh
                      clear hf hh
                      refine T.region ?_
                      refine T.pure (.int .i64 (IntKind.i64.wrap (x3 + 1))) (by kernel_rfl) (fun _ => by kernel_rfl) ?_
                      refine T.pure (.int .i64 (IntKind.i64.wrap (x3 + 1))) (by kernel_rfl) (fun _ => by kernel_rfl) ?_
                      refine T.nil ?_
                      cases hY2
                      exact fun a w' hf hh => Exists.intro (z3, IntKind.i64.wrap (x3 + 1)) (And.intro rfl (Exists.intro z3 (Exists.intro (IntKind.i64.wrap (x3 + 1)) (And.intro rfl (Exists.intro A7 (Exists.intro c7 (Exists.intro V8 (And.intro (View.le_trans hV6 hV8) (And.intro ((((((Fr.nil hf).pick hf 74 rfl).pick hf 73 rfl).pick hf 72 rfl).pick hf 11 rfl).pick hf 0 rfl) (hh.sub (.cons_cons _ List.Sublist.slnil)))))))))))
                  ·
                    rw [hc6, cond_false] at hY2
                    refine T.exit ?_
                    cases hY2
                    cases (hr2 _ rfl)
                    exact fun a w' hf hh => Exists.intro A5 (Exists.intro c5 (Exists.intro V6 (And.intro hV6 (And.intro (((Fr.nil hf).pick hf 11 rfl).pick hf 0 rfl) (hh.sub (.cons_cons _ List.Sublist.slnil))))))
              ·
                rintro a w' ⟨A6, c6, V7, hV7, hf, hh⟩
                refine (?_ : T 105 w V7 [row 3 eInt A6 c6 z2] [(0, .slice A1 p0.length c1), (11, .slice A6 z2.length c6)] _) a w' hf hh
                clear hf hh
                refine T.seq ?_
                refine T.seq ?_
                refine T.region ?_
                refine T.pure (.slice A6 z2.length c6) (by kernel_rfl) (fun _ => by kernel_rfl) ?_
                refine T.pure (.int .i64 (z2.length : Int)) (by kernel_rfl) (fun _ => by kernel_rfl) ?_
                refine T.pure (.bool (decide ((20 : Int) < (z2.length : Int)))) (by kernel_rfl) (fun _ => by kernel_rfl) ?_
                refine T.nil ?_
                refine T.cond (decide ((20 : Int) < (z2.length : Int))) (by kernel_rfl) (by kernel_rfl) (fun hc8 => ?_) (fun hc8 => ?_)
                ·
                  rw [hc8, cond_true] at hF
                  refine T.seq ?_
                  refine T.region ?_
                  refine T.pure (.bool true) (by kernel_rfl) (fun _ => by kernel_rfl) ?_
                  refine T.nil ?_
                  cases hF
                  refine T.ret rfl ?_
                  exact T.ret1 rfl (ResIs.tmp rfl) fun w' hh => ⟨_, rfl, hh.below, (show _ from rfl)⟩
                ·
                  rw [hc8, cond_false] at hF
                  refine T.skip_code ?_
                  refine T.seq ?_
                  refine T.region ?_
                  refine T.pure (.slice A1 p0.length c1) (by kernel_rfl) (fun _ => by kernel_rfl) ?_
                  refine T.pure (.slice A6 z2.length c6) (by kernel_rfl) (fun _ => by kernel_rfl) ?_
                  obtain ⟨r8, hb10, hF⟩ := Option.bind_eq_some_iff.1 hF
                  refine T.step (W1.call (vT2 (vSc (eList eElem)) (vSc eInt)) r8 39 #[.slice A1 p0.length c1, .slice A6 z2.length c6] (by kernel_rfl) (fun _ => by kernel_rfl) (fun w' hh => prune_Kept_l F p0 z2 r8 hb10 w' A1 c1 (SlOk.mono (SlOk.mono hs1 (View.le_trans (View.le_trans (View.le_trans hV1 hV2) hV3) hV7)) hh.view) A6 c6 (hh.row_slOk (i := 0) (by rfl))) ?_)
                  intro u V10 hV10 hu
                  obtain ⟨u7, u8, rfl, hu7, hu8⟩ := vT2_elim hu
                  obtain ⟨A9, c9, rfl, hs5⟩ := vlist_elim hu7
                  obtain rfl := sureInt _ _ _ hu8
                  refine T.pure (.tuple #[.slice A9 r8.1.length c9, .int .i64 r8.2]) (by kernel_rfl) (fun _ => by kernel_rfl) ?_
                  refine T.pure (.slice A9 r8.1.length c9) (by kernel_rfl) (fun _ => by kernel_rfl) ?_
                  refine T.pure (.int .i64 r8.2) (by kernel_rfl) (fun _ => by kernel_rfl) ?_
                  refine T.pure (.slice A9 r8.1.length c9) (by kernel_rfl) (fun _ => by kernel_rfl) ?_
                  refine T.pure (.int .i64 r8.2) (by kernel_rfl) (fun _ => by kernel_rfl) ?_
                  refine T.nil ?_
                  obtain ⟨z4, hX3, hF⟩ := Option.bind_eq_some_iff.1 hF
                  refine T.cut (fun a w' => ∃ (V11 : View), View.le V10 V11 ∧ Fr 105 [(2, .bool z4)] a ∧ Hp w V11 [] w') ?_ ?_
                  ·
                    refine T.region ?_
                    refine T.pure (.int .i64 r8.2) (by kernel_rfl) (fun _ => by kernel_rfl) ?_
                    refine T.pure (.bool (r8.2 == 0)) (by kernel_rfl) (fun _ => by kernel_rfl) ?_
                    refine T.pure (.bool (r8.2 == 0)) (by kernel_rfl) (fun _ => by kernel_rfl) ?_
                    cases hg4 : (r8.2 == 0)
                    ·
                      skip
                      rw [hg4, cond_false] at hX3
                      refine T.pass (by kernel_rfl) (by kernel_rfl) ?_
                      refine T.pass (by kernel_rfl) (by kernel_rfl) ?_
                      refine T.pass (by kernel_rfl) (by kernel_rfl) ?_
                      refine T.pure (.bool false) (by kernel_rfl) (fun _ => by kernel_rfl) ?_
                      refine T.pure (.bool false) (by kernel_rfl) (fun _ => by kernel_rfl) ?_
                      refine T.nil ?_
                      cases hX3
                      exact fun a w' hf hh => Exists.intro V10 (And.intro (View.le_refl _) (And.intro ((Fr.nil hf).pick hf 2 rfl) (hh.sub (.cons _ List.Sublist.slnil))))
                    ·
                      skip
                      rw [hg4, cond_true] at hX3
                      refine T.pure (.slice A9 r8.1.length c9) (by kernel_rfl) (fun _ => by kernel_rfl) ?_
                      refine T.pure (.slice A1 p0.length c1) (by kernel_rfl) (fun _ => by kernel_rfl) ?_
                      obtain ⟨r9, hb11, hX3⟩ := Option.bind_eq_some_iff.1 hX3
                      refine T.step (W1.call (vSc eBool) r9 29 #[.slice A9 r8.1.length c9, .slice A1 p0.length c1] (by kernel_rfl) (fun _ => by kernel_rfl) (fun w' hh => slices_Equal_Elem_l F r8.1 p0 r9 hb11 w' A9 c9 (SlOk.mono (SlOk.mono hs5 (View.le_trans (made_le _ _) (View.le_refl _))) hh.view) A1 c1 (SlOk.mono (SlOk.mono hs1 (View.le_trans (View.le_trans (View.le_trans (View.le_trans hV1 hV2) hV3) hV7) hV10)) hh.view)) ?_)
                      intro u V12 hV12 hu
                      obtain rfl := sureBool _ _ _ hu
                      refine T.pure (.bool r9) (by kernel_rfl) (fun _ => by kernel_rfl) ?_
                      refine T.pure (.bool r9) (by kernel_rfl) (fun _ => by kernel_rfl) ?_
                      refine T.nil ?_
                      cases hX3
                      exact fun a w' hf hh => Exists.intro V12 (And.intro hV12 (And.intro ((Fr.nil hf).pick hf 2 rfl) (hh.sub (.cons _ List.Sublist.slnil))))
                  ·
                    rintro a w' ⟨V11, hV11, hf, hh⟩
                    refine (?_ : T 105 w V11 [] [(2, .bool z4)] _) a w' hf hh
                    clear hf hh
                    cases hF
                    refine T.ret rfl ?_
                    exact T.ret1 rfl (ResIs.tmp rfl) fun w' hh => ⟨_, rfl, hh.below, (show _ from rfl)⟩

end Go.Proofs.Ytiaoncjkfgebdaa
