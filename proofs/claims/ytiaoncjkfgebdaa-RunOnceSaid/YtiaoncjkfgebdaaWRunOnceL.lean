/- The Go functions of group WRunOnce compute the pure functions of that group: written by walkgen.py. Condition of each: the pure function yields a result. -/
import Derived.Test.YtiaoncjkfgebdaaRunL
import Derived.Test.YtiaoncjkfgebdaaEqsL
import Derived.Test.YtiaoncjkfgebdaaClear
import Derived.Test.YtiaoncjkfgebdaaWRunOnceF
import Derived.Test.YtiaoncjkfgebdaaEqL
namespace Go.Proofs.Ytiaoncjkfgebdaa
set_option linter.unusedVariables false

set_option maxRecDepth 100000 in
set_option maxHeartbeats 4000000 in
theorem annalkeep_RunOnce_l (F : Nat) (p0 : (List DElem)) (p1 : DKey) (p2 : DKey) (p3 : DKey) (p4 : Int) (r : Bool) (hF : annalkeep_RunOnce F p0 p1 p2 p3 p4 = some r) (w : World) (A1 : Option Addr) (c1 : Nat) (hs1 : SlOk (vw w) eElem A1 c1 p0) :
    Calls Try.prog 8 #[.slice A1 p0.length c1, .agg #[.int .i64 p1.pfs, .int .i64 p1.obj, .int .i64 p1.off], .agg #[.int .i64 p2.pfs, .int .i64 p2.obj, .int .i64 p2.off], .agg #[.int .i64 p3.pfs, .int .i64 p3.obj, .int .i64 p3.off], .int .i64 p4] w (Post (vSc eBool) r w) := by
  unfold annalkeep_RunOnce at hF
  refine T.start (l := [.slice A1 p0.length c1, .agg #[.int .i64 p1.pfs, .int .i64 p1.obj, .int .i64 p1.off], .agg #[.int .i64 p2.pfs, .int .i64 p2.obj, .int .i64 p2.off], .agg #[.int .i64 p3.pfs, .int .i64 p3.obj, .int .i64 p3.off], .int .i64 p4]) Try.func8 rfl rfl rfl ?_
  refine T.seq ?_
  refine T.region ?_
  refine T.step (W1.new 24 [.int .i64 p1.pfs, .int .i64 p1.obj, .int .i64 p1.off] (fun b => .pointer (some ⟨b, 0, none⟩)) (by kernel_rfl) (fun _ => by kernel_rfl) (fun b1 => ?_))
  refine T.step (W1.new 24 [.int .i64 p2.pfs, .int .i64 p2.obj, .int .i64 p2.off] (fun b => .pointer (some ⟨b, 0, none⟩)) (by kernel_rfl) (fun _ => by kernel_rfl) (fun b2 => ?_))
  refine T.step (W1.new 24 [.int .i64 p3.pfs, .int .i64 p3.obj, .int .i64 p3.off] (fun b => .pointer (some ⟨b, 0, none⟩)) (by kernel_rfl) (fun _ => by kernel_rfl) (fun b3 => ?_))
  refine T.pure (.bool false) (by kernel_rfl) (fun _ => by kernel_rfl) ?_
  refine T.nil ?_
  refine T.seq ?_
  refine T.seq ?_
  refine T.region ?_
  obtain ⟨r1, hb1, hF⟩ := Option.bind_eq_some_iff.1 hF
  refine T.step (W1.call (vAg eElem) r1 31 #[.int .i64 1, .string (ByteArray.mk #[97])] (by kernel_rfl) (fun _ => by kernel_rfl) (fun w' hh => annalkeep_at1_l 1 (ByteArray.mk #[97]) r1 hb1 w' ) ?_)
  intro u V1 hV1 hu
  obtain rfl := sureElem _ _ _ hu
  obtain ⟨r2, hb2, hF⟩ := Option.bind_eq_some_iff.1 hF
  refine T.step (W1.call (vAg eElem) r2 31 #[.int .i64 2, .string (ByteArray.mk #[98])] (by kernel_rfl) (fun _ => by kernel_rfl) (fun w' hh => annalkeep_at1_l 2 (ByteArray.mk #[98]) r2 hb2 w' ) ?_)
  intro u V2 hV2 hu
  obtain rfl := sureElem _ _ _ hu
  obtain ⟨r3, hb3, hF⟩ := Option.bind_eq_some_iff.1 hF
  refine T.step (W1.call (vAg eElem) r3 31 #[.int .i64 3, .string (ByteArray.mk #[99])] (by kernel_rfl) (fun _ => by kernel_rfl) (fun w' hh => annalkeep_at1_l 3 (ByteArray.mk #[99]) r3 hb3 w' ) ?_)
  intro u V3 hV3 hu
  obtain rfl := sureElem _ _ _ hu
  refine T.step (W1.new 26 [.int .i64 r1.key.pfs, .int .i64 r1.key.obj, .int .i64 r1.key.off, .int .i64 r1.made, .int .i64 r1.gone, .string r1.val, .int .i64 r2.key.pfs, .int .i64 r2.key.obj, .int .i64 r2.key.off, .int .i64 r2.made, .int .i64 r2.gone, .string r2.val, .int .i64 r3.key.pfs, .int .i64 r3.key.obj, .int .i64 r3.key.off, .int .i64 r3.made, .int .i64 r3.gone, .string r3.val] (fun b => .slice (some ⟨b, 0, none⟩) 3 3) (by kernel_rfl) (fun _ => by kernel_rfl) (fun b4 => ?_))
  refine T.pure (.agg #[.int .i64 0, .int .i64 0, .int .i64 2]) (by kernel_rfl) (fun _ => by kernel_rfl) ?_
  refine T.pure (.agg #[.int .i64 0, .int .i64 0, .int .i64 3]) (by kernel_rfl) (fun _ => by kernel_rfl) ?_
  obtain ⟨r4, hb4, hF⟩ := Option.bind_eq_some_iff.1 hF
  refine T.step (W1.call (vT2 (vSc (eList eElem)) (vSc eInt)) r4 28 #[.slice (some ⟨b4, 0, none⟩) 3 3, .agg #[.int .i64 0, .int .i64 0, .int .i64 2], .agg #[.int .i64 0, .int .i64 0, .int .i64 3], .int .i64 1] (by kernel_rfl) (fun _ => by kernel_rfl) (fun w' hh => run_Range_l F [r1, r2, r3] (DKey.mk 0 0 2) (DKey.mk 0 0 3) 1 r4 hb4 w' (some ⟨b4, 0, none⟩) 3 (slok_lit (E := eElem) (f := DElem.cells) [r1, r2, r3] (fun _ _ => rfl) (Nat.le_of_ble_eq_true (by rfl)) (fun j => hh.cellBox (i := 0) (by rfl) j))) ?_)
  intro u V4 hV4 hu
  obtain ⟨u1, u2, rfl, hu1, hu2⟩ := vT2_elim hu
  obtain ⟨A2, c2, rfl, hs2⟩ := vlist_elim hu1
  obtain rfl := sureInt _ _ _ hu2
  refine T.pure (.tuple #[.slice A2 r4.1.length c2, .int .i64 r4.2]) (by kernel_rfl) (fun _ => by kernel_rfl) ?_
  refine T.pure (.slice A2 r4.1.length c2) (by kernel_rfl) (fun _ => by kernel_rfl) ?_
  refine T.pure (.int .i64 r4.2) (by kernel_rfl) (fun _ => by kernel_rfl) ?_
  refine T.pure (.slice A2 r4.1.length c2) (by kernel_rfl) (fun _ => by kernel_rfl) ?_
  refine T.pure (.int .i64 r4.2) (by kernel_rfl) (fun _ => by kernel_rfl) ?_
  refine T.nil ?_
  refine T.cut (fun a w' => Fr 156 [(0, .slice A1 p0.length c1), (4, .int .i64 p4), (6, .pointer (some ⟨b1, 0, none⟩)), (7, .pointer (some ⟨b2, 0, none⟩)), (8, .pointer (some ⟨b3, 0, none⟩)), (40, .bool ((r4.2 != 0) || ((r4.1.length : Int) != 2)))] a ∧ Hp w V4 [box b3 24 [.int .i64 p3.pfs, .int .i64 p3.obj, .int .i64 p3.off], box b2 24 [.int .i64 p2.pfs, .int .i64 p2.obj, .int .i64 p2.off], box b1 24 [.int .i64 p1.pfs, .int .i64 p1.obj, .int .i64 p1.off]] w') ?_ ?_
  ·
    refine T.region ?_
    refine T.pure (.int .i64 r4.2) (by kernel_rfl) (fun _ => by kernel_rfl) ?_
    refine T.pure (.bool (r4.2 != 0)) (by kernel_rfl) (fun _ => by kernel_rfl) ?_
    refine T.pure (.bool (r4.2 != 0)) (by kernel_rfl) (fun _ => by kernel_rfl) ?_
    cases hg1 : (r4.2 != 0)
    ·
      skip
      refine T.pure (.slice A2 r4.1.length c2) (by kernel_rfl) (fun _ => by kernel_rfl) ?_
      refine T.pure (.int .i64 (r4.1.length : Int)) (by kernel_rfl) (fun _ => by kernel_rfl) ?_
      refine T.pure (.bool ((r4.1.length : Int) != 2)) (by kernel_rfl) (fun _ => by kernel_rfl) ?_
      refine T.pure (.bool ((r4.1.length : Int) != 2)) (by kernel_rfl) (fun _ => by kernel_rfl) ?_
      refine T.nil ?_
      exact fun a w' hf hh => And.intro (((((((Fr.nil hf).pick hf 40 rfl).pick hf 8 rfl).pick hf 7 rfl).pick hf 6 rfl).pick hf 4 rfl).pick hf 0 rfl) (hh.sub (.cons _ (.cons_cons _ (.cons_cons _ (.cons_cons _ List.Sublist.slnil)))))
    ·
      skip
      refine T.pass (by kernel_rfl) (by kernel_rfl) ?_
      refine T.pass (by kernel_rfl) (by kernel_rfl) ?_
      refine T.pass (by kernel_rfl) (by kernel_rfl) ?_
      refine T.pure (.bool true) (by kernel_rfl) (fun _ => by kernel_rfl) ?_
      refine T.nil ?_
      exact fun a w' hf hh => And.intro (((((((Fr.nil hf).pick hf 40 rfl).pick hf 8 rfl).pick hf 7 rfl).pick hf 6 rfl).pick hf 4 rfl).pick hf 0 rfl) (hh.sub (.cons _ (.cons_cons _ (.cons_cons _ (.cons_cons _ List.Sublist.slnil)))))
  ·
    rintro a w' ⟨hf, hh⟩
    refine (?_ : T 156 w V4 [box b3 24 [.int .i64 p3.pfs, .int .i64 p3.obj, .int .i64 p3.off], box b2 24 [.int .i64 p2.pfs, .int .i64 p2.obj, .int .i64 p2.off], box b1 24 [.int .i64 p1.pfs, .int .i64 p1.obj, .int .i64 p1.off]] [(0, .slice A1 p0.length c1), (4, .int .i64 p4), (6, .pointer (some ⟨b1, 0, none⟩)), (7, .pointer (some ⟨b2, 0, none⟩)), (8, .pointer (some ⟨b3, 0, none⟩)), (40, .bool ((r4.2 != 0) || ((r4.1.length : Int) != 2)))] _) a w' hf hh
    clear hf hh
    refine T.cond ((r4.2 != 0) || ((r4.1.length : Int) != 2)) (by kernel_rfl) (by kernel_rfl) (fun hc1 => ?_) (fun hc1 => ?_)
    ·
      rw [hc1, cond_true] at hF
      refine T.seq ?_
      refine T.region ?_
      refine T.pure (.bool false) (by kernel_rfl) (fun _ => by kernel_rfl) ?_
      refine T.nil ?_
      cases hF
      refine T.ret rfl ?_
      exact T.ret1 rfl (ResIs.tmp rfl) fun w' hh => ⟨_, rfl, hh.below, (show _ from rfl)⟩
    ·
      rw [hc1, cond_false] at hF
      refine T.skip_code ?_
      refine T.seq ?_
      refine T.region ?_
      refine T.pure (.slice A1 p0.length c1) (by kernel_rfl) (fun _ => by kernel_rfl) ?_
      refine T.look (.agg #[.int .i64 p1.pfs, .int .i64 p1.obj, .int .i64 p1.off]) (by kernel_rfl) (fun w' hh => exec_loadN (cs := [.int .i64 p1.pfs, .int .i64 p1.obj, .int .i64 p1.off]) rfl rfl (by kernel_rfl) (by kernel_rfl) (fun j u hj => (hh.box_at (i := 2) (cs := [.int .i64 p1.pfs, .int .i64 p1.obj, .int .i64 p1.off]) (by rfl) 0 j).trans (seg_at (n := 3) rfl hj))) ?_
      refine T.look (.agg #[.int .i64 p3.pfs, .int .i64 p3.obj, .int .i64 p3.off]) (by kernel_rfl) (fun w' hh => exec_loadN (cs := [.int .i64 p3.pfs, .int .i64 p3.obj, .int .i64 p3.off]) rfl rfl (by kernel_rfl) (by kernel_rfl) (fun j u hj => (hh.box_at (i := 0) (cs := [.int .i64 p3.pfs, .int .i64 p3.obj, .int .i64 p3.off]) (by rfl) 0 j).trans (seg_at (n := 3) rfl hj))) ?_
      refine T.pure (.int .i64 p4) (by kernel_rfl) (fun _ => by kernel_rfl) ?_
      obtain ⟨r5, hb5, hF⟩ := Option.bind_eq_some_iff.1 hF
      refine T.step (W1.call (vT2 (vSc (eList eElem)) (vSc eInt)) r5 28 #[.slice A1 p0.length c1, .agg #[.int .i64 p1.pfs, .int .i64 p1.obj, .int .i64 p1.off], .agg #[.int .i64 p3.pfs, .int .i64 p3.obj, .int .i64 p3.off], .int .i64 p4] (by kernel_rfl) (fun _ => by kernel_rfl) (fun w' hh => run_Range_l F p0 p1 p3 p4 r5 hb5 w' A1 c1 (SlOk.mono (SlOk.mono hs1 (View.le_trans (View.le_trans (View.le_trans hV1 hV2) hV3) hV4)) hh.view)) ?_)
      intro u V5 hV5 hu
      obtain ⟨u3, u4, rfl, hu3, hu4⟩ := vT2_elim hu
      obtain ⟨A3, c3, rfl, hs3⟩ := vlist_elim hu3
      obtain rfl := sureInt _ _ _ hu4
      refine T.pure (.tuple #[.slice A3 r5.1.length c3, .int .i64 r5.2]) (by kernel_rfl) (fun _ => by kernel_rfl) ?_
      refine T.pure (.slice A3 r5.1.length c3) (by kernel_rfl) (fun _ => by kernel_rfl) ?_
      refine T.pure (.int .i64 r5.2) (by kernel_rfl) (fun _ => by kernel_rfl) ?_
      refine T.pure (.slice A3 r5.1.length c3) (by kernel_rfl) (fun _ => by kernel_rfl) ?_
      refine T.pure (.int .i64 r5.2) (by kernel_rfl) (fun _ => by kernel_rfl) ?_
      refine T.nil ?_
      refine T.seq ?_
      refine T.seq ?_
      refine T.region ?_
      refine T.pure (.int .i64 r5.2) (by kernel_rfl) (fun _ => by kernel_rfl) ?_
      refine T.pure (.bool (r5.2 != 0)) (by kernel_rfl) (fun _ => by kernel_rfl) ?_
      refine T.nil ?_
      refine T.cond (r5.2 != 0) (by kernel_rfl) (by kernel_rfl) (fun hc2 => ?_) (fun hc2 => ?_)
      ·
        rw [hc2, cond_true] at hF
        refine T.seq ?_
        refine T.region ?_
        refine T.pure (.slice A3 r5.1.length c3) (by kernel_rfl) (fun _ => by kernel_rfl) ?_
        refine T.pure (.int .i64 (r5.1.length : Int)) (by kernel_rfl) (fun _ => by kernel_rfl) ?_
        refine T.pure (.bool ((r5.1.length : Int) == 0)) (by kernel_rfl) (fun _ => by kernel_rfl) ?_
        refine T.pure (.bool ((r5.1.length : Int) == 0)) (by kernel_rfl) (fun _ => by kernel_rfl) ?_
        refine T.nil ?_
        cases hF
        refine T.ret rfl ?_
        exact T.ret1 rfl (ResIs.tmp rfl) fun w' hh => ⟨_, rfl, hh.below, (show _ from rfl)⟩
      ·
        rw [hc2, cond_false] at hF
        refine T.skip_code ?_
        refine T.seq ?_
        refine T.seq ?_
        refine T.region ?_
        refine T.pure (.slice A3 r5.1.length c3) (by kernel_rfl) (fun _ => by kernel_rfl) ?_
        refine T.pure (.int .i64 (r5.1.length : Int)) (by kernel_rfl) (fun _ => by kernel_rfl) ?_
        refine T.pure (.int .i64 0) (by kernel_rfl) (fun _ => by kernel_rfl) ?_
        refine T.nil ?_
        obtain ⟨q1, hz1, hF⟩ := Option.bind_eq_some_iff.1 hF
        refine T.mid (fun a w' => q1 = Sum.inl () ∧ ∃ (V7 : View), View.le V5 V7 ∧ Fr 156 [(0, .slice A1 p0.length c1), (4, .int .i64 p4), (6, .pointer (some ⟨b1, 0, none⟩)), (7, .pointer (some ⟨b2, 0, none⟩)), (8, .pointer (some ⟨b3, 0, none⟩)), (13, .slice A3 r5.1.length c3)] a ∧ Hp w V7 [box b3 24 [.int .i64 p3.pfs, .int .i64 p3.obj, .int .i64 p3.off], box b2 24 [.int .i64 p2.pfs, .int .i64 p2.obj, .int .i64 p2.off], box b1 24 [.int .i64 p1.pfs, .int .i64 p1.obj, .int .i64 p1.off]] w') ?_ ?_
        ·
          refine T.block ?_
          refine T.iter (fun x1 a w' => ∃ (V6 : View), View.le V5 V6 ∧ Fr 156 [(0, .slice A1 p0.length c1), (4, .int .i64 p4), (6, .pointer (some ⟨b1, 0, none⟩)), (7, .pointer (some ⟨b2, 0, none⟩)), (8, .pointer (some ⟨b3, 0, none⟩)), (13, .slice A3 r5.1.length c3), (54, .slice A3 r5.1.length c3), (55, .int .i64 (r5.1.length : Int)), (56, .int .i64 x1)] a ∧ Hp w V6 [box b3 24 [.int .i64 p3.pfs, .int .i64 p3.obj, .int .i64 p3.off], box b2 24 [.int .i64 p2.pfs, .int .i64 p2.obj, .int .i64 p2.off], box b1 24 [.int .i64 p1.pfs, .int .i64 p1.obj, .int .i64 p1.off]] w') hz1 ?_ ?_
          ·
            exact fun a w' hf hh => Exists.intro V5 (And.intro (View.le_refl _) (And.intro ((((((((((Fr.nil hf).pick hf 56 rfl).pick hf 55 rfl).pick hf 54 rfl).pick hf 13 rfl).pick hf 8 rfl).pick hf 7 rfl).pick hf 6 rfl).pick hf 4 rfl).pick hf 0 rfl) (hh.sub (.cons_cons _ (.cons_cons _ (.cons_cons _ List.Sublist.slnil))))))
          ·
            rintro x1 y1 hY1 hr1 a w' ⟨V6, hV6, hf, hh⟩
            refine (?_ : T 156 w V6 [box b3 24 [.int .i64 p3.pfs, .int .i64 p3.obj, .int .i64 p3.off], box b2 24 [.int .i64 p2.pfs, .int .i64 p2.obj, .int .i64 p2.off], box b1 24 [.int .i64 p1.pfs, .int .i64 p1.obj, .int .i64 p1.off]] [(0, .slice A1 p0.length c1), (4, .int .i64 p4), (6, .pointer (some ⟨b1, 0, none⟩)), (7, .pointer (some ⟨b2, 0, none⟩)), (8, .pointer (some ⟨b3, 0, none⟩)), (13, .slice A3 r5.1.length c3), (54, .slice A3 r5.1.length c3), (55, .int .i64 (r5.1.length : Int)), (56, .int .i64 x1)] _) a w' hf hh
            clear hf hh
            try dsimp only at hY1
            refine T.seq ?_
            refine T.region ?_
            refine T.pure (.bool (decide (x1 < (r5.1.length : Int)))) (by kernel_rfl) (fun _ => by kernel_rfl) ?_
            refine T.nil ?_
            refine T.seq ?_
            refine T.cond (decide (x1 < (r5.1.length : Int))) (by kernel_rfl) (by kernel_rfl) (fun hc3 => ?_) (fun hc3 => ?_)
            ·
              rw [hc3, cond_true] at hY1
              refine T.skip_code ?_
              refine T.seq ?_
              refine T.block ?_
              refine T.seq ?_
              refine T.region ?_
              refine T.pure (.int .i64 x1) (by kernel_rfl) (fun _ => by kernel_rfl) ?_
              obtain ⟨e1, hb6, hY1⟩ := Option.bind_eq_some_iff.1 hY1
              obtain ⟨hi1, hi2, hi3⟩ := idx_some hb6
              refine T.look (.pointer (some ((sadr A3).add (x1.toNat * 6)))) (by kernel_rfl) (fun w' hh => exec_indexAddr (e := 26) (s := 6) rfl rfl rfl (by kernel_rfl) (by kernel_rfl) hi1 hi2 ((SlOk.mono hs3 (View.le_trans (made_le _ _) hV6)).some_ hi3 (by decide))) ?_
              refine T.look (.agg #[.int .i64 e1.key.pfs, .int .i64 e1.key.obj, .int .i64 e1.key.off, .int .i64 e1.made, .int .i64 e1.gone, .string e1.val]) (by kernel_rfl) (fun w' hh => exec_loadN (cs := [.int .i64 e1.key.pfs, .int .i64 e1.key.obj, .int .i64 e1.key.off, .int .i64 e1.made, .int .i64 e1.gone, .string e1.val]) rfl rfl (by kernel_rfl) (by kernel_rfl) (fun j u hj => (hh.cell_view (SlOk.cellF (E := eElem) (SlOk.mono hs3 (View.le_trans (made_le _ _) hV6)) hi3 j (fun _ _ _ h => h) hj)))) ?_
              refine T.step (W1.new 26 [.int .i64 0, .int .i64 0, .int .i64 0, .int .i64 0, .int .i64 0, .string (ByteArray.mk #[])] (fun b => .pointer (some ⟨b, 0, none⟩)) (by kernel_rfl) (fun _ => by kernel_rfl) (fun b5 => ?_))
              refine T.pure (.int .i64 x1) (by kernel_rfl) (fun _ => by kernel_rfl) ?_
              refine T.step (W1.store 0 [.int .i64 e1.key.pfs, .int .i64 e1.key.obj, .int .i64 e1.key.off, .int .i64 e1.made, .int .i64 e1.gone, .string e1.val] [box b5 26 [.int .i64 e1.key.pfs, .int .i64 e1.key.obj, .int .i64 e1.key.off, .int .i64 e1.made, .int .i64 e1.gone, .string e1.val], box b3 24 [.int .i64 p3.pfs, .int .i64 p3.obj, .int .i64 p3.off], box b2 24 [.int .i64 p2.pfs, .int .i64 p2.obj, .int .i64 p2.off], box b1 24 [.int .i64 p1.pfs, .int .i64 p1.obj, .int .i64 p1.off]] (by rfl) rfl (by kernel_rfl) (fun w' hw => exec_store (vs := [.int .i64 e1.key.pfs, .int .i64 e1.key.obj, .int .i64 e1.key.off, .int .i64 e1.made, .int .i64 e1.gone, .string e1.val]) rfl rfl rfl rfl (by kernel_rfl) (one_of rfl) (by simp) rfl hw) ?_)
              refine T.nil ?_
              refine T.seq ?_
              refine T.region ?_
              refine T.pure (.slice A1 p0.length c1) (by kernel_rfl) (fun _ => by kernel_rfl) ?_
              refine T.pure (.pointer (some ⟨b5, 0, none⟩)) (by kernel_rfl) (fun _ => by kernel_rfl) ?_
              refine T.look (.agg #[.int .i64 e1.key.pfs, .int .i64 e1.key.obj, .int .i64 e1.key.off]) (by kernel_rfl) (fun w' hh => exec_loadN (cs := [.int .i64 e1.key.pfs, .int .i64 e1.key.obj, .int .i64 e1.key.off]) rfl rfl (by kernel_rfl) (by kernel_rfl) (fun j u hj => (hh.box_at (i := 0) (cs := [.int .i64 e1.key.pfs, .int .i64 e1.key.obj, .int .i64 e1.key.off, .int .i64 e1.made, .int .i64 e1.gone, .string e1.val]) (by rfl) 0 j).trans (seg_at (n := 3) rfl hj))) ?_
              refine T.pure (.int .i64 p4) (by kernel_rfl) (fun _ => by kernel_rfl) ?_
              obtain ⟨r6, hb7, hY1⟩ := Option.bind_eq_some_iff.1 hY1
              refine T.step (W1.call (vT2 (vAg eElem) (vSc eInt)) r6 44 #[.slice A1 p0.length c1, .agg #[.int .i64 e1.key.pfs, .int .i64 e1.key.obj, .int .i64 e1.key.off], .int .i64 p4] (by kernel_rfl) (fun _ => by kernel_rfl) (fun w' hh => run_At_l F p0 e1.key p4 r6 hb7 w' A1 c1 (SlOk.mono (SlOk.mono hs1 (View.le_trans (View.le_trans (View.le_trans (View.le_trans (View.le_trans hV1 hV2) hV3) hV4) hV5) hV6)) hh.view)) ?_)
              intro u V8 hV8 hu
              obtain rfl := (Sure.t2 sureElem sureInt) _ _ _ hu
              refine T.pure (.tuple #[.agg #[.int .i64 r6.1.key.pfs, .int .i64 r6.1.key.obj, .int .i64 r6.1.key.off, .int .i64 r6.1.made, .int .i64 r6.1.gone, .string r6.1.val], .int .i64 r6.2]) (by kernel_rfl) (fun _ => by kernel_rfl) ?_
              refine T.pure (.agg #[.int .i64 r6.1.key.pfs, .int .i64 r6.1.key.obj, .int .i64 r6.1.key.off, .int .i64 r6.1.made, .int .i64 r6.1.gone, .string r6.1.val]) (by kernel_rfl) (fun _ => by kernel_rfl) ?_
              refine T.pure (.int .i64 r6.2) (by kernel_rfl) (fun _ => by kernel_rfl) ?_
              refine T.step (W1.new 26 [.int .i64 0, .int .i64 0, .int .i64 0, .int .i64 0, .int .i64 0, .string (ByteArray.mk #[])] (fun b => .pointer (some ⟨b, 0, none⟩)) (by kernel_rfl) (fun _ => by kernel_rfl) (fun b6 => ?_))
              refine T.step (W1.store 0 [.int .i64 r6.1.key.pfs, .int .i64 r6.1.key.obj, .int .i64 r6.1.key.off, .int .i64 r6.1.made, .int .i64 r6.1.gone, .string r6.1.val] [box b6 26 [.int .i64 r6.1.key.pfs, .int .i64 r6.1.key.obj, .int .i64 r6.1.key.off, .int .i64 r6.1.made, .int .i64 r6.1.gone, .string r6.1.val], box b5 26 [.int .i64 e1.key.pfs, .int .i64 e1.key.obj, .int .i64 e1.key.off, .int .i64 e1.made, .int .i64 e1.gone, .string e1.val], box b3 24 [.int .i64 p3.pfs, .int .i64 p3.obj, .int .i64 p3.off], box b2 24 [.int .i64 p2.pfs, .int .i64 p2.obj, .int .i64 p2.off], box b1 24 [.int .i64 p1.pfs, .int .i64 p1.obj, .int .i64 p1.off]] (by rfl) rfl (by kernel_rfl) (fun w' hw => exec_store (vs := [.int .i64 r6.1.key.pfs, .int .i64 r6.1.key.obj, .int .i64 r6.1.key.off, .int .i64 r6.1.made, .int .i64 r6.1.gone, .string r6.1.val]) rfl rfl rfl rfl (by kernel_rfl) (one_of rfl) (by simp) rfl hw) ?_)
              refine T.pure (.int .i64 r6.2) (by kernel_rfl) (fun _ => by kernel_rfl) ?_
              refine T.nil ?_
              obtain ⟨z1, hX1, hY1⟩ := Option.bind_eq_some_iff.1 hY1
              refine T.cut (fun a w' => Fr 156 [(0, .slice A1 p0.length c1), (4, .int .i64 p4), (6, .pointer (some ⟨b1, 0, none⟩)), (7, .pointer (some ⟨b2, 0, none⟩)), (8, .pointer (some ⟨b3, 0, none⟩)), (13, .slice A3 r5.1.length c3), (54, .slice A3 r5.1.length c3), (55, .int .i64 (r5.1.length : Int)), (56, .int .i64 x1), (91, .bool z1)] a ∧ Hp w V8 [box b5 26 [.int .i64 e1.key.pfs, .int .i64 e1.key.obj, .int .i64 e1.key.off, .int .i64 e1.made, .int .i64 e1.gone, .string e1.val], box b3 24 [.int .i64 p3.pfs, .int .i64 p3.obj, .int .i64 p3.off], box b2 24 [.int .i64 p2.pfs, .int .i64 p2.obj, .int .i64 p2.off], box b1 24 [.int .i64 p1.pfs, .int .i64 p1.obj, .int .i64 p1.off]] w') ?_ ?_
              ·
                refine T.quiet (by kernel_rfl) (by kernel_rfl) ?_
                refine TQ.pure (.int .i64 r6.2) (by kernel_rfl) (fun _ => by kernel_rfl) ?_
                refine TQ.pure (.bool (r6.2 != 0)) (by kernel_rfl) (fun _ => by kernel_rfl) ?_
                refine TQ.pure (.bool (r6.2 != 0)) (by kernel_rfl) (fun _ => by kernel_rfl) ?_
                cases hg2 : (r6.2 != 0)
                ·
                  skip
                  rw [hg2, cond_false] at hX1
                  refine TQ.look (.agg #[.int .i64 e1.key.pfs, .int .i64 e1.key.obj, .int .i64 e1.key.off, .int .i64 e1.made, .int .i64 e1.gone, .string e1.val]) (by kernel_rfl) (fun w' hh => exec_loadN (cs := [.int .i64 e1.key.pfs, .int .i64 e1.key.obj, .int .i64 e1.key.off, .int .i64 e1.made, .int .i64 e1.gone, .string e1.val]) rfl rfl (by kernel_rfl) (by kernel_rfl) (fun j u hj => (hh.box_at (i := 1) (cs := [.int .i64 e1.key.pfs, .int .i64 e1.key.obj, .int .i64 e1.key.off, .int .i64 e1.made, .int .i64 e1.gone, .string e1.val]) (by rfl) 0 j).trans (seg_at (n := 6) rfl hj))) ?_
                  refine TQ.look (.agg #[.int .i64 r6.1.key.pfs, .int .i64 r6.1.key.obj, .int .i64 r6.1.key.off, .int .i64 r6.1.made, .int .i64 r6.1.gone, .string r6.1.val]) (by kernel_rfl) (fun w' hh => exec_loadN (cs := [.int .i64 r6.1.key.pfs, .int .i64 r6.1.key.obj, .int .i64 r6.1.key.off, .int .i64 r6.1.made, .int .i64 r6.1.gone, .string r6.1.val]) rfl rfl (by kernel_rfl) (by kernel_rfl) (fun j u hj => (hh.box_at (i := 0) (cs := [.int .i64 r6.1.key.pfs, .int .i64 r6.1.key.obj, .int .i64 r6.1.key.off, .int .i64 r6.1.made, .int .i64 r6.1.gone, .string r6.1.val]) (by rfl) 0 j).trans (seg_at (n := 6) rfl hj))) ?_
                  refine TQ.look (.bool (!(e1 == r6.1))) (by kernel_rfl) (fun w' hh => exec_neq_DElem e1 r6.1 w' rfl rfl rfl) ?_
                  refine TQ.pure (.bool (!(e1 == r6.1))) (by kernel_rfl) (fun _ => by kernel_rfl) ?_
                  refine TQ.pure (.bool (!(e1 == r6.1))) (by kernel_rfl) (fun _ => by kernel_rfl) ?_
                  cases hg3 : (!(e1 == r6.1))
                  ·
                    skip
                    rw [hg3, cond_false] at hX1
                    refine TQ.pure (.int .i64 x1) (by kernel_rfl) (fun _ => by kernel_rfl) ?_
                    refine TQ.pure (.bool (decide ((0 : Int) < x1))) (by kernel_rfl) (fun _ => by kernel_rfl) ?_
                    refine TQ.pure (.bool (decide ((0 : Int) < x1))) (by kernel_rfl) (fun _ => by kernel_rfl) ?_
                    cases hg4 : decide ((0 : Int) < x1)
                    ·
                      skip
                      rw [hg4, cond_false] at hX1
                      refine TQ.pass (by kernel_rfl) (by kernel_rfl) ?_
                      refine TQ.pass (by kernel_rfl) (by kernel_rfl) ?_
                      refine TQ.pass (by kernel_rfl) (by kernel_rfl) ?_
                      refine TQ.pass (by kernel_rfl) (by kernel_rfl) ?_
                      refine TQ.pass (by kernel_rfl) (by kernel_rfl) ?_
                      refine TQ.pass (by kernel_rfl) (by kernel_rfl) ?_
                      refine TQ.pass (by kernel_rfl) (by kernel_rfl) ?_
                      refine TQ.pass (by kernel_rfl) (by kernel_rfl) ?_
                      refine TQ.pass (by kernel_rfl) (by kernel_rfl) ?_
                      refine TQ.pass (by kernel_rfl) (by kernel_rfl) ?_
                      refine TQ.pure (.bool false) (by kernel_rfl) (fun _ => by kernel_rfl) ?_
                      refine TQ.pure (.bool false) (by kernel_rfl) (fun _ => by kernel_rfl) ?_
                      refine TQ.nil ?_
                      cases hX1
                      exact fun a w' hf hh => And.intro (((((((((((Fr.nil hf).pick hf 91 rfl).pick hf 56 rfl).pick hf 55 rfl).pick hf 54 rfl).pick hf 13 rfl).pick hf 8 rfl).pick hf 7 rfl).pick hf 6 rfl).pick hf 4 rfl).pick hf 0 rfl) (hh.sub (.cons _ (.cons_cons _ (.cons_cons _ (.cons_cons _ (.cons_cons _ List.Sublist.slnil))))))
                    ·
                      skip
                      rw [hg4, cond_true] at hX1
                      refine TQ.pure (.slice A3 r5.1.length c3) (by kernel_rfl) (fun _ => by kernel_rfl) ?_
                      refine TQ.pure (.int .i64 x1) (by kernel_rfl) (fun _ => by kernel_rfl) ?_
                      refine TQ.pure (.int .i64 (IntKind.i64.wrap (x1 - 1))) (by kernel_rfl) (fun _ => by kernel_rfl) ?_
                      obtain ⟨e2, hb8, hX1⟩ := Option.bind_eq_some_iff.1 hX1
                      obtain ⟨hi4, hi5, hi6⟩ := idx_some hb8
                      refine TQ.look (.pointer (some ((sadr A3).add (((IntKind.i64.wrap (x1 - 1)).toNat) * 6)))) (by kernel_rfl) (fun w' hh => exec_indexAddr (e := 26) (s := 6) rfl rfl rfl (by kernel_rfl) (by kernel_rfl) hi4 hi5 ((SlOk.mono hs3 (View.le_trans (made_le _ _) (View.le_trans hV6 hV8))).some_ hi6 (by decide))) ?_
                      refine TQ.pure (.pointer (some ((sadr A3).add (((IntKind.i64.wrap (x1 - 1)).toNat) * 6)))) (by kernel_rfl) (fun _ => by kernel_rfl) ?_
                      refine TQ.look (.agg #[.int .i64 e2.key.pfs, .int .i64 e2.key.obj, .int .i64 e2.key.off]) (by kernel_rfl) (fun w' hh => exec_loadN (cs := [.int .i64 e2.key.pfs, .int .i64 e2.key.obj, .int .i64 e2.key.off]) rfl rfl (by kernel_rfl) (by kernel_rfl) (fun j u hj => (hh.cell_view (SlOk.cellF (E := eElem) (SlOk.mono hs3 (View.le_trans (made_le _ _) (View.le_trans hV6 hV8))) hi6 j (fun _ _ _ h => h) (take_at (n := 3) rfl hj))))) ?_
                      refine TQ.pure (.pointer (some ⟨b5, 0, none⟩)) (by kernel_rfl) (fun _ => by kernel_rfl) ?_
                      refine TQ.look (.agg #[.int .i64 e1.key.pfs, .int .i64 e1.key.obj, .int .i64 e1.key.off]) (by kernel_rfl) (fun w' hh => exec_loadN (cs := [.int .i64 e1.key.pfs, .int .i64 e1.key.obj, .int .i64 e1.key.off]) rfl rfl (by kernel_rfl) (by kernel_rfl) (fun j u hj => (hh.box_at (i := 1) (cs := [.int .i64 e1.key.pfs, .int .i64 e1.key.obj, .int .i64 e1.key.off, .int .i64 e1.made, .int .i64 e1.gone, .string e1.val]) (by rfl) 0 j).trans (seg_at (n := 3) rfl hj))) ?_
                      obtain ⟨r7, hb9, hX1⟩ := Option.bind_eq_some_iff.1 hX1
                      refine TQ.call (vSc eInt) r7 45 #[.agg #[.int .i64 e2.key.pfs, .int .i64 e2.key.obj, .int .i64 e2.key.off], .agg #[.int .i64 e1.key.pfs, .int .i64 e1.key.obj, .int .i64 e1.key.off]] (.int .i64 r7) (fun V u hu => sureInt V u _ hu) (by kernel_rfl) (fun _ => by kernel_rfl) (fun w' hh => key_Cmp_l e2.key e1.key r7 hb9 w' ) ?_
                      refine TQ.pure (.bool (decide ((0 : Int) ≤ r7))) (by kernel_rfl) (fun _ => by kernel_rfl) ?_
                      refine TQ.pure (.bool (decide ((0 : Int) ≤ r7))) (by kernel_rfl) (fun _ => by kernel_rfl) ?_
                      refine TQ.pure (.bool (decide ((0 : Int) ≤ r7))) (by kernel_rfl) (fun _ => by kernel_rfl) ?_
                      refine TQ.nil ?_
                      cases hX1
                      exact fun a w' hf hh => And.intro (((((((((((Fr.nil hf).pick hf 91 rfl).pick hf 56 rfl).pick hf 55 rfl).pick hf 54 rfl).pick hf 13 rfl).pick hf 8 rfl).pick hf 7 rfl).pick hf 6 rfl).pick hf 4 rfl).pick hf 0 rfl) (hh.sub (.cons _ (.cons_cons _ (.cons_cons _ (.cons_cons _ (.cons_cons _ List.Sublist.slnil))))))
                  ·
                    skip
                    rw [hg3, cond_true] at hX1
                    refine TQ.pass (by kernel_rfl) (by kernel_rfl) ?_
                    refine TQ.pass (by kernel_rfl) (by kernel_rfl) ?_
                    refine TQ.pass (by kernel_rfl) (by kernel_rfl) ?_
                    refine TQ.pass (by kernel_rfl) (by kernel_rfl) ?_
                    refine TQ.pass (by kernel_rfl) (by kernel_rfl) ?_
                    refine TQ.pass (by kernel_rfl) (by kernel_rfl) ?_
                    refine TQ.pass (by kernel_rfl) (by kernel_rfl) ?_
                    refine TQ.pass (by kernel_rfl) (by kernel_rfl) ?_
                    refine TQ.pass (by kernel_rfl) (by kernel_rfl) ?_
                    refine TQ.pass (by kernel_rfl) (by kernel_rfl) ?_
                    refine TQ.pass (by kernel_rfl) (by kernel_rfl) ?_
                    refine TQ.pass (by kernel_rfl) (by kernel_rfl) ?_
                    refine TQ.pass (by kernel_rfl) (by kernel_rfl) ?_
                    refine TQ.pass (by kernel_rfl) (by kernel_rfl) ?_
                    refine TQ.pure (.bool true) (by kernel_rfl) (fun _ => by kernel_rfl) ?_
                    refine TQ.nil ?_
                    cases hX1
                    exact fun a w' hf hh => And.intro (((((((((((Fr.nil hf).pick hf 91 rfl).pick hf 56 rfl).pick hf 55 rfl).pick hf 54 rfl).pick hf 13 rfl).pick hf 8 rfl).pick hf 7 rfl).pick hf 6 rfl).pick hf 4 rfl).pick hf 0 rfl) (hh.sub (.cons _ (.cons_cons _ (.cons_cons _ (.cons_cons _ (.cons_cons _ List.Sublist.slnil))))))
                ·
                  skip
                  rw [hg2, cond_true] at hX1
                  refine TQ.pass (by kernel_rfl) (by kernel_rfl) ?_
                  refine TQ.pass (by kernel_rfl) (by kernel_rfl) ?_
                  refine TQ.pass (by kernel_rfl) (by kernel_rfl) ?_
                  refine TQ.pure (.bool true) (by kernel_rfl) (fun _ => by kernel_rfl) ?_
                  refine TQ.pure (.bool true) (by kernel_rfl) (fun _ => by kernel_rfl) ?_
                  refine TQ.pass (by kernel_rfl) (by kernel_rfl) ?_
                  refine TQ.pass (by kernel_rfl) (by kernel_rfl) ?_
                  refine TQ.pass (by kernel_rfl) (by kernel_rfl) ?_
                  refine TQ.pass (by kernel_rfl) (by kernel_rfl) ?_
                  refine TQ.pass (by kernel_rfl) (by kernel_rfl) ?_
                  refine TQ.pass (by kernel_rfl) (by kernel_rfl) ?_
                  refine TQ.pass (by kernel_rfl) (by kernel_rfl) ?_
                  refine TQ.pass (by kernel_rfl) (by kernel_rfl) ?_
                  refine TQ.pass (by kernel_rfl) (by kernel_rfl) ?_
                  refine TQ.pass (by kernel_rfl) (by kernel_rfl) ?_
                  refine TQ.pass (by kernel_rfl) (by kernel_rfl) ?_
                  refine TQ.pass (by kernel_rfl) (by kernel_rfl) ?_
                  refine TQ.pass (by kernel_rfl) (by kernel_rfl) ?_
                  refine TQ.pass (by kernel_rfl) (by kernel_rfl) ?_
                  refine TQ.pure (.bool true) (by kernel_rfl) (fun _ => by kernel_rfl) ?_
                  refine TQ.nil ?_
                  cases hX1
                  exact fun a w' hf hh => And.intro (((((((((((Fr.nil hf).pick hf 91 rfl).pick hf 56 rfl).pick hf 55 rfl).pick hf 54 rfl).pick hf 13 rfl).pick hf 8 rfl).pick hf 7 rfl).pick hf 6 rfl).pick hf 4 rfl).pick hf 0 rfl) (hh.sub (.cons _ (.cons_cons _ (.cons_cons _ (.cons_cons _ (.cons_cons _ List.Sublist.slnil))))))
              ·
                rintro a w' ⟨hf, hh⟩
                refine (?_ : T 156 w V8 [box b5 26 [.int .i64 e1.key.pfs, .int .i64 e1.key.obj, .int .i64 e1.key.off, .int .i64 e1.made, .int .i64 e1.gone, .string e1.val], box b3 24 [.int .i64 p3.pfs, .int .i64 p3.obj, .int .i64 p3.off], box b2 24 [.int .i64 p2.pfs, .int .i64 p2.obj, .int .i64 p2.off], box b1 24 [.int .i64 p1.pfs, .int .i64 p1.obj, .int .i64 p1.off]] [(0, .slice A1 p0.length c1), (4, .int .i64 p4), (6, .pointer (some ⟨b1, 0, none⟩)), (7, .pointer (some ⟨b2, 0, none⟩)), (8, .pointer (some ⟨b3, 0, none⟩)), (13, .slice A3 r5.1.length c3), (54, .slice A3 r5.1.length c3), (55, .int .i64 (r5.1.length : Int)), (56, .int .i64 x1), (91, .bool z1)] _) a w' hf hh
                clear hf hh
                refine T.cond z1 (by kernel_rfl) (by kernel_rfl) (fun hc4 => ?_) (fun hc4 => ?_)
                ·
                  rw [hc4, cond_true] at hY1
                  refine T.seq ?_
                  refine T.region ?_
                  refine T.pure (.bool false) (by kernel_rfl) (fun _ => by kernel_rfl) ?_
                  refine T.nil ?_
                  cases hY1
                  cases (hr1 _ rfl)
                  try dsimp only at hF
                  cases hF
                  refine T.ret rfl ?_
                  exact T.ret1 rfl (ResIs.tmp rfl) fun w' hh => ⟨_, rfl, hh.below, (show _ from rfl)⟩
                ·
                  rw [hc4, cond_false] at hY1
                  refine T.skip_code ?_
                  refine T.region ?_
                  refine T.pure (.int .i64 (IntKind.i64.wrap (x1 + 1))) (by kernel_rfl) (fun _ => by kernel_rfl) ?_
                  refine T.pure (.int .i64 (IntKind.i64.wrap (x1 + 1))) (by kernel_rfl) (fun _ => by kernel_rfl) ?_
                  refine T.nil ?_
                  cases hY1
                  exact fun a w' hf hh => Exists.intro (IntKind.i64.wrap (x1 + 1)) (And.intro rfl (Exists.intro V8 (And.intro (View.le_trans hV6 hV8) (And.intro ((((((((((Fr.nil hf).pick hf 56 rfl).pick hf 55 rfl).pick hf 54 rfl).pick hf 13 rfl).pick hf 8 rfl).pick hf 7 rfl).pick hf 6 rfl).pick hf 4 rfl).pick hf 0 rfl) (hh.sub (.cons _ (.cons_cons _ (.cons_cons _ (.cons_cons _ List.Sublist.slnil)))))))))
            ·
              rw [hc3, cond_false] at hY1
              refine T.exit ?_
              cases hY1
              cases (hr1 _ rfl)
              exact fun a w' hf hh => And.intro rfl (Exists.intro V6 (And.intro hV6 (And.intro (((((((Fr.nil hf).pick hf 13 rfl).pick hf 8 rfl).pick hf 7 rfl).pick hf 6 rfl).pick hf 4 rfl).pick hf 0 rfl) (hh.sub (.cons_cons _ (.cons_cons _ (.cons_cons _ List.Sublist.slnil)))))))
        ·
          rintro a w' ⟨rfl, V7, hV7, hf, hh⟩
          try dsimp only at hF
          refine (?_ : T 156 w V7 [box b3 24 [.int .i64 p3.pfs, .int .i64 p3.obj, .int .i64 p3.off], box b2 24 [.int .i64 p2.pfs, .int .i64 p2.obj, .int .i64 p2.off], box b1 24 [.int .i64 p1.pfs, .int .i64 p1.obj, .int .i64 p1.off]] [(0, .slice A1 p0.length c1), (4, .int .i64 p4), (6, .pointer (some ⟨b1, 0, none⟩)), (7, .pointer (some ⟨b2, 0, none⟩)), (8, .pointer (some ⟨b3, 0, none⟩)), (13, .slice A3 r5.1.length c3)] _) a w' hf hh
          clear hf hh
          refine T.seq ?_
          obtain ⟨z2, hX2, hF⟩ := Option.bind_eq_some_iff.1 hF
          refine T.cut (fun a w' => ∃ (V9 : View), View.le V7 V9 ∧ Fr 156 [(0, .slice A1 p0.length c1), (4, .int .i64 p4), (6, .pointer (some ⟨b1, 0, none⟩)), (7, .pointer (some ⟨b2, 0, none⟩)), (8, .pointer (some ⟨b3, 0, none⟩)), (13, .slice A3 r5.1.length c3), (107, .bool z2)] a ∧ Hp w V9 [box b3 24 [.int .i64 p3.pfs, .int .i64 p3.obj, .int .i64 p3.off], box b2 24 [.int .i64 p2.pfs, .int .i64 p2.obj, .int .i64 p2.off], box b1 24 [.int .i64 p1.pfs, .int .i64 p1.obj, .int .i64 p1.off]] w') ?_ ?_
          ·
            refine T.region ?_
            refine T.look (.agg #[.int .i64 p2.pfs, .int .i64 p2.obj, .int .i64 p2.off]) (by kernel_rfl) (fun w' hh => exec_loadN (cs := [.int .i64 p2.pfs, .int .i64 p2.obj, .int .i64 p2.off]) rfl rfl (by kernel_rfl) (by kernel_rfl) (fun j u hj => (hh.box_at (i := 1) (cs := [.int .i64 p2.pfs, .int .i64 p2.obj, .int .i64 p2.off]) (by rfl) 0 j).trans (seg_at (n := 3) rfl hj))) ?_
            obtain ⟨r8, hb10, hX2⟩ := Option.bind_eq_some_iff.1 hX2
            refine T.step (W1.call (vSc eInt) r8 46 #[.agg #[.int .i64 p2.pfs, .int .i64 p2.obj, .int .i64 p2.off]] (by kernel_rfl) (fun _ => by kernel_rfl) (fun w' hh => key_Check_l p2 r8 hb10 w' ) ?_)
            intro u V10 hV10 hu
            obtain rfl := sureInt _ _ _ hu
            refine T.pure (.bool (r8 != 0)) (by kernel_rfl) (fun _ => by kernel_rfl) ?_
            refine T.pure (.bool (r8 != 0)) (by kernel_rfl) (fun _ => by kernel_rfl) ?_
            cases hg5 : (r8 != 0)
            ·
              skip
              rw [hg5, cond_false] at hX2
              refine T.look (.agg #[.int .i64 p1.pfs, .int .i64 p1.obj, .int .i64 p1.off]) (by kernel_rfl) (fun w' hh => exec_loadN (cs := [.int .i64 p1.pfs, .int .i64 p1.obj, .int .i64 p1.off]) rfl rfl (by kernel_rfl) (by kernel_rfl) (fun j u hj => (hh.box_at (i := 2) (cs := [.int .i64 p1.pfs, .int .i64 p1.obj, .int .i64 p1.off]) (by rfl) 0 j).trans (seg_at (n := 3) rfl hj))) ?_
              refine T.look (.agg #[.int .i64 p2.pfs, .int .i64 p2.obj, .int .i64 p2.off]) (by kernel_rfl) (fun w' hh => exec_loadN (cs := [.int .i64 p2.pfs, .int .i64 p2.obj, .int .i64 p2.off]) rfl rfl (by kernel_rfl) (by kernel_rfl) (fun j u hj => (hh.box_at (i := 1) (cs := [.int .i64 p2.pfs, .int .i64 p2.obj, .int .i64 p2.off]) (by rfl) 0 j).trans (seg_at (n := 3) rfl hj))) ?_
              obtain ⟨r9, hb11, hX2⟩ := Option.bind_eq_some_iff.1 hX2
              refine T.step (W1.call (vSc eInt) r9 45 #[.agg #[.int .i64 p1.pfs, .int .i64 p1.obj, .int .i64 p1.off], .agg #[.int .i64 p2.pfs, .int .i64 p2.obj, .int .i64 p2.off]] (by kernel_rfl) (fun _ => by kernel_rfl) (fun w' hh => key_Cmp_l p1 p2 r9 hb11 w' ) ?_)
              intro u V11 hV11 hu
              obtain rfl := sureInt _ _ _ hu
              refine T.pure (.bool (decide ((0 : Int) < r9))) (by kernel_rfl) (fun _ => by kernel_rfl) ?_
              refine T.pure (.bool (decide ((0 : Int) < r9))) (by kernel_rfl) (fun _ => by kernel_rfl) ?_
              refine T.pure (.bool (decide ((0 : Int) < r9))) (by kernel_rfl) (fun _ => by kernel_rfl) ?_
              cases hg6 : decide ((0 : Int) < r9)
              ·
                skip
                rw [hg6, cond_false] at hX2
                refine T.look (.agg #[.int .i64 p2.pfs, .int .i64 p2.obj, .int .i64 p2.off]) (by kernel_rfl) (fun w' hh => exec_loadN (cs := [.int .i64 p2.pfs, .int .i64 p2.obj, .int .i64 p2.off]) rfl rfl (by kernel_rfl) (by kernel_rfl) (fun j u hj => (hh.box_at (i := 1) (cs := [.int .i64 p2.pfs, .int .i64 p2.obj, .int .i64 p2.off]) (by rfl) 0 j).trans (seg_at (n := 3) rfl hj))) ?_
                refine T.look (.agg #[.int .i64 p3.pfs, .int .i64 p3.obj, .int .i64 p3.off]) (by kernel_rfl) (fun w' hh => exec_loadN (cs := [.int .i64 p3.pfs, .int .i64 p3.obj, .int .i64 p3.off]) rfl rfl (by kernel_rfl) (by kernel_rfl) (fun j u hj => (hh.box_at (i := 0) (cs := [.int .i64 p3.pfs, .int .i64 p3.obj, .int .i64 p3.off]) (by rfl) 0 j).trans (seg_at (n := 3) rfl hj))) ?_
                obtain ⟨r10, hb12, hX2⟩ := Option.bind_eq_some_iff.1 hX2
                refine T.step (W1.call (vSc eInt) r10 45 #[.agg #[.int .i64 p2.pfs, .int .i64 p2.obj, .int .i64 p2.off], .agg #[.int .i64 p3.pfs, .int .i64 p3.obj, .int .i64 p3.off]] (by kernel_rfl) (fun _ => by kernel_rfl) (fun w' hh => key_Cmp_l p2 p3 r10 hb12 w' ) ?_)
                intro u V12 hV12 hu
                obtain rfl := sureInt _ _ _ hu
                refine T.pure (.bool (decide ((0 : Int) < r10))) (by kernel_rfl) (fun _ => by kernel_rfl) ?_
                refine T.pure (.bool (decide ((0 : Int) < r10))) (by kernel_rfl) (fun _ => by kernel_rfl) ?_
                refine T.nil ?_
                cases hX2
                exact fun a w' hf hh => Exists.intro V12 (And.intro (View.le_trans (View.le_trans hV10 hV11) hV12) (And.intro ((((((((Fr.nil hf).pick hf 107 rfl).pick hf 13 rfl).pick hf 8 rfl).pick hf 7 rfl).pick hf 6 rfl).pick hf 4 rfl).pick hf 0 rfl) (hh.sub (.cons_cons _ (.cons_cons _ (.cons_cons _ List.Sublist.slnil))))))
              ·
                skip
                rw [hg6, cond_true] at hX2
                refine T.pass (by kernel_rfl) (by kernel_rfl) ?_
                refine T.pass (by kernel_rfl) (by kernel_rfl) ?_
                refine T.pass (by kernel_rfl) (by kernel_rfl) ?_
                refine T.pass (by kernel_rfl) (by kernel_rfl) ?_
                refine T.pure (.bool true) (by kernel_rfl) (fun _ => by kernel_rfl) ?_
                refine T.nil ?_
                cases hX2
                exact fun a w' hf hh => Exists.intro V11 (And.intro (View.le_trans hV10 hV11) (And.intro ((((((((Fr.nil hf).pick hf 107 rfl).pick hf 13 rfl).pick hf 8 rfl).pick hf 7 rfl).pick hf 6 rfl).pick hf 4 rfl).pick hf 0 rfl) (hh.sub (.cons_cons _ (.cons_cons _ (.cons_cons _ List.Sublist.slnil))))))
            ·
              skip
              rw [hg5, cond_true] at hX2
              refine T.pass (by kernel_rfl) (by kernel_rfl) ?_
              refine T.pass (by kernel_rfl) (by kernel_rfl) ?_
              refine T.pass (by kernel_rfl) (by kernel_rfl) ?_
              refine T.pass (by kernel_rfl) (by kernel_rfl) ?_
              refine T.pure (.bool true) (by kernel_rfl) (fun _ => by kernel_rfl) ?_
              refine T.pure (.bool true) (by kernel_rfl) (fun _ => by kernel_rfl) ?_
              refine T.pass (by kernel_rfl) (by kernel_rfl) ?_
              refine T.pass (by kernel_rfl) (by kernel_rfl) ?_
              refine T.pass (by kernel_rfl) (by kernel_rfl) ?_
              refine T.pass (by kernel_rfl) (by kernel_rfl) ?_
              refine T.pure (.bool true) (by kernel_rfl) (fun _ => by kernel_rfl) ?_
              refine T.nil ?_
              cases hX2
              exact fun a w' hf hh => Exists.intro V10 (And.intro hV10 (And.intro ((((((((Fr.nil hf).pick hf 107 rfl).pick hf 13 rfl).pick hf 8 rfl).pick hf 7 rfl).pick hf 6 rfl).pick hf 4 rfl).pick hf 0 rfl) (hh.sub (.cons_cons _ (.cons_cons _ (.cons_cons _ List.Sublist.slnil))))))
          ·
            rintro a w' ⟨V9, hV9, hf, hh⟩
            refine (?_ : T 156 w V9 [box b3 24 [.int .i64 p3.pfs, .int .i64 p3.obj, .int .i64 p3.off], box b2 24 [.int .i64 p2.pfs, .int .i64 p2.obj, .int .i64 p2.off], box b1 24 [.int .i64 p1.pfs, .int .i64 p1.obj, .int .i64 p1.off]] [(0, .slice A1 p0.length c1), (4, .int .i64 p4), (6, .pointer (some ⟨b1, 0, none⟩)), (7, .pointer (some ⟨b2, 0, none⟩)), (8, .pointer (some ⟨b3, 0, none⟩)), (13, .slice A3 r5.1.length c3), (107, .bool z2)] _) a w' hf hh
            clear hf hh
            refine T.cond z2 (by kernel_rfl) (by kernel_rfl) (fun hc5 => ?_) (fun hc5 => ?_)
            ·
              rw [hc5, cond_true] at hF
              refine T.seq ?_
              refine T.region ?_
              refine T.pure (.bool true) (by kernel_rfl) (fun _ => by kernel_rfl) ?_
              refine T.nil ?_
              cases hF
              refine T.ret rfl ?_
              exact T.ret1 rfl (ResIs.tmp rfl) fun w' hh => ⟨_, rfl, hh.below, (show _ from rfl)⟩
            ·
              rw [hc5, cond_false] at hF
              refine T.skip_code ?_
              refine T.seq ?_
              refine T.region ?_
              refine T.pure (.slice A1 p0.length c1) (by kernel_rfl) (fun _ => by kernel_rfl) ?_
              refine T.look (.agg #[.int .i64 p1.pfs, .int .i64 p1.obj, .int .i64 p1.off]) (by kernel_rfl) (fun w' hh => exec_loadN (cs := [.int .i64 p1.pfs, .int .i64 p1.obj, .int .i64 p1.off]) rfl rfl (by kernel_rfl) (by kernel_rfl) (fun j u hj => (hh.box_at (i := 2) (cs := [.int .i64 p1.pfs, .int .i64 p1.obj, .int .i64 p1.off]) (by rfl) 0 j).trans (seg_at (n := 3) rfl hj))) ?_
              refine T.look (.agg #[.int .i64 p2.pfs, .int .i64 p2.obj, .int .i64 p2.off]) (by kernel_rfl) (fun w' hh => exec_loadN (cs := [.int .i64 p2.pfs, .int .i64 p2.obj, .int .i64 p2.off]) rfl rfl (by kernel_rfl) (by kernel_rfl) (fun j u hj => (hh.box_at (i := 1) (cs := [.int .i64 p2.pfs, .int .i64 p2.obj, .int .i64 p2.off]) (by rfl) 0 j).trans (seg_at (n := 3) rfl hj))) ?_
              refine T.pure (.int .i64 p4) (by kernel_rfl) (fun _ => by kernel_rfl) ?_
              obtain ⟨r11, hb13, hF⟩ := Option.bind_eq_some_iff.1 hF
              refine T.step (W1.call (vT2 (vSc (eList eElem)) (vSc eInt)) r11 28 #[.slice A1 p0.length c1, .agg #[.int .i64 p1.pfs, .int .i64 p1.obj, .int .i64 p1.off], .agg #[.int .i64 p2.pfs, .int .i64 p2.obj, .int .i64 p2.off], .int .i64 p4] (by kernel_rfl) (fun _ => by kernel_rfl) (fun w' hh => run_Range_l F p0 p1 p2 p4 r11 hb13 w' A1 c1 (SlOk.mono (SlOk.mono hs1 (View.le_trans (View.le_trans (View.le_trans (View.le_trans (View.le_trans (View.le_trans hV1 hV2) hV3) hV4) hV5) hV7) hV9)) hh.view)) ?_)
              intro u V13 hV13 hu
              obtain ⟨u5, u6, rfl, hu5, hu6⟩ := vT2_elim hu
              obtain ⟨A4, c4, rfl, hs4⟩ := vlist_elim hu5
              obtain rfl := sureInt _ _ _ hu6
              refine T.pure (.tuple #[.slice A4 r11.1.length c4, .int .i64 r11.2]) (by kernel_rfl) (fun _ => by kernel_rfl) ?_
              refine T.pure (.slice A4 r11.1.length c4) (by kernel_rfl) (fun _ => by kernel_rfl) ?_
              refine T.pure (.int .i64 r11.2) (by kernel_rfl) (fun _ => by kernel_rfl) ?_
              refine T.pure (.slice A4 r11.1.length c4) (by kernel_rfl) (fun _ => by kernel_rfl) ?_
              refine T.pure (.int .i64 r11.2) (by kernel_rfl) (fun _ => by kernel_rfl) ?_
              refine T.nil ?_
              refine T.seq ?_
              refine T.region ?_
              refine T.pure (.slice A1 p0.length c1) (by kernel_rfl) (fun _ => by kernel_rfl) ?_
              refine T.look (.agg #[.int .i64 p2.pfs, .int .i64 p2.obj, .int .i64 p2.off]) (by kernel_rfl) (fun w' hh => exec_loadN (cs := [.int .i64 p2.pfs, .int .i64 p2.obj, .int .i64 p2.off]) rfl rfl (by kernel_rfl) (by kernel_rfl) (fun j u hj => (hh.box_at (i := 1) (cs := [.int .i64 p2.pfs, .int .i64 p2.obj, .int .i64 p2.off]) (by rfl) 0 j).trans (seg_at (n := 3) rfl hj))) ?_
              refine T.look (.agg #[.int .i64 p3.pfs, .int .i64 p3.obj, .int .i64 p3.off]) (by kernel_rfl) (fun w' hh => exec_loadN (cs := [.int .i64 p3.pfs, .int .i64 p3.obj, .int .i64 p3.off]) rfl rfl (by kernel_rfl) (by kernel_rfl) (fun j u hj => (hh.box_at (i := 0) (cs := [.int .i64 p3.pfs, .int .i64 p3.obj, .int .i64 p3.off]) (by rfl) 0 j).trans (seg_at (n := 3) rfl hj))) ?_
              refine T.pure (.int .i64 p4) (by kernel_rfl) (fun _ => by kernel_rfl) ?_
              obtain ⟨r12, hb14, hF⟩ := Option.bind_eq_some_iff.1 hF
              refine T.step (W1.call (vT2 (vSc (eList eElem)) (vSc eInt)) r12 28 #[.slice A1 p0.length c1, .agg #[.int .i64 p2.pfs, .int .i64 p2.obj, .int .i64 p2.off], .agg #[.int .i64 p3.pfs, .int .i64 p3.obj, .int .i64 p3.off], .int .i64 p4] (by kernel_rfl) (fun _ => by kernel_rfl) (fun w' hh => run_Range_l F p0 p2 p3 p4 r12 hb14 w' A1 c1 (SlOk.mono (SlOk.mono hs1 (View.le_trans (View.le_trans (View.le_trans (View.le_trans (View.le_trans (View.le_trans (View.le_trans hV1 hV2) hV3) hV4) hV5) hV7) hV9) hV13)) hh.view)) ?_)
              intro u V14 hV14 hu
              obtain ⟨u7, u8, rfl, hu7, hu8⟩ := vT2_elim hu
              obtain ⟨A5, c5, rfl, hs5⟩ := vlist_elim hu7
              obtain rfl := sureInt _ _ _ hu8
              refine T.pure (.tuple #[.slice A5 r12.1.length c5, .int .i64 r12.2]) (by kernel_rfl) (fun _ => by kernel_rfl) ?_
              refine T.pure (.slice A5 r12.1.length c5) (by kernel_rfl) (fun _ => by kernel_rfl) ?_
              refine T.pure (.int .i64 r12.2) (by kernel_rfl) (fun _ => by kernel_rfl) ?_
              refine T.pure (.slice A5 r12.1.length c5) (by kernel_rfl) (fun _ => by kernel_rfl) ?_
              refine T.pure (.int .i64 r12.2) (by kernel_rfl) (fun _ => by kernel_rfl) ?_
              refine T.nil ?_
              refine T.seq ?_
              refine T.region ?_
              refine T.pure (.slice A1 p0.length c1) (by kernel_rfl) (fun _ => by kernel_rfl) ?_
              refine T.look (.agg #[.int .i64 p2.pfs, .int .i64 p2.obj, .int .i64 p2.off]) (by kernel_rfl) (fun w' hh => exec_loadN (cs := [.int .i64 p2.pfs, .int .i64 p2.obj, .int .i64 p2.off]) rfl rfl (by kernel_rfl) (by kernel_rfl) (fun j u hj => (hh.box_at (i := 1) (cs := [.int .i64 p2.pfs, .int .i64 p2.obj, .int .i64 p2.off]) (by rfl) 0 j).trans (seg_at (n := 3) rfl hj))) ?_
              refine T.look (.agg #[.int .i64 p2.pfs, .int .i64 p2.obj, .int .i64 p2.off]) (by kernel_rfl) (fun w' hh => exec_loadN (cs := [.int .i64 p2.pfs, .int .i64 p2.obj, .int .i64 p2.off]) rfl rfl (by kernel_rfl) (by kernel_rfl) (fun j u hj => (hh.box_at (i := 1) (cs := [.int .i64 p2.pfs, .int .i64 p2.obj, .int .i64 p2.off]) (by rfl) 0 j).trans (seg_at (n := 3) rfl hj))) ?_
              refine T.pure (.int .i64 p4) (by kernel_rfl) (fun _ => by kernel_rfl) ?_
              obtain ⟨r13, hb15, hF⟩ := Option.bind_eq_some_iff.1 hF
              refine T.step (W1.call (vT2 (vSc (eList eElem)) (vSc eInt)) r13 28 #[.slice A1 p0.length c1, .agg #[.int .i64 p2.pfs, .int .i64 p2.obj, .int .i64 p2.off], .agg #[.int .i64 p2.pfs, .int .i64 p2.obj, .int .i64 p2.off], .int .i64 p4] (by kernel_rfl) (fun _ => by kernel_rfl) (fun w' hh => run_Range_l F p0 p2 p2 p4 r13 hb15 w' A1 c1 (SlOk.mono (SlOk.mono hs1 (View.le_trans (View.le_trans (View.le_trans (View.le_trans (View.le_trans (View.le_trans (View.le_trans (View.le_trans hV1 hV2) hV3) hV4) hV5) hV7) hV9) hV13) hV14)) hh.view)) ?_)
              intro u V15 hV15 hu
              obtain ⟨u9, u10, rfl, hu9, hu10⟩ := vT2_elim hu
              obtain ⟨A6, c6, rfl, hs6⟩ := vlist_elim hu9
              obtain rfl := sureInt _ _ _ hu10
              refine T.pure (.tuple #[.slice A6 r13.1.length c6, .int .i64 r13.2]) (by kernel_rfl) (fun _ => by kernel_rfl) ?_
              refine T.pure (.slice A6 r13.1.length c6) (by kernel_rfl) (fun _ => by kernel_rfl) ?_
              refine T.pure (.int .i64 r13.2) (by kernel_rfl) (fun _ => by kernel_rfl) ?_
              refine T.pure (.slice A6 r13.1.length c6) (by kernel_rfl) (fun _ => by kernel_rfl) ?_
              refine T.pure (.int .i64 r13.2) (by kernel_rfl) (fun _ => by kernel_rfl) ?_
              refine T.nil ?_
              obtain ⟨z3, hX3, hF⟩ := Option.bind_eq_some_iff.1 hF
              refine T.cut (fun a w' => ∃ (V16 : View), View.le V15 V16 ∧ Fr 156 [(10, .bool z3)] a ∧ Hp w V16 [] w') ?_ ?_
              ·
                refine T.region ?_
                refine T.pure (.int .i64 r11.2) (by kernel_rfl) (fun _ => by kernel_rfl) ?_
                refine T.pure (.bool (r11.2 == 0)) (by kernel_rfl) (fun _ => by kernel_rfl) ?_
                refine T.pure (.bool (r11.2 == 0)) (by kernel_rfl) (fun _ => by kernel_rfl) ?_
                cases hg7 : (r11.2 == 0)
                ·
                  skip
                  rw [hg7, cond_false] at hX3
                  refine T.pass (by kernel_rfl) (by kernel_rfl) ?_
                  refine T.pass (by kernel_rfl) (by kernel_rfl) ?_
                  refine T.pure (.bool false) (by kernel_rfl) (fun _ => by kernel_rfl) ?_
                  refine T.pure (.bool false) (by kernel_rfl) (fun _ => by kernel_rfl) ?_
                  refine T.pass (by kernel_rfl) (by kernel_rfl) ?_
                  refine T.pass (by kernel_rfl) (by kernel_rfl) ?_
                  refine T.pure (.bool false) (by kernel_rfl) (fun _ => by kernel_rfl) ?_
                  refine T.pure (.bool false) (by kernel_rfl) (fun _ => by kernel_rfl) ?_
                  refine T.pass (by kernel_rfl) (by kernel_rfl) ?_
                  refine T.pass (by kernel_rfl) (by kernel_rfl) ?_
                  refine T.pass (by kernel_rfl) (by kernel_rfl) ?_
                  refine T.pass (by kernel_rfl) (by kernel_rfl) ?_
                  refine T.pass (by kernel_rfl) (by kernel_rfl) ?_
                  refine T.pass (by kernel_rfl) (by kernel_rfl) ?_
                  refine T.pass (by kernel_rfl) (by kernel_rfl) ?_
                  refine T.pass (by kernel_rfl) (by kernel_rfl) ?_
                  refine T.pass (by kernel_rfl) (by kernel_rfl) ?_
                  refine T.pass (by kernel_rfl) (by kernel_rfl) ?_
                  refine T.pass (by kernel_rfl) (by kernel_rfl) ?_
                  refine T.pass (by kernel_rfl) (by kernel_rfl) ?_
                  refine T.pure (.bool false) (by kernel_rfl) (fun _ => by kernel_rfl) ?_
                  refine T.pure (.bool false) (by kernel_rfl) (fun _ => by kernel_rfl) ?_
                  refine T.nil ?_
                  cases hX3
                  exact fun a w' hf hh => Exists.intro V15 (And.intro (View.le_refl _) (And.intro ((Fr.nil hf).pick hf 10 rfl) (hh.sub (.cons _ (.cons _ (.cons _ List.Sublist.slnil))))))
                ·
                  skip
                  rw [hg7, cond_true] at hX3
                  refine T.pure (.int .i64 r12.2) (by kernel_rfl) (fun _ => by kernel_rfl) ?_
                  refine T.pure (.bool (r12.2 == 0)) (by kernel_rfl) (fun _ => by kernel_rfl) ?_
                  refine T.pure (.bool (r12.2 == 0)) (by kernel_rfl) (fun _ => by kernel_rfl) ?_
                  refine T.pure (.bool (r12.2 == 0)) (by kernel_rfl) (fun _ => by kernel_rfl) ?_
                  cases hg8 : (r12.2 == 0)
                  ·
                    skip
                    rw [hg8, cond_false] at hX3
                    refine T.pass (by kernel_rfl) (by kernel_rfl) ?_
                    refine T.pass (by kernel_rfl) (by kernel_rfl) ?_
                    refine T.pure (.bool false) (by kernel_rfl) (fun _ => by kernel_rfl) ?_
                    refine T.pure (.bool false) (by kernel_rfl) (fun _ => by kernel_rfl) ?_
                    refine T.pass (by kernel_rfl) (by kernel_rfl) ?_
                    refine T.pass (by kernel_rfl) (by kernel_rfl) ?_
                    refine T.pass (by kernel_rfl) (by kernel_rfl) ?_
                    refine T.pass (by kernel_rfl) (by kernel_rfl) ?_
                    refine T.pass (by kernel_rfl) (by kernel_rfl) ?_
                    refine T.pass (by kernel_rfl) (by kernel_rfl) ?_
                    refine T.pass (by kernel_rfl) (by kernel_rfl) ?_
                    refine T.pass (by kernel_rfl) (by kernel_rfl) ?_
                    refine T.pass (by kernel_rfl) (by kernel_rfl) ?_
                    refine T.pass (by kernel_rfl) (by kernel_rfl) ?_
                    refine T.pass (by kernel_rfl) (by kernel_rfl) ?_
                    refine T.pass (by kernel_rfl) (by kernel_rfl) ?_
                    refine T.pure (.bool false) (by kernel_rfl) (fun _ => by kernel_rfl) ?_
                    refine T.pure (.bool false) (by kernel_rfl) (fun _ => by kernel_rfl) ?_
                    refine T.nil ?_
                    cases hX3
                    exact fun a w' hf hh => Exists.intro V15 (And.intro (View.le_refl _) (And.intro ((Fr.nil hf).pick hf 10 rfl) (hh.sub (.cons _ (.cons _ (.cons _ List.Sublist.slnil))))))
                  ·
                    skip
                    rw [hg8, cond_true] at hX3
                    refine T.pure (.int .i64 r13.2) (by kernel_rfl) (fun _ => by kernel_rfl) ?_
                    refine T.pure (.bool (r13.2 == 0)) (by kernel_rfl) (fun _ => by kernel_rfl) ?_
                    refine T.pure (.bool (r13.2 == 0)) (by kernel_rfl) (fun _ => by kernel_rfl) ?_
                    refine T.pure (.bool (r13.2 == 0)) (by kernel_rfl) (fun _ => by kernel_rfl) ?_
                    cases hg9 : (r13.2 == 0)
                    ·
                      skip
                      rw [hg9, cond_false] at hX3
                      refine T.pass (by kernel_rfl) (by kernel_rfl) ?_
                      refine T.pass (by kernel_rfl) (by kernel_rfl) ?_
                      refine T.pass (by kernel_rfl) (by kernel_rfl) ?_
                      refine T.pass (by kernel_rfl) (by kernel_rfl) ?_
                      refine T.pass (by kernel_rfl) (by kernel_rfl) ?_
                      refine T.pass (by kernel_rfl) (by kernel_rfl) ?_
                      refine T.pass (by kernel_rfl) (by kernel_rfl) ?_
                      refine T.pass (by kernel_rfl) (by kernel_rfl) ?_
                      refine T.pass (by kernel_rfl) (by kernel_rfl) ?_
                      refine T.pass (by kernel_rfl) (by kernel_rfl) ?_
                      refine T.pass (by kernel_rfl) (by kernel_rfl) ?_
                      refine T.pass (by kernel_rfl) (by kernel_rfl) ?_
                      refine T.pure (.bool false) (by kernel_rfl) (fun _ => by kernel_rfl) ?_
                      refine T.pure (.bool false) (by kernel_rfl) (fun _ => by kernel_rfl) ?_
                      refine T.nil ?_
                      cases hX3
                      exact fun a w' hf hh => Exists.intro V15 (And.intro (View.le_refl _) (And.intro ((Fr.nil hf).pick hf 10 rfl) (hh.sub (.cons _ (.cons _ (.cons _ List.Sublist.slnil))))))
                    ·
                      skip
                      rw [hg9, cond_true] at hX3
                      refine T.pure (.slice A3 r5.1.length c3) (by kernel_rfl) (fun _ => by kernel_rfl) ?_
                      refine T.pure (.slice A4 r11.1.length c4) (by kernel_rfl) (fun _ => by kernel_rfl) ?_
                      refine T.pure (.slice A5 r12.1.length c5) (by kernel_rfl) (fun _ => by kernel_rfl) ?_
                      refine T.pure (.slice A6 r13.1.length c6) (by kernel_rfl) (fun _ => by kernel_rfl) ?_
                      refine T.pure (.int .i64 (r13.1.length : Int)) (by kernel_rfl) (fun _ => by kernel_rfl) ?_
                      refine T.pure (.slice A5 r12.1.length c5) (by kernel_rfl) (fun _ => by kernel_rfl) ?_
                      refine T.pure (.int .i64 (r12.1.length : Int)) (by kernel_rfl) (fun _ => by kernel_rfl) ?_
                      refine T.pure (.int .i64 (if (r12.1.length : Int) < (r13.1.length : Int) then (r12.1.length : Int) else (r13.1.length : Int))) (by kernel_rfl) (fun _ => by kernel_rfl) ?_
                      obtain ⟨s1, hb16, hX3⟩ := Option.bind_eq_some_iff.1 hX3
                      refine T.look (.slice (cutA A5 c5 (if (r12.1.length : Int) < (r13.1.length : Int) then (r12.1.length : Int) else (r13.1.length : Int)).toNat 6) s1.length (c5 - (if (r12.1.length : Int) < (r13.1.length : Int) then (r12.1.length : Int) else (r13.1.length : Int)).toNat)) (by kernel_rfl) (fun w' hh => exec_slice_list (e := 26) (s := 6) (lx := (some _)) (hx := none) (k := .i64) (k' := .i64) rfl rfl (by kernel_rfl) (by kernel_rfl) ((SlOk.mono hs5 (View.le_trans (made_le _ _) hV15))).1 rfl rfl hb16) ?_
                      refine T.step (W1.new 22 [.slice A4 r11.1.length c4, .slice (cutA A5 c5 (if (r12.1.length : Int) < (r13.1.length : Int) then (r12.1.length : Int) else (r13.1.length : Int)).toNat 6) s1.length (c5 - (if (r12.1.length : Int) < (r13.1.length : Int) then (r12.1.length : Int) else (r13.1.length : Int)).toNat)] (fun b => .slice (some ⟨b, 0, none⟩) 2 2) (by kernel_rfl) (fun _ => by kernel_rfl) (fun b7 => ?_))
                      obtain ⟨z4, hX4, hX3⟩ := Option.bind_eq_some_iff.1 hX3
                      refine T.step (W1.within 47 [.slice (some ⟨b7, 0, none⟩) 2 2] (fun v w' => ∃ (A7 : Option Addr) (c7 : Nat) (A8 : Option Addr) (c8 : Nat) (A9 : Option Addr) (c9 : Nat) (V17 : View), View.le V15 V17 ∧ SlOk (made w V17) eElem A8 c8 s1 ∧ SlOk (made w V17) eElem A9 c9 s1 ∧ v = .slice A7 z4.length c7 ∧ Hp w V17 [row 26 eElem A7 c7 z4, box b7 22 [.slice A4 r11.1.length c4, .slice A8 s1.length c8]] w') Try.func47 rfl rfl (by kernel_rfl) (fun _ => by kernel_rfl) rfl ?_ ?_)
                      ·
                        refine T.seq ?_
                        refine T.region ?_
                        refine T.pure (.slice none 0 0) (by kernel_rfl) (fun _ => by kernel_rfl) ?_
                        refine T.nil ?_
                        refine T.seq ?_
                        refine T.region ?_
                        refine T.pure (.int .i64 0) (by kernel_rfl) (fun _ => by kernel_rfl) ?_
                        refine T.nil ?_
                        refine T.seq ?_
                        refine T.seq ?_
                        refine T.region ?_
                        refine T.pure (.slice (some ⟨b7, 0, none⟩) 2 2) (by kernel_rfl) (fun _ => by kernel_rfl) ?_
                        refine T.pure (.int .i64 2) (by kernel_rfl) (fun _ => by kernel_rfl) ?_
                        refine T.pure (.int .i64 0) (by kernel_rfl) (fun _ => by kernel_rfl) ?_
                        refine T.nil ?_
                        refine T.block ?_
                        refine T.rounds 3 ?_
                        refine T.round ?_
                        refine T.seq ?_
                        refine T.region ?_
                        refine T.pure (.bool true) (by kernel_rfl) (fun _ => by kernel_rfl) ?_
                        refine T.nil ?_
                        refine T.seq ?_
                        refine T.cond true (by kernel_rfl) (by kernel_rfl) (fun _ => ?_) (fun h => Bool.noConfusion h)
                        refine T.skip_code ?_
                        refine T.seq ?_
                        refine T.block ?_
                        refine T.seq ?_
                        refine T.region ?_
                        refine T.pure (.pointer (some ⟨b7, 0, none⟩)) (by kernel_rfl) (fun _ => by kernel_rfl) ?_
                        refine T.look (.slice A4 r11.1.length c4) (by kernel_rfl) (fun w' hh => exec_load1 rfl rfl (by kernel_rfl) (hh.cellBox (i := 0) (by rfl) 0)) ?_
                        refine T.pure (.slice A4 r11.1.length c4) (by kernel_rfl) (fun _ => by kernel_rfl) ?_
                        refine T.nil ?_
                        refine T.seq ?_
                        refine T.region ?_
                        refine T.pure (.int .i64 0) (by kernel_rfl) (fun _ => by kernel_rfl) ?_
                        refine T.pure (.slice A4 r11.1.length c4) (by kernel_rfl) (fun _ => by kernel_rfl) ?_
                        refine T.pure (.int .i64 (r11.1.length : Int)) (by kernel_rfl) (fun _ => by kernel_rfl) ?_
                        refine T.pure (.int .i64 (IntKind.i64.wrap (0 + (r11.1.length : Int)))) (by kernel_rfl) (fun _ => by kernel_rfl) ?_
                        refine T.pure (.int .i64 (IntKind.i64.wrap (0 + (r11.1.length : Int)))) (by kernel_rfl) (fun _ => by kernel_rfl) ?_
                        refine T.nil ?_
                        refine T.seq ?_
                        refine T.region ?_
                        refine T.pure (.int .i64 (IntKind.i64.wrap (0 + (r11.1.length : Int)))) (by kernel_rfl) (fun _ => by kernel_rfl) ?_
                        refine T.pure (.bool (decide ((IntKind.i64.wrap (0 + (r11.1.length : Int))) < 0))) (by kernel_rfl) (fun _ => by kernel_rfl) ?_
                        refine T.nil ?_
                        refine T.cond (decide ((IntKind.i64.wrap (0 + (r11.1.length : Int))) < 0)) (by kernel_rfl) (by kernel_rfl) (fun hc6 => ?_) (fun hc6 => ?_)
                        ·
                          rw [hc6, cond_true] at hX4
                          cases hX4
                        ·
                          rw [hc6, cond_false] at hX4
                          refine T.skip_code ?_
                          refine T.region ?_
                          refine T.pure (.int .i64 1) (by kernel_rfl) (fun _ => by kernel_rfl) ?_
                          refine T.pure (.int .i64 1) (by kernel_rfl) (fun _ => by kernel_rfl) ?_
                          refine T.nil ?_
                          refine T.round ?_
                          refine T.seq ?_
                          refine T.region ?_
                          refine T.pure (.bool true) (by kernel_rfl) (fun _ => by kernel_rfl) ?_
                          refine T.nil ?_
                          refine T.seq ?_
                          refine T.cond true (by kernel_rfl) (by kernel_rfl) (fun _ => ?_) (fun h => Bool.noConfusion h)
                          refine T.skip_code ?_
                          refine T.seq ?_
                          refine T.block ?_
                          refine T.seq ?_
                          refine T.region ?_
                          refine T.pure (.pointer (some ⟨b7, 1, none⟩)) (by kernel_rfl) (fun _ => by kernel_rfl) ?_
                          refine T.look (.slice (cutA A5 c5 (if (r12.1.length : Int) < (r13.1.length : Int) then (r12.1.length : Int) else (r13.1.length : Int)).toNat 6) s1.length (c5 - (if (r12.1.length : Int) < (r13.1.length : Int) then (r12.1.length : Int) else (r13.1.length : Int)).toNat)) (by kernel_rfl) (fun w' hh => exec_load1 rfl rfl (by kernel_rfl) (hh.cellBox (i := 0) (by rfl) 1)) ?_
                          refine T.pure (.slice (cutA A5 c5 (if (r12.1.length : Int) < (r13.1.length : Int) then (r12.1.length : Int) else (r13.1.length : Int)).toNat 6) s1.length (c5 - (if (r12.1.length : Int) < (r13.1.length : Int) then (r12.1.length : Int) else (r13.1.length : Int)).toNat)) (by kernel_rfl) (fun _ => by kernel_rfl) ?_
                          refine T.nil ?_
                          refine T.seq ?_
                          refine T.region ?_
                          refine T.pure (.int .i64 (IntKind.i64.wrap (0 + (r11.1.length : Int)))) (by kernel_rfl) (fun _ => by kernel_rfl) ?_
                          refine T.pure (.slice (cutA A5 c5 (if (r12.1.length : Int) < (r13.1.length : Int) then (r12.1.length : Int) else (r13.1.length : Int)).toNat 6) s1.length (c5 - (if (r12.1.length : Int) < (r13.1.length : Int) then (r12.1.length : Int) else (r13.1.length : Int)).toNat)) (by kernel_rfl) (fun _ => by kernel_rfl) ?_
                          refine T.pure (.int .i64 (s1.length : Int)) (by kernel_rfl) (fun _ => by kernel_rfl) ?_
                          refine T.pure (.int .i64 (IntKind.i64.wrap ((IntKind.i64.wrap (0 + (r11.1.length : Int))) + (s1.length : Int)))) (by kernel_rfl) (fun _ => by kernel_rfl) ?_
                          refine T.pure (.int .i64 (IntKind.i64.wrap ((IntKind.i64.wrap (0 + (r11.1.length : Int))) + (s1.length : Int)))) (by kernel_rfl) (fun _ => by kernel_rfl) ?_
                          refine T.nil ?_
                          refine T.seq ?_
                          refine T.region ?_
                          refine T.pure (.int .i64 (IntKind.i64.wrap ((IntKind.i64.wrap (0 + (r11.1.length : Int))) + (s1.length : Int)))) (by kernel_rfl) (fun _ => by kernel_rfl) ?_
                          refine T.pure (.bool (decide ((IntKind.i64.wrap ((IntKind.i64.wrap (0 + (r11.1.length : Int))) + (s1.length : Int))) < 0))) (by kernel_rfl) (fun _ => by kernel_rfl) ?_
                          refine T.nil ?_
                          refine T.cond (decide ((IntKind.i64.wrap ((IntKind.i64.wrap (0 + (r11.1.length : Int))) + (s1.length : Int))) < 0)) (by kernel_rfl) (by kernel_rfl) (fun hc7 => ?_) (fun hc7 => ?_)
                          ·
                            rw [hc7, cond_true] at hX4
                            cases hX4
                          ·
                            rw [hc7, cond_false] at hX4
                            refine T.skip_code ?_
                            refine T.region ?_
                            refine T.pure (.int .i64 2) (by kernel_rfl) (fun _ => by kernel_rfl) ?_
                            refine T.pure (.int .i64 2) (by kernel_rfl) (fun _ => by kernel_rfl) ?_
                            refine T.nil ?_
                            refine T.round ?_
                            refine T.seq ?_
                            refine T.region ?_
                            refine T.pure (.bool false) (by kernel_rfl) (fun _ => by kernel_rfl) ?_
                            refine T.nil ?_
                            refine T.seq ?_
                            refine T.cond false (by kernel_rfl) (by kernel_rfl) (fun h => Bool.noConfusion h) (fun _ => ?_)
                            refine T.exit ?_
                            refine T.seq ?_
                            refine T.region ?_
                            refine T.pure (.int .i64 (IntKind.i64.wrap ((IntKind.i64.wrap (0 + (r11.1.length : Int))) + (s1.length : Int)))) (by kernel_rfl) (fun _ => by kernel_rfl) ?_
                            obtain ⟨z5, hX5, hX4⟩ := Option.bind_eq_some_iff.1 hX4
                            refine T.step (W1.within 83 [.slice none 0 0, .int .i64 (IntKind.i64.wrap ((IntKind.i64.wrap (0 + (r11.1.length : Int))) + (s1.length : Int)))] (fun v w' => ∃ (A10 : Option Addr) (c10 : Nat) (A11 : Option Addr) (c11 : Nat) (V18 : View), View.le V15 V18 ∧ SlOk (made w V18) eElem A11 c11 s1 ∧ v = .slice A10 z5.length c10 ∧ Hp w V18 [row 26 eElem A10 c10 z5, box b7 22 [.slice A4 r11.1.length c4, .slice A11 s1.length c11]] w') Try.func83 rfl rfl (by kernel_rfl) (fun _ => by kernel_rfl) rfl ?_ ?_)
                            ·
                              refine T.seq ?_
                              refine T.region ?_
                              refine T.pure (.slice none 0 0) (by kernel_rfl) (fun _ => by kernel_rfl) ?_
                              refine T.nil ?_
                              refine T.seq ?_
                              refine T.seq ?_
                              refine T.region ?_
                              refine T.pure (.int .i64 (IntKind.i64.wrap ((IntKind.i64.wrap (0 + (r11.1.length : Int))) + (s1.length : Int)))) (by kernel_rfl) (fun _ => by kernel_rfl) ?_
                              refine T.pure (.bool (decide ((IntKind.i64.wrap ((IntKind.i64.wrap (0 + (r11.1.length : Int))) + (s1.length : Int))) < 0))) (by kernel_rfl) (fun _ => by kernel_rfl) ?_
                              refine T.nil ?_
                              refine T.cond (decide ((IntKind.i64.wrap ((IntKind.i64.wrap (0 + (r11.1.length : Int))) + (s1.length : Int))) < 0)) (by kernel_rfl) (by kernel_rfl) (fun h => absurd (hc7.symm.trans h) (by decide)) (fun _ => ?_)
                              refine T.skip_code ?_
                              obtain ⟨z6, hX6, hX5⟩ := Option.bind_eq_some_iff.1 hX5
                              refine T.cut (fun a w' => ∃ (A12 : Option Addr) (c12 : Nat) (A13 : Option Addr) (c13 : Nat) (V19 : View), View.le V15 V19 ∧ SlOk (made w V19) eElem A13 c13 s1 ∧ Fr 27 [(0, .slice A12 z6.length c12)] a ∧ Hp w V19 [row 26 eElem A12 c12 z6, box b7 22 [.slice A4 r11.1.length c4, .slice A13 s1.length c13]] w') ?_ ?_
                              ·
                                refine T.seq ?_
                                refine T.region ?_
                                refine T.pure (.int .i64 (IntKind.i64.wrap ((IntKind.i64.wrap (0 + (r11.1.length : Int))) + (s1.length : Int)))) (by kernel_rfl) (fun _ => by kernel_rfl) ?_
                                refine T.pure (.slice none 0 0) (by kernel_rfl) (fun _ => by kernel_rfl) ?_
                                refine T.pure (.int .i64 0) (by kernel_rfl) (fun _ => by kernel_rfl) ?_
                                refine T.pure (.slice none 0 0) (by kernel_rfl) (fun _ => by kernel_rfl) ?_
                                refine T.pure (.int .i64 0) (by kernel_rfl) (fun _ => by kernel_rfl) ?_
                                refine T.pure (.int .i64 0) (by kernel_rfl) (fun _ => by kernel_rfl) ?_
                                refine T.pure (.int .i64 (IntKind.i64.wrap ((IntKind.i64.wrap ((IntKind.i64.wrap (0 + (r11.1.length : Int))) + (s1.length : Int))) - 0))) (by kernel_rfl) (fun _ => by kernel_rfl) ?_
                                refine T.pure (.int .i64 (IntKind.i64.wrap ((IntKind.i64.wrap ((IntKind.i64.wrap (0 + (r11.1.length : Int))) + (s1.length : Int))) - 0))) (by kernel_rfl) (fun _ => by kernel_rfl) ?_
                                refine T.nil ?_
                                refine T.seq ?_
                                refine T.region ?_
                                refine T.pure (.int .i64 (IntKind.i64.wrap ((IntKind.i64.wrap ((IntKind.i64.wrap (0 + (r11.1.length : Int))) + (s1.length : Int))) - 0))) (by kernel_rfl) (fun _ => by kernel_rfl) ?_
                                refine T.pure (.bool (decide ((0 : Int) < (IntKind.i64.wrap ((IntKind.i64.wrap ((IntKind.i64.wrap (0 + (r11.1.length : Int))) + (s1.length : Int))) - 0))))) (by kernel_rfl) (fun _ => by kernel_rfl) ?_
                                refine T.nil ?_
                                refine T.cond (decide ((0 : Int) < (IntKind.i64.wrap ((IntKind.i64.wrap ((IntKind.i64.wrap (0 + (r11.1.length : Int))) + (s1.length : Int))) - 0)))) (by kernel_rfl) (by kernel_rfl) (fun hc8 => ?_) (fun hc8 => ?_)
                                ·
                                  rw [hc8, cond_true] at hX6
                                  refine T.region ?_
                                  refine T.pure (.slice none 0 0) (by kernel_rfl) (fun _ => by kernel_rfl) ?_
                                  refine T.pure (.slice none 0 0) (by kernel_rfl) (fun _ => by kernel_rfl) ?_
                                  refine T.pure (.int .i64 0) (by kernel_rfl) (fun _ => by kernel_rfl) ?_
                                  refine T.pure (.slice none 0 0) (by kernel_rfl) (fun _ => by kernel_rfl) ?_
                                  refine T.pure (.int .i64 (IntKind.i64.wrap ((IntKind.i64.wrap ((IntKind.i64.wrap (0 + (r11.1.length : Int))) + (s1.length : Int))) - 0))) (by kernel_rfl) (fun _ => by kernel_rfl) ?_
                                  obtain ⟨u11, hb17, hX6⟩ := Option.bind_eq_some_iff.1 hX6
                                  obtain ⟨ti, hti, hz1, hz2, hz3⟩ := info_parts (P := Try.prog) (e := 26) (z := .agg #[.int .i64 0, .int .i64 0, .int .i64 0, .int .i64 0, .int .i64 0, .string (ByteArray.mk #[])]) (size := 6) (bytes := 56) (by kernel_rfl)
                                  obtain ⟨hb17_0, hb17_r, hb17_m, hb17_n⟩ := noughts_some hb17
                                  refine T.step (W1.growz (E := eElem) (x := ((DElem.mk (DKey.mk 0 0 0) 0 0 (ByteArray.mk #[])) : DElem)) (z := .agg #[.int .i64 0, .int .i64 0, .int .i64 0, .int .i64 0, .int .i64 0, .string (ByteArray.mk #[])]) (kn := .i64) ((IntKind.i64.wrap ((IntKind.i64.wrap ((IntKind.i64.wrap (0 + (r11.1.length : Int))) + (s1.length : Int))) - 0)).toNat) _ _ 56 ti hb17_0 (by kernel_rfl) rfl (by kernel_rfl) (by kernel_rfl) hti hz1 hz2 hz3 (fun _ => rfl) rfl (by decide) rfl (congrArg (Value.int _) hb17_n) hb17_r hb17_m (fun A14 c14 => ?_))
                                  refine T.pure (.slice none 0 0) (by kernel_rfl) (fun _ => by kernel_rfl) ?_
                                  refine T.pure (.int .i64 0) (by kernel_rfl) (fun _ => by kernel_rfl) ?_
                                  obtain ⟨s2, hb18, hX6⟩ := Option.bind_eq_some_iff.1 hX6
                                  refine T.look (.slice A14 s2.length c14) (by kernel_rfl) (fun w' hh => exec_slice_list0 (e := 26) (s := 6) (lx := none) (hx := (some _)) (k := .i64) (k' := .i64) rfl rfl (by kernel_rfl) (by kernel_rfl) ((hh.row_slOk (i := 0) (by rfl))).1 rfl rfl hb18) ?_
                                  refine T.pure (.slice A14 s2.length c14) (by kernel_rfl) (fun _ => by kernel_rfl) ?_
                                  refine T.nil ?_
                                  refine T.shrink (l := s2) 0 (by rfl) (lslice_prefix hb18) ?_
                                  cases hX6
                                  exact fun a w' hf hh => Exists.intro A14 (Exists.intro c14 (Exists.intro (cutA A5 c5 (if (r12.1.length : Int) < (r13.1.length : Int) then (r12.1.length : Int) else (r13.1.length : Int)).toNat 6) (Exists.intro (c5 - (if (r12.1.length : Int) < (r13.1.length : Int) then (r12.1.length : Int) else (r13.1.length : Int)).toNat) (Exists.intro V15 (And.intro (View.le_refl _) (And.intro (SlOk.cut (SlOk.mono hs5 (made_mono hV15)) hb16) (And.intro ((Fr.nil hf).pick hf 0 rfl) (hh.sub (.cons_cons _ (.cons_cons _ (.cons _ (.cons _ (.cons _ List.Sublist.slnil)))))))))))))
                                ·
                                  rw [hc8, cond_false] at hX6
                                  refine T.skip_code ?_
                                  refine T.rownil 26 eElem ?_
                                  cases hX6
                                  exact fun a w' hf hh => Exists.intro none (Exists.intro 0 (Exists.intro (cutA A5 c5 (if (r12.1.length : Int) < (r13.1.length : Int) then (r12.1.length : Int) else (r13.1.length : Int)).toNat 6) (Exists.intro (c5 - (if (r12.1.length : Int) < (r13.1.length : Int) then (r12.1.length : Int) else (r13.1.length : Int)).toNat) (Exists.intro V15 (And.intro (View.le_refl _) (And.intro (SlOk.cut (SlOk.mono hs5 (made_mono hV15)) hb16) (And.intro ((Fr.nil hf).pick hf 0 rfl) (hh.sub (.cons_cons _ (.cons_cons _ (.cons _ (.cons _ (.cons _ List.Sublist.slnil)))))))))))))
                              ·
                                rintro a w' ⟨A12, c12, A13, c13, V19, hV19, hs10, hf, hh⟩
                                refine (?_ : T 27 w V19 [row 26 eElem A12 c12 z6, box b7 22 [.slice A4 r11.1.length c4, .slice A13 s1.length c13]] [(0, .slice A12 z6.length c12)] _) a w' hf hh
                                clear hf hh
                                refine T.seq ?_
                                refine T.region ?_
                                refine T.pure (.slice A12 z6.length c12) (by kernel_rfl) (fun _ => by kernel_rfl) ?_
                                refine T.pure (.slice A12 z6.length c12) (by kernel_rfl) (fun _ => by kernel_rfl) ?_
                                refine T.nil ?_
                                cases hX5
                                refine T.ret rfl ?_
                                exact T.ret1 rfl (ResIs.tmp rfl) fun w' hh => ⟨_, rfl, Exists.intro A12 (Exists.intro c12 (Exists.intro A13 (Exists.intro c13 (Exists.intro V19 (And.intro hV19 (And.intro (SlOk.mono hs10 (made_mono (View.le_refl _))) (And.intro rfl (hh.sub (.cons_cons _ (.cons_cons _ List.Sublist.slnil))))))))))⟩
                            ·
                              rintro v w' ⟨A10, c10, A11, c11, V18, hV18, hs9, rfl, hh⟩
                              refine ⟨V18, [row 26 eElem A10 c10 z5, box b7 22 [.slice A4 r11.1.length c4, .slice A11 s1.length c11]], hh, ?_⟩
                              clear hh
                              refine T.pure (.slice A10 z5.length c10) (by kernel_rfl) (fun _ => by kernel_rfl) ?_
                              refine T.nil ?_
                              refine T.seq ?_
                              refine T.seq ?_
                              refine T.region ?_
                              refine T.pure (.slice (some ⟨b7, 0, none⟩) 2 2) (by kernel_rfl) (fun _ => by kernel_rfl) ?_
                              refine T.pure (.int .i64 2) (by kernel_rfl) (fun _ => by kernel_rfl) ?_
                              refine T.pure (.int .i64 0) (by kernel_rfl) (fun _ => by kernel_rfl) ?_
                              refine T.nil ?_
                              refine T.block ?_
                              refine T.rounds 3 ?_
                              refine T.round ?_
                              refine T.seq ?_
                              refine T.region ?_
                              refine T.pure (.bool true) (by kernel_rfl) (fun _ => by kernel_rfl) ?_
                              refine T.nil ?_
                              refine T.seq ?_
                              refine T.cond true (by kernel_rfl) (by kernel_rfl) (fun _ => ?_) (fun h => Bool.noConfusion h)
                              refine T.skip_code ?_
                              refine T.seq ?_
                              refine T.block ?_
                              refine T.seq ?_
                              refine T.region ?_
                              refine T.pure (.pointer (some ⟨b7, 0, none⟩)) (by kernel_rfl) (fun _ => by kernel_rfl) ?_
                              refine T.look (.slice A4 r11.1.length c4) (by kernel_rfl) (fun w' hh => exec_load1 rfl rfl (by kernel_rfl) (hh.cellBox (i := 1) (by rfl) 0)) ?_
                              refine T.pure (.slice A4 r11.1.length c4) (by kernel_rfl) (fun _ => by kernel_rfl) ?_
                              refine T.nil ?_
                              refine T.region ?_
                              refine T.pure (.slice A10 z5.length c10) (by kernel_rfl) (fun _ => by kernel_rfl) ?_
                              refine T.pure (.slice A4 r11.1.length c4) (by kernel_rfl) (fun _ => by kernel_rfl) ?_
                              obtain ⟨y2, hb19, hX4⟩ := Option.bind_eq_some_iff.1 hX4
                              obtain ⟨hb19_r, hb19_m, rfl⟩ := grow_some hb19
                              obtain ⟨ti, hti, hz1, hz2, hz3⟩ := info_parts (P := Try.prog) (e := 26) (z := .agg #[.int .i64 0, .int .i64 0, .int .i64 0, .int .i64 0, .int .i64 0, .string (ByteArray.mk #[])]) (size := 6) (bytes := 56) (by kernel_rfl)
                              refine T.step (W1.append (E := eElem) (l := z5) (m := r11.1) 0 _ _ 56 ti _ (by rfl) (by kernel_rfl) rfl (by kernel_rfl) hti hz1 hz2 hz3 rfl (by decide) rfl rfl (fun w' hh => (SlOk.srcF (SlOk.mono (SlOk.mono hs4 (View.le_trans (made_le _ _) (View.le_trans (View.le_trans hV14 hV15) hV18))) hh.view) (fun _ _ _ _ h => h))) hb19_r hb19_m (fun A15 c15 => ?_))
                              refine T.pure (.slice A15 ((z5 ++ r11.1).length) c15) (by kernel_rfl) (fun _ => by kernel_rfl) ?_
                              refine T.nil ?_
                              refine T.region ?_
                              refine T.pure (.int .i64 1) (by kernel_rfl) (fun _ => by kernel_rfl) ?_
                              refine T.pure (.int .i64 1) (by kernel_rfl) (fun _ => by kernel_rfl) ?_
                              refine T.nil ?_
                              refine T.round ?_
                              refine T.seq ?_
                              refine T.region ?_
                              refine T.pure (.bool true) (by kernel_rfl) (fun _ => by kernel_rfl) ?_
                              refine T.nil ?_
                              refine T.seq ?_
                              refine T.cond true (by kernel_rfl) (by kernel_rfl) (fun _ => ?_) (fun h => Bool.noConfusion h)
                              refine T.skip_code ?_
                              refine T.seq ?_
                              refine T.block ?_
                              refine T.seq ?_
                              refine T.region ?_
                              refine T.pure (.pointer (some ⟨b7, 1, none⟩)) (by kernel_rfl) (fun _ => by kernel_rfl) ?_
                              refine T.look (.slice A11 s1.length c11) (by kernel_rfl) (fun w' hh => exec_load1 rfl rfl (by kernel_rfl) (hh.cellBox (i := 1) (by rfl) 1)) ?_
                              refine T.pure (.slice A11 s1.length c11) (by kernel_rfl) (fun _ => by kernel_rfl) ?_
                              refine T.nil ?_
                              refine T.region ?_
                              refine T.pure (.slice A15 ((z5 ++ r11.1).length) c15) (by kernel_rfl) (fun _ => by kernel_rfl) ?_
                              refine T.pure (.slice A11 s1.length c11) (by kernel_rfl) (fun _ => by kernel_rfl) ?_
                              obtain ⟨y3, hb20, hX4⟩ := Option.bind_eq_some_iff.1 hX4
                              obtain ⟨hb20_r, hb20_m, rfl⟩ := grow_some hb20
                              obtain ⟨ti, hti, hz1, hz2, hz3⟩ := info_parts (P := Try.prog) (e := 26) (z := .agg #[.int .i64 0, .int .i64 0, .int .i64 0, .int .i64 0, .int .i64 0, .string (ByteArray.mk #[])]) (size := 6) (bytes := 56) (by kernel_rfl)
                              refine T.step (W1.append (E := eElem) (l := (z5 ++ r11.1)) (m := s1) 0 _ _ 56 ti _ (by rfl) (by kernel_rfl) rfl (by kernel_rfl) hti hz1 hz2 hz3 rfl (by decide) rfl rfl (fun w' hh => (SlOk.srcF (SlOk.mono (SlOk.mono hs9 (View.le_trans (made_le _ _) (View.le_refl _))) hh.view) (fun _ _ _ _ h => h))) hb20_r hb20_m (fun A16 c16 => ?_))
                              refine T.pure (.slice A16 (((z5 ++ r11.1) ++ s1).length) c16) (by kernel_rfl) (fun _ => by kernel_rfl) ?_
                              refine T.nil ?_
                              refine T.region ?_
                              refine T.pure (.int .i64 2) (by kernel_rfl) (fun _ => by kernel_rfl) ?_
                              refine T.pure (.int .i64 2) (by kernel_rfl) (fun _ => by kernel_rfl) ?_
                              refine T.nil ?_
                              refine T.round ?_
                              refine T.seq ?_
                              refine T.region ?_
                              refine T.pure (.bool false) (by kernel_rfl) (fun _ => by kernel_rfl) ?_
                              refine T.nil ?_
                              refine T.seq ?_
                              refine T.cond false (by kernel_rfl) (by kernel_rfl) (fun h => Bool.noConfusion h) (fun _ => ?_)
                              refine T.exit ?_
                              refine T.seq ?_
                              refine T.region ?_
                              refine T.pure (.slice A16 (((z5 ++ r11.1) ++ s1).length) c16) (by kernel_rfl) (fun _ => by kernel_rfl) ?_
                              refine T.pure (.slice A16 (((z5 ++ r11.1) ++ s1).length) c16) (by kernel_rfl) (fun _ => by kernel_rfl) ?_
                              refine T.nil ?_
                              cases hX4
                              refine T.ret rfl ?_
                              exact T.ret1 rfl (ResIs.tmp rfl) fun w' hh => ⟨_, rfl, Exists.intro A16 (Exists.intro c16 (Exists.intro A11 (Exists.intro c11 (Exists.intro (cutA A5 c5 (if (r12.1.length : Int) < (r13.1.length : Int) then (r12.1.length : Int) else (r13.1.length : Int)).toNat 6) (Exists.intro (c5 - (if (r12.1.length : Int) < (r13.1.length : Int) then (r12.1.length : Int) else (r13.1.length : Int)).toNat) (Exists.intro V18 (And.intro hV18 (And.intro (SlOk.mono hs9 (made_mono (View.le_refl _))) (And.intro (SlOk.cut (SlOk.mono hs5 (made_mono (View.le_trans hV15 hV18))) hb16) (And.intro rfl (hh.sub (.cons_cons _ (.cons_cons _ List.Sublist.slnil)))))))))))))⟩
                      ·
                        rintro v w' ⟨A7, c7, A8, c8, A9, c9, V17, hV17, hs7, hs8, rfl, hh⟩
                        refine ⟨V17, [row 26 eElem A7 c7 z4, box b7 22 [.slice A4 r11.1.length c4, .slice A8 s1.length c8]], hh, ?_⟩
                        clear hh
                        obtain ⟨r16, hb21, hX3⟩ := Option.bind_eq_some_iff.1 hX3
                        refine T.step (W1.call (vSc eBool) r16 29 #[.slice A3 r5.1.length c3, .slice A7 z4.length c7] (by kernel_rfl) (fun _ => by kernel_rfl) (fun w' hh => slices_Equal_Elem_l F r5.1 z4 r16 hb21 w' A3 c3 (SlOk.mono (SlOk.mono hs3 (View.le_trans (made_le _ _) (View.le_trans (View.le_trans (View.le_trans (View.le_trans (View.le_trans hV7 hV9) hV13) hV14) hV15) hV17))) hh.view) A7 c7 (hh.row_slOk (i := 0) (by rfl))) ?_)
                        intro u V20 hV20 hu
                        obtain rfl := sureBool _ _ _ hu
                        refine T.pure (.bool r16) (by kernel_rfl) (fun _ => by kernel_rfl) ?_
                        refine T.pure (.bool r16) (by kernel_rfl) (fun _ => by kernel_rfl) ?_
                        refine T.nil ?_
                        cases hX3
                        exact fun a w' hf hh => Exists.intro V20 (And.intro (View.le_trans hV17 hV20) (And.intro ((Fr.nil hf).pick hf 10 rfl) (hh.sub (.cons _ (.cons _ List.Sublist.slnil)))))
              ·
                rintro a w' ⟨V16, hV16, hf, hh⟩
                refine (?_ : T 156 w V16 [] [(10, .bool z3)] _) a w' hf hh
                clear hf hh
                cases hF
                refine T.ret rfl ?_
                exact T.ret1 rfl (ResIs.tmp rfl) fun w' hh => ⟨_, rfl, hh.below, (show _ from rfl)⟩

end Go.Proofs.Ytiaoncjkfgebdaa
