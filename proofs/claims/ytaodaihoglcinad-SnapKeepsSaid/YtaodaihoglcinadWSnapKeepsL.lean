/- The Go functions of group WSnapKeeps compute the pure functions of that group: written by walkgen.py. Condition of each: the pure function yields a result. -/
import Derived.Test.YtaodaihoglcinadTimesL
import Derived.Test.YtaodaihoglcinadPruneL
import Derived.Test.YtaodaihoglcinadEqsL
import Derived.Test.YtaodaihoglcinadWSnapKeepsF
import Derived.Test.YtaodaihoglcinadEqL
namespace Go.Proofs.Ytaodaihoglcinad
set_option linter.unusedVariables false

set_option maxRecDepth 100000 in
set_option maxHeartbeats 4000000 in
theorem annalkeep_SnapKeeps_l (F : Nat) (p0 : (List DElem)) (p1 : (List DSnap)) (p2 : ByteArray) (p3 : DKey) (p4 : DKey) (r : Bool) (hF : annalkeep_SnapKeeps F p0 p1 p2 p3 p4 = some r) (w : World) (A1 : Option Addr) (c1 : Nat) (hs1 : SlOk (vw w) eElem A1 c1 p0) (A2 : Option Addr) (c2 : Nat) (hs2 : SlOk (vw w) eSnap A2 c2 p1) :
    Calls Try.prog 3 #[.slice A1 p0.length c1, .slice A2 p1.length c2, .string p2, .agg #[.int .i64 p3.pfs, .int .i64 p3.obj, .int .i64 p3.off], .agg #[.int .i64 p4.pfs, .int .i64 p4.obj, .int .i64 p4.off]] w (Post (vSc eBool) r w) := by
 unfold annalkeep_SnapKeeps at hF
 refine T.start (l := [.slice A1 p0.length c1, .slice A2 p1.length c2, .string p2, .agg #[.int .i64 p3.pfs, .int .i64 p3.obj, .int .i64 p3.off], .agg #[.int .i64 p4.pfs, .int .i64 p4.obj, .int .i64 p4.off]]) Try.func3 rfl rfl rfl ?_
 refine T.seq ?_
 refine T.region ?_
 refine T.step (W1.new 25 [.int .i64 p3.pfs, .int .i64 p3.obj, .int .i64 p3.off] (fun b => .pointer (some ⟨b, 0, none⟩)) (by kernel_rfl) (fun _ => by kernel_rfl) (fun b1 => ?_))
 refine T.step (W1.new 25 [.int .i64 p4.pfs, .int .i64 p4.obj, .int .i64 p4.off] (fun b => .pointer (some ⟨b, 0, none⟩)) (by kernel_rfl) (fun _ => by kernel_rfl) (fun b2 => ?_))
 refine T.pure (.bool false) (by kernel_rfl) (fun _ => by kernel_rfl) ?_
 refine T.nil ?_
 refine T.seq ?_
 refine T.seq ?_
 refine T.region ?_
 refine T.pure (.agg #[.string (ByteArray.mk #[97]), .int .i64 5]) (by kernel_rfl) (fun _ => by kernel_rfl) ?_
 refine T.pure (.agg #[.string (ByteArray.mk #[98]), .int .i64 5]) (by kernel_rfl) (fun _ => by kernel_rfl) ?_
 refine T.step (W1.new 31 [.string (ByteArray.mk #[97]), .int .i64 5, .string (ByteArray.mk #[98]), .int .i64 5] (fun b => .slice (some ⟨b, 0, none⟩) 2 2) (by kernel_rfl) (fun _ => by kernel_rfl) (fun b3 => ?_))
 obtain ⟨r1, hb1, hF⟩ := Option.bind_eq_some_iff.1 hF
 refine T.step (W1.call (vT2 (vSc (eList eInt)) (vSc eInt)) r1 4 #[.slice (some ⟨b3, 0, none⟩) 2 2] (by kernel_rfl) (fun _ => by kernel_rfl) (fun w' hh => snap_Times_l F [(DSnap.mk (ByteArray.mk #[97]) 5), (DSnap.mk (ByteArray.mk #[98]) 5)] r1 hb1 w' (some ⟨b3, 0, none⟩) 2 (slok_lit (E := eSnap) (f := DSnap.cells) [(DSnap.mk (ByteArray.mk #[97]) 5), (DSnap.mk (ByteArray.mk #[98]) 5)] (fun _ _ => rfl) (Nat.le_of_ble_eq_true (by rfl)) (fun j => hh.cellBox (i := 0) (by rfl) j))) ?_)
 intro u V1 hV1 hu
 obtain ⟨u1, u2, rfl, hu1, hu2⟩ := vT2_elim hu
 obtain ⟨A3, c3, rfl, hs3⟩ := vlist_elim hu1
 obtain rfl := sureInt _ _ _ hu2
 refine T.pure (.tuple #[.slice A3 r1.1.length c3, .int .i64 r1.2]) (by kernel_rfl) (fun _ => by kernel_rfl) ?_
 refine T.pure (.slice A3 r1.1.length c3) (by kernel_rfl) (fun _ => by kernel_rfl) ?_
 refine T.pure (.int .i64 r1.2) (by kernel_rfl) (fun _ => by kernel_rfl) ?_
 refine T.pure (.slice A3 r1.1.length c3) (by kernel_rfl) (fun _ => by kernel_rfl) ?_
 refine T.pure (.int .i64 r1.2) (by kernel_rfl) (fun _ => by kernel_rfl) ?_
 refine T.nil ?_
 obtain ⟨z1, hX1, hF⟩ := Option.bind_eq_some_iff.1 hF
 refine T.cut (fun a w' => ∃ (V2 : View), View.le V1 V2 ∧ Fr 87 [(0, .slice A1 p0.length c1), (1, .slice A2 p1.length c2), (2, .string p2), (8, .pointer (some ⟨b1, 0, none⟩)), (9, .pointer (some ⟨b2, 0, none⟩)), (35, .bool z1)] a ∧ Hp w V2 [box b2 25 [.int .i64 p4.pfs, .int .i64 p4.obj, .int .i64 p4.off], box b1 25 [.int .i64 p3.pfs, .int .i64 p3.obj, .int .i64 p3.off]] w') ?_ ?_
 ·
  refine T.region ?_
  refine T.pure (.int .i64 r1.2) (by kernel_rfl) (fun _ => by kernel_rfl) ?_
  refine T.pure (.bool (r1.2 != 0)) (by kernel_rfl) (fun _ => by kernel_rfl) ?_
  refine T.pure (.bool (r1.2 != 0)) (by kernel_rfl) (fun _ => by kernel_rfl) ?_
  cases hg1 : (r1.2 != 0)
  ·
   skip
   rw [hg1, cond_false] at hX1
   refine T.pure (.slice A3 r1.1.length c3) (by kernel_rfl) (fun _ => by kernel_rfl) ?_
   refine T.step (W1.new 3 [.int .i64 5] (fun b => .slice (some ⟨b, 0, none⟩) 1 1) (by kernel_rfl) (fun _ => by kernel_rfl) (fun b4 => ?_))
   obtain ⟨r2, hb2, hX1⟩ := Option.bind_eq_some_iff.1 hX1
   refine T.step (W1.call (vSc eBool) r2 5 #[.slice A3 r1.1.length c3, .slice (some ⟨b4, 0, none⟩) 1 1] (by kernel_rfl) (fun _ => by kernel_rfl) (fun w' hh => slices_Equal_int_l F r1.1 [5] r2 hb2 w' A3 c3 (SlOk.mono (SlOk.mono hs3 (View.le_trans (made_le _ _) (View.le_refl _))) hh.view) (some ⟨b4, 0, none⟩) 1 (slok_lit (E := eInt) (f := (fun x => [.int .i64 x])) [5] (fun _ _ => rfl) (Nat.le_of_ble_eq_true (by rfl)) (fun j => hh.cellBox (i := 0) (by rfl) j))) ?_)
   intro u V3 hV3 hu
   obtain rfl := sureBool _ _ _ hu
   refine T.pure (.bool (!r2)) (by kernel_rfl) (fun _ => by kernel_rfl) ?_
   refine T.pure (.bool (!r2)) (by kernel_rfl) (fun _ => by kernel_rfl) ?_
   refine T.nil ?_
   cases hX1
   exact fun a w' hf hh => Exists.intro V3 (And.intro hV3 (And.intro (((((((Fr.nil hf).pick hf 35 rfl).pick hf 9 rfl).pick hf 8 rfl).pick hf 2 rfl).pick hf 1 rfl).pick hf 0 rfl) (hh.sub (.cons _ (.cons _ (.cons_cons _ (.cons_cons _ List.Sublist.slnil)))))))
  ·
   skip
   rw [hg1, cond_true] at hX1
   refine T.pass (by kernel_rfl) (by kernel_rfl) ?_
   refine T.pass (by kernel_rfl) (by kernel_rfl) ?_
   refine T.pass (by kernel_rfl) (by kernel_rfl) ?_
   refine T.pass (by kernel_rfl) (by kernel_rfl) ?_
   refine T.pure (.bool true) (by kernel_rfl) (fun _ => by kernel_rfl) ?_
   refine T.nil ?_
   cases hX1
   exact fun a w' hf hh => Exists.intro V1 (And.intro (View.le_refl _) (And.intro (((((((Fr.nil hf).pick hf 35 rfl).pick hf 9 rfl).pick hf 8 rfl).pick hf 2 rfl).pick hf 1 rfl).pick hf 0 rfl) (hh.sub (.cons _ (.cons_cons _ (.cons_cons _ List.Sublist.slnil))))))
 ·
  rintro a w' ⟨V2, hV2, hf, hh⟩
  refine (?_ : T 87 w V2 [box b2 25 [.int .i64 p4.pfs, .int .i64 p4.obj, .int .i64 p4.off], box b1 25 [.int .i64 p3.pfs, .int .i64 p3.obj, .int .i64 p3.off]] [(0, .slice A1 p0.length c1), (1, .slice A2 p1.length c2), (2, .string p2), (8, .pointer (some ⟨b1, 0, none⟩)), (9, .pointer (some ⟨b2, 0, none⟩)), (35, .bool z1)] _) a w' hf hh
  clear hf hh
  refine T.cond z1 (by kernel_rfl) (by kernel_rfl) (fun hc1 => ?_) (fun hc1 => ?_)
  ·
   rw [hc1, cond_true] at hF
   refine T.seq ?_
   refine T.region ?_
   refine T.pure (.bool false) (by kernel_rfl) (fun _ => by kernel_rfl) ?_
   refine T.nil ?_
   cases hF
   refine T.ret rfl ?_
   exact T.ret1 rfl (ResIs.tmp rfl) fun w' hh => ⟨_, rfl, hh.below, (show _ from rfl)⟩
  ·
   rw [hc1, cond_false] at hF
   refine T.skip_code ?_
   refine T.seq ?_
   refine T.region ?_
   refine T.pure (.slice A2 p1.length c2) (by kernel_rfl) (fun _ => by kernel_rfl) ?_
   obtain ⟨r3, hb3, hF⟩ := Option.bind_eq_some_iff.1 hF
   refine T.step (W1.call (vT2 (vSc (eList eInt)) (vSc eInt)) r3 4 #[.slice A2 p1.length c2] (by kernel_rfl) (fun _ => by kernel_rfl) (fun w' hh => snap_Times_l F p1 r3 hb3 w' A2 c2 (SlOk.mono (SlOk.mono hs2 (View.le_trans hV1 hV2)) hh.view)) ?_)
   intro u V4 hV4 hu
   obtain ⟨u3, u4, rfl, hu3, hu4⟩ := vT2_elim hu
   obtain ⟨A4, c4, rfl, hs4⟩ := vlist_elim hu3
   obtain rfl := sureInt _ _ _ hu4
   refine T.pure (.tuple #[.slice A4 r3.1.length c4, .int .i64 r3.2]) (by kernel_rfl) (fun _ => by kernel_rfl) ?_
   refine T.pure (.slice A4 r3.1.length c4) (by kernel_rfl) (fun _ => by kernel_rfl) ?_
   refine T.pure (.int .i64 r3.2) (by kernel_rfl) (fun _ => by kernel_rfl) ?_
   refine T.pure (.slice A4 r3.1.length c4) (by kernel_rfl) (fun _ => by kernel_rfl) ?_
   refine T.pure (.int .i64 r3.2) (by kernel_rfl) (fun _ => by kernel_rfl) ?_
   refine T.nil ?_
   refine T.seq ?_
   refine T.region ?_
   refine T.pure (.slice A1 p0.length c1) (by kernel_rfl) (fun _ => by kernel_rfl) ?_
   refine T.pure (.slice A4 r3.1.length c4) (by kernel_rfl) (fun _ => by kernel_rfl) ?_
   obtain ⟨r4, hb4, hF⟩ := Option.bind_eq_some_iff.1 hF
   refine T.step (W1.call (vT2 (vSc (eList eElem)) (vSc eInt)) r4 6 #[.slice A1 p0.length c1, .slice A4 r3.1.length c4] (by kernel_rfl) (fun _ => by kernel_rfl) (fun w' hh => prune_Kept_l F p0 r3.1 r4 hb4 w' A1 c1 (SlOk.mono (SlOk.mono hs1 (View.le_trans (View.le_trans hV1 hV2) hV4)) hh.view) A4 c4 (SlOk.mono (SlOk.mono hs4 (View.le_trans (made_le _ _) (View.le_refl _))) hh.view)) ?_)
   intro u V5 hV5 hu
   obtain ⟨u5, u6, rfl, hu5, hu6⟩ := vT2_elim hu
   obtain ⟨A5, c5, rfl, hs5⟩ := vlist_elim hu5
   obtain rfl := sureInt _ _ _ hu6
   refine T.pure (.tuple #[.slice A5 r4.1.length c5, .int .i64 r4.2]) (by kernel_rfl) (fun _ => by kernel_rfl) ?_
   refine T.pure (.slice A5 r4.1.length c5) (by kernel_rfl) (fun _ => by kernel_rfl) ?_
   refine T.pure (.int .i64 r4.2) (by kernel_rfl) (fun _ => by kernel_rfl) ?_
   refine T.pure (.slice A5 r4.1.length c5) (by kernel_rfl) (fun _ => by kernel_rfl) ?_
   refine T.pure (.int .i64 r4.2) (by kernel_rfl) (fun _ => by kernel_rfl) ?_
   refine T.nil ?_
   refine T.seq ?_
   refine T.region ?_
   refine T.pure (.slice A2 p1.length c2) (by kernel_rfl) (fun _ => by kernel_rfl) ?_
   refine T.pure (.string p2) (by kernel_rfl) (fun _ => by kernel_rfl) ?_
   obtain ⟨r5, hb5, hF⟩ := Option.bind_eq_some_iff.1 hF
   refine T.step (W1.call (vT2 (vSc eInt) (vSc eInt)) r5 7 #[.slice A2 p1.length c2, .string p2] (by kernel_rfl) (fun _ => by kernel_rfl) (fun w' hh => snap_Find_l F p1 p2 r5 hb5 w' A2 c2 (SlOk.mono (SlOk.mono hs2 (View.le_trans (View.le_trans (View.le_trans hV1 hV2) hV4) hV5)) hh.view)) ?_)
   intro u V6 hV6 hu
   obtain rfl := (Sure.t2 sureInt sureInt) _ _ _ hu
   refine T.pure (.tuple #[.int .i64 r5.1, .int .i64 r5.2]) (by kernel_rfl) (fun _ => by kernel_rfl) ?_
   refine T.pure (.int .i64 r5.1) (by kernel_rfl) (fun _ => by kernel_rfl) ?_
   refine T.pure (.int .i64 r5.2) (by kernel_rfl) (fun _ => by kernel_rfl) ?_
   refine T.pure (.int .i64 r5.1) (by kernel_rfl) (fun _ => by kernel_rfl) ?_
   refine T.pure (.int .i64 r5.2) (by kernel_rfl) (fun _ => by kernel_rfl) ?_
   refine T.nil ?_
   refine T.seq ?_
   refine T.cut (fun a w' => Fr 87 [(0, .slice A1 p0.length c1), (8, .pointer (some ⟨b1, 0, none⟩)), (9, .pointer (some ⟨b2, 0, none⟩)), (15, .slice A5 r4.1.length c5), (17, .int .i64 r5.1), (62, .bool ((r3.2 != 0) || ((r4.2 != 0) || (r5.2 != 0))))] a ∧ Hp w V6 [box b2 25 [.int .i64 p4.pfs, .int .i64 p4.obj, .int .i64 p4.off], box b1 25 [.int .i64 p3.pfs, .int .i64 p3.obj, .int .i64 p3.off]] w') ?_ ?_
   ·
    refine T.region ?_
    refine T.pure (.int .i64 r3.2) (by kernel_rfl) (fun _ => by kernel_rfl) ?_
    refine T.pure (.bool (r3.2 != 0)) (by kernel_rfl) (fun _ => by kernel_rfl) ?_
    refine T.pure (.bool (r3.2 != 0)) (by kernel_rfl) (fun _ => by kernel_rfl) ?_
    cases hg2 : (r3.2 != 0)
    ·
     skip
     refine T.pure (.int .i64 r4.2) (by kernel_rfl) (fun _ => by kernel_rfl) ?_
     refine T.pure (.bool (r4.2 != 0)) (by kernel_rfl) (fun _ => by kernel_rfl) ?_
     refine T.pure (.bool (r4.2 != 0)) (by kernel_rfl) (fun _ => by kernel_rfl) ?_
     refine T.pure (.bool (r4.2 != 0)) (by kernel_rfl) (fun _ => by kernel_rfl) ?_
     cases hg3 : (r4.2 != 0)
     ·
      skip
      refine T.pure (.int .i64 r5.2) (by kernel_rfl) (fun _ => by kernel_rfl) ?_
      refine T.pure (.bool (r5.2 != 0)) (by kernel_rfl) (fun _ => by kernel_rfl) ?_
      refine T.pure (.bool (r5.2 != 0)) (by kernel_rfl) (fun _ => by kernel_rfl) ?_
      refine T.nil ?_
      exact fun a w' hf hh => And.intro (((((((Fr.nil hf).pick hf 62 rfl).pick hf 17 rfl).pick hf 15 rfl).pick hf 9 rfl).pick hf 8 rfl).pick hf 0 rfl) (hh.sub (.cons_cons _ (.cons_cons _ List.Sublist.slnil)))
     ·
      skip
      refine T.pass (by kernel_rfl) (by kernel_rfl) ?_
      refine T.pass (by kernel_rfl) (by kernel_rfl) ?_
      refine T.pure (.bool true) (by kernel_rfl) (fun _ => by kernel_rfl) ?_
      refine T.nil ?_
      exact fun a w' hf hh => And.intro (((((((Fr.nil hf).pick hf 62 rfl).pick hf 17 rfl).pick hf 15 rfl).pick hf 9 rfl).pick hf 8 rfl).pick hf 0 rfl) (hh.sub (.cons_cons _ (.cons_cons _ List.Sublist.slnil)))
    ·
     skip
     refine T.pass (by kernel_rfl) (by kernel_rfl) ?_
     refine T.pass (by kernel_rfl) (by kernel_rfl) ?_
     refine T.pure (.bool true) (by kernel_rfl) (fun _ => by kernel_rfl) ?_
     refine T.pure (.bool true) (by kernel_rfl) (fun _ => by kernel_rfl) ?_
     refine T.pass (by kernel_rfl) (by kernel_rfl) ?_
     refine T.pass (by kernel_rfl) (by kernel_rfl) ?_
     refine T.pure (.bool true) (by kernel_rfl) (fun _ => by kernel_rfl) ?_
     refine T.nil ?_
     exact fun a w' hf hh => And.intro (((((((Fr.nil hf).pick hf 62 rfl).pick hf 17 rfl).pick hf 15 rfl).pick hf 9 rfl).pick hf 8 rfl).pick hf 0 rfl) (hh.sub (.cons_cons _ (.cons_cons _ List.Sublist.slnil)))
   ·
    rintro a w' ⟨hf, hh⟩
    refine (?_ : T 87 w V6 [box b2 25 [.int .i64 p4.pfs, .int .i64 p4.obj, .int .i64 p4.off], box b1 25 [.int .i64 p3.pfs, .int .i64 p3.obj, .int .i64 p3.off]] [(0, .slice A1 p0.length c1), (8, .pointer (some ⟨b1, 0, none⟩)), (9, .pointer (some ⟨b2, 0, none⟩)), (15, .slice A5 r4.1.length c5), (17, .int .i64 r5.1), (62, .bool ((r3.2 != 0) || ((r4.2 != 0) || (r5.2 != 0))))] _) a w' hf hh
    clear hf hh
    refine T.cond ((r3.2 != 0) || ((r4.2 != 0) || (r5.2 != 0))) (by kernel_rfl) (by kernel_rfl) (fun hc2 => ?_) (fun hc2 => ?_)
    ·
     rw [hc2, cond_true] at hF
     refine T.seq ?_
     refine T.region ?_
     refine T.pure (.bool true) (by kernel_rfl) (fun _ => by kernel_rfl) ?_
     refine T.nil ?_
     cases hF
     refine T.ret rfl ?_
     exact T.ret1 rfl (ResIs.tmp rfl) fun w' hh => ⟨_, rfl, hh.below, (show _ from rfl)⟩
    ·
     rw [hc2, cond_false] at hF
     refine T.skip_code ?_
     refine T.seq ?_
     refine T.region ?_
     refine T.pure (.slice A1 p0.length c1) (by kernel_rfl) (fun _ => by kernel_rfl) ?_
     refine T.look (.agg #[.int .i64 p3.pfs, .int .i64 p3.obj, .int .i64 p3.off]) (by kernel_rfl) (fun w' hh => exec_loadN (cs := [.int .i64 p3.pfs, .int .i64 p3.obj, .int .i64 p3.off]) rfl rfl (by kernel_rfl) (by kernel_rfl) (fun j u hj => (hh.box_at (i := 1) (cs := [.int .i64 p3.pfs, .int .i64 p3.obj, .int .i64 p3.off]) (by rfl) 0 j).trans (seg_at (n := 3) (by rfl) hj))) ?_
     refine T.look (.agg #[.int .i64 p4.pfs, .int .i64 p4.obj, .int .i64 p4.off]) (by kernel_rfl) (fun w' hh => exec_loadN (cs := [.int .i64 p4.pfs, .int .i64 p4.obj, .int .i64 p4.off]) rfl rfl (by kernel_rfl) (by kernel_rfl) (fun j u hj => (hh.box_at (i := 0) (cs := [.int .i64 p4.pfs, .int .i64 p4.obj, .int .i64 p4.off]) (by rfl) 0 j).trans (seg_at (n := 3) (by rfl) hj))) ?_
     refine T.pure (.int .i64 r5.1) (by kernel_rfl) (fun _ => by kernel_rfl) ?_
     obtain ⟨r6, hb6, hF⟩ := Option.bind_eq_some_iff.1 hF
     refine T.step (W1.call (vT2 (vSc (eList eElem)) (vSc eInt)) r6 8 #[.slice A1 p0.length c1, .agg #[.int .i64 p3.pfs, .int .i64 p3.obj, .int .i64 p3.off], .agg #[.int .i64 p4.pfs, .int .i64 p4.obj, .int .i64 p4.off], .int .i64 r5.1] (by kernel_rfl) (fun _ => by kernel_rfl) (fun w' hh => run_Range_l F p0 p3 p4 r5.1 r6 hb6 w' A1 c1 (SlOk.mono (SlOk.mono hs1 (View.le_trans (View.le_trans (View.le_trans (View.le_trans hV1 hV2) hV4) hV5) hV6)) hh.view)) ?_)
     intro u V7 hV7 hu
     obtain ⟨u7, u8, rfl, hu7, hu8⟩ := vT2_elim hu
     obtain ⟨A6, c6, rfl, hs6⟩ := vlist_elim hu7
     obtain rfl := sureInt _ _ _ hu8
     refine T.pure (.tuple #[.slice A6 r6.1.length c6, .int .i64 r6.2]) (by kernel_rfl) (fun _ => by kernel_rfl) ?_
     refine T.pure (.slice A6 r6.1.length c6) (by kernel_rfl) (fun _ => by kernel_rfl) ?_
     refine T.pure (.int .i64 r6.2) (by kernel_rfl) (fun _ => by kernel_rfl) ?_
     refine T.pure (.slice A6 r6.1.length c6) (by kernel_rfl) (fun _ => by kernel_rfl) ?_
     refine T.pure (.int .i64 r6.2) (by kernel_rfl) (fun _ => by kernel_rfl) ?_
     refine T.nil ?_
     refine T.seq ?_
     refine T.region ?_
     refine T.pure (.slice A5 r4.1.length c5) (by kernel_rfl) (fun _ => by kernel_rfl) ?_
     refine T.look (.agg #[.int .i64 p3.pfs, .int .i64 p3.obj, .int .i64 p3.off]) (by kernel_rfl) (fun w' hh => exec_loadN (cs := [.int .i64 p3.pfs, .int .i64 p3.obj, .int .i64 p3.off]) rfl rfl (by kernel_rfl) (by kernel_rfl) (fun j u hj => (hh.box_at (i := 1) (cs := [.int .i64 p3.pfs, .int .i64 p3.obj, .int .i64 p3.off]) (by rfl) 0 j).trans (seg_at (n := 3) (by rfl) hj))) ?_
     refine T.look (.agg #[.int .i64 p4.pfs, .int .i64 p4.obj, .int .i64 p4.off]) (by kernel_rfl) (fun w' hh => exec_loadN (cs := [.int .i64 p4.pfs, .int .i64 p4.obj, .int .i64 p4.off]) rfl rfl (by kernel_rfl) (by kernel_rfl) (fun j u hj => (hh.box_at (i := 0) (cs := [.int .i64 p4.pfs, .int .i64 p4.obj, .int .i64 p4.off]) (by rfl) 0 j).trans (seg_at (n := 3) (by rfl) hj))) ?_
     refine T.pure (.int .i64 r5.1) (by kernel_rfl) (fun _ => by kernel_rfl) ?_
     obtain ⟨r7, hb7, hF⟩ := Option.bind_eq_some_iff.1 hF
     refine T.step (W1.call (vT2 (vSc (eList eElem)) (vSc eInt)) r7 8 #[.slice A5 r4.1.length c5, .agg #[.int .i64 p3.pfs, .int .i64 p3.obj, .int .i64 p3.off], .agg #[.int .i64 p4.pfs, .int .i64 p4.obj, .int .i64 p4.off], .int .i64 r5.1] (by kernel_rfl) (fun _ => by kernel_rfl) (fun w' hh => run_Range_l F r4.1 p3 p4 r5.1 r7 hb7 w' A5 c5 (SlOk.mono (SlOk.mono hs5 (View.le_trans (made_le _ _) (View.le_trans hV6 hV7))) hh.view)) ?_)
     intro u V8 hV8 hu
     obtain ⟨u9, u10, rfl, hu9, hu10⟩ := vT2_elim hu
     obtain ⟨A7, c7, rfl, hs7⟩ := vlist_elim hu9
     obtain rfl := sureInt _ _ _ hu10
     refine T.pure (.tuple #[.slice A7 r7.1.length c7, .int .i64 r7.2]) (by kernel_rfl) (fun _ => by kernel_rfl) ?_
     refine T.pure (.slice A7 r7.1.length c7) (by kernel_rfl) (fun _ => by kernel_rfl) ?_
     refine T.pure (.int .i64 r7.2) (by kernel_rfl) (fun _ => by kernel_rfl) ?_
     refine T.pure (.slice A7 r7.1.length c7) (by kernel_rfl) (fun _ => by kernel_rfl) ?_
     refine T.pure (.int .i64 r7.2) (by kernel_rfl) (fun _ => by kernel_rfl) ?_
     refine T.nil ?_
     obtain ⟨z2, hX2, hF⟩ := Option.bind_eq_some_iff.1 hF
     refine T.cut (fun a w' => ∃ (V9 : View), View.le V8 V9 ∧ Fr 87 [(10, .bool z2)] a ∧ Hp w V9 [] w') ?_ ?_
     ·
      refine T.region ?_
      refine T.pure (.int .i64 r6.2) (by kernel_rfl) (fun _ => by kernel_rfl) ?_
      refine T.pure (.int .i64 r7.2) (by kernel_rfl) (fun _ => by kernel_rfl) ?_
      refine T.pure (.bool (r6.2 == r7.2)) (by kernel_rfl) (fun _ => by kernel_rfl) ?_
      refine T.pure (.bool (r6.2 == r7.2)) (by kernel_rfl) (fun _ => by kernel_rfl) ?_
      cases hg4 : (r6.2 == r7.2)
      ·
       skip
       rw [hg4, cond_false] at hX2
       refine T.pass (by kernel_rfl) (by kernel_rfl) ?_
       refine T.pass (by kernel_rfl) (by kernel_rfl) ?_
       refine T.pass (by kernel_rfl) (by kernel_rfl) ?_
       refine T.pure (.bool false) (by kernel_rfl) (fun _ => by kernel_rfl) ?_
       refine T.pure (.bool false) (by kernel_rfl) (fun _ => by kernel_rfl) ?_
       refine T.nil ?_
       cases hX2
       exact fun a w' hf hh => Exists.intro V8 (And.intro (View.le_refl _) (And.intro ((Fr.nil hf).pick hf 10 rfl) (hh.sub (.cons _ (.cons _ List.Sublist.slnil)))))
      ·
       skip
       rw [hg4, cond_true] at hX2
       refine T.pure (.slice A6 r6.1.length c6) (by kernel_rfl) (fun _ => by kernel_rfl) ?_
       refine T.pure (.slice A7 r7.1.length c7) (by kernel_rfl) (fun _ => by kernel_rfl) ?_
       obtain ⟨r8, hb8, hX2⟩ := Option.bind_eq_some_iff.1 hX2
       refine T.step (W1.call (vSc eBool) r8 9 #[.slice A6 r6.1.length c6, .slice A7 r7.1.length c7] (by kernel_rfl) (fun _ => by kernel_rfl) (fun w' hh => slices_Equal_Elem_l F r6.1 r7.1 r8 hb8 w' A6 c6 (SlOk.mono (SlOk.mono hs6 (View.le_trans (made_le _ _) hV8)) hh.view) A7 c7 (SlOk.mono (SlOk.mono hs7 (View.le_trans (made_le _ _) (View.le_refl _))) hh.view)) ?_)
       intro u V10 hV10 hu
       obtain rfl := sureBool _ _ _ hu
       refine T.pure (.bool r8) (by kernel_rfl) (fun _ => by kernel_rfl) ?_
       refine T.pure (.bool r8) (by kernel_rfl) (fun _ => by kernel_rfl) ?_
       refine T.nil ?_
       cases hX2
       exact fun a w' hf hh => Exists.intro V10 (And.intro hV10 (And.intro ((Fr.nil hf).pick hf 10 rfl) (hh.sub (.cons _ (.cons _ List.Sublist.slnil)))))
     ·
      rintro a w' ⟨V9, hV9, hf, hh⟩
      refine (?_ : T 87 w V9 [] [(10, .bool z2)] _) a w' hf hh
      clear hf hh
      cases hF
      refine T.ret rfl ?_
      exact T.ret1 rfl (ResIs.tmp rfl) fun w' hh => ⟨_, rfl, hh.below, (show _ from rfl)⟩

end Go.Proofs.Ytaodaihoglcinad
