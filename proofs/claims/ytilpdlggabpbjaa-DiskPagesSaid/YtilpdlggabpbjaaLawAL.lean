/- The Go functions of group LawA compute the pure functions of that group: written by walkgen.py. Condition of each: the pure function yields a result. -/
import Derived.Test.YtilpdlggabpbjaaDiskL
import Derived.Test.YtilpdlggabpbjaaLawAF
import Derived.Test.YtilpdlggabpbjaaEqL
namespace Go.Proofs.Ytilpdlggabpbjaa
set_option linter.unusedVariables false

set_option maxRecDepth 100000 in
set_option maxHeartbeats 4000000 in
theorem annalkeep_DiskApart_l (p0 : DDisk) (p1 : Int) (p2 : Int) (p3 : ByteArray) (p4 : ByteArray) (r : Bool) (hF : annalkeep_DiskApart p0 p1 p2 p3 p4 = some r) (w : World) (A1 : Option Addr) (c1 : Nat) (hs1 : SlOk (vw w) eStr A1 c1 p0.pages) (A2 : Option Addr) (c2 : Nat) (hs2 : SlOk (vw w) eWrite A2 c2 p0.writes) :
    Calls Try.prog 3 #[.agg #[.slice A1 p0.pages.length c1, .slice A2 p0.writes.length c2], .int .i64 p1, .int .i64 p2, .string p3, .string p4] w (Post (vSc eBool) r w) := by
  unfold annalkeep_DiskApart at hF
  refine T.start (l := [.agg #[.slice A1 p0.pages.length c1, .slice A2 p0.writes.length c2], .int .i64 p1, .int .i64 p2, .string p3, .string p4]) Try.func3 rfl rfl rfl ?_
  refine T.seq ?_
  refine T.region ?_
  refine T.step (W1.new 25 [.slice A1 p0.pages.length c1, .slice A2 p0.writes.length c2] (fun b => .pointer (some ⟨b, 0, none⟩)) (by kernel_rfl) (fun _ => by kernel_rfl) (fun b1 => ?_))
  refine T.pure (.bool false) (by kernel_rfl) (fun _ => by kernel_rfl) ?_
  refine T.nil ?_
  refine T.seq ?_
  refine T.region ?_
  refine T.step (W1.new 9 [.string (ByteArray.mk #[97]), .string (ByteArray.mk #[98])] (fun b => .slice (some ⟨b, 0, none⟩) 2 2) (by kernel_rfl) (fun _ => by kernel_rfl) (fun b2 => ?_))
  refine T.pure (.agg #[.slice (some ⟨b2, 0, none⟩) 2 2, .slice none 0 0]) (by kernel_rfl) (fun _ => by kernel_rfl) ?_
  obtain ⟨r1, hb1, hF⟩ := Option.bind_eq_some_iff.1 hF
  refine T.step (W1.call (vT2 (vAg eDisk) (vSc eInt)) r1 11 #[.agg #[.slice (some ⟨b2, 0, none⟩) 2 2, .slice none 0 0], .int .i64 1, .string (ByteArray.mk #[99])] (by kernel_rfl) (fun _ => by kernel_rfl) (fun w' hh => disk_Put_l (DDisk.mk [(ByteArray.mk #[97]), (ByteArray.mk #[98])] []) 1 (ByteArray.mk #[99]) r1 hb1 w' (some ⟨b2, 0, none⟩) 2 (slok_lit (E := eStr) (f := (fun x => [.string x])) [(ByteArray.mk #[97]), (ByteArray.mk #[98])] (fun _ _ => rfl) (Nat.le_of_ble_eq_true (by rfl)) (fun j => hh.cellBox (i := 0) (by rfl) j)) none 0 (SlOk.nil _ _)) ?_)
  intro u V1 hV1 hu
  obtain ⟨u1, u2, rfl, hu1, hu2⟩ := vT2_elim hu
  obtain ⟨cs1, rfl, hr1⟩ := vagg_elim hu1
  obtain ⟨A3, c3, A4, c4, rfl, hs3, hs4⟩ := hr1
  obtain rfl := sureInt _ _ _ hu2
  refine T.pure (.tuple #[.agg #[.slice A3 r1.1.pages.length c3, .slice A4 r1.1.writes.length c4], .int .i64 r1.2]) (by kernel_rfl) (fun _ => by kernel_rfl) ?_
  refine T.pure (.agg #[.slice A3 r1.1.pages.length c3, .slice A4 r1.1.writes.length c4]) (by kernel_rfl) (fun _ => by kernel_rfl) ?_
  refine T.pure (.int .i64 r1.2) (by kernel_rfl) (fun _ => by kernel_rfl) ?_
  refine T.step (W1.new 25 [.slice none 0 0, .slice none 0 0] (fun b => .pointer (some ⟨b, 0, none⟩)) (by kernel_rfl) (fun _ => by kernel_rfl) (fun b3 => ?_))
  refine T.step (W1.store 0 [.slice A3 r1.1.pages.length c3, .slice A4 r1.1.writes.length c4] [box b3 25 [.slice A3 r1.1.pages.length c3, .slice A4 r1.1.writes.length c4], box b2 9 [.string (ByteArray.mk #[97]), .string (ByteArray.mk #[98])], box b1 25 [.slice A1 p0.pages.length c1, .slice A2 p0.writes.length c2]] (by rfl) rfl (by kernel_rfl) (fun w' hw => exec_store (vs := [.slice A3 r1.1.pages.length c3, .slice A4 r1.1.writes.length c4]) rfl rfl rfl rfl (by kernel_rfl) (one_of rfl) (by simp) rfl hw) ?_)
  refine T.pure (.int .i64 r1.2) (by kernel_rfl) (fun _ => by kernel_rfl) ?_
  refine T.nil ?_
  refine T.seq ?_
  refine T.seq ?_
  refine T.region ?_
  refine T.look (.agg #[.slice A3 r1.1.pages.length c3, .slice A4 r1.1.writes.length c4]) (by kernel_rfl) (fun w' hh => exec_loadN (cs := [.slice A3 r1.1.pages.length c3, .slice A4 r1.1.writes.length c4]) rfl rfl (by kernel_rfl) (by kernel_rfl) (fun j u hj => (hh.box_at (i := 0) (cs := [.slice A3 r1.1.pages.length c3, .slice A4 r1.1.writes.length c4]) (by rfl) 0 j).trans (seg_at (n := 2) rfl hj))) ?_
  obtain ⟨r2, hb2, hF⟩ := Option.bind_eq_some_iff.1 hF
  refine T.step (W1.call (vT2 (vSc eStr) (vSc eInt)) r2 12 #[.agg #[.slice A3 r1.1.pages.length c3, .slice A4 r1.1.writes.length c4], .int .i64 0] (by kernel_rfl) (fun _ => by kernel_rfl) (fun w' hh => disk_Read_l r1.1 0 r2 hb2 w' A3 c3 (SlOk.mono (SlOk.mono hs3 (View.le_trans (made_le _ _) (View.le_refl _))) hh.view) A4 c4 (SlOk.mono (SlOk.mono hs4 (View.le_trans (made_le _ _) (View.le_refl _))) hh.view)) ?_)
  intro u V2 hV2 hu
  obtain rfl := (Sure.t2 sureStr sureInt) _ _ _ hu
  refine T.pure (.tuple #[.string r2.1, .int .i64 r2.2]) (by kernel_rfl) (fun _ => by kernel_rfl) ?_
  refine T.pure (.string r2.1) (by kernel_rfl) (fun _ => by kernel_rfl) ?_
  refine T.pure (.int .i64 r2.2) (by kernel_rfl) (fun _ => by kernel_rfl) ?_
  refine T.pure (.string r2.1) (by kernel_rfl) (fun _ => by kernel_rfl) ?_
  refine T.pure (.int .i64 r2.2) (by kernel_rfl) (fun _ => by kernel_rfl) ?_
  refine T.nil ?_
  refine T.cut (fun a w' => Fr 169 [(1, .int .i64 p1), (2, .int .i64 p2), (3, .string p3), (4, .string p4), (5, .pointer (some ⟨b1, 0, none⟩)), (11, .pointer (some ⟨b3, 0, none⟩)), (47, .bool ((r1.2 != 0) || ((r2.2 != 0) || (!(seq r2.1 (ByteArray.mk #[97]))))))] a ∧ Hp w V2 [box b3 25 [.slice A3 r1.1.pages.length c3, .slice A4 r1.1.writes.length c4], box b1 25 [.slice A1 p0.pages.length c1, .slice A2 p0.writes.length c2]] w') ?_ ?_
  ·
    refine T.region ?_
    refine T.pure (.int .i64 r1.2) (by kernel_rfl) (fun _ => by kernel_rfl) ?_
    refine T.pure (.bool (r1.2 != 0)) (by kernel_rfl) (fun _ => by kernel_rfl) ?_
    refine T.pure (.bool (r1.2 != 0)) (by kernel_rfl) (fun _ => by kernel_rfl) ?_
    cases hg1 : (r1.2 != 0)
    ·
      skip
      refine T.pure (.int .i64 r2.2) (by kernel_rfl) (fun _ => by kernel_rfl) ?_
      refine T.pure (.bool (r2.2 != 0)) (by kernel_rfl) (fun _ => by kernel_rfl) ?_
      refine T.pure (.bool (r2.2 != 0)) (by kernel_rfl) (fun _ => by kernel_rfl) ?_
      refine T.pure (.bool (r2.2 != 0)) (by kernel_rfl) (fun _ => by kernel_rfl) ?_
      cases hg2 : (r2.2 != 0)
      ·
        skip
        refine T.pure (.string r2.1) (by kernel_rfl) (fun _ => by kernel_rfl) ?_
        refine T.pure (.bool (!(seq r2.1 (ByteArray.mk #[97])))) (by kernel_rfl) (fun _ => by kernel_rfl) ?_
        refine T.pure (.bool (!(seq r2.1 (ByteArray.mk #[97])))) (by kernel_rfl) (fun _ => by kernel_rfl) ?_
        refine T.nil ?_
        exact fun a w' hf hh => And.intro ((((((((Fr.nil hf).pick hf 47 rfl).pick hf 11 rfl).pick hf 5 rfl).pick hf 4 rfl).pick hf 3 rfl).pick hf 2 rfl).pick hf 1 rfl) (hh.sub (.cons_cons _ (.cons _ (.cons_cons _ List.Sublist.slnil))))
      ·
        skip
        refine T.pass (by kernel_rfl) (by kernel_rfl) ?_
        refine T.pass (by kernel_rfl) (by kernel_rfl) ?_
        refine T.pure (.bool true) (by kernel_rfl) (fun _ => by kernel_rfl) ?_
        refine T.nil ?_
        exact fun a w' hf hh => And.intro ((((((((Fr.nil hf).pick hf 47 rfl).pick hf 11 rfl).pick hf 5 rfl).pick hf 4 rfl).pick hf 3 rfl).pick hf 2 rfl).pick hf 1 rfl) (hh.sub (.cons_cons _ (.cons _ (.cons_cons _ List.Sublist.slnil))))
    ·
      skip
      refine T.pass (by kernel_rfl) (by kernel_rfl) ?_
      refine T.pass (by kernel_rfl) (by kernel_rfl) ?_
      refine T.pure (.bool true) (by kernel_rfl) (fun _ => by kernel_rfl) ?_
      refine T.pure (.bool true) (by kernel_rfl) (fun _ => by kernel_rfl) ?_
      refine T.pass (by kernel_rfl) (by kernel_rfl) ?_
      refine T.pass (by kernel_rfl) (by kernel_rfl) ?_
      refine T.pure (.bool true) (by kernel_rfl) (fun _ => by kernel_rfl) ?_
      refine T.nil ?_
      exact fun a w' hf hh => And.intro ((((((((Fr.nil hf).pick hf 47 rfl).pick hf 11 rfl).pick hf 5 rfl).pick hf 4 rfl).pick hf 3 rfl).pick hf 2 rfl).pick hf 1 rfl) (hh.sub (.cons_cons _ (.cons _ (.cons_cons _ List.Sublist.slnil))))
  ·
    rintro a w' ⟨hf, hh⟩
    refine (?_ : T 169 w V2 [box b3 25 [.slice A3 r1.1.pages.length c3, .slice A4 r1.1.writes.length c4], box b1 25 [.slice A1 p0.pages.length c1, .slice A2 p0.writes.length c2]] [(1, .int .i64 p1), (2, .int .i64 p2), (3, .string p3), (4, .string p4), (5, .pointer (some ⟨b1, 0, none⟩)), (11, .pointer (some ⟨b3, 0, none⟩)), (47, .bool ((r1.2 != 0) || ((r2.2 != 0) || (!(seq r2.1 (ByteArray.mk #[97]))))))] _) a w' hf hh
    clear hf hh
    refine T.cond ((r1.2 != 0) || ((r2.2 != 0) || (!(seq r2.1 (ByteArray.mk #[97]))))) (by kernel_rfl) (by kernel_rfl) (fun hc1 => ?_) (fun hc1 => ?_)
    ·
      rw [hc1, cond_true] at hF
      refine T.seq ?_
      refine T.region ?_
      refine T.pure (.bool false) (by kernel_rfl) (fun _ => by kernel_rfl) ?_
      refine T.nil ?_
      cases hF
      refine T.ret rfl ?_
      exact T.ret1 rfl (ResIs.tmp rfl) fun w' hh => ⟨_, rfl, hh.below, (show _ from rfl)⟩
    ·
      rw [hc1, cond_false] at hF
      refine T.skip_code ?_
      refine T.seq ?_
      refine T.region ?_
      refine T.look (.agg #[.slice A1 p0.pages.length c1, .slice A2 p0.writes.length c2]) (by kernel_rfl) (fun w' hh => exec_loadN (cs := [.slice A1 p0.pages.length c1, .slice A2 p0.writes.length c2]) rfl rfl (by kernel_rfl) (by kernel_rfl) (fun j u hj => (hh.box_at (i := 1) (cs := [.slice A1 p0.pages.length c1, .slice A2 p0.writes.length c2]) (by rfl) 0 j).trans (seg_at (n := 2) rfl hj))) ?_
      refine T.pure (.int .i64 p1) (by kernel_rfl) (fun _ => by kernel_rfl) ?_
      refine T.pure (.string p3) (by kernel_rfl) (fun _ => by kernel_rfl) ?_
      obtain ⟨r3, hb3, hF⟩ := Option.bind_eq_some_iff.1 hF
      refine T.step (W1.call (vT2 (vAg eDisk) (vSc eInt)) r3 11 #[.agg #[.slice A1 p0.pages.length c1, .slice A2 p0.writes.length c2], .int .i64 p1, .string p3] (by kernel_rfl) (fun _ => by kernel_rfl) (fun w' hh => disk_Put_l p0 p1 p3 r3 hb3 w' A1 c1 (SlOk.mono (SlOk.mono hs1 (View.le_trans hV1 hV2)) hh.view) A2 c2 (SlOk.mono (SlOk.mono hs2 (View.le_trans hV1 hV2)) hh.view)) ?_)
      intro u V3 hV3 hu
      obtain ⟨u3, u4, rfl, hu3, hu4⟩ := vT2_elim hu
      obtain ⟨cs2, rfl, hr2⟩ := vagg_elim hu3
      obtain ⟨A5, c5, A6, c6, rfl, hs5, hs6⟩ := hr2
      obtain rfl := sureInt _ _ _ hu4
      refine T.pure (.tuple #[.agg #[.slice A5 r3.1.pages.length c5, .slice A6 r3.1.writes.length c6], .int .i64 r3.2]) (by kernel_rfl) (fun _ => by kernel_rfl) ?_
      refine T.pure (.agg #[.slice A5 r3.1.pages.length c5, .slice A6 r3.1.writes.length c6]) (by kernel_rfl) (fun _ => by kernel_rfl) ?_
      refine T.pure (.int .i64 r3.2) (by kernel_rfl) (fun _ => by kernel_rfl) ?_
      refine T.step (W1.new 25 [.slice none 0 0, .slice none 0 0] (fun b => .pointer (some ⟨b, 0, none⟩)) (by kernel_rfl) (fun _ => by kernel_rfl) (fun b4 => ?_))
      refine T.step (W1.store 0 [.slice A5 r3.1.pages.length c5, .slice A6 r3.1.writes.length c6] [box b4 25 [.slice A5 r3.1.pages.length c5, .slice A6 r3.1.writes.length c6], box b3 25 [.slice A3 r1.1.pages.length c3, .slice A4 r1.1.writes.length c4], box b1 25 [.slice A1 p0.pages.length c1, .slice A2 p0.writes.length c2]] (by rfl) rfl (by kernel_rfl) (fun w' hw => exec_store (vs := [.slice A5 r3.1.pages.length c5, .slice A6 r3.1.writes.length c6]) rfl rfl rfl rfl (by kernel_rfl) (one_of rfl) (by simp) rfl hw) ?_)
      refine T.pure (.int .i64 r3.2) (by kernel_rfl) (fun _ => by kernel_rfl) ?_
      refine T.nil ?_
      refine T.seq ?_
      refine T.seq ?_
      refine T.region ?_
      refine T.pure (.int .i64 r3.2) (by kernel_rfl) (fun _ => by kernel_rfl) ?_
      refine T.pure (.bool (r3.2 != 0)) (by kernel_rfl) (fun _ => by kernel_rfl) ?_
      refine T.nil ?_
      refine T.cond (r3.2 != 0) (by kernel_rfl) (by kernel_rfl) (fun hc2 => ?_) (fun hc2 => ?_)
      ·
        rw [hc2, cond_true] at hF
        refine T.seq ?_
        refine T.region ?_
        refine T.look (.agg #[.slice A5 r3.1.pages.length c5, .slice A6 r3.1.writes.length c6]) (by kernel_rfl) (fun w' hh => exec_loadN (cs := [.slice A5 r3.1.pages.length c5, .slice A6 r3.1.writes.length c6]) rfl rfl (by kernel_rfl) (by kernel_rfl) (fun j u hj => (hh.box_at (i := 0) (cs := [.slice A5 r3.1.pages.length c5, .slice A6 r3.1.writes.length c6]) (by rfl) 0 j).trans (seg_at (n := 2) rfl hj))) ?_
        refine T.pure (.agg #[.slice none 0 0, .slice none 0 0]) (by kernel_rfl) (fun _ => by kernel_rfl) ?_
        obtain ⟨r4, hb4, hF⟩ := Option.bind_eq_some_iff.1 hF
        refine T.step (W1.call (vSc eBool) r4 13 #[.agg #[.slice A5 r3.1.pages.length c5, .slice A6 r3.1.writes.length c6], .agg #[.slice none 0 0, .slice none 0 0]] (by kernel_rfl) (fun _ => by kernel_rfl) (fun w' hh => annalref_SameDisk_l r3.1 (DDisk.mk [] []) r4 hb4 w' A5 c5 (SlOk.mono (SlOk.mono hs5 (View.le_trans (made_le _ _) (View.le_refl _))) hh.view) A6 c6 (SlOk.mono (SlOk.mono hs6 (View.le_trans (made_le _ _) (View.le_refl _))) hh.view) none 0 (SlOk.nil _ _) none 0 (SlOk.nil _ _)) ?_)
        intro u V4 hV4 hu
        obtain rfl := sureBool _ _ _ hu
        refine T.pure (.bool r4) (by kernel_rfl) (fun _ => by kernel_rfl) ?_
        refine T.nil ?_
        cases hF
        refine T.ret rfl ?_
        exact T.ret1 rfl (ResIs.tmp rfl) fun w' hh => ⟨_, rfl, hh.below, (show _ from rfl)⟩
      ·
        rw [hc2, cond_false] at hF
        refine T.skip_code ?_
        refine T.seq ?_
        refine T.region ?_
        refine T.look (.agg #[.slice A5 r3.1.pages.length c5, .slice A6 r3.1.writes.length c6]) (by kernel_rfl) (fun w' hh => exec_loadN (cs := [.slice A5 r3.1.pages.length c5, .slice A6 r3.1.writes.length c6]) rfl rfl (by kernel_rfl) (by kernel_rfl) (fun j u hj => (hh.box_at (i := 0) (cs := [.slice A5 r3.1.pages.length c5, .slice A6 r3.1.writes.length c6]) (by rfl) 0 j).trans (seg_at (n := 2) rfl hj))) ?_
        refine T.pure (.int .i64 p2) (by kernel_rfl) (fun _ => by kernel_rfl) ?_
        refine T.pure (.string p4) (by kernel_rfl) (fun _ => by kernel_rfl) ?_
        obtain ⟨r5, hb5, hF⟩ := Option.bind_eq_some_iff.1 hF
        refine T.step (W1.call (vT2 (vAg eDisk) (vSc eInt)) r5 11 #[.agg #[.slice A5 r3.1.pages.length c5, .slice A6 r3.1.writes.length c6], .int .i64 p2, .string p4] (by kernel_rfl) (fun _ => by kernel_rfl) (fun w' hh => disk_Put_l r3.1 p2 p4 r5 hb5 w' A5 c5 (SlOk.mono (SlOk.mono hs5 (View.le_trans (made_le _ _) (View.le_refl _))) hh.view) A6 c6 (SlOk.mono (SlOk.mono hs6 (View.le_trans (made_le _ _) (View.le_refl _))) hh.view)) ?_)
        intro u V5 hV5 hu
        obtain ⟨u5, u6, rfl, hu5, hu6⟩ := vT2_elim hu
        obtain ⟨cs3, rfl, hr3⟩ := vagg_elim hu5
        obtain ⟨A7, c7, A8, c8, rfl, hs7, hs8⟩ := hr3
        obtain rfl := sureInt _ _ _ hu6
        refine T.pure (.tuple #[.agg #[.slice A7 r5.1.pages.length c7, .slice A8 r5.1.writes.length c8], .int .i64 r5.2]) (by kernel_rfl) (fun _ => by kernel_rfl) ?_
        refine T.pure (.agg #[.slice A7 r5.1.pages.length c7, .slice A8 r5.1.writes.length c8]) (by kernel_rfl) (fun _ => by kernel_rfl) ?_
        refine T.pure (.int .i64 r5.2) (by kernel_rfl) (fun _ => by kernel_rfl) ?_
        refine T.step (W1.new 25 [.slice none 0 0, .slice none 0 0] (fun b => .pointer (some ⟨b, 0, none⟩)) (by kernel_rfl) (fun _ => by kernel_rfl) (fun b5 => ?_))
        refine T.step (W1.store 0 [.slice A7 r5.1.pages.length c7, .slice A8 r5.1.writes.length c8] [box b5 25 [.slice A7 r5.1.pages.length c7, .slice A8 r5.1.writes.length c8], box b4 25 [.slice A5 r3.1.pages.length c5, .slice A6 r3.1.writes.length c6], box b3 25 [.slice A3 r1.1.pages.length c3, .slice A4 r1.1.writes.length c4], box b1 25 [.slice A1 p0.pages.length c1, .slice A2 p0.writes.length c2]] (by rfl) rfl (by kernel_rfl) (fun w' hw => exec_store (vs := [.slice A7 r5.1.pages.length c7, .slice A8 r5.1.writes.length c8]) rfl rfl rfl rfl (by kernel_rfl) (one_of rfl) (by simp) rfl hw) ?_)
        refine T.pure (.int .i64 r5.2) (by kernel_rfl) (fun _ => by kernel_rfl) ?_
        refine T.nil ?_
        refine T.seq ?_
        refine T.region ?_
        refine T.look (.agg #[.slice A1 p0.pages.length c1, .slice A2 p0.writes.length c2]) (by kernel_rfl) (fun w' hh => exec_loadN (cs := [.slice A1 p0.pages.length c1, .slice A2 p0.writes.length c2]) rfl rfl (by kernel_rfl) (by kernel_rfl) (fun j u hj => (hh.box_at (i := 3) (cs := [.slice A1 p0.pages.length c1, .slice A2 p0.writes.length c2]) (by rfl) 0 j).trans (seg_at (n := 2) rfl hj))) ?_
        refine T.pure (.int .i64 p2) (by kernel_rfl) (fun _ => by kernel_rfl) ?_
        refine T.pure (.string p4) (by kernel_rfl) (fun _ => by kernel_rfl) ?_
        obtain ⟨r6, hb6, hF⟩ := Option.bind_eq_some_iff.1 hF
        refine T.step (W1.call (vT2 (vAg eDisk) (vSc eInt)) r6 11 #[.agg #[.slice A1 p0.pages.length c1, .slice A2 p0.writes.length c2], .int .i64 p2, .string p4] (by kernel_rfl) (fun _ => by kernel_rfl) (fun w' hh => disk_Put_l p0 p2 p4 r6 hb6 w' A1 c1 (SlOk.mono (SlOk.mono hs1 (View.le_trans (View.le_trans (View.le_trans hV1 hV2) hV3) hV5)) hh.view) A2 c2 (SlOk.mono (SlOk.mono hs2 (View.le_trans (View.le_trans (View.le_trans hV1 hV2) hV3) hV5)) hh.view)) ?_)
        intro u V6 hV6 hu
        obtain ⟨u7, u8, rfl, hu7, hu8⟩ := vT2_elim hu
        obtain ⟨cs4, rfl, hr4⟩ := vagg_elim hu7
        obtain ⟨A9, c9, A10, c10, rfl, hs9, hs10⟩ := hr4
        obtain rfl := sureInt _ _ _ hu8
        refine T.pure (.tuple #[.agg #[.slice A9 r6.1.pages.length c9, .slice A10 r6.1.writes.length c10], .int .i64 r6.2]) (by kernel_rfl) (fun _ => by kernel_rfl) ?_
        refine T.pure (.agg #[.slice A9 r6.1.pages.length c9, .slice A10 r6.1.writes.length c10]) (by kernel_rfl) (fun _ => by kernel_rfl) ?_
        refine T.pure (.int .i64 r6.2) (by kernel_rfl) (fun _ => by kernel_rfl) ?_
        refine T.step (W1.new 25 [.slice none 0 0, .slice none 0 0] (fun b => .pointer (some ⟨b, 0, none⟩)) (by kernel_rfl) (fun _ => by kernel_rfl) (fun b6 => ?_))
        refine T.step (W1.store 0 [.slice A9 r6.1.pages.length c9, .slice A10 r6.1.writes.length c10] [box b6 25 [.slice A9 r6.1.pages.length c9, .slice A10 r6.1.writes.length c10], box b5 25 [.slice A7 r5.1.pages.length c7, .slice A8 r5.1.writes.length c8], box b4 25 [.slice A5 r3.1.pages.length c5, .slice A6 r3.1.writes.length c6], box b3 25 [.slice A3 r1.1.pages.length c3, .slice A4 r1.1.writes.length c4], box b1 25 [.slice A1 p0.pages.length c1, .slice A2 p0.writes.length c2]] (by rfl) rfl (by kernel_rfl) (fun w' hw => exec_store (vs := [.slice A9 r6.1.pages.length c9, .slice A10 r6.1.writes.length c10]) rfl rfl rfl rfl (by kernel_rfl) (one_of rfl) (by simp) rfl hw) ?_)
        refine T.pure (.int .i64 r6.2) (by kernel_rfl) (fun _ => by kernel_rfl) ?_
        refine T.nil ?_
        refine T.seq ?_
        refine T.cut (fun a w' => Fr 169 [(1, .int .i64 p1), (2, .int .i64 p2), (3, .string p3), (4, .string p4), (5, .pointer (some ⟨b1, 0, none⟩)), (11, .pointer (some ⟨b3, 0, none⟩)), (16, .pointer (some ⟨b5, 0, none⟩)), (18, .pointer (some ⟨b6, 0, none⟩)), (84, .bool ((r5.2 != 0) || ((r6.2 != 0) || (p1 == p2))))] a ∧ Hp w V6 [box b6 25 [.slice A9 r6.1.pages.length c9, .slice A10 r6.1.writes.length c10], box b5 25 [.slice A7 r5.1.pages.length c7, .slice A8 r5.1.writes.length c8], box b3 25 [.slice A3 r1.1.pages.length c3, .slice A4 r1.1.writes.length c4], box b1 25 [.slice A1 p0.pages.length c1, .slice A2 p0.writes.length c2]] w') ?_ ?_
        ·
          refine T.region ?_
          refine T.pure (.int .i64 r5.2) (by kernel_rfl) (fun _ => by kernel_rfl) ?_
          refine T.pure (.bool (r5.2 != 0)) (by kernel_rfl) (fun _ => by kernel_rfl) ?_
          refine T.pure (.bool (r5.2 != 0)) (by kernel_rfl) (fun _ => by kernel_rfl) ?_
          cases hg3 : (r5.2 != 0)
          ·
            skip
            refine T.pure (.int .i64 r6.2) (by kernel_rfl) (fun _ => by kernel_rfl) ?_
            refine T.pure (.bool (r6.2 != 0)) (by kernel_rfl) (fun _ => by kernel_rfl) ?_
            refine T.pure (.bool (r6.2 != 0)) (by kernel_rfl) (fun _ => by kernel_rfl) ?_
            refine T.pure (.bool (r6.2 != 0)) (by kernel_rfl) (fun _ => by kernel_rfl) ?_
            cases hg4 : (r6.2 != 0)
            ·
              skip
              refine T.pure (.int .i64 p1) (by kernel_rfl) (fun _ => by kernel_rfl) ?_
              refine T.pure (.int .i64 p2) (by kernel_rfl) (fun _ => by kernel_rfl) ?_
              refine T.pure (.bool (p1 == p2)) (by kernel_rfl) (fun _ => by kernel_rfl) ?_
              refine T.pure (.bool (p1 == p2)) (by kernel_rfl) (fun _ => by kernel_rfl) ?_
              refine T.nil ?_
              exact fun a w' hf hh => And.intro ((((((((((Fr.nil hf).pick hf 84 rfl).pick hf 18 rfl).pick hf 16 rfl).pick hf 11 rfl).pick hf 5 rfl).pick hf 4 rfl).pick hf 3 rfl).pick hf 2 rfl).pick hf 1 rfl) (hh.sub (.cons_cons _ (.cons_cons _ (.cons _ (.cons_cons _ (.cons_cons _ List.Sublist.slnil))))))
            ·
              skip
              refine T.pass (by kernel_rfl) (by kernel_rfl) ?_
              refine T.pass (by kernel_rfl) (by kernel_rfl) ?_
              refine T.pass (by kernel_rfl) (by kernel_rfl) ?_
              refine T.pure (.bool true) (by kernel_rfl) (fun _ => by kernel_rfl) ?_
              refine T.nil ?_
              exact fun a w' hf hh => And.intro ((((((((((Fr.nil hf).pick hf 84 rfl).pick hf 18 rfl).pick hf 16 rfl).pick hf 11 rfl).pick hf 5 rfl).pick hf 4 rfl).pick hf 3 rfl).pick hf 2 rfl).pick hf 1 rfl) (hh.sub (.cons_cons _ (.cons_cons _ (.cons _ (.cons_cons _ (.cons_cons _ List.Sublist.slnil))))))
          ·
            skip
            refine T.pass (by kernel_rfl) (by kernel_rfl) ?_
            refine T.pass (by kernel_rfl) (by kernel_rfl) ?_
            refine T.pure (.bool true) (by kernel_rfl) (fun _ => by kernel_rfl) ?_
            refine T.pure (.bool true) (by kernel_rfl) (fun _ => by kernel_rfl) ?_
            refine T.pass (by kernel_rfl) (by kernel_rfl) ?_
            refine T.pass (by kernel_rfl) (by kernel_rfl) ?_
            refine T.pass (by kernel_rfl) (by kernel_rfl) ?_
            refine T.pure (.bool true) (by kernel_rfl) (fun _ => by kernel_rfl) ?_
            refine T.nil ?_
            exact fun a w' hf hh => And.intro ((((((((((Fr.nil hf).pick hf 84 rfl).pick hf 18 rfl).pick hf 16 rfl).pick hf 11 rfl).pick hf 5 rfl).pick hf 4 rfl).pick hf 3 rfl).pick hf 2 rfl).pick hf 1 rfl) (hh.sub (.cons_cons _ (.cons_cons _ (.cons _ (.cons_cons _ (.cons_cons _ List.Sublist.slnil))))))
        ·
          rintro a w' ⟨hf, hh⟩
          refine (?_ : T 169 w V6 [box b6 25 [.slice A9 r6.1.pages.length c9, .slice A10 r6.1.writes.length c10], box b5 25 [.slice A7 r5.1.pages.length c7, .slice A8 r5.1.writes.length c8], box b3 25 [.slice A3 r1.1.pages.length c3, .slice A4 r1.1.writes.length c4], box b1 25 [.slice A1 p0.pages.length c1, .slice A2 p0.writes.length c2]] [(1, .int .i64 p1), (2, .int .i64 p2), (3, .string p3), (4, .string p4), (5, .pointer (some ⟨b1, 0, none⟩)), (11, .pointer (some ⟨b3, 0, none⟩)), (16, .pointer (some ⟨b5, 0, none⟩)), (18, .pointer (some ⟨b6, 0, none⟩)), (84, .bool ((r5.2 != 0) || ((r6.2 != 0) || (p1 == p2))))] _) a w' hf hh
          clear hf hh
          refine T.cond ((r5.2 != 0) || ((r6.2 != 0) || (p1 == p2))) (by kernel_rfl) (by kernel_rfl) (fun hc3 => ?_) (fun hc3 => ?_)
          ·
            rw [hc3, cond_true] at hF
            refine T.seq ?_
            refine T.region ?_
            refine T.pure (.bool true) (by kernel_rfl) (fun _ => by kernel_rfl) ?_
            refine T.nil ?_
            cases hF
            refine T.ret rfl ?_
            exact T.ret1 rfl (ResIs.tmp rfl) fun w' hh => ⟨_, rfl, hh.below, (show _ from rfl)⟩
          ·
            rw [hc3, cond_false] at hF
            refine T.skip_code ?_
            refine T.seq ?_
            refine T.region ?_
            refine T.look (.agg #[.slice A9 r6.1.pages.length c9, .slice A10 r6.1.writes.length c10]) (by kernel_rfl) (fun w' hh => exec_loadN (cs := [.slice A9 r6.1.pages.length c9, .slice A10 r6.1.writes.length c10]) rfl rfl (by kernel_rfl) (by kernel_rfl) (fun j u hj => (hh.box_at (i := 0) (cs := [.slice A9 r6.1.pages.length c9, .slice A10 r6.1.writes.length c10]) (by rfl) 0 j).trans (seg_at (n := 2) rfl hj))) ?_
            refine T.pure (.int .i64 p1) (by kernel_rfl) (fun _ => by kernel_rfl) ?_
            refine T.pure (.string p3) (by kernel_rfl) (fun _ => by kernel_rfl) ?_
            obtain ⟨r7, hb7, hF⟩ := Option.bind_eq_some_iff.1 hF
            refine T.step (W1.call (vT2 (vAg eDisk) (vSc eInt)) r7 11 #[.agg #[.slice A9 r6.1.pages.length c9, .slice A10 r6.1.writes.length c10], .int .i64 p1, .string p3] (by kernel_rfl) (fun _ => by kernel_rfl) (fun w' hh => disk_Put_l r6.1 p1 p3 r7 hb7 w' A9 c9 (SlOk.mono (SlOk.mono hs9 (View.le_trans (made_le _ _) (View.le_refl _))) hh.view) A10 c10 (SlOk.mono (SlOk.mono hs10 (View.le_trans (made_le _ _) (View.le_refl _))) hh.view)) ?_)
            intro u V7 hV7 hu
            obtain ⟨u9, u10, rfl, hu9, hu10⟩ := vT2_elim hu
            obtain ⟨cs5, rfl, hr5⟩ := vagg_elim hu9
            obtain ⟨A11, c11, A12, c12, rfl, hs11, hs12⟩ := hr5
            obtain rfl := sureInt _ _ _ hu10
            refine T.pure (.tuple #[.agg #[.slice A11 r7.1.pages.length c11, .slice A12 r7.1.writes.length c12], .int .i64 r7.2]) (by kernel_rfl) (fun _ => by kernel_rfl) ?_
            refine T.pure (.agg #[.slice A11 r7.1.pages.length c11, .slice A12 r7.1.writes.length c12]) (by kernel_rfl) (fun _ => by kernel_rfl) ?_
            refine T.pure (.int .i64 r7.2) (by kernel_rfl) (fun _ => by kernel_rfl) ?_
            refine T.step (W1.store 2 [.slice A11 r7.1.pages.length c11, .slice A12 r7.1.writes.length c12] [box b6 25 [.slice A9 r6.1.pages.length c9, .slice A10 r6.1.writes.length c10], box b5 25 [.slice A7 r5.1.pages.length c7, .slice A8 r5.1.writes.length c8], box b3 25 [.slice A11 r7.1.pages.length c11, .slice A12 r7.1.writes.length c12], box b1 25 [.slice A1 p0.pages.length c1, .slice A2 p0.writes.length c2]] (by rfl) rfl (by kernel_rfl) (fun w' hw => exec_store (vs := [.slice A11 r7.1.pages.length c11, .slice A12 r7.1.writes.length c12]) rfl rfl rfl rfl (by kernel_rfl) (one_of rfl) (by simp) rfl hw) ?_)
            refine T.pure (.int .i64 r7.2) (by kernel_rfl) (fun _ => by kernel_rfl) ?_
            refine T.nil ?_
            refine T.seq ?_
            refine T.seq ?_
            refine T.region ?_
            refine T.pure (.int .i64 r7.2) (by kernel_rfl) (fun _ => by kernel_rfl) ?_
            refine T.pure (.bool (r7.2 != 0)) (by kernel_rfl) (fun _ => by kernel_rfl) ?_
            refine T.nil ?_
            refine T.cond (r7.2 != 0) (by kernel_rfl) (by kernel_rfl) (fun hc4 => ?_) (fun hc4 => ?_)
            ·
              rw [hc4, cond_true] at hF
              refine T.seq ?_
              refine T.region ?_
              refine T.pure (.bool false) (by kernel_rfl) (fun _ => by kernel_rfl) ?_
              refine T.nil ?_
              cases hF
              refine T.ret rfl ?_
              exact T.ret1 rfl (ResIs.tmp rfl) fun w' hh => ⟨_, rfl, hh.below, (show _ from rfl)⟩
            ·
              rw [hc4, cond_false] at hF
              refine T.skip_code ?_
              refine T.seq ?_
              refine T.seq ?_
              refine T.region ?_
              refine T.pure (.pointer (some ⟨b1, 0, none⟩)) (by kernel_rfl) (fun _ => by kernel_rfl) ?_
              refine T.look (.slice A1 p0.pages.length c1) (by kernel_rfl) (fun w' hh => exec_load1 rfl rfl (by kernel_rfl) (hh.cellBox (i := 3) (by rfl) 0)) ?_
              refine T.pure (.int .i64 (p0.pages.length : Int)) (by kernel_rfl) (fun _ => by kernel_rfl) ?_
              refine T.pure (.int .i64 0) (by kernel_rfl) (fun _ => by kernel_rfl) ?_
              refine T.nil ?_
              obtain ⟨q1, hz1, hF⟩ := Option.bind_eq_some_iff.1 hF
              refine T.mid (fun a w' => q1 = Sum.inl () ∧ ∃ (V9 : View), View.le V7 V9 ∧ Fr 169 [] a ∧ Hp w V9 [] w') ?_ ?_
              ·
                refine T.block ?_
                refine T.iter (fun x1 a w' => ∃ (V8 : View), View.le V7 V8 ∧ Fr 169 [(1, .int .i64 p1), (2, .int .i64 p2), (3, .string p3), (4, .string p4), (5, .pointer (some ⟨b1, 0, none⟩)), (11, .pointer (some ⟨b3, 0, none⟩)), (16, .pointer (some ⟨b5, 0, none⟩)), (96, .int .i64 (p0.pages.length : Int)), (97, .int .i64 x1)] a ∧ Hp w V8 [box b5 25 [.slice A7 r5.1.pages.length c7, .slice A8 r5.1.writes.length c8], box b3 25 [.slice A11 r7.1.pages.length c11, .slice A12 r7.1.writes.length c12], box b1 25 [.slice A1 p0.pages.length c1, .slice A2 p0.writes.length c2]] w') hz1 ?_ ?_
                ·
                  exact fun a w' hf hh => Exists.intro V7 (And.intro (View.le_refl _) (And.intro ((((((((((Fr.nil hf).pick hf 97 rfl).pick hf 96 rfl).pick hf 16 rfl).pick hf 11 rfl).pick hf 5 rfl).pick hf 4 rfl).pick hf 3 rfl).pick hf 2 rfl).pick hf 1 rfl) (hh.sub (.cons _ (.cons_cons _ (.cons_cons _ (.cons_cons _ List.Sublist.slnil)))))))
                ·
                  rintro x1 y1 hY1 hr6 a w' ⟨V8, hV8, hf, hh⟩
                  refine (?_ : T 169 w V8 [box b5 25 [.slice A7 r5.1.pages.length c7, .slice A8 r5.1.writes.length c8], box b3 25 [.slice A11 r7.1.pages.length c11, .slice A12 r7.1.writes.length c12], box b1 25 [.slice A1 p0.pages.length c1, .slice A2 p0.writes.length c2]] [(1, .int .i64 p1), (2, .int .i64 p2), (3, .string p3), (4, .string p4), (5, .pointer (some ⟨b1, 0, none⟩)), (11, .pointer (some ⟨b3, 0, none⟩)), (16, .pointer (some ⟨b5, 0, none⟩)), (96, .int .i64 (p0.pages.length : Int)), (97, .int .i64 x1)] _) a w' hf hh
                  clear hf hh
                  try dsimp only at hY1
                  refine T.seq ?_
                  refine T.region ?_
                  refine T.pure (.bool (decide (x1 < (p0.pages.length : Int)))) (by kernel_rfl) (fun _ => by kernel_rfl) ?_
                  refine T.nil ?_
                  refine T.seq ?_
                  refine T.cond (decide (x1 < (p0.pages.length : Int))) (by kernel_rfl) (by kernel_rfl) (fun hc5 => ?_) (fun hc5 => ?_)
                  ·
                    rw [hc5, cond_true] at hY1
                    refine T.skip_code ?_
                    refine T.seq ?_
                    refine T.block ?_
                    refine T.seq ?_
                    refine T.region ?_
                    refine T.pure (.int .i64 x1) (by kernel_rfl) (fun _ => by kernel_rfl) ?_
                    refine T.pure (.int .i64 x1) (by kernel_rfl) (fun _ => by kernel_rfl) ?_
                    refine T.nil ?_
                    refine T.seq ?_
                    refine T.region ?_
                    refine T.look (.agg #[.slice A7 r5.1.pages.length c7, .slice A8 r5.1.writes.length c8]) (by kernel_rfl) (fun w' hh => exec_loadN (cs := [.slice A7 r5.1.pages.length c7, .slice A8 r5.1.writes.length c8]) rfl rfl (by kernel_rfl) (by kernel_rfl) (fun j u hj => (hh.box_at (i := 0) (cs := [.slice A7 r5.1.pages.length c7, .slice A8 r5.1.writes.length c8]) (by rfl) 0 j).trans (seg_at (n := 2) rfl hj))) ?_
                    refine T.pure (.int .i64 x1) (by kernel_rfl) (fun _ => by kernel_rfl) ?_
                    obtain ⟨r8, hb8, hY1⟩ := Option.bind_eq_some_iff.1 hY1
                    refine T.step (W1.call (vT2 (vSc eStr) (vSc eInt)) r8 12 #[.agg #[.slice A7 r5.1.pages.length c7, .slice A8 r5.1.writes.length c8], .int .i64 x1] (by kernel_rfl) (fun _ => by kernel_rfl) (fun w' hh => disk_Read_l r5.1 x1 r8 hb8 w' A7 c7 (SlOk.mono (SlOk.mono hs7 (View.le_trans (made_le _ _) (View.le_trans (View.le_trans hV6 hV7) hV8))) hh.view) A8 c8 (SlOk.mono (SlOk.mono hs8 (View.le_trans (made_le _ _) (View.le_trans (View.le_trans hV6 hV7) hV8))) hh.view)) ?_)
                    intro u V10 hV10 hu
                    obtain rfl := (Sure.t2 sureStr sureInt) _ _ _ hu
                    refine T.pure (.tuple #[.string r8.1, .int .i64 r8.2]) (by kernel_rfl) (fun _ => by kernel_rfl) ?_
                    refine T.pure (.string r8.1) (by kernel_rfl) (fun _ => by kernel_rfl) ?_
                    refine T.pure (.int .i64 r8.2) (by kernel_rfl) (fun _ => by kernel_rfl) ?_
                    refine T.pure (.string r8.1) (by kernel_rfl) (fun _ => by kernel_rfl) ?_
                    refine T.pure (.int .i64 r8.2) (by kernel_rfl) (fun _ => by kernel_rfl) ?_
                    refine T.nil ?_
                    refine T.seq ?_
                    refine T.region ?_
                    refine T.look (.agg #[.slice A11 r7.1.pages.length c11, .slice A12 r7.1.writes.length c12]) (by kernel_rfl) (fun w' hh => exec_loadN (cs := [.slice A11 r7.1.pages.length c11, .slice A12 r7.1.writes.length c12]) rfl rfl (by kernel_rfl) (by kernel_rfl) (fun j u hj => (hh.box_at (i := 1) (cs := [.slice A11 r7.1.pages.length c11, .slice A12 r7.1.writes.length c12]) (by rfl) 0 j).trans (seg_at (n := 2) rfl hj))) ?_
                    refine T.pure (.int .i64 x1) (by kernel_rfl) (fun _ => by kernel_rfl) ?_
                    obtain ⟨r9, hb9, hY1⟩ := Option.bind_eq_some_iff.1 hY1
                    refine T.step (W1.call (vT2 (vSc eStr) (vSc eInt)) r9 12 #[.agg #[.slice A11 r7.1.pages.length c11, .slice A12 r7.1.writes.length c12], .int .i64 x1] (by kernel_rfl) (fun _ => by kernel_rfl) (fun w' hh => disk_Read_l r7.1 x1 r9 hb9 w' A11 c11 (SlOk.mono (SlOk.mono hs11 (View.le_trans (made_le _ _) (View.le_trans hV8 hV10))) hh.view) A12 c12 (SlOk.mono (SlOk.mono hs12 (View.le_trans (made_le _ _) (View.le_trans hV8 hV10))) hh.view)) ?_)
                    intro u V11 hV11 hu
                    obtain rfl := (Sure.t2 sureStr sureInt) _ _ _ hu
                    refine T.pure (.tuple #[.string r9.1, .int .i64 r9.2]) (by kernel_rfl) (fun _ => by kernel_rfl) ?_
                    refine T.pure (.string r9.1) (by kernel_rfl) (fun _ => by kernel_rfl) ?_
                    refine T.pure (.int .i64 r9.2) (by kernel_rfl) (fun _ => by kernel_rfl) ?_
                    refine T.pure (.string r9.1) (by kernel_rfl) (fun _ => by kernel_rfl) ?_
                    refine T.pure (.int .i64 r9.2) (by kernel_rfl) (fun _ => by kernel_rfl) ?_
                    refine T.nil ?_
                    refine T.seq ?_
                    refine T.region ?_
                    refine T.look (.agg #[.slice A1 p0.pages.length c1, .slice A2 p0.writes.length c2]) (by kernel_rfl) (fun w' hh => exec_loadN (cs := [.slice A1 p0.pages.length c1, .slice A2 p0.writes.length c2]) rfl rfl (by kernel_rfl) (by kernel_rfl) (fun j u hj => (hh.box_at (i := 2) (cs := [.slice A1 p0.pages.length c1, .slice A2 p0.writes.length c2]) (by rfl) 0 j).trans (seg_at (n := 2) rfl hj))) ?_
                    refine T.pure (.int .i64 x1) (by kernel_rfl) (fun _ => by kernel_rfl) ?_
                    obtain ⟨r10, hb10, hY1⟩ := Option.bind_eq_some_iff.1 hY1
                    refine T.step (W1.call (vT2 (vSc eStr) (vSc eInt)) r10 12 #[.agg #[.slice A1 p0.pages.length c1, .slice A2 p0.writes.length c2], .int .i64 x1] (by kernel_rfl) (fun _ => by kernel_rfl) (fun w' hh => disk_Read_l p0 x1 r10 hb10 w' A1 c1 (SlOk.mono (SlOk.mono hs1 (View.le_trans (View.le_trans (View.le_trans (View.le_trans (View.le_trans (View.le_trans (View.le_trans (View.le_trans hV1 hV2) hV3) hV5) hV6) hV7) hV8) hV10) hV11)) hh.view) A2 c2 (SlOk.mono (SlOk.mono hs2 (View.le_trans (View.le_trans (View.le_trans (View.le_trans (View.le_trans (View.le_trans (View.le_trans (View.le_trans hV1 hV2) hV3) hV5) hV6) hV7) hV8) hV10) hV11)) hh.view)) ?_)
                    intro u V12 hV12 hu
                    obtain rfl := (Sure.t2 sureStr sureInt) _ _ _ hu
                    refine T.pure (.tuple #[.string r10.1, .int .i64 r10.2]) (by kernel_rfl) (fun _ => by kernel_rfl) ?_
                    refine T.pure (.string r10.1) (by kernel_rfl) (fun _ => by kernel_rfl) ?_
                    refine T.pure (.int .i64 r10.2) (by kernel_rfl) (fun _ => by kernel_rfl) ?_
                    refine T.pure (.string r10.1) (by kernel_rfl) (fun _ => by kernel_rfl) ?_
                    refine T.pure (.int .i64 r10.2) (by kernel_rfl) (fun _ => by kernel_rfl) ?_
                    refine T.nil ?_
                    refine T.cut (fun a w' => Fr 169 [(1, .int .i64 p1), (2, .int .i64 p2), (3, .string p3), (4, .string p4), (5, .pointer (some ⟨b1, 0, none⟩)), (11, .pointer (some ⟨b3, 0, none⟩)), (16, .pointer (some ⟨b5, 0, none⟩)), (96, .int .i64 (p0.pages.length : Int)), (97, .int .i64 x1), (167, .bool ((r8.2 != 0) || ((r9.2 != 0) || ((r10.2 != 0) || ((!(seq r8.1 r9.1)) || (bif (x1 != p1) then (bif (x1 != p2) then ((!(seq r8.1 r10.1)) || (bif (x1 == p1) then ((!(seq r8.1 p3)) || ((x1 == p2) && (!(seq r8.1 p4)))) else ((x1 == p2) && (!(seq r8.1 p4))))) else (bif (x1 == p1) then ((!(seq r8.1 p3)) || ((x1 == p2) && (!(seq r8.1 p4)))) else ((x1 == p2) && (!(seq r8.1 p4))))) else (bif (x1 == p1) then ((!(seq r8.1 p3)) || ((x1 == p2) && (!(seq r8.1 p4)))) else ((x1 == p2) && (!(seq r8.1 p4))))))))))] a ∧ Hp w V12 [box b5 25 [.slice A7 r5.1.pages.length c7, .slice A8 r5.1.writes.length c8], box b3 25 [.slice A11 r7.1.pages.length c11, .slice A12 r7.1.writes.length c12], box b1 25 [.slice A1 p0.pages.length c1, .slice A2 p0.writes.length c2]] w') ?_ ?_
                    ·
                      refine T.region ?_
                      refine T.pure (.int .i64 r8.2) (by kernel_rfl) (fun _ => by kernel_rfl) ?_
                      refine T.pure (.bool (r8.2 != 0)) (by kernel_rfl) (fun _ => by kernel_rfl) ?_
                      refine T.pure (.bool (r8.2 != 0)) (by kernel_rfl) (fun _ => by kernel_rfl) ?_
                      cases hg5 : (r8.2 != 0)
                      ·
                        skip
                        refine T.pure (.int .i64 r9.2) (by kernel_rfl) (fun _ => by kernel_rfl) ?_
                        refine T.pure (.bool (r9.2 != 0)) (by kernel_rfl) (fun _ => by kernel_rfl) ?_
                        refine T.pure (.bool (r9.2 != 0)) (by kernel_rfl) (fun _ => by kernel_rfl) ?_
                        refine T.pure (.bool (r9.2 != 0)) (by kernel_rfl) (fun _ => by kernel_rfl) ?_
                        cases hg6 : (r9.2 != 0)
                        ·
                          skip
                          refine T.pure (.int .i64 r10.2) (by kernel_rfl) (fun _ => by kernel_rfl) ?_
                          refine T.pure (.bool (r10.2 != 0)) (by kernel_rfl) (fun _ => by kernel_rfl) ?_
                          refine T.pure (.bool (r10.2 != 0)) (by kernel_rfl) (fun _ => by kernel_rfl) ?_
                          refine T.pure (.bool (r10.2 != 0)) (by kernel_rfl) (fun _ => by kernel_rfl) ?_
                          cases hg7 : (r10.2 != 0)
                          ·
                            skip
                            refine T.pure (.string r8.1) (by kernel_rfl) (fun _ => by kernel_rfl) ?_
                            refine T.pure (.string r9.1) (by kernel_rfl) (fun _ => by kernel_rfl) ?_
                            refine T.pure (.bool (!(seq r8.1 r9.1))) (by kernel_rfl) (fun _ => by kernel_rfl) ?_
                            refine T.pure (.bool (!(seq r8.1 r9.1))) (by kernel_rfl) (fun _ => by kernel_rfl) ?_
                            refine T.pure (.bool (!(seq r8.1 r9.1))) (by kernel_rfl) (fun _ => by kernel_rfl) ?_
                            cases hg8 : (!(seq r8.1 r9.1))
                            ·
                              skip
                              refine T.pure (.int .i64 x1) (by kernel_rfl) (fun _ => by kernel_rfl) ?_
                              refine T.pure (.int .i64 p1) (by kernel_rfl) (fun _ => by kernel_rfl) ?_
                              refine T.pure (.bool (x1 != p1)) (by kernel_rfl) (fun _ => by kernel_rfl) ?_
                              refine T.pure (.bool (x1 != p1)) (by kernel_rfl) (fun _ => by kernel_rfl) ?_
                              cases hg9 : (x1 != p1)
                              ·
                                skip
                                refine T.pass (by kernel_rfl) (by kernel_rfl) ?_
                                refine T.pass (by kernel_rfl) (by kernel_rfl) ?_
                                refine T.pass (by kernel_rfl) (by kernel_rfl) ?_
                                refine T.pure (.bool false) (by kernel_rfl) (fun _ => by kernel_rfl) ?_
                                refine T.pure (.bool false) (by kernel_rfl) (fun _ => by kernel_rfl) ?_
                                refine T.pass (by kernel_rfl) (by kernel_rfl) ?_
                                refine T.pass (by kernel_rfl) (by kernel_rfl) ?_
                                refine T.pass (by kernel_rfl) (by kernel_rfl) ?_
                                refine T.pure (.bool false) (by kernel_rfl) (fun _ => by kernel_rfl) ?_
                                refine T.pure (.bool false) (by kernel_rfl) (fun _ => by kernel_rfl) ?_
                                refine T.pure (.bool false) (by kernel_rfl) (fun _ => by kernel_rfl) ?_
                                refine T.pure (.int .i64 x1) (by kernel_rfl) (fun _ => by kernel_rfl) ?_
                                refine T.pure (.int .i64 p1) (by kernel_rfl) (fun _ => by kernel_rfl) ?_
                                refine T.pure (.bool (x1 == p1)) (by kernel_rfl) (fun _ => by kernel_rfl) ?_
                                refine T.pure (.bool (x1 == p1)) (by kernel_rfl) (fun _ => by kernel_rfl) ?_
                                cases hg10 : (x1 == p1)
                                ·
                                  skip
                                  refine T.pass (by kernel_rfl) (by kernel_rfl) ?_
                                  refine T.pass (by kernel_rfl) (by kernel_rfl) ?_
                                  refine T.pass (by kernel_rfl) (by kernel_rfl) ?_
                                  refine T.pure (.bool false) (by kernel_rfl) (fun _ => by kernel_rfl) ?_
                                  refine T.pure (.bool false) (by kernel_rfl) (fun _ => by kernel_rfl) ?_
                                  refine T.pure (.bool false) (by kernel_rfl) (fun _ => by kernel_rfl) ?_
                                  refine T.pure (.int .i64 x1) (by kernel_rfl) (fun _ => by kernel_rfl) ?_
                                  refine T.pure (.int .i64 p2) (by kernel_rfl) (fun _ => by kernel_rfl) ?_
                                  refine T.pure (.bool (x1 == p2)) (by kernel_rfl) (fun _ => by kernel_rfl) ?_
                                  refine T.pure (.bool (x1 == p2)) (by kernel_rfl) (fun _ => by kernel_rfl) ?_
                                  cases hg11 : (x1 == p2)
                                  ·
                                    skip
                                    refine T.pass (by kernel_rfl) (by kernel_rfl) ?_
                                    refine T.pass (by kernel_rfl) (by kernel_rfl) ?_
                                    refine T.pass (by kernel_rfl) (by kernel_rfl) ?_
                                    refine T.pure (.bool false) (by kernel_rfl) (fun _ => by kernel_rfl) ?_
                                    refine T.pure (.bool false) (by kernel_rfl) (fun _ => by kernel_rfl) ?_
                                    refine T.nil ?_
                                    exact fun a w' hf hh => And.intro (((((((((((Fr.nil hf).pick hf 167 rfl).pick hf 97 rfl).pick hf 96 rfl).pick hf 16 rfl).pick hf 11 rfl).pick hf 5 rfl).pick hf 4 rfl).pick hf 3 rfl).pick hf 2 rfl).pick hf 1 rfl) (hh.sub (.cons_cons _ (.cons_cons _ (.cons_cons _ List.Sublist.slnil))))
                                  ·
                                    skip
                                    refine T.pure (.string r8.1) (by kernel_rfl) (fun _ => by kernel_rfl) ?_
                                    refine T.pure (.string p4) (by kernel_rfl) (fun _ => by kernel_rfl) ?_
                                    refine T.pure (.bool (!(seq r8.1 p4))) (by kernel_rfl) (fun _ => by kernel_rfl) ?_
                                    refine T.pure (.bool (!(seq r8.1 p4))) (by kernel_rfl) (fun _ => by kernel_rfl) ?_
                                    refine T.pure (.bool (!(seq r8.1 p4))) (by kernel_rfl) (fun _ => by kernel_rfl) ?_
                                    refine T.nil ?_
                                    exact fun a w' hf hh => And.intro (((((((((((Fr.nil hf).pick hf 167 rfl).pick hf 97 rfl).pick hf 96 rfl).pick hf 16 rfl).pick hf 11 rfl).pick hf 5 rfl).pick hf 4 rfl).pick hf 3 rfl).pick hf 2 rfl).pick hf 1 rfl) (hh.sub (.cons_cons _ (.cons_cons _ (.cons_cons _ List.Sublist.slnil))))
                                ·
                                  skip
                                  refine T.pure (.string r8.1) (by kernel_rfl) (fun _ => by kernel_rfl) ?_
                                  refine T.pure (.string p3) (by kernel_rfl) (fun _ => by kernel_rfl) ?_
                                  refine T.pure (.bool (!(seq r8.1 p3))) (by kernel_rfl) (fun _ => by kernel_rfl) ?_
                                  refine T.pure (.bool (!(seq r8.1 p3))) (by kernel_rfl) (fun _ => by kernel_rfl) ?_
                                  refine T.pure (.bool (!(seq r8.1 p3))) (by kernel_rfl) (fun _ => by kernel_rfl) ?_
                                  refine T.pure (.bool (!(seq r8.1 p3))) (by kernel_rfl) (fun _ => by kernel_rfl) ?_
                                  cases hg12 : (!(seq r8.1 p3))
                                  ·
                                    skip
                                    refine T.pure (.int .i64 x1) (by kernel_rfl) (fun _ => by kernel_rfl) ?_
                                    refine T.pure (.int .i64 p2) (by kernel_rfl) (fun _ => by kernel_rfl) ?_
                                    refine T.pure (.bool (x1 == p2)) (by kernel_rfl) (fun _ => by kernel_rfl) ?_
                                    refine T.pure (.bool (x1 == p2)) (by kernel_rfl) (fun _ => by kernel_rfl) ?_
                                    cases hg13 : (x1 == p2)
                                    ·
                                      skip
                                      refine T.pass (by kernel_rfl) (by kernel_rfl) ?_
                                      refine T.pass (by kernel_rfl) (by kernel_rfl) ?_
                                      refine T.pass (by kernel_rfl) (by kernel_rfl) ?_
                                      refine T.pure (.bool false) (by kernel_rfl) (fun _ => by kernel_rfl) ?_
                                      refine T.pure (.bool false) (by kernel_rfl) (fun _ => by kernel_rfl) ?_
                                      refine T.nil ?_
                                      exact fun a w' hf hh => And.intro (((((((((((Fr.nil hf).pick hf 167 rfl).pick hf 97 rfl).pick hf 96 rfl).pick hf 16 rfl).pick hf 11 rfl).pick hf 5 rfl).pick hf 4 rfl).pick hf 3 rfl).pick hf 2 rfl).pick hf 1 rfl) (hh.sub (.cons_cons _ (.cons_cons _ (.cons_cons _ List.Sublist.slnil))))
                                    ·
                                      skip
                                      refine T.pure (.string r8.1) (by kernel_rfl) (fun _ => by kernel_rfl) ?_
                                      refine T.pure (.string p4) (by kernel_rfl) (fun _ => by kernel_rfl) ?_
                                      refine T.pure (.bool (!(seq r8.1 p4))) (by kernel_rfl) (fun _ => by kernel_rfl) ?_
                                      refine T.pure (.bool (!(seq r8.1 p4))) (by kernel_rfl) (fun _ => by kernel_rfl) ?_
                                      refine T.pure (.bool (!(seq r8.1 p4))) (by kernel_rfl) (fun _ => by kernel_rfl) ?_
                                      refine T.nil ?_
                                      exact fun a w' hf hh => And.intro (((((((((((Fr.nil hf).pick hf 167 rfl).pick hf 97 rfl).pick hf 96 rfl).pick hf 16 rfl).pick hf 11 rfl).pick hf 5 rfl).pick hf 4 rfl).pick hf 3 rfl).pick hf 2 rfl).pick hf 1 rfl) (hh.sub (.cons_cons _ (.cons_cons _ (.cons_cons _ List.Sublist.slnil))))
                                  ·
                                    skip
                                    refine T.pass (by kernel_rfl) (by kernel_rfl) ?_
                                    refine T.pass (by kernel_rfl) (by kernel_rfl) ?_
                                    refine T.pass (by kernel_rfl) (by kernel_rfl) ?_
                                    refine T.pass (by kernel_rfl) (by kernel_rfl) ?_
                                    refine T.pass (by kernel_rfl) (by kernel_rfl) ?_
                                    refine T.pass (by kernel_rfl) (by kernel_rfl) ?_
                                    refine T.pass (by kernel_rfl) (by kernel_rfl) ?_
                                    refine T.pass (by kernel_rfl) (by kernel_rfl) ?_
                                    refine T.pure (.bool true) (by kernel_rfl) (fun _ => by kernel_rfl) ?_
                                    refine T.nil ?_
                                    exact fun a w' hf hh => And.intro (((((((((((Fr.nil hf).pick hf 167 rfl).pick hf 97 rfl).pick hf 96 rfl).pick hf 16 rfl).pick hf 11 rfl).pick hf 5 rfl).pick hf 4 rfl).pick hf 3 rfl).pick hf 2 rfl).pick hf 1 rfl) (hh.sub (.cons_cons _ (.cons_cons _ (.cons_cons _ List.Sublist.slnil))))
                              ·
                                skip
                                refine T.pure (.int .i64 x1) (by kernel_rfl) (fun _ => by kernel_rfl) ?_
                                refine T.pure (.int .i64 p2) (by kernel_rfl) (fun _ => by kernel_rfl) ?_
                                refine T.pure (.bool (x1 != p2)) (by kernel_rfl) (fun _ => by kernel_rfl) ?_
                                refine T.pure (.bool (x1 != p2)) (by kernel_rfl) (fun _ => by kernel_rfl) ?_
                                refine T.pure (.bool (x1 != p2)) (by kernel_rfl) (fun _ => by kernel_rfl) ?_
                                cases hg14 : (x1 != p2)
                                ·
                                  skip
                                  refine T.pass (by kernel_rfl) (by kernel_rfl) ?_
                                  refine T.pass (by kernel_rfl) (by kernel_rfl) ?_
                                  refine T.pass (by kernel_rfl) (by kernel_rfl) ?_
                                  refine T.pure (.bool false) (by kernel_rfl) (fun _ => by kernel_rfl) ?_
                                  refine T.pure (.bool false) (by kernel_rfl) (fun _ => by kernel_rfl) ?_
                                  refine T.pure (.bool false) (by kernel_rfl) (fun _ => by kernel_rfl) ?_
                                  refine T.pure (.int .i64 x1) (by kernel_rfl) (fun _ => by kernel_rfl) ?_
                                  refine T.pure (.int .i64 p1) (by kernel_rfl) (fun _ => by kernel_rfl) ?_
                                  refine T.pure (.bool (x1 == p1)) (by kernel_rfl) (fun _ => by kernel_rfl) ?_
                                  refine T.pure (.bool (x1 == p1)) (by kernel_rfl) (fun _ => by kernel_rfl) ?_
                                  cases hg15 : (x1 == p1)
                                  ·
                                    skip
                                    refine T.pass (by kernel_rfl) (by kernel_rfl) ?_
                                    refine T.pass (by kernel_rfl) (by kernel_rfl) ?_
                                    refine T.pass (by kernel_rfl) (by kernel_rfl) ?_
                                    refine T.pure (.bool false) (by kernel_rfl) (fun _ => by kernel_rfl) ?_
                                    refine T.pure (.bool false) (by kernel_rfl) (fun _ => by kernel_rfl) ?_
                                    refine T.pure (.bool false) (by kernel_rfl) (fun _ => by kernel_rfl) ?_
                                    refine T.pure (.int .i64 x1) (by kernel_rfl) (fun _ => by kernel_rfl) ?_
                                    refine T.pure (.int .i64 p2) (by kernel_rfl) (fun _ => by kernel_rfl) ?_
                                    refine T.pure (.bool (x1 == p2)) (by kernel_rfl) (fun _ => by kernel_rfl) ?_
                                    refine T.pure (.bool (x1 == p2)) (by kernel_rfl) (fun _ => by kernel_rfl) ?_
                                    cases hg16 : (x1 == p2)
                                    ·
                                      skip
                                      refine T.pass (by kernel_rfl) (by kernel_rfl) ?_
                                      refine T.pass (by kernel_rfl) (by kernel_rfl) ?_
                                      refine T.pass (by kernel_rfl) (by kernel_rfl) ?_
                                      refine T.pure (.bool false) (by kernel_rfl) (fun _ => by kernel_rfl) ?_
                                      refine T.pure (.bool false) (by kernel_rfl) (fun _ => by kernel_rfl) ?_
                                      refine T.nil ?_
                                      exact fun a w' hf hh => And.intro (((((((((((Fr.nil hf).pick hf 167 rfl).pick hf 97 rfl).pick hf 96 rfl).pick hf 16 rfl).pick hf 11 rfl).pick hf 5 rfl).pick hf 4 rfl).pick hf 3 rfl).pick hf 2 rfl).pick hf 1 rfl) (hh.sub (.cons_cons _ (.cons_cons _ (.cons_cons _ List.Sublist.slnil))))
                                    ·
                                      skip
                                      refine T.pure (.string r8.1) (by kernel_rfl) (fun _ => by kernel_rfl) ?_
                                      refine T.pure (.string p4) (by kernel_rfl) (fun _ => by kernel_rfl) ?_
                                      refine T.pure (.bool (!(seq r8.1 p4))) (by kernel_rfl) (fun _ => by kernel_rfl) ?_
                                      refine T.pure (.bool (!(seq r8.1 p4))) (by kernel_rfl) (fun _ => by kernel_rfl) ?_
                                      refine T.pure (.bool (!(seq r8.1 p4))) (by kernel_rfl) (fun _ => by kernel_rfl) ?_
                                      refine T.nil ?_
                                      exact fun a w' hf hh => And.intro (((((((((((Fr.nil hf).pick hf 167 rfl).pick hf 97 rfl).pick hf 96 rfl).pick hf 16 rfl).pick hf 11 rfl).pick hf 5 rfl).pick hf 4 rfl).pick hf 3 rfl).pick hf 2 rfl).pick hf 1 rfl) (hh.sub (.cons_cons _ (.cons_cons _ (.cons_cons _ List.Sublist.slnil))))
                                  ·
                                    skip
                                    refine T.pure (.string r8.1) (by kernel_rfl) (fun _ => by kernel_rfl) ?_
                                    refine T.pure (.string p3) (by kernel_rfl) (fun _ => by kernel_rfl) ?_
                                    refine T.pure (.bool (!(seq r8.1 p3))) (by kernel_rfl) (fun _ => by kernel_rfl) ?_
                                    refine T.pure (.bool (!(seq r8.1 p3))) (by kernel_rfl) (fun _ => by kernel_rfl) ?_
                                    refine T.pure (.bool (!(seq r8.1 p3))) (by kernel_rfl) (fun _ => by kernel_rfl) ?_
                                    refine T.pure (.bool (!(seq r8.1 p3))) (by kernel_rfl) (fun _ => by kernel_rfl) ?_
                                    cases hg17 : (!(seq r8.1 p3))
                                    ·
                                      skip
                                      refine T.pure (.int .i64 x1) (by kernel_rfl) (fun _ => by kernel_rfl) ?_
                                      refine T.pure (.int .i64 p2) (by kernel_rfl) (fun _ => by kernel_rfl) ?_
                                      refine T.pure (.bool (x1 == p2)) (by kernel_rfl) (fun _ => by kernel_rfl) ?_
                                      refine T.pure (.bool (x1 == p2)) (by kernel_rfl) (fun _ => by kernel_rfl) ?_
                                      cases hg18 : (x1 == p2)
                                      ·
                                        skip
                                        refine T.pass (by kernel_rfl) (by kernel_rfl) ?_
                                        refine T.pass (by kernel_rfl) (by kernel_rfl) ?_
                                        refine T.pass (by kernel_rfl) (by kernel_rfl) ?_
                                        refine T.pure (.bool false) (by kernel_rfl) (fun _ => by kernel_rfl) ?_
                                        refine T.pure (.bool false) (by kernel_rfl) (fun _ => by kernel_rfl) ?_
                                        refine T.nil ?_
                                        exact fun a w' hf hh => And.intro (((((((((((Fr.nil hf).pick hf 167 rfl).pick hf 97 rfl).pick hf 96 rfl).pick hf 16 rfl).pick hf 11 rfl).pick hf 5 rfl).pick hf 4 rfl).pick hf 3 rfl).pick hf 2 rfl).pick hf 1 rfl) (hh.sub (.cons_cons _ (.cons_cons _ (.cons_cons _ List.Sublist.slnil))))
                                      ·
                                        skip
                                        refine T.pure (.string r8.1) (by kernel_rfl) (fun _ => by kernel_rfl) ?_
                                        refine T.pure (.string p4) (by kernel_rfl) (fun _ => by kernel_rfl) ?_
                                        refine T.pure (.bool (!(seq r8.1 p4))) (by kernel_rfl) (fun _ => by kernel_rfl) ?_
                                        refine T.pure (.bool (!(seq r8.1 p4))) (by kernel_rfl) (fun _ => by kernel_rfl) ?_
                                        refine T.pure (.bool (!(seq r8.1 p4))) (by kernel_rfl) (fun _ => by kernel_rfl) ?_
                                        refine T.nil ?_
                                        exact fun a w' hf hh => And.intro (((((((((((Fr.nil hf).pick hf 167 rfl).pick hf 97 rfl).pick hf 96 rfl).pick hf 16 rfl).pick hf 11 rfl).pick hf 5 rfl).pick hf 4 rfl).pick hf 3 rfl).pick hf 2 rfl).pick hf 1 rfl) (hh.sub (.cons_cons _ (.cons_cons _ (.cons_cons _ List.Sublist.slnil))))
                                    ·
                                      skip
                                      refine T.pass (by kernel_rfl) (by kernel_rfl) ?_
                                      refine T.pass (by kernel_rfl) (by kernel_rfl) ?_
                                      refine T.pass (by kernel_rfl) (by kernel_rfl) ?_
                                      refine T.pass (by kernel_rfl) (by kernel_rfl) ?_
                                      refine T.pass (by kernel_rfl) (by kernel_rfl) ?_
                                      refine T.pass (by kernel_rfl) (by kernel_rfl) ?_
                                      refine T.pass (by kernel_rfl) (by kernel_rfl) ?_
                                      refine T.pass (by kernel_rfl) (by kernel_rfl) ?_
                                      refine T.pure (.bool true) (by kernel_rfl) (fun _ => by kernel_rfl) ?_
                                      refine T.nil ?_
                                      exact fun a w' hf hh => And.intro (((((((((((Fr.nil hf).pick hf 167 rfl).pick hf 97 rfl).pick hf 96 rfl).pick hf 16 rfl).pick hf 11 rfl).pick hf 5 rfl).pick hf 4 rfl).pick hf 3 rfl).pick hf 2 rfl).pick hf 1 rfl) (hh.sub (.cons_cons _ (.cons_cons _ (.cons_cons _ List.Sublist.slnil))))
                                ·
                                  skip
                                  refine T.pure (.string r8.1) (by kernel_rfl) (fun _ => by kernel_rfl) ?_
                                  refine T.pure (.string r10.1) (by kernel_rfl) (fun _ => by kernel_rfl) ?_
                                  refine T.pure (.bool (!(seq r8.1 r10.1))) (by kernel_rfl) (fun _ => by kernel_rfl) ?_
                                  refine T.pure (.bool (!(seq r8.1 r10.1))) (by kernel_rfl) (fun _ => by kernel_rfl) ?_
                                  refine T.pure (.bool (!(seq r8.1 r10.1))) (by kernel_rfl) (fun _ => by kernel_rfl) ?_
                                  refine T.pure (.bool (!(seq r8.1 r10.1))) (by kernel_rfl) (fun _ => by kernel_rfl) ?_
                                  cases hg19 : (!(seq r8.1 r10.1))
                                  ·
                                    skip
                                    refine T.pure (.int .i64 x1) (by kernel_rfl) (fun _ => by kernel_rfl) ?_
                                    refine T.pure (.int .i64 p1) (by kernel_rfl) (fun _ => by kernel_rfl) ?_
                                    refine T.pure (.bool (x1 == p1)) (by kernel_rfl) (fun _ => by kernel_rfl) ?_
                                    refine T.pure (.bool (x1 == p1)) (by kernel_rfl) (fun _ => by kernel_rfl) ?_
                                    cases hg20 : (x1 == p1)
                                    ·
                                      skip
                                      refine T.pass (by kernel_rfl) (by kernel_rfl) ?_
                                      refine T.pass (by kernel_rfl) (by kernel_rfl) ?_
                                      refine T.pass (by kernel_rfl) (by kernel_rfl) ?_
                                      refine T.pure (.bool false) (by kernel_rfl) (fun _ => by kernel_rfl) ?_
                                      refine T.pure (.bool false) (by kernel_rfl) (fun _ => by kernel_rfl) ?_
                                      refine T.pure (.bool false) (by kernel_rfl) (fun _ => by kernel_rfl) ?_
                                      refine T.pure (.int .i64 x1) (by kernel_rfl) (fun _ => by kernel_rfl) ?_
                                      refine T.pure (.int .i64 p2) (by kernel_rfl) (fun _ => by kernel_rfl) ?_
                                      refine T.pure (.bool (x1 == p2)) (by kernel_rfl) (fun _ => by kernel_rfl) ?_
                                      refine T.pure (.bool (x1 == p2)) (by kernel_rfl) (fun _ => by kernel_rfl) ?_
                                      cases hg21 : (x1 == p2)
                                      ·
                                        skip
                                        refine T.pass (by kernel_rfl) (by kernel_rfl) ?_
                                        refine T.pass (by kernel_rfl) (by kernel_rfl) ?_
                                        refine T.pass (by kernel_rfl) (by kernel_rfl) ?_
                                        refine T.pure (.bool false) (by kernel_rfl) (fun _ => by kernel_rfl) ?_
                                        refine T.pure (.bool false) (by kernel_rfl) (fun _ => by kernel_rfl) ?_
                                        refine T.nil ?_
                                        exact fun a w' hf hh => And.intro (((((((((((Fr.nil hf).pick hf 167 rfl).pick hf 97 rfl).pick hf 96 rfl).pick hf 16 rfl).pick hf 11 rfl).pick hf 5 rfl).pick hf 4 rfl).pick hf 3 rfl).pick hf 2 rfl).pick hf 1 rfl) (hh.sub (.cons_cons _ (.cons_cons _ (.cons_cons _ List.Sublist.slnil))))
                                      ·
                                        skip
                                        refine T.pure (.string r8.1) (by kernel_rfl) (fun _ => by kernel_rfl) ?_
                                        refine T.pure (.string p4) (by kernel_rfl) (fun _ => by kernel_rfl) ?_
                                        refine T.pure (.bool (!(seq r8.1 p4))) (by kernel_rfl) (fun _ => by kernel_rfl) ?_
                                        refine T.pure (.bool (!(seq r8.1 p4))) (by kernel_rfl) (fun _ => by kernel_rfl) ?_
                                        refine T.pure (.bool (!(seq r8.1 p4))) (by kernel_rfl) (fun _ => by kernel_rfl) ?_
                                        refine T.nil ?_
                                        exact fun a w' hf hh => And.intro (((((((((((Fr.nil hf).pick hf 167 rfl).pick hf 97 rfl).pick hf 96 rfl).pick hf 16 rfl).pick hf 11 rfl).pick hf 5 rfl).pick hf 4 rfl).pick hf 3 rfl).pick hf 2 rfl).pick hf 1 rfl) (hh.sub (.cons_cons _ (.cons_cons _ (.cons_cons _ List.Sublist.slnil))))
                                    ·
                                      skip
                                      refine T.pure (.string r8.1) (by kernel_rfl) (fun _ => by kernel_rfl) ?_
                                      refine T.pure (.string p3) (by kernel_rfl) (fun _ => by kernel_rfl) ?_
                                      refine T.pure (.bool (!(seq r8.1 p3))) (by kernel_rfl) (fun _ => by kernel_rfl) ?_
                                      refine T.pure (.bool (!(seq r8.1 p3))) (by kernel_rfl) (fun _ => by kernel_rfl) ?_
                                      refine T.pure (.bool (!(seq r8.1 p3))) (by kernel_rfl) (fun _ => by kernel_rfl) ?_
                                      refine T.pure (.bool (!(seq r8.1 p3))) (by kernel_rfl) (fun _ => by kernel_rfl) ?_
                                      cases hg22 : (!(seq r8.1 p3))
                                      ·
                                        skip
                                        refine T.pure (.int .i64 x1) (by kernel_rfl) (fun _ => by kernel_rfl) ?_
                                        refine T.pure (.int .i64 p2) (by kernel_rfl) (fun _ => by kernel_rfl) ?_
                                        refine T.pure (.bool (x1 == p2)) (by kernel_rfl) (fun _ => by kernel_rfl) ?_
                                        refine T.pure (.bool (x1 == p2)) (by kernel_rfl) (fun _ => by kernel_rfl) ?_
                                        cases hg23 : (x1 == p2)
                                        ·
                                          skip
                                          refine T.pass (by kernel_rfl) (by kernel_rfl) ?_
                                          refine T.pass (by kernel_rfl) (by kernel_rfl) ?_
                                          refine T.pass (by kernel_rfl) (by kernel_rfl) ?_
                                          refine T.pure (.bool false) (by kernel_rfl) (fun _ => by kernel_rfl) ?_
                                          refine T.pure (.bool false) (by kernel_rfl) (fun _ => by kernel_rfl) ?_
                                          refine T.nil ?_
                                          exact fun a w' hf hh => And.intro (((((((((((Fr.nil hf).pick hf 167 rfl).pick hf 97 rfl).pick hf 96 rfl).pick hf 16 rfl).pick hf 11 rfl).pick hf 5 rfl).pick hf 4 rfl).pick hf 3 rfl).pick hf 2 rfl).pick hf 1 rfl) (hh.sub (.cons_cons _ (.cons_cons _ (.cons_cons _ List.Sublist.slnil))))
                                        ·
                                          skip
                                          refine T.pure (.string r8.1) (by kernel_rfl) (fun _ => by kernel_rfl) ?_
                                          refine T.pure (.string p4) (by kernel_rfl) (fun _ => by kernel_rfl) ?_
                                          refine T.pure (.bool (!(seq r8.1 p4))) (by kernel_rfl) (fun _ => by kernel_rfl) ?_
                                          refine T.pure (.bool (!(seq r8.1 p4))) (by kernel_rfl) (fun _ => by kernel_rfl) ?_
                                          refine T.pure (.bool (!(seq r8.1 p4))) (by kernel_rfl) (fun _ => by kernel_rfl) ?_
                                          refine T.nil ?_
                                          exact fun a w' hf hh => And.intro (((((((((((Fr.nil hf).pick hf 167 rfl).pick hf 97 rfl).pick hf 96 rfl).pick hf 16 rfl).pick hf 11 rfl).pick hf 5 rfl).pick hf 4 rfl).pick hf 3 rfl).pick hf 2 rfl).pick hf 1 rfl) (hh.sub (.cons_cons _ (.cons_cons _ (.cons_cons _ List.Sublist.slnil))))
                                      ·
                                        skip
                                        refine T.pass (by kernel_rfl) (by kernel_rfl) ?_
                                        refine T.pass (by kernel_rfl) (by kernel_rfl) ?_
                                        refine T.pass (by kernel_rfl) (by kernel_rfl) ?_
                                        refine T.pass (by kernel_rfl) (by kernel_rfl) ?_
                                        refine T.pass (by kernel_rfl) (by kernel_rfl) ?_
                                        refine T.pass (by kernel_rfl) (by kernel_rfl) ?_
                                        refine T.pass (by kernel_rfl) (by kernel_rfl) ?_
                                        refine T.pass (by kernel_rfl) (by kernel_rfl) ?_
                                        refine T.pure (.bool true) (by kernel_rfl) (fun _ => by kernel_rfl) ?_
                                        refine T.nil ?_
                                        exact fun a w' hf hh => And.intro (((((((((((Fr.nil hf).pick hf 167 rfl).pick hf 97 rfl).pick hf 96 rfl).pick hf 16 rfl).pick hf 11 rfl).pick hf 5 rfl).pick hf 4 rfl).pick hf 3 rfl).pick hf 2 rfl).pick hf 1 rfl) (hh.sub (.cons_cons _ (.cons_cons _ (.cons_cons _ List.Sublist.slnil))))
                                  ·
                                    skip
                                    refine T.pass (by kernel_rfl) (by kernel_rfl) ?_
                                    refine T.pass (by kernel_rfl) (by kernel_rfl) ?_
                                    refine T.pass (by kernel_rfl) (by kernel_rfl) ?_
                                    refine T.pass (by kernel_rfl) (by kernel_rfl) ?_
                                    refine T.pass (by kernel_rfl) (by kernel_rfl) ?_
                                    refine T.pass (by kernel_rfl) (by kernel_rfl) ?_
                                    refine T.pass (by kernel_rfl) (by kernel_rfl) ?_
                                    refine T.pass (by kernel_rfl) (by kernel_rfl) ?_
                                    refine T.pure (.bool true) (by kernel_rfl) (fun _ => by kernel_rfl) ?_
                                    refine T.pure (.bool true) (by kernel_rfl) (fun _ => by kernel_rfl) ?_
                                    refine T.pass (by kernel_rfl) (by kernel_rfl) ?_
                                    refine T.pass (by kernel_rfl) (by kernel_rfl) ?_
                                    refine T.pass (by kernel_rfl) (by kernel_rfl) ?_
                                    refine T.pass (by kernel_rfl) (by kernel_rfl) ?_
                                    refine T.pass (by kernel_rfl) (by kernel_rfl) ?_
                                    refine T.pass (by kernel_rfl) (by kernel_rfl) ?_
                                    refine T.pass (by kernel_rfl) (by kernel_rfl) ?_
                                    refine T.pass (by kernel_rfl) (by kernel_rfl) ?_
                                    refine T.pure (.bool true) (by kernel_rfl) (fun _ => by kernel_rfl) ?_
                                    refine T.nil ?_
                                    exact fun a w' hf hh => And.intro (((((((((((Fr.nil hf).pick hf 167 rfl).pick hf 97 rfl).pick hf 96 rfl).pick hf 16 rfl).pick hf 11 rfl).pick hf 5 rfl).pick hf 4 rfl).pick hf 3 rfl).pick hf 2 rfl).pick hf 1 rfl) (hh.sub (.cons_cons _ (.cons_cons _ (.cons_cons _ List.Sublist.slnil))))
                            ·
                              skip
                              refine T.pass (by kernel_rfl) (by kernel_rfl) ?_
                              refine T.pass (by kernel_rfl) (by kernel_rfl) ?_
                              refine T.pass (by kernel_rfl) (by kernel_rfl) ?_
                              refine T.pass (by kernel_rfl) (by kernel_rfl) ?_
                              refine T.pass (by kernel_rfl) (by kernel_rfl) ?_
                              refine T.pass (by kernel_rfl) (by kernel_rfl) ?_
                              refine T.pass (by kernel_rfl) (by kernel_rfl) ?_
                              refine T.pass (by kernel_rfl) (by kernel_rfl) ?_
                              refine T.pass (by kernel_rfl) (by kernel_rfl) ?_
                              refine T.pass (by kernel_rfl) (by kernel_rfl) ?_
                              refine T.pass (by kernel_rfl) (by kernel_rfl) ?_
                              refine T.pass (by kernel_rfl) (by kernel_rfl) ?_
                              refine T.pass (by kernel_rfl) (by kernel_rfl) ?_
                              refine T.pure (.bool true) (by kernel_rfl) (fun _ => by kernel_rfl) ?_
                              refine T.pure (.bool true) (by kernel_rfl) (fun _ => by kernel_rfl) ?_
                              refine T.pass (by kernel_rfl) (by kernel_rfl) ?_
                              refine T.pass (by kernel_rfl) (by kernel_rfl) ?_
                              refine T.pass (by kernel_rfl) (by kernel_rfl) ?_
                              refine T.pass (by kernel_rfl) (by kernel_rfl) ?_
                              refine T.pass (by kernel_rfl) (by kernel_rfl) ?_
                              refine T.pass (by kernel_rfl) (by kernel_rfl) ?_
                              refine T.pass (by kernel_rfl) (by kernel_rfl) ?_
                              refine T.pass (by kernel_rfl) (by kernel_rfl) ?_
                              refine T.pure (.bool true) (by kernel_rfl) (fun _ => by kernel_rfl) ?_
                              refine T.pure (.bool true) (by kernel_rfl) (fun _ => by kernel_rfl) ?_
                              refine T.pass (by kernel_rfl) (by kernel_rfl) ?_
                              refine T.pass (by kernel_rfl) (by kernel_rfl) ?_
                              refine T.pass (by kernel_rfl) (by kernel_rfl) ?_
                              refine T.pass (by kernel_rfl) (by kernel_rfl) ?_
                              refine T.pass (by kernel_rfl) (by kernel_rfl) ?_
                              refine T.pass (by kernel_rfl) (by kernel_rfl) ?_
                              refine T.pass (by kernel_rfl) (by kernel_rfl) ?_
                              refine T.pass (by kernel_rfl) (by kernel_rfl) ?_
                              refine T.pure (.bool true) (by kernel_rfl) (fun _ => by kernel_rfl) ?_
                              refine T.nil ?_
                              exact fun a w' hf hh => And.intro (((((((((((Fr.nil hf).pick hf 167 rfl).pick hf 97 rfl).pick hf 96 rfl).pick hf 16 rfl).pick hf 11 rfl).pick hf 5 rfl).pick hf 4 rfl).pick hf 3 rfl).pick hf 2 rfl).pick hf 1 rfl) (hh.sub (.cons_cons _ (.cons_cons _ (.cons_cons _ List.Sublist.slnil))))
                          ·
                            skip
                            refine T.pass (by kernel_rfl) (by kernel_rfl) ?_
                            refine T.pass (by kernel_rfl) (by kernel_rfl) ?_
                            refine T.pass (by kernel_rfl) (by kernel_rfl) ?_
                            refine T.pure (.bool true) (by kernel_rfl) (fun _ => by kernel_rfl) ?_
                            refine T.pure (.bool true) (by kernel_rfl) (fun _ => by kernel_rfl) ?_
                            refine T.pass (by kernel_rfl) (by kernel_rfl) ?_
                            refine T.pass (by kernel_rfl) (by kernel_rfl) ?_
                            refine T.pass (by kernel_rfl) (by kernel_rfl) ?_
                            refine T.pass (by kernel_rfl) (by kernel_rfl) ?_
                            refine T.pass (by kernel_rfl) (by kernel_rfl) ?_
                            refine T.pass (by kernel_rfl) (by kernel_rfl) ?_
                            refine T.pass (by kernel_rfl) (by kernel_rfl) ?_
                            refine T.pass (by kernel_rfl) (by kernel_rfl) ?_
                            refine T.pass (by kernel_rfl) (by kernel_rfl) ?_
                            refine T.pass (by kernel_rfl) (by kernel_rfl) ?_
                            refine T.pass (by kernel_rfl) (by kernel_rfl) ?_
                            refine T.pass (by kernel_rfl) (by kernel_rfl) ?_
                            refine T.pass (by kernel_rfl) (by kernel_rfl) ?_
                            refine T.pure (.bool true) (by kernel_rfl) (fun _ => by kernel_rfl) ?_
                            refine T.pure (.bool true) (by kernel_rfl) (fun _ => by kernel_rfl) ?_
                            refine T.pass (by kernel_rfl) (by kernel_rfl) ?_
                            refine T.pass (by kernel_rfl) (by kernel_rfl) ?_
                            refine T.pass (by kernel_rfl) (by kernel_rfl) ?_
                            refine T.pass (by kernel_rfl) (by kernel_rfl) ?_
                            refine T.pass (by kernel_rfl) (by kernel_rfl) ?_
                            refine T.pass (by kernel_rfl) (by kernel_rfl) ?_
                            refine T.pass (by kernel_rfl) (by kernel_rfl) ?_
                            refine T.pass (by kernel_rfl) (by kernel_rfl) ?_
                            refine T.pure (.bool true) (by kernel_rfl) (fun _ => by kernel_rfl) ?_
                            refine T.pure (.bool true) (by kernel_rfl) (fun _ => by kernel_rfl) ?_
                            refine T.pass (by kernel_rfl) (by kernel_rfl) ?_
                            refine T.pass (by kernel_rfl) (by kernel_rfl) ?_
                            refine T.pass (by kernel_rfl) (by kernel_rfl) ?_
                            refine T.pass (by kernel_rfl) (by kernel_rfl) ?_
                            refine T.pass (by kernel_rfl) (by kernel_rfl) ?_
                            refine T.pass (by kernel_rfl) (by kernel_rfl) ?_
                            refine T.pass (by kernel_rfl) (by kernel_rfl) ?_
                            refine T.pass (by kernel_rfl) (by kernel_rfl) ?_
                            refine T.pure (.bool true) (by kernel_rfl) (fun _ => by kernel_rfl) ?_
                            refine T.nil ?_
                            exact fun a w' hf hh => And.intro (((((((((((Fr.nil hf).pick hf 167 rfl).pick hf 97 rfl).pick hf 96 rfl).pick hf 16 rfl).pick hf 11 rfl).pick hf 5 rfl).pick hf 4 rfl).pick hf 3 rfl).pick hf 2 rfl).pick hf 1 rfl) (hh.sub (.cons_cons _ (.cons_cons _ (.cons_cons _ List.Sublist.slnil))))
                        ·
                          skip
                          refine T.pass (by kernel_rfl) (by kernel_rfl) ?_
                          refine T.pass (by kernel_rfl) (by kernel_rfl) ?_
                          refine T.pure (.bool true) (by kernel_rfl) (fun _ => by kernel_rfl) ?_
                          refine T.pure (.bool true) (by kernel_rfl) (fun _ => by kernel_rfl) ?_
                          refine T.pass (by kernel_rfl) (by kernel_rfl) ?_
                          refine T.pass (by kernel_rfl) (by kernel_rfl) ?_
                          refine T.pass (by kernel_rfl) (by kernel_rfl) ?_
                          refine T.pure (.bool true) (by kernel_rfl) (fun _ => by kernel_rfl) ?_
                          refine T.pure (.bool true) (by kernel_rfl) (fun _ => by kernel_rfl) ?_
                          refine T.pass (by kernel_rfl) (by kernel_rfl) ?_
                          refine T.pass (by kernel_rfl) (by kernel_rfl) ?_
                          refine T.pass (by kernel_rfl) (by kernel_rfl) ?_
                          refine T.pass (by kernel_rfl) (by kernel_rfl) ?_
                          refine T.pass (by kernel_rfl) (by kernel_rfl) ?_
                          refine T.pass (by kernel_rfl) (by kernel_rfl) ?_
                          refine T.pass (by kernel_rfl) (by kernel_rfl) ?_
                          refine T.pass (by kernel_rfl) (by kernel_rfl) ?_
                          refine T.pass (by kernel_rfl) (by kernel_rfl) ?_
                          refine T.pass (by kernel_rfl) (by kernel_rfl) ?_
                          refine T.pass (by kernel_rfl) (by kernel_rfl) ?_
                          refine T.pass (by kernel_rfl) (by kernel_rfl) ?_
                          refine T.pass (by kernel_rfl) (by kernel_rfl) ?_
                          refine T.pure (.bool true) (by kernel_rfl) (fun _ => by kernel_rfl) ?_
                          refine T.pure (.bool true) (by kernel_rfl) (fun _ => by kernel_rfl) ?_
                          refine T.pass (by kernel_rfl) (by kernel_rfl) ?_
                          refine T.pass (by kernel_rfl) (by kernel_rfl) ?_
                          refine T.pass (by kernel_rfl) (by kernel_rfl) ?_
                          refine T.pass (by kernel_rfl) (by kernel_rfl) ?_
                          refine T.pass (by kernel_rfl) (by kernel_rfl) ?_
                          refine T.pass (by kernel_rfl) (by kernel_rfl) ?_
                          refine T.pass (by kernel_rfl) (by kernel_rfl) ?_
                          refine T.pass (by kernel_rfl) (by kernel_rfl) ?_
                          refine T.pure (.bool true) (by kernel_rfl) (fun _ => by kernel_rfl) ?_
                          refine T.pure (.bool true) (by kernel_rfl) (fun _ => by kernel_rfl) ?_
                          refine T.pass (by kernel_rfl) (by kernel_rfl) ?_
                          refine T.pass (by kernel_rfl) (by kernel_rfl) ?_
                          refine T.pass (by kernel_rfl) (by kernel_rfl) ?_
                          refine T.pass (by kernel_rfl) (by kernel_rfl) ?_
                          refine T.pass (by kernel_rfl) (by kernel_rfl) ?_
                          refine T.pass (by kernel_rfl) (by kernel_rfl) ?_
                          refine T.pass (by kernel_rfl) (by kernel_rfl) ?_
                          refine T.pass (by kernel_rfl) (by kernel_rfl) ?_
                          refine T.pure (.bool true) (by kernel_rfl) (fun _ => by kernel_rfl) ?_
                          refine T.nil ?_
                          exact fun a w' hf hh => And.intro (((((((((((Fr.nil hf).pick hf 167 rfl).pick hf 97 rfl).pick hf 96 rfl).pick hf 16 rfl).pick hf 11 rfl).pick hf 5 rfl).pick hf 4 rfl).pick hf 3 rfl).pick hf 2 rfl).pick hf 1 rfl) (hh.sub (.cons_cons _ (.cons_cons _ (.cons_cons _ List.Sublist.slnil))))
                      ·
                        skip
                        refine T.pass (by kernel_rfl) (by kernel_rfl) ?_
                        refine T.pass (by kernel_rfl) (by kernel_rfl) ?_
                        refine T.pure (.bool true) (by kernel_rfl) (fun _ => by kernel_rfl) ?_
                        refine T.pure (.bool true) (by kernel_rfl) (fun _ => by kernel_rfl) ?_
                        refine T.pass (by kernel_rfl) (by kernel_rfl) ?_
                        refine T.pass (by kernel_rfl) (by kernel_rfl) ?_
                        refine T.pure (.bool true) (by kernel_rfl) (fun _ => by kernel_rfl) ?_
                        refine T.pure (.bool true) (by kernel_rfl) (fun _ => by kernel_rfl) ?_
                        refine T.pass (by kernel_rfl) (by kernel_rfl) ?_
                        refine T.pass (by kernel_rfl) (by kernel_rfl) ?_
                        refine T.pass (by kernel_rfl) (by kernel_rfl) ?_
                        refine T.pure (.bool true) (by kernel_rfl) (fun _ => by kernel_rfl) ?_
                        refine T.pure (.bool true) (by kernel_rfl) (fun _ => by kernel_rfl) ?_
                        refine T.pass (by kernel_rfl) (by kernel_rfl) ?_
                        refine T.pass (by kernel_rfl) (by kernel_rfl) ?_
                        refine T.pass (by kernel_rfl) (by kernel_rfl) ?_
                        refine T.pass (by kernel_rfl) (by kernel_rfl) ?_
                        refine T.pass (by kernel_rfl) (by kernel_rfl) ?_
                        refine T.pass (by kernel_rfl) (by kernel_rfl) ?_
                        refine T.pass (by kernel_rfl) (by kernel_rfl) ?_
                        refine T.pass (by kernel_rfl) (by kernel_rfl) ?_
                        refine T.pass (by kernel_rfl) (by kernel_rfl) ?_
                        refine T.pass (by kernel_rfl) (by kernel_rfl) ?_
                        refine T.pass (by kernel_rfl) (by kernel_rfl) ?_
                        refine T.pass (by kernel_rfl) (by kernel_rfl) ?_
                        refine T.pass (by kernel_rfl) (by kernel_rfl) ?_
                        refine T.pure (.bool true) (by kernel_rfl) (fun _ => by kernel_rfl) ?_
                        refine T.pure (.bool true) (by kernel_rfl) (fun _ => by kernel_rfl) ?_
                        refine T.pass (by kernel_rfl) (by kernel_rfl) ?_
                        refine T.pass (by kernel_rfl) (by kernel_rfl) ?_
                        refine T.pass (by kernel_rfl) (by kernel_rfl) ?_
                        refine T.pass (by kernel_rfl) (by kernel_rfl) ?_
                        refine T.pass (by kernel_rfl) (by kernel_rfl) ?_
                        refine T.pass (by kernel_rfl) (by kernel_rfl) ?_
                        refine T.pass (by kernel_rfl) (by kernel_rfl) ?_
                        refine T.pass (by kernel_rfl) (by kernel_rfl) ?_
                        refine T.pure (.bool true) (by kernel_rfl) (fun _ => by kernel_rfl) ?_
                        refine T.pure (.bool true) (by kernel_rfl) (fun _ => by kernel_rfl) ?_
                        refine T.pass (by kernel_rfl) (by kernel_rfl) ?_
                        refine T.pass (by kernel_rfl) (by kernel_rfl) ?_
                        refine T.pass (by kernel_rfl) (by kernel_rfl) ?_
                        refine T.pass (by kernel_rfl) (by kernel_rfl) ?_
                        refine T.pass (by kernel_rfl) (by kernel_rfl) ?_
                        refine T.pass (by kernel_rfl) (by kernel_rfl) ?_
                        refine T.pass (by kernel_rfl) (by kernel_rfl) ?_
                        refine T.pass (by kernel_rfl) (by kernel_rfl) ?_
                        refine T.pure (.bool true) (by kernel_rfl) (fun _ => by kernel_rfl) ?_
                        refine T.nil ?_
                        exact fun a w' hf hh => And.intro (((((((((((Fr.nil hf).pick hf 167 rfl).pick hf 97 rfl).pick hf 96 rfl).pick hf 16 rfl).pick hf 11 rfl).pick hf 5 rfl).pick hf 4 rfl).pick hf 3 rfl).pick hf 2 rfl).pick hf 1 rfl) (hh.sub (.cons_cons _ (.cons_cons _ (.cons_cons _ List.Sublist.slnil))))
                    ·
                      rintro a w' ⟨hf, hh⟩
                      refine (?_ : T 169 w V12 [box b5 25 [.slice A7 r5.1.pages.length c7, .slice A8 r5.1.writes.length c8], box b3 25 [.slice A11 r7.1.pages.length c11, .slice A12 r7.1.writes.length c12], box b1 25 [.slice A1 p0.pages.length c1, .slice A2 p0.writes.length c2]] [(1, .int .i64 p1), (2, .int .i64 p2), (3, .string p3), (4, .string p4), (5, .pointer (some ⟨b1, 0, none⟩)), (11, .pointer (some ⟨b3, 0, none⟩)), (16, .pointer (some ⟨b5, 0, none⟩)), (96, .int .i64 (p0.pages.length : Int)), (97, .int .i64 x1), (167, .bool ((r8.2 != 0) || ((r9.2 != 0) || ((r10.2 != 0) || ((!(seq r8.1 r9.1)) || (bif (x1 != p1) then (bif (x1 != p2) then ((!(seq r8.1 r10.1)) || (bif (x1 == p1) then ((!(seq r8.1 p3)) || ((x1 == p2) && (!(seq r8.1 p4)))) else ((x1 == p2) && (!(seq r8.1 p4))))) else (bif (x1 == p1) then ((!(seq r8.1 p3)) || ((x1 == p2) && (!(seq r8.1 p4)))) else ((x1 == p2) && (!(seq r8.1 p4))))) else (bif (x1 == p1) then ((!(seq r8.1 p3)) || ((x1 == p2) && (!(seq r8.1 p4)))) else ((x1 == p2) && (!(seq r8.1 p4))))))))))] _) a w' hf hh
                      clear hf hh
                      refine T.cond ((r8.2 != 0) || ((r9.2 != 0) || ((r10.2 != 0) || ((!(seq r8.1 r9.1)) || (bif (x1 != p1) then (bif (x1 != p2) then ((!(seq r8.1 r10.1)) || (bif (x1 == p1) then ((!(seq r8.1 p3)) || ((x1 == p2) && (!(seq r8.1 p4)))) else ((x1 == p2) && (!(seq r8.1 p4))))) else (bif (x1 == p1) then ((!(seq r8.1 p3)) || ((x1 == p2) && (!(seq r8.1 p4)))) else ((x1 == p2) && (!(seq r8.1 p4))))) else (bif (x1 == p1) then ((!(seq r8.1 p3)) || ((x1 == p2) && (!(seq r8.1 p4)))) else ((x1 == p2) && (!(seq r8.1 p4))))))))) (by kernel_rfl) (by kernel_rfl) (fun hc6 => ?_) (fun hc6 => ?_)
                      ·
                        rw [hc6, cond_true] at hY1
                        refine T.seq ?_
                        refine T.region ?_
                        refine T.pure (.bool false) (by kernel_rfl) (fun _ => by kernel_rfl) ?_
                        refine T.nil ?_
                        cases hY1
                        cases (hr6 _ rfl)
                        try dsimp only at hF
                        cases hF
                        refine T.ret rfl ?_
                        exact T.ret1 rfl (ResIs.tmp rfl) fun w' hh => ⟨_, rfl, hh.below, (show _ from rfl)⟩
                      ·
                        rw [hc6, cond_false] at hY1
                        refine T.skip_code ?_
                        refine T.region ?_
                        refine T.pure (.int .i64 (IntKind.i64.wrap (x1 + 1))) (by kernel_rfl) (fun _ => by kernel_rfl) ?_
                        refine T.pure (.int .i64 (IntKind.i64.wrap (x1 + 1))) (by kernel_rfl) (fun _ => by kernel_rfl) ?_
                        refine T.nil ?_
                        cases hY1
                        exact fun a w' hf hh => Exists.intro (IntKind.i64.wrap (x1 + 1)) (And.intro rfl (Exists.intro V12 (And.intro (View.le_trans (View.le_trans (View.le_trans hV8 hV10) hV11) hV12) (And.intro ((((((((((Fr.nil hf).pick hf 97 rfl).pick hf 96 rfl).pick hf 16 rfl).pick hf 11 rfl).pick hf 5 rfl).pick hf 4 rfl).pick hf 3 rfl).pick hf 2 rfl).pick hf 1 rfl) (hh.sub (.cons_cons _ (.cons_cons _ (.cons_cons _ List.Sublist.slnil))))))))
                  ·
                    rw [hc5, cond_false] at hY1
                    refine T.exit ?_
                    cases hY1
                    cases (hr6 _ rfl)
                    exact fun a w' hf hh => And.intro rfl (Exists.intro V8 (And.intro hV8 (And.intro (Fr.nil hf) (hh.sub (.cons _ (.cons _ (.cons _ List.Sublist.slnil)))))))
              ·
                rintro a w' ⟨rfl, V9, hV9, hf, hh⟩
                try dsimp only at hF
                refine (?_ : T 169 w V9 [] [] _) a w' hf hh
                clear hf hh
                refine T.seq ?_
                refine T.region ?_
                refine T.pure (.bool true) (by kernel_rfl) (fun _ => by kernel_rfl) ?_
                refine T.nil ?_
                cases hF
                refine T.ret rfl ?_
                exact T.ret1 rfl (ResIs.tmp rfl) fun w' hh => ⟨_, rfl, hh.below, (show _ from rfl)⟩

set_option maxRecDepth 100000 in
set_option maxHeartbeats 4000000 in
theorem annalkeep_DiskTwice_l (p0 : DDisk) (p1 : Int) (p2 : ByteArray) (r : Bool) (hF : annalkeep_DiskTwice p0 p1 p2 = some r) (w : World) (A1 : Option Addr) (c1 : Nat) (hs1 : SlOk (vw w) eStr A1 c1 p0.pages) (A2 : Option Addr) (c2 : Nat) (hs2 : SlOk (vw w) eWrite A2 c2 p0.writes) :
    Calls Try.prog 4 #[.agg #[.slice A1 p0.pages.length c1, .slice A2 p0.writes.length c2], .int .i64 p1, .string p2] w (Post (vSc eBool) r w) := by
  unfold annalkeep_DiskTwice at hF
  refine T.start (l := [.agg #[.slice A1 p0.pages.length c1, .slice A2 p0.writes.length c2], .int .i64 p1, .string p2]) Try.func4 rfl rfl rfl ?_
  refine T.seq ?_
  refine T.region ?_
  refine T.step (W1.new 25 [.slice A1 p0.pages.length c1, .slice A2 p0.writes.length c2] (fun b => .pointer (some ⟨b, 0, none⟩)) (by kernel_rfl) (fun _ => by kernel_rfl) (fun b1 => ?_))
  refine T.pure (.bool false) (by kernel_rfl) (fun _ => by kernel_rfl) ?_
  refine T.nil ?_
  refine T.seq ?_
  refine T.region ?_
  obtain ⟨r1, hb1, hF⟩ := Option.bind_eq_some_iff.1 hF
  refine T.step (W1.call (vAg eDisk) r1 14 #[.string (ByteArray.mk #[97])] (by kernel_rfl) (fun _ => by kernel_rfl) (fun w' hh => annalkeep_one_l (ByteArray.mk #[97]) r1 hb1 w' ) ?_)
  intro u V1 hV1 hu
  obtain ⟨cs1, rfl, hr1⟩ := vagg_elim hu
  obtain ⟨A3, c3, A4, c4, rfl, hs3, hs4⟩ := hr1
  obtain ⟨r2, hb2, hF⟩ := Option.bind_eq_some_iff.1 hF
  refine T.step (W1.call (vT2 (vAg eDisk) (vSc eInt)) r2 11 #[.agg #[.slice A3 r1.pages.length c3, .slice A4 r1.writes.length c4], .int .i64 0, .string (ByteArray.mk #[98])] (by kernel_rfl) (fun _ => by kernel_rfl) (fun w' hh => disk_Put_l r1 0 (ByteArray.mk #[98]) r2 hb2 w' A3 c3 (SlOk.mono (SlOk.mono hs3 (View.le_trans (made_le _ _) (View.le_refl _))) hh.view) A4 c4 (SlOk.mono (SlOk.mono hs4 (View.le_trans (made_le _ _) (View.le_refl _))) hh.view)) ?_)
  intro u V2 hV2 hu
  obtain ⟨u1, u2, rfl, hu1, hu2⟩ := vT2_elim hu
  obtain ⟨cs2, rfl, hr2⟩ := vagg_elim hu1
  obtain ⟨A5, c5, A6, c6, rfl, hs5, hs6⟩ := hr2
  obtain rfl := sureInt _ _ _ hu2
  refine T.pure (.tuple #[.agg #[.slice A5 r2.1.pages.length c5, .slice A6 r2.1.writes.length c6], .int .i64 r2.2]) (by kernel_rfl) (fun _ => by kernel_rfl) ?_
  refine T.pure (.agg #[.slice A5 r2.1.pages.length c5, .slice A6 r2.1.writes.length c6]) (by kernel_rfl) (fun _ => by kernel_rfl) ?_
  refine T.pure (.int .i64 r2.2) (by kernel_rfl) (fun _ => by kernel_rfl) ?_
  refine T.step (W1.new 25 [.slice none 0 0, .slice none 0 0] (fun b => .pointer (some ⟨b, 0, none⟩)) (by kernel_rfl) (fun _ => by kernel_rfl) (fun b2 => ?_))
  refine T.step (W1.store 0 [.slice A5 r2.1.pages.length c5, .slice A6 r2.1.writes.length c6] [box b2 25 [.slice A5 r2.1.pages.length c5, .slice A6 r2.1.writes.length c6], box b1 25 [.slice A1 p0.pages.length c1, .slice A2 p0.writes.length c2]] (by rfl) rfl (by kernel_rfl) (fun w' hw => exec_store (vs := [.slice A5 r2.1.pages.length c5, .slice A6 r2.1.writes.length c6]) rfl rfl rfl rfl (by kernel_rfl) (one_of rfl) (by simp) rfl hw) ?_)
  refine T.pure (.int .i64 r2.2) (by kernel_rfl) (fun _ => by kernel_rfl) ?_
  refine T.nil ?_
  refine T.seq ?_
  refine T.seq ?_
  refine T.region ?_
  refine T.look (.agg #[.slice A5 r2.1.pages.length c5, .slice A6 r2.1.writes.length c6]) (by kernel_rfl) (fun w' hh => exec_loadN (cs := [.slice A5 r2.1.pages.length c5, .slice A6 r2.1.writes.length c6]) rfl rfl (by kernel_rfl) (by kernel_rfl) (fun j u hj => (hh.box_at (i := 0) (cs := [.slice A5 r2.1.pages.length c5, .slice A6 r2.1.writes.length c6]) (by rfl) 0 j).trans (seg_at (n := 2) rfl hj))) ?_
  obtain ⟨r3, hb3, hF⟩ := Option.bind_eq_some_iff.1 hF
  refine T.step (W1.call (vT2 (vAg eDisk) (vSc eInt)) r3 15 #[.agg #[.slice A5 r2.1.pages.length c5, .slice A6 r2.1.writes.length c6], .slice none 0 0] (by kernel_rfl) (fun _ => by kernel_rfl) (fun w' hh => disk_Crash_l r2.1 ([] : List Bool) r3 hb3 w' A5 c5 (SlOk.mono (SlOk.mono hs5 (View.le_trans (made_le _ _) (View.le_refl _))) hh.view) A6 c6 (SlOk.mono (SlOk.mono hs6 (View.le_trans (made_le _ _) (View.le_refl _))) hh.view) none 0 (SlOk.nil _ _)) ?_)
  intro u V3 hV3 hu
  obtain ⟨u3, u4, rfl, hu3, hu4⟩ := vT2_elim hu
  obtain ⟨cs3, rfl, hr3⟩ := vagg_elim hu3
  obtain ⟨A7, c7, A8, c8, rfl, hs7, hs8⟩ := hr3
  obtain rfl := sureInt _ _ _ hu4
  refine T.pure (.tuple #[.agg #[.slice A7 r3.1.pages.length c7, .slice A8 r3.1.writes.length c8], .int .i64 r3.2]) (by kernel_rfl) (fun _ => by kernel_rfl) ?_
  refine T.pure (.agg #[.slice A7 r3.1.pages.length c7, .slice A8 r3.1.writes.length c8]) (by kernel_rfl) (fun _ => by kernel_rfl) ?_
  refine T.pure (.int .i64 r3.2) (by kernel_rfl) (fun _ => by kernel_rfl) ?_
  refine T.step (W1.new 25 [.slice none 0 0, .slice none 0 0] (fun b => .pointer (some ⟨b, 0, none⟩)) (by kernel_rfl) (fun _ => by kernel_rfl) (fun b3 => ?_))
  refine T.step (W1.store 0 [.slice A7 r3.1.pages.length c7, .slice A8 r3.1.writes.length c8] [box b3 25 [.slice A7 r3.1.pages.length c7, .slice A8 r3.1.writes.length c8], box b2 25 [.slice A5 r2.1.pages.length c5, .slice A6 r2.1.writes.length c6], box b1 25 [.slice A1 p0.pages.length c1, .slice A2 p0.writes.length c2]] (by rfl) rfl (by kernel_rfl) (fun w' hw => exec_store (vs := [.slice A7 r3.1.pages.length c7, .slice A8 r3.1.writes.length c8]) rfl rfl rfl rfl (by kernel_rfl) (one_of rfl) (by simp) rfl hw) ?_)
  refine T.pure (.int .i64 r3.2) (by kernel_rfl) (fun _ => by kernel_rfl) ?_
  refine T.nil ?_
  obtain ⟨z1, hX1, hF⟩ := Option.bind_eq_some_iff.1 hF
  refine T.cut (fun a w' => ∃ (V4 : View), View.le V3 V4 ∧ Fr 120 [(1, .int .i64 p1), (2, .string p2), (3, .pointer (some ⟨b1, 0, none⟩)), (7, .pointer (some ⟨b2, 0, none⟩)), (41, .bool z1)] a ∧ Hp w V4 [box b2 25 [.slice A5 r2.1.pages.length c5, .slice A6 r2.1.writes.length c6], box b1 25 [.slice A1 p0.pages.length c1, .slice A2 p0.writes.length c2]] w') ?_ ?_
  ·
    refine T.held [box b3 25 [.slice A7 r3.1.pages.length c7, .slice A8 r3.1.writes.length c8], box b2 25 [.slice A5 r2.1.pages.length c5, .slice A6 r2.1.writes.length c6], box b1 25 [.slice A1 p0.pages.length c1, .slice A2 p0.writes.length c2]] (by kernel_rfl) ?_
    refine TA.take 0 (.int .i64 r2.2) rfl (by kernel_rfl) (by kernel_rfl) (by kernel_rfl) (fun _ _ _ h => h) (Hp.old (View.le_refl _) (View.le_trans (View.le_trans hV1 hV2) hV3) (.cons_cons _ (.cons_cons _ (.cons_cons _ List.Sublist.slnil))) (OldAll.box (OldAll.box (OldAll.box OldAll.nil)))) (by kernel_rfl) (fun _ _ => by kernel_rfl) ?_
    refine TA.take 1 (.bool (r2.2 != 0)) rfl (by kernel_rfl) (by kernel_rfl) (by kernel_rfl) (fun _ _ _ h => h) (Hp.old (View.le_refl _) (View.le_trans (View.le_trans hV1 hV2) hV3) (.cons_cons _ (.cons_cons _ (.cons_cons _ List.Sublist.slnil))) (OldAll.box (OldAll.box (OldAll.box OldAll.nil)))) (by kernel_rfl) (fun _ _ => by kernel_rfl) ?_
    refine TA.take 2 (.bool (r2.2 != 0)) rfl (by kernel_rfl) (by kernel_rfl) (by kernel_rfl) (fun _ _ _ h => h) (Hp.old (View.le_refl _) (View.le_trans (View.le_trans hV1 hV2) hV3) (.cons_cons _ (.cons_cons _ (.cons_cons _ List.Sublist.slnil))) (OldAll.box (OldAll.box (OldAll.box OldAll.nil)))) (by kernel_rfl) (fun _ _ => by kernel_rfl) ?_
    cases hg1 : (r2.2 != 0)
    ·
      rw [hg1, cond_false] at hX1
      refine TA.take 3 (.int .i64 r3.2) rfl (by kernel_rfl) (by kernel_rfl) (by kernel_rfl) (fun _ _ _ h => h) (Hp.old (View.le_refl _) (View.le_trans (View.le_trans hV1 hV2) hV3) (.cons_cons _ (.cons_cons _ (.cons_cons _ List.Sublist.slnil))) (OldAll.box (OldAll.box (OldAll.box OldAll.nil)))) (by kernel_rfl) (fun _ _ => by kernel_rfl) ?_
      refine TA.take 4 (.bool (r3.2 != 0)) rfl (by kernel_rfl) (by kernel_rfl) (by kernel_rfl) (fun _ _ _ h => h) (Hp.old (View.le_refl _) (View.le_trans (View.le_trans hV1 hV2) hV3) (.cons_cons _ (.cons_cons _ (.cons_cons _ List.Sublist.slnil))) (OldAll.box (OldAll.box (OldAll.box OldAll.nil)))) (by kernel_rfl) (fun _ _ => by kernel_rfl) ?_
      refine TA.take 5 (.bool (r3.2 != 0)) rfl (by kernel_rfl) (by kernel_rfl) (by kernel_rfl) (fun _ _ _ h => h) (Hp.old (View.le_refl _) (View.le_trans (View.le_trans hV1 hV2) hV3) (.cons_cons _ (.cons_cons _ (.cons_cons _ List.Sublist.slnil))) (OldAll.box (OldAll.box (OldAll.box OldAll.nil)))) (by kernel_rfl) (fun _ _ => by kernel_rfl) ?_
      refine TA.take 6 (.bool (r3.2 != 0)) rfl (by kernel_rfl) (by kernel_rfl) (by kernel_rfl) (fun _ _ _ h => h) (Hp.old (View.le_refl _) (View.le_trans (View.le_trans hV1 hV2) hV3) (.cons_cons _ (.cons_cons _ (.cons_cons _ List.Sublist.slnil))) (OldAll.box (OldAll.box (OldAll.box OldAll.nil)))) (by kernel_rfl) (fun _ _ => by kernel_rfl) ?_
      cases hg2 : (r3.2 != 0)
      ·
        rw [hg2, cond_false] at hX1
        refine TA.take 7 (.agg #[.slice A7 r3.1.pages.length c7, .slice A8 r3.1.writes.length c8]) rfl (by kernel_rfl) (by kernel_rfl) (by kernel_rfl) (fun _ _ _ h => h) (Hp.old (View.le_refl _) (View.le_trans (View.le_trans hV1 hV2) hV3) (.cons_cons _ (.cons_cons _ (.cons_cons _ List.Sublist.slnil))) (OldAll.box (OldAll.box (OldAll.box OldAll.nil)))) (by kernel_rfl) (fun w' hh => exec_loadN (cs := [.slice A7 r3.1.pages.length c7, .slice A8 r3.1.writes.length c8]) rfl rfl (by kernel_rfl) (by kernel_rfl) (fun j u hj => (hh.box_at (i := 0) (cs := [.slice A7 r3.1.pages.length c7, .slice A8 r3.1.writes.length c8]) (by rfl) 0 j).trans (seg_at (n := 2) rfl hj))) ?_
        refine TA.all [8] (by kernel_rfl) rfl ⟨?_, trivial⟩
        obtain ⟨r4, hb4, hX1⟩ := Option.bind_eq_some_iff.1 hX1
        refine TA.br rfl (W1.call (vAg eDisk) r4 14 #[.string (ByteArray.mk #[97])] (by kernel_rfl) (fun _ => by kernel_rfl) (fun w' hh => annalkeep_one_l (ByteArray.mk #[97]) r4 hb4 w' ) ?_)
        intro u V5 hV5 hu
        obtain ⟨cs4, rfl, hr4⟩ := vagg_elim hu
        obtain ⟨A9, c9, A10, c10, rfl, hs9, hs10⟩ := hr4
        refine TA.on (Hp.old hV5 (View.le_trans (View.le_trans hV1 hV2) hV3) (.cons_cons _ (.cons_cons _ (.cons_cons _ List.Sublist.slnil))) (OldAll.box (OldAll.box (OldAll.box OldAll.nil)))) ?_
        refine TA.all [9] (by kernel_rfl) rfl ⟨?_, trivial⟩
        obtain ⟨r5, hb5, hX1⟩ := Option.bind_eq_some_iff.1 hX1
        refine TA.br rfl (W1.call (vSc eBool) r5 13 #[.agg #[.slice A7 r3.1.pages.length c7, .slice A8 r3.1.writes.length c8], .agg #[.slice A9 r4.pages.length c9, .slice A10 r4.writes.length c10]] (by kernel_rfl) (fun _ => by kernel_rfl) (fun w' hh => annalref_SameDisk_l r3.1 r4 r5 hb5 w' A7 c7 (SlOk.mono (SlOk.mono hs7 (View.le_trans (made_le _ _) hV5)) hh.view) A8 c8 (SlOk.mono (SlOk.mono hs8 (View.le_trans (made_le _ _) hV5)) hh.view) A9 c9 (SlOk.mono (SlOk.mono hs9 (View.le_trans (made_le _ _) (View.le_refl _))) hh.view) A10 c10 (SlOk.mono (SlOk.mono hs10 (View.le_trans (made_le _ _) (View.le_refl _))) hh.view)) ?_)
        intro u V6 hV6 hu
        obtain rfl := sureBool _ _ _ hu
        refine TA.on (Hp.old (View.le_trans hV5 hV6) (View.le_trans (View.le_trans hV1 hV2) hV3) (.cons_cons _ (.cons_cons _ (.cons_cons _ List.Sublist.slnil))) (OldAll.box (OldAll.box (OldAll.box OldAll.nil)))) ?_
        refine TA.take 10 (.bool (!r5)) rfl (by kernel_rfl) (by kernel_rfl) (by kernel_rfl) (fun _ _ _ h => h) (Hp.old (View.le_trans hV5 hV6) (View.le_trans (View.le_trans hV1 hV2) hV3) (.cons_cons _ (.cons_cons _ (.cons_cons _ List.Sublist.slnil))) (OldAll.box (OldAll.box (OldAll.box OldAll.nil)))) (by kernel_rfl) (fun _ _ => by kernel_rfl) ?_
        refine TA.take 11 (.bool (!r5)) rfl (by kernel_rfl) (by kernel_rfl) (by kernel_rfl) (fun _ _ _ h => h) (Hp.old (View.le_trans hV5 hV6) (View.le_trans (View.le_trans hV1 hV2) hV3) (.cons_cons _ (.cons_cons _ (.cons_cons _ List.Sublist.slnil))) (OldAll.box (OldAll.box (OldAll.box OldAll.nil)))) (by kernel_rfl) (fun _ _ => by kernel_rfl) ?_
        refine TA.done (by kernel_rfl) ?_
        cases hX1
        exact fun a w' hf hh => Exists.intro V6 (And.intro (View.le_trans hV5 hV6) (And.intro ((((((Fr.nil hf).pick hf 41 rfl).pick hf 7 rfl).pick hf 3 rfl).pick hf 2 rfl).pick hf 1 rfl) (hh.sub (.cons _ (.cons_cons _ (.cons_cons _ List.Sublist.slnil))))))
      ·
        rw [hg2, cond_true] at hX1
        refine TA.takeNo 7 rfl (by kernel_rfl) (by kernel_rfl) (by kernel_rfl) (fun _ _ _ h => h) (Hp.old (View.le_refl _) (View.le_trans (View.le_trans hV1 hV2) hV3) (.cons_cons _ (.cons_cons _ (.cons_cons _ List.Sublist.slnil))) (OldAll.box (OldAll.box (OldAll.box OldAll.nil)))) (by kernel_rfl) (by kernel_rfl) ?_
        refine TA.takeNo 8 rfl (by kernel_rfl) (by kernel_rfl) (by kernel_rfl) (fun _ _ _ h => h) (Hp.old (View.le_refl _) (View.le_trans (View.le_trans hV1 hV2) hV3) (.cons_cons _ (.cons_cons _ (.cons_cons _ List.Sublist.slnil))) (OldAll.box (OldAll.box (OldAll.box OldAll.nil)))) (by kernel_rfl) (by kernel_rfl) ?_
        refine TA.takeNo 9 rfl (by kernel_rfl) (by kernel_rfl) (by kernel_rfl) (fun _ _ _ h => h) (Hp.old (View.le_refl _) (View.le_trans (View.le_trans hV1 hV2) hV3) (.cons_cons _ (.cons_cons _ (.cons_cons _ List.Sublist.slnil))) (OldAll.box (OldAll.box (OldAll.box OldAll.nil)))) (by kernel_rfl) (by kernel_rfl) ?_
        refine TA.takeNo 10 rfl (by kernel_rfl) (by kernel_rfl) (by kernel_rfl) (fun _ _ _ h => h) (Hp.old (View.le_refl _) (View.le_trans (View.le_trans hV1 hV2) hV3) (.cons_cons _ (.cons_cons _ (.cons_cons _ List.Sublist.slnil))) (OldAll.box (OldAll.box (OldAll.box OldAll.nil)))) (by kernel_rfl) (by kernel_rfl) ?_
        refine TA.take 11 (.bool true) rfl (by kernel_rfl) (by kernel_rfl) (by kernel_rfl) (fun _ _ _ h => h) (Hp.old (View.le_refl _) (View.le_trans (View.le_trans hV1 hV2) hV3) (.cons_cons _ (.cons_cons _ (.cons_cons _ List.Sublist.slnil))) (OldAll.box (OldAll.box (OldAll.box OldAll.nil)))) (by kernel_rfl) (fun _ _ => by kernel_rfl) ?_
        refine TA.done (by kernel_rfl) ?_
        cases hX1
        exact fun a w' hf hh => Exists.intro V3 (And.intro (View.le_refl _) (And.intro ((((((Fr.nil hf).pick hf 41 rfl).pick hf 7 rfl).pick hf 3 rfl).pick hf 2 rfl).pick hf 1 rfl) (hh.sub (.cons _ (.cons_cons _ (.cons_cons _ List.Sublist.slnil))))))
    ·
      rw [hg1, cond_true] at hX1
      refine TA.takeNo 3 rfl (by kernel_rfl) (by kernel_rfl) (by kernel_rfl) (fun _ _ _ h => h) (Hp.old (View.le_refl _) (View.le_trans (View.le_trans hV1 hV2) hV3) (.cons_cons _ (.cons_cons _ (.cons_cons _ List.Sublist.slnil))) (OldAll.box (OldAll.box (OldAll.box OldAll.nil)))) (by kernel_rfl) (by kernel_rfl) ?_
      refine TA.takeNo 4 rfl (by kernel_rfl) (by kernel_rfl) (by kernel_rfl) (fun _ _ _ h => h) (Hp.old (View.le_refl _) (View.le_trans (View.le_trans hV1 hV2) hV3) (.cons_cons _ (.cons_cons _ (.cons_cons _ List.Sublist.slnil))) (OldAll.box (OldAll.box (OldAll.box OldAll.nil)))) (by kernel_rfl) (by kernel_rfl) ?_
      refine TA.take 5 (.bool true) rfl (by kernel_rfl) (by kernel_rfl) (by kernel_rfl) (fun _ _ _ h => h) (Hp.old (View.le_refl _) (View.le_trans (View.le_trans hV1 hV2) hV3) (.cons_cons _ (.cons_cons _ (.cons_cons _ List.Sublist.slnil))) (OldAll.box (OldAll.box (OldAll.box OldAll.nil)))) (by kernel_rfl) (fun _ _ => by kernel_rfl) ?_
      refine TA.take 6 (.bool true) rfl (by kernel_rfl) (by kernel_rfl) (by kernel_rfl) (fun _ _ _ h => h) (Hp.old (View.le_refl _) (View.le_trans (View.le_trans hV1 hV2) hV3) (.cons_cons _ (.cons_cons _ (.cons_cons _ List.Sublist.slnil))) (OldAll.box (OldAll.box (OldAll.box OldAll.nil)))) (by kernel_rfl) (fun _ _ => by kernel_rfl) ?_
      refine TA.takeNo 7 rfl (by kernel_rfl) (by kernel_rfl) (by kernel_rfl) (fun _ _ _ h => h) (Hp.old (View.le_refl _) (View.le_trans (View.le_trans hV1 hV2) hV3) (.cons_cons _ (.cons_cons _ (.cons_cons _ List.Sublist.slnil))) (OldAll.box (OldAll.box (OldAll.box OldAll.nil)))) (by kernel_rfl) (by kernel_rfl) ?_
      refine TA.takeNo 8 rfl (by kernel_rfl) (by kernel_rfl) (by kernel_rfl) (fun _ _ _ h => h) (Hp.old (View.le_refl _) (View.le_trans (View.le_trans hV1 hV2) hV3) (.cons_cons _ (.cons_cons _ (.cons_cons _ List.Sublist.slnil))) (OldAll.box (OldAll.box (OldAll.box OldAll.nil)))) (by kernel_rfl) (by kernel_rfl) ?_
      refine TA.takeNo 9 rfl (by kernel_rfl) (by kernel_rfl) (by kernel_rfl) (fun _ _ _ h => h) (Hp.old (View.le_refl _) (View.le_trans (View.le_trans hV1 hV2) hV3) (.cons_cons _ (.cons_cons _ (.cons_cons _ List.Sublist.slnil))) (OldAll.box (OldAll.box (OldAll.box OldAll.nil)))) (by kernel_rfl) (by kernel_rfl) ?_
      refine TA.takeNo 10 rfl (by kernel_rfl) (by kernel_rfl) (by kernel_rfl) (fun _ _ _ h => h) (Hp.old (View.le_refl _) (View.le_trans (View.le_trans hV1 hV2) hV3) (.cons_cons _ (.cons_cons _ (.cons_cons _ List.Sublist.slnil))) (OldAll.box (OldAll.box (OldAll.box OldAll.nil)))) (by kernel_rfl) (by kernel_rfl) ?_
      refine TA.take 11 (.bool true) rfl (by kernel_rfl) (by kernel_rfl) (by kernel_rfl) (fun _ _ _ h => h) (Hp.old (View.le_refl _) (View.le_trans (View.le_trans hV1 hV2) hV3) (.cons_cons _ (.cons_cons _ (.cons_cons _ List.Sublist.slnil))) (OldAll.box (OldAll.box (OldAll.box OldAll.nil)))) (by kernel_rfl) (fun _ _ => by kernel_rfl) ?_
      refine TA.done (by kernel_rfl) ?_
      cases hX1
      exact fun a w' hf hh => Exists.intro V3 (And.intro (View.le_refl _) (And.intro ((((((Fr.nil hf).pick hf 41 rfl).pick hf 7 rfl).pick hf 3 rfl).pick hf 2 rfl).pick hf 1 rfl) (hh.sub (.cons _ (.cons_cons _ (.cons_cons _ List.Sublist.slnil))))))
  ·
    rintro a w' ⟨V4, hV4, hf, hh⟩
    refine (?_ : T 120 w V4 [box b2 25 [.slice A5 r2.1.pages.length c5, .slice A6 r2.1.writes.length c6], box b1 25 [.slice A1 p0.pages.length c1, .slice A2 p0.writes.length c2]] [(1, .int .i64 p1), (2, .string p2), (3, .pointer (some ⟨b1, 0, none⟩)), (7, .pointer (some ⟨b2, 0, none⟩)), (41, .bool z1)] _) a w' hf hh
    clear hf hh
    refine T.cond z1 (by kernel_rfl) (by kernel_rfl) (fun hc1 => ?_) (fun hc1 => ?_)
    ·
      rw [hc1, cond_true] at hF
      refine T.seq ?_
      refine T.region ?_
      refine T.pure (.bool false) (by kernel_rfl) (fun _ => by kernel_rfl) ?_
      refine T.nil ?_
      cases hF
      refine T.ret rfl ?_
      exact T.ret1 rfl (ResIs.tmp rfl) fun w' hh => ⟨_, rfl, hh.below, (show _ from rfl)⟩
    ·
      rw [hc1, cond_false] at hF
      refine T.skip_code ?_
      obtain ⟨q1, hX2, hF⟩ := Option.bind_eq_some_iff.1 hF
      refine T.cut (fun a w' => ∃ (z2 : List ByteArray) (z3 : List DWrite), q1 = (z2, z3) ∧ ∃ (A11 : Option Addr) (c11 : Nat) (A12 : Option Addr) (c12 : Nat) (V7 : View), View.le V4 V7 ∧ SlOk V7 eStr A11 c11 z2 ∧ SlOk V7 eWrite A12 c12 z3 ∧ Fr 120 [(7, .pointer (some ⟨b2, 0, none⟩))] a ∧ Hp w V7 [box b2 25 [.slice A11 z2.length c11, .slice A12 z3.length c12]] w') ?_ ?_
      ·
        refine T.seq ?_
        refine T.region ?_
        refine T.look (.agg #[.slice A1 p0.pages.length c1, .slice A2 p0.writes.length c2]) (by kernel_rfl) (fun w' hh => exec_loadN (cs := [.slice A1 p0.pages.length c1, .slice A2 p0.writes.length c2]) rfl rfl (by kernel_rfl) (by kernel_rfl) (fun j u hj => (hh.box_at (i := 1) (cs := [.slice A1 p0.pages.length c1, .slice A2 p0.writes.length c2]) (by rfl) 0 j).trans (seg_at (n := 2) rfl hj))) ?_
        refine T.pure (.int .i64 p1) (by kernel_rfl) (fun _ => by kernel_rfl) ?_
        refine T.pure (.string p2) (by kernel_rfl) (fun _ => by kernel_rfl) ?_
        obtain ⟨r6, hb6, hX2⟩ := Option.bind_eq_some_iff.1 hX2
        refine T.step (W1.call (vT2 (vAg eDisk) (vSc eInt)) r6 11 #[.agg #[.slice A1 p0.pages.length c1, .slice A2 p0.writes.length c2], .int .i64 p1, .string p2] (by kernel_rfl) (fun _ => by kernel_rfl) (fun w' hh => disk_Put_l p0 p1 p2 r6 hb6 w' A1 c1 (SlOk.mono (SlOk.mono hs1 (View.le_trans (View.le_trans (View.le_trans hV1 hV2) hV3) hV4)) hh.view) A2 c2 (SlOk.mono (SlOk.mono hs2 (View.le_trans (View.le_trans (View.le_trans hV1 hV2) hV3) hV4)) hh.view)) ?_)
        intro u V8 hV8 hu
        obtain ⟨u5, u6, rfl, hu5, hu6⟩ := vT2_elim hu
        obtain ⟨cs5, rfl, hr5⟩ := vagg_elim hu5
        obtain ⟨A13, c13, A14, c14, rfl, hs13, hs14⟩ := hr5
        obtain rfl := sureInt _ _ _ hu6
        refine T.pure (.tuple #[.agg #[.slice A13 r6.1.pages.length c13, .slice A14 r6.1.writes.length c14], .int .i64 r6.2]) (by kernel_rfl) (fun _ => by kernel_rfl) ?_
        refine T.pure (.agg #[.slice A13 r6.1.pages.length c13, .slice A14 r6.1.writes.length c14]) (by kernel_rfl) (fun _ => by kernel_rfl) ?_
        refine T.pure (.int .i64 r6.2) (by kernel_rfl) (fun _ => by kernel_rfl) ?_
        refine T.step (W1.store 0 [.slice A13 r6.1.pages.length c13, .slice A14 r6.1.writes.length c14] [box b2 25 [.slice A13 r6.1.pages.length c13, .slice A14 r6.1.writes.length c14], box b1 25 [.slice A1 p0.pages.length c1, .slice A2 p0.writes.length c2]] (by rfl) rfl (by kernel_rfl) (fun w' hw => exec_store (vs := [.slice A13 r6.1.pages.length c13, .slice A14 r6.1.writes.length c14]) rfl rfl rfl rfl (by kernel_rfl) (one_of rfl) (by simp) rfl hw) ?_)
        refine T.pure (.int .i64 r6.2) (by kernel_rfl) (fun _ => by kernel_rfl) ?_
        refine T.nil ?_
        refine T.seq ?_
        refine T.region ?_
        refine T.pure (.int .i64 r6.2) (by kernel_rfl) (fun _ => by kernel_rfl) ?_
        refine T.pure (.bool (r6.2 != 0)) (by kernel_rfl) (fun _ => by kernel_rfl) ?_
        refine T.nil ?_
        refine T.cond (r6.2 != 0) (by kernel_rfl) (by kernel_rfl) (fun hc2 => ?_) (fun hc2 => ?_)
        ·
          rw [hc2, cond_true] at hX2
          refine T.region ?_
          refine T.look (.agg #[.slice A1 p0.pages.length c1, .slice A2 p0.writes.length c2]) (by kernel_rfl) (fun w' hh => exec_loadN (cs := [.slice A1 p0.pages.length c1, .slice A2 p0.writes.length c2]) rfl rfl (by kernel_rfl) (by kernel_rfl) (fun j u hj => (hh.box_at (i := 1) (cs := [.slice A1 p0.pages.length c1, .slice A2 p0.writes.length c2]) (by rfl) 0 j).trans (seg_at (n := 2) rfl hj))) ?_
          refine T.step (W1.store 0 [.slice A1 p0.pages.length c1, .slice A2 p0.writes.length c2] [box b2 25 [.slice A1 p0.pages.length c1, .slice A2 p0.writes.length c2], box b1 25 [.slice A1 p0.pages.length c1, .slice A2 p0.writes.length c2]] (by rfl) rfl (by kernel_rfl) (fun w' hw => exec_store (vs := [.slice A1 p0.pages.length c1, .slice A2 p0.writes.length c2]) rfl rfl rfl rfl (by kernel_rfl) (one_of rfl) (by simp) rfl hw) ?_)
          refine T.nil ?_
          cases hX2
          exact fun a w' hf hh => Exists.intro p0.pages (Exists.intro p0.writes (And.intro rfl (Exists.intro A1 (Exists.intro c1 (Exists.intro A2 (Exists.intro c2 (Exists.intro V8 (And.intro hV8 (And.intro (SlOk.mono hs1 (View.le_trans (View.le_trans (View.le_trans (View.le_trans hV1 hV2) hV3) hV4) hV8)) (And.intro (SlOk.mono hs2 (View.le_trans (View.le_trans (View.le_trans (View.le_trans hV1 hV2) hV3) hV4) hV8)) (And.intro ((Fr.nil hf).pick hf 7 rfl) (hh.sub (.cons_cons _ (.cons _ List.Sublist.slnil))))))))))))))
        ·
          rw [hc2, cond_false] at hX2
          refine T.skip_code ?_
          cases hX2
          exact fun a w' hf hh => Exists.intro r6.1.pages (Exists.intro r6.1.writes (And.intro rfl (Exists.intro A13 (Exists.intro c13 (Exists.intro A14 (Exists.intro c14 (Exists.intro V8 (And.intro hV8 (And.intro (SlOk.mono hs13 (View.le_trans (made_le _ _) (View.le_refl _))) (And.intro (SlOk.mono hs14 (View.le_trans (made_le _ _) (View.le_refl _))) (And.intro ((Fr.nil hf).pick hf 7 rfl) (hh.sub (.cons_cons _ (.cons _ List.Sublist.slnil))))))))))))))
      ·
        rintro a w' ⟨z2, z3, rfl, A11, c11, A12, c12, V7, hV7, hs11, hs12, hf, hh⟩
        try dsimp only at hF
        refine (?_ : T 120 w V7 [box b2 25 [.slice A11 z2.length c11, .slice A12 z3.length c12]] [(7, .pointer (some ⟨b2, 0, none⟩))] _) a w' hf hh
        clear hf hh
        refine T.seq ?_
        refine T.seq ?_
        refine T.region ?_
        refine T.look (.agg #[.slice A11 z2.length c11, .slice A12 z3.length c12]) (by kernel_rfl) (fun w' hh => exec_loadN (cs := [.slice A11 z2.length c11, .slice A12 z3.length c12]) rfl rfl (by kernel_rfl) (by kernel_rfl) (fun j u hj => (hh.box_at (i := 0) (cs := [.slice A11 z2.length c11, .slice A12 z3.length c12]) (by rfl) 0 j).trans (seg_at (n := 2) rfl hj))) ?_
        obtain ⟨r7, hb7, hF⟩ := Option.bind_eq_some_iff.1 hF
        refine T.step (W1.call (vSc eInt) r7 16 #[.agg #[.slice A11 z2.length c11, .slice A12 z3.length c12]] (by kernel_rfl) (fun _ => by kernel_rfl) (fun w' hh => disk_Check_l (DDisk.mk z2 z3) r7 hb7 w' A11 c11 (SlOk.mono hs11 hh.view) A12 c12 (SlOk.mono hs12 hh.view)) ?_)
        intro u V9 hV9 hu
        obtain rfl := sureInt _ _ _ hu
        refine T.pure (.bool (r7 != 0)) (by kernel_rfl) (fun _ => by kernel_rfl) ?_
        refine T.nil ?_
        refine T.cond (r7 != 0) (by kernel_rfl) (by kernel_rfl) (fun hc3 => ?_) (fun hc3 => ?_)
        ·
          rw [hc3, cond_true] at hF
          refine T.seq ?_
          refine T.region ?_
          refine T.pure (.bool true) (by kernel_rfl) (fun _ => by kernel_rfl) ?_
          refine T.nil ?_
          cases hF
          refine T.ret rfl ?_
          exact T.ret1 rfl (ResIs.tmp rfl) fun w' hh => ⟨_, rfl, hh.below, (show _ from rfl)⟩
        ·
          rw [hc3, cond_false] at hF
          refine T.skip_code ?_
          refine T.seq ?_
          refine T.region ?_
          refine T.pure (.pointer (some ⟨b2, 1, none⟩)) (by kernel_rfl) (fun _ => by kernel_rfl) ?_
          refine T.look (.slice A12 z3.length c12) (by kernel_rfl) (fun w' hh => exec_load1 rfl rfl (by kernel_rfl) (hh.cellBox (i := 0) (by rfl) 1)) ?_
          refine T.pure (.int .i64 (z3.length : Int)) (by kernel_rfl) (fun _ => by kernel_rfl) ?_
          obtain ⟨u7, hb8, hF⟩ := Option.bind_eq_some_iff.1 hF
          obtain ⟨ti, hti, hz1, hz2, hz3⟩ := info_parts (P := Try.prog) (e := 4) (z := .bool false) (size := 1) (bytes := 1) (by kernel_rfl)
          obtain ⟨hb8_n, hb8_r, hb8_m⟩ := makes_some hb8
          refine T.step (W1.make (E := eBool) ((z3.length : Int).toNat) (false : Bool) _ _ .i64 .i64 1 ti _ (by kernel_rfl) rfl (by kernel_rfl) hti hz1 hz2 hz3 (congrArg (Value.int _) hb8_n.symm) (congrArg (Value.int _) hb8_n.symm) (fun _ => rfl) rfl hb8_r hb8_m (fun A15 => ?_))
          refine T.pure (.slice A15 ((List.replicate ((z3.length : Int).toNat) (false : Bool)).length) ((z3.length : Int).toNat)) (by kernel_rfl) (fun _ => by kernel_rfl) ?_
          refine T.nil ?_
          refine T.seq ?_
          refine T.seq ?_
          refine T.region ?_
          refine T.pure (.slice A15 ((List.replicate ((z3.length : Int).toNat) (false : Bool)).length) ((z3.length : Int).toNat)) (by kernel_rfl) (fun _ => by kernel_rfl) ?_
          refine T.pure (.int .i64 ((List.replicate ((z3.length : Int).toNat) (false : Bool)).length : Int)) (by kernel_rfl) (fun _ => by kernel_rfl) ?_
          refine T.pure (.int .i64 0) (by kernel_rfl) (fun _ => by kernel_rfl) ?_
          refine T.nil ?_
          obtain ⟨z4, hz1, hF⟩ := Option.bind_eq_some_iff.1 hF
          refine T.mid (fun a w' => ∃ (A17 : Option Addr) (c16 : Nat), Fr 120 [(7, .pointer (some ⟨b2, 0, none⟩)), (11, .slice A17 z4.length c16)] a ∧ Hp w V9 [row 4 eBool A17 c16 z4, box b2 25 [.slice A11 z2.length c11, .slice A12 z3.length c12]] w') ?_ ?_
          ·
            refine T.block ?_
            refine T.iter (fun s1 a w' => ∃ (x1 : List Bool) (x2 : Int), s1 = (x1, x2) ∧ ∃ (A16 : Option Addr) (c15 : Nat), Fr 120 [(7, .pointer (some ⟨b2, 0, none⟩)), (11, .slice A16 x1.length c15), (60, .int .i64 ((List.replicate ((z3.length : Int).toNat) (false : Bool)).length : Int)), (61, .int .i64 x2)] a ∧ Hp w V9 [row 4 eBool A16 c15 x1, box b2 25 [.slice A11 z2.length c11, .slice A12 z3.length c12]] w') hz1 ?_ ?_
            ·
              exact fun a w' hf hh => Exists.intro (List.replicate ((z3.length : Int).toNat) (false : Bool)) (Exists.intro 0 (And.intro rfl (Exists.intro A15 (Exists.intro ((z3.length : Int).toNat) (And.intro (((((Fr.nil hf).pick hf 61 rfl).pick hf 60 rfl).pick hf 11 rfl).pick hf 7 rfl) (hh.sub (.cons_cons _ (.cons_cons _ List.Sublist.slnil))))))))
            ·
              rintro s1 y1 hY1 hr6 a w' ⟨x1, x2, rfl, A16, c15, hf, hh⟩
              refine (?_ : T 120 w V9 [row 4 eBool A16 c15 x1, box b2 25 [.slice A11 z2.length c11, .slice A12 z3.length c12]] [(7, .pointer (some ⟨b2, 0, none⟩)), (11, .slice A16 x1.length c15), (60, .int .i64 ((List.replicate ((z3.length : Int).toNat) (false : Bool)).length : Int)), (61, .int .i64 x2)] _) a w' hf hh
              clear hf hh
              try dsimp only at hY1
              refine T.seq ?_
              refine T.region ?_
              refine T.pure (.bool (decide (x2 < ((List.replicate ((z3.length : Int).toNat) (false : Bool)).length : Int)))) (by kernel_rfl) (fun _ => by kernel_rfl) ?_
              refine T.nil ?_
              refine T.seq ?_
              refine T.cond (decide (x2 < ((List.replicate ((z3.length : Int).toNat) (false : Bool)).length : Int))) (by kernel_rfl) (by kernel_rfl) (fun hc4 => ?_) (fun hc4 => ?_)
              ·
                rw [hc4, cond_true] at hY1
                refine T.skip_code ?_
                refine T.seq ?_
                refine T.block ?_
                refine T.seq ?_
                refine T.region ?_
                refine T.pure (.int .i64 x2) (by kernel_rfl) (fun _ => by kernel_rfl) ?_
                refine T.pure (.int .i64 x2) (by kernel_rfl) (fun _ => by kernel_rfl) ?_
                refine T.nil ?_
                refine T.region ?_
                refine T.pure (.slice A16 x1.length c15) (by kernel_rfl) (fun _ => by kernel_rfl) ?_
                refine T.pure (.int .i64 x2) (by kernel_rfl) (fun _ => by kernel_rfl) ?_
                obtain ⟨e1, hb9, hY1⟩ := Option.bind_eq_some_iff.1 hY1
                obtain ⟨hi1, hi2, hi3⟩ := idx_some hb9
                refine T.look (.pointer (some ((sadr A16).add (x2.toNat * 1)))) (by kernel_rfl) (fun w' hh => exec_indexAddr (e := 4) (s := 1) rfl rfl rfl (by kernel_rfl) (by kernel_rfl) hi1 hi2 ((hh.row_slOk (i := 0) (by rfl)).some_ hi3 (by decide))) ?_
                refine T.step (W1.storeRow (E := eBool) 0 (x2.toNat) 0 e1 true _ (vs := [.bool true]) (by rfl) (by kernel_rfl) rfl rfl (addr_add0 _).symm rfl rfl (fun _ => by kernel_rfl) (one_of rfl) hi3 (Nat.le_of_ble_eq_true (by kernel_rfl)) (fun _ _ h => by cases h; rfl) ?_)
                refine T.reslot 11 (.slice A16 ((x1.set x2.toNat true).length) c15) rfl (by simp only [List.length_set]) ?_
                refine T.reslot 64 (.slice A16 ((x1.set x2.toNat true).length) c15) rfl (by simp only [List.length_set]) ?_
                refine T.nil ?_
                refine T.region ?_
                refine T.pure (.int .i64 (IntKind.i64.wrap (x2 + 1))) (by kernel_rfl) (fun _ => by kernel_rfl) ?_
                refine T.pure (.int .i64 (IntKind.i64.wrap (x2 + 1))) (by kernel_rfl) (fun _ => by kernel_rfl) ?_
                refine T.nil ?_
                cases hY1
                exact fun a w' hf hh => Exists.intro ((x1.set x2.toNat true), IntKind.i64.wrap (x2 + 1)) (And.intro rfl (Exists.intro (x1.set x2.toNat true) (Exists.intro (IntKind.i64.wrap (x2 + 1)) (And.intro rfl (Exists.intro A16 (Exists.intro c15 (And.intro (((((Fr.nil hf).pick hf 61 rfl).pick hf 60 rfl).pick hf 11 rfl).pick hf 7 rfl) (hh.sub (.cons_cons _ (.cons_cons _ List.Sublist.slnil))))))))))
              ·
                rw [hc4, cond_false] at hY1
                refine T.exit ?_
                cases hY1
                cases (hr6 _ rfl)
                exact fun a w' hf hh => Exists.intro A16 (Exists.intro c15 (And.intro (((Fr.nil hf).pick hf 11 rfl).pick hf 7 rfl) (hh.sub (.cons_cons _ (.cons_cons _ List.Sublist.slnil)))))
          ·
            rintro a w' ⟨A17, c16, hf, hh⟩
            refine (?_ : T 120 w V9 [row 4 eBool A17 c16 z4, box b2 25 [.slice A11 z2.length c11, .slice A12 z3.length c12]] [(7, .pointer (some ⟨b2, 0, none⟩)), (11, .slice A17 z4.length c16)] _) a w' hf hh
            clear hf hh
            refine T.seq ?_
            refine T.region ?_
            refine T.look (.agg #[.slice A11 z2.length c11, .slice A12 z3.length c12]) (by kernel_rfl) (fun w' hh => exec_loadN (cs := [.slice A11 z2.length c11, .slice A12 z3.length c12]) rfl rfl (by kernel_rfl) (by kernel_rfl) (fun j u hj => (hh.box_at (i := 1) (cs := [.slice A11 z2.length c11, .slice A12 z3.length c12]) (by rfl) 0 j).trans (seg_at (n := 2) rfl hj))) ?_
            obtain ⟨r9, hb10, hF⟩ := Option.bind_eq_some_iff.1 hF
            refine T.step (W1.call (vT2 (vAg eDisk) (vSc eInt)) r9 17 #[.agg #[.slice A11 z2.length c11, .slice A12 z3.length c12]] (by kernel_rfl) (fun _ => by kernel_rfl) (fun w' hh => disk_Sync_l (DDisk.mk z2 z3) r9 hb10 w' A11 c11 (SlOk.mono (SlOk.mono hs11 hV9) hh.view) A12 c12 (SlOk.mono (SlOk.mono hs12 hV9) hh.view)) ?_)
            intro u V10 hV10 hu
            obtain ⟨u8, u9, rfl, hu7, hu8⟩ := vT2_elim hu
            obtain ⟨cs6, rfl, hr7⟩ := vagg_elim hu7
            obtain ⟨A18, c17, A19, c18, rfl, hs15, hs16⟩ := hr7
            obtain rfl := sureInt _ _ _ hu8
            refine T.pure (.tuple #[.agg #[.slice A18 r9.1.pages.length c17, .slice A19 r9.1.writes.length c18], .int .i64 r9.2]) (by kernel_rfl) (fun _ => by kernel_rfl) ?_
            refine T.pure (.agg #[.slice A18 r9.1.pages.length c17, .slice A19 r9.1.writes.length c18]) (by kernel_rfl) (fun _ => by kernel_rfl) ?_
            refine T.pure (.int .i64 r9.2) (by kernel_rfl) (fun _ => by kernel_rfl) ?_
            refine T.step (W1.new 25 [.slice none 0 0, .slice none 0 0] (fun b => .pointer (some ⟨b, 0, none⟩)) (by kernel_rfl) (fun _ => by kernel_rfl) (fun b4 => ?_))
            refine T.step (W1.store 0 [.slice A18 r9.1.pages.length c17, .slice A19 r9.1.writes.length c18] [box b4 25 [.slice A18 r9.1.pages.length c17, .slice A19 r9.1.writes.length c18], row 4 eBool A17 c16 z4, box b2 25 [.slice A11 z2.length c11, .slice A12 z3.length c12]] (by rfl) rfl (by kernel_rfl) (fun w' hw => exec_store (vs := [.slice A18 r9.1.pages.length c17, .slice A19 r9.1.writes.length c18]) rfl rfl rfl rfl (by kernel_rfl) (one_of rfl) (by simp) rfl hw) ?_)
            refine T.pure (.int .i64 r9.2) (by kernel_rfl) (fun _ => by kernel_rfl) ?_
            refine T.nil ?_
            refine T.seq ?_
            refine T.region ?_
            refine T.look (.agg #[.slice A18 r9.1.pages.length c17, .slice A19 r9.1.writes.length c18]) (by kernel_rfl) (fun w' hh => exec_loadN (cs := [.slice A18 r9.1.pages.length c17, .slice A19 r9.1.writes.length c18]) rfl rfl (by kernel_rfl) (by kernel_rfl) (fun j u hj => (hh.box_at (i := 0) (cs := [.slice A18 r9.1.pages.length c17, .slice A19 r9.1.writes.length c18]) (by rfl) 0 j).trans (seg_at (n := 2) rfl hj))) ?_
            obtain ⟨r10, hb11, hF⟩ := Option.bind_eq_some_iff.1 hF
            refine T.step (W1.call (vT2 (vAg eDisk) (vSc eInt)) r10 17 #[.agg #[.slice A18 r9.1.pages.length c17, .slice A19 r9.1.writes.length c18]] (by kernel_rfl) (fun _ => by kernel_rfl) (fun w' hh => disk_Sync_l r9.1 r10 hb11 w' A18 c17 (SlOk.mono (SlOk.mono hs15 (View.le_trans (made_le _ _) (View.le_refl _))) hh.view) A19 c18 (SlOk.mono (SlOk.mono hs16 (View.le_trans (made_le _ _) (View.le_refl _))) hh.view)) ?_)
            intro u V11 hV11 hu
            obtain ⟨u10, u11, rfl, hu9, hu10⟩ := vT2_elim hu
            obtain ⟨cs7, rfl, hr8⟩ := vagg_elim hu9
            obtain ⟨A20, c19, A21, c20, rfl, hs17, hs18⟩ := hr8
            obtain rfl := sureInt _ _ _ hu10
            refine T.pure (.tuple #[.agg #[.slice A20 r10.1.pages.length c19, .slice A21 r10.1.writes.length c20], .int .i64 r10.2]) (by kernel_rfl) (fun _ => by kernel_rfl) ?_
            refine T.pure (.agg #[.slice A20 r10.1.pages.length c19, .slice A21 r10.1.writes.length c20]) (by kernel_rfl) (fun _ => by kernel_rfl) ?_
            refine T.pure (.int .i64 r10.2) (by kernel_rfl) (fun _ => by kernel_rfl) ?_
            refine T.step (W1.new 25 [.slice none 0 0, .slice none 0 0] (fun b => .pointer (some ⟨b, 0, none⟩)) (by kernel_rfl) (fun _ => by kernel_rfl) (fun b5 => ?_))
            refine T.step (W1.store 0 [.slice A20 r10.1.pages.length c19, .slice A21 r10.1.writes.length c20] [box b5 25 [.slice A20 r10.1.pages.length c19, .slice A21 r10.1.writes.length c20], box b4 25 [.slice A18 r9.1.pages.length c17, .slice A19 r9.1.writes.length c18], row 4 eBool A17 c16 z4, box b2 25 [.slice A11 z2.length c11, .slice A12 z3.length c12]] (by rfl) rfl (by kernel_rfl) (fun w' hw => exec_store (vs := [.slice A20 r10.1.pages.length c19, .slice A21 r10.1.writes.length c20]) rfl rfl rfl rfl (by kernel_rfl) (one_of rfl) (by simp) rfl hw) ?_)
            refine T.pure (.int .i64 r10.2) (by kernel_rfl) (fun _ => by kernel_rfl) ?_
            refine T.nil ?_
            refine T.seq ?_
            refine T.region ?_
            refine T.look (.agg #[.slice A11 z2.length c11, .slice A12 z3.length c12]) (by kernel_rfl) (fun w' hh => exec_loadN (cs := [.slice A11 z2.length c11, .slice A12 z3.length c12]) rfl rfl (by kernel_rfl) (by kernel_rfl) (fun j u hj => (hh.box_at (i := 3) (cs := [.slice A11 z2.length c11, .slice A12 z3.length c12]) (by rfl) 0 j).trans (seg_at (n := 2) rfl hj))) ?_
            refine T.pure (.slice A17 z4.length c16) (by kernel_rfl) (fun _ => by kernel_rfl) ?_
            obtain ⟨r11, hb12, hF⟩ := Option.bind_eq_some_iff.1 hF
            refine T.step (W1.call (vT2 (vAg eDisk) (vSc eInt)) r11 15 #[.agg #[.slice A11 z2.length c11, .slice A12 z3.length c12], .slice A17 z4.length c16] (by kernel_rfl) (fun _ => by kernel_rfl) (fun w' hh => disk_Crash_l (DDisk.mk z2 z3) z4 r11 hb12 w' A11 c11 (SlOk.mono (SlOk.mono hs11 (View.le_trans (View.le_trans hV9 hV10) hV11)) hh.view) A12 c12 (SlOk.mono (SlOk.mono hs12 (View.le_trans (View.le_trans hV9 hV10) hV11)) hh.view) A17 c16 (hh.row_slOk (i := 2) (by rfl))) ?_)
            intro u V12 hV12 hu
            obtain ⟨u12, u13, rfl, hu11, hu12⟩ := vT2_elim hu
            obtain ⟨cs8, rfl, hr9⟩ := vagg_elim hu11
            obtain ⟨A22, c21, A23, c22, rfl, hs19, hs20⟩ := hr9
            obtain rfl := sureInt _ _ _ hu12
            refine T.pure (.tuple #[.agg #[.slice A22 r11.1.pages.length c21, .slice A23 r11.1.writes.length c22], .int .i64 r11.2]) (by kernel_rfl) (fun _ => by kernel_rfl) ?_
            refine T.pure (.agg #[.slice A22 r11.1.pages.length c21, .slice A23 r11.1.writes.length c22]) (by kernel_rfl) (fun _ => by kernel_rfl) ?_
            refine T.pure (.int .i64 r11.2) (by kernel_rfl) (fun _ => by kernel_rfl) ?_
            refine T.step (W1.new 25 [.slice none 0 0, .slice none 0 0] (fun b => .pointer (some ⟨b, 0, none⟩)) (by kernel_rfl) (fun _ => by kernel_rfl) (fun b6 => ?_))
            refine T.step (W1.store 0 [.slice A22 r11.1.pages.length c21, .slice A23 r11.1.writes.length c22] [box b6 25 [.slice A22 r11.1.pages.length c21, .slice A23 r11.1.writes.length c22], box b5 25 [.slice A20 r10.1.pages.length c19, .slice A21 r10.1.writes.length c20], box b4 25 [.slice A18 r9.1.pages.length c17, .slice A19 r9.1.writes.length c18], row 4 eBool A17 c16 z4, box b2 25 [.slice A11 z2.length c11, .slice A12 z3.length c12]] (by rfl) rfl (by kernel_rfl) (fun w' hw => exec_store (vs := [.slice A22 r11.1.pages.length c21, .slice A23 r11.1.writes.length c22]) rfl rfl rfl rfl (by kernel_rfl) (one_of rfl) (by simp) rfl hw) ?_)
            refine T.pure (.int .i64 r11.2) (by kernel_rfl) (fun _ => by kernel_rfl) ?_
            refine T.nil ?_
            refine T.seq ?_
            refine T.region ?_
            refine T.look (.agg #[.slice A11 z2.length c11, .slice A12 z3.length c12]) (by kernel_rfl) (fun w' hh => exec_loadN (cs := [.slice A11 z2.length c11, .slice A12 z3.length c12]) rfl rfl (by kernel_rfl) (by kernel_rfl) (fun j u hj => (hh.box_at (i := 4) (cs := [.slice A11 z2.length c11, .slice A12 z3.length c12]) (by rfl) 0 j).trans (seg_at (n := 2) rfl hj))) ?_
            obtain ⟨r12, hb13, hF⟩ := Option.bind_eq_some_iff.1 hF
            refine T.step (W1.call (vT2 (vAg eDisk) (vSc eInt)) r12 15 #[.agg #[.slice A11 z2.length c11, .slice A12 z3.length c12], .slice none 0 0] (by kernel_rfl) (fun _ => by kernel_rfl) (fun w' hh => disk_Crash_l (DDisk.mk z2 z3) ([] : List Bool) r12 hb13 w' A11 c11 (SlOk.mono (SlOk.mono hs11 (View.le_trans (View.le_trans (View.le_trans hV9 hV10) hV11) hV12)) hh.view) A12 c12 (SlOk.mono (SlOk.mono hs12 (View.le_trans (View.le_trans (View.le_trans hV9 hV10) hV11) hV12)) hh.view) none 0 (SlOk.nil _ _)) ?_)
            intro u V13 hV13 hu
            obtain ⟨u14, u15, rfl, hu13, hu14⟩ := vT2_elim hu
            obtain ⟨cs9, rfl, hr10⟩ := vagg_elim hu13
            obtain ⟨A24, c23, A25, c24, rfl, hs21, hs22⟩ := hr10
            obtain rfl := sureInt _ _ _ hu14
            refine T.pure (.tuple #[.agg #[.slice A24 r12.1.pages.length c23, .slice A25 r12.1.writes.length c24], .int .i64 r12.2]) (by kernel_rfl) (fun _ => by kernel_rfl) ?_
            refine T.pure (.agg #[.slice A24 r12.1.pages.length c23, .slice A25 r12.1.writes.length c24]) (by kernel_rfl) (fun _ => by kernel_rfl) ?_
            refine T.pure (.int .i64 r12.2) (by kernel_rfl) (fun _ => by kernel_rfl) ?_
            refine T.step (W1.new 25 [.slice none 0 0, .slice none 0 0] (fun b => .pointer (some ⟨b, 0, none⟩)) (by kernel_rfl) (fun _ => by kernel_rfl) (fun b7 => ?_))
            refine T.step (W1.store 0 [.slice A24 r12.1.pages.length c23, .slice A25 r12.1.writes.length c24] [box b7 25 [.slice A24 r12.1.pages.length c23, .slice A25 r12.1.writes.length c24], box b6 25 [.slice A22 r11.1.pages.length c21, .slice A23 r11.1.writes.length c22], box b5 25 [.slice A20 r10.1.pages.length c19, .slice A21 r10.1.writes.length c20], box b4 25 [.slice A18 r9.1.pages.length c17, .slice A19 r9.1.writes.length c18], row 4 eBool A17 c16 z4, box b2 25 [.slice A11 z2.length c11, .slice A12 z3.length c12]] (by rfl) rfl (by kernel_rfl) (fun w' hw => exec_store (vs := [.slice A24 r12.1.pages.length c23, .slice A25 r12.1.writes.length c24]) rfl rfl rfl rfl (by kernel_rfl) (one_of rfl) (by simp) rfl hw) ?_)
            refine T.pure (.int .i64 r12.2) (by kernel_rfl) (fun _ => by kernel_rfl) ?_
            refine T.nil ?_
            obtain ⟨z5, hX3, hF⟩ := Option.bind_eq_some_iff.1 hF
            refine T.cut (fun a w' => ∃ (V14 : View), View.le V13 V14 ∧ Fr 120 [(6, .bool z5)] a ∧ Hp w V14 [] w') ?_ ?_
            ·
              refine T.region ?_
              refine T.pure (.int .i64 r9.2) (by kernel_rfl) (fun _ => by kernel_rfl) ?_
              refine T.pure (.bool (r9.2 == 0)) (by kernel_rfl) (fun _ => by kernel_rfl) ?_
              refine T.pure (.bool (r9.2 == 0)) (by kernel_rfl) (fun _ => by kernel_rfl) ?_
              cases hg3 : (r9.2 == 0)
              ·
                skip
                rw [hg3, cond_false] at hX3
                refine T.pass (by kernel_rfl) (by kernel_rfl) ?_
                refine T.pass (by kernel_rfl) (by kernel_rfl) ?_
                refine T.pure (.bool false) (by kernel_rfl) (fun _ => by kernel_rfl) ?_
                refine T.pure (.bool false) (by kernel_rfl) (fun _ => by kernel_rfl) ?_
                refine T.pass (by kernel_rfl) (by kernel_rfl) ?_
                refine T.pass (by kernel_rfl) (by kernel_rfl) ?_
                refine T.pure (.bool false) (by kernel_rfl) (fun _ => by kernel_rfl) ?_
                refine T.pure (.bool false) (by kernel_rfl) (fun _ => by kernel_rfl) ?_
                refine T.pass (by kernel_rfl) (by kernel_rfl) ?_
                refine T.pass (by kernel_rfl) (by kernel_rfl) ?_
                refine T.pure (.bool false) (by kernel_rfl) (fun _ => by kernel_rfl) ?_
                refine T.pure (.bool false) (by kernel_rfl) (fun _ => by kernel_rfl) ?_
                refine T.pass (by kernel_rfl) (by kernel_rfl) ?_
                refine T.pass (by kernel_rfl) (by kernel_rfl) ?_
                refine T.pass (by kernel_rfl) (by kernel_rfl) ?_
                refine T.pure (.bool false) (by kernel_rfl) (fun _ => by kernel_rfl) ?_
                refine T.pure (.bool false) (by kernel_rfl) (fun _ => by kernel_rfl) ?_
                refine T.pass (by kernel_rfl) (by kernel_rfl) ?_
                refine T.pass (by kernel_rfl) (by kernel_rfl) ?_
                refine T.pass (by kernel_rfl) (by kernel_rfl) ?_
                refine T.pure (.bool false) (by kernel_rfl) (fun _ => by kernel_rfl) ?_
                refine T.pure (.bool false) (by kernel_rfl) (fun _ => by kernel_rfl) ?_
                refine T.pass (by kernel_rfl) (by kernel_rfl) ?_
                refine T.pass (by kernel_rfl) (by kernel_rfl) ?_
                refine T.pass (by kernel_rfl) (by kernel_rfl) ?_
                refine T.pass (by kernel_rfl) (by kernel_rfl) ?_
                refine T.pass (by kernel_rfl) (by kernel_rfl) ?_
                refine T.pure (.bool false) (by kernel_rfl) (fun _ => by kernel_rfl) ?_
                refine T.pure (.bool false) (by kernel_rfl) (fun _ => by kernel_rfl) ?_
                refine T.nil ?_
                cases hX3
                exact fun a w' hf hh => Exists.intro V13 (And.intro (View.le_refl _) (And.intro ((Fr.nil hf).pick hf 6 rfl) (hh.sub (.cons _ (.cons _ (.cons _ (.cons _ (.cons _ (.cons _ List.Sublist.slnil)))))))))
              ·
                skip
                rw [hg3, cond_true] at hX3
                refine T.pure (.int .i64 r10.2) (by kernel_rfl) (fun _ => by kernel_rfl) ?_
                refine T.pure (.bool (r10.2 == 0)) (by kernel_rfl) (fun _ => by kernel_rfl) ?_
                refine T.pure (.bool (r10.2 == 0)) (by kernel_rfl) (fun _ => by kernel_rfl) ?_
                refine T.pure (.bool (r10.2 == 0)) (by kernel_rfl) (fun _ => by kernel_rfl) ?_
                cases hg4 : (r10.2 == 0)
                ·
                  skip
                  rw [hg4, cond_false] at hX3
                  refine T.pass (by kernel_rfl) (by kernel_rfl) ?_
                  refine T.pass (by kernel_rfl) (by kernel_rfl) ?_
                  refine T.pure (.bool false) (by kernel_rfl) (fun _ => by kernel_rfl) ?_
                  refine T.pure (.bool false) (by kernel_rfl) (fun _ => by kernel_rfl) ?_
                  refine T.pass (by kernel_rfl) (by kernel_rfl) ?_
                  refine T.pass (by kernel_rfl) (by kernel_rfl) ?_
                  refine T.pure (.bool false) (by kernel_rfl) (fun _ => by kernel_rfl) ?_
                  refine T.pure (.bool false) (by kernel_rfl) (fun _ => by kernel_rfl) ?_
                  refine T.pass (by kernel_rfl) (by kernel_rfl) ?_
                  refine T.pass (by kernel_rfl) (by kernel_rfl) ?_
                  refine T.pass (by kernel_rfl) (by kernel_rfl) ?_
                  refine T.pure (.bool false) (by kernel_rfl) (fun _ => by kernel_rfl) ?_
                  refine T.pure (.bool false) (by kernel_rfl) (fun _ => by kernel_rfl) ?_
                  refine T.pass (by kernel_rfl) (by kernel_rfl) ?_
                  refine T.pass (by kernel_rfl) (by kernel_rfl) ?_
                  refine T.pass (by kernel_rfl) (by kernel_rfl) ?_
                  refine T.pure (.bool false) (by kernel_rfl) (fun _ => by kernel_rfl) ?_
                  refine T.pure (.bool false) (by kernel_rfl) (fun _ => by kernel_rfl) ?_
                  refine T.pass (by kernel_rfl) (by kernel_rfl) ?_
                  refine T.pass (by kernel_rfl) (by kernel_rfl) ?_
                  refine T.pass (by kernel_rfl) (by kernel_rfl) ?_
                  refine T.pass (by kernel_rfl) (by kernel_rfl) ?_
                  refine T.pass (by kernel_rfl) (by kernel_rfl) ?_
                  refine T.pure (.bool false) (by kernel_rfl) (fun _ => by kernel_rfl) ?_
                  refine T.pure (.bool false) (by kernel_rfl) (fun _ => by kernel_rfl) ?_
                  refine T.nil ?_
                  cases hX3
                  exact fun a w' hf hh => Exists.intro V13 (And.intro (View.le_refl _) (And.intro ((Fr.nil hf).pick hf 6 rfl) (hh.sub (.cons _ (.cons _ (.cons _ (.cons _ (.cons _ (.cons _ List.Sublist.slnil)))))))))
                ·
                  skip
                  rw [hg4, cond_true] at hX3
                  refine T.pure (.int .i64 r11.2) (by kernel_rfl) (fun _ => by kernel_rfl) ?_
                  refine T.pure (.bool (r11.2 == 0)) (by kernel_rfl) (fun _ => by kernel_rfl) ?_
                  refine T.pure (.bool (r11.2 == 0)) (by kernel_rfl) (fun _ => by kernel_rfl) ?_
                  refine T.pure (.bool (r11.2 == 0)) (by kernel_rfl) (fun _ => by kernel_rfl) ?_
                  cases hg5 : (r11.2 == 0)
                  ·
                    skip
                    rw [hg5, cond_false] at hX3
                    refine T.pass (by kernel_rfl) (by kernel_rfl) ?_
                    refine T.pass (by kernel_rfl) (by kernel_rfl) ?_
                    refine T.pure (.bool false) (by kernel_rfl) (fun _ => by kernel_rfl) ?_
                    refine T.pure (.bool false) (by kernel_rfl) (fun _ => by kernel_rfl) ?_
                    refine T.pass (by kernel_rfl) (by kernel_rfl) ?_
                    refine T.pass (by kernel_rfl) (by kernel_rfl) ?_
                    refine T.pass (by kernel_rfl) (by kernel_rfl) ?_
                    refine T.pure (.bool false) (by kernel_rfl) (fun _ => by kernel_rfl) ?_
                    refine T.pure (.bool false) (by kernel_rfl) (fun _ => by kernel_rfl) ?_
                    refine T.pass (by kernel_rfl) (by kernel_rfl) ?_
                    refine T.pass (by kernel_rfl) (by kernel_rfl) ?_
                    refine T.pass (by kernel_rfl) (by kernel_rfl) ?_
                    refine T.pure (.bool false) (by kernel_rfl) (fun _ => by kernel_rfl) ?_
                    refine T.pure (.bool false) (by kernel_rfl) (fun _ => by kernel_rfl) ?_
                    refine T.pass (by kernel_rfl) (by kernel_rfl) ?_
                    refine T.pass (by kernel_rfl) (by kernel_rfl) ?_
                    refine T.pass (by kernel_rfl) (by kernel_rfl) ?_
                    refine T.pass (by kernel_rfl) (by kernel_rfl) ?_
                    refine T.pass (by kernel_rfl) (by kernel_rfl) ?_
                    refine T.pure (.bool false) (by kernel_rfl) (fun _ => by kernel_rfl) ?_
                    refine T.pure (.bool false) (by kernel_rfl) (fun _ => by kernel_rfl) ?_
                    refine T.nil ?_
                    cases hX3
                    exact fun a w' hf hh => Exists.intro V13 (And.intro (View.le_refl _) (And.intro ((Fr.nil hf).pick hf 6 rfl) (hh.sub (.cons _ (.cons _ (.cons _ (.cons _ (.cons _ (.cons _ List.Sublist.slnil)))))))))
                  ·
                    skip
                    rw [hg5, cond_true] at hX3
                    refine T.pure (.int .i64 r12.2) (by kernel_rfl) (fun _ => by kernel_rfl) ?_
                    refine T.pure (.bool (r12.2 == 0)) (by kernel_rfl) (fun _ => by kernel_rfl) ?_
                    refine T.pure (.bool (r12.2 == 0)) (by kernel_rfl) (fun _ => by kernel_rfl) ?_
                    refine T.pure (.bool (r12.2 == 0)) (by kernel_rfl) (fun _ => by kernel_rfl) ?_
                    cases hg6 : (r12.2 == 0)
                    ·
                      skip
                      rw [hg6, cond_false] at hX3
                      refine T.pass (by kernel_rfl) (by kernel_rfl) ?_
                      refine T.pass (by kernel_rfl) (by kernel_rfl) ?_
                      refine T.pass (by kernel_rfl) (by kernel_rfl) ?_
                      refine T.pure (.bool false) (by kernel_rfl) (fun _ => by kernel_rfl) ?_
                      refine T.pure (.bool false) (by kernel_rfl) (fun _ => by kernel_rfl) ?_
                      refine T.pass (by kernel_rfl) (by kernel_rfl) ?_
                      refine T.pass (by kernel_rfl) (by kernel_rfl) ?_
                      refine T.pass (by kernel_rfl) (by kernel_rfl) ?_
                      refine T.pure (.bool false) (by kernel_rfl) (fun _ => by kernel_rfl) ?_
                      refine T.pure (.bool false) (by kernel_rfl) (fun _ => by kernel_rfl) ?_
                      refine T.pass (by kernel_rfl) (by kernel_rfl) ?_
                      refine T.pass (by kernel_rfl) (by kernel_rfl) ?_
                      refine T.pass (by kernel_rfl) (by kernel_rfl) ?_
                      refine T.pass (by kernel_rfl) (by kernel_rfl) ?_
                      refine T.pass (by kernel_rfl) (by kernel_rfl) ?_
                      refine T.pure (.bool false) (by kernel_rfl) (fun _ => by kernel_rfl) ?_
                      refine T.pure (.bool false) (by kernel_rfl) (fun _ => by kernel_rfl) ?_
                      refine T.nil ?_
                      cases hX3
                      exact fun a w' hf hh => Exists.intro V13 (And.intro (View.le_refl _) (And.intro ((Fr.nil hf).pick hf 6 rfl) (hh.sub (.cons _ (.cons _ (.cons _ (.cons _ (.cons _ (.cons _ List.Sublist.slnil)))))))))
                    ·
                      skip
                      rw [hg6, cond_true] at hX3
                      refine T.look (.agg #[.slice A18 r9.1.pages.length c17, .slice A19 r9.1.writes.length c18]) (by kernel_rfl) (fun w' hh => exec_loadN (cs := [.slice A18 r9.1.pages.length c17, .slice A19 r9.1.writes.length c18]) rfl rfl (by kernel_rfl) (by kernel_rfl) (fun j u hj => (hh.box_at (i := 3) (cs := [.slice A18 r9.1.pages.length c17, .slice A19 r9.1.writes.length c18]) (by rfl) 0 j).trans (seg_at (n := 2) rfl hj))) ?_
                      refine T.look (.agg #[.slice A20 r10.1.pages.length c19, .slice A21 r10.1.writes.length c20]) (by kernel_rfl) (fun w' hh => exec_loadN (cs := [.slice A20 r10.1.pages.length c19, .slice A21 r10.1.writes.length c20]) rfl rfl (by kernel_rfl) (by kernel_rfl) (fun j u hj => (hh.box_at (i := 2) (cs := [.slice A20 r10.1.pages.length c19, .slice A21 r10.1.writes.length c20]) (by rfl) 0 j).trans (seg_at (n := 2) rfl hj))) ?_
                      obtain ⟨r13, hb14, hX3⟩ := Option.bind_eq_some_iff.1 hX3
                      refine T.step (W1.call (vSc eBool) r13 13 #[.agg #[.slice A18 r9.1.pages.length c17, .slice A19 r9.1.writes.length c18], .agg #[.slice A20 r10.1.pages.length c19, .slice A21 r10.1.writes.length c20]] (by kernel_rfl) (fun _ => by kernel_rfl) (fun w' hh => annalref_SameDisk_l r9.1 r10.1 r13 hb14 w' A18 c17 (SlOk.mono (SlOk.mono hs15 (View.le_trans (made_le _ _) (View.le_trans (View.le_trans hV11 hV12) hV13))) hh.view) A19 c18 (SlOk.mono (SlOk.mono hs16 (View.le_trans (made_le _ _) (View.le_trans (View.le_trans hV11 hV12) hV13))) hh.view) A20 c19 (SlOk.mono (SlOk.mono hs17 (View.le_trans (made_le _ _) (View.le_trans hV12 hV13))) hh.view) A21 c20 (SlOk.mono (SlOk.mono hs18 (View.le_trans (made_le _ _) (View.le_trans hV12 hV13))) hh.view)) ?_)
                      intro u V15 hV15 hu
                      obtain rfl := sureBool _ _ _ hu
                      refine T.pure (.bool r13) (by kernel_rfl) (fun _ => by kernel_rfl) ?_
                      refine T.pure (.bool r13) (by kernel_rfl) (fun _ => by kernel_rfl) ?_
                      cases hg7 : r13
                      ·
                        skip
                        rw [hg7, cond_false] at hX3
                        refine T.pass (by kernel_rfl) (by kernel_rfl) ?_
                        refine T.pass (by kernel_rfl) (by kernel_rfl) ?_
                        refine T.pass (by kernel_rfl) (by kernel_rfl) ?_
                        refine T.pure (.bool false) (by kernel_rfl) (fun _ => by kernel_rfl) ?_
                        refine T.pure (.bool false) (by kernel_rfl) (fun _ => by kernel_rfl) ?_
                        refine T.pass (by kernel_rfl) (by kernel_rfl) ?_
                        refine T.pass (by kernel_rfl) (by kernel_rfl) ?_
                        refine T.pass (by kernel_rfl) (by kernel_rfl) ?_
                        refine T.pass (by kernel_rfl) (by kernel_rfl) ?_
                        refine T.pass (by kernel_rfl) (by kernel_rfl) ?_
                        refine T.pure (.bool false) (by kernel_rfl) (fun _ => by kernel_rfl) ?_
                        refine T.pure (.bool false) (by kernel_rfl) (fun _ => by kernel_rfl) ?_
                        refine T.nil ?_
                        cases hX3
                        exact fun a w' hf hh => Exists.intro V15 (And.intro hV15 (And.intro ((Fr.nil hf).pick hf 6 rfl) (hh.sub (.cons _ (.cons _ (.cons _ (.cons _ (.cons _ (.cons _ List.Sublist.slnil)))))))))
                      ·
                        skip
                        rw [hg7, cond_true] at hX3
                        refine T.look (.agg #[.slice A18 r9.1.pages.length c17, .slice A19 r9.1.writes.length c18]) (by kernel_rfl) (fun w' hh => exec_loadN (cs := [.slice A18 r9.1.pages.length c17, .slice A19 r9.1.writes.length c18]) rfl rfl (by kernel_rfl) (by kernel_rfl) (fun j u hj => (hh.box_at (i := 3) (cs := [.slice A18 r9.1.pages.length c17, .slice A19 r9.1.writes.length c18]) (by rfl) 0 j).trans (seg_at (n := 2) rfl hj))) ?_
                        refine T.look (.agg #[.slice A22 r11.1.pages.length c21, .slice A23 r11.1.writes.length c22]) (by kernel_rfl) (fun w' hh => exec_loadN (cs := [.slice A22 r11.1.pages.length c21, .slice A23 r11.1.writes.length c22]) rfl rfl (by kernel_rfl) (by kernel_rfl) (fun j u hj => (hh.box_at (i := 1) (cs := [.slice A22 r11.1.pages.length c21, .slice A23 r11.1.writes.length c22]) (by rfl) 0 j).trans (seg_at (n := 2) rfl hj))) ?_
                        obtain ⟨r14, hb15, hX3⟩ := Option.bind_eq_some_iff.1 hX3
                        refine T.step (W1.call (vSc eBool) r14 13 #[.agg #[.slice A18 r9.1.pages.length c17, .slice A19 r9.1.writes.length c18], .agg #[.slice A22 r11.1.pages.length c21, .slice A23 r11.1.writes.length c22]] (by kernel_rfl) (fun _ => by kernel_rfl) (fun w' hh => annalref_SameDisk_l r9.1 r11.1 r14 hb15 w' A18 c17 (SlOk.mono (SlOk.mono hs15 (View.le_trans (made_le _ _) (View.le_trans (View.le_trans (View.le_trans hV11 hV12) hV13) hV15))) hh.view) A19 c18 (SlOk.mono (SlOk.mono hs16 (View.le_trans (made_le _ _) (View.le_trans (View.le_trans (View.le_trans hV11 hV12) hV13) hV15))) hh.view) A22 c21 (SlOk.mono (SlOk.mono hs19 (View.le_trans (made_le _ _) (View.le_trans hV13 hV15))) hh.view) A23 c22 (SlOk.mono (SlOk.mono hs20 (View.le_trans (made_le _ _) (View.le_trans hV13 hV15))) hh.view)) ?_)
                        intro u V16 hV16 hu
                        obtain rfl := sureBool _ _ _ hu
                        refine T.pure (.bool r14) (by kernel_rfl) (fun _ => by kernel_rfl) ?_
                        refine T.pure (.bool r14) (by kernel_rfl) (fun _ => by kernel_rfl) ?_
                        cases hg8 : r14
                        ·
                          skip
                          rw [hg8, cond_false] at hX3
                          refine T.pass (by kernel_rfl) (by kernel_rfl) ?_
                          refine T.pass (by kernel_rfl) (by kernel_rfl) ?_
                          refine T.pass (by kernel_rfl) (by kernel_rfl) ?_
                          refine T.pass (by kernel_rfl) (by kernel_rfl) ?_
                          refine T.pass (by kernel_rfl) (by kernel_rfl) ?_
                          refine T.pure (.bool false) (by kernel_rfl) (fun _ => by kernel_rfl) ?_
                          refine T.pure (.bool false) (by kernel_rfl) (fun _ => by kernel_rfl) ?_
                          refine T.nil ?_
                          cases hX3
                          exact fun a w' hf hh => Exists.intro V16 (And.intro (View.le_trans hV15 hV16) (And.intro ((Fr.nil hf).pick hf 6 rfl) (hh.sub (.cons _ (.cons _ (.cons _ (.cons _ (.cons _ (.cons _ List.Sublist.slnil)))))))))
                        ·
                          skip
                          rw [hg8, cond_true] at hX3
                          refine T.pure (.pointer (some ⟨b7, 0, none⟩)) (by kernel_rfl) (fun _ => by kernel_rfl) ?_
                          refine T.look (.slice A24 r12.1.pages.length c23) (by kernel_rfl) (fun w' hh => exec_load1 rfl rfl (by kernel_rfl) (hh.cellBox (i := 0) (by rfl) 0)) ?_
                          refine T.pure (.pointer (some ⟨b2, 0, none⟩)) (by kernel_rfl) (fun _ => by kernel_rfl) ?_
                          refine T.look (.slice A11 z2.length c11) (by kernel_rfl) (fun w' hh => exec_load1 rfl rfl (by kernel_rfl) (hh.cellBox (i := 5) (by rfl) 0)) ?_
                          obtain ⟨r15, hb16, hX3⟩ := Option.bind_eq_some_iff.1 hX3
                          refine T.step (W1.call (vSc eBool) r15 18 #[.slice A24 r12.1.pages.length c23, .slice A11 z2.length c11] (by kernel_rfl) (fun _ => by kernel_rfl) (fun w' hh => slices_Equal_string_l r12.1.pages z2 r15 hb16 w' A24 c23 (SlOk.mono (SlOk.mono hs21 (View.le_trans (made_le _ _) (View.le_trans hV15 hV16))) hh.view) A11 c11 (SlOk.mono (SlOk.mono hs11 (View.le_trans (View.le_trans (View.le_trans (View.le_trans (View.le_trans (View.le_trans hV9 hV10) hV11) hV12) hV13) hV15) hV16)) hh.view)) ?_)
                          intro u V17 hV17 hu
                          obtain rfl := sureBool _ _ _ hu
                          refine T.pure (.bool r15) (by kernel_rfl) (fun _ => by kernel_rfl) ?_
                          refine T.pure (.bool r15) (by kernel_rfl) (fun _ => by kernel_rfl) ?_
                          refine T.nil ?_
                          cases hX3
                          exact fun a w' hf hh => Exists.intro V17 (And.intro (View.le_trans (View.le_trans hV15 hV16) hV17) (And.intro ((Fr.nil hf).pick hf 6 rfl) (hh.sub (.cons _ (.cons _ (.cons _ (.cons _ (.cons _ (.cons _ List.Sublist.slnil)))))))))
            ·
              rintro a w' ⟨V14, hV14, hf, hh⟩
              refine (?_ : T 120 w V14 [] [(6, .bool z5)] _) a w' hf hh
              clear hf hh
              cases hF
              refine T.ret rfl ?_
              exact T.ret1 rfl (ResIs.tmp rfl) fun w' hh => ⟨_, rfl, hh.below, (show _ from rfl)⟩

set_option maxRecDepth 100000 in
set_option maxHeartbeats 4000000 in
theorem annalkeep_DiskPages_l (p0 : DDisk) (p1 : (List Bool)) (p2 : Int) (r : Bool) (hF : annalkeep_DiskPages p0 p1 p2 = some r) (w : World) (A1 : Option Addr) (c1 : Nat) (hs1 : SlOk (vw w) eStr A1 c1 p0.pages) (A2 : Option Addr) (c2 : Nat) (hs2 : SlOk (vw w) eWrite A2 c2 p0.writes) (A3 : Option Addr) (c3 : Nat) (hs3 : SlOk (vw w) eBool A3 c3 p1) :
    Calls Try.prog 5 #[.agg #[.slice A1 p0.pages.length c1, .slice A2 p0.writes.length c2], .slice A3 p1.length c3, .int .i64 p2] w (Post (vSc eBool) r w) := by
  unfold annalkeep_DiskPages at hF
  refine T.start (l := [.agg #[.slice A1 p0.pages.length c1, .slice A2 p0.writes.length c2], .slice A3 p1.length c3, .int .i64 p2]) Try.func5 rfl rfl rfl ?_
  refine T.seq ?_
  refine T.region ?_
  refine T.step (W1.new 25 [.slice A1 p0.pages.length c1, .slice A2 p0.writes.length c2] (fun b => .pointer (some ⟨b, 0, none⟩)) (by kernel_rfl) (fun _ => by kernel_rfl) (fun b1 => ?_))
  refine T.pure (.bool false) (by kernel_rfl) (fun _ => by kernel_rfl) ?_
  refine T.nil ?_
  refine T.seq ?_
  refine T.region ?_
  obtain ⟨r1, hb1, hF⟩ := Option.bind_eq_some_iff.1 hF
  refine T.step (W1.call (vAg eDisk) r1 14 #[.string (ByteArray.mk #[97])] (by kernel_rfl) (fun _ => by kernel_rfl) (fun w' hh => annalkeep_one_l (ByteArray.mk #[97]) r1 hb1 w' ) ?_)
  intro u V1 hV1 hu
  obtain ⟨cs1, rfl, hr1⟩ := vagg_elim hu
  obtain ⟨A4, c4, A5, c5, rfl, hs4, hs5⟩ := hr1
  obtain ⟨r2, hb2, hF⟩ := Option.bind_eq_some_iff.1 hF
  refine T.step (W1.call (vT2 (vAg eDisk) (vSc eInt)) r2 11 #[.agg #[.slice A4 r1.pages.length c4, .slice A5 r1.writes.length c5], .int .i64 0, .string (ByteArray.mk #[98])] (by kernel_rfl) (fun _ => by kernel_rfl) (fun w' hh => disk_Put_l r1 0 (ByteArray.mk #[98]) r2 hb2 w' A4 c4 (SlOk.mono (SlOk.mono hs4 (View.le_trans (made_le _ _) (View.le_refl _))) hh.view) A5 c5 (SlOk.mono (SlOk.mono hs5 (View.le_trans (made_le _ _) (View.le_refl _))) hh.view)) ?_)
  intro u V2 hV2 hu
  obtain ⟨u1, u2, rfl, hu1, hu2⟩ := vT2_elim hu
  obtain ⟨cs2, rfl, hr2⟩ := vagg_elim hu1
  obtain ⟨A6, c6, A7, c7, rfl, hs6, hs7⟩ := hr2
  obtain rfl := sureInt _ _ _ hu2
  refine T.pure (.tuple #[.agg #[.slice A6 r2.1.pages.length c6, .slice A7 r2.1.writes.length c7], .int .i64 r2.2]) (by kernel_rfl) (fun _ => by kernel_rfl) ?_
  refine T.pure (.agg #[.slice A6 r2.1.pages.length c6, .slice A7 r2.1.writes.length c7]) (by kernel_rfl) (fun _ => by kernel_rfl) ?_
  refine T.pure (.int .i64 r2.2) (by kernel_rfl) (fun _ => by kernel_rfl) ?_
  refine T.step (W1.new 25 [.slice none 0 0, .slice none 0 0] (fun b => .pointer (some ⟨b, 0, none⟩)) (by kernel_rfl) (fun _ => by kernel_rfl) (fun b2 => ?_))
  refine T.step (W1.store 0 [.slice A6 r2.1.pages.length c6, .slice A7 r2.1.writes.length c7] [box b2 25 [.slice A6 r2.1.pages.length c6, .slice A7 r2.1.writes.length c7], box b1 25 [.slice A1 p0.pages.length c1, .slice A2 p0.writes.length c2]] (by rfl) rfl (by kernel_rfl) (fun w' hw => exec_store (vs := [.slice A6 r2.1.pages.length c6, .slice A7 r2.1.writes.length c7]) rfl rfl rfl rfl (by kernel_rfl) (one_of rfl) (by simp) rfl hw) ?_)
  refine T.pure (.int .i64 r2.2) (by kernel_rfl) (fun _ => by kernel_rfl) ?_
  refine T.nil ?_
  refine T.seq ?_
  refine T.seq ?_
  refine T.region ?_
  refine T.look (.agg #[.slice A6 r2.1.pages.length c6, .slice A7 r2.1.writes.length c7]) (by kernel_rfl) (fun w' hh => exec_loadN (cs := [.slice A6 r2.1.pages.length c6, .slice A7 r2.1.writes.length c7]) rfl rfl (by kernel_rfl) (by kernel_rfl) (fun j u hj => (hh.box_at (i := 0) (cs := [.slice A6 r2.1.pages.length c6, .slice A7 r2.1.writes.length c7]) (by rfl) 0 j).trans (seg_at (n := 2) rfl hj))) ?_
  obtain ⟨r3, hb3, hF⟩ := Option.bind_eq_some_iff.1 hF
  refine T.step (W1.call (vT2 (vSc eStr) (vSc eInt)) r3 12 #[.agg #[.slice A6 r2.1.pages.length c6, .slice A7 r2.1.writes.length c7], .int .i64 0] (by kernel_rfl) (fun _ => by kernel_rfl) (fun w' hh => disk_Read_l r2.1 0 r3 hb3 w' A6 c6 (SlOk.mono (SlOk.mono hs6 (View.le_trans (made_le _ _) (View.le_refl _))) hh.view) A7 c7 (SlOk.mono (SlOk.mono hs7 (View.le_trans (made_le _ _) (View.le_refl _))) hh.view)) ?_)
  intro u V3 hV3 hu
  obtain rfl := (Sure.t2 sureStr sureInt) _ _ _ hu
  refine T.pure (.tuple #[.string r3.1, .int .i64 r3.2]) (by kernel_rfl) (fun _ => by kernel_rfl) ?_
  refine T.pure (.string r3.1) (by kernel_rfl) (fun _ => by kernel_rfl) ?_
  refine T.pure (.int .i64 r3.2) (by kernel_rfl) (fun _ => by kernel_rfl) ?_
  refine T.pure (.string r3.1) (by kernel_rfl) (fun _ => by kernel_rfl) ?_
  refine T.pure (.int .i64 r3.2) (by kernel_rfl) (fun _ => by kernel_rfl) ?_
  refine T.nil ?_
  refine T.cut (fun a w' => Fr 186 [(1, .slice A3 p1.length c3), (2, .int .i64 p2), (3, .pointer (some ⟨b1, 0, none⟩)), (41, .bool ((r2.2 != 0) || ((r3.2 != 0) || (!(seq r3.1 (ByteArray.mk #[98]))))))] a ∧ Hp w V3 [box b1 25 [.slice A1 p0.pages.length c1, .slice A2 p0.writes.length c2]] w') ?_ ?_
  ·
    refine T.region ?_
    refine T.pure (.int .i64 r2.2) (by kernel_rfl) (fun _ => by kernel_rfl) ?_
    refine T.pure (.bool (r2.2 != 0)) (by kernel_rfl) (fun _ => by kernel_rfl) ?_
    refine T.pure (.bool (r2.2 != 0)) (by kernel_rfl) (fun _ => by kernel_rfl) ?_
    cases hg1 : (r2.2 != 0)
    ·
      skip
      refine T.pure (.int .i64 r3.2) (by kernel_rfl) (fun _ => by kernel_rfl) ?_
      refine T.pure (.bool (r3.2 != 0)) (by kernel_rfl) (fun _ => by kernel_rfl) ?_
      refine T.pure (.bool (r3.2 != 0)) (by kernel_rfl) (fun _ => by kernel_rfl) ?_
      refine T.pure (.bool (r3.2 != 0)) (by kernel_rfl) (fun _ => by kernel_rfl) ?_
      cases hg2 : (r3.2 != 0)
      ·
        skip
        refine T.pure (.string r3.1) (by kernel_rfl) (fun _ => by kernel_rfl) ?_
        refine T.pure (.bool (!(seq r3.1 (ByteArray.mk #[98])))) (by kernel_rfl) (fun _ => by kernel_rfl) ?_
        refine T.pure (.bool (!(seq r3.1 (ByteArray.mk #[98])))) (by kernel_rfl) (fun _ => by kernel_rfl) ?_
        refine T.nil ?_
        exact fun a w' hf hh => And.intro (((((Fr.nil hf).pick hf 41 rfl).pick hf 3 rfl).pick hf 2 rfl).pick hf 1 rfl) (hh.sub (.cons _ (.cons_cons _ List.Sublist.slnil)))
      ·
        skip
        refine T.pass (by kernel_rfl) (by kernel_rfl) ?_
        refine T.pass (by kernel_rfl) (by kernel_rfl) ?_
        refine T.pure (.bool true) (by kernel_rfl) (fun _ => by kernel_rfl) ?_
        refine T.nil ?_
        exact fun a w' hf hh => And.intro (((((Fr.nil hf).pick hf 41 rfl).pick hf 3 rfl).pick hf 2 rfl).pick hf 1 rfl) (hh.sub (.cons _ (.cons_cons _ List.Sublist.slnil)))
    ·
      skip
      refine T.pass (by kernel_rfl) (by kernel_rfl) ?_
      refine T.pass (by kernel_rfl) (by kernel_rfl) ?_
      refine T.pure (.bool true) (by kernel_rfl) (fun _ => by kernel_rfl) ?_
      refine T.pure (.bool true) (by kernel_rfl) (fun _ => by kernel_rfl) ?_
      refine T.pass (by kernel_rfl) (by kernel_rfl) ?_
      refine T.pass (by kernel_rfl) (by kernel_rfl) ?_
      refine T.pure (.bool true) (by kernel_rfl) (fun _ => by kernel_rfl) ?_
      refine T.nil ?_
      exact fun a w' hf hh => And.intro (((((Fr.nil hf).pick hf 41 rfl).pick hf 3 rfl).pick hf 2 rfl).pick hf 1 rfl) (hh.sub (.cons _ (.cons_cons _ List.Sublist.slnil)))
  ·
    rintro a w' ⟨hf, hh⟩
    refine (?_ : T 186 w V3 [box b1 25 [.slice A1 p0.pages.length c1, .slice A2 p0.writes.length c2]] [(1, .slice A3 p1.length c3), (2, .int .i64 p2), (3, .pointer (some ⟨b1, 0, none⟩)), (41, .bool ((r2.2 != 0) || ((r3.2 != 0) || (!(seq r3.1 (ByteArray.mk #[98]))))))] _) a w' hf hh
    clear hf hh
    refine T.cond ((r2.2 != 0) || ((r3.2 != 0) || (!(seq r3.1 (ByteArray.mk #[98]))))) (by kernel_rfl) (by kernel_rfl) (fun hc1 => ?_) (fun hc1 => ?_)
    ·
      rw [hc1, cond_true] at hF
      refine T.seq ?_
      refine T.region ?_
      refine T.pure (.bool false) (by kernel_rfl) (fun _ => by kernel_rfl) ?_
      refine T.nil ?_
      cases hF
      refine T.ret rfl ?_
      exact T.ret1 rfl (ResIs.tmp rfl) fun w' hh => ⟨_, rfl, hh.below, (show _ from rfl)⟩
    ·
      rw [hc1, cond_false] at hF
      refine T.skip_code ?_
      refine T.seq ?_
      obtain ⟨z1, hX1, hF⟩ := Option.bind_eq_some_iff.1 hF
      refine T.cut (fun a w' => ∃ (V4 : View), View.le V3 V4 ∧ Fr 186 [(1, .slice A3 p1.length c3), (2, .int .i64 p2), (3, .pointer (some ⟨b1, 0, none⟩)), (50, .bool z1)] a ∧ Hp w V4 [box b1 25 [.slice A1 p0.pages.length c1, .slice A2 p0.writes.length c2]] w') ?_ ?_
      ·
        refine T.region ?_
        refine T.look (.agg #[.slice A1 p0.pages.length c1, .slice A2 p0.writes.length c2]) (by kernel_rfl) (fun w' hh => exec_loadN (cs := [.slice A1 p0.pages.length c1, .slice A2 p0.writes.length c2]) rfl rfl (by kernel_rfl) (by kernel_rfl) (fun j u hj => (hh.box_at (i := 0) (cs := [.slice A1 p0.pages.length c1, .slice A2 p0.writes.length c2]) (by rfl) 0 j).trans (seg_at (n := 2) rfl hj))) ?_
        obtain ⟨r4, hb4, hX1⟩ := Option.bind_eq_some_iff.1 hX1
        refine T.step (W1.call (vSc eInt) r4 16 #[.agg #[.slice A1 p0.pages.length c1, .slice A2 p0.writes.length c2]] (by kernel_rfl) (fun _ => by kernel_rfl) (fun w' hh => disk_Check_l p0 r4 hb4 w' A1 c1 (SlOk.mono (SlOk.mono hs1 (View.le_trans (View.le_trans hV1 hV2) hV3)) hh.view) A2 c2 (SlOk.mono (SlOk.mono hs2 (View.le_trans (View.le_trans hV1 hV2) hV3)) hh.view)) ?_)
        intro u V5 hV5 hu
        obtain rfl := sureInt _ _ _ hu
        refine T.pure (.bool (r4 != 0)) (by kernel_rfl) (fun _ => by kernel_rfl) ?_
        refine T.pure (.bool (r4 != 0)) (by kernel_rfl) (fun _ => by kernel_rfl) ?_
        cases hg3 : (r4 != 0)
        ·
          skip
          rw [hg3, cond_false] at hX1
          refine T.pure (.pointer (some ⟨b1, 0, none⟩)) (by kernel_rfl) (fun _ => by kernel_rfl) ?_
          refine T.look (.slice A1 p0.pages.length c1) (by kernel_rfl) (fun w' hh => exec_load1 rfl rfl (by kernel_rfl) (hh.cellBox (i := 0) (by rfl) 0)) ?_
          refine T.pure (.int .i64 (p0.pages.length : Int)) (by kernel_rfl) (fun _ => by kernel_rfl) ?_
          refine T.pure (.bool ((p0.pages.length : Int) == 0)) (by kernel_rfl) (fun _ => by kernel_rfl) ?_
          refine T.pure (.bool ((p0.pages.length : Int) == 0)) (by kernel_rfl) (fun _ => by kernel_rfl) ?_
          refine T.nil ?_
          cases hX1
          exact fun a w' hf hh => Exists.intro V5 (And.intro hV5 (And.intro (((((Fr.nil hf).pick hf 50 rfl).pick hf 3 rfl).pick hf 2 rfl).pick hf 1 rfl) (hh.sub (.cons_cons _ List.Sublist.slnil))))
        ·
          skip
          rw [hg3, cond_true] at hX1
          refine T.pass (by kernel_rfl) (by kernel_rfl) ?_
          refine T.pass (by kernel_rfl) (by kernel_rfl) ?_
          refine T.pass (by kernel_rfl) (by kernel_rfl) ?_
          refine T.pass (by kernel_rfl) (by kernel_rfl) ?_
          refine T.pure (.bool true) (by kernel_rfl) (fun _ => by kernel_rfl) ?_
          refine T.nil ?_
          cases hX1
          exact fun a w' hf hh => Exists.intro V5 (And.intro hV5 (And.intro (((((Fr.nil hf).pick hf 50 rfl).pick hf 3 rfl).pick hf 2 rfl).pick hf 1 rfl) (hh.sub (.cons_cons _ List.Sublist.slnil))))
      ·
        rintro a w' ⟨V4, hV4, hf, hh⟩
        refine (?_ : T 186 w V4 [box b1 25 [.slice A1 p0.pages.length c1, .slice A2 p0.writes.length c2]] [(1, .slice A3 p1.length c3), (2, .int .i64 p2), (3, .pointer (some ⟨b1, 0, none⟩)), (50, .bool z1)] _) a w' hf hh
        clear hf hh
        refine T.cond z1 (by kernel_rfl) (by kernel_rfl) (fun hc2 => ?_) (fun hc2 => ?_)
        ·
          rw [hc2, cond_true] at hF
          refine T.seq ?_
          refine T.region ?_
          refine T.pure (.bool true) (by kernel_rfl) (fun _ => by kernel_rfl) ?_
          refine T.nil ?_
          cases hF
          refine T.ret rfl ?_
          exact T.ret1 rfl (ResIs.tmp rfl) fun w' hh => ⟨_, rfl, hh.below, (show _ from rfl)⟩
        ·
          rw [hc2, cond_false] at hF
          refine T.skip_code ?_
          refine T.seq ?_
          refine T.region ?_
          refine T.pure (.int .i64 p2) (by kernel_rfl) (fun _ => by kernel_rfl) ?_
          refine T.pure (.pointer (some ⟨b1, 0, none⟩)) (by kernel_rfl) (fun _ => by kernel_rfl) ?_
          refine T.look (.slice A1 p0.pages.length c1) (by kernel_rfl) (fun w' hh => exec_load1 rfl rfl (by kernel_rfl) (hh.cellBox (i := 0) (by rfl) 0)) ?_
          refine T.pure (.int .i64 (p0.pages.length : Int)) (by kernel_rfl) (fun _ => by kernel_rfl) ?_
          obtain ⟨r5, hb5, hF⟩ := Option.bind_eq_some_iff.1 hF
          refine T.step (W1.call (vSc eInt) r5 19 #[.int .i64 p2, .int .i64 (p0.pages.length : Int)] (by kernel_rfl) (fun _ => by kernel_rfl) (fun w' hh => annalkeep_Within_l p2 (p0.pages.length : Int) r5 hb5 w' ) ?_)
          intro u V6 hV6 hu
          obtain rfl := sureInt _ _ _ hu
          refine T.pure (.int .i64 r5) (by kernel_rfl) (fun _ => by kernel_rfl) ?_
          refine T.nil ?_
          refine T.seq ?_
          refine T.region ?_
          refine T.look (.agg #[.slice A1 p0.pages.length c1, .slice A2 p0.writes.length c2]) (by kernel_rfl) (fun w' hh => exec_loadN (cs := [.slice A1 p0.pages.length c1, .slice A2 p0.writes.length c2]) rfl rfl (by kernel_rfl) (by kernel_rfl) (fun j u hj => (hh.box_at (i := 0) (cs := [.slice A1 p0.pages.length c1, .slice A2 p0.writes.length c2]) (by rfl) 0 j).trans (seg_at (n := 2) rfl hj))) ?_
          refine T.pure (.int .i64 r5) (by kernel_rfl) (fun _ => by kernel_rfl) ?_
          obtain ⟨r6, hb6, hF⟩ := Option.bind_eq_some_iff.1 hF
          refine T.step (W1.call (vT2 (vSc eStr) (vSc eInt)) r6 12 #[.agg #[.slice A1 p0.pages.length c1, .slice A2 p0.writes.length c2], .int .i64 r5] (by kernel_rfl) (fun _ => by kernel_rfl) (fun w' hh => disk_Read_l p0 r5 r6 hb6 w' A1 c1 (SlOk.mono (SlOk.mono hs1 (View.le_trans (View.le_trans (View.le_trans (View.le_trans hV1 hV2) hV3) hV4) hV6)) hh.view) A2 c2 (SlOk.mono (SlOk.mono hs2 (View.le_trans (View.le_trans (View.le_trans (View.le_trans hV1 hV2) hV3) hV4) hV6)) hh.view)) ?_)
          intro u V7 hV7 hu
          obtain rfl := (Sure.t2 sureStr sureInt) _ _ _ hu
          refine T.pure (.tuple #[.string r6.1, .int .i64 r6.2]) (by kernel_rfl) (fun _ => by kernel_rfl) ?_
          refine T.pure (.string r6.1) (by kernel_rfl) (fun _ => by kernel_rfl) ?_
          refine T.pure (.int .i64 r6.2) (by kernel_rfl) (fun _ => by kernel_rfl) ?_
          refine T.pure (.string r6.1) (by kernel_rfl) (fun _ => by kernel_rfl) ?_
          refine T.pure (.int .i64 r6.2) (by kernel_rfl) (fun _ => by kernel_rfl) ?_
          refine T.nil ?_
          refine T.seq ?_
          refine T.region ?_
          refine T.look (.agg #[.slice A1 p0.pages.length c1, .slice A2 p0.writes.length c2]) (by kernel_rfl) (fun w' hh => exec_loadN (cs := [.slice A1 p0.pages.length c1, .slice A2 p0.writes.length c2]) rfl rfl (by kernel_rfl) (by kernel_rfl) (fun j u hj => (hh.box_at (i := 0) (cs := [.slice A1 p0.pages.length c1, .slice A2 p0.writes.length c2]) (by rfl) 0 j).trans (seg_at (n := 2) rfl hj))) ?_
          obtain ⟨r7, hb7, hF⟩ := Option.bind_eq_some_iff.1 hF
          refine T.step (W1.call (vT2 (vAg eDisk) (vSc eInt)) r7 17 #[.agg #[.slice A1 p0.pages.length c1, .slice A2 p0.writes.length c2]] (by kernel_rfl) (fun _ => by kernel_rfl) (fun w' hh => disk_Sync_l p0 r7 hb7 w' A1 c1 (SlOk.mono (SlOk.mono hs1 (View.le_trans (View.le_trans (View.le_trans (View.le_trans (View.le_trans hV1 hV2) hV3) hV4) hV6) hV7)) hh.view) A2 c2 (SlOk.mono (SlOk.mono hs2 (View.le_trans (View.le_trans (View.le_trans (View.le_trans (View.le_trans hV1 hV2) hV3) hV4) hV6) hV7)) hh.view)) ?_)
          intro u V8 hV8 hu
          obtain ⟨u3, u4, rfl, hu3, hu4⟩ := vT2_elim hu
          obtain ⟨cs3, rfl, hr3⟩ := vagg_elim hu3
          obtain ⟨A8, c8, A9, c9, rfl, hs8, hs9⟩ := hr3
          obtain rfl := sureInt _ _ _ hu4
          refine T.pure (.tuple #[.agg #[.slice A8 r7.1.pages.length c8, .slice A9 r7.1.writes.length c9], .int .i64 r7.2]) (by kernel_rfl) (fun _ => by kernel_rfl) ?_
          refine T.pure (.agg #[.slice A8 r7.1.pages.length c8, .slice A9 r7.1.writes.length c9]) (by kernel_rfl) (fun _ => by kernel_rfl) ?_
          refine T.pure (.int .i64 r7.2) (by kernel_rfl) (fun _ => by kernel_rfl) ?_
          refine T.step (W1.new 25 [.slice none 0 0, .slice none 0 0] (fun b => .pointer (some ⟨b, 0, none⟩)) (by kernel_rfl) (fun _ => by kernel_rfl) (fun b3 => ?_))
          refine T.step (W1.store 0 [.slice A8 r7.1.pages.length c8, .slice A9 r7.1.writes.length c9] [box b3 25 [.slice A8 r7.1.pages.length c8, .slice A9 r7.1.writes.length c9], box b1 25 [.slice A1 p0.pages.length c1, .slice A2 p0.writes.length c2]] (by rfl) rfl (by kernel_rfl) (fun w' hw => exec_store (vs := [.slice A8 r7.1.pages.length c8, .slice A9 r7.1.writes.length c9]) rfl rfl rfl rfl (by kernel_rfl) (one_of rfl) (by simp) rfl hw) ?_)
          refine T.pure (.int .i64 r7.2) (by kernel_rfl) (fun _ => by kernel_rfl) ?_
          refine T.nil ?_
          refine T.seq ?_
          refine T.region ?_
          refine T.look (.agg #[.slice A1 p0.pages.length c1, .slice A2 p0.writes.length c2]) (by kernel_rfl) (fun w' hh => exec_loadN (cs := [.slice A1 p0.pages.length c1, .slice A2 p0.writes.length c2]) rfl rfl (by kernel_rfl) (by kernel_rfl) (fun j u hj => (hh.box_at (i := 1) (cs := [.slice A1 p0.pages.length c1, .slice A2 p0.writes.length c2]) (by rfl) 0 j).trans (seg_at (n := 2) rfl hj))) ?_
          refine T.pure (.slice A3 p1.length c3) (by kernel_rfl) (fun _ => by kernel_rfl) ?_
          obtain ⟨r8, hb8, hF⟩ := Option.bind_eq_some_iff.1 hF
          refine T.step (W1.call (vT2 (vAg eDisk) (vSc eInt)) r8 15 #[.agg #[.slice A1 p0.pages.length c1, .slice A2 p0.writes.length c2], .slice A3 p1.length c3] (by kernel_rfl) (fun _ => by kernel_rfl) (fun w' hh => disk_Crash_l p0 p1 r8 hb8 w' A1 c1 (SlOk.mono (SlOk.mono hs1 (View.le_trans (View.le_trans (View.le_trans (View.le_trans (View.le_trans (View.le_trans hV1 hV2) hV3) hV4) hV6) hV7) hV8)) hh.view) A2 c2 (SlOk.mono (SlOk.mono hs2 (View.le_trans (View.le_trans (View.le_trans (View.le_trans (View.le_trans (View.le_trans hV1 hV2) hV3) hV4) hV6) hV7) hV8)) hh.view) A3 c3 (SlOk.mono (SlOk.mono hs3 (View.le_trans (View.le_trans (View.le_trans (View.le_trans (View.le_trans (View.le_trans hV1 hV2) hV3) hV4) hV6) hV7) hV8)) hh.view)) ?_)
          intro u V9 hV9 hu
          obtain ⟨u5, u6, rfl, hu5, hu6⟩ := vT2_elim hu
          obtain ⟨cs4, rfl, hr4⟩ := vagg_elim hu5
          obtain ⟨A10, c10, A11, c11, rfl, hs10, hs11⟩ := hr4
          obtain rfl := sureInt _ _ _ hu6
          refine T.pure (.tuple #[.agg #[.slice A10 r8.1.pages.length c10, .slice A11 r8.1.writes.length c11], .int .i64 r8.2]) (by kernel_rfl) (fun _ => by kernel_rfl) ?_
          refine T.pure (.agg #[.slice A10 r8.1.pages.length c10, .slice A11 r8.1.writes.length c11]) (by kernel_rfl) (fun _ => by kernel_rfl) ?_
          refine T.pure (.int .i64 r8.2) (by kernel_rfl) (fun _ => by kernel_rfl) ?_
          refine T.step (W1.new 25 [.slice none 0 0, .slice none 0 0] (fun b => .pointer (some ⟨b, 0, none⟩)) (by kernel_rfl) (fun _ => by kernel_rfl) (fun b4 => ?_))
          refine T.step (W1.store 0 [.slice A10 r8.1.pages.length c10, .slice A11 r8.1.writes.length c11] [box b4 25 [.slice A10 r8.1.pages.length c10, .slice A11 r8.1.writes.length c11], box b3 25 [.slice A8 r7.1.pages.length c8, .slice A9 r7.1.writes.length c9], box b1 25 [.slice A1 p0.pages.length c1, .slice A2 p0.writes.length c2]] (by rfl) rfl (by kernel_rfl) (fun w' hw => exec_store (vs := [.slice A10 r8.1.pages.length c10, .slice A11 r8.1.writes.length c11]) rfl rfl rfl rfl (by kernel_rfl) (one_of rfl) (by simp) rfl hw) ?_)
          refine T.pure (.int .i64 r8.2) (by kernel_rfl) (fun _ => by kernel_rfl) ?_
          refine T.nil ?_
          refine T.seq ?_
          refine T.cut (fun a w' => Fr 186 [(1, .slice A3 p1.length c3), (2, .int .i64 r5), (3, .pointer (some ⟨b1, 0, none⟩)), (11, .string r6.1), (12, .pointer (some ⟨b3, 0, none⟩)), (14, .pointer (some ⟨b4, 0, none⟩)), (82, .bool ((r6.2 != 0) || ((r7.2 != 0) || (r8.2 != 0))))] a ∧ Hp w V9 [box b4 25 [.slice A10 r8.1.pages.length c10, .slice A11 r8.1.writes.length c11], box b3 25 [.slice A8 r7.1.pages.length c8, .slice A9 r7.1.writes.length c9], box b1 25 [.slice A1 p0.pages.length c1, .slice A2 p0.writes.length c2]] w') ?_ ?_
          ·
            refine T.region ?_
            refine T.pure (.int .i64 r6.2) (by kernel_rfl) (fun _ => by kernel_rfl) ?_
            refine T.pure (.bool (r6.2 != 0)) (by kernel_rfl) (fun _ => by kernel_rfl) ?_
            refine T.pure (.bool (r6.2 != 0)) (by kernel_rfl) (fun _ => by kernel_rfl) ?_
            cases hg4 : (r6.2 != 0)
            ·
              skip
              refine T.pure (.int .i64 r7.2) (by kernel_rfl) (fun _ => by kernel_rfl) ?_
              refine T.pure (.bool (r7.2 != 0)) (by kernel_rfl) (fun _ => by kernel_rfl) ?_
              refine T.pure (.bool (r7.2 != 0)) (by kernel_rfl) (fun _ => by kernel_rfl) ?_
              refine T.pure (.bool (r7.2 != 0)) (by kernel_rfl) (fun _ => by kernel_rfl) ?_
              cases hg5 : (r7.2 != 0)
              ·
                skip
                refine T.pure (.int .i64 r8.2) (by kernel_rfl) (fun _ => by kernel_rfl) ?_
                refine T.pure (.bool (r8.2 != 0)) (by kernel_rfl) (fun _ => by kernel_rfl) ?_
                refine T.pure (.bool (r8.2 != 0)) (by kernel_rfl) (fun _ => by kernel_rfl) ?_
                refine T.nil ?_
                exact fun a w' hf hh => And.intro ((((((((Fr.nil hf).pick hf 82 rfl).pick hf 14 rfl).pick hf 12 rfl).pick hf 11 rfl).pick hf 3 rfl).pick hf 2 rfl).pick hf 1 rfl) (hh.sub (.cons_cons _ (.cons_cons _ (.cons_cons _ List.Sublist.slnil))))
              ·
                skip
                refine T.pass (by kernel_rfl) (by kernel_rfl) ?_
                refine T.pass (by kernel_rfl) (by kernel_rfl) ?_
                refine T.pure (.bool true) (by kernel_rfl) (fun _ => by kernel_rfl) ?_
                refine T.nil ?_
                exact fun a w' hf hh => And.intro ((((((((Fr.nil hf).pick hf 82 rfl).pick hf 14 rfl).pick hf 12 rfl).pick hf 11 rfl).pick hf 3 rfl).pick hf 2 rfl).pick hf 1 rfl) (hh.sub (.cons_cons _ (.cons_cons _ (.cons_cons _ List.Sublist.slnil))))
            ·
              skip
              refine T.pass (by kernel_rfl) (by kernel_rfl) ?_
              refine T.pass (by kernel_rfl) (by kernel_rfl) ?_
              refine T.pure (.bool true) (by kernel_rfl) (fun _ => by kernel_rfl) ?_
              refine T.pure (.bool true) (by kernel_rfl) (fun _ => by kernel_rfl) ?_
              refine T.pass (by kernel_rfl) (by kernel_rfl) ?_
              refine T.pass (by kernel_rfl) (by kernel_rfl) ?_
              refine T.pure (.bool true) (by kernel_rfl) (fun _ => by kernel_rfl) ?_
              refine T.nil ?_
              exact fun a w' hf hh => And.intro ((((((((Fr.nil hf).pick hf 82 rfl).pick hf 14 rfl).pick hf 12 rfl).pick hf 11 rfl).pick hf 3 rfl).pick hf 2 rfl).pick hf 1 rfl) (hh.sub (.cons_cons _ (.cons_cons _ (.cons_cons _ List.Sublist.slnil))))
          ·
            rintro a w' ⟨hf, hh⟩
            refine (?_ : T 186 w V9 [box b4 25 [.slice A10 r8.1.pages.length c10, .slice A11 r8.1.writes.length c11], box b3 25 [.slice A8 r7.1.pages.length c8, .slice A9 r7.1.writes.length c9], box b1 25 [.slice A1 p0.pages.length c1, .slice A2 p0.writes.length c2]] [(1, .slice A3 p1.length c3), (2, .int .i64 r5), (3, .pointer (some ⟨b1, 0, none⟩)), (11, .string r6.1), (12, .pointer (some ⟨b3, 0, none⟩)), (14, .pointer (some ⟨b4, 0, none⟩)), (82, .bool ((r6.2 != 0) || ((r7.2 != 0) || (r8.2 != 0))))] _) a w' hf hh
            clear hf hh
            refine T.cond ((r6.2 != 0) || ((r7.2 != 0) || (r8.2 != 0))) (by kernel_rfl) (by kernel_rfl) (fun hc3 => ?_) (fun hc3 => ?_)
            ·
              rw [hc3, cond_true] at hF
              refine T.seq ?_
              refine T.region ?_
              refine T.pure (.bool false) (by kernel_rfl) (fun _ => by kernel_rfl) ?_
              refine T.nil ?_
              cases hF
              refine T.ret rfl ?_
              exact T.ret1 rfl (ResIs.tmp rfl) fun w' hh => ⟨_, rfl, hh.below, (show _ from rfl)⟩
            ·
              rw [hc3, cond_false] at hF
              refine T.skip_code ?_
              refine T.seq ?_
              refine T.region ?_
              refine T.look (.agg #[.slice A8 r7.1.pages.length c8, .slice A9 r7.1.writes.length c9]) (by kernel_rfl) (fun w' hh => exec_loadN (cs := [.slice A8 r7.1.pages.length c8, .slice A9 r7.1.writes.length c9]) rfl rfl (by kernel_rfl) (by kernel_rfl) (fun j u hj => (hh.box_at (i := 1) (cs := [.slice A8 r7.1.pages.length c8, .slice A9 r7.1.writes.length c9]) (by rfl) 0 j).trans (seg_at (n := 2) rfl hj))) ?_
              refine T.pure (.int .i64 r5) (by kernel_rfl) (fun _ => by kernel_rfl) ?_
              obtain ⟨r9, hb9, hF⟩ := Option.bind_eq_some_iff.1 hF
              refine T.step (W1.call (vT2 (vSc eStr) (vSc eInt)) r9 12 #[.agg #[.slice A8 r7.1.pages.length c8, .slice A9 r7.1.writes.length c9], .int .i64 r5] (by kernel_rfl) (fun _ => by kernel_rfl) (fun w' hh => disk_Read_l r7.1 r5 r9 hb9 w' A8 c8 (SlOk.mono (SlOk.mono hs8 (View.le_trans (made_le _ _) hV9)) hh.view) A9 c9 (SlOk.mono (SlOk.mono hs9 (View.le_trans (made_le _ _) hV9)) hh.view)) ?_)
              intro u V10 hV10 hu
              obtain rfl := (Sure.t2 sureStr sureInt) _ _ _ hu
              refine T.pure (.tuple #[.string r9.1, .int .i64 r9.2]) (by kernel_rfl) (fun _ => by kernel_rfl) ?_
              refine T.pure (.string r9.1) (by kernel_rfl) (fun _ => by kernel_rfl) ?_
              refine T.pure (.int .i64 r9.2) (by kernel_rfl) (fun _ => by kernel_rfl) ?_
              refine T.pure (.string r9.1) (by kernel_rfl) (fun _ => by kernel_rfl) ?_
              refine T.pure (.int .i64 r9.2) (by kernel_rfl) (fun _ => by kernel_rfl) ?_
              refine T.nil ?_
              refine T.seq ?_
              refine T.region ?_
              refine T.look (.agg #[.slice A10 r8.1.pages.length c10, .slice A11 r8.1.writes.length c11]) (by kernel_rfl) (fun w' hh => exec_loadN (cs := [.slice A10 r8.1.pages.length c10, .slice A11 r8.1.writes.length c11]) rfl rfl (by kernel_rfl) (by kernel_rfl) (fun j u hj => (hh.box_at (i := 0) (cs := [.slice A10 r8.1.pages.length c10, .slice A11 r8.1.writes.length c11]) (by rfl) 0 j).trans (seg_at (n := 2) rfl hj))) ?_
              refine T.pure (.int .i64 r5) (by kernel_rfl) (fun _ => by kernel_rfl) ?_
              obtain ⟨r10, hb10, hF⟩ := Option.bind_eq_some_iff.1 hF
              refine T.step (W1.call (vT2 (vSc eStr) (vSc eInt)) r10 12 #[.agg #[.slice A10 r8.1.pages.length c10, .slice A11 r8.1.writes.length c11], .int .i64 r5] (by kernel_rfl) (fun _ => by kernel_rfl) (fun w' hh => disk_Read_l r8.1 r5 r10 hb10 w' A10 c10 (SlOk.mono (SlOk.mono hs10 (View.le_trans (made_le _ _) hV10)) hh.view) A11 c11 (SlOk.mono (SlOk.mono hs11 (View.le_trans (made_le _ _) hV10)) hh.view)) ?_)
              intro u V11 hV11 hu
              obtain rfl := (Sure.t2 sureStr sureInt) _ _ _ hu
              refine T.pure (.tuple #[.string r10.1, .int .i64 r10.2]) (by kernel_rfl) (fun _ => by kernel_rfl) ?_
              refine T.pure (.string r10.1) (by kernel_rfl) (fun _ => by kernel_rfl) ?_
              refine T.pure (.int .i64 r10.2) (by kernel_rfl) (fun _ => by kernel_rfl) ?_
              refine T.pure (.string r10.1) (by kernel_rfl) (fun _ => by kernel_rfl) ?_
              refine T.pure (.int .i64 r10.2) (by kernel_rfl) (fun _ => by kernel_rfl) ?_
              refine T.nil ?_
              refine T.seq ?_
              refine T.cut (fun a w' => Fr 186 [(1, .slice A3 p1.length c3), (2, .int .i64 r5), (3, .pointer (some ⟨b1, 0, none⟩)), (16, .string r9.1), (17, .string r10.1), (133, .bool ((r9.2 != 0) || ((r10.2 != 0) || ((!(seq r9.1 r6.1)) || ((decide ((0 : Int) < (IntKind.i64.wrap ((r7.1.writes.length : Int) + (r8.1.writes.length : Int))))) || (((r7.1.pages.length : Int) != (p0.pages.length : Int)) || ((r8.1.pages.length : Int) != (p0.pages.length : Int))))))))] a ∧ Hp w V11 [box b1 25 [.slice A1 p0.pages.length c1, .slice A2 p0.writes.length c2]] w') ?_ ?_
              ·
                refine T.region ?_
                refine T.pure (.int .i64 r9.2) (by kernel_rfl) (fun _ => by kernel_rfl) ?_
                refine T.pure (.bool (r9.2 != 0)) (by kernel_rfl) (fun _ => by kernel_rfl) ?_
                refine T.pure (.bool (r9.2 != 0)) (by kernel_rfl) (fun _ => by kernel_rfl) ?_
                cases hg6 : (r9.2 != 0)
                ·
                  skip
                  refine T.pure (.int .i64 r10.2) (by kernel_rfl) (fun _ => by kernel_rfl) ?_
                  refine T.pure (.bool (r10.2 != 0)) (by kernel_rfl) (fun _ => by kernel_rfl) ?_
                  refine T.pure (.bool (r10.2 != 0)) (by kernel_rfl) (fun _ => by kernel_rfl) ?_
                  refine T.pure (.bool (r10.2 != 0)) (by kernel_rfl) (fun _ => by kernel_rfl) ?_
                  cases hg7 : (r10.2 != 0)
                  ·
                    skip
                    refine T.pure (.string r9.1) (by kernel_rfl) (fun _ => by kernel_rfl) ?_
                    refine T.pure (.string r6.1) (by kernel_rfl) (fun _ => by kernel_rfl) ?_
                    refine T.pure (.bool (!(seq r9.1 r6.1))) (by kernel_rfl) (fun _ => by kernel_rfl) ?_
                    refine T.pure (.bool (!(seq r9.1 r6.1))) (by kernel_rfl) (fun _ => by kernel_rfl) ?_
                    refine T.pure (.bool (!(seq r9.1 r6.1))) (by kernel_rfl) (fun _ => by kernel_rfl) ?_
                    cases hg8 : (!(seq r9.1 r6.1))
                    ·
                      skip
                      refine T.pure (.pointer (some ⟨b3, 1, none⟩)) (by kernel_rfl) (fun _ => by kernel_rfl) ?_
                      refine T.look (.slice A9 r7.1.writes.length c9) (by kernel_rfl) (fun w' hh => exec_load1 rfl rfl (by kernel_rfl) (hh.cellBox (i := 1) (by rfl) 1)) ?_
                      refine T.pure (.int .i64 (r7.1.writes.length : Int)) (by kernel_rfl) (fun _ => by kernel_rfl) ?_
                      refine T.pure (.pointer (some ⟨b4, 1, none⟩)) (by kernel_rfl) (fun _ => by kernel_rfl) ?_
                      refine T.look (.slice A11 r8.1.writes.length c11) (by kernel_rfl) (fun w' hh => exec_load1 rfl rfl (by kernel_rfl) (hh.cellBox (i := 0) (by rfl) 1)) ?_
                      refine T.pure (.int .i64 (r8.1.writes.length : Int)) (by kernel_rfl) (fun _ => by kernel_rfl) ?_
                      refine T.pure (.int .i64 (IntKind.i64.wrap ((r7.1.writes.length : Int) + (r8.1.writes.length : Int)))) (by kernel_rfl) (fun _ => by kernel_rfl) ?_
                      refine T.pure (.bool (decide ((0 : Int) < (IntKind.i64.wrap ((r7.1.writes.length : Int) + (r8.1.writes.length : Int)))))) (by kernel_rfl) (fun _ => by kernel_rfl) ?_
                      refine T.pure (.bool (decide ((0 : Int) < (IntKind.i64.wrap ((r7.1.writes.length : Int) + (r8.1.writes.length : Int)))))) (by kernel_rfl) (fun _ => by kernel_rfl) ?_
                      refine T.pure (.bool (decide ((0 : Int) < (IntKind.i64.wrap ((r7.1.writes.length : Int) + (r8.1.writes.length : Int)))))) (by kernel_rfl) (fun _ => by kernel_rfl) ?_
                      cases hg9 : decide ((0 : Int) < (IntKind.i64.wrap ((r7.1.writes.length : Int) + (r8.1.writes.length : Int))))
                      ·
                        skip
                        refine T.pure (.pointer (some ⟨b3, 0, none⟩)) (by kernel_rfl) (fun _ => by kernel_rfl) ?_
                        refine T.look (.slice A8 r7.1.pages.length c8) (by kernel_rfl) (fun w' hh => exec_load1 rfl rfl (by kernel_rfl) (hh.cellBox (i := 1) (by rfl) 0)) ?_
                        refine T.pure (.int .i64 (r7.1.pages.length : Int)) (by kernel_rfl) (fun _ => by kernel_rfl) ?_
                        refine T.pure (.pointer (some ⟨b1, 0, none⟩)) (by kernel_rfl) (fun _ => by kernel_rfl) ?_
                        refine T.look (.slice A1 p0.pages.length c1) (by kernel_rfl) (fun w' hh => exec_load1 rfl rfl (by kernel_rfl) (hh.cellBox (i := 2) (by rfl) 0)) ?_
                        refine T.pure (.int .i64 (p0.pages.length : Int)) (by kernel_rfl) (fun _ => by kernel_rfl) ?_
                        refine T.pure (.bool ((r7.1.pages.length : Int) != (p0.pages.length : Int))) (by kernel_rfl) (fun _ => by kernel_rfl) ?_
                        refine T.pure (.bool ((r7.1.pages.length : Int) != (p0.pages.length : Int))) (by kernel_rfl) (fun _ => by kernel_rfl) ?_
                        refine T.pure (.bool ((r7.1.pages.length : Int) != (p0.pages.length : Int))) (by kernel_rfl) (fun _ => by kernel_rfl) ?_
                        cases hg10 : ((r7.1.pages.length : Int) != (p0.pages.length : Int))
                        ·
                          skip
                          refine T.pure (.pointer (some ⟨b4, 0, none⟩)) (by kernel_rfl) (fun _ => by kernel_rfl) ?_
                          refine T.look (.slice A10 r8.1.pages.length c10) (by kernel_rfl) (fun w' hh => exec_load1 rfl rfl (by kernel_rfl) (hh.cellBox (i := 0) (by rfl) 0)) ?_
                          refine T.pure (.int .i64 (r8.1.pages.length : Int)) (by kernel_rfl) (fun _ => by kernel_rfl) ?_
                          refine T.pure (.pointer (some ⟨b1, 0, none⟩)) (by kernel_rfl) (fun _ => by kernel_rfl) ?_
                          refine T.look (.slice A1 p0.pages.length c1) (by kernel_rfl) (fun w' hh => exec_load1 rfl rfl (by kernel_rfl) (hh.cellBox (i := 2) (by rfl) 0)) ?_
                          refine T.pure (.int .i64 (p0.pages.length : Int)) (by kernel_rfl) (fun _ => by kernel_rfl) ?_
                          refine T.pure (.bool ((r8.1.pages.length : Int) != (p0.pages.length : Int))) (by kernel_rfl) (fun _ => by kernel_rfl) ?_
                          refine T.pure (.bool ((r8.1.pages.length : Int) != (p0.pages.length : Int))) (by kernel_rfl) (fun _ => by kernel_rfl) ?_
                          refine T.nil ?_
                          exact fun a w' hf hh => And.intro (((((((Fr.nil hf).pick hf 133 rfl).pick hf 17 rfl).pick hf 16 rfl).pick hf 3 rfl).pick hf 2 rfl).pick hf 1 rfl) (hh.sub (.cons _ (.cons _ (.cons_cons _ List.Sublist.slnil))))
                        ·
                          skip
                          refine T.pass (by kernel_rfl) (by kernel_rfl) ?_
                          refine T.pass (by kernel_rfl) (by kernel_rfl) ?_
                          refine T.pass (by kernel_rfl) (by kernel_rfl) ?_
                          refine T.pass (by kernel_rfl) (by kernel_rfl) ?_
                          refine T.pass (by kernel_rfl) (by kernel_rfl) ?_
                          refine T.pass (by kernel_rfl) (by kernel_rfl) ?_
                          refine T.pass (by kernel_rfl) (by kernel_rfl) ?_
                          refine T.pure (.bool true) (by kernel_rfl) (fun _ => by kernel_rfl) ?_
                          refine T.nil ?_
                          exact fun a w' hf hh => And.intro (((((((Fr.nil hf).pick hf 133 rfl).pick hf 17 rfl).pick hf 16 rfl).pick hf 3 rfl).pick hf 2 rfl).pick hf 1 rfl) (hh.sub (.cons _ (.cons _ (.cons_cons _ List.Sublist.slnil))))
                      ·
                        skip
                        refine T.pass (by kernel_rfl) (by kernel_rfl) ?_
                        refine T.pass (by kernel_rfl) (by kernel_rfl) ?_
                        refine T.pass (by kernel_rfl) (by kernel_rfl) ?_
                        refine T.pass (by kernel_rfl) (by kernel_rfl) ?_
                        refine T.pass (by kernel_rfl) (by kernel_rfl) ?_
                        refine T.pass (by kernel_rfl) (by kernel_rfl) ?_
                        refine T.pass (by kernel_rfl) (by kernel_rfl) ?_
                        refine T.pure (.bool true) (by kernel_rfl) (fun _ => by kernel_rfl) ?_
                        refine T.pure (.bool true) (by kernel_rfl) (fun _ => by kernel_rfl) ?_
                        refine T.pass (by kernel_rfl) (by kernel_rfl) ?_
                        refine T.pass (by kernel_rfl) (by kernel_rfl) ?_
                        refine T.pass (by kernel_rfl) (by kernel_rfl) ?_
                        refine T.pass (by kernel_rfl) (by kernel_rfl) ?_
                        refine T.pass (by kernel_rfl) (by kernel_rfl) ?_
                        refine T.pass (by kernel_rfl) (by kernel_rfl) ?_
                        refine T.pass (by kernel_rfl) (by kernel_rfl) ?_
                        refine T.pure (.bool true) (by kernel_rfl) (fun _ => by kernel_rfl) ?_
                        refine T.nil ?_
                        exact fun a w' hf hh => And.intro (((((((Fr.nil hf).pick hf 133 rfl).pick hf 17 rfl).pick hf 16 rfl).pick hf 3 rfl).pick hf 2 rfl).pick hf 1 rfl) (hh.sub (.cons _ (.cons _ (.cons_cons _ List.Sublist.slnil))))
                    ·
                      skip
                      refine T.pass (by kernel_rfl) (by kernel_rfl) ?_
                      refine T.pass (by kernel_rfl) (by kernel_rfl) ?_
                      refine T.pass (by kernel_rfl) (by kernel_rfl) ?_
                      refine T.pass (by kernel_rfl) (by kernel_rfl) ?_
                      refine T.pass (by kernel_rfl) (by kernel_rfl) ?_
                      refine T.pass (by kernel_rfl) (by kernel_rfl) ?_
                      refine T.pass (by kernel_rfl) (by kernel_rfl) ?_
                      refine T.pass (by kernel_rfl) (by kernel_rfl) ?_
                      refine T.pure (.bool true) (by kernel_rfl) (fun _ => by kernel_rfl) ?_
                      refine T.pure (.bool true) (by kernel_rfl) (fun _ => by kernel_rfl) ?_
                      refine T.pass (by kernel_rfl) (by kernel_rfl) ?_
                      refine T.pass (by kernel_rfl) (by kernel_rfl) ?_
                      refine T.pass (by kernel_rfl) (by kernel_rfl) ?_
                      refine T.pass (by kernel_rfl) (by kernel_rfl) ?_
                      refine T.pass (by kernel_rfl) (by kernel_rfl) ?_
                      refine T.pass (by kernel_rfl) (by kernel_rfl) ?_
                      refine T.pass (by kernel_rfl) (by kernel_rfl) ?_
                      refine T.pure (.bool true) (by kernel_rfl) (fun _ => by kernel_rfl) ?_
                      refine T.pure (.bool true) (by kernel_rfl) (fun _ => by kernel_rfl) ?_
                      refine T.pass (by kernel_rfl) (by kernel_rfl) ?_
                      refine T.pass (by kernel_rfl) (by kernel_rfl) ?_
                      refine T.pass (by kernel_rfl) (by kernel_rfl) ?_
                      refine T.pass (by kernel_rfl) (by kernel_rfl) ?_
                      refine T.pass (by kernel_rfl) (by kernel_rfl) ?_
                      refine T.pass (by kernel_rfl) (by kernel_rfl) ?_
                      refine T.pass (by kernel_rfl) (by kernel_rfl) ?_
                      refine T.pure (.bool true) (by kernel_rfl) (fun _ => by kernel_rfl) ?_
                      refine T.nil ?_
                      exact fun a w' hf hh => And.intro (((((((Fr.nil hf).pick hf 133 rfl).pick hf 17 rfl).pick hf 16 rfl).pick hf 3 rfl).pick hf 2 rfl).pick hf 1 rfl) (hh.sub (.cons _ (.cons _ (.cons_cons _ List.Sublist.slnil))))
                  ·
                    skip
                    refine T.pass (by kernel_rfl) (by kernel_rfl) ?_
                    refine T.pass (by kernel_rfl) (by kernel_rfl) ?_
                    refine T.pass (by kernel_rfl) (by kernel_rfl) ?_
                    refine T.pure (.bool true) (by kernel_rfl) (fun _ => by kernel_rfl) ?_
                    refine T.pure (.bool true) (by kernel_rfl) (fun _ => by kernel_rfl) ?_
                    refine T.pass (by kernel_rfl) (by kernel_rfl) ?_
                    refine T.pass (by kernel_rfl) (by kernel_rfl) ?_
                    refine T.pass (by kernel_rfl) (by kernel_rfl) ?_
                    refine T.pass (by kernel_rfl) (by kernel_rfl) ?_
                    refine T.pass (by kernel_rfl) (by kernel_rfl) ?_
                    refine T.pass (by kernel_rfl) (by kernel_rfl) ?_
                    refine T.pass (by kernel_rfl) (by kernel_rfl) ?_
                    refine T.pass (by kernel_rfl) (by kernel_rfl) ?_
                    refine T.pure (.bool true) (by kernel_rfl) (fun _ => by kernel_rfl) ?_
                    refine T.pure (.bool true) (by kernel_rfl) (fun _ => by kernel_rfl) ?_
                    refine T.pass (by kernel_rfl) (by kernel_rfl) ?_
                    refine T.pass (by kernel_rfl) (by kernel_rfl) ?_
                    refine T.pass (by kernel_rfl) (by kernel_rfl) ?_
                    refine T.pass (by kernel_rfl) (by kernel_rfl) ?_
                    refine T.pass (by kernel_rfl) (by kernel_rfl) ?_
                    refine T.pass (by kernel_rfl) (by kernel_rfl) ?_
                    refine T.pass (by kernel_rfl) (by kernel_rfl) ?_
                    refine T.pure (.bool true) (by kernel_rfl) (fun _ => by kernel_rfl) ?_
                    refine T.pure (.bool true) (by kernel_rfl) (fun _ => by kernel_rfl) ?_
                    refine T.pass (by kernel_rfl) (by kernel_rfl) ?_
                    refine T.pass (by kernel_rfl) (by kernel_rfl) ?_
                    refine T.pass (by kernel_rfl) (by kernel_rfl) ?_
                    refine T.pass (by kernel_rfl) (by kernel_rfl) ?_
                    refine T.pass (by kernel_rfl) (by kernel_rfl) ?_
                    refine T.pass (by kernel_rfl) (by kernel_rfl) ?_
                    refine T.pass (by kernel_rfl) (by kernel_rfl) ?_
                    refine T.pure (.bool true) (by kernel_rfl) (fun _ => by kernel_rfl) ?_
                    refine T.nil ?_
                    exact fun a w' hf hh => And.intro (((((((Fr.nil hf).pick hf 133 rfl).pick hf 17 rfl).pick hf 16 rfl).pick hf 3 rfl).pick hf 2 rfl).pick hf 1 rfl) (hh.sub (.cons _ (.cons _ (.cons_cons _ List.Sublist.slnil))))
                ·
                  skip
                  refine T.pass (by kernel_rfl) (by kernel_rfl) ?_
                  refine T.pass (by kernel_rfl) (by kernel_rfl) ?_
                  refine T.pure (.bool true) (by kernel_rfl) (fun _ => by kernel_rfl) ?_
                  refine T.pure (.bool true) (by kernel_rfl) (fun _ => by kernel_rfl) ?_
                  refine T.pass (by kernel_rfl) (by kernel_rfl) ?_
                  refine T.pass (by kernel_rfl) (by kernel_rfl) ?_
                  refine T.pass (by kernel_rfl) (by kernel_rfl) ?_
                  refine T.pure (.bool true) (by kernel_rfl) (fun _ => by kernel_rfl) ?_
                  refine T.pure (.bool true) (by kernel_rfl) (fun _ => by kernel_rfl) ?_
                  refine T.pass (by kernel_rfl) (by kernel_rfl) ?_
                  refine T.pass (by kernel_rfl) (by kernel_rfl) ?_
                  refine T.pass (by kernel_rfl) (by kernel_rfl) ?_
                  refine T.pass (by kernel_rfl) (by kernel_rfl) ?_
                  refine T.pass (by kernel_rfl) (by kernel_rfl) ?_
                  refine T.pass (by kernel_rfl) (by kernel_rfl) ?_
                  refine T.pass (by kernel_rfl) (by kernel_rfl) ?_
                  refine T.pass (by kernel_rfl) (by kernel_rfl) ?_
                  refine T.pure (.bool true) (by kernel_rfl) (fun _ => by kernel_rfl) ?_
                  refine T.pure (.bool true) (by kernel_rfl) (fun _ => by kernel_rfl) ?_
                  refine T.pass (by kernel_rfl) (by kernel_rfl) ?_
                  refine T.pass (by kernel_rfl) (by kernel_rfl) ?_
                  refine T.pass (by kernel_rfl) (by kernel_rfl) ?_
                  refine T.pass (by kernel_rfl) (by kernel_rfl) ?_
                  refine T.pass (by kernel_rfl) (by kernel_rfl) ?_
                  refine T.pass (by kernel_rfl) (by kernel_rfl) ?_
                  refine T.pass (by kernel_rfl) (by kernel_rfl) ?_
                  refine T.pure (.bool true) (by kernel_rfl) (fun _ => by kernel_rfl) ?_
                  refine T.pure (.bool true) (by kernel_rfl) (fun _ => by kernel_rfl) ?_
                  refine T.pass (by kernel_rfl) (by kernel_rfl) ?_
                  refine T.pass (by kernel_rfl) (by kernel_rfl) ?_
                  refine T.pass (by kernel_rfl) (by kernel_rfl) ?_
                  refine T.pass (by kernel_rfl) (by kernel_rfl) ?_
                  refine T.pass (by kernel_rfl) (by kernel_rfl) ?_
                  refine T.pass (by kernel_rfl) (by kernel_rfl) ?_
                  refine T.pass (by kernel_rfl) (by kernel_rfl) ?_
                  refine T.pure (.bool true) (by kernel_rfl) (fun _ => by kernel_rfl) ?_
                  refine T.nil ?_
                  exact fun a w' hf hh => And.intro (((((((Fr.nil hf).pick hf 133 rfl).pick hf 17 rfl).pick hf 16 rfl).pick hf 3 rfl).pick hf 2 rfl).pick hf 1 rfl) (hh.sub (.cons _ (.cons _ (.cons_cons _ List.Sublist.slnil))))
              ·
                rintro a w' ⟨hf, hh⟩
                refine (?_ : T 186 w V11 [box b1 25 [.slice A1 p0.pages.length c1, .slice A2 p0.writes.length c2]] [(1, .slice A3 p1.length c3), (2, .int .i64 r5), (3, .pointer (some ⟨b1, 0, none⟩)), (16, .string r9.1), (17, .string r10.1), (133, .bool ((r9.2 != 0) || ((r10.2 != 0) || ((!(seq r9.1 r6.1)) || ((decide ((0 : Int) < (IntKind.i64.wrap ((r7.1.writes.length : Int) + (r8.1.writes.length : Int))))) || (((r7.1.pages.length : Int) != (p0.pages.length : Int)) || ((r8.1.pages.length : Int) != (p0.pages.length : Int))))))))] _) a w' hf hh
                clear hf hh
                refine T.cond ((r9.2 != 0) || ((r10.2 != 0) || ((!(seq r9.1 r6.1)) || ((decide ((0 : Int) < (IntKind.i64.wrap ((r7.1.writes.length : Int) + (r8.1.writes.length : Int))))) || (((r7.1.pages.length : Int) != (p0.pages.length : Int)) || ((r8.1.pages.length : Int) != (p0.pages.length : Int))))))) (by kernel_rfl) (by kernel_rfl) (fun hc4 => ?_) (fun hc4 => ?_)
                ·
                  rw [hc4, cond_true] at hF
                  refine T.seq ?_
                  refine T.region ?_
                  refine T.pure (.bool false) (by kernel_rfl) (fun _ => by kernel_rfl) ?_
                  refine T.nil ?_
                  cases hF
                  refine T.ret rfl ?_
                  exact T.ret1 rfl (ResIs.tmp rfl) fun w' hh => ⟨_, rfl, hh.below, (show _ from rfl)⟩
                ·
                  rw [hc4, cond_false] at hF
                  refine T.skip_code ?_
                  refine T.seq ?_
                  refine T.region ?_
                  refine T.pure (.string r10.1) (by kernel_rfl) (fun _ => by kernel_rfl) ?_
                  refine T.pure (.pointer (some ⟨b1, 0, none⟩)) (by kernel_rfl) (fun _ => by kernel_rfl) ?_
                  refine T.look (.slice A1 p0.pages.length c1) (by kernel_rfl) (fun w' hh => exec_load1 rfl rfl (by kernel_rfl) (hh.cellBox (i := 0) (by rfl) 0)) ?_
                  refine T.pure (.int .i64 r5) (by kernel_rfl) (fun _ => by kernel_rfl) ?_
                  obtain ⟨e1, hb11, hF⟩ := Option.bind_eq_some_iff.1 hF
                  obtain ⟨hi1, hi2, hi3⟩ := idx_some hb11
                  refine T.look (.pointer (some ((sadr A1).add (r5.toNat * 1)))) (by kernel_rfl) (fun w' hh => exec_indexAddr (e := 9) (s := 1) rfl rfl rfl (by kernel_rfl) (by kernel_rfl) hi1 hi2 ((SlOk.mono hs1 (View.le_trans (View.le_trans (View.le_trans (View.le_trans (View.le_trans (View.le_trans (View.le_trans (View.le_trans (View.le_trans hV1 hV2) hV3) hV4) hV6) hV7) hV8) hV9) hV10) hV11)).some_ hi3 (by decide))) ?_
                  refine T.look (.string e1) (by kernel_rfl) (fun w' hh => exec_load1 rfl rfl (by kernel_rfl) (hh.cell_view (SlOk.cellF0 (E := eStr) (SlOk.mono hs1 (View.le_trans (View.le_trans (View.le_trans (View.le_trans (View.le_trans (View.le_trans (View.le_trans (View.le_trans (View.le_trans hV1 hV2) hV3) hV4) hV6) hV7) hV8) hV9) hV10) hV11)) hi3 (fun _ _ _ h => h) rfl))) ?_
                  refine T.pure (.bool (seq r10.1 e1)) (by kernel_rfl) (fun _ => by kernel_rfl) ?_
                  refine T.pure (.bool (seq r10.1 e1)) (by kernel_rfl) (fun _ => by kernel_rfl) ?_
                  refine T.nil ?_
                  refine T.seq ?_
                  refine T.region ?_
                  refine T.pure (.bool false) (by kernel_rfl) (fun _ => by kernel_rfl) ?_
                  refine T.nil ?_
                  refine T.seq ?_
                  refine T.seq ?_
                  refine T.region ?_
                  refine T.pure (.pointer (some ⟨b1, 1, none⟩)) (by kernel_rfl) (fun _ => by kernel_rfl) ?_
                  refine T.look (.slice A2 p0.writes.length c2) (by kernel_rfl) (fun w' hh => exec_load1 rfl rfl (by kernel_rfl) (hh.cellBox (i := 0) (by rfl) 1)) ?_
                  refine T.pure (.int .i64 (p0.writes.length : Int)) (by kernel_rfl) (fun _ => by kernel_rfl) ?_
                  refine T.pure (.int .i64 0) (by kernel_rfl) (fun _ => by kernel_rfl) ?_
                  refine T.nil ?_
                  obtain ⟨q1, hz1, hF⟩ := Option.bind_eq_some_iff.1 hF
                  refine T.mid (fun a w' => ∃ (z2 : Bool) (z3 : Bool), q1 = (z2, z3) ∧ Fr 186 [(2, .int .i64 r5), (3, .pointer (some ⟨b1, 0, none⟩)), (16, .string r9.1), (18, .bool z2), (19, .bool z3)] a ∧ Hp w V11 [box b1 25 [.slice A1 p0.pages.length c1, .slice A2 p0.writes.length c2]] w') ?_ ?_
                  ·
                    refine T.block ?_
                    refine T.iter (fun s1 a w' => ∃ (x1 : Bool) (x2 : Bool) (x3 : Int), s1 = (x1, x2, x3) ∧ Fr 186 [(1, .slice A3 p1.length c3), (2, .int .i64 r5), (3, .pointer (some ⟨b1, 0, none⟩)), (16, .string r9.1), (17, .string r10.1), (18, .bool x1), (19, .bool x2), (142, .slice A2 p0.writes.length c2), (143, .int .i64 (p0.writes.length : Int)), (144, .int .i64 x3)] a ∧ Hp w V11 [box b1 25 [.slice A1 p0.pages.length c1, .slice A2 p0.writes.length c2]] w') hz1 ?_ ?_
                    ·
                      exact fun a w' hf hh => Exists.intro (seq r10.1 e1) (Exists.intro false (Exists.intro 0 (And.intro rfl (And.intro (((((((((((Fr.nil hf).pick hf 144 rfl).pick hf 143 rfl).pick hf 142 rfl).pick hf 19 rfl).pick hf 18 rfl).pick hf 17 rfl).pick hf 16 rfl).pick hf 3 rfl).pick hf 2 rfl).pick hf 1 rfl) (hh.sub (.cons_cons _ List.Sublist.slnil))))))
                    ·
                      rintro s1 y1 hY1 hr5 a w' ⟨x1, x2, x3, rfl, hf, hh⟩
                      refine (?_ : T 186 w V11 [box b1 25 [.slice A1 p0.pages.length c1, .slice A2 p0.writes.length c2]] [(1, .slice A3 p1.length c3), (2, .int .i64 r5), (3, .pointer (some ⟨b1, 0, none⟩)), (16, .string r9.1), (17, .string r10.1), (18, .bool x1), (19, .bool x2), (142, .slice A2 p0.writes.length c2), (143, .int .i64 (p0.writes.length : Int)), (144, .int .i64 x3)] _) a w' hf hh
                      clear hf hh
                      try dsimp only at hY1
                      refine T.seq ?_
                      refine T.region ?_
                      refine T.pure (.bool (decide (x3 < (p0.writes.length : Int)))) (by kernel_rfl) (fun _ => by kernel_rfl) ?_
                      refine T.nil ?_
                      refine T.seq ?_
                      refine T.cond (decide (x3 < (p0.writes.length : Int))) (by kernel_rfl) (by kernel_rfl) (fun hc5 => ?_) (fun hc5 => ?_)
                      ·
                        rw [hc5, cond_true] at hY1
                        refine T.skip_code ?_
                        obtain ⟨q2, hX2, hY1⟩ := Option.bind_eq_some_iff.1 hY1
                        refine T.cut (fun a w' => ∃ (z4 : Int) (z5 : ByteArray) (z6 : Bool) (z7 : Bool), q2 = (z4, z5, z6, z7) ∧ ∃ (b5 : Nat), Fr 186 [(1, .slice A3 p1.length c3), (2, .int .i64 r5), (3, .pointer (some ⟨b1, 0, none⟩)), (16, .string r9.1), (17, .string r10.1), (18, .bool z6), (19, .bool z7), (142, .slice A2 p0.writes.length c2), (143, .int .i64 (p0.writes.length : Int)), (144, .int .i64 x3)] a ∧ Hp w V11 [box b5 42 [.int .i64 z4, .string z5], box b1 25 [.slice A1 p0.pages.length c1, .slice A2 p0.writes.length c2]] w') ?_ ?_
                        ·
                          refine T.block ?_
                          refine T.seq ?_
                          refine T.region ?_
                          refine T.pure (.int .i64 x3) (by kernel_rfl) (fun _ => by kernel_rfl) ?_
                          obtain ⟨e2, hb12, hX2⟩ := Option.bind_eq_some_iff.1 hX2
                          obtain ⟨hi4, hi5, hi6⟩ := idx_some hb12
                          refine T.look (.pointer (some ((sadr A2).add (x3.toNat * 2)))) (by kernel_rfl) (fun w' hh => exec_indexAddr (e := 42) (s := 2) rfl rfl rfl (by kernel_rfl) (by kernel_rfl) hi4 hi5 ((SlOk.mono hs2 (View.le_trans (View.le_trans (View.le_trans (View.le_trans (View.le_trans (View.le_trans (View.le_trans (View.le_trans (View.le_trans hV1 hV2) hV3) hV4) hV6) hV7) hV8) hV9) hV10) hV11)).some_ hi6 (by decide))) ?_
                          refine T.look (.agg #[.int .i64 e2.page, .string e2.text]) (by kernel_rfl) (fun w' hh => exec_loadN (cs := [.int .i64 e2.page, .string e2.text]) rfl rfl (by kernel_rfl) (by kernel_rfl) (fun j u hj => (hh.cell_view (SlOk.cellF (E := eWrite) (SlOk.mono hs2 (View.le_trans (View.le_trans (View.le_trans (View.le_trans (View.le_trans (View.le_trans (View.le_trans (View.le_trans (View.le_trans hV1 hV2) hV3) hV4) hV6) hV7) hV8) hV9) hV10) hV11)) hi6 j (fun _ _ _ h => h) hj)))) ?_
                          refine T.step (W1.new 42 [.int .i64 0, .string (ByteArray.mk #[])] (fun b => .pointer (some ⟨b, 0, none⟩)) (by kernel_rfl) (fun _ => by kernel_rfl) (fun b5 => ?_))
                          refine T.pure (.int .i64 x3) (by kernel_rfl) (fun _ => by kernel_rfl) ?_
                          refine T.step (W1.store 0 [.int .i64 e2.page, .string e2.text] [box b5 42 [.int .i64 e2.page, .string e2.text], box b1 25 [.slice A1 p0.pages.length c1, .slice A2 p0.writes.length c2]] (by rfl) rfl (by kernel_rfl) (fun w' hw => exec_store (vs := [.int .i64 e2.page, .string e2.text]) rfl rfl rfl rfl (by kernel_rfl) (one_of rfl) (by simp) rfl hw) ?_)
                          refine T.nil ?_
                          refine T.seq ?_
                          refine T.region ?_
                          refine T.pure (.pointer (some ⟨b5, 0, none⟩)) (by kernel_rfl) (fun _ => by kernel_rfl) ?_
                          refine T.look (.int .i64 e2.page) (by kernel_rfl) (fun w' hh => exec_load1 rfl rfl (by kernel_rfl) (hh.cellBox (i := 0) (by rfl) 0)) ?_
                          refine T.pure (.int .i64 r5) (by kernel_rfl) (fun _ => by kernel_rfl) ?_
                          refine T.pure (.bool (e2.page == r5)) (by kernel_rfl) (fun _ => by kernel_rfl) ?_
                          refine T.nil ?_
                          refine T.cond (e2.page == r5) (by kernel_rfl) (by kernel_rfl) (fun hc6 => ?_) (fun hc6 => ?_)
                          ·
                            rw [hc6, cond_true] at hX2
                            refine T.seq ?_
                            refine T.region ?_
                            refine T.pure (.bool true) (by kernel_rfl) (fun _ => by kernel_rfl) ?_
                            refine T.nil ?_
                            refine T.region ?_
                            refine T.pure (.bool x1) (by kernel_rfl) (fun _ => by kernel_rfl) ?_
                            refine T.pure (.bool x1) (by kernel_rfl) (fun _ => by kernel_rfl) ?_
                            cases hg11 : x1
                            ·
                              skip
                              rw [hg11, cond_false] at hX2
                              refine T.pure (.string r10.1) (by kernel_rfl) (fun _ => by kernel_rfl) ?_
                              refine T.pure (.pointer (some ⟨b5, 1, none⟩)) (by kernel_rfl) (fun _ => by kernel_rfl) ?_
                              refine T.look (.string e2.text) (by kernel_rfl) (fun w' hh => exec_load1 rfl rfl (by kernel_rfl) (hh.cellBox (i := 0) (by rfl) 1)) ?_
                              refine T.pure (.bool (seq r10.1 e2.text)) (by kernel_rfl) (fun _ => by kernel_rfl) ?_
                              refine T.pure (.bool (seq r10.1 e2.text)) (by kernel_rfl) (fun _ => by kernel_rfl) ?_
                              cases hg12 : (seq r10.1 e2.text)
                              ·
                                skip
                                rw [hg12, cond_false] at hX2
                                refine T.pass (by kernel_rfl) (by kernel_rfl) ?_
                                refine T.pass (by kernel_rfl) (by kernel_rfl) ?_
                                refine T.pass (by kernel_rfl) (by kernel_rfl) ?_
                                refine T.pass (by kernel_rfl) (by kernel_rfl) ?_
                                refine T.pure (.bool false) (by kernel_rfl) (fun _ => by kernel_rfl) ?_
                                refine T.pure (.bool false) (by kernel_rfl) (fun _ => by kernel_rfl) ?_
                                refine T.pass (by kernel_rfl) (by kernel_rfl) ?_
                                refine T.pass (by kernel_rfl) (by kernel_rfl) ?_
                                refine T.pass (by kernel_rfl) (by kernel_rfl) ?_
                                refine T.pass (by kernel_rfl) (by kernel_rfl) ?_
                                refine T.pure (.bool false) (by kernel_rfl) (fun _ => by kernel_rfl) ?_
                                refine T.pure (.bool false) (by kernel_rfl) (fun _ => by kernel_rfl) ?_
                                refine T.pure (.bool false) (by kernel_rfl) (fun _ => by kernel_rfl) ?_
                                refine T.nil ?_
                                cases hX2
                                exact fun a w' hf hh => Exists.intro e2.page (Exists.intro e2.text (Exists.intro false (Exists.intro true (And.intro rfl (Exists.intro b5 (And.intro (((((((((((Fr.nil hf).pick hf 144 rfl).pick hf 143 rfl).pick hf 142 rfl).pick hf 19 rfl).pick hf 18 rfl).pick hf 17 rfl).pick hf 16 rfl).pick hf 3 rfl).pick hf 2 rfl).pick hf 1 rfl) (hh.sub (.cons_cons _ (.cons_cons _ List.Sublist.slnil)))))))))
                              ·
                                skip
                                rw [hg12, cond_true] at hX2
                                refine T.pure (.int .i64 x3) (by kernel_rfl) (fun _ => by kernel_rfl) ?_
                                refine T.pure (.slice A3 p1.length c3) (by kernel_rfl) (fun _ => by kernel_rfl) ?_
                                refine T.pure (.int .i64 (p1.length : Int)) (by kernel_rfl) (fun _ => by kernel_rfl) ?_
                                refine T.pure (.bool (decide (x3 < (p1.length : Int)))) (by kernel_rfl) (fun _ => by kernel_rfl) ?_
                                refine T.pure (.bool (decide (x3 < (p1.length : Int)))) (by kernel_rfl) (fun _ => by kernel_rfl) ?_
                                refine T.pure (.bool (decide (x3 < (p1.length : Int)))) (by kernel_rfl) (fun _ => by kernel_rfl) ?_
                                cases hg13 : decide (x3 < (p1.length : Int))
                                ·
                                  skip
                                  rw [hg13, cond_false] at hX2
                                  refine T.pass (by kernel_rfl) (by kernel_rfl) ?_
                                  refine T.pass (by kernel_rfl) (by kernel_rfl) ?_
                                  refine T.pass (by kernel_rfl) (by kernel_rfl) ?_
                                  refine T.pass (by kernel_rfl) (by kernel_rfl) ?_
                                  refine T.pure (.bool false) (by kernel_rfl) (fun _ => by kernel_rfl) ?_
                                  refine T.pure (.bool false) (by kernel_rfl) (fun _ => by kernel_rfl) ?_
                                  refine T.pure (.bool false) (by kernel_rfl) (fun _ => by kernel_rfl) ?_
                                  refine T.nil ?_
                                  cases hX2
                                  exact fun a w' hf hh => Exists.intro e2.page (Exists.intro e2.text (Exists.intro false (Exists.intro true (And.intro rfl (Exists.intro b5 (And.intro (((((((((((Fr.nil hf).pick hf 144 rfl).pick hf 143 rfl).pick hf 142 rfl).pick hf 19 rfl).pick hf 18 rfl).pick hf 17 rfl).pick hf 16 rfl).pick hf 3 rfl).pick hf 2 rfl).pick hf 1 rfl) (hh.sub (.cons_cons _ (.cons_cons _ List.Sublist.slnil)))))))))
                                ·
                                  skip
                                  rw [hg13, cond_true] at hX2
                                  refine T.pure (.slice A3 p1.length c3) (by kernel_rfl) (fun _ => by kernel_rfl) ?_
                                  refine T.pure (.int .i64 x3) (by kernel_rfl) (fun _ => by kernel_rfl) ?_
                                  obtain ⟨e3, hb13, hX2⟩ := Option.bind_eq_some_iff.1 hX2
                                  obtain ⟨hi7, hi8, hi9⟩ := idx_some hb13
                                  refine T.look (.pointer (some ((sadr A3).add (x3.toNat * 1)))) (by kernel_rfl) (fun w' hh => exec_indexAddr (e := 4) (s := 1) rfl rfl rfl (by kernel_rfl) (by kernel_rfl) hi7 hi8 ((SlOk.mono hs3 (View.le_trans (View.le_trans (View.le_trans (View.le_trans (View.le_trans (View.le_trans (View.le_trans (View.le_trans (View.le_trans hV1 hV2) hV3) hV4) hV6) hV7) hV8) hV9) hV10) hV11)).some_ hi9 (by decide))) ?_
                                  refine T.look (.bool e3) (by kernel_rfl) (fun w' hh => exec_load1 rfl rfl (by kernel_rfl) (hh.cell_view (SlOk.cellF0 (E := eBool) (SlOk.mono hs3 (View.le_trans (View.le_trans (View.le_trans (View.le_trans (View.le_trans (View.le_trans (View.le_trans (View.le_trans (View.le_trans hV1 hV2) hV3) hV4) hV6) hV7) hV8) hV9) hV10) hV11)) hi9 (fun _ _ _ h => h) rfl))) ?_
                                  refine T.pure (.bool e3) (by kernel_rfl) (fun _ => by kernel_rfl) ?_
                                  refine T.pure (.bool e3) (by kernel_rfl) (fun _ => by kernel_rfl) ?_
                                  refine T.pure (.bool e3) (by kernel_rfl) (fun _ => by kernel_rfl) ?_
                                  refine T.nil ?_
                                  cases hX2
                                  exact fun a w' hf hh => Exists.intro e2.page (Exists.intro e2.text (Exists.intro e3 (Exists.intro true (And.intro rfl (Exists.intro b5 (And.intro (((((((((((Fr.nil hf).pick hf 144 rfl).pick hf 143 rfl).pick hf 142 rfl).pick hf 19 rfl).pick hf 18 rfl).pick hf 17 rfl).pick hf 16 rfl).pick hf 3 rfl).pick hf 2 rfl).pick hf 1 rfl) (hh.sub (.cons_cons _ (.cons_cons _ List.Sublist.slnil)))))))))
                            ·
                              skip
                              rw [hg11, cond_true] at hX2
                              refine T.pass (by kernel_rfl) (by kernel_rfl) ?_
                              refine T.pass (by kernel_rfl) (by kernel_rfl) ?_
                              refine T.pass (by kernel_rfl) (by kernel_rfl) ?_
                              refine T.pass (by kernel_rfl) (by kernel_rfl) ?_
                              refine T.pass (by kernel_rfl) (by kernel_rfl) ?_
                              refine T.pass (by kernel_rfl) (by kernel_rfl) ?_
                              refine T.pass (by kernel_rfl) (by kernel_rfl) ?_
                              refine T.pass (by kernel_rfl) (by kernel_rfl) ?_
                              refine T.pass (by kernel_rfl) (by kernel_rfl) ?_
                              refine T.pass (by kernel_rfl) (by kernel_rfl) ?_
                              refine T.pass (by kernel_rfl) (by kernel_rfl) ?_
                              refine T.pass (by kernel_rfl) (by kernel_rfl) ?_
                              refine T.pass (by kernel_rfl) (by kernel_rfl) ?_
                              refine T.pass (by kernel_rfl) (by kernel_rfl) ?_
                              refine T.pass (by kernel_rfl) (by kernel_rfl) ?_
                              refine T.pass (by kernel_rfl) (by kernel_rfl) ?_
                              refine T.pure (.bool true) (by kernel_rfl) (fun _ => by kernel_rfl) ?_
                              refine T.pure (.bool true) (by kernel_rfl) (fun _ => by kernel_rfl) ?_
                              refine T.nil ?_
                              cases hX2
                              exact fun a w' hf hh => Exists.intro e2.page (Exists.intro e2.text (Exists.intro true (Exists.intro true (And.intro rfl (Exists.intro b5 (And.intro (((((((((((Fr.nil hf).pick hf 144 rfl).pick hf 143 rfl).pick hf 142 rfl).pick hf 19 rfl).pick hf 18 rfl).pick hf 17 rfl).pick hf 16 rfl).pick hf 3 rfl).pick hf 2 rfl).pick hf 1 rfl) (hh.sub (.cons_cons _ (.cons_cons _ List.Sublist.slnil)))))))))
                          ·
                            rw [hc6, cond_false] at hX2
                            refine T.skip_code ?_
                            cases hX2
                            exact fun a w' hf hh => Exists.intro e2.page (Exists.intro e2.text (Exists.intro x1 (Exists.intro x2 (And.intro rfl (Exists.intro b5 (And.intro (((((((((((Fr.nil hf).pick hf 144 rfl).pick hf 143 rfl).pick hf 142 rfl).pick hf 19 rfl).pick hf 18 rfl).pick hf 17 rfl).pick hf 16 rfl).pick hf 3 rfl).pick hf 2 rfl).pick hf 1 rfl) (hh.sub (.cons_cons _ (.cons_cons _ List.Sublist.slnil)))))))))
                        ·
                          rintro a w' ⟨z4, z5, z6, z7, rfl, b5, hf, hh⟩
                          try dsimp only at hY1
                          refine (?_ : T 186 w V11 [box b5 42 [.int .i64 z4, .string z5], box b1 25 [.slice A1 p0.pages.length c1, .slice A2 p0.writes.length c2]] [(1, .slice A3 p1.length c3), (2, .int .i64 r5), (3, .pointer (some ⟨b1, 0, none⟩)), (16, .string r9.1), (17, .string r10.1), (18, .bool z6), (19, .bool z7), (142, .slice A2 p0.writes.length c2), (143, .int .i64 (p0.writes.length : Int)), (144, .int .i64 x3)] _) a w' hf hh
                          clear hf hh
                          refine T.region ?_
                          refine T.pure (.int .i64 (IntKind.i64.wrap (x3 + 1))) (by kernel_rfl) (fun _ => by kernel_rfl) ?_
                          refine T.pure (.int .i64 (IntKind.i64.wrap (x3 + 1))) (by kernel_rfl) (fun _ => by kernel_rfl) ?_
                          refine T.nil ?_
                          cases hY1
                          exact fun a w' hf hh => Exists.intro (z6, z7, IntKind.i64.wrap (x3 + 1)) (And.intro rfl (Exists.intro z6 (Exists.intro z7 (Exists.intro (IntKind.i64.wrap (x3 + 1)) (And.intro rfl (And.intro (((((((((((Fr.nil hf).pick hf 144 rfl).pick hf 143 rfl).pick hf 142 rfl).pick hf 19 rfl).pick hf 18 rfl).pick hf 17 rfl).pick hf 16 rfl).pick hf 3 rfl).pick hf 2 rfl).pick hf 1 rfl) (hh.sub (.cons _ (.cons_cons _ List.Sublist.slnil)))))))))
                      ·
                        rw [hc5, cond_false] at hY1
                        refine T.exit ?_
                        cases hY1
                        cases (hr5 _ rfl)
                        exact fun a w' hf hh => Exists.intro x1 (Exists.intro x2 (And.intro rfl (And.intro ((((((Fr.nil hf).pick hf 19 rfl).pick hf 18 rfl).pick hf 16 rfl).pick hf 3 rfl).pick hf 2 rfl) (hh.sub (.cons_cons _ List.Sublist.slnil)))))
                  ·
                    rintro a w' ⟨z2, z3, rfl, hf, hh⟩
                    try dsimp only at hF
                    refine (?_ : T 186 w V11 [box b1 25 [.slice A1 p0.pages.length c1, .slice A2 p0.writes.length c2]] [(2, .int .i64 r5), (3, .pointer (some ⟨b1, 0, none⟩)), (16, .string r9.1), (18, .bool z2), (19, .bool z3)] _) a w' hf hh
                    clear hf hh
                    obtain ⟨z8, hX3, hF⟩ := Option.bind_eq_some_iff.1 hF
                    refine T.cut (fun a w' => Fr 186 [(6, .bool z8)] a ∧ Hp w V11 [] w') ?_ ?_
                    ·
                      refine T.region ?_
                      refine T.pure (.bool z2) (by kernel_rfl) (fun _ => by kernel_rfl) ?_
                      refine T.pure (.bool z2) (by kernel_rfl) (fun _ => by kernel_rfl) ?_
                      cases hg14 : z2
                      ·
                        skip
                        rw [hg14, cond_false] at hX3
                        refine T.pass (by kernel_rfl) (by kernel_rfl) ?_
                        refine T.pass (by kernel_rfl) (by kernel_rfl) ?_
                        refine T.pass (by kernel_rfl) (by kernel_rfl) ?_
                        refine T.pass (by kernel_rfl) (by kernel_rfl) ?_
                        refine T.pass (by kernel_rfl) (by kernel_rfl) ?_
                        refine T.pass (by kernel_rfl) (by kernel_rfl) ?_
                        refine T.pass (by kernel_rfl) (by kernel_rfl) ?_
                        refine T.pass (by kernel_rfl) (by kernel_rfl) ?_
                        refine T.pass (by kernel_rfl) (by kernel_rfl) ?_
                        refine T.pass (by kernel_rfl) (by kernel_rfl) ?_
                        refine T.pure (.bool false) (by kernel_rfl) (fun _ => by kernel_rfl) ?_
                        refine T.pure (.bool false) (by kernel_rfl) (fun _ => by kernel_rfl) ?_
                        refine T.nil ?_
                        cases hX3
                        exact fun a w' hf hh => And.intro ((Fr.nil hf).pick hf 6 rfl) (hh.sub (.cons _ List.Sublist.slnil))
                      ·
                        skip
                        rw [hg14, cond_true] at hX3
                        refine T.pure (.bool z3) (by kernel_rfl) (fun _ => by kernel_rfl) ?_
                        refine T.pure (.bool z3) (by kernel_rfl) (fun _ => by kernel_rfl) ?_
                        cases hg15 : z3
                        ·
                          skip
                          rw [hg15, cond_false] at hX3
                          refine T.pure (.string r9.1) (by kernel_rfl) (fun _ => by kernel_rfl) ?_
                          refine T.pure (.pointer (some ⟨b1, 0, none⟩)) (by kernel_rfl) (fun _ => by kernel_rfl) ?_
                          refine T.look (.slice A1 p0.pages.length c1) (by kernel_rfl) (fun w' hh => exec_load1 rfl rfl (by kernel_rfl) (hh.cellBox (i := 0) (by rfl) 0)) ?_
                          refine T.pure (.int .i64 r5) (by kernel_rfl) (fun _ => by kernel_rfl) ?_
                          obtain ⟨e4, hb14, hX3⟩ := Option.bind_eq_some_iff.1 hX3
                          obtain ⟨hi10, hi11, hi12⟩ := idx_some hb14
                          refine T.look (.pointer (some ((sadr A1).add (r5.toNat * 1)))) (by kernel_rfl) (fun w' hh => exec_indexAddr (e := 9) (s := 1) rfl rfl rfl (by kernel_rfl) (by kernel_rfl) hi10 hi11 ((SlOk.mono hs1 (View.le_trans (View.le_trans (View.le_trans (View.le_trans (View.le_trans (View.le_trans (View.le_trans (View.le_trans (View.le_trans hV1 hV2) hV3) hV4) hV6) hV7) hV8) hV9) hV10) hV11)).some_ hi12 (by decide))) ?_
                          refine T.look (.string e4) (by kernel_rfl) (fun w' hh => exec_load1 rfl rfl (by kernel_rfl) (hh.cell_view (SlOk.cellF0 (E := eStr) (SlOk.mono hs1 (View.le_trans (View.le_trans (View.le_trans (View.le_trans (View.le_trans (View.le_trans (View.le_trans (View.le_trans (View.le_trans hV1 hV2) hV3) hV4) hV6) hV7) hV8) hV9) hV10) hV11)) hi12 (fun _ _ _ h => h) rfl))) ?_
                          refine T.pure (.bool (seq r9.1 e4)) (by kernel_rfl) (fun _ => by kernel_rfl) ?_
                          refine T.pure (.bool (seq r9.1 e4)) (by kernel_rfl) (fun _ => by kernel_rfl) ?_
                          refine T.pure (.bool (seq r9.1 e4)) (by kernel_rfl) (fun _ => by kernel_rfl) ?_
                          refine T.pure (.bool (seq r9.1 e4)) (by kernel_rfl) (fun _ => by kernel_rfl) ?_
                          refine T.nil ?_
                          cases hX3
                          exact fun a w' hf hh => And.intro ((Fr.nil hf).pick hf 6 rfl) (hh.sub (.cons _ List.Sublist.slnil))
                        ·
                          skip
                          rw [hg15, cond_true] at hX3
                          refine T.pass (by kernel_rfl) (by kernel_rfl) ?_
                          refine T.pass (by kernel_rfl) (by kernel_rfl) ?_
                          refine T.pass (by kernel_rfl) (by kernel_rfl) ?_
                          refine T.pass (by kernel_rfl) (by kernel_rfl) ?_
                          refine T.pass (by kernel_rfl) (by kernel_rfl) ?_
                          refine T.pass (by kernel_rfl) (by kernel_rfl) ?_
                          refine T.pass (by kernel_rfl) (by kernel_rfl) ?_
                          refine T.pure (.bool true) (by kernel_rfl) (fun _ => by kernel_rfl) ?_
                          refine T.pure (.bool true) (by kernel_rfl) (fun _ => by kernel_rfl) ?_
                          refine T.pure (.bool true) (by kernel_rfl) (fun _ => by kernel_rfl) ?_
                          refine T.nil ?_
                          cases hX3
                          exact fun a w' hf hh => And.intro ((Fr.nil hf).pick hf 6 rfl) (hh.sub (.cons _ List.Sublist.slnil))
                    ·
                      rintro a w' ⟨hf, hh⟩
                      refine (?_ : T 186 w V11 [] [(6, .bool z8)] _) a w' hf hh
                      clear hf hh
                      cases hF
                      refine T.ret rfl ?_
                      exact T.ret1 rfl (ResIs.tmp rfl) fun w' hh => ⟨_, rfl, hh.below, (show _ from rfl)⟩

end Go.Proofs.Ytilpdlggabpbjaa
