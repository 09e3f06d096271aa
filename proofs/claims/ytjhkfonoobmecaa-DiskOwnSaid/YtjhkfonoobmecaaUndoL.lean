/- The Go functions of group Undo compute the pure functions of that group: written by walkgen.py. Condition of each: the pure function yields a result. -/
import Derived.Test.YtjhkfonoobmecaaDiskL
import Derived.Test.YtjhkfonoobmecaaCodeL
import Derived.Test.YtjhkfonoobmecaaSpoil
import Derived.Test.YtjhkfonoobmecaaClear
import Derived.Test.YtjhkfonoobmecaaUndoF
import Derived.Test.YtjhkfonoobmecaaEqL
namespace Go.Proofs.Ytjhkfonoobmecaa
set_option linter.unusedVariables false

set_option maxRecDepth 100000 in
set_option maxHeartbeats 4000000 in
theorem undo_number_l (F : Nat) (p0 : ByteArray) (r : Int) (hF : undo_number F p0 = some r) (w : World)  :
    Calls Try.prog 29 #[.string p0] w (Post (vSc eInt) r w) := by
 unfold undo_number at hF
 refine T.start (l := [.string p0]) Try.func29 rfl rfl rfl ?_
 refine T.seq ?_
 refine T.region ?_
 refine T.pure (.int .i64 0) (by kernel_rfl) (fun _ => by kernel_rfl) ?_
 refine T.nil ?_
 refine T.seq ?_
 refine T.region ?_
 refine T.pure (.string p0) (by kernel_rfl) (fun _ => by kernel_rfl) ?_
 obtain ⟨s1, hb1, hF⟩ := Option.bind_eq_some_iff.1 hF
 refine T.look (.string s1) (by kernel_rfl) (fun w' hh => exec_slice_str_hi rfl rfl rfl (by kernel_rfl) hb1) ?_
 obtain ⟨r1, hb2, hF⟩ := Option.bind_eq_some_iff.1 hF
 refine T.step (W1.call (vSc eInt) r1 43 #[.string s1] (by kernel_rfl) (fun _ => by kernel_rfl) (fun w' hh => big_Get_l F s1 r1 hb2 w' ) ?_)
 intro u V1 hV1 hu
 obtain rfl := sureInt _ _ _ hu
 refine T.pure (.int .i64 r1) (by kernel_rfl) (fun _ => by kernel_rfl) ?_
 refine T.nil ?_
 cases hF
 refine T.ret rfl ?_
 exact T.ret1 rfl (ResIs.tmp rfl) fun w' hh => ⟨_, rfl, hh.below, (show _ from rfl)⟩

set_option maxRecDepth 100000 in
set_option maxHeartbeats 4000000 in
theorem undo_four_l (F : Nat) (p0 : Int) (r : ByteArray) (hF : undo_four F p0 = some r) (w : World)  :
    Calls Try.prog 34 #[.int .i64 p0] w (Post (vSc eStr) r w) := by
 unfold undo_four at hF
 refine T.start (l := [.int .i64 p0]) Try.func34 rfl rfl rfl ?_
 refine T.seq ?_
 refine T.region ?_
 refine T.pure (.string (ByteArray.mk #[])) (by kernel_rfl) (fun _ => by kernel_rfl) ?_
 refine T.nil ?_
 refine T.seq ?_
 refine T.region ?_
 refine T.pure (.int .i64 p0) (by kernel_rfl) (fun _ => by kernel_rfl) ?_
 obtain ⟨r1, hb1, hF⟩ := Option.bind_eq_some_iff.1 hF
 refine T.step (W1.call (vSc eStr) r1 45 #[.int .i64 p0, .int .i64 4] (by kernel_rfl) (fun _ => by kernel_rfl) (fun w' hh => big_Put_l F p0 4 r1 hb1 w' ) ?_)
 intro u V1 hV1 hu
 obtain rfl := sureStr _ _ _ hu
 refine T.pure (.string r1) (by kernel_rfl) (fun _ => by kernel_rfl) ?_
 refine T.nil ?_
 cases hF
 refine T.ret rfl ?_
 exact T.ret1 rfl (ResIs.tmp rfl) fun w' hh => ⟨_, rfl, hh.below, (show _ from rfl)⟩

set_option maxRecDepth 100000 in
set_option maxHeartbeats 4000000 in
theorem undo_Head_l (F : Nat) (p0 : Int) (p1 : ByteArray) (r : ByteArray × Int) (hF : undo_Head F p0 p1 = some r) (w : World)  :
    Calls Try.prog 36 #[.int .i64 p0, .string p1] w (Post (vT2 (vSc eStr) (vSc eInt)) r w) := by
 unfold undo_Head at hF
 refine T.start (l := [.int .i64 p0, .string p1]) Try.func36 rfl rfl rfl ?_
 refine T.seq ?_
 refine T.region ?_
 refine T.pure (.string (ByteArray.mk #[])) (by kernel_rfl) (fun _ => by kernel_rfl) ?_
 refine T.pure (.int .i64 0) (by kernel_rfl) (fun _ => by kernel_rfl) ?_
 refine T.nil ?_
 refine T.seq ?_
 refine T.cut (fun a w' => Fr 23 [(0, .int .i64 p0), (1, .string p1), (11, .bool ((decide (p0 < 0)) || (decide ((2147483647 : Int) < p0))))] a ∧ Hp w (vw w) [] w') ?_ ?_
 ·
  refine T.region ?_
  refine T.pure (.int .i64 p0) (by kernel_rfl) (fun _ => by kernel_rfl) ?_
  refine T.pure (.bool (decide (p0 < 0))) (by kernel_rfl) (fun _ => by kernel_rfl) ?_
  refine T.pure (.bool (decide (p0 < 0))) (by kernel_rfl) (fun _ => by kernel_rfl) ?_
  cases hg1 : decide (p0 < 0)
  ·
   skip
   refine T.pure (.int .i64 p0) (by kernel_rfl) (fun _ => by kernel_rfl) ?_
   refine T.pure (.bool (decide ((2147483647 : Int) < p0))) (by kernel_rfl) (fun _ => by kernel_rfl) ?_
   refine T.pure (.bool (decide ((2147483647 : Int) < p0))) (by kernel_rfl) (fun _ => by kernel_rfl) ?_
   refine T.nil ?_
   exact fun a w' hf hh => And.intro ((((Fr.nil hf).pick hf 11 rfl).pick hf 1 rfl).pick hf 0 rfl) (hh.sub List.Sublist.slnil)
  ·
   skip
   refine T.pass (by kernel_rfl) (by kernel_rfl) ?_
   refine T.pass (by kernel_rfl) (by kernel_rfl) ?_
   refine T.pure (.bool true) (by kernel_rfl) (fun _ => by kernel_rfl) ?_
   refine T.nil ?_
   exact fun a w' hf hh => And.intro ((((Fr.nil hf).pick hf 11 rfl).pick hf 1 rfl).pick hf 0 rfl) (hh.sub List.Sublist.slnil)
 ·
  rintro a w' ⟨hf, hh⟩
  refine (?_ : T 23 w (vw w) [] [(0, .int .i64 p0), (1, .string p1), (11, .bool ((decide (p0 < 0)) || (decide ((2147483647 : Int) < p0))))] _) a w' hf hh
  clear hf hh
  refine T.cond ((decide (p0 < 0)) || (decide ((2147483647 : Int) < p0))) (by kernel_rfl) (by kernel_rfl) (fun hc1 => ?_) (fun hc1 => ?_)
  ·
   rw [hc1, cond_true] at hF
   refine T.seq ?_
   refine T.region ?_
   refine T.pure (.string (ByteArray.mk #[])) (by kernel_rfl) (fun _ => by kernel_rfl) ?_
   refine T.pure (.int .i64 1) (by kernel_rfl) (fun _ => by kernel_rfl) ?_
   refine T.nil ?_
   cases hF
   refine T.ret rfl ?_
   exact T.ret2 rfl (ResIs.tmp rfl) (ResIs.tmp rfl) fun w' hh => ⟨_, rfl, hh.below, (vT2.mk (show _ from rfl) (show _ from rfl))⟩
  ·
   rw [hc1, cond_false] at hF
   refine T.skip_code ?_
   refine T.seq ?_
   refine T.seq ?_
   refine T.region ?_
   refine T.pure (.string p1) (by kernel_rfl) (fun _ => by kernel_rfl) ?_
   refine T.pure (.int .i64 (p1.size : Int)) (by kernel_rfl) (fun _ => by kernel_rfl) ?_
   refine T.pure (.bool (decide ((2900 : Int) < (p1.size : Int)))) (by kernel_rfl) (fun _ => by kernel_rfl) ?_
   refine T.nil ?_
   refine T.cond (decide ((2900 : Int) < (p1.size : Int))) (by kernel_rfl) (by kernel_rfl) (fun hc2 => ?_) (fun hc2 => ?_)
   ·
    rw [hc2, cond_true] at hF
    refine T.seq ?_
    refine T.region ?_
    refine T.pure (.string (ByteArray.mk #[])) (by kernel_rfl) (fun _ => by kernel_rfl) ?_
    refine T.pure (.int .i64 2) (by kernel_rfl) (fun _ => by kernel_rfl) ?_
    refine T.nil ?_
    cases hF
    refine T.ret rfl ?_
    exact T.ret2 rfl (ResIs.tmp rfl) (ResIs.tmp rfl) fun w' hh => ⟨_, rfl, hh.below, (vT2.mk (show _ from rfl) (show _ from rfl))⟩
   ·
    rw [hc2, cond_false] at hF
    refine T.skip_code ?_
    refine T.seq ?_
    refine T.region ?_
    refine T.pure (.int .i64 p0) (by kernel_rfl) (fun _ => by kernel_rfl) ?_
    obtain ⟨r1, hb1, hF⟩ := Option.bind_eq_some_iff.1 hF
    refine T.step (W1.call (vSc eStr) r1 34 #[.int .i64 p0] (by kernel_rfl) (fun _ => by kernel_rfl) (fun w' hh => undo_four_l F p0 r1 hb1 w' ) ?_)
    intro u V1 hV1 hu
    obtain rfl := sureStr _ _ _ hu
    refine T.pure (.string p1) (by kernel_rfl) (fun _ => by kernel_rfl) ?_
    obtain ⟨s1, hb2, hF⟩ := Option.bind_eq_some_iff.1 hF
    refine T.look (.string s1) (by kernel_rfl) (fun w' hh => exec_scat rfl rfl rfl hb2) ?_
    refine T.pure (.agg #[.int .i64 8, .string s1]) (by kernel_rfl) (fun _ => by kernel_rfl) ?_
    obtain ⟨r2, hb3, hF⟩ := Option.bind_eq_some_iff.1 hF
    refine T.step (W1.call (vT2 (vSc eStr) (vSc eInt)) r2 33 #[.agg #[.int .i64 8, .string s1]] (by kernel_rfl) (fun _ => by kernel_rfl) (fun w' hh => frame_Put_l F (DFrame.mk 8 s1) r2 hb3 w' ) ?_)
    intro u V2 hV2 hu
    obtain rfl := (Sure.t2 sureStr sureInt) _ _ _ hu
    refine T.pure (.string r2.1) (by kernel_rfl) (fun _ => by kernel_rfl) ?_
    refine T.pure (.int .i64 r2.2) (by kernel_rfl) (fun _ => by kernel_rfl) ?_
    refine T.pure (.string r2.1) (by kernel_rfl) (fun _ => by kernel_rfl) ?_
    refine T.pure (.int .i64 r2.2) (by kernel_rfl) (fun _ => by kernel_rfl) ?_
    refine T.nil ?_
    cases hF
    refine T.ret rfl ?_
    exact T.ret2 rfl (ResIs.tmp rfl) (ResIs.tmp rfl) fun w' hh => ⟨_, rfl, hh.below, (vT2.mk (show _ from rfl) (show _ from rfl))⟩

set_option maxRecDepth 100000 in
set_option maxHeartbeats 4000000 in
theorem undo_Seq_l (F : Nat) (p0 : DDisk) (r : Int × ByteArray × Int) (hF : undo_Seq F p0 = some r) (w : World) (A1 : Option Addr) (c1 : Nat) (hs1 : SlOk (vw w) eStr A1 c1 p0.pages) (A2 : Option Addr) (c2 : Nat) (hs2 : SlOk (vw w) eWrite A2 c2 p0.writes) :
    Calls Try.prog 27 #[.agg #[.slice A1 p0.pages.length c1, .slice A2 p0.writes.length c2]] w (Post (vT3 (vSc eInt) (vSc eStr) (vSc eInt)) r w) := by
 unfold undo_Seq at hF
 refine T.start (l := [.agg #[.slice A1 p0.pages.length c1, .slice A2 p0.writes.length c2]]) Try.func27 rfl rfl rfl ?_
 refine T.seq ?_
 refine T.region ?_
 refine T.step (W1.new 25 [.slice A1 p0.pages.length c1, .slice A2 p0.writes.length c2] (fun b => .pointer (some ⟨b, 0, none⟩)) (by kernel_rfl) (fun _ => by kernel_rfl) (fun b1 => ?_))
 refine T.pure (.int .i64 0) (by kernel_rfl) (fun _ => by kernel_rfl) ?_
 refine T.pure (.string (ByteArray.mk #[])) (by kernel_rfl) (fun _ => by kernel_rfl) ?_
 refine T.pure (.int .i64 0) (by kernel_rfl) (fun _ => by kernel_rfl) ?_
 refine T.nil ?_
 refine T.seq ?_
 refine T.seq ?_
 refine T.region ?_
 refine T.look (.agg #[.slice A1 p0.pages.length c1, .slice A2 p0.writes.length c2]) (by kernel_rfl) (fun w' hh => exec_loadN (cs := [.slice A1 p0.pages.length c1, .slice A2 p0.writes.length c2]) rfl rfl (by kernel_rfl) (by kernel_rfl) (fun j u hj => (hh.box_at (i := 0) (cs := [.slice A1 p0.pages.length c1, .slice A2 p0.writes.length c2]) (by rfl) 0 j).trans (seg_at (n := 2) (by rfl) hj))) ?_
 obtain ⟨r1, hb1, hF⟩ := Option.bind_eq_some_iff.1 hF
 refine T.step (W1.call (vSc eInt) r1 21 #[.agg #[.slice A1 p0.pages.length c1, .slice A2 p0.writes.length c2]] (by kernel_rfl) (fun _ => by kernel_rfl) (fun w' hh => disk_Check_l F p0 r1 hb1 w' A1 c1 (SlOk.mono hs1 hh.view) A2 c2 (SlOk.mono hs2 hh.view)) ?_)
 intro u V1 hV1 hu
 obtain rfl := sureInt _ _ _ hu
 refine T.pure (.int .i64 r1) (by kernel_rfl) (fun _ => by kernel_rfl) ?_
 refine T.nil ?_
 refine T.seq ?_
 refine T.region ?_
 refine T.pure (.int .i64 r1) (by kernel_rfl) (fun _ => by kernel_rfl) ?_
 refine T.pure (.bool (r1 != 0)) (by kernel_rfl) (fun _ => by kernel_rfl) ?_
 refine T.nil ?_
 refine T.cond (r1 != 0) (by kernel_rfl) (by kernel_rfl) (fun hc1 => ?_) (fun hc1 => ?_)
 ·
  rw [hc1, cond_true] at hF
  refine T.seq ?_
  refine T.region ?_
  refine T.pure (.int .i64 r1) (by kernel_rfl) (fun _ => by kernel_rfl) ?_
  refine T.pure (.int .i64 0) (by kernel_rfl) (fun _ => by kernel_rfl) ?_
  refine T.pure (.string (ByteArray.mk #[])) (by kernel_rfl) (fun _ => by kernel_rfl) ?_
  refine T.pure (.int .i64 r1) (by kernel_rfl) (fun _ => by kernel_rfl) ?_
  refine T.nil ?_
  cases hF
  refine T.ret rfl ?_
  exact T.ret3 rfl (ResIs.tmp rfl) (ResIs.tmp rfl) (ResIs.tmp rfl) fun w' hh => ⟨_, rfl, hh.below, (vT3.mk (show _ from rfl) (show _ from rfl) (show _ from rfl))⟩
 ·
  rw [hc1, cond_false] at hF
  refine T.skip_code ?_
  refine T.seq ?_
  refine T.seq ?_
  refine T.region ?_
  refine T.pure (.pointer (some ⟨b1, 0, none⟩)) (by kernel_rfl) (fun _ => by kernel_rfl) ?_
  refine T.look (.slice A1 p0.pages.length c1) (by kernel_rfl) (fun w' hh => exec_load1 rfl rfl (by kernel_rfl) (hh.cellBox (i := 0) (by rfl) 0)) ?_
  refine T.pure (.int .i64 (p0.pages.length : Int)) (by kernel_rfl) (fun _ => by kernel_rfl) ?_
  refine T.pure (.bool ((p0.pages.length : Int) != 201)) (by kernel_rfl) (fun _ => by kernel_rfl) ?_
  refine T.nil ?_
  refine T.cond ((p0.pages.length : Int) != 201) (by kernel_rfl) (by kernel_rfl) (fun hc2 => ?_) (fun hc2 => ?_)
  ·
   rw [hc2, cond_true] at hF
   refine T.seq ?_
   refine T.region ?_
   refine T.pure (.int .i64 0) (by kernel_rfl) (fun _ => by kernel_rfl) ?_
   refine T.pure (.string (ByteArray.mk #[])) (by kernel_rfl) (fun _ => by kernel_rfl) ?_
   refine T.pure (.int .i64 3) (by kernel_rfl) (fun _ => by kernel_rfl) ?_
   refine T.nil ?_
   cases hF
   refine T.ret rfl ?_
   exact T.ret3 rfl (ResIs.tmp rfl) (ResIs.tmp rfl) (ResIs.tmp rfl) fun w' hh => ⟨_, rfl, hh.below, (vT3.mk (show _ from rfl) (show _ from rfl) (show _ from rfl))⟩
  ·
   rw [hc2, cond_false] at hF
   refine T.skip_code ?_
   refine T.seq ?_
   refine T.region ?_
   refine T.look (.agg #[.slice A1 p0.pages.length c1, .slice A2 p0.writes.length c2]) (by kernel_rfl) (fun w' hh => exec_loadN (cs := [.slice A1 p0.pages.length c1, .slice A2 p0.writes.length c2]) rfl rfl (by kernel_rfl) (by kernel_rfl) (fun j u hj => (hh.box_at (i := 0) (cs := [.slice A1 p0.pages.length c1, .slice A2 p0.writes.length c2]) (by rfl) 0 j).trans (seg_at (n := 2) (by rfl) hj))) ?_
   obtain ⟨r2, hb2, hF⟩ := Option.bind_eq_some_iff.1 hF
   refine T.step (W1.call (vSc eStr) r2 31 #[.agg #[.slice A1 p0.pages.length c1, .slice A2 p0.writes.length c2], .int .i64 0] (by kernel_rfl) (fun _ => by kernel_rfl) (fun w' hh => disk_Seen_l F p0 0 r2 hb2 w' A1 c1 (SlOk.mono (SlOk.mono hs1 hV1) hh.view) A2 c2 (SlOk.mono (SlOk.mono hs2 hV1) hh.view)) ?_)
   intro u V2 hV2 hu
   obtain rfl := sureStr _ _ _ hu
   obtain ⟨r3, hb3, hF⟩ := Option.bind_eq_some_iff.1 hF
   refine T.step (W1.call (vT3 (vAg eFrame) (vSc eInt) (vSc eInt)) r3 28 #[.string r2] (by kernel_rfl) (fun _ => by kernel_rfl) (fun w' hh => frame_Get_l F r2 r3 hb3 w' ) ?_)
   intro u V3 hV3 hu
   obtain rfl := (Sure.t3 sureFrame sureInt sureInt) _ _ _ hu
   refine T.pure (.tuple #[.agg #[.int .i64 r3.1.kind, .string r3.1.body], .int .i64 r3.2.1, .int .i64 r3.2.2]) (by kernel_rfl) (fun _ => by kernel_rfl) ?_
   refine T.pure (.agg #[.int .i64 r3.1.kind, .string r3.1.body]) (by kernel_rfl) (fun _ => by kernel_rfl) ?_
   refine T.pure (.int .i64 r3.2.1) (by kernel_rfl) (fun _ => by kernel_rfl) ?_
   refine T.pure (.int .i64 r3.2.2) (by kernel_rfl) (fun _ => by kernel_rfl) ?_
   refine T.step (W1.new 58 [.int .i64 0, .string (ByteArray.mk #[])] (fun b => .pointer (some ⟨b, 0, none⟩)) (by kernel_rfl) (fun _ => by kernel_rfl) (fun b2 => ?_))
   refine T.step (W1.store 0 [.int .i64 r3.1.kind, .string r3.1.body] [box b2 58 [.int .i64 r3.1.kind, .string r3.1.body], box b1 25 [.slice A1 p0.pages.length c1, .slice A2 p0.writes.length c2]] (by rfl) rfl (by kernel_rfl) (fun w' hw => exec_store (vs := [.int .i64 r3.1.kind, .string r3.1.body]) rfl rfl rfl rfl (by kernel_rfl) (one_of rfl) (by simp) rfl hw) ?_)
   refine T.pure (.int .i64 r3.2.1) (by kernel_rfl) (fun _ => by kernel_rfl) ?_
   refine T.pure (.int .i64 r3.2.2) (by kernel_rfl) (fun _ => by kernel_rfl) ?_
   refine T.nil ?_
   refine T.seq ?_
   obtain ⟨z1, hX1, hF⟩ := Option.bind_eq_some_iff.1 hF
   refine T.cut (fun a w' => ∃ (V4 : View), View.le V3 V4 ∧ Fr 50 [(6, .pointer (some ⟨b2, 0, none⟩)), (43, .bool z1)] a ∧ Hp w V4 [box b2 58 [.int .i64 r3.1.kind, .string r3.1.body]] w') ?_ ?_
   ·
    refine T.region ?_
    refine T.pure (.int .i64 r3.2.2) (by kernel_rfl) (fun _ => by kernel_rfl) ?_
    refine T.pure (.bool (r3.2.2 != 0)) (by kernel_rfl) (fun _ => by kernel_rfl) ?_
    refine T.pure (.bool (r3.2.2 != 0)) (by kernel_rfl) (fun _ => by kernel_rfl) ?_
    cases hg1 : (r3.2.2 != 0)
    ·
     skip
     rw [hg1, cond_false] at hX1
     refine T.pure (.pointer (some ⟨b2, 0, none⟩)) (by kernel_rfl) (fun _ => by kernel_rfl) ?_
     refine T.look (.int .i64 r3.1.kind) (by kernel_rfl) (fun w' hh => exec_load1 rfl rfl (by kernel_rfl) (hh.cellBox (i := 0) (by rfl) 0)) ?_
     refine T.pure (.bool (r3.1.kind != 8)) (by kernel_rfl) (fun _ => by kernel_rfl) ?_
     refine T.pure (.bool (r3.1.kind != 8)) (by kernel_rfl) (fun _ => by kernel_rfl) ?_
     refine T.pure (.bool (r3.1.kind != 8)) (by kernel_rfl) (fun _ => by kernel_rfl) ?_
     cases hg2 : (r3.1.kind != 8)
     ·
      skip
      rw [hg2, cond_false] at hX1
      refine T.pure (.pointer (some ⟨b2, 1, none⟩)) (by kernel_rfl) (fun _ => by kernel_rfl) ?_
      refine T.look (.string r3.1.body) (by kernel_rfl) (fun w' hh => exec_load1 rfl rfl (by kernel_rfl) (hh.cellBox (i := 0) (by rfl) 1)) ?_
      refine T.pure (.int .i64 (r3.1.body.size : Int)) (by kernel_rfl) (fun _ => by kernel_rfl) ?_
      refine T.pure (.bool (decide ((r3.1.body.size : Int) < 4))) (by kernel_rfl) (fun _ => by kernel_rfl) ?_
      refine T.pure (.bool (decide ((r3.1.body.size : Int) < 4))) (by kernel_rfl) (fun _ => by kernel_rfl) ?_
      refine T.pure (.bool (decide ((r3.1.body.size : Int) < 4))) (by kernel_rfl) (fun _ => by kernel_rfl) ?_
      cases hg3 : decide ((r3.1.body.size : Int) < 4)
      ·
       skip
       rw [hg3, cond_false] at hX1
       refine T.pure (.pointer (some ⟨b2, 1, none⟩)) (by kernel_rfl) (fun _ => by kernel_rfl) ?_
       refine T.look (.string r3.1.body) (by kernel_rfl) (fun w' hh => exec_load1 rfl rfl (by kernel_rfl) (hh.cellBox (i := 0) (by rfl) 1)) ?_
       obtain ⟨r4, hb4, hX1⟩ := Option.bind_eq_some_iff.1 hX1
       refine T.step (W1.call (vSc eInt) r4 29 #[.string r3.1.body] (by kernel_rfl) (fun _ => by kernel_rfl) (fun w' hh => undo_number_l F r3.1.body r4 hb4 w' ) ?_)
       intro u V5 hV5 hu
       obtain rfl := sureInt _ _ _ hu
       refine T.pure (.bool (decide ((2147483647 : Int) < r4))) (by kernel_rfl) (fun _ => by kernel_rfl) ?_
       refine T.pure (.bool (decide ((2147483647 : Int) < r4))) (by kernel_rfl) (fun _ => by kernel_rfl) ?_
       refine T.nil ?_
       cases hX1
       exact fun a w' hf hh => Exists.intro V5 (And.intro hV5 (And.intro (((Fr.nil hf).pick hf 43 rfl).pick hf 6 rfl) (hh.sub (.cons_cons _ (.cons _ List.Sublist.slnil)))))
      ·
       skip
       rw [hg3, cond_true] at hX1
       refine T.pass (by kernel_rfl) (by kernel_rfl) ?_
       refine T.pass (by kernel_rfl) (by kernel_rfl) ?_
       refine T.pass (by kernel_rfl) (by kernel_rfl) ?_
       refine T.pass (by kernel_rfl) (by kernel_rfl) ?_
       refine T.pure (.bool true) (by kernel_rfl) (fun _ => by kernel_rfl) ?_
       refine T.nil ?_
       cases hX1
       exact fun a w' hf hh => Exists.intro V3 (And.intro (View.le_refl _) (And.intro (((Fr.nil hf).pick hf 43 rfl).pick hf 6 rfl) (hh.sub (.cons_cons _ (.cons _ List.Sublist.slnil)))))
     ·
      skip
      rw [hg2, cond_true] at hX1
      refine T.pass (by kernel_rfl) (by kernel_rfl) ?_
      refine T.pass (by kernel_rfl) (by kernel_rfl) ?_
      refine T.pass (by kernel_rfl) (by kernel_rfl) ?_
      refine T.pass (by kernel_rfl) (by kernel_rfl) ?_
      refine T.pure (.bool true) (by kernel_rfl) (fun _ => by kernel_rfl) ?_
      refine T.pure (.bool true) (by kernel_rfl) (fun _ => by kernel_rfl) ?_
      refine T.pass (by kernel_rfl) (by kernel_rfl) ?_
      refine T.pass (by kernel_rfl) (by kernel_rfl) ?_
      refine T.pass (by kernel_rfl) (by kernel_rfl) ?_
      refine T.pass (by kernel_rfl) (by kernel_rfl) ?_
      refine T.pure (.bool true) (by kernel_rfl) (fun _ => by kernel_rfl) ?_
      refine T.nil ?_
      cases hX1
      exact fun a w' hf hh => Exists.intro V3 (And.intro (View.le_refl _) (And.intro (((Fr.nil hf).pick hf 43 rfl).pick hf 6 rfl) (hh.sub (.cons_cons _ (.cons _ List.Sublist.slnil)))))
    ·
     skip
     rw [hg1, cond_true] at hX1
     refine T.pass (by kernel_rfl) (by kernel_rfl) ?_
     refine T.pass (by kernel_rfl) (by kernel_rfl) ?_
     refine T.pass (by kernel_rfl) (by kernel_rfl) ?_
     refine T.pure (.bool true) (by kernel_rfl) (fun _ => by kernel_rfl) ?_
     refine T.pure (.bool true) (by kernel_rfl) (fun _ => by kernel_rfl) ?_
     refine T.pass (by kernel_rfl) (by kernel_rfl) ?_
     refine T.pass (by kernel_rfl) (by kernel_rfl) ?_
     refine T.pass (by kernel_rfl) (by kernel_rfl) ?_
     refine T.pass (by kernel_rfl) (by kernel_rfl) ?_
     refine T.pure (.bool true) (by kernel_rfl) (fun _ => by kernel_rfl) ?_
     refine T.pure (.bool true) (by kernel_rfl) (fun _ => by kernel_rfl) ?_
     refine T.pass (by kernel_rfl) (by kernel_rfl) ?_
     refine T.pass (by kernel_rfl) (by kernel_rfl) ?_
     refine T.pass (by kernel_rfl) (by kernel_rfl) ?_
     refine T.pass (by kernel_rfl) (by kernel_rfl) ?_
     refine T.pure (.bool true) (by kernel_rfl) (fun _ => by kernel_rfl) ?_
     refine T.nil ?_
     cases hX1
     exact fun a w' hf hh => Exists.intro V3 (And.intro (View.le_refl _) (And.intro (((Fr.nil hf).pick hf 43 rfl).pick hf 6 rfl) (hh.sub (.cons_cons _ (.cons _ List.Sublist.slnil)))))
   ·
    rintro a w' ⟨V4, hV4, hf, hh⟩
    refine (?_ : T 50 w V4 [box b2 58 [.int .i64 r3.1.kind, .string r3.1.body]] [(6, .pointer (some ⟨b2, 0, none⟩)), (43, .bool z1)] _) a w' hf hh
    clear hf hh
    refine T.cond z1 (by kernel_rfl) (by kernel_rfl) (fun hc3 => ?_) (fun hc3 => ?_)
    ·
     rw [hc3, cond_true] at hF
     refine T.seq ?_
     refine T.region ?_
     refine T.pure (.int .i64 0) (by kernel_rfl) (fun _ => by kernel_rfl) ?_
     refine T.pure (.string (ByteArray.mk #[])) (by kernel_rfl) (fun _ => by kernel_rfl) ?_
     refine T.pure (.int .i64 11) (by kernel_rfl) (fun _ => by kernel_rfl) ?_
     refine T.nil ?_
     cases hF
     refine T.ret rfl ?_
     exact T.ret3 rfl (ResIs.tmp rfl) (ResIs.tmp rfl) (ResIs.tmp rfl) fun w' hh => ⟨_, rfl, hh.below, (vT3.mk (show _ from rfl) (show _ from rfl) (show _ from rfl))⟩
    ·
     rw [hc3, cond_false] at hF
     refine T.skip_code ?_
     refine T.seq ?_
     refine T.quiet (by kernel_rfl) (by kernel_rfl) ?_
     refine TQ.pure (.pointer (some ⟨b2, 1, none⟩)) (by kernel_rfl) (fun _ => by kernel_rfl) ?_
     refine TQ.look (.string r3.1.body) (by kernel_rfl) (fun w' hh => exec_load1 rfl rfl (by kernel_rfl) (hh.cellBox (i := 0) (by rfl) 1)) ?_
     obtain ⟨r5, hb5, hF⟩ := Option.bind_eq_some_iff.1 hF
     refine TQ.call (vSc eInt) r5 29 #[.string r3.1.body] (.int .i64 r5) (fun V u hu => sureInt V u _ hu) (by kernel_rfl) (fun _ => by kernel_rfl) (fun w' hh => undo_number_l F r3.1.body r5 hb5 w' ) ?_
     refine TQ.pure (.pointer (some ⟨b2, 1, none⟩)) (by kernel_rfl) (fun _ => by kernel_rfl) ?_
     refine TQ.look (.string r3.1.body) (by kernel_rfl) (fun w' hh => exec_load1 rfl rfl (by kernel_rfl) (hh.cellBox (i := 0) (by rfl) 1)) ?_
     obtain ⟨s1, hb6, hF⟩ := Option.bind_eq_some_iff.1 hF
     refine TQ.look (.string s1) (by kernel_rfl) (fun w' hh => exec_slice_str_lo rfl rfl rfl (by kernel_rfl) hb6) ?_
     refine TQ.pure (.int .i64 r5) (by kernel_rfl) (fun _ => by kernel_rfl) ?_
     refine TQ.pure (.string s1) (by kernel_rfl) (fun _ => by kernel_rfl) ?_
     refine TQ.pure (.int .i64 0) (by kernel_rfl) (fun _ => by kernel_rfl) ?_
     refine TQ.nil ?_
     cases hF
     refine T.ret rfl ?_
     exact T.ret3 rfl (ResIs.tmp rfl) (ResIs.tmp rfl) (ResIs.tmp rfl) fun w' hh => ⟨_, rfl, hh.below, (vT3.mk (show _ from rfl) (show _ from rfl) (show _ from rfl))⟩

set_option maxRecDepth 100000 in
set_option maxHeartbeats 4000000 in
theorem undo_Recover_l (F : Nat) (p0 : DDisk) (r : DDisk × Int) (hF : undo_Recover F p0 = some r) (w : World) (A1 : Option Addr) (c1 : Nat) (hs1 : SlOk (vw w) eStr A1 c1 p0.pages) (A2 : Option Addr) (c2 : Nat) (hs2 : SlOk (vw w) eWrite A2 c2 p0.writes) :
    Calls Try.prog 9 #[.agg #[.slice A1 p0.pages.length c1, .slice A2 p0.writes.length c2]] w (fun e w' => ∃ p : Option Addr × Nat × Option Addr × Nat, e = .returned (.tuple #[.agg #[.slice p.1 r.1.pages.length p.2.1, .slice p.2.2.1 r.1.writes.length p.2.2.2], .int .i64 r.2]) ∧ True ∧ Gives w w' [row 9 eStr p.1 p.2.1 r.1.pages, row 29 eWrite p.2.2.1 p.2.2.2 r.1.writes]) := by
 unfold undo_Recover at hF
 refine T.start (l := [.agg #[.slice A1 p0.pages.length c1, .slice A2 p0.writes.length c2]]) Try.func9 rfl rfl rfl ?_
 refine T.seq ?_
 refine T.region ?_
 refine T.step (W1.new 25 [.slice A1 p0.pages.length c1, .slice A2 p0.writes.length c2] (fun b => .pointer (some ⟨b, 0, none⟩)) (by kernel_rfl) (fun _ => by kernel_rfl) (fun b1 => ?_))
 refine T.step (W1.new 25 [.slice none 0 0, .slice none 0 0] (fun b => .pointer (some ⟨b, 0, none⟩)) (by kernel_rfl) (fun _ => by kernel_rfl) (fun b2 => ?_))
 refine T.pure (.int .i64 0) (by kernel_rfl) (fun _ => by kernel_rfl) ?_
 refine T.nil ?_
 refine T.seq ?_
 refine T.region ?_
 refine T.look (.agg #[.slice A1 p0.pages.length c1, .slice A2 p0.writes.length c2]) (by kernel_rfl) (fun w' hh => exec_loadN (cs := [.slice A1 p0.pages.length c1, .slice A2 p0.writes.length c2]) rfl rfl (by kernel_rfl) (by kernel_rfl) (fun j u hj => (hh.box_at (i := 1) (cs := [.slice A1 p0.pages.length c1, .slice A2 p0.writes.length c2]) (by rfl) 0 j).trans (seg_at (n := 2) (by rfl) hj))) ?_
 obtain ⟨r1, hb1, hF⟩ := Option.bind_eq_some_iff.1 hF
 refine T.step (W1.call (vT3 (vSc eInt) (vSc eStr) (vSc eInt)) r1 27 #[.agg #[.slice A1 p0.pages.length c1, .slice A2 p0.writes.length c2]] (by kernel_rfl) (fun _ => by kernel_rfl) (fun w' hh => undo_Seq_l F p0 r1 hb1 w' A1 c1 (SlOk.mono hs1 hh.view) A2 c2 (SlOk.mono hs2 hh.view)) ?_)
 intro u V1 hV1 hu
 obtain rfl := (Sure.t3 sureInt sureStr sureInt) _ _ _ hu
 refine T.pure (.tuple #[.int .i64 r1.1, .string r1.2.1, .int .i64 r1.2.2]) (by kernel_rfl) (fun _ => by kernel_rfl) ?_
 refine T.pure (.int .i64 r1.1) (by kernel_rfl) (fun _ => by kernel_rfl) ?_
 refine T.pure (.string r1.2.1) (by kernel_rfl) (fun _ => by kernel_rfl) ?_
 refine T.pure (.int .i64 r1.2.2) (by kernel_rfl) (fun _ => by kernel_rfl) ?_
 refine T.pure (.int .i64 r1.1) (by kernel_rfl) (fun _ => by kernel_rfl) ?_
 refine T.pure (.string r1.2.1) (by kernel_rfl) (fun _ => by kernel_rfl) ?_
 refine T.pure (.int .i64 r1.2.2) (by kernel_rfl) (fun _ => by kernel_rfl) ?_
 refine T.nil ?_
 refine T.seq ?_
 refine T.seq ?_
 refine T.region ?_
 refine T.pure (.int .i64 r1.2.2) (by kernel_rfl) (fun _ => by kernel_rfl) ?_
 refine T.pure (.bool (r1.2.2 != 0)) (by kernel_rfl) (fun _ => by kernel_rfl) ?_
 refine T.nil ?_
 refine T.cond (r1.2.2 != 0) (by kernel_rfl) (by kernel_rfl) (fun hc1 => ?_) (fun hc1 => ?_)
 ·
  rw [hc1, cond_true] at hF
  refine T.seq ?_
  refine T.region ?_
  refine T.pure (.agg #[.slice none 0 0, .slice none 0 0]) (by kernel_rfl) (fun _ => by kernel_rfl) ?_
  refine T.pure (.int .i64 r1.2.2) (by kernel_rfl) (fun _ => by kernel_rfl) ?_
  refine T.step (W1.store 0 [.slice none 0 0, .slice none 0 0] [box b2 25 [.slice none 0 0, .slice none 0 0], box b1 25 [.slice A1 p0.pages.length c1, .slice A2 p0.writes.length c2]] (by rfl) rfl (by kernel_rfl) (fun w' hw => exec_store (vs := [.slice none 0 0, .slice none 0 0]) rfl rfl rfl rfl (by kernel_rfl) (one_of rfl) (by simp) rfl hw) ?_)
  refine T.pure (.int .i64 r1.2.2) (by kernel_rfl) (fun _ => by kernel_rfl) ?_
  refine T.nil ?_
  refine T.rownil 9 eStr ?_
  refine T.rownil 29 eWrite ?_
  cases hF
  refine T.ret rfl ?_
  first | exact T.ret2 rfl (ResIs.cellN 2 rfl (by rfl) (fun _ => by kernel_rfl) (fun _ => by kernel_rfl)) (ResIs.tmp rfl) fun w' hh => ⟨(none, 0, none, 0), rfl, trivial, gives_of (Hp.sub (H' := [row 9 eStr none 0 ([] : List ByteArray), row 29 eWrite none 0 ([] : List DWrite)]) (hh.perm (List.Perm.trans (List.Perm.swap _ _ _) (List.Perm.refl _))) (List.sublist_append_left _ _)) ⟨flat_row (fun _ _ _ _ h => h), flat_row (fun _ _ _ _ h => h), trivial⟩⟩ | (unfold Exit.then; dsimp only; exact T.ret2 rfl (ResIs.cellN 2 rfl (by rfl) (fun _ => by kernel_rfl) (fun _ => by kernel_rfl)) (ResIs.tmp rfl) fun w' hh => ⟨(none, 0, none, 0), rfl, trivial, gives_of (Hp.sub (H' := [row 9 eStr none 0 ([] : List ByteArray), row 29 eWrite none 0 ([] : List DWrite)]) (hh.perm (List.Perm.trans (List.Perm.swap _ _ _) (List.Perm.refl _))) (List.sublist_append_left _ _)) ⟨flat_row (fun _ _ _ _ h => h), flat_row (fun _ _ _ _ h => h), trivial⟩⟩)
 ·
  rw [hc1, cond_false] at hF
  refine T.skip_code ?_
  refine T.seq ?_
  refine T.region ?_
  refine T.look (.agg #[.slice A1 p0.pages.length c1, .slice A2 p0.writes.length c2]) (by kernel_rfl) (fun w' hh => exec_loadN (cs := [.slice A1 p0.pages.length c1, .slice A2 p0.writes.length c2]) rfl rfl (by kernel_rfl) (by kernel_rfl) (fun j u hj => (hh.box_at (i := 1) (cs := [.slice A1 p0.pages.length c1, .slice A2 p0.writes.length c2]) (by rfl) 0 j).trans (seg_at (n := 2) (by rfl) hj))) ?_
  obtain ⟨q1, hX1, hF⟩ := Option.bind_eq_some_iff.1 hF
  refine T.step (W1.within 7 [.agg #[.slice A1 p0.pages.length c1, .slice A2 p0.writes.length c2]] (fun v w' => ∃ (z1 : List ByteArray) (z2 : Int), q1 = (z1, z2) ∧ ∃ (A3 : Option Addr) (c3 : Nat) (V2 : View), View.le V1 V2 ∧ v = .tuple #[.agg #[.slice A3 z1.length c3, .slice none 0 0], .int .i64 z2] ∧ Hp w V2 [row 9 eStr A3 c3 z1, box b2 25 [.slice none 0 0, .slice none 0 0], box b1 25 [.slice A1 p0.pages.length c1, .slice A2 p0.writes.length c2]] w') Try.func7 rfl rfl (by kernel_rfl) (fun _ => by kernel_rfl) rfl ?_ ?_)
  ·
   refine T.seq ?_
   refine T.region ?_
   refine T.step (W1.new 25 [.slice A1 p0.pages.length c1, .slice A2 p0.writes.length c2] (fun b => .pointer (some ⟨b, 0, none⟩)) (by kernel_rfl) (fun _ => by kernel_rfl) (fun b3 => ?_))
   refine T.step (W1.new 25 [.slice none 0 0, .slice none 0 0] (fun b => .pointer (some ⟨b, 0, none⟩)) (by kernel_rfl) (fun _ => by kernel_rfl) (fun b4 => ?_))
   refine T.pure (.int .i64 0) (by kernel_rfl) (fun _ => by kernel_rfl) ?_
   refine T.nil ?_
   refine T.seq ?_
   refine T.seq ?_
   refine T.region ?_
   refine T.look (.agg #[.slice A1 p0.pages.length c1, .slice A2 p0.writes.length c2]) (by kernel_rfl) (fun w' hh => exec_loadN (cs := [.slice A1 p0.pages.length c1, .slice A2 p0.writes.length c2]) rfl rfl (by kernel_rfl) (by kernel_rfl) (fun j u hj => (hh.box_at (i := 1) (cs := [.slice A1 p0.pages.length c1, .slice A2 p0.writes.length c2]) (by rfl) 0 j).trans (seg_at (n := 2) (by rfl) hj))) ?_
   obtain ⟨r4, hb2, hX1⟩ := Option.bind_eq_some_iff.1 hX1
   refine T.step (W1.call (vSc eInt) r4 21 #[.agg #[.slice A1 p0.pages.length c1, .slice A2 p0.writes.length c2]] (by kernel_rfl) (fun _ => by kernel_rfl) (fun w' hh => disk_Check_l F p0 r4 hb2 w' A1 c1 (SlOk.mono (SlOk.mono hs1 hV1) hh.view) A2 c2 (SlOk.mono (SlOk.mono hs2 hV1) hh.view)) ?_)
   intro u V3 hV3 hu
   obtain rfl := sureInt _ _ _ hu
   refine T.pure (.int .i64 r4) (by kernel_rfl) (fun _ => by kernel_rfl) ?_
   refine T.nil ?_
   refine T.seq ?_
   refine T.region ?_
   refine T.pure (.int .i64 r4) (by kernel_rfl) (fun _ => by kernel_rfl) ?_
   refine T.pure (.bool (r4 != 0)) (by kernel_rfl) (fun _ => by kernel_rfl) ?_
   refine T.nil ?_
   refine T.cond (r4 != 0) (by kernel_rfl) (by kernel_rfl) (fun hc2 => ?_) (fun hc2 => ?_)
   ·
    rw [hc2, cond_true] at hX1
    refine T.seq ?_
    refine T.region ?_
    refine T.pure (.agg #[.slice none 0 0, .slice none 0 0]) (by kernel_rfl) (fun _ => by kernel_rfl) ?_
    refine T.pure (.int .i64 r4) (by kernel_rfl) (fun _ => by kernel_rfl) ?_
    refine T.step (W1.store 0 [.slice none 0 0, .slice none 0 0] [box b4 25 [.slice none 0 0, .slice none 0 0], box b3 25 [.slice A1 p0.pages.length c1, .slice A2 p0.writes.length c2], box b2 25 [.slice none 0 0, .slice none 0 0], box b1 25 [.slice A1 p0.pages.length c1, .slice A2 p0.writes.length c2]] (by rfl) rfl (by kernel_rfl) (fun w' hw => exec_store (vs := [.slice none 0 0, .slice none 0 0]) rfl rfl rfl rfl (by kernel_rfl) (one_of rfl) (by simp) rfl hw) ?_)
    refine T.pure (.int .i64 r4) (by kernel_rfl) (fun _ => by kernel_rfl) ?_
    refine T.nil ?_
    refine T.rownil 9 eStr ?_
    cases hX1
    refine T.ret rfl ?_
    repeat first | refine T.unthen ?_ | refine T.unblock ?_
    exact T.ret2 rfl (ResIs.cellN 1 rfl (by rfl) (fun _ => by kernel_rfl) (fun _ => by kernel_rfl)) (ResIs.tmp rfl) fun w' hh => ⟨_, rfl, Exists.intro [] (Exists.intro r4 (And.intro rfl (Exists.intro none (Exists.intro 0 (Exists.intro V3 (And.intro hV3 (And.intro rfl (hh.sub (.cons_cons _ (.cons _ (.cons _ (.cons_cons _ (.cons_cons _ List.Sublist.slnil)))))))))))))⟩
   ·
    rw [hc2, cond_false] at hX1
    refine T.skip_code ?_
    refine T.seq ?_
    refine T.region ?_
    refine T.look (.agg #[.slice A1 p0.pages.length c1, .slice A2 p0.writes.length c2]) (by kernel_rfl) (fun w' hh => exec_loadN (cs := [.slice A1 p0.pages.length c1, .slice A2 p0.writes.length c2]) rfl rfl (by kernel_rfl) (by kernel_rfl) (fun j u hj => (hh.box_at (i := 1) (cs := [.slice A1 p0.pages.length c1, .slice A2 p0.writes.length c2]) (by rfl) 0 j).trans (seg_at (n := 2) (by rfl) hj))) ?_
    obtain ⟨z3, hX2, hX1⟩ := Option.bind_eq_some_iff.1 hX1
    refine T.step (W1.within 24 [.agg #[.slice A1 p0.pages.length c1, .slice A2 p0.writes.length c2], .func (.func 25) #[] #[]] (fun v w' => ∃ (A4 : Option Addr) (c4 : Nat), v = .agg #[.slice A4 z3.length c4, .slice none 0 0] ∧ Hp w V3 [row 9 eStr A4 c4 z3, box b4 25 [.slice none 0 0, .slice none 0 0], box b3 25 [.slice A1 p0.pages.length c1, .slice A2 p0.writes.length c2], box b2 25 [.slice none 0 0, .slice none 0 0], box b1 25 [.slice A1 p0.pages.length c1, .slice A2 p0.writes.length c2]] w') Try.func24 rfl rfl (by kernel_rfl) (fun _ => by kernel_rfl) rfl ?_ ?_)
    ·
     refine T.seq ?_
     refine T.region ?_
     refine T.step (W1.new 25 [.slice A1 p0.pages.length c1, .slice A2 p0.writes.length c2] (fun b => .pointer (some ⟨b, 0, none⟩)) (by kernel_rfl) (fun _ => by kernel_rfl) (fun b5 => ?_))
     refine T.step (W1.new 25 [.slice none 0 0, .slice none 0 0] (fun b => .pointer (some ⟨b, 0, none⟩)) (by kernel_rfl) (fun _ => by kernel_rfl) (fun b6 => ?_))
     refine T.nil ?_
     refine T.seq ?_
     refine T.region ?_
     refine T.pure (.pointer (some ⟨b5, 0, none⟩)) (by kernel_rfl) (fun _ => by kernel_rfl) ?_
     refine T.look (.slice A1 p0.pages.length c1) (by kernel_rfl) (fun w' hh => exec_load1 rfl rfl (by kernel_rfl) (hh.cellBox (i := 1) (by rfl) 0)) ?_
     refine T.rownil 9 eStr ?_
     obtain ⟨y1, hb3, hX2⟩ := Option.bind_eq_some_iff.1 hX2
     obtain ⟨hb3_r, hb3_m, rfl⟩ := grow_some hb3
     obtain ⟨ti, hti, hz1, hz2, hz3⟩ := info_parts (P := Try.prog) (e := 9) (z := .string (ByteArray.mk #[])) (size := 1) (bytes := 16) (by kernel_rfl)
     refine T.step (W1.append (E := eStr) (l := ([] : List ByteArray)) (m := p0.pages) 0 _ _ 16 ti _ (by rfl) (by kernel_rfl) rfl (by kernel_rfl) hti hz1 hz2 hz3 rfl (by decide) rfl rfl (fun w' hh => (SlOk.srcF (SlOk.mono (SlOk.mono hs1 (View.le_trans hV1 hV3)) hh.view) (fun _ _ _ _ h => h))) hb3_r hb3_m (fun A5 c5 => ?_))
     refine T.pure (.agg #[.slice A5 ((([] : List ByteArray) ++ p0.pages).length) c5, .slice none 0 0]) (by kernel_rfl) (fun _ => by kernel_rfl) ?_
     refine T.step (W1.new 25 [.slice none 0 0, .slice none 0 0] (fun b => .pointer (some ⟨b, 0, none⟩)) (by kernel_rfl) (fun _ => by kernel_rfl) (fun b7 => ?_))
     refine T.step (W1.store 0 [.slice A5 ((([] : List ByteArray) ++ p0.pages).length) c5, .slice none 0 0] [box b7 25 [.slice A5 ((([] : List ByteArray) ++ p0.pages).length) c5, .slice none 0 0], row 9 eStr A5 c5 (([] : List ByteArray) ++ p0.pages), box b6 25 [.slice none 0 0, .slice none 0 0], box b5 25 [.slice A1 p0.pages.length c1, .slice A2 p0.writes.length c2], box b4 25 [.slice none 0 0, .slice none 0 0], box b3 25 [.slice A1 p0.pages.length c1, .slice A2 p0.writes.length c2], box b2 25 [.slice none 0 0, .slice none 0 0], box b1 25 [.slice A1 p0.pages.length c1, .slice A2 p0.writes.length c2]] (by rfl) rfl (by kernel_rfl) (fun w' hw => exec_store (vs := [.slice A5 ((([] : List ByteArray) ++ p0.pages).length) c5, .slice none 0 0]) rfl rfl rfl rfl (by kernel_rfl) (one_of rfl) (by simp) rfl hw) ?_)
     refine T.nil ?_
     refine T.seq ?_
     refine T.seq ?_
     refine T.region ?_
     refine T.pure (.pointer (some ⟨b5, 1, none⟩)) (by kernel_rfl) (fun _ => by kernel_rfl) ?_
     refine T.look (.slice A2 p0.writes.length c2) (by kernel_rfl) (fun w' hh => exec_load1 rfl rfl (by kernel_rfl) (hh.cellBox (i := 3) (by rfl) 1)) ?_
     refine T.pure (.int .i64 (p0.writes.length : Int)) (by kernel_rfl) (fun _ => by kernel_rfl) ?_
     refine T.pure (.int .i64 0) (by kernel_rfl) (fun _ => by kernel_rfl) ?_
     refine T.nil ?_
     obtain ⟨z4, hz1, hX2⟩ := Option.bind_eq_some_iff.1 hX2
     refine T.mid (fun a w' => Fr 32 [(4, .pointer (some ⟨b6, 0, none⟩)), (5, .pointer (some ⟨b7, 0, none⟩))] a ∧ Hp w V3 [box b7 25 [.slice A5 z4.length c5, .slice none 0 0], row 9 eStr A5 c5 z4, box b6 25 [.slice none 0 0, .slice none 0 0], box b4 25 [.slice none 0 0, .slice none 0 0], box b3 25 [.slice A1 p0.pages.length c1, .slice A2 p0.writes.length c2], box b2 25 [.slice none 0 0, .slice none 0 0], box b1 25 [.slice A1 p0.pages.length c1, .slice A2 p0.writes.length c2]] w') ?_ ?_
     ·
      refine T.block ?_
      refine T.iter (fun s1 a w' => ∃ (x1 : List ByteArray) (x2 : Int), s1 = (x1, x2) ∧ Fr 32 [(1, .func (.func 25) #[] #[]), (4, .pointer (some ⟨b6, 0, none⟩)), (5, .pointer (some ⟨b7, 0, none⟩)), (13, .slice A2 p0.writes.length c2), (14, .int .i64 (p0.writes.length : Int)), (15, .int .i64 x2)] a ∧ Hp w V3 [box b7 25 [.slice A5 x1.length c5, .slice none 0 0], row 9 eStr A5 c5 x1, box b6 25 [.slice none 0 0, .slice none 0 0], box b4 25 [.slice none 0 0, .slice none 0 0], box b3 25 [.slice A1 p0.pages.length c1, .slice A2 p0.writes.length c2], box b2 25 [.slice none 0 0, .slice none 0 0], box b1 25 [.slice A1 p0.pages.length c1, .slice A2 p0.writes.length c2]] w') hz1 ?_ ?_
      ·
       exact fun a w' hf hh => Exists.intro (([] : List ByteArray) ++ p0.pages) (Exists.intro 0 (And.intro rfl (And.intro (((((((Fr.nil hf).pick hf 15 rfl).pick hf 14 rfl).pick hf 13 rfl).pick hf 5 rfl).pick hf 4 rfl).pick hf 1 rfl) (hh.sub (.cons_cons _ (.cons_cons _ (.cons_cons _ (.cons _ (.cons_cons _ (.cons_cons _ (.cons_cons _ (.cons_cons _ List.Sublist.slnil))))))))))))
      ·
       rintro s1 y2 hY1 hr1 a w' ⟨x1, x2, rfl, hf, hh⟩
       refine (?_ : T 32 w V3 [box b7 25 [.slice A5 x1.length c5, .slice none 0 0], row 9 eStr A5 c5 x1, box b6 25 [.slice none 0 0, .slice none 0 0], box b4 25 [.slice none 0 0, .slice none 0 0], box b3 25 [.slice A1 p0.pages.length c1, .slice A2 p0.writes.length c2], box b2 25 [.slice none 0 0, .slice none 0 0], box b1 25 [.slice A1 p0.pages.length c1, .slice A2 p0.writes.length c2]] [(1, .func (.func 25) #[] #[]), (4, .pointer (some ⟨b6, 0, none⟩)), (5, .pointer (some ⟨b7, 0, none⟩)), (13, .slice A2 p0.writes.length c2), (14, .int .i64 (p0.writes.length : Int)), (15, .int .i64 x2)] _) a w' hf hh
       clear hf hh
       try dsimp only at hY1
       refine T.seq ?_
       refine T.region ?_
       refine T.pure (.bool (decide (x2 < (p0.writes.length : Int)))) (by kernel_rfl) (fun _ => by kernel_rfl) ?_
       refine T.nil ?_
       refine T.seq ?_
       refine T.cond (decide (x2 < (p0.writes.length : Int))) (by kernel_rfl) (by kernel_rfl) (fun hc3 => ?_) (fun hc3 => ?_)
       ·
        rw [hc3, cond_true] at hY1
        refine T.skip_code ?_
        refine T.seq ?_
        refine T.block ?_
        refine T.seq ?_
        refine T.region ?_
        refine T.pure (.int .i64 x2) (by kernel_rfl) (fun _ => by kernel_rfl) ?_
        obtain ⟨e1, hb4, hY1⟩ := Option.bind_eq_some_iff.1 hY1
        obtain ⟨hi1, hi2, hi3⟩ := idx_some hb4
        refine T.look (.pointer (some ((sadr A2).add (x2.toNat * 2)))) (by kernel_rfl) (fun w' hh => exec_indexAddr (e := 29) (s := 2) rfl rfl rfl (by kernel_rfl) (by kernel_rfl) hi1 hi2 ((SlOk.mono hs2 (View.le_trans hV1 hV3)).some_ hi3 (by decide))) ?_
        refine T.look (.agg #[.int .i64 e1.page, .string e1.text]) (by kernel_rfl) (fun w' hh => exec_loadN (cs := [.int .i64 e1.page, .string e1.text]) rfl rfl (by kernel_rfl) (by kernel_rfl) (fun j u hj => (hh.cell_view (SlOk.cellF (E := eWrite) (SlOk.mono hs2 (View.le_trans hV1 hV3)) hi3 j (fun _ _ _ h => h) hj)))) ?_
        refine T.step (W1.new 29 [.int .i64 0, .string (ByteArray.mk #[])] (fun b => .pointer (some ⟨b, 0, none⟩)) (by kernel_rfl) (fun _ => by kernel_rfl) (fun b8 => ?_))
        refine T.pure (.int .i64 x2) (by kernel_rfl) (fun _ => by kernel_rfl) ?_
        refine T.step (W1.store 0 [.int .i64 e1.page, .string e1.text] [box b8 29 [.int .i64 e1.page, .string e1.text], box b7 25 [.slice A5 x1.length c5, .slice none 0 0], row 9 eStr A5 c5 x1, box b6 25 [.slice none 0 0, .slice none 0 0], box b4 25 [.slice none 0 0, .slice none 0 0], box b3 25 [.slice A1 p0.pages.length c1, .slice A2 p0.writes.length c2], box b2 25 [.slice none 0 0, .slice none 0 0], box b1 25 [.slice A1 p0.pages.length c1, .slice A2 p0.writes.length c2]] (by rfl) rfl (by kernel_rfl) (fun w' hw => exec_store (vs := [.int .i64 e1.page, .string e1.text]) rfl rfl rfl rfl (by kernel_rfl) (one_of rfl) (by simp) rfl hw) ?_)
        refine T.nil ?_
        refine T.seq ?_
        refine T.region ?_
        refine T.pure (.func (.func 25) #[] #[]) (by kernel_rfl) (fun _ => by kernel_rfl) ?_
        refine T.pure (.int .i64 x2) (by kernel_rfl) (fun _ => by kernel_rfl) ?_
        refine T.step (W1.within 25 [.int .i64 x2] (fun v w' => v = .bool true ∧ Hp w V3 [box b8 29 [.int .i64 e1.page, .string e1.text], box b7 25 [.slice A5 x1.length c5, .slice none 0 0], row 9 eStr A5 c5 x1, box b6 25 [.slice none 0 0, .slice none 0 0], box b4 25 [.slice none 0 0, .slice none 0 0], box b3 25 [.slice A1 p0.pages.length c1, .slice A2 p0.writes.length c2], box b2 25 [.slice none 0 0, .slice none 0 0], box b1 25 [.slice A1 p0.pages.length c1, .slice A2 p0.writes.length c2]] w') Try.func25 rfl rfl (by kernel_rfl) (fun _ => by kernel_rfl) rfl ?_ ?_)
        ·
         refine T.seq ?_
         refine T.region ?_
         refine T.pure (.bool false) (by kernel_rfl) (fun _ => by kernel_rfl) ?_
         refine T.nil ?_
         refine T.seq ?_
         refine T.region ?_
         refine T.pure (.bool true) (by kernel_rfl) (fun _ => by kernel_rfl) ?_
         refine T.nil ?_
         refine T.ret rfl ?_
         exact T.ret1 rfl (ResIs.tmp rfl) fun w' hh => ⟨_, rfl, And.intro rfl (hh.sub (.cons_cons _ (.cons_cons _ (.cons_cons _ (.cons_cons _ (.cons_cons _ (.cons_cons _ (.cons_cons _ (.cons_cons _ List.Sublist.slnil)))))))))⟩
        ·
         rintro v w' ⟨rfl, hh⟩
         refine ⟨V3, [box b8 29 [.int .i64 e1.page, .string e1.text], box b7 25 [.slice A5 x1.length c5, .slice none 0 0], row 9 eStr A5 c5 x1, box b6 25 [.slice none 0 0, .slice none 0 0], box b4 25 [.slice none 0 0, .slice none 0 0], box b3 25 [.slice A1 p0.pages.length c1, .slice A2 p0.writes.length c2], box b2 25 [.slice none 0 0, .slice none 0 0], box b1 25 [.slice A1 p0.pages.length c1, .slice A2 p0.writes.length c2]], hh, ?_⟩
         clear hh
         refine T.nil ?_
         refine T.cond true (by kernel_rfl) (by kernel_rfl) (fun _ => ?_) (fun h => Bool.noConfusion h)
         refine T.region ?_
         refine T.pure (.pointer (some ⟨b7, 0, none⟩)) (by kernel_rfl) (fun _ => by kernel_rfl) ?_
         refine T.look (.slice A5 x1.length c5) (by kernel_rfl) (fun w' hh => exec_load1 rfl rfl (by kernel_rfl) (hh.cellBox (i := 1) (by rfl) 0)) ?_
         refine T.pure (.pointer (some ⟨b8, 0, none⟩)) (by kernel_rfl) (fun _ => by kernel_rfl) ?_
         refine T.look (.int .i64 e1.page) (by kernel_rfl) (fun w' hh => exec_load1 rfl rfl (by kernel_rfl) (hh.cellBox (i := 0) (by rfl) 0)) ?_
         refine T.pure (.pointer (some ⟨b8, 1, none⟩)) (by kernel_rfl) (fun _ => by kernel_rfl) ?_
         refine T.look (.string e1.text) (by kernel_rfl) (fun w' hh => exec_load1 rfl rfl (by kernel_rfl) (hh.cellBox (i := 0) (by rfl) 1)) ?_
         obtain ⟨e2, hb5, hY1⟩ := Option.bind_eq_some_iff.1 hY1
         obtain ⟨hi4, hi5, hi6⟩ := idx_some hb5
         refine T.look (.pointer (some ((sadr A5).add (e1.page.toNat * 1)))) (by kernel_rfl) (fun w' hh => exec_indexAddr (e := 9) (s := 1) rfl rfl rfl (by kernel_rfl) (by kernel_rfl) hi4 hi5 ((hh.row_slOk (i := 2) (by rfl)).some_ hi6 (by decide))) ?_
         refine T.step (W1.storeRow (E := eStr) 2 (e1.page.toNat) 0 e2 e1.text _ (vs := [.string e1.text]) (by rfl) (by kernel_rfl) rfl rfl (addr_add0 _).symm rfl rfl (fun _ => by kernel_rfl) (one_of rfl) hi6 (Nat.le_of_ble_eq_true (by kernel_rfl)) (fun _ _ h => by cases h; rfl) ?_)
         refine T.reslot 24 (.slice A5 ((x1.set e1.page.toNat e1.text).length) c5) rfl (by simp only [List.length_set]) ?_
         refine T.reH (H' := [box b8 29 [.int .i64 e1.page, .string e1.text], box b7 25 [.slice A5 ((x1.set e1.page.toNat e1.text).length) c5, .slice none 0 0], row 9 eStr A5 c5 (x1.set e1.page.toNat e1.text), box b6 25 [.slice none 0 0, .slice none 0 0], box b4 25 [.slice none 0 0, .slice none 0 0], box b3 25 [.slice A1 p0.pages.length c1, .slice A2 p0.writes.length c2], box b2 25 [.slice none 0 0, .slice none 0 0], box b1 25 [.slice A1 p0.pages.length c1, .slice A2 p0.writes.length c2]]) (by first | (simp only [List.length_set]; done) | (simp only [List.length_set]; rfl)) ?_
         refine T.nil ?_
         refine T.region ?_
         refine T.pure (.int .i64 (IntKind.i64.wrap (x2 + 1))) (by kernel_rfl) (fun _ => by kernel_rfl) ?_
         refine T.pure (.int .i64 (IntKind.i64.wrap (x2 + 1))) (by kernel_rfl) (fun _ => by kernel_rfl) ?_
         refine T.nil ?_
         cases hY1
         exact fun a w' hf hh => Exists.intro ((x1.set e1.page.toNat e1.text), IntKind.i64.wrap (x2 + 1)) (And.intro rfl (Exists.intro (x1.set e1.page.toNat e1.text) (Exists.intro (IntKind.i64.wrap (x2 + 1)) (And.intro rfl (And.intro (((((((Fr.nil hf).pick hf 15 rfl).pick hf 14 rfl).pick hf 13 rfl).pick hf 5 rfl).pick hf 4 rfl).pick hf 1 rfl) (hh.sub (.cons _ (.cons_cons _ (.cons_cons _ (.cons_cons _ (.cons_cons _ (.cons_cons _ (.cons_cons _ (.cons_cons _ List.Sublist.slnil))))))))))))))
       ·
        rw [hc3, cond_false] at hY1
        refine T.exit ?_
        cases hY1
        cases (hr1 _ rfl)
        exact fun a w' hf hh => And.intro (((Fr.nil hf).pick hf 5 rfl).pick hf 4 rfl) (hh.sub (.cons_cons _ (.cons_cons _ (.cons_cons _ (.cons_cons _ (.cons_cons _ (.cons_cons _ (.cons_cons _ List.Sublist.slnil))))))))
     ·
      rintro a w' ⟨hf, hh⟩
      refine (?_ : T 32 w V3 [box b7 25 [.slice A5 z4.length c5, .slice none 0 0], row 9 eStr A5 c5 z4, box b6 25 [.slice none 0 0, .slice none 0 0], box b4 25 [.slice none 0 0, .slice none 0 0], box b3 25 [.slice A1 p0.pages.length c1, .slice A2 p0.writes.length c2], box b2 25 [.slice none 0 0, .slice none 0 0], box b1 25 [.slice A1 p0.pages.length c1, .slice A2 p0.writes.length c2]] [(4, .pointer (some ⟨b6, 0, none⟩)), (5, .pointer (some ⟨b7, 0, none⟩))] _) a w' hf hh
      clear hf hh
      refine T.seq ?_
      refine T.region ?_
      refine T.look (.agg #[.slice A5 z4.length c5, .slice none 0 0]) (by kernel_rfl) (fun w' hh => exec_loadN (cs := [.slice A5 z4.length c5, .slice none 0 0]) rfl rfl (by kernel_rfl) (by kernel_rfl) (fun j u hj => (hh.box_at (i := 0) (cs := [.slice A5 z4.length c5, .slice none 0 0]) (by rfl) 0 j).trans (seg_at (n := 2) (by rfl) hj))) ?_
      refine T.step (W1.store 2 [.slice A5 z4.length c5, .slice none 0 0] [box b7 25 [.slice A5 z4.length c5, .slice none 0 0], row 9 eStr A5 c5 z4, box b6 25 [.slice A5 z4.length c5, .slice none 0 0], box b4 25 [.slice none 0 0, .slice none 0 0], box b3 25 [.slice A1 p0.pages.length c1, .slice A2 p0.writes.length c2], box b2 25 [.slice none 0 0, .slice none 0 0], box b1 25 [.slice A1 p0.pages.length c1, .slice A2 p0.writes.length c2]] (by rfl) rfl (by kernel_rfl) (fun w' hw => exec_store (vs := [.slice A5 z4.length c5, .slice none 0 0]) rfl rfl rfl rfl (by kernel_rfl) (one_of rfl) (by simp) rfl hw) ?_)
      refine T.nil ?_
      cases hX2
      refine T.ret rfl ?_
      exact T.ret1 rfl (ResIs.cellN 2 rfl (by rfl) (fun _ => by kernel_rfl) (fun _ => by kernel_rfl)) fun w' hh => ⟨_, rfl, Exists.intro A5 (Exists.intro c5 (And.intro rfl (hh.sub (.cons _ (.cons_cons _ (.cons _ (.cons_cons _ (.cons_cons _ (.cons_cons _ (.cons_cons _ List.Sublist.slnil))))))))))⟩
    ·
     rintro v w' ⟨A4, c4, rfl, hh⟩
     refine ⟨V3, [row 9 eStr A4 c4 z3, box b4 25 [.slice none 0 0, .slice none 0 0], box b3 25 [.slice A1 p0.pages.length c1, .slice A2 p0.writes.length c2], box b2 25 [.slice none 0 0, .slice none 0 0], box b1 25 [.slice A1 p0.pages.length c1, .slice A2 p0.writes.length c2]], hh, ?_⟩
     clear hh
     refine T.step (W1.store 1 [.slice A4 z3.length c4, .slice none 0 0] [row 9 eStr A4 c4 z3, box b4 25 [.slice A4 z3.length c4, .slice none 0 0], box b3 25 [.slice A1 p0.pages.length c1, .slice A2 p0.writes.length c2], box b2 25 [.slice none 0 0, .slice none 0 0], box b1 25 [.slice A1 p0.pages.length c1, .slice A2 p0.writes.length c2]] (by rfl) rfl (by kernel_rfl) (fun w' hw => exec_store (vs := [.slice A4 z3.length c4, .slice none 0 0]) rfl rfl rfl rfl (by kernel_rfl) (one_of rfl) (by simp) rfl hw) ?_)
     refine T.pure (.int .i64 0) (by kernel_rfl) (fun _ => by kernel_rfl) ?_
     refine T.nil ?_
     cases hX1
     refine T.ret rfl ?_
     repeat first | refine T.unthen ?_ | refine T.unblock ?_
     exact T.ret2 rfl (ResIs.cellN 1 rfl (by rfl) (fun _ => by kernel_rfl) (fun _ => by kernel_rfl)) (ResIs.tmp rfl) fun w' hh => ⟨_, rfl, Exists.intro z3 (Exists.intro 0 (And.intro rfl (Exists.intro A4 (Exists.intro c4 (Exists.intro V3 (And.intro hV3 (And.intro rfl (hh.sub (.cons_cons _ (.cons _ (.cons _ (.cons_cons _ (.cons_cons _ List.Sublist.slnil)))))))))))))⟩
  ·
   rintro v w' ⟨z1, z2, rfl, A3, c3, V2, hV2, rfl, hh⟩
   try dsimp only at hF
   refine ⟨V2, [row 9 eStr A3 c3 z1, box b2 25 [.slice none 0 0, .slice none 0 0], box b1 25 [.slice A1 p0.pages.length c1, .slice A2 p0.writes.length c2]], hh, ?_⟩
   clear hh
   refine T.pure (.tuple #[.agg #[.slice A3 z1.length c3, .slice none 0 0], .int .i64 z2]) (by kernel_rfl) (fun _ => by kernel_rfl) ?_
   refine T.pure (.agg #[.slice A3 z1.length c3, .slice none 0 0]) (by kernel_rfl) (fun _ => by kernel_rfl) ?_
   refine T.pure (.int .i64 z2) (by kernel_rfl) (fun _ => by kernel_rfl) ?_
   refine T.step (W1.store 2 [.slice A3 z1.length c3, .slice none 0 0] [row 9 eStr A3 c3 z1, box b2 25 [.slice none 0 0, .slice none 0 0], box b1 25 [.slice A3 z1.length c3, .slice none 0 0]] (by rfl) rfl (by kernel_rfl) (fun w' hw => exec_store (vs := [.slice A3 z1.length c3, .slice none 0 0]) rfl rfl rfl rfl (by kernel_rfl) (one_of rfl) (by simp) rfl hw) ?_)
   refine T.nil ?_
   refine T.seq ?_
   refine T.seq ?_
   refine T.region ?_
   refine T.pure (.int .i64 101) (by kernel_rfl) (fun _ => by kernel_rfl) ?_
   refine T.nil ?_
   obtain ⟨z5, hz2, hF⟩ := Option.bind_eq_some_iff.1 hF
   refine T.mid (fun a w' => ∃ (V5 : View), View.le V2 V5 ∧ Fr 91 [(1, .pointer (some ⟨b1, 0, none⟩)), (2, .pointer (some ⟨b2, 0, none⟩))] a ∧ Hp w V5 [row 9 eStr A3 c3 z5, box b2 25 [.slice none 0 0, .slice none 0 0], box b1 25 [.slice A3 z5.length c3, .slice none 0 0]] w') ?_ ?_
   ·
    refine T.block ?_
    refine T.iter (fun s2 a w' => ∃ (x3 : List ByteArray) (x4 : Int), s2 = (x3, x4) ∧ ∃ (V4 : View), View.le V2 V4 ∧ Fr 91 [(1, .pointer (some ⟨b1, 0, none⟩)), (2, .pointer (some ⟨b2, 0, none⟩)), (4, .int .i64 r1.1), (7, .int .i64 x4)] a ∧ Hp w V4 [row 9 eStr A3 c3 x3, box b2 25 [.slice none 0 0, .slice none 0 0], box b1 25 [.slice A3 x3.length c3, .slice none 0 0]] w') hz2 ?_ ?_
    ·
     exact fun a w' hf hh => Exists.intro z1 (Exists.intro 101 (And.intro rfl (Exists.intro V2 (And.intro (View.le_refl _) (And.intro (((((Fr.nil hf).pick hf 7 rfl).pick hf 4 rfl).pick hf 2 rfl).pick hf 1 rfl) (hh.sub (.cons_cons _ (.cons_cons _ (.cons_cons _ List.Sublist.slnil)))))))))
    ·
     rintro s2 y3 hY2 hr2 a w' ⟨x3, x4, rfl, V4, hV4, hf, hh⟩
     refine (?_ : T 91 w V4 [row 9 eStr A3 c3 x3, box b2 25 [.slice none 0 0, .slice none 0 0], box b1 25 [.slice A3 x3.length c3, .slice none 0 0]] [(1, .pointer (some ⟨b1, 0, none⟩)), (2, .pointer (some ⟨b2, 0, none⟩)), (4, .int .i64 r1.1), (7, .int .i64 x4)] _) a w' hf hh
     clear hf hh
     try dsimp only at hY2
     refine T.seq ?_
     refine T.seq ?_
     refine T.region ?_
     refine T.pure (.int .i64 x4) (by kernel_rfl) (fun _ => by kernel_rfl) ?_
     refine T.pure (.bool (decide (x4 < 201))) (by kernel_rfl) (fun _ => by kernel_rfl) ?_
     refine T.nil ?_
     refine T.cond (decide (x4 < 201)) (by kernel_rfl) (by kernel_rfl) (fun hc4 => ?_) (fun hc4 => ?_)
     ·
      rw [hc4, cond_true] at hY2
      refine T.skip_code ?_
      obtain ⟨z6, hX3, hY2⟩ := Option.bind_eq_some_iff.1 hY2
      refine T.cut (fun a w' => ∃ (V6 : View), View.le V4 V6 ∧ Fr 91 [(1, .pointer (some ⟨b1, 0, none⟩)), (2, .pointer (some ⟨b2, 0, none⟩)), (4, .int .i64 r1.1), (7, .int .i64 x4)] a ∧ Hp w V6 [row 9 eStr A3 c3 z6, box b2 25 [.slice none 0 0, .slice none 0 0], box b1 25 [.slice A3 z6.length c3, .slice none 0 0]] w') ?_ ?_
      ·
       refine T.block ?_
       refine T.seq ?_
       refine T.region ?_
       refine T.pure (.pointer (some ⟨b1, 0, none⟩)) (by kernel_rfl) (fun _ => by kernel_rfl) ?_
       refine T.look (.slice A3 x3.length c3) (by kernel_rfl) (fun w' hh => exec_load1 rfl rfl (by kernel_rfl) (hh.cellBox (i := 2) (by rfl) 0)) ?_
       refine T.pure (.int .i64 x4) (by kernel_rfl) (fun _ => by kernel_rfl) ?_
       obtain ⟨e3, hb6, hX3⟩ := Option.bind_eq_some_iff.1 hX3
       obtain ⟨hi7, hi8, hi9⟩ := idx_some hb6
       refine T.look (.pointer (some ((sadr A3).add (x4.toNat * 1)))) (by kernel_rfl) (fun w' hh => exec_indexAddr (e := 9) (s := 1) rfl rfl rfl (by kernel_rfl) (by kernel_rfl) hi7 hi8 ((hh.row_slOk (i := 0) (by rfl)).some_ hi9 (by decide))) ?_
       refine T.look (.string e3) (by kernel_rfl) (fun w' hh => exec_load1 rfl rfl (by kernel_rfl) (SlOk.wcellF0 (E := eStr) (hh.row_slOk (i := 0) (by rfl)) hi9 (fun _ _ _ h => h) rfl)) ?_
       obtain ⟨r7, hb7, hX3⟩ := Option.bind_eq_some_iff.1 hX3
       refine T.step (W1.call (vT3 (vAg eFrame) (vSc eInt) (vSc eInt)) r7 28 #[.string e3] (by kernel_rfl) (fun _ => by kernel_rfl) (fun w' hh => frame_Get_l F e3 r7 hb7 w' ) ?_)
       intro u V7 hV7 hu
       obtain rfl := (Sure.t3 sureFrame sureInt sureInt) _ _ _ hu
       refine T.pure (.tuple #[.agg #[.int .i64 r7.1.kind, .string r7.1.body], .int .i64 r7.2.1, .int .i64 r7.2.2]) (by kernel_rfl) (fun _ => by kernel_rfl) ?_
       refine T.pure (.agg #[.int .i64 r7.1.kind, .string r7.1.body]) (by kernel_rfl) (fun _ => by kernel_rfl) ?_
       refine T.pure (.int .i64 r7.2.1) (by kernel_rfl) (fun _ => by kernel_rfl) ?_
       refine T.pure (.int .i64 r7.2.2) (by kernel_rfl) (fun _ => by kernel_rfl) ?_
       refine T.step (W1.new 58 [.int .i64 0, .string (ByteArray.mk #[])] (fun b => .pointer (some ⟨b, 0, none⟩)) (by kernel_rfl) (fun _ => by kernel_rfl) (fun b9 => ?_))
       refine T.step (W1.store 0 [.int .i64 r7.1.kind, .string r7.1.body] [box b9 58 [.int .i64 r7.1.kind, .string r7.1.body], row 9 eStr A3 c3 x3, box b2 25 [.slice none 0 0, .slice none 0 0], box b1 25 [.slice A3 x3.length c3, .slice none 0 0]] (by rfl) rfl (by kernel_rfl) (fun w' hw => exec_store (vs := [.int .i64 r7.1.kind, .string r7.1.body]) rfl rfl rfl rfl (by kernel_rfl) (one_of rfl) (by simp) rfl hw) ?_)
       refine T.pure (.int .i64 r7.2.1) (by kernel_rfl) (fun _ => by kernel_rfl) ?_
       refine T.pure (.int .i64 r7.2.2) (by kernel_rfl) (fun _ => by kernel_rfl) ?_
       refine T.nil ?_
       refine T.seq ?_
       obtain ⟨z7, hX4, hX3⟩ := Option.bind_eq_some_iff.1 hX3
       refine T.cut (fun a w' => ∃ (V8 : View), View.le V7 V8 ∧ Fr 91 [(1, .pointer (some ⟨b1, 0, none⟩)), (2, .pointer (some ⟨b2, 0, none⟩)), (4, .int .i64 r1.1), (7, .int .i64 x4), (8, .pointer (some ⟨b9, 0, none⟩)), (60, .bool z7)] a ∧ Hp w V8 [box b9 58 [.int .i64 r7.1.kind, .string r7.1.body], row 9 eStr A3 c3 x3, box b2 25 [.slice none 0 0, .slice none 0 0], box b1 25 [.slice A3 x3.length c3, .slice none 0 0]] w') ?_ ?_
       ·
        refine T.region ?_
        refine T.pure (.int .i64 r7.2.2) (by kernel_rfl) (fun _ => by kernel_rfl) ?_
        refine T.pure (.bool (r7.2.2 != 0)) (by kernel_rfl) (fun _ => by kernel_rfl) ?_
        refine T.pure (.bool (r7.2.2 != 0)) (by kernel_rfl) (fun _ => by kernel_rfl) ?_
        cases hg1 : (r7.2.2 != 0)
        ·
         skip
         rw [hg1, cond_false] at hX4
         refine T.pure (.pointer (some ⟨b9, 0, none⟩)) (by kernel_rfl) (fun _ => by kernel_rfl) ?_
         refine T.look (.int .i64 r7.1.kind) (by kernel_rfl) (fun w' hh => exec_load1 rfl rfl (by kernel_rfl) (hh.cellBox (i := 0) (by rfl) 0)) ?_
         refine T.pure (.bool (r7.1.kind != 9)) (by kernel_rfl) (fun _ => by kernel_rfl) ?_
         refine T.pure (.bool (r7.1.kind != 9)) (by kernel_rfl) (fun _ => by kernel_rfl) ?_
         refine T.pure (.bool (r7.1.kind != 9)) (by kernel_rfl) (fun _ => by kernel_rfl) ?_
         cases hg2 : (r7.1.kind != 9)
         ·
          skip
          rw [hg2, cond_false] at hX4
          refine T.pure (.pointer (some ⟨b9, 1, none⟩)) (by kernel_rfl) (fun _ => by kernel_rfl) ?_
          refine T.look (.string r7.1.body) (by kernel_rfl) (fun w' hh => exec_load1 rfl rfl (by kernel_rfl) (hh.cellBox (i := 0) (by rfl) 1)) ?_
          refine T.pure (.int .i64 (r7.1.body.size : Int)) (by kernel_rfl) (fun _ => by kernel_rfl) ?_
          refine T.pure (.bool (decide ((r7.1.body.size : Int) < 8))) (by kernel_rfl) (fun _ => by kernel_rfl) ?_
          refine T.pure (.bool (decide ((r7.1.body.size : Int) < 8))) (by kernel_rfl) (fun _ => by kernel_rfl) ?_
          refine T.pure (.bool (decide ((r7.1.body.size : Int) < 8))) (by kernel_rfl) (fun _ => by kernel_rfl) ?_
          cases hg3 : decide ((r7.1.body.size : Int) < 8)
          ·
           skip
           rw [hg3, cond_false] at hX4
           refine T.pure (.pointer (some ⟨b9, 1, none⟩)) (by kernel_rfl) (fun _ => by kernel_rfl) ?_
           refine T.look (.string r7.1.body) (by kernel_rfl) (fun w' hh => exec_load1 rfl rfl (by kernel_rfl) (hh.cellBox (i := 0) (by rfl) 1)) ?_
           obtain ⟨r8, hb8, hX4⟩ := Option.bind_eq_some_iff.1 hX4
           refine T.step (W1.call (vSc eInt) r8 29 #[.string r7.1.body] (by kernel_rfl) (fun _ => by kernel_rfl) (fun w' hh => undo_number_l F r7.1.body r8 hb8 w' ) ?_)
           intro u V9 hV9 hu
           obtain rfl := sureInt _ _ _ hu
           refine T.pure (.int .i64 r1.1) (by kernel_rfl) (fun _ => by kernel_rfl) ?_
           refine T.pure (.bool (decide (r8 ≤ r1.1))) (by kernel_rfl) (fun _ => by kernel_rfl) ?_
           refine T.pure (.bool (decide (r8 ≤ r1.1))) (by kernel_rfl) (fun _ => by kernel_rfl) ?_
           refine T.nil ?_
           cases hX4
           exact fun a w' hf hh => Exists.intro V9 (And.intro hV9 (And.intro (((((((Fr.nil hf).pick hf 60 rfl).pick hf 8 rfl).pick hf 7 rfl).pick hf 4 rfl).pick hf 2 rfl).pick hf 1 rfl) (hh.sub (.cons_cons _ (.cons_cons _ (.cons_cons _ (.cons_cons _ List.Sublist.slnil)))))))
          ·
           skip
           rw [hg3, cond_true] at hX4
           refine T.pass (by kernel_rfl) (by kernel_rfl) ?_
           refine T.pass (by kernel_rfl) (by kernel_rfl) ?_
           refine T.pass (by kernel_rfl) (by kernel_rfl) ?_
           refine T.pass (by kernel_rfl) (by kernel_rfl) ?_
           refine T.pass (by kernel_rfl) (by kernel_rfl) ?_
           refine T.pure (.bool true) (by kernel_rfl) (fun _ => by kernel_rfl) ?_
           refine T.nil ?_
           cases hX4
           exact fun a w' hf hh => Exists.intro V7 (And.intro (View.le_refl _) (And.intro (((((((Fr.nil hf).pick hf 60 rfl).pick hf 8 rfl).pick hf 7 rfl).pick hf 4 rfl).pick hf 2 rfl).pick hf 1 rfl) (hh.sub (.cons_cons _ (.cons_cons _ (.cons_cons _ (.cons_cons _ List.Sublist.slnil)))))))
         ·
          skip
          rw [hg2, cond_true] at hX4
          refine T.pass (by kernel_rfl) (by kernel_rfl) ?_
          refine T.pass (by kernel_rfl) (by kernel_rfl) ?_
          refine T.pass (by kernel_rfl) (by kernel_rfl) ?_
          refine T.pass (by kernel_rfl) (by kernel_rfl) ?_
          refine T.pure (.bool true) (by kernel_rfl) (fun _ => by kernel_rfl) ?_
          refine T.pure (.bool true) (by kernel_rfl) (fun _ => by kernel_rfl) ?_
          refine T.pass (by kernel_rfl) (by kernel_rfl) ?_
          refine T.pass (by kernel_rfl) (by kernel_rfl) ?_
          refine T.pass (by kernel_rfl) (by kernel_rfl) ?_
          refine T.pass (by kernel_rfl) (by kernel_rfl) ?_
          refine T.pass (by kernel_rfl) (by kernel_rfl) ?_
          refine T.pure (.bool true) (by kernel_rfl) (fun _ => by kernel_rfl) ?_
          refine T.nil ?_
          cases hX4
          exact fun a w' hf hh => Exists.intro V7 (And.intro (View.le_refl _) (And.intro (((((((Fr.nil hf).pick hf 60 rfl).pick hf 8 rfl).pick hf 7 rfl).pick hf 4 rfl).pick hf 2 rfl).pick hf 1 rfl) (hh.sub (.cons_cons _ (.cons_cons _ (.cons_cons _ (.cons_cons _ List.Sublist.slnil)))))))
        ·
         skip
         rw [hg1, cond_true] at hX4
         refine T.pass (by kernel_rfl) (by kernel_rfl) ?_
         refine T.pass (by kernel_rfl) (by kernel_rfl) ?_
         refine T.pass (by kernel_rfl) (by kernel_rfl) ?_
         refine T.pure (.bool true) (by kernel_rfl) (fun _ => by kernel_rfl) ?_
         refine T.pure (.bool true) (by kernel_rfl) (fun _ => by kernel_rfl) ?_
         refine T.pass (by kernel_rfl) (by kernel_rfl) ?_
         refine T.pass (by kernel_rfl) (by kernel_rfl) ?_
         refine T.pass (by kernel_rfl) (by kernel_rfl) ?_
         refine T.pass (by kernel_rfl) (by kernel_rfl) ?_
         refine T.pure (.bool true) (by kernel_rfl) (fun _ => by kernel_rfl) ?_
         refine T.pure (.bool true) (by kernel_rfl) (fun _ => by kernel_rfl) ?_
         refine T.pass (by kernel_rfl) (by kernel_rfl) ?_
         refine T.pass (by kernel_rfl) (by kernel_rfl) ?_
         refine T.pass (by kernel_rfl) (by kernel_rfl) ?_
         refine T.pass (by kernel_rfl) (by kernel_rfl) ?_
         refine T.pass (by kernel_rfl) (by kernel_rfl) ?_
         refine T.pure (.bool true) (by kernel_rfl) (fun _ => by kernel_rfl) ?_
         refine T.nil ?_
         cases hX4
         exact fun a w' hf hh => Exists.intro V7 (And.intro (View.le_refl _) (And.intro (((((((Fr.nil hf).pick hf 60 rfl).pick hf 8 rfl).pick hf 7 rfl).pick hf 4 rfl).pick hf 2 rfl).pick hf 1 rfl) (hh.sub (.cons_cons _ (.cons_cons _ (.cons_cons _ (.cons_cons _ List.Sublist.slnil)))))))
       ·
        rintro a w' ⟨V8, hV8, hf, hh⟩
        refine (?_ : T 91 w V8 [box b9 58 [.int .i64 r7.1.kind, .string r7.1.body], row 9 eStr A3 c3 x3, box b2 25 [.slice none 0 0, .slice none 0 0], box b1 25 [.slice A3 x3.length c3, .slice none 0 0]] [(1, .pointer (some ⟨b1, 0, none⟩)), (2, .pointer (some ⟨b2, 0, none⟩)), (4, .int .i64 r1.1), (7, .int .i64 x4), (8, .pointer (some ⟨b9, 0, none⟩)), (60, .bool z7)] _) a w' hf hh
        clear hf hh
        refine T.cond z7 (by kernel_rfl) (by kernel_rfl) (fun hc5 => ?_) (fun hc5 => ?_)
        ·
         rw [hc5, cond_true] at hX3
         refine T.exit ?_
         cases hX3
         exact fun a w' hf hh => Exists.intro V8 (And.intro (View.le_trans hV7 hV8) (And.intro (((((Fr.nil hf).pick hf 7 rfl).pick hf 4 rfl).pick hf 2 rfl).pick hf 1 rfl) (hh.sub (.cons _ (.cons_cons _ (.cons_cons _ (.cons_cons _ List.Sublist.slnil)))))))
        ·
         rw [hc5, cond_false] at hX3
         refine T.skip_code ?_
         obtain ⟨z8, hX5, hX3⟩ := Option.bind_eq_some_iff.1 hX3
         refine T.cut (fun a w' => ∃ (V10 : View), View.le V8 V10 ∧ Fr 91 [(1, .pointer (some ⟨b1, 0, none⟩)), (2, .pointer (some ⟨b2, 0, none⟩)), (4, .int .i64 r1.1), (7, .int .i64 x4)] a ∧ Hp w V10 [row 9 eStr A3 c3 z8, box b2 25 [.slice none 0 0, .slice none 0 0], box b1 25 [.slice A3 z8.length c3, .slice none 0 0]] w') ?_ ?_
         ·
          refine T.seq ?_
          refine T.region ?_
          refine T.pure (.pointer (some ⟨b9, 1, none⟩)) (by kernel_rfl) (fun _ => by kernel_rfl) ?_
          refine T.look (.string r7.1.body) (by kernel_rfl) (fun w' hh => exec_load1 rfl rfl (by kernel_rfl) (hh.cellBox (i := 0) (by rfl) 1)) ?_
          obtain ⟨s3, hb9, hX5⟩ := Option.bind_eq_some_iff.1 hX5
          refine T.look (.string s3) (by kernel_rfl) (fun w' hh => exec_slice_str_lo rfl rfl rfl (by kernel_rfl) hb9) ?_
          obtain ⟨r9, hb10, hX5⟩ := Option.bind_eq_some_iff.1 hX5
          refine T.step (W1.call (vSc eInt) r9 29 #[.string s3] (by kernel_rfl) (fun _ => by kernel_rfl) (fun w' hh => undo_number_l F s3 r9 hb10 w' ) ?_)
          intro u V11 hV11 hu
          obtain rfl := sureInt _ _ _ hu
          refine T.pure (.int .i64 r9) (by kernel_rfl) (fun _ => by kernel_rfl) ?_
          refine T.nil ?_
          obtain ⟨z9, hX6, hX5⟩ := Option.bind_eq_some_iff.1 hX5
          refine T.cut (fun a w' => ∃ (V12 : View), View.le V11 V12 ∧ Fr 91 [(1, .pointer (some ⟨b1, 0, none⟩)), (2, .pointer (some ⟨b2, 0, none⟩)), (4, .int .i64 r1.1), (7, .int .i64 x4), (8, .pointer (some ⟨b9, 0, none⟩)), (11, .int .i64 r9), (78, .bool z9)] a ∧ Hp w V12 [box b9 58 [.int .i64 r7.1.kind, .string r7.1.body], row 9 eStr A3 c3 x3, box b2 25 [.slice none 0 0, .slice none 0 0], box b1 25 [.slice A3 x3.length c3, .slice none 0 0]] w') ?_ ?_
          ·
           refine T.region ?_
           refine T.pure (.pointer (some ⟨b9, 1, none⟩)) (by kernel_rfl) (fun _ => by kernel_rfl) ?_
           refine T.look (.string r7.1.body) (by kernel_rfl) (fun w' hh => exec_load1 rfl rfl (by kernel_rfl) (hh.cellBox (i := 0) (by rfl) 1)) ?_
           obtain ⟨r10, hb11, hX6⟩ := Option.bind_eq_some_iff.1 hX6
           refine T.step (W1.call (vSc eInt) r10 29 #[.string r7.1.body] (by kernel_rfl) (fun _ => by kernel_rfl) (fun w' hh => undo_number_l F r7.1.body r10 hb11 w' ) ?_)
           intro u V13 hV13 hu
           obtain rfl := sureInt _ _ _ hu
           refine T.pure (.int .i64 r1.1) (by kernel_rfl) (fun _ => by kernel_rfl) ?_
           refine T.pure (.int .i64 (IntKind.i64.wrap (r1.1 + 1))) (by kernel_rfl) (fun _ => by kernel_rfl) ?_
           refine T.pure (.bool (r10 == (IntKind.i64.wrap (r1.1 + 1)))) (by kernel_rfl) (fun _ => by kernel_rfl) ?_
           refine T.pure (.bool (r10 == (IntKind.i64.wrap (r1.1 + 1)))) (by kernel_rfl) (fun _ => by kernel_rfl) ?_
           cases hg4 : (r10 == (IntKind.i64.wrap (r1.1 + 1)))
           ·
            skip
            rw [hg4, cond_false] at hX6
            refine T.pass (by kernel_rfl) (by kernel_rfl) ?_
            refine T.pass (by kernel_rfl) (by kernel_rfl) ?_
            refine T.pure (.bool false) (by kernel_rfl) (fun _ => by kernel_rfl) ?_
            refine T.pure (.bool false) (by kernel_rfl) (fun _ => by kernel_rfl) ?_
            refine T.pass (by kernel_rfl) (by kernel_rfl) ?_
            refine T.pass (by kernel_rfl) (by kernel_rfl) ?_
            refine T.pure (.bool false) (by kernel_rfl) (fun _ => by kernel_rfl) ?_
            refine T.nil ?_
            cases hX6
            exact fun a w' hf hh => Exists.intro V13 (And.intro hV13 (And.intro ((((((((Fr.nil hf).pick hf 78 rfl).pick hf 11 rfl).pick hf 8 rfl).pick hf 7 rfl).pick hf 4 rfl).pick hf 2 rfl).pick hf 1 rfl) (hh.sub (.cons_cons _ (.cons_cons _ (.cons_cons _ (.cons_cons _ List.Sublist.slnil)))))))
           ·
            skip
            rw [hg4, cond_true] at hX6
            refine T.pure (.int .i64 r9) (by kernel_rfl) (fun _ => by kernel_rfl) ?_
            refine T.pure (.bool (decide ((1 : Int) ≤ r9))) (by kernel_rfl) (fun _ => by kernel_rfl) ?_
            refine T.pure (.bool (decide ((1 : Int) ≤ r9))) (by kernel_rfl) (fun _ => by kernel_rfl) ?_
            refine T.pure (.bool (decide ((1 : Int) ≤ r9))) (by kernel_rfl) (fun _ => by kernel_rfl) ?_
            cases hg5 : decide ((1 : Int) ≤ r9)
            ·
             skip
             rw [hg5, cond_false] at hX6
             refine T.pass (by kernel_rfl) (by kernel_rfl) ?_
             refine T.pass (by kernel_rfl) (by kernel_rfl) ?_
             refine T.pure (.bool false) (by kernel_rfl) (fun _ => by kernel_rfl) ?_
             refine T.nil ?_
             cases hX6
             exact fun a w' hf hh => Exists.intro V13 (And.intro hV13 (And.intro ((((((((Fr.nil hf).pick hf 78 rfl).pick hf 11 rfl).pick hf 8 rfl).pick hf 7 rfl).pick hf 4 rfl).pick hf 2 rfl).pick hf 1 rfl) (hh.sub (.cons_cons _ (.cons_cons _ (.cons_cons _ (.cons_cons _ List.Sublist.slnil)))))))
            ·
             skip
             rw [hg5, cond_true] at hX6
             refine T.pure (.int .i64 r9) (by kernel_rfl) (fun _ => by kernel_rfl) ?_
             refine T.pure (.bool (decide (r9 < 101))) (by kernel_rfl) (fun _ => by kernel_rfl) ?_
             refine T.pure (.bool (decide (r9 < 101))) (by kernel_rfl) (fun _ => by kernel_rfl) ?_
             refine T.nil ?_
             cases hX6
             exact fun a w' hf hh => Exists.intro V13 (And.intro hV13 (And.intro ((((((((Fr.nil hf).pick hf 78 rfl).pick hf 11 rfl).pick hf 8 rfl).pick hf 7 rfl).pick hf 4 rfl).pick hf 2 rfl).pick hf 1 rfl) (hh.sub (.cons_cons _ (.cons_cons _ (.cons_cons _ (.cons_cons _ List.Sublist.slnil)))))))
          ·
           rintro a w' ⟨V12, hV12, hf, hh⟩
           refine (?_ : T 91 w V12 [box b9 58 [.int .i64 r7.1.kind, .string r7.1.body], row 9 eStr A3 c3 x3, box b2 25 [.slice none 0 0, .slice none 0 0], box b1 25 [.slice A3 x3.length c3, .slice none 0 0]] [(1, .pointer (some ⟨b1, 0, none⟩)), (2, .pointer (some ⟨b2, 0, none⟩)), (4, .int .i64 r1.1), (7, .int .i64 x4), (8, .pointer (some ⟨b9, 0, none⟩)), (11, .int .i64 r9), (78, .bool z9)] _) a w' hf hh
           clear hf hh
           refine T.cond z9 (by kernel_rfl) (by kernel_rfl) (fun hc6 => ?_) (fun hc6 => ?_)
           ·
            rw [hc6, cond_true] at hX5
            refine T.held [box b9 58 [.int .i64 r7.1.kind, .string r7.1.body], box b2 25 [.slice none 0 0, .slice none 0 0], box b1 25 [.slice A3 x3.length c3, .slice none 0 0]] (by kernel_rfl) ?_
            refine TA.take 0 (.pointer (some ⟨b1, 0, none⟩)) rfl (by kernel_rfl) (by kernel_rfl) (by kernel_rfl) (fun _ _ _ h => h) (Hp.old (View.le_refl _) (View.le_trans (View.le_trans (View.le_trans (View.le_trans (View.le_trans (View.le_trans hV1 hV2) hV4) hV7) hV8) hV11) hV12) (.cons_cons _ (.cons _ (.cons_cons _ (.cons_cons _ List.Sublist.slnil)))) (OldAll.box (OldAll.box (OldAll.box OldAll.nil)))) (by kernel_rfl) (fun _ _ => by kernel_rfl) ?_
            refine TA.take 1 (.slice A3 x3.length c3) rfl (by kernel_rfl) (by kernel_rfl) (by kernel_rfl) (fun _ _ _ h => h) (Hp.old (View.le_refl _) (View.le_trans (View.le_trans (View.le_trans (View.le_trans (View.le_trans (View.le_trans hV1 hV2) hV4) hV7) hV8) hV11) hV12) (.cons_cons _ (.cons _ (.cons_cons _ (.cons_cons _ List.Sublist.slnil)))) (OldAll.box (OldAll.box (OldAll.box OldAll.nil)))) (by kernel_rfl) (fun w' hh => exec_load1 rfl rfl (by kernel_rfl) (hh.cellBox (i := 2) (by rfl) 0)) ?_
            refine TA.take 2 (.int .i64 r9) rfl (by kernel_rfl) (by kernel_rfl) (by kernel_rfl) (fun _ _ _ h => h) (Hp.old (View.le_refl _) (View.le_trans (View.le_trans (View.le_trans (View.le_trans (View.le_trans (View.le_trans hV1 hV2) hV4) hV7) hV8) hV11) hV12) (.cons_cons _ (.cons _ (.cons_cons _ (.cons_cons _ List.Sublist.slnil)))) (OldAll.box (OldAll.box (OldAll.box OldAll.nil)))) (by kernel_rfl) (fun _ _ => by kernel_rfl) ?_
            refine TA.take 3 (.pointer (some ⟨b9, 1, none⟩)) rfl (by kernel_rfl) (by kernel_rfl) (by kernel_rfl) (fun _ _ _ h => h) (Hp.old (View.le_refl _) (View.le_trans (View.le_trans (View.le_trans (View.le_trans (View.le_trans (View.le_trans hV1 hV2) hV4) hV7) hV8) hV11) hV12) (.cons_cons _ (.cons _ (.cons_cons _ (.cons_cons _ List.Sublist.slnil)))) (OldAll.box (OldAll.box (OldAll.box OldAll.nil)))) (by kernel_rfl) (fun _ _ => by kernel_rfl) ?_
            refine TA.take 4 (.string r7.1.body) rfl (by kernel_rfl) (by kernel_rfl) (by kernel_rfl) (fun _ _ _ h => h) (Hp.old (View.le_refl _) (View.le_trans (View.le_trans (View.le_trans (View.le_trans (View.le_trans (View.le_trans hV1 hV2) hV4) hV7) hV8) hV11) hV12) (.cons_cons _ (.cons _ (.cons_cons _ (.cons_cons _ List.Sublist.slnil)))) (OldAll.box (OldAll.box (OldAll.box OldAll.nil)))) (by kernel_rfl) (fun w' hh => exec_load1 rfl rfl (by kernel_rfl) (hh.cellBox (i := 0) (by rfl) 1)) ?_
            obtain ⟨s4, hb12, hX5⟩ := Option.bind_eq_some_iff.1 hX5
            refine TA.take 5 (.string s4) rfl (by kernel_rfl) (by kernel_rfl) (by kernel_rfl) (fun _ _ _ h => h) (Hp.old (View.le_refl _) (View.le_trans (View.le_trans (View.le_trans (View.le_trans (View.le_trans (View.le_trans hV1 hV2) hV4) hV7) hV8) hV11) hV12) (.cons_cons _ (.cons _ (.cons_cons _ (.cons_cons _ List.Sublist.slnil)))) (OldAll.box (OldAll.box (OldAll.box OldAll.nil)))) (by kernel_rfl) (fun w' hh => exec_slice_str_lo rfl rfl rfl (by kernel_rfl) hb12) ?_
            refine TA.all [6] (by kernel_rfl) rfl ⟨?_, trivial⟩
            obtain ⟨e4, hb13, hX5⟩ := Option.bind_eq_some_iff.1 hX5
            obtain ⟨hi10, hi11, hi12⟩ := idx_some hb13
            refine TA.br rfl (W1.look (.pointer (some ((sadr A3).add (r9.toNat * 1)))) (by kernel_rfl) (fun w' hh => exec_indexAddr (e := 9) (s := 1) rfl rfl rfl (by kernel_rfl) (by kernel_rfl) hi10 hi11 ((hh.row_slOk (i := 1) (by rfl)).some_ hi12 (by decide))) ?_)
            refine TA.on (Hp.old (View.le_refl _) (View.le_trans (View.le_trans (View.le_trans (View.le_trans (View.le_trans (View.le_trans hV1 hV2) hV4) hV7) hV8) hV11) hV12) (.cons_cons _ (.cons _ (.cons_cons _ (.cons_cons _ List.Sublist.slnil)))) (OldAll.box (OldAll.box (OldAll.box OldAll.nil)))) ?_
            refine TA.all [7] (by kernel_rfl) rfl ⟨?_, trivial⟩
            refine TA.br rfl (W1.storeRow (E := eStr) 1 (r9.toNat) 0 e4 s4 _ (vs := [.string s4]) (by rfl) (by kernel_rfl) rfl rfl (addr_add0 _).symm rfl rfl (fun _ => by kernel_rfl) (one_of rfl) hi12 (Nat.le_of_ble_eq_true (by kernel_rfl)) (fun _ _ h => by cases h; rfl) ?_)
            refine TA.on (Hp.old (View.le_refl _) (View.le_trans (View.le_trans (View.le_trans (View.le_trans (View.le_trans (View.le_trans hV1 hV2) hV4) hV7) hV8) hV11) hV12) (.cons_cons _ (.cons _ (.cons_cons _ (.cons_cons _ List.Sublist.slnil)))) (OldAll.box (OldAll.box (OldAll.box OldAll.nil)))) ?_
            refine T.reslot 80 (.slice A3 ((x3.set r9.toNat s4).length) c3) rfl (by simp only [List.length_set]) ?_
            refine T.reH (H' := [box b9 58 [.int .i64 r7.1.kind, .string r7.1.body], row 9 eStr A3 c3 (x3.set r9.toNat s4), box b2 25 [.slice none 0 0, .slice none 0 0], box b1 25 [.slice A3 ((x3.set r9.toNat s4).length) c3, .slice none 0 0]]) (by first | (simp only [List.length_set]; done) | (simp only [List.length_set]; rfl)) ?_
            refine TA.done (by kernel_rfl) ?_
            cases hX5
            exact fun a w' hf hh => Exists.intro V12 (And.intro (View.le_trans hV11 hV12) (And.intro (((((Fr.nil hf).pick hf 7 rfl).pick hf 4 rfl).pick hf 2 rfl).pick hf 1 rfl) (hh.sub (.cons _ (.cons_cons _ (.cons_cons _ (.cons_cons _ List.Sublist.slnil)))))))
           ·
            rw [hc6, cond_false] at hX5
            refine T.skip_code ?_
            cases hX5
            exact fun a w' hf hh => Exists.intro V12 (And.intro (View.le_trans hV11 hV12) (And.intro (((((Fr.nil hf).pick hf 7 rfl).pick hf 4 rfl).pick hf 2 rfl).pick hf 1 rfl) (hh.sub (.cons _ (.cons_cons _ (.cons_cons _ (.cons_cons _ List.Sublist.slnil)))))))
         ·
          rintro a w' ⟨V10, hV10, hf, hh⟩
          refine (?_ : T 91 w V10 [row 9 eStr A3 c3 z8, box b2 25 [.slice none 0 0, .slice none 0 0], box b1 25 [.slice A3 z8.length c3, .slice none 0 0]] [(1, .pointer (some ⟨b1, 0, none⟩)), (2, .pointer (some ⟨b2, 0, none⟩)), (4, .int .i64 r1.1), (7, .int .i64 x4)] _) a w' hf hh
          clear hf hh
          refine T.region ?_
          refine T.pure (.pointer (some ⟨b1, 0, none⟩)) (by kernel_rfl) (fun _ => by kernel_rfl) ?_
          refine T.look (.slice A3 z8.length c3) (by kernel_rfl) (fun w' hh => exec_load1 rfl rfl (by kernel_rfl) (hh.cellBox (i := 2) (by rfl) 0)) ?_
          refine T.pure (.int .i64 x4) (by kernel_rfl) (fun _ => by kernel_rfl) ?_
          obtain ⟨e5, hb14, hX3⟩ := Option.bind_eq_some_iff.1 hX3
          obtain ⟨hi13, hi14, hi15⟩ := idx_some hb14
          refine T.look (.pointer (some ((sadr A3).add (x4.toNat * 1)))) (by kernel_rfl) (fun w' hh => exec_indexAddr (e := 9) (s := 1) rfl rfl rfl (by kernel_rfl) (by kernel_rfl) hi13 hi14 ((hh.row_slOk (i := 0) (by rfl)).some_ hi15 (by decide))) ?_
          refine T.step (W1.storeRow (E := eStr) 0 (x4.toNat) 0 e5 (ByteArray.mk #[]) _ (vs := [.string (ByteArray.mk #[])]) (by rfl) (by kernel_rfl) rfl rfl (addr_add0 _).symm rfl rfl (fun _ => by kernel_rfl) (one_of rfl) hi15 (Nat.le_of_ble_eq_true (by kernel_rfl)) (fun _ _ h => by cases h; rfl) ?_)
          refine T.reslot 87 (.slice A3 ((z8.set x4.toNat (ByteArray.mk #[])).length) c3) rfl (by simp only [List.length_set]) ?_
          refine T.reH (H' := [row 9 eStr A3 c3 (z8.set x4.toNat (ByteArray.mk #[])), box b2 25 [.slice none 0 0, .slice none 0 0], box b1 25 [.slice A3 ((z8.set x4.toNat (ByteArray.mk #[])).length) c3, .slice none 0 0]]) (by first | (simp only [List.length_set]; done) | (simp only [List.length_set]; rfl)) ?_
          refine T.nil ?_
          cases hX3
          exact fun a w' hf hh => Exists.intro V10 (And.intro (View.le_trans (View.le_trans hV7 hV8) hV10) (And.intro (((((Fr.nil hf).pick hf 7 rfl).pick hf 4 rfl).pick hf 2 rfl).pick hf 1 rfl) (hh.sub (.cons_cons _ (.cons_cons _ (.cons_cons _ List.Sublist.slnil))))))
      ·
       rintro a w' ⟨V6, hV6, hf, hh⟩
       refine (?_ : T 91 w V6 [row 9 eStr A3 c3 z6, box b2 25 [.slice none 0 0, .slice none 0 0], box b1 25 [.slice A3 z6.length c3, .slice none 0 0]] [(1, .pointer (some ⟨b1, 0, none⟩)), (2, .pointer (some ⟨b2, 0, none⟩)), (4, .int .i64 r1.1), (7, .int .i64 x4)] _) a w' hf hh
       clear hf hh
       refine T.region ?_
       refine T.pure (.int .i64 x4) (by kernel_rfl) (fun _ => by kernel_rfl) ?_
       refine T.pure (.int .i64 (IntKind.i64.wrap (x4 + 1))) (by kernel_rfl) (fun _ => by kernel_rfl) ?_
       refine T.pure (.int .i64 (IntKind.i64.wrap (x4 + 1))) (by kernel_rfl) (fun _ => by kernel_rfl) ?_
       refine T.nil ?_
       cases hY2
       exact fun a w' hf hh => Exists.intro (z6, IntKind.i64.wrap (x4 + 1)) (And.intro rfl (Exists.intro z6 (Exists.intro (IntKind.i64.wrap (x4 + 1)) (And.intro rfl (Exists.intro V6 (And.intro (View.le_trans hV4 hV6) (And.intro (((((Fr.nil hf).pick hf 7 rfl).pick hf 4 rfl).pick hf 2 rfl).pick hf 1 rfl) (hh.sub (.cons_cons _ (.cons_cons _ (.cons_cons _ List.Sublist.slnil)))))))))))
     ·
      rw [hc4, cond_false] at hY2
      refine T.exit ?_
      cases hY2
      cases (hr2 _ rfl)
      exact fun a w' hf hh => Exists.intro V4 (And.intro hV4 (And.intro (((Fr.nil hf).pick hf 2 rfl).pick hf 1 rfl) (hh.sub (.cons_cons _ (.cons_cons _ (.cons_cons _ List.Sublist.slnil))))))
   ·
    rintro a w' ⟨V5, hV5, hf, hh⟩
    refine (?_ : T 91 w V5 [row 9 eStr A3 c3 z5, box b2 25 [.slice none 0 0, .slice none 0 0], box b1 25 [.slice A3 z5.length c3, .slice none 0 0]] [(1, .pointer (some ⟨b1, 0, none⟩)), (2, .pointer (some ⟨b2, 0, none⟩))] _) a w' hf hh
    clear hf hh
    refine T.seq ?_
    refine T.region ?_
    refine T.look (.agg #[.slice A3 z5.length c3, .slice none 0 0]) (by kernel_rfl) (fun w' hh => exec_loadN (cs := [.slice A3 z5.length c3, .slice none 0 0]) rfl rfl (by kernel_rfl) (by kernel_rfl) (fun j u hj => (hh.box_at (i := 2) (cs := [.slice A3 z5.length c3, .slice none 0 0]) (by rfl) 0 j).trans (seg_at (n := 2) (by rfl) hj))) ?_
    refine T.step (W1.store 1 [.slice A3 z5.length c3, .slice none 0 0] [row 9 eStr A3 c3 z5, box b2 25 [.slice A3 z5.length c3, .slice none 0 0], box b1 25 [.slice A3 z5.length c3, .slice none 0 0]] (by rfl) rfl (by kernel_rfl) (fun w' hw => exec_store (vs := [.slice A3 z5.length c3, .slice none 0 0]) rfl rfl rfl rfl (by kernel_rfl) (one_of rfl) (by simp) rfl hw) ?_)
    refine T.pure (.int .i64 0) (by kernel_rfl) (fun _ => by kernel_rfl) ?_
    refine T.nil ?_
    refine T.rownil 29 eWrite ?_
    cases hF
    refine T.ret rfl ?_
    first | exact T.ret2 rfl (ResIs.cellN 2 rfl (by rfl) (fun _ => by kernel_rfl) (fun _ => by kernel_rfl)) (ResIs.tmp rfl) fun w' hh => ⟨(A3, c3, none, 0), rfl, trivial, gives_of (Hp.sub (H' := [row 9 eStr A3 c3 z5, row 29 eWrite none 0 ([] : List DWrite)]) (hh.perm (List.Perm.trans (List.Perm.swap _ _ _) (List.Perm.refl _))) (List.sublist_append_left _ _)) ⟨flat_row (fun _ _ _ _ h => h), flat_row (fun _ _ _ _ h => h), trivial⟩⟩ | (unfold Exit.then; dsimp only; exact T.ret2 rfl (ResIs.cellN 2 rfl (by rfl) (fun _ => by kernel_rfl) (fun _ => by kernel_rfl)) (ResIs.tmp rfl) fun w' hh => ⟨(A3, c3, none, 0), rfl, trivial, gives_of (Hp.sub (H' := [row 9 eStr A3 c3 z5, row 29 eWrite none 0 ([] : List DWrite)]) (hh.perm (List.Perm.trans (List.Perm.swap _ _ _) (List.Perm.refl _))) (List.sublist_append_left _ _)) ⟨flat_row (fun _ _ _ _ h => h), flat_row (fun _ _ _ _ h => h), trivial⟩⟩)

end Go.Proofs.Ytjhkfonoobmecaa
