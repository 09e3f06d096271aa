/- The Go functions of group Feed compute the pure functions of that group: written by walkgen.py. Condition of each: the pure function yields a result. -/
import Derived.Test.YtiomghobbcgkdaaRealmL
import Derived.Test.YtiomghobbcgkdaaStreamL
import Derived.Test.YtiomghobbcgkdaaFeedF
import Derived.Test.YtiomghobbcgkdaaEqL
namespace Go.Proofs.Ytiomghobbcgkdaa
set_option linter.unusedVariables false

set_option maxRecDepth 100000 in
set_option maxHeartbeats 4000000 in
theorem realm_Feed_l (F : Nat) (p0 : DBook) (p1 : ByteArray) (r : DBook × Int) (hF : realm_Feed F p0 p1 = some r) (w : World) (A1 : Option Addr) (c1 : Nat) (hs1 : SlOk (vw w) eElem A1 c1 p0.run) :
    Calls Try.prog 12 #[.agg (List.toArray ((.slice A1 p0.run.length c1) :: (DA16.cells p0.roles ++ (DA16.cells p0.fed)))), .string p1] w (Post (vT2 (vAg eBook) (vSc eInt)) r w) := by
 unfold realm_Feed at hF
 refine T.start (l := [.agg (List.toArray ((.slice A1 p0.run.length c1) :: (DA16.cells p0.roles ++ (DA16.cells p0.fed)))), .string p1]) Try.func12 rfl rfl rfl ?_
 refine T.seq ?_
 refine T.region ?_
 refine T.step (W1.new 26 ((.slice A1 p0.run.length c1) :: (DA16.cells p0.roles ++ (DA16.cells p0.fed))) (fun b => .pointer (some ⟨b, 0, none⟩)) (by kernel_rfl) (fun _ => by kernel_rfl) (fun b1 => ?_))
 refine T.step (W1.new 26 ((.slice none 0 0) :: (DA16.cells (DA16.mk 0 0 0 0 0 0 0 0 0 0 0 0 0 0 0 0) ++ (DA16.cells (DA16.mk 0 0 0 0 0 0 0 0 0 0 0 0 0 0 0 0)))) (fun b => .pointer (some ⟨b, 0, none⟩)) (by kernel_rfl) (fun _ => by kernel_rfl) (fun b2 => ?_))
 refine T.pure (.int .i64 0) (by kernel_rfl) (fun _ => by kernel_rfl) ?_
 refine T.nil ?_
 refine T.seq ?_
 refine T.seq ?_
 refine T.region ?_
 refine T.look (.agg (List.toArray ((.slice A1 p0.run.length c1) :: (DA16.cells p0.roles ++ (DA16.cells p0.fed))))) (by kernel_rfl) (fun w' hh => exec_loadN (cs := ((.slice A1 p0.run.length c1) :: (DA16.cells p0.roles ++ (DA16.cells p0.fed)))) rfl rfl (by kernel_rfl) (by kernel_rfl) (fun j u hj => (hh.box_at (i := 1) (cs := ((.slice A1 p0.run.length c1) :: (DA16.cells p0.roles ++ (DA16.cells p0.fed)))) (by rfl) 0 j).trans (seg_at (n := 33) (by rfl) hj))) ?_
 obtain ⟨r1, hb1, hF⟩ := Option.bind_eq_some_iff.1 hF
 refine T.step (W1.call (vSc eInt) r1 35 #[.agg (List.toArray ((.slice A1 p0.run.length c1) :: (DA16.cells p0.roles ++ (DA16.cells p0.fed))))] (by kernel_rfl) (fun _ => by kernel_rfl) (fun w' hh => realm_Check_l F p0 r1 hb1 w' A1 c1 (SlOk.mono hs1 hh.view)) ?_)
 intro u V1 hV1 hu
 obtain rfl := sureInt _ _ _ hu
 refine T.pure (.int .i64 r1) (by kernel_rfl) (fun _ => by kernel_rfl) ?_
 refine T.nil ?_
 refine T.seq ?_
 refine T.region ?_
 refine T.pure (.int .i64 r1) (by kernel_rfl) (fun _ => by kernel_rfl) ?_
 refine T.pure (.bool (r1 != 0)) (by kernel_rfl) (fun _ => by kernel_rfl) ?_
 refine T.nil ?_
 refine T.cond (r1 != 0) (by kernel_rfl) (by kernel_rfl) (fun hc1 => ?_) (fun hc1 => ?_)
 ·
  rw [hc1, cond_true] at hF
  refine T.seq ?_
  refine T.region ?_
  refine T.pure (.agg (List.toArray ((.slice none 0 0) :: (DA16.cells (DA16.mk 0 0 0 0 0 0 0 0 0 0 0 0 0 0 0 0) ++ (DA16.cells (DA16.mk 0 0 0 0 0 0 0 0 0 0 0 0 0 0 0 0)))))) (by kernel_rfl) (fun _ => by kernel_rfl) ?_
  refine T.pure (.int .i64 r1) (by kernel_rfl) (fun _ => by kernel_rfl) ?_
  refine T.step (W1.store 0 ((.slice none 0 0) :: (DA16.cells (DA16.mk 0 0 0 0 0 0 0 0 0 0 0 0 0 0 0 0) ++ (DA16.cells (DA16.mk 0 0 0 0 0 0 0 0 0 0 0 0 0 0 0 0)))) [box b2 26 ((.slice none 0 0) :: (DA16.cells (DA16.mk 0 0 0 0 0 0 0 0 0 0 0 0 0 0 0 0) ++ (DA16.cells (DA16.mk 0 0 0 0 0 0 0 0 0 0 0 0 0 0 0 0)))), box b1 26 ((.slice A1 p0.run.length c1) :: (DA16.cells p0.roles ++ (DA16.cells p0.fed)))] (by rfl) rfl (by kernel_rfl) (fun w' hw => exec_store (vs := ((.slice none 0 0) :: (DA16.cells (DA16.mk 0 0 0 0 0 0 0 0 0 0 0 0 0 0 0 0) ++ (DA16.cells (DA16.mk 0 0 0 0 0 0 0 0 0 0 0 0 0 0 0 0))))) rfl rfl rfl rfl (by kernel_rfl) (one_of rfl) (Nat.le_of_ble_eq_true (by rfl)) rfl hw) ?_)
  refine T.pure (.int .i64 r1) (by kernel_rfl) (fun _ => by kernel_rfl) ?_
  refine T.nil ?_
  cases hF
  refine T.ret rfl ?_
  exact T.ret2 rfl (ResIs.cellN 0 rfl (by rfl) (fun _ => by kernel_rfl) (fun _ => by kernel_rfl)) (ResIs.tmp rfl) fun w' hh => ⟨_, rfl, hh.below, (vT2.mk (vAg.mk ⟨_, _, rfl, (SlOk.nil _ _)⟩) (show _ from rfl))⟩
 ·
  rw [hc1, cond_false] at hF
  refine T.skip_code ?_
  refine T.seq ?_
  refine T.region ?_
  refine T.pure (.string p1) (by kernel_rfl) (fun _ => by kernel_rfl) ?_
  obtain ⟨r2, hb2, hF⟩ := Option.bind_eq_some_iff.1 hF
  refine T.step (W1.call (vT2 (vAg estream_Parsed) (vSc eInt)) r2 62 #[.string p1] (by kernel_rfl) (fun _ => by kernel_rfl) (fun w' hh => stream_Parse_l F p1 r2 hb2 w' ) ?_)
  intro u V2 hV2 hu
  obtain ⟨u1, u2, rfl, hu1, hu2⟩ := vT2_elim hu
  obtain ⟨cs1, rfl, hr1⟩ := vagg_elim hu1
  obtain ⟨A2, c2, rfl, hs2⟩ := hr1
  obtain rfl := sureInt _ _ _ hu2
  refine T.pure (.tuple #[.agg #[.int .i64 r2.1.pfs, .int .i64 r2.1.from_, .int .i64 r2.1.to, .slice A2 r2.1.elems.length c2], .int .i64 r2.2]) (by kernel_rfl) (fun _ => by kernel_rfl) ?_
  refine T.pure (.agg #[.int .i64 r2.1.pfs, .int .i64 r2.1.from_, .int .i64 r2.1.to, .slice A2 r2.1.elems.length c2]) (by kernel_rfl) (fun _ => by kernel_rfl) ?_
  refine T.pure (.int .i64 r2.2) (by kernel_rfl) (fun _ => by kernel_rfl) ?_
  refine T.step (W1.new 109 [.int .i64 0, .int .i64 0, .int .i64 0, .slice none 0 0] (fun b => .pointer (some ⟨b, 0, none⟩)) (by kernel_rfl) (fun _ => by kernel_rfl) (fun b3 => ?_))
  refine T.step (W1.store 0 [.int .i64 r2.1.pfs, .int .i64 r2.1.from_, .int .i64 r2.1.to, .slice A2 r2.1.elems.length c2] [box b3 109 [.int .i64 r2.1.pfs, .int .i64 r2.1.from_, .int .i64 r2.1.to, .slice A2 r2.1.elems.length c2], box b2 26 ((.slice none 0 0) :: (DA16.cells (DA16.mk 0 0 0 0 0 0 0 0 0 0 0 0 0 0 0 0) ++ (DA16.cells (DA16.mk 0 0 0 0 0 0 0 0 0 0 0 0 0 0 0 0)))), box b1 26 ((.slice A1 p0.run.length c1) :: (DA16.cells p0.roles ++ (DA16.cells p0.fed)))] (by rfl) rfl (by kernel_rfl) (fun w' hw => exec_store (vs := [.int .i64 r2.1.pfs, .int .i64 r2.1.from_, .int .i64 r2.1.to, .slice A2 r2.1.elems.length c2]) rfl rfl rfl rfl (by kernel_rfl) (one_of rfl) (by simp) rfl hw) ?_)
  refine T.pure (.int .i64 r2.2) (by kernel_rfl) (fun _ => by kernel_rfl) ?_
  refine T.nil ?_
  refine T.seq ?_
  refine T.seq ?_
  refine T.region ?_
  refine T.pure (.int .i64 r2.2) (by kernel_rfl) (fun _ => by kernel_rfl) ?_
  refine T.pure (.bool (r2.2 != 0)) (by kernel_rfl) (fun _ => by kernel_rfl) ?_
  refine T.nil ?_
  refine T.cond (r2.2 != 0) (by kernel_rfl) (by kernel_rfl) (fun hc2 => ?_) (fun hc2 => ?_)
  ·
   rw [hc2, cond_true] at hF
   refine T.seq ?_
   refine T.region ?_
   refine T.pure (.agg (List.toArray ((.slice none 0 0) :: (DA16.cells (DA16.mk 0 0 0 0 0 0 0 0 0 0 0 0 0 0 0 0) ++ (DA16.cells (DA16.mk 0 0 0 0 0 0 0 0 0 0 0 0 0 0 0 0)))))) (by kernel_rfl) (fun _ => by kernel_rfl) ?_
   refine T.pure (.int .i64 r2.2) (by kernel_rfl) (fun _ => by kernel_rfl) ?_
   refine T.step (W1.store 1 ((.slice none 0 0) :: (DA16.cells (DA16.mk 0 0 0 0 0 0 0 0 0 0 0 0 0 0 0 0) ++ (DA16.cells (DA16.mk 0 0 0 0 0 0 0 0 0 0 0 0 0 0 0 0)))) [box b3 109 [.int .i64 r2.1.pfs, .int .i64 r2.1.from_, .int .i64 r2.1.to, .slice A2 r2.1.elems.length c2], box b2 26 ((.slice none 0 0) :: (DA16.cells (DA16.mk 0 0 0 0 0 0 0 0 0 0 0 0 0 0 0 0) ++ (DA16.cells (DA16.mk 0 0 0 0 0 0 0 0 0 0 0 0 0 0 0 0)))), box b1 26 ((.slice A1 p0.run.length c1) :: (DA16.cells p0.roles ++ (DA16.cells p0.fed)))] (by rfl) rfl (by kernel_rfl) (fun w' hw => exec_store (vs := ((.slice none 0 0) :: (DA16.cells (DA16.mk 0 0 0 0 0 0 0 0 0 0 0 0 0 0 0 0) ++ (DA16.cells (DA16.mk 0 0 0 0 0 0 0 0 0 0 0 0 0 0 0 0))))) rfl rfl rfl rfl (by kernel_rfl) (one_of rfl) (Nat.le_of_ble_eq_true (by rfl)) rfl hw) ?_)
   refine T.pure (.int .i64 r2.2) (by kernel_rfl) (fun _ => by kernel_rfl) ?_
   refine T.nil ?_
   cases hF
   refine T.ret rfl ?_
   exact T.ret2 rfl (ResIs.cellN 1 rfl (by rfl) (fun _ => by kernel_rfl) (fun _ => by kernel_rfl)) (ResIs.tmp rfl) fun w' hh => ⟨_, rfl, hh.below, (vT2.mk (vAg.mk ⟨_, _, rfl, (SlOk.nil _ _)⟩) (show _ from rfl))⟩
  ·
   rw [hc2, cond_false] at hF
   refine T.skip_code ?_
   refine T.seq ?_
   refine T.seq ?_
   refine T.region ?_
   refine T.pure (.pointer (some ⟨b3, 0, none⟩)) (by kernel_rfl) (fun _ => by kernel_rfl) ?_
   refine T.look (.int .i64 r2.1.pfs) (by kernel_rfl) (fun w' hh => exec_load1 rfl rfl (by kernel_rfl) (hh.cellBox (i := 0) (by rfl) 0)) ?_
   refine T.pure (.pointer (some ⟨b1, 1, none⟩)) (by kernel_rfl) (fun _ => by kernel_rfl) ?_
   obtain ⟨e1, hb3, hF⟩ := Option.bind_eq_some_iff.1 hF
   obtain ⟨hi1, hi2, hi3⟩ := idx_some hb3
   refine T.look (.pointer (some ((⟨b1, 1, none⟩ : Addr).add (r2.1.pfs.toNat * 1)))) (by kernel_rfl) (fun w' hh => exec_arrAddr (e := 3) rfl rfl rfl (by kernel_rfl) (by kernel_rfl) hi1 hi2) ?_
   refine T.look (.int .i64 e1) (by kernel_rfl) (fun w' hh => exec_load1 rfl rfl (by kernel_rfl) (hh.arr_at (i := 2) (by rfl) 1 p0.roles rfl hi3)) ?_
   refine T.pure (.bool (e1 != 2)) (by kernel_rfl) (fun _ => by kernel_rfl) ?_
   refine T.nil ?_
   refine T.cond (e1 != 2) (by kernel_rfl) (by kernel_rfl) (fun hc3 => ?_) (fun hc3 => ?_)
   ·
    rw [hc3, cond_true] at hF
    refine T.seq ?_
    refine T.region ?_
    refine T.pure (.agg (List.toArray ((.slice none 0 0) :: (DA16.cells (DA16.mk 0 0 0 0 0 0 0 0 0 0 0 0 0 0 0 0) ++ (DA16.cells (DA16.mk 0 0 0 0 0 0 0 0 0 0 0 0 0 0 0 0)))))) (by kernel_rfl) (fun _ => by kernel_rfl) ?_
    refine T.step (W1.store 1 ((.slice none 0 0) :: (DA16.cells (DA16.mk 0 0 0 0 0 0 0 0 0 0 0 0 0 0 0 0) ++ (DA16.cells (DA16.mk 0 0 0 0 0 0 0 0 0 0 0 0 0 0 0 0)))) [box b3 109 [.int .i64 r2.1.pfs, .int .i64 r2.1.from_, .int .i64 r2.1.to, .slice A2 r2.1.elems.length c2], box b2 26 ((.slice none 0 0) :: (DA16.cells (DA16.mk 0 0 0 0 0 0 0 0 0 0 0 0 0 0 0 0) ++ (DA16.cells (DA16.mk 0 0 0 0 0 0 0 0 0 0 0 0 0 0 0 0)))), box b1 26 ((.slice A1 p0.run.length c1) :: (DA16.cells p0.roles ++ (DA16.cells p0.fed)))] (by rfl) rfl (by kernel_rfl) (fun w' hw => exec_store (vs := ((.slice none 0 0) :: (DA16.cells (DA16.mk 0 0 0 0 0 0 0 0 0 0 0 0 0 0 0 0) ++ (DA16.cells (DA16.mk 0 0 0 0 0 0 0 0 0 0 0 0 0 0 0 0))))) rfl rfl rfl rfl (by kernel_rfl) (one_of rfl) (Nat.le_of_ble_eq_true (by rfl)) rfl hw) ?_)
    refine T.pure (.int .i64 10) (by kernel_rfl) (fun _ => by kernel_rfl) ?_
    refine T.nil ?_
    cases hF
    refine T.ret rfl ?_
    exact T.ret2 rfl (ResIs.cellN 1 rfl (by rfl) (fun _ => by kernel_rfl) (fun _ => by kernel_rfl)) (ResIs.tmp rfl) fun w' hh => ⟨_, rfl, hh.below, (vT2.mk (vAg.mk ⟨_, _, rfl, (SlOk.nil _ _)⟩) (show _ from rfl))⟩
   ·
    rw [hc3, cond_false] at hF
    refine T.skip_code ?_
    refine T.seq ?_
    refine T.seq ?_
    refine T.quiet (by kernel_rfl) (by kernel_rfl) ?_
    refine TQ.pure (.pointer (some ⟨b3, 1, none⟩)) (by kernel_rfl) (fun _ => by kernel_rfl) ?_
    refine TQ.look (.int .i64 r2.1.from_) (by kernel_rfl) (fun w' hh => exec_load1 rfl rfl (by kernel_rfl) (hh.cellBox (i := 0) (by rfl) 1)) ?_
    refine TQ.pure (.pointer (some ⟨b3, 0, none⟩)) (by kernel_rfl) (fun _ => by kernel_rfl) ?_
    refine TQ.look (.int .i64 r2.1.pfs) (by kernel_rfl) (fun w' hh => exec_load1 rfl rfl (by kernel_rfl) (hh.cellBox (i := 0) (by rfl) 0)) ?_
    refine TQ.pure (.pointer (some ⟨b1, 17, none⟩)) (by kernel_rfl) (fun _ => by kernel_rfl) ?_
    obtain ⟨e2, hb4, hF⟩ := Option.bind_eq_some_iff.1 hF
    obtain ⟨hi4, hi5, hi6⟩ := idx_some hb4
    refine TQ.look (.pointer (some ((⟨b1, 17, none⟩ : Addr).add (r2.1.pfs.toNat * 1)))) (by kernel_rfl) (fun w' hh => exec_arrAddr (e := 3) rfl rfl rfl (by kernel_rfl) (by kernel_rfl) hi4 hi5) ?_
    refine TQ.look (.int .i64 e2) (by kernel_rfl) (fun w' hh => exec_load1 rfl rfl (by kernel_rfl) (hh.arr_at (i := 2) (by rfl) 17 p0.fed rfl hi6)) ?_
    refine TQ.pure (.bool (r2.1.from_ != e2)) (by kernel_rfl) (fun _ => by kernel_rfl) ?_
    refine TQ.nil ?_
    refine T.cond (r2.1.from_ != e2) (by kernel_rfl) (by kernel_rfl) (fun hc4 => ?_) (fun hc4 => ?_)
    ·
     rw [hc4, cond_true] at hF
     refine T.seq ?_
     refine T.region ?_
     refine T.pure (.agg (List.toArray ((.slice none 0 0) :: (DA16.cells (DA16.mk 0 0 0 0 0 0 0 0 0 0 0 0 0 0 0 0) ++ (DA16.cells (DA16.mk 0 0 0 0 0 0 0 0 0 0 0 0 0 0 0 0)))))) (by kernel_rfl) (fun _ => by kernel_rfl) ?_
     refine T.step (W1.store 1 ((.slice none 0 0) :: (DA16.cells (DA16.mk 0 0 0 0 0 0 0 0 0 0 0 0 0 0 0 0) ++ (DA16.cells (DA16.mk 0 0 0 0 0 0 0 0 0 0 0 0 0 0 0 0)))) [box b3 109 [.int .i64 r2.1.pfs, .int .i64 r2.1.from_, .int .i64 r2.1.to, .slice A2 r2.1.elems.length c2], box b2 26 ((.slice none 0 0) :: (DA16.cells (DA16.mk 0 0 0 0 0 0 0 0 0 0 0 0 0 0 0 0) ++ (DA16.cells (DA16.mk 0 0 0 0 0 0 0 0 0 0 0 0 0 0 0 0)))), box b1 26 ((.slice A1 p0.run.length c1) :: (DA16.cells p0.roles ++ (DA16.cells p0.fed)))] (by rfl) rfl (by kernel_rfl) (fun w' hw => exec_store (vs := ((.slice none 0 0) :: (DA16.cells (DA16.mk 0 0 0 0 0 0 0 0 0 0 0 0 0 0 0 0) ++ (DA16.cells (DA16.mk 0 0 0 0 0 0 0 0 0 0 0 0 0 0 0 0))))) rfl rfl rfl rfl (by kernel_rfl) (one_of rfl) (Nat.le_of_ble_eq_true (by rfl)) rfl hw) ?_)
     refine T.pure (.int .i64 9) (by kernel_rfl) (fun _ => by kernel_rfl) ?_
     refine T.nil ?_
     cases hF
     refine T.ret rfl ?_
     exact T.ret2 rfl (ResIs.cellN 1 rfl (by rfl) (fun _ => by kernel_rfl) (fun _ => by kernel_rfl)) (ResIs.tmp rfl) fun w' hh => ⟨_, rfl, hh.below, (vT2.mk (vAg.mk ⟨_, _, rfl, (SlOk.nil _ _)⟩) (show _ from rfl))⟩
    ·
     rw [hc4, cond_false] at hF
     refine T.skip_code ?_
     refine T.seq ?_
     refine T.region ?_
     refine T.pure (.pointer (some ⟨b1, 0, none⟩)) (by kernel_rfl) (fun _ => by kernel_rfl) ?_
     refine T.look (.slice A1 p0.run.length c1) (by kernel_rfl) (fun w' hh => exec_load1 rfl rfl (by kernel_rfl) (hh.cellBox (i := 2) (by rfl) 0)) ?_
     refine T.pure (.string p1) (by kernel_rfl) (fun _ => by kernel_rfl) ?_
     obtain ⟨r3, hb5, hF⟩ := Option.bind_eq_some_iff.1 hF
     refine T.step (W1.call (vT2 (vSc (eList eElem)) (vSc eInt)) r3 63 #[.slice A1 p0.run.length c1, .string p1] (by kernel_rfl) (fun _ => by kernel_rfl) (fun w' hh => stream_Feed_l F p0.run p1 r3 hb5 w' A1 c1 (SlOk.mono (SlOk.mono hs1 (View.le_trans hV1 hV2)) hh.view)) ?_)
     intro u V3 hV3 hu
     obtain ⟨u3, u4, rfl, hu3, hu4⟩ := vT2_elim hu
     obtain ⟨A3, c3, rfl, hs3⟩ := vlist_elim hu3
     obtain rfl := sureInt _ _ _ hu4
     refine T.pure (.tuple #[.slice A3 r3.1.length c3, .int .i64 r3.2]) (by kernel_rfl) (fun _ => by kernel_rfl) ?_
     refine T.pure (.slice A3 r3.1.length c3) (by kernel_rfl) (fun _ => by kernel_rfl) ?_
     refine T.pure (.int .i64 r3.2) (by kernel_rfl) (fun _ => by kernel_rfl) ?_
     refine T.pure (.slice A3 r3.1.length c3) (by kernel_rfl) (fun _ => by kernel_rfl) ?_
     refine T.pure (.int .i64 r3.2) (by kernel_rfl) (fun _ => by kernel_rfl) ?_
     refine T.nil ?_
     refine T.seq ?_
     refine T.seq ?_
     refine T.region ?_
     refine T.pure (.int .i64 r3.2) (by kernel_rfl) (fun _ => by kernel_rfl) ?_
     refine T.pure (.bool (r3.2 != 0)) (by kernel_rfl) (fun _ => by kernel_rfl) ?_
     refine T.nil ?_
     refine T.cond (r3.2 != 0) (by kernel_rfl) (by kernel_rfl) (fun hc5 => ?_) (fun hc5 => ?_)
     ·
      rw [hc5, cond_true] at hF
      refine T.seq ?_
      refine T.region ?_
      refine T.pure (.agg (List.toArray ((.slice none 0 0) :: (DA16.cells (DA16.mk 0 0 0 0 0 0 0 0 0 0 0 0 0 0 0 0) ++ (DA16.cells (DA16.mk 0 0 0 0 0 0 0 0 0 0 0 0 0 0 0 0)))))) (by kernel_rfl) (fun _ => by kernel_rfl) ?_
      refine T.pure (.int .i64 r3.2) (by kernel_rfl) (fun _ => by kernel_rfl) ?_
      refine T.step (W1.store 1 ((.slice none 0 0) :: (DA16.cells (DA16.mk 0 0 0 0 0 0 0 0 0 0 0 0 0 0 0 0) ++ (DA16.cells (DA16.mk 0 0 0 0 0 0 0 0 0 0 0 0 0 0 0 0)))) [box b3 109 [.int .i64 r2.1.pfs, .int .i64 r2.1.from_, .int .i64 r2.1.to, .slice A2 r2.1.elems.length c2], box b2 26 ((.slice none 0 0) :: (DA16.cells (DA16.mk 0 0 0 0 0 0 0 0 0 0 0 0 0 0 0 0) ++ (DA16.cells (DA16.mk 0 0 0 0 0 0 0 0 0 0 0 0 0 0 0 0)))), box b1 26 ((.slice A1 p0.run.length c1) :: (DA16.cells p0.roles ++ (DA16.cells p0.fed)))] (by rfl) rfl (by kernel_rfl) (fun w' hw => exec_store (vs := ((.slice none 0 0) :: (DA16.cells (DA16.mk 0 0 0 0 0 0 0 0 0 0 0 0 0 0 0 0) ++ (DA16.cells (DA16.mk 0 0 0 0 0 0 0 0 0 0 0 0 0 0 0 0))))) rfl rfl rfl rfl (by kernel_rfl) (one_of rfl) (Nat.le_of_ble_eq_true (by rfl)) rfl hw) ?_)
      refine T.pure (.int .i64 r3.2) (by kernel_rfl) (fun _ => by kernel_rfl) ?_
      refine T.nil ?_
      cases hF
      refine T.ret rfl ?_
      exact T.ret2 rfl (ResIs.cellN 1 rfl (by rfl) (fun _ => by kernel_rfl) (fun _ => by kernel_rfl)) (ResIs.tmp rfl) fun w' hh => ⟨_, rfl, hh.below, (vT2.mk (vAg.mk ⟨_, _, rfl, (SlOk.nil _ _)⟩) (show _ from rfl))⟩
     ·
      rw [hc5, cond_false] at hF
      refine T.skip_code ?_
      refine T.seq ?_
      refine T.region ?_
      refine T.pure (.slice A3 r3.1.length c3) (by kernel_rfl) (fun _ => by kernel_rfl) ?_
      refine T.pure (.pointer (some ⟨b1, 0, none⟩)) (by kernel_rfl) (fun _ => by kernel_rfl) ?_
      refine T.step (W1.store 2 ((.slice A3 r3.1.length c3) :: (DA16.cells p0.roles ++ (DA16.cells p0.fed))) [box b3 109 [.int .i64 r2.1.pfs, .int .i64 r2.1.from_, .int .i64 r2.1.to, .slice A2 r2.1.elems.length c2], box b2 26 ((.slice none 0 0) :: (DA16.cells (DA16.mk 0 0 0 0 0 0 0 0 0 0 0 0 0 0 0 0) ++ (DA16.cells (DA16.mk 0 0 0 0 0 0 0 0 0 0 0 0 0 0 0 0)))), box b1 26 ((.slice A3 r3.1.length c3) :: (DA16.cells p0.roles ++ (DA16.cells p0.fed)))] (by rfl) rfl (by kernel_rfl) (fun w' hw => exec_store (vs := [.slice A3 r3.1.length c3]) rfl rfl rfl rfl (by kernel_rfl) (one_of rfl) (Nat.le_of_ble_eq_true (by rfl)) rfl hw) ?_)
      refine T.nil ?_
      refine T.seq ?_
      refine T.region ?_
      refine T.pure (.pointer (some ⟨b3, 0, none⟩)) (by kernel_rfl) (fun _ => by kernel_rfl) ?_
      refine T.look (.int .i64 r2.1.pfs) (by kernel_rfl) (fun w' hh => exec_load1 rfl rfl (by kernel_rfl) (hh.cellBox (i := 0) (by rfl) 0)) ?_
      refine T.pure (.pointer (some ⟨b3, 2, none⟩)) (by kernel_rfl) (fun _ => by kernel_rfl) ?_
      refine T.look (.int .i64 r2.1.to) (by kernel_rfl) (fun w' hh => exec_load1 rfl rfl (by kernel_rfl) (hh.cellBox (i := 0) (by rfl) 2)) ?_
      refine T.pure (.pointer (some ⟨b1, 17, none⟩)) (by kernel_rfl) (fun _ => by kernel_rfl) ?_
      obtain ⟨e3, hb6, hF⟩ := Option.bind_eq_some_iff.1 hF
      obtain ⟨hi7, hi8, hi9⟩ := idx_some hb6
      refine T.look (.pointer (some ((⟨b1, 17, none⟩ : Addr).add (r2.1.pfs.toNat * 1)))) (by kernel_rfl) (fun w' hh => exec_arrAddr (e := 3) rfl rfl rfl (by kernel_rfl) (by kernel_rfl) hi7 hi8) ?_
      refine T.step (W1.store 2 ((.slice A3 r3.1.length c3) :: (DA16.cells p0.roles ++ (DA16.cells (DA16.set p0.fed r2.1.pfs.toNat r2.1.to)))) [box b3 109 [.int .i64 r2.1.pfs, .int .i64 r2.1.from_, .int .i64 r2.1.to, .slice A2 r2.1.elems.length c2], box b2 26 ((.slice none 0 0) :: (DA16.cells (DA16.mk 0 0 0 0 0 0 0 0 0 0 0 0 0 0 0 0) ++ (DA16.cells (DA16.mk 0 0 0 0 0 0 0 0 0 0 0 0 0 0 0 0)))), box b1 26 ((.slice A3 r3.1.length c3) :: (DA16.cells p0.roles ++ (DA16.cells (DA16.set p0.fed r2.1.pfs.toNat r2.1.to))))] (by rfl) rfl (by kernel_rfl) (fun w' hw => exec_storeArr (off := 17) p0.fed rfl rfl rfl (by kernel_rfl) (by have := hi8; have e16 : p0.fed.list.length = 16 := rfl; omega) rfl rfl (Nat.le_of_ble_eq_true (by rfl)) hw) ?_)
      refine T.nil ?_
      refine T.seq ?_
      refine T.region ?_
      refine T.look (.agg (List.toArray ((.slice A3 r3.1.length c3) :: (DA16.cells p0.roles ++ (DA16.cells (DA16.set p0.fed r2.1.pfs.toNat r2.1.to)))))) (by kernel_rfl) (fun w' hh => exec_loadN (cs := ((.slice A3 r3.1.length c3) :: (DA16.cells p0.roles ++ (DA16.cells (DA16.set p0.fed r2.1.pfs.toNat r2.1.to))))) rfl rfl (by kernel_rfl) (by kernel_rfl) (fun j u hj => (hh.box_at (i := 2) (cs := ((.slice A3 r3.1.length c3) :: (DA16.cells p0.roles ++ (DA16.cells (DA16.set p0.fed r2.1.pfs.toNat r2.1.to))))) (by rfl) 0 j).trans (seg_at (n := 33) (by rfl) hj))) ?_
      refine T.step (W1.store 1 ((.slice A3 r3.1.length c3) :: (DA16.cells p0.roles ++ (DA16.cells (DA16.set p0.fed r2.1.pfs.toNat r2.1.to)))) [box b3 109 [.int .i64 r2.1.pfs, .int .i64 r2.1.from_, .int .i64 r2.1.to, .slice A2 r2.1.elems.length c2], box b2 26 ((.slice A3 r3.1.length c3) :: (DA16.cells p0.roles ++ (DA16.cells (DA16.set p0.fed r2.1.pfs.toNat r2.1.to)))), box b1 26 ((.slice A3 r3.1.length c3) :: (DA16.cells p0.roles ++ (DA16.cells (DA16.set p0.fed r2.1.pfs.toNat r2.1.to))))] (by rfl) rfl (by kernel_rfl) (fun w' hw => exec_store (vs := ((.slice A3 r3.1.length c3) :: (DA16.cells p0.roles ++ (DA16.cells (DA16.set p0.fed r2.1.pfs.toNat r2.1.to))))) rfl rfl rfl rfl (by kernel_rfl) (one_of rfl) (Nat.le_of_ble_eq_true (by rfl)) rfl hw) ?_)
      refine T.pure (.int .i64 0) (by kernel_rfl) (fun _ => by kernel_rfl) ?_
      refine T.nil ?_
      cases hF
      refine T.ret rfl ?_
      exact T.ret2 rfl (ResIs.cellN 1 rfl (by rfl) (fun _ => by kernel_rfl) (fun _ => by kernel_rfl)) (ResIs.tmp rfl) fun w' hh => ⟨_, rfl, hh.below, (vT2.mk (vAg.mk ⟨_, _, rfl, (SlOk.mono hs3 (View.le_trans (made_mono (View.le_refl _)) (made_fresh hh)))⟩) (show _ from rfl))⟩

end Go.Proofs.Ytiomghobbcgkdaa
